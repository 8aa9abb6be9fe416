import Derived.Test.YtmaijkoopjocdaaGreatKT03
import Derived.Test.YtmaijkoopjocdaaGreatKT17
import Derived.Test.YtmaijkoopjocdaaGreatKT19
import Derived.Laws.BytesArg
import Derived.Lib.Bytes
import Derived.Test.YtmaijkoopjocdaaGreatKT39
import Derived.Test.YtmaijkoopjocdaaGreatKT51
import Derived.Test.YtmaijkoopjocdaaGreatKT20
import Derived.Test.YtmaijkoopjocdaaGreatKT50
import Derived.Test.YtmaijkoopjocdaaGreatKT53
import Derived.Deep.DeepCutAuto
import Derived.Deep.Slices
import Derived.Deep.Fields
import Derived.ChangeSame
import Derived.OpenShut
set_option maxRecDepth 100000
set_option maxHeartbeats 64000000
namespace Go.Proofs.YtmaijkoopjocdaaGreat
open Go Go.Lib
theorem akD {m:aB}:∀{H:List aB},u9 H→mz m.seq H=false→u9 (yE m H)
 | [],_,_=>List.pairwise_singleton _ _
 |x::t,ha,hq=>by
  have hc:=List.pairwise_cons.1 ha;simp only [mz,List.any_cons,Bool.or_eq_false_iff]at hq;have hne:x.seq≠m.seq:=by simpa using hq.1
  have ih:=akD hc.2 hq.2;unfold yE at ih⊢;by_cases hx:x.seq<m.seq
  ·have hd:decide (x.seq<m.seq)=true:=decide_eq_true hx
   rw [List.takeWhile_cons,List.dropWhile_cons,hd];refine List.pairwise_cons.2 ⟨fun y hy=>?_,ih⟩;have Ce:=(ZT m t).mem_iff.1 (show y∈yE m t from hy);rcases List.mem_cons.1 Ce with rfl|Ce
   ·exact hx
   ·exact hc.1 y Ce
  ·have hd:decide (x.seq<m.seq)=false:=decide_eq_false hx
   rw [List.takeWhile_cons,List.dropWhile_cons,hd];refine List.pairwise_cons.2 ⟨fun y hy=>?_,ha⟩;simp only [Bool.false_eq_true,if_false]at hy;rcases List.mem_cons.1 hy with rfl|hy
   ·omega
   ·have:=hc.1 y hy;omega
end Go.Proofs.YtmaijkoopjocdaaGreat
namespace Go.Proofs.YtmaijkoopjocdaaGreat
open Go.RowKit Go.Lib
section
variable {W w w':World} {pv n:Nat} {hv:Value} {s:jn}
theorem akG (h:fq W w pv n hv s):Calls Tryz.prog 19 #[.pointer (some ⟨pv,0,none⟩)] w fun e w'=>e= .returned (.int .i64 s.H.length)∧w=w':=by
 obtain⟨a,c,hb,_⟩:=h.box;obtain⟨jC,ch,rfl⟩:=h.held.form;have e7:w.cell? ⟨pv,3,none⟩=some (.slice jC s.H.length ch):=hb.cell 3;clear hb h;go_enter Tryz.func19,Tryz.ntmps19
 go_wp2_with fail
 go_ret;exact⟨by trivial,by trivial⟩
end
section
variable {W w w':World} {pr c8 kP:Nat} {v:Value} {acc:bP} {x y:eI} {t t':cg}
theorem Js.right (h:Js W w pr c8 kP v acc x y t) (yt:c8≠kP) (np:pr≠kP) (hb:W.heap.size≤kP) (s:eI):Js W (Da w kP (.slice s.a s.n s.c) (.int .i64 s.im.ag) (.int .i64 s.im.ah) (.int .i64 s.im.count) (.bool s.has)) pr c8 kP v acc x s t:=by
 have hk:=aD.Da w kP (.slice s.a s.n s.c) (.int .i64 s.im.ag) (.int .i64 s.im.ah) (.int .i64 s.im.count) (.bool s.has);exact⟨h.rd.keep hk np (fun b hb e=>hb.ne h.bo.aC (by decide) e) (fun k hk=>by have hk2:k=kP:=hk;rw [hk2];exact hb),h.cY.keeps hk yt,h.fG.Ls hk (fun g hg e=>h.j8 g hg e) (fun g hg e=>hg.ne h.bo.aC (by decide) e),h.j8,h.bo.Da _ _ _ _ _⟩
end
end Go.Proofs.YtmaijkoopjocdaaGreat
namespace Go.Proofs.YtmaijkoopjocdaaGreat
open Go Go.Lib
section
variable {n:Nat} {M:List aB} {s:jn}
theorem akR:aj6 n M (qY n):=⟨⟨0,rfl,Nat.zero_le _,rfl⟩,List.Pairwise.nil,fun m hm=>by cases hm⟩
theorem akr (og:Num n M):∀(H:List aB) (j:Nat),j≤M.length→u9 H→(∀m∈H,∃i:Nat,M[i]? =some m)→
 aj6 n M (oB H (vm n M j) j)∧(j:Int)≤(oB H (vm n M j) j).seq∧∀x,x∈(oB H (vm n M j) j).H↔x∈H∧(oB H (vm n M j) j).seq<x.seq
 | [],j,hj,_,_=>⟨⟨⟨j,rfl,hj,rfl⟩,List.Pairwise.nil,fun m hm=>by cases hm⟩,Int.le_refl _,fun x=>by simp [oB]⟩
 |m::t,j,hj,ha,hh=>by
  have hc:=List.pairwise_cons.1 ha;obtain⟨i,hi⟩:=hh m (List.mem_cons_self ..);have ZM:=(og i m hi).1;have hil:=(List.getElem?_eq_some_iff.1 hi).1;have ht:∀x∈t,∃i:Nat,M[i]? =some x:=fun x hx=>hh x (List.mem_cons_of_mem _ hx);unfold oB;by_cases h1:m.seq-1≤(j:Int)
  ·rw [if_pos h1]
   by_cases h2:m.seq-1=(j:Int)
   ·rw [if_pos h2]
    have hij:i=j:=by omega
    subst hij;have e1:m.seq=((i+1:Nat):Int):=by omega
    rw [←ahV (n:=n) hi,e1];obtain⟨r1,r2,fV⟩:=akr og t (i+1) (by omega) hc.2 ht;refine⟨r1,by omega,fun x=>?_⟩;rw [fV x];constructor
    ·rintro⟨h3,h4⟩;exact⟨List.mem_cons_of_mem _ h3,h4⟩
    ·rintro⟨h3,h4⟩
     rcases List.mem_cons.1 h3 with rfl|h3
     ·omega
     ·exact⟨h3,h4⟩
   ·rw [if_neg h2]
    obtain⟨r1,r2,fV⟩:=akr og t j hj hc.2 ht;refine⟨r1,r2,fun x=>?_⟩;rw [fV x];constructor
    ·rintro⟨h3,h4⟩;exact⟨List.mem_cons_of_mem _ h3,h4⟩
    ·rintro⟨h3,h4⟩
     rcases List.mem_cons.1 h3 with rfl|h3
     ·omega
     ·exact⟨h3,h4⟩
  ·rw [if_neg h1]
   refine⟨⟨⟨j,rfl,hj,rfl⟩,ha,fun x hx=>⟨hh x hx,?_⟩⟩,Int.le_refl _,fun x=>⟨fun hx=>⟨hx,?_⟩,fun hx=>hx.1⟩⟩
   ·dsimp only
    rcases List.mem_cons.1 hx with rfl|hx
    ·omega
    ·have:=hc.1 x hx;omega
   ·dsimp only at hx⊢
    rcases List.mem_cons.1 hx with rfl|hx
    ·omega
    ·have:=hc.1 x hx;omega
theorem aks (og:Num n M):∀(H:List aB) (j:Nat),j≤M.length→u9 H→(∀m∈H,∃i:Nat,M[i]? =some m)→∀(k:Nat) (x:aB),M[k]? =some x→(j:Int)<x.seq→x.seq≤(oB H (vm n M j) j).seq→x∈H
 | [],j,_,_,_,k,x,_,h1,h2=>by
   have:(oB [] (vm n M j) (j:Int)).seq=j:=rfl;omega
 |m::t,j,hj,ha,hh,k,x,hk,h1,h2=>by
  have hc:=List.pairwise_cons.1 ha;obtain⟨i,hi⟩:=hh m (List.mem_cons_self ..);have ZM:=(og i m hi).1;have hxs:=(og k x hk).1;have hil:=(List.getElem?_eq_some_iff.1 hi).1;have ht:∀x∈t,∃i:Nat,M[i]? =some x:=fun x hx=>hh x (List.mem_cons_of_mem _ hx);unfold oB at h2;by_cases e1:m.seq-1≤(j:Int)
  ·rw [if_pos e1]at h2
   by_cases e2:m.seq-1=(j:Int)
   ·rw [if_pos e2]at h2
    have hij:i=j:=by omega
    subst hij;by_cases hki:k=i
    ·subst hki
     rw [hi]at hk;injection hk with hk;rw [←hk];exact List.mem_cons_self ..
    ·have bE:m.seq=((i+1:Nat):Int):=by omega
     rw [←ahV (n:=n) hi,bE]at h2;exact List.mem_cons_of_mem _ (aks og t (i+1) (by omega) hc.2 ht k x hk (by omega) h2)
   ·rw [if_neg e2]at h2
    exact List.mem_cons_of_mem _ (aks og t j hj hc.2 ht k x hk h1 h2)
  ·rw [if_neg e1]at h2
   dsimp only at h2;omega
theorem akS (og:Num n M) (hs:aj6 n M s) (hl:s.H.length<4096) {i:Nat} {m:aB} (hi:M[i]? =some m):
 ((m.seq≤s.seq∨m∈s.H)∧rS n s (j6 m)=(33,s))∨
 (m.seq=s.seq+1∧m ∉ s.H∧(rS n s (j6 m)).1=0∧aj6 n M (rS n s (j6 m)).2∧m.seq≤(rS n s (j6 m)).2.seq∧(∀x,x∈(rS n s (j6 m)).2.H↔x∈s.H∧(rS n s (j6 m)).2.seq<x.seq)∧∀(k:Nat) (x:aB),M[k]? =some x→m.seq<x.seq→x.seq≤(rS n s (j6 m)).2.seq→x∈s.H)∨
 (s.seq+1<m.seq∧m ∉ s.H∧(rS n s (j6 m)).1=32∧aj6 n M (rS n s (j6 m)).2∧(rS n s (j6 m)).2.seq=s.seq∧(∀x,x∈(rS n s (j6 m)).2.H↔x=m∨x∈s.H)∧(rS n s (j6 m)).2.H.length=s.H.length+1):=by
 obtain⟨ZM,hmo⟩:=og i m hi;have hil:=(List.getElem?_eq_some_iff.1 hi).1;have hd:ol (j6 m)=some m:=Lw hmo.o hmo.f.sd
 have hh:mz m.seq s.H=true↔m∈s.H:=by
  unfold mz;rw [List.any_eq_true];constructor
  ·rintro⟨x,hx,he⟩
   obtain⟨k,hk⟩:=(hs.h x hx).1;have h1:=(og k x hk).1;have h2:x.seq=m.seq:=by simpa using he
   have h3:k=i:=by omega
   subst h3;rw [hi]at hk;injection hk with hk;rw [hk];exact hx
  ·intro hm;exact⟨m,hm,by simp⟩
 have hn:¬(m.seq<1∨x8 n m=false):=by
  rintro(h|h)
  ·omega
  ·rw [ZL hmo]at h;cases h
 by_cases h1:m.seq≤s.seq∨m∈s.H
 ·refine .inl ⟨h1,?_⟩
  unfold rS;rw [hd];dsimp only;rw [if_neg hn,if_pos (by rcases h1 with h|h;exact .inl h;exact .inr (hh.2 h))]
 ·have h2:¬(m.seq≤s.seq∨mz m.seq s.H=true):=fun h=>h1 (by rcases h with h|h;exact .inl h;exact .inr (hh.1 h))
  have h3:m ∉ s.H:=fun h=>h1 (.inr h);have h4:¬m.seq≤s.seq:=fun h=>h1 (.inl h);by_cases h5:m.seq-1=s.seq
  ·refine .inr (.inl ⟨by omega,h3,?_⟩)
   have e:rS n s (j6 m)=(0,oB s.H (fO m s.V) m.seq):=by
    unfold rS;rw [hd];dsimp only;rw [if_neg hn,if_neg h2,if_pos h5]
   obtain⟨j,rN,hj2,Oi⟩:=hs.q;have hij:i=j:=by omega
   subst hij;have e2:m.seq=((i+1:Nat):Int):=by omega
   rw [e,Oi,←ahV hi,e2];dsimp only;obtain⟨r1,r2,fV⟩:=akr og s.H (i+1) (by omega) hs.a (fun x hx=>(hs.h x hx).1);exact⟨rfl,r1,r2,fV,aks og s.H (i+1) (by omega) hs.a (fun x hx=>(hs.h x hx).1)⟩
  ·refine .inr (.inr ⟨by omega,h3,?_⟩)
   have e:rS n s (j6 m)=(32,⟨s.V,s.seq,yE m s.H⟩):=by
    unfold rS;rw [hd];dsimp only;rw [if_neg hn,if_neg h2,if_neg h5,if_neg (by omega)]
   rw [e];dsimp only;have hp:=ZT m s.H;refine⟨rfl,⟨hs.q,akD hs.a ?_,fun x hx=>?_⟩,rfl,fun x=>?_,R1 m s.H⟩
   ·cases hx:mz m.seq s.H with
    |false=>rfl
    |true=>exact absurd (.inr hx) h2
   ·rcases List.mem_cons.1 (hp.mem_iff.1 hx)with rfl|hx
    ·exact⟨⟨i,hi⟩,by dsimp only;omega⟩
    ·exact hs.h x hx
   ·rw [hp.mem_iff,List.mem_cons]
end
theorem akC:∀{l k:List Nat},l.Pairwise (·<·)→k.Pairwise (·<·)→(∀x,x∈l↔x∈k)→l=k
 | [],[],_,_,_=>rfl
 | [],b::k,_,_,h=>by have:=(h b).2 (List.mem_cons_self ..);cases this
 |a::l,[],_,_,h=>by have:=(h a).1 (List.mem_cons_self ..);cases this
 |a::l,b::k,hl,hk,h=>by
  have B8:=List.pairwise_cons.1 hl;have Nz:=List.pairwise_cons.1 hk
  have hab:a=b:=by
   have h1:=(h a).1 (List.mem_cons_self ..);have h2:=(h b).2 (List.mem_cons_self ..);rcases List.mem_cons.1 h1 with h1|h1
   ·exact h1
   ·rcases List.mem_cons.1 h2 with h2|h2
    ·exact h2.symm
    ·have:=Nz.1 a h1
     have:=B8.1 b h2;omega
  subst hab
  congr 1
  refine akC B8.2 Nz.2 fun x=>?_;have hx:=h x;constructor
  ·intro h1
   have h2:=hx.1 (List.mem_cons_of_mem _ h1);rcases List.mem_cons.1 h2 with rfl|h2
   ·have:=B8.1 x h1;omega
   ·exact h2
  ·intro h1
   have h2:=hx.2 (List.mem_cons_of_mem _ h1);rcases List.mem_cons.1 h2 with rfl|h2
   ·have:=Nz.1 x h1;omega
   ·exact h2
structure u3 (n:Nat) (M:List aB) (D:List Bool) (s:jn):Prop where
 st:aj6 n M s
 len:D.length=M.length+2
 had:∀(i:Nat) (m:aB),M[i]? =some m→(D[i+1]? =some true↔m.seq≤s.seq∨m∈s.H)
section
variable {n:Nat} {M:List aB} {D:List Bool} {s:jn}
theorem akI (n:Nat) (og:Num n M):u3 n M (List.replicate (M.length+2) false) (qY n):=by
 refine⟨akR,List.length_replicate,fun i m hi=>?_⟩;have h1:=(og i m hi).1;rw [List.getElem?_replicate];constructor
 ·intro h
  split at h
  ·cases h
  ·cases h
 ·rintro(h|h)
  ·have:m.seq≤0:=h
   omega
  ·cases h
theorem u3.low (og:Num n M) (h:u3 n M D s) {i:Nat} (hi:(i:Int)<s.seq):D[i+1]? =some true:=by
 obtain⟨j,h1,h2,_⟩:=h.st.q;have hl:i<M.length:=by omega
 have hg:M[i]? =some M[i]:=List.getElem?_eq_getElem hl;exact(h.had i _ hg).2 (.inl (by have:=(og i _ hg).1;omega))
theorem u3.next (og:Num n M) (h:u3 n M D s) {i:Nat} (hi:(i:Int)=s.seq) (hl:i<M.length):D[i+1]? =some false:=by
 have hg:M[i]? =some M[i]:=List.getElem?_eq_getElem hl;have h1:=(og i _ hg).1
 have h2:¬D[i+1]? =some true:=fun e=>by
  rcases(h.had i _ hg).1 e with h3|h3
  ·omega
  ·have:=(h.st.h _ h3).2;omega
 have h3:i+1<D.length:=by rw [h.len];omega
 rw [List.getElem?_eq_getElem h3]at h2⊢;cases hb:D[i+1]with
 |false=>rfl
 |true=>rw [hb]at h2;exact absurd rfl h2
def u4 (D:List Bool) (j t:Nat):Nat:=((List.range t).filter (fun i=>decide (j≤i)&&D.getD (i+1) false)).length
theorem akO (D:List Bool) (j t:Nat) (h:j≤t):u4 D j (t+1)=u4 D j t+(if D.getD (t+1) false=true then 1 else 0):=by
 unfold u4;rw [List.range_succ,List.filter_append,List.length_append]
 congr 1
 by_cases hd:D.getD (t+1) false=true
 ·rw [if_pos hd,List.filter_cons_of_pos (by rw [hd,decide_eq_true h];rfl)];rfl
 ·rw [if_neg hd,List.filter_cons_of_neg (by rw [Bool.and_eq_true];exact fun e=>hd e.2)];rfl
theorem akM (D:List Bool) (j:Nat):u4 D j j=0:=by
 unfold u4;rw [List.length_eq_zero_iff,List.filter_eq_nil_iff];intro i hi;have:=List.mem_range.1 hi;simp;omega
theorem u3.count (og:Num n M) (h:u3 n M D s) {j:Nat} (hj:s.seq=(j:Int)):u4 D j M.length=s.H.length:=by
 have e:(List.range M.length).filter (fun i=>decide (j≤i)&&D.getD (i+1) false)=s.H.map (fun m=>(m.seq-1).toNat):=by
  refine akC ?_ ?_ fun x=>?_
  ·exact List.Pairwise.filter _ List.pairwise_lt_range
  ·rw [List.pairwise_map]
   refine List.Pairwise.imp_of_mem ?_ h.st.a;intro a b ha hb hab;have h1:=(h.st.h a ha).2;omega
  ·rw [List.mem_filter,List.mem_range,List.mem_map]
   simp only [Bool.and_eq_true,decide_eq_true_eq];constructor
   ·rintro⟨h1,h2,h3⟩
    have hg:M[x]? =some M[x]:=List.getElem?_eq_getElem h1;have hs:=(og x _ hg).1
    have hd:D[x+1]? =some true:=by
     have hl:x+1<D.length:=by rw [h.len];omega
     rw [List.getD_eq_getElem?_getD,List.getElem?_eq_getElem hl]at h3;rw [List.getElem?_eq_getElem hl];exact congrArg some h3
    rcases(h.had x _ hg).1 hd with h4|h4
    ·omega
    ·exact⟨M[x],h4,by omega⟩
   ·rintro⟨m,hm,he⟩
    obtain⟨⟨i,hi⟩,h2⟩:=h.st.h m hm;have hs:=(og i m hi).1;have hl:=(List.getElem?_eq_some_iff.1 hi).1;have hx:x=i:=by omega
    subst hx;refine⟨hl,by omega,?_⟩;have hd:=(h.had x m hi).2 (.inr hm);rw [List.getD_eq_getElem?_getD,hd];rfl
 unfold u4;rw [e,List.length_map]
theorem u3.take (og:Num n M) (h:u3 n M D s) (hl:s.H.length<4096) {i:Nat} {m:aB} (hi:M[i]? =some m):
 u3 n M (D.set (i+1) true) (rS n s (j6 m)).2∧(rS n s (j6 m)).1=if D[i+1]? =some true then 33 else if(rS n s (j6 m)).2.seq<m.seq then 32 else 0:=by
 obtain⟨ZM,hmo⟩:=og i m hi;have hil:=(List.getElem?_eq_some_iff.1 hi).1
 have B0:∀(k:Nat),(D.set (i+1) true)[k+1]? =some true↔(k=i∨D[k+1]? =some true):=fun k=>by
  rw [List.getElem?_set];by_cases hk:i+1=k+1
  ·rw [if_pos hk,if_pos (by rw [h.len];omega)]
   simp;omega
  ·rw [if_neg hk]
   constructor
   ·exact fun e=> .inr e
   ·rintro(e|e)
    ·omega
    ·exact e
 have akq:∀{k:Nat} {x:aB},M[k]? =some x→(x=m↔k=i):=fun {k x} hk=>by
  have h1:=(og k x hk).1;constructor
  ·rintro rfl;omega
  ·rintro rfl
   rw [hi]at hk;injection hk with hk;exact hk.symm
 rcases akS og h.st hl hi with⟨h1,e⟩|⟨h1,h2,h3,h4,h5,h6,h7⟩|⟨h1,h2,h3,h4,h5,h6,_⟩
 ·have hd:=(h.had i m hi).2 h1
  rw [e,if_pos hd];refine⟨⟨h.st,by rw [List.length_set];exact h.len,fun k x hk=>?_⟩,rfl⟩;rw [B0];constructor
  ·rintro(rfl|e2)
   ·exact(h.had k x hk).1 hd
   ·exact(h.had k x hk).1 e2
  ·intro e2
   exact .inr ((h.had k x hk).2 e2)
 ·have hd:¬D[i+1]? =some true:=fun e=>by
   rcases(h.had i m hi).1 e with e|e
   ·omega
   ·exact h2 e
  rw [h3,if_neg hd,if_neg (by omega)];refine⟨⟨h4,by rw [List.length_set];exact h.len,fun k x hk=>?_⟩,rfl⟩;rw [B0];have hxs:=(og k x hk).1;constructor
  ·rintro(rfl|e2)
   ·have:x=m:=(akq hk).2 rfl
    subst this;exact .inl h5
   ·rcases(h.had k x hk).1 e2 with bE|bE
    ·exact .inl (by omega)
    ·by_cases hc:(rS n s (j6 m)).2.seq<x.seq
     ·exact .inr ((h6 x).2 ⟨bE,hc⟩)
     ·exact .inl (by omega)
  ·rintro(e2|e2)
   ·by_cases hki:k=i
    ·exact .inl hki
    ·right
     refine(h.had k x hk).2 ?_;by_cases hc:x.seq≤s.seq
     ·exact .inl hc
     ·right
      exact h7 k x hk (by omega) e2
   ·exact .inr ((h.had k x hk).2 (.inr ((h6 x).1 e2).1))
 ·have hd:¬D[i+1]? =some true:=fun e=>by
   rcases(h.had i m hi).1 e with e|e
   ·omega
   ·exact h2 e
  rw [h3,if_neg hd,if_pos (by omega)];refine⟨⟨h4,by rw [List.length_set];exact h.len,fun k x hk=>?_⟩,rfl⟩;rw [B0,h5];constructor
  ·rintro(rfl|e2)
   ·have:x=m:=(akq hk).2 rfl
    subst this;exact .inr ((h6 x).2 (.inl rfl))
   ·rcases(h.had k x hk).1 e2 with bE|bE
    ·exact .inl bE
    ·exact .inr ((h6 x).2 (.inr bE))
  ·rintro(e2|e2)
   ·exact .inr ((h.had k x hk).2 (.inl e2))
   ·rcases(h6 x).1 e2 with bE|bE
    ·exact .inl ((akq hk).1 bE)
    ·exact .inr ((h.had k x hk).2 (.inr bE))
end
end Go.Proofs.YtmaijkoopjocdaaGreat
namespace Go.Proofs.YtmaijkoopjocdaaGreat
open Go.RowKit Go.Lib
theorem akE (n:Nat):madeCells (Value.bool false).cells (n*1)=((List.replicate n false).map Value.bool).toArray:=by
 apply Array.toList_inj.1;apply List.ext_getElem?;intro j;show _=((List.replicate n false).map Value.bool)[j]?;by_cases hj:j<n*1
 ·simp only [madeCells,Array.toList_map,Array.toList_range,List.getElem?_map,List.getElem?_range hj,Option.map_some]
  rw [List.getElem?_replicate,if_pos (by omega)];show some ((Value.bool false).cells[j % 1]!)=_;rw [Nat.mod_one];rfl
 ·have h1:(madeCells (Value.bool false).cells (n*1)).toList.length=n*1:=by rw [Array.length_toList,size_madeCells]
  rw [List.getElem?_eq_none (by omega),List.getElem?_eq_none (by simp;omega)]
theorem akH:(Tryz.prog.info? 4).map (fun i=>(i.zero,i.size,i.bytes))=some (some (.bool false),1,1):=by kernel_rfl
theorem akF (ct:Prod) (la:Option Addr) (z8:List dB) (lc:Nat) (ta:Option Addr) (Ts:List Int) (tc:Nat) (W:World) (hx:OT ct) (hrd:OH.fF W la z8) (hcs:∀c∈z8,Dl c) (hts:qE W ta Ts):
 Calls Tryz.prog 4 #[ct.agg,.slice la z8.length lc,.slice ta Ts.length tc] W fun e W'=>e= .returned (.bool true)∧Below W.heap.size W W':=by
 have s1:∀(w:World) (o:Obj),(w.alloc o).heap.size=w.heap.size+1:=fun w o=>by simp
 have e3:Hid (Below W.heap.size W (W.alloc (.cells #[.string ct.code,.slice ct.ma ct.months.length ct.mc,.int .i64 ct.tick,.int .i64 ct.low,.int .i64 ct.high,.int .i64 ct.wide,.int .i64 ct.rule,.int .i64 ct.top,.int .i64 ct.least,.int .i64 ct.part,.slice ct.sa ct.settle.length ct.sc] 25))):=af (Below.aA _ _);have w5:=acE ct (W.alloc (.cells #[.string ct.code,.slice ct.ma ct.months.length ct.mc,.int .i64 ct.tick,.int .i64 ct.low,.int .i64 ct.high,.int .i64 ct.wide,.int .i64 ct.rule,.int .i64 ct.top,.int .i64 ct.least,.int .i64 ct.part,.slice ct.sa ct.settle.length ct.sc] 25)) hx;unfold Prod.agg Prod.cells at w5⊢;have w5:=af w5;have rI:=af hrd;have jJ:=af hcs;have q5:=af hts;obtain⟨ud,hnt⟩:∃x,Ts.length=x:=⟨_,rfl⟩;have Oq:=af hnt;rw [hnt];clear hx hrd hcs hts hnt;go_enter Tryz.func4,Tryz.ntmps4
 go_upto_region 1 with(fail)
 obtain⟨g0,nt⟩:∃g,W.heap.size=g:=⟨_,rfl⟩;have jd:Hid (aj (W.alloc (.cells #[.string ct.code,.slice ct.ma ct.months.length ct.mc,.int .i64 ct.tick,.int .i64 ct.low,.int .i64 ct.high,.int .i64 ct.wide,.int .i64 ct.rule,.int .i64 ct.top,.int .i64 ct.least,.int .i64 ct.part,.slice ct.sa ct.settle.length ct.sc] 25)) W.heap.size 25 ct.cells):=af (aj.new _ _ _);rw [nt]at jd⊢;clear nt;generalize (W.alloc (.cells #[.string ct.code,.slice ct.ma ct.months.length ct.mc,.int .i64 ct.tick,.int .i64 ct.low,.int .i64 ct.high,.int .i64 ct.wide,.int .i64 ct.rule,.int .i64 ct.top,.int .i64 ct.least,.int .i64 ct.part,.slice ct.sa ct.settle.length ct.sc] 25))=w0 at*;obtain⟨jO,p1,p2,p3,xm,xo,xp,xq,xu,xw,xx⟩:=PC.nV jd.out;go_wp2_with fail
 refine w5.out.mono ?_;rintro e w1 ⟨kK,ma,mc,sa,sc,hok,rfl,yd,hb1⟩;have hz:=adG kK hok ma mc sa sc;have BS:1≤(kK.prod ma mc sa sc).tick∧(kK.prod ma mc sa sc).tick≤10:=hok.tick;obtain⟨p,hp⟩:∃p,kK.prod ma mc sa sc=p:=⟨_,rfl⟩;rw [hp]at hz BS yd⊢;have bD:=af (e3.out.trans (hb1.mono e3.out.size));have zw:=af yd;have dI:=af hz;have Jn:=af BS;clear hok hz BS yd hb1 hp e3 w5 jd jO p1 p2 p3 xm xo xp xq xu xw xx;try unfold Prod.agg Prod.cells
 go_upto_region 2 with(fail)
 have hba:Below w1.heap.size w1 (w1.alloc (.cells #[.string p.code,.slice p.ma p.months.length p.mc,.int .i64 p.tick,.int .i64 p.low,.int .i64 p.high,.int .i64 p.wide,.int .i64 p.rule,.int .i64 p.top,.int .i64 p.least,.int .i64 p.part,.slice p.sa p.settle.length p.sc] 25)):=Below.aA _ _;have hH:PC (w1.alloc (.cells #[.string p.code,.slice p.ma p.months.length p.mc,.int .i64 p.tick,.int .i64 p.low,.int .i64 p.high,.int .i64 p.wide,.int .i64 p.rule,.int .i64 p.top,.int .i64 p.least,.int .i64 p.part,.slice p.sa p.settle.length p.sc] 25)) w1.heap.size p:=PC.new w1 p;obtain⟨aH,m4⟩:∃g,w1.heap.size=g:=⟨_,rfl⟩;have aT:=af (bD.out.trans (hba.mono bD.out.size));have RQ:=af (zw.out.below hba);have lJ:Hid (aj (w1.alloc (.cells #[.string p.code,.slice p.ma p.months.length p.mc,.int .i64 p.tick,.int .i64 p.low,.int .i64 p.high,.int .i64 p.wide,.int .i64 p.rule,.int .i64 p.top,.int .i64 p.least,.int .i64 p.part,.slice p.sa p.settle.length p.sc] 25)) w1.heap.size 25 p.cells):=af (aj.new _ _ _);rw [m4]at hH lJ⊢;clear m4 hba zw bD;generalize (w1.alloc (.cells #[.string p.code,.slice p.ma p.months.length p.mc,.int .i64 p.tick,.int .i64 p.low,.int .i64 p.high,.int .i64 p.wide,.int .i64 p.rule,.int .i64 p.top,.int .i64 p.least,.int .i64 p.part,.slice p.sa p.settle.length p.sc] 25))=w2 at*;have kx:=ag4 p w2 RQ.out dI.out Jn.out (lc:=lc) (fun j c hj=>(rI.out.below aT.out) j c hj) jJ.out;unfold Prod.agg Prod.cells at kx;have kx:=af kx;obtain⟨jO,p1,p2,p3,xm,xo,xp,xq,xu,xw,xx⟩:=hH;go_wp2_with fail
 refine kx.out.mono ?_;rintro e w3 ⟨ajO,xv,l7,rfl,M,V,Q,hst,hml,hvl,hmo,fh,zK,hb3⟩;have aN:=af (aT.out.trans (hb3.mono aT.out.size));have ahI:=af (RQ.out.below hb3);have ahJ:=af (lJ.out.below hb3);obtain⟨am,xy,fN⟩:=hmo.form;obtain⟨eG,aZ,Zq⟩:=fh.form;obtain⟨ajP,agW,Dt⟩:=zK.form;obtain⟨nm,hnm⟩:∃x,M.length=x:=⟨_,rfl⟩;obtain⟨nv,MS⟩:∃x,V.length=x:=⟨_,rfl⟩;have wJ:Q.length=nv:=by rw [←hst.len];exact MS
 rw [hnm]at fN;rw [MS]at Zq;rw [wJ]at Dt;subst fN;subst Zq;subst Dt;have ajQ:nm≤60000:=by omega
 have ajR:1≤nv∧nv≤26:=by have:=hst.one;omega
 have tL:=af hst;have s4:=af hmo;have eT:=af fh;have ajS:=af zK;have Aa:=af hnm;have ahK:=af MS;have vg:=af wJ;clear hst hml hvl hmo fh zK hb3 hnm MS wJ kx RQ aT lJ jO p1 p2 p3 xm xo xp xq xu xw xx;obtain⟨N,gR⟩:∃x,(countP p).toNat=x:=⟨_,rfl⟩;have gB:Hid (mZ p.months.length=N):=af (by rw [←gR,show countP p=mZ p.months.length from if_pos dI.out];rfl);have ahL:Hid (1≤mZ p.months.length):=af (by have h2:=oC dI.out;have h3:=w6 p.months.length h2.2;omega);have dN:Hid (N≤21):=af (by have:=zL p;omega);rw [gR]at tL;clear gR;have Bt:=Vu p w3 ahI.out dI.out;rw [gB.out]at Bt;unfold Prod.agg Prod.cells at Bt;have Bt:=af Bt;obtain⟨jO,p1,p2,p3,xm,xo,xp,xq,xu,xw,xx⟩:=PC.nV ahJ.out;go_wp2_with fail
 refine Bt.out.mono ?_;rintro e av ⟨pv,rfl,BI⟩;have Zr:=af BI;have MT:Hid (Num N M):=af fun j m hj=>tL.out.ms j m hj;clear BI Bt jO p1 p2 p3 xm xo xp xq xu xw xx;obtain⟨nd,Sh⟩:∃x,nm+2=x:=⟨_,rfl⟩;have PT:(nm:Int)+2=(nd:Int):=by omega
 obtain⟨i0,hi,cQ,hz1,dG⟩:=info_parts akH;have hmk:=fun w=>run_makeSlice (P:=Tryz.prog) w 57 4 i0 _ Tryz.underlying57 hi cQ .i64 .i64 nd nd (by omega) (by omega) (by rw [hz1];omega) (by rw [dG];omega) (by omega);rw [hz1,Int.toNat_natCast,akE]at hmk;have Cb:=af hmk;clear hmk hi cQ hz1 dG;have hmk:=Cb.out av;have Sk:=af Sh;clear Sh;go_upto_region 7 with(fail)
 clear hmk Cb PT;obtain⟨u5,akk⟩:∃D:List Bool,List.replicate nd false=D:=⟨_,rfl⟩;have akt:=af akk;rw [show Array.replicate nd (Value.bool false)=(u5.map Value.bool).toArray by rw [←akk];simp];clear akk;have hba:=Below.aA av (.cells (u5.map Value.bool).toArray 4);have sw:Hid (aj (av.alloc (.cells (u5.map Value.bool).toArray 4)) av.heap.size 4 (u5.map Value.bool).toArray):=af (aj.new _ _ _);have aku:=af (Zr.out.below hba);have cE:Hid (w3.heap.size≤av.heap.size):=af Zr.out.aF.size;obtain⟨gd,hgd⟩:∃g,av.heap.size=g:=⟨_,rfl⟩;rw [hgd]at sw cE⊢;clear hgd hba Zr;generalize av.alloc (.cells (u5.map Value.bool).toArray 4)=au at*
 have ah7:Hid (u3 N M u5 (qY N)):=af (by
  have h1:=akI N MT.out;rw [Aa.out,Sk.out,akt.out]at h1;exact h1)
 go_wp2_with fail
 go_loopw [14] (fun i w'=>∃(k cc:Nat) (hv:Value) (s:jn) (D:List Bool),i= .int .i64 k∧k≤80∧cc≤k∧Hid (u3 N M D s)∧Hid (qC N cc s)∧fq w3 w' pv N hv s∧aj w' gd 4 (D.map Value.bool).toArray) (fun i _=>80-(RowKit.intOf i).toNat)
 case atStart=>exact⟨0,0,_,_,u5,rfl,Nat.zero_le _,Nat.le_refl _,ah7,af (Pd N),aku.out,sw.out⟩
 case round=>
  clear aku sw ah7 akt;obtain⟨k,cc,hv,s,D,rfl,hk,o9,hst,kD,BI,hgd⟩:=hrel;obtain⟨ak,rfl⟩:∃bk:World,bk=wr:=⟨_,rfl⟩;have oF:=af BI;have akl:=af hgd;clear BI hgd;obtain⟨bb,aJ⟩:∃b,(decide (k<ud)&&decide (k<80)&&decide (0<nm))=b:=⟨_,rfl⟩;have bu:=af aJ;clear aJ;go_upto_region 8 with(fail)
  go_cut [58] (fun u wx=>u= .bool bb∧ak=wx)
  case first=>
   by_cases h1:k<ud
   ·have aoU:(k:Int)<(ud:Int):=by omega
    by_cases h2:k<80
    ·have OC:(k:Int)<80:=by omega
     by_cases h3:0<nm
     ·have akJ:0<(nm:Int):=by omega
      go_wp2_with fail
      go_meet;exact⟨by rw [←bu.out,decide_eq_true h1,decide_eq_true h2,decide_eq_true h3];rfl,rfl⟩
     ·have akJ:¬0<(nm:Int):=by omega
      go_wp2_with fail
      go_meet;exact⟨by rw [←bu.out,decide_eq_false h3,Bool.and_false],rfl⟩
    ·have OC:¬(k:Int)<80:=by omega
     go_wp2_with fail
     go_meet;exact⟨by rw [←bu.out,decide_eq_false h2,Bool.and_false,Bool.false_and],rfl⟩
   ·have aoU:¬(k:Int)<(ud:Int):=by omega
    go_wp2_with fail
    go_meet;exact⟨by rw [←bu.out,decide_eq_false h1,Bool.false_and,Bool.false_and],rfl⟩
  case rest=>
  obtain⟨rfl,rfl⟩:=hcut;cases bb with
  |false=>
   go_wp2_with fail
   refine(ac3 ak).mono ?_;rintro e bG ⟨rfl,fR⟩;have L4:=af (aN.out.trans ((oF.out.aF.trans (fR.mono oF.out.aF.size)).mono aN.out.size));clear fR;go_wp2_with fail
   go_ret;exact⟨by trivial,L4.out⟩
  |true=>
   have kf:=bu.out;simp only [Bool.and_eq_true,decide_eq_true_eq]at kf;obtain⟨⟨j3,akT⟩,hm0⟩:=kf;clear bu;have ahM:(k:Int)<(ud:Int):=by omega
   obtain⟨x,hx⟩:∃x,Ts[k]? =some x:=⟨_,List.getElem?_eq_getElem (by rw [Oq.out];exact j3)⟩;obtain⟨xa,b,off,PG,er,hbc⟩:=q5.out k x hx;subst PG;have ajU:ak.cell? ⟨b,off+k,none⟩=some (.int .i64 x):=((aN.out.trans (oF.out.aF.mono aN.out.size)).cell (p:=⟨b,off+k,none⟩) er).trans hbc;have hwi:=nx x 0 ((nm:Int)-1) (by omega);have Ga:=af (uo x 0 ((nm:Int)-1) ak xa.1 xa.2 (by omega) (by omega) (by omega));obtain⟨r,hr⟩:∃r:Nat,dW x 0 ((nm:Int)-1)=r:=⟨(dW x 0 ((nm:Int)-1)).toNat,by omega⟩;rw [hr]at Ga hwi;have Jy:r<nm:=by omega
   have ajW:(r:Int)<(nm:Int):=by omega
   obtain⟨m,hm⟩:∃m,M[r]? =some m:=⟨_,List.getElem?_eq_getElem (by rw [Aa.out];exact Jy)⟩;obtain⟨ap,ajT,JT,hme,c6,v7,hmr⟩:=(s4.out.below oF.out.aF).get hm;injection hme with h1 h2 h3;clear h2;subst h1;subst h3;obtain⟨kG,yn,iy⟩:=JT;dsimp only at v7 hmr;have akv:s.H.length<4096:=by have:=kD.out.hl;omega
   have k7:=Lx oF.out kD.out hst.out.st.a (by have:=dN.out;omega) (by omega) hmr.sl (by rw [Ly];decide) (C4 m);have MU:=af (C5 (b:=j6 m) (C4 m) kD.out);obtain⟨aki,akg⟩:=hst.out.take MT.out akv hm;have ZM:=(MT.out r m hm).1;obtain⟨b0,hb0⟩:∃b,D[r+1]? =some b:=⟨_,List.getElem?_eq_getElem (by rw [hst.out.len,Aa.out];omega)⟩;rw [hb0]at akg;have akm:=hst.out.len;rw [Aa.out,Sk.out]at akm;obtain⟨cf,akw⟩:∃c,(rS N s (j6 m)).1=c:=⟨_,rfl⟩;obtain⟨s2,ic⟩:∃c,(rS N s (j6 m)).2=c:=⟨_,rfl⟩;rw [akw]at akg k7;rw [ic]at akg k7 MU aki;obtain⟨j,hj,akK,_⟩:=aki.st.q;rw [Aa.out]at akK
   have akx:cf=if b0=true then 33 else if j<r+1 then 32 else 0:=by
    rw [akg,hj,ZM];cases b0
    ·simp;omega
    ·simp
   have Bs:=af akx;have cy:=af aki;have dh:=af k7;have akj:=af hj;have Ci:=af akm;have q1:(D.map Value.bool)[r+1]? =some (.bool b0):=by rw [List.getElem?_map,hb0];rfl
   have FI:=af q1;clear hx er hbc xa hr hm c6 hmr k7 aki akg ZM hb0 akw ic hj akx akm q1 akv kD hst;go_wp2_with fail
   refine Ga.out.mono ?_;rintro e aK ⟨rfl,rfl⟩;clear Ga ajU;go_wp2_with fail
   refine dh.out.mono ?_;rintro e aK ⟨rfl,Kp,aky,hkp,_⟩;have uK:=af aky;have cB:=akl.out.keeps hkp (oF.out.acY akl.out.aC (by decide) (by decide));have akh:=af cB;have k0:aK.cell? ⟨gd,r+1,none⟩=some (.bool b0):=by rw [cB.cell,List.getElem?_toArray];exact FI.out
   have f0:aK.frozen? ⟨gd,r+1,none⟩=false:=cB.frozen _;have hrd:(r:Int)+1<(nd:Int):=by have:=Sk.out;omega
   have akU:(0:Int)≤(r:Int)+1:=by omega
   clear aky hkp cB dh v7 oF akl;go_upto_region 14 with(fail)
   have hks:=bS aK gd (r+1) (.bool true);have jZ:=uK.out.acY akh.out.aC (by decide) (by decide);have mj:=af (uK.out.keep hks (fun e=>jZ (.inl e.symm)) (fun g hg e=>jZ (.inr (by rw [←show g=gd from e];exact hg))) (fun g hg e=>hg.ne akh.out.aC (by decide) e) (fun g hg e=>hg.ne akh.out.aC (by decide) e) (fun g e=>by rw [show g=gd from e];exact cE.out));have dY:=akh.out.aQ (r+1) (.bool true);obtain⟨GG,akn⟩:∃x,D.set (r+1) true=x:=⟨_,rfl⟩
   have hcs:((D.map Value.bool).toArray.setIfInBounds (r+1) (.bool true))=(GG.map Value.bool).toArray:=by
    rw [List.setIfInBounds_toArray,←akn,List.map_set]
   rw [hcs]at dY;rw [akn]at cy;have SN:=af dY;clear hks jZ dY hcs akn k0 f0 uK akh;generalize aK.setCell ⟨gd,r+1,none⟩ (.bool true)=bw at*
   have jx:Hid (∀(t:Nat) (b:Bool),GG[t]? =some b→bw.cell? ⟨gd,t,none⟩=some (.bool b)):=af fun t b hb=>by
    rw [SN.out.cell,List.getElem?_toArray,List.getElem?_map,hb];rfl
   have ako:=cy.out.len;rw [Aa.out,Sk.out]at ako;have akL:=af ako;clear ako;go_wp2_with fail
   go_loopw [18] (fun i w'=>∃t:Nat,i= .int .i64 t∧1≤t∧t≤j+1∧bw=w') (fun i _=>nm+2-(RowKit.intOf i).toNat)
   case atStart=>exact⟨1,rfl,Nat.le_refl _,by omega,rfl⟩
   case round=>
    obtain⟨t,rfl,jw,akV,rfl⟩:=hrel;have htb:t<nd:=by have:=Sk.out;omega
    have htd:(t:Int)<(nd:Int):=by omega
    obtain⟨tt,BW⟩:∃b,decide (t≤j)=b:=⟨_,rfl⟩;have FB:=af BW;clear BW;go_upto_region 15 with(fail)
    go_cut [93] (fun u wx=>u= .bool tt∧bw=wx)
    case first=>
     by_cases h1:t≤nm
     ·have aoU:(t:Int)≤(nm:Int):=by omega
      have NK:GG[t]? =some tt:=by
       obtain⟨u,hu⟩:∃u,t=u+1:=⟨t-1,by omega⟩;rw [hu];by_cases h2:t≤j
       ·rw [←FB.out,decide_eq_true h2]
        exact cy.out.low MT.out (by rw [akj.out];omega)
       ·rw [←FB.out,decide_eq_false h2]
        exact cy.out.next MT.out (by rw [akj.out];omega) (by rw [Aa.out];omega)
      have k0:=jx.out t tt NK;clear NK;go_wp2_with fail
      go_meet;exact⟨rfl,rfl⟩
     ·have aoU:¬(t:Int)≤(nm:Int):=by omega
      go_wp2_with fail
      go_meet;exact⟨by rw [←FB.out,decide_eq_false (show¬t≤j by omega)],rfl⟩
    case rest=>
    obtain⟨rfl,rfl⟩:=hcut;cases tt with
    |true=>
     have h1:=of_decide_eq_true FB.out;clear FB;go_wp2_with fail
     go_roundw
     case rel=>exact⟨t+1,by go_num,by omega,by omega,by first|rfl|trivial⟩
     case measure=>simp [RowKit.intOf];omega
    |false=>
     have h1:=of_decide_eq_false FB.out;have hts:t=j+1:=by omega
     have akW:(t:Int)-1=(j:Int):=by omega
     have u6:=af hts;clear FB h1 hts;go_wp2_with fail
     go_loopw [20,19] (fun i h w'=>∃(y c:Nat),i= .int .i64 y∧h= .int .i64 c∧t≤y∧y≤nm+1∧c≤y∧Hid (c=u4 GG j (y-1))∧bw=w') (fun i _ _=>nm+2-(RowKit.intOf i).toNat)
     case atStart=>exact⟨t,0,rfl,rfl,Nat.le_refl _,by have:=u6.out;omega,Nat.zero_le _,af (by rw [u6.out,show j+1-1=j from rfl,akM]),rfl⟩
     case round=>
      obtain⟨y,c,rfl,rfl,bI,GM,k4,ajV,rfl⟩:=hrel;by_cases h1:y≤nm
      ·have aoU:(y:Int)≤(nm:Int):=by omega
       have akN:y<nd:=by have:=Sk.out;omega
       have akX:(y:Int)<(nd:Int):=by omega
       obtain⟨b,hb⟩:∃b,GG[y]? =some b:=⟨_,List.getElem?_eq_getElem (by rw [akL.out];exact akN)⟩;have k0:=jx.out y b hb
       have sQ:u4 GG j y=c+(if b=true then 1 else 0):=by
        obtain⟨u,hu⟩:∃u,y=u+1:=⟨y-1,by have:=u6.out;omega⟩;have h2:=akO GG j u (by have:=u6.out;omega);rw [←hu]at h2;rw [h2,ajV.out,hu,show u+1-1=u from rfl,List.getD_eq_getElem?_getD,←hu,hb];rfl
       have ag5:=af sQ;clear hb sQ;cases b with
       |true=>
        go_wp2_with fail
        go_roundw
        case rel=>exact⟨y+1,c+1,by go_num,by go_num,by omega,by omega,by omega,af (by rw [show y+1-1=y from rfl,ag5.out];rfl),by first|rfl|trivial⟩
        case measure=>simp [RowKit.intOf];omega
       |false=>
        go_wp2_with fail
        go_roundw
        case rel=>exact⟨y+1,c,by go_num,rfl,by omega,by omega,by omega,af (by rw [show y+1-1=y from rfl,ag5.out];rfl),by first|rfl|trivial⟩
        case measure=>simp [RowKit.intOf];omega
      ·have aoU:¬(y:Int)≤(nm:Int):=by omega
       have akz:y=nm+1:=by omega
       have hcl:s2.H.length=c:=by
        have h2:=cy.out.count MT.out (j:=j) akj.out;rw [Aa.out]at h2;rw [←h2,ajV.out,akz];rfl
       have Tm:=Pf mj.out;have MI:=VB mj.out;have akp:=akG mj.out;rw [hcl]at Tm akp;rw [akj.out]at MI;obtain⟨akP,hbz⟩:∃z,((c:Int)==0)=z:=⟨_,rfl⟩;have akA:decide (c=0)=akP:=by rw [←hbz,Bool.eq_iff_iff];simp
       rw [akA]at Tm;have JU:=af Tm;have JV:=af MI;have akB:=af akp;clear Tm MI akp hcl akA ajV akz;go_upto_if 109 with(fail)
       go_cut [21] (fun u wx=>u= .int .i64 cf∧bw=wx)
       case first=>
        cases b0 with
        |true=>
         go_wp2_with fail
         go_meet;exact⟨by rw [Bs.out];rfl,rfl⟩
        |false=>
         by_cases h4:j<r+1
         ·have akQ:(t:Int)≤(r:Int)+1:=by have:=u6.out;omega
          go_wp2_with fail
          go_meet;exact⟨by rw [Bs.out,if_neg (by decide),if_pos h4],rfl⟩
         ·have akQ:¬(t:Int)≤(r:Int)+1:=by have:=u6.out;omega
          go_wp2_with fail
          go_meet;exact⟨by rw [Bs.out,if_neg (by decide),if_neg h4],rfl⟩
       case rest=>
       obtain⟨rfl,rfl⟩:=hcut;go_wp2_with fail
       refine JV.out.mono ?_;rintro e bW ⟨rfl,rfl⟩;go_wp2_with fail
       refine akB.out.mono ?_;rintro e bW ⟨rfl,rfl⟩;go_wp2_with fail
       refine JU.out.mono ?_;rintro e bW ⟨rfl,rfl⟩;clear JV akB JU;go_wp2_with fail
       go_roundw
       case rel=>exact⟨k+1,cc+1,Kp,s2,GG,by go_num,by omega,by omega,cy,MU,mj.out,SN.out⟩
       case measure=>simp [RowKit.intOf];omega
end Go.Proofs.YtmaijkoopjocdaaGreat
