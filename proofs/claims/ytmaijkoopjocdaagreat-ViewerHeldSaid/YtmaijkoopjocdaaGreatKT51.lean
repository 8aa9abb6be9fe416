import Derived.Test.YtmaijkoopjocdaaGreatKT43
import Derived.Deep.Slices
import Derived.Deep.Fields
import Derived.ChangeSame
import Derived.OpenShut
set_option maxRecDepth 100000
set_option maxHeartbeats 64000000
namespace Go.Proofs.YtmaijkoopjocdaaGreat
open Go Go.Lib
def vm (n:Nat) (M:List aB) (j:Nat):bP:=(M.take j).foldl (fun V m=>fO m V) (qY n).V
theorem ahV {n:Nat} {M:List aB} {j:Nat} {m:aB} (h:M[j]? =some m):vm n M (j+1)=fO m (vm n M j):=by
 unfold vm;rw [List.take_add_one,h,List.foldl_append];rfl
structure aj6 (n:Nat) (M:List aB) (s:jn):Prop where
 q:∃j:Nat,s.seq=j∧j≤M.length∧s.V=vm n M j
 a:u9 s.H
 h:∀m∈s.H,(∃i:Nat,M[i]? =some m)∧s.seq+1<m.seq
section
variable {n:Nat} {M:List aB} {s:jn}
def Num (n:Nat) (M:List aB):Prop:=∀(j:Nat) (m:aB),M[j]? =some m→m.seq=(j:Int)+1∧zj n m
theorem RZ:∀(H:List aB) (V:bP) (q:Int),(oB H V q).H.length≤H.length
 | [],_,_=>Nat.le_refl _
 |m::t,V,q=>by
  unfold oB;split
  ·split
   ·exact Nat.le_succ_of_le (RZ t _ _)
   ·exact Nat.le_succ_of_le (RZ t _ _)
  ·exact Nat.le_refl _
theorem take_len (n:Nat) (s:jn) (b:List Int):(rS n s b).2.H.length≤s.H.length+1:=by
 unfold rS;split
 ·exact Nat.le_succ _
 ·split
  ·exact Nat.le_succ _
  ·split
   ·exact Nat.le_succ _
   ·split
    ·exact Nat.le_succ_of_le (RZ _ _ _)
    ·split
     ·exact Nat.le_succ _
     ·dsimp only;rw [R1];exact Nat.le_refl _
theorem ZL {m:aB} (h:zj n m):x8 n m=true:=Gq.2 h.f
def kO (n:Nat) (M:List aB) (k:Nat):jn:=⟨vm n M k,k,[]⟩
theorem Zs (og:Num n M) {k:Nat} {m:aB} (h:M[k]? =some m):rS n (kO n M k) (j6 m)=(0,kO n M (k+1)):=by
 obtain⟨ZM,hmo⟩:=og k m h;have hd:ol (j6 m)=some m:=Lw hmo.o hmo.f.sd
 have hn:¬(m.seq<1∨x8 n m=false):=by
  rintro(h|h)
  ·omega
  ·rw [ZL hmo]at h;cases h
 unfold rS kO;rw [hd];dsimp only;rw [if_neg hn,if_neg (by rintro(h|h);omega;cases h),if_pos (by omega),ahV h];unfold oB;rw [ZM];rfl
theorem Zu (og:Num n M) {k r:Nat} {m:aB} (h:M[r]? =some m) (hr:r<k):rS n (kO n M k) (j6 m)=(33,kO n M k):=by
 obtain⟨ZM,hmo⟩:=og r m h;have hd:ol (j6 m)=some m:=Lw hmo.o hmo.f.sd
 have hn:¬(m.seq<1∨x8 n m=false):=by
  rintro(h|h)
  ·omega
  ·rw [ZL hmo]at h;cases h
 unfold rS kO;rw [hd];dsimp only;rw [if_neg hn,if_pos (.inl (by omega))]
end
end Go.Proofs.YtmaijkoopjocdaaGreat
namespace Go.Proofs.YtmaijkoopjocdaaGreat
open Go.ChangeShapes Go.WideShapes Go.RowKit
structure PR (w:World) (p:Prod):Prop where
 code:p.code.size≤maxLen
 Gr:qE w p.ma p.months
 aQ:qE w p.sa p.settle
 Ao:p.months.length≤9223372036854775807
 D9:p.settle.length≤9223372036854775807
 tick:b8 p.tick
 low:b8 p.low
 high:b8 p.high
 wide:b8 p.wide
 rule:b8 p.rule
 top:b8 p.top
 least:b8 p.least
 part:b8 p.part
theorem PR.ct {w:World} {p:Prod} (h:PR w p):OT p:=⟨h.Ao,h.tick,h.wide,h.rule,h.top,h.least,h.part⟩
section
variable {H:Type} {enc:TypeId×Value→H} {P:Program} {w:World} {base:Nat} {spare:Nat→Bool} {held:Bool}
theorem Wn {e:TypeId} {fs:Array Field} {n:Nat} {cs:List Value} {y:DataW H×List MemPlace} (he:P.underlying e=some (.struct fs)) (hone:Go.Deep.oneCellFields P fs=true) (hlen:cs.length=fs.size)
 (ht:DataW.trod enc P w base spare held n e cs=some y):
 ∀(j:Nat) (f:Field),fs[j]? =some f→∃(v:Value) (m:Nat) (z:DataW H×List MemPlace),cs[j]? =some v∧DataW.trod enc P w base spare held m f.type [v]=some z:=by
 intro j f hj;obtain⟨xs,m,_,_,_,hxl,hf⟩:=DataW.trod_struct he ht;have hjl:j<fs.size:=(Array.getElem?_eq_some_iff.1 hj).1;obtain⟨ho,hk⟩:=Go.Deep.hone_of hone j f hj;have h1:=hf j f hj;have Wo:j<cs.length:=by omega
 rw [ho,hk,List.drop_eq_getElem_cons Wo,List.take_succ_cons,List.take_zero]at h1;exact⟨cs[j],m,xs[j]'(by omega),List.getElem?_eq_getElem Wo,by rw [h1,List.getElem?_eq_getElem]⟩
end
def ad5:Value→Int
 | .int _ n=>n
 |_=>0
theorem PS {H:Type} {enc:TypeId×Value→H} {w:World} {spare:Nat→Bool} {held:Bool} {t e:TypeId} {n:Nat} {v:Value} {y:DataW H×List MemPlace} (ht:Tryz.prog.underlying t=some (.slice e)) (he:Tryz.prog.underlying e=some (.int .i64)) (hc:Tryz.prog.cellsOf e=1)
 (h:DataW.trod enc Tryz.prog w 0 spare held n t [v]=some y):∃(a:Option Addr) (L:List Int) (c:Nat),v= .slice a L.length c∧qE w a L∧L.length≤maxLen:=by
 rcases Go.Deep.open_slice1 ht hc h with⟨h0,_⟩|⟨a,len,cap,m,k,V,D,Pl,hcs,_,hl,hm,Aw,_,hi⟩
 ·have h0':v= .slice none 0 0:=by simpa using h0
  exact⟨none,[],0,h0',fun j x hj=>by simp at hj,Nat.zero_le _⟩
 ·have ad6:v= .slice (some a) len cap:=by simpa using hcs
  subst ad6;have hnm:len≤m:=by rw [Aw];split<;>omega
  obtain⟨b,off,sp⟩:=a;refine⟨some ⟨b,off,sp⟩,(List.range len).map (fun i=>ad5 (V i)),cap,by simp,fun j x hj=>?_,by simp;omega⟩;have hjl:j<len:=by have:=dc hj;simpa using this
  rw [List.getElem?_map,List.getElem?_range hjl]at hj;simp at hj;obtain⟨h1,h2⟩:=hi j (by omega);obtain⟨z,hz1,_,wk⟩:=DataW.trod_int he h2;have hz:V j= .int .i64 z:=by simpa using hz1
  rw [hz]at hj h1;have hx:x=z:=hj.symm;subst hx
  have hsp:sp=none:=by
   have ad7:=(hi 0 (by omega)).1;have:=World.cell?_spot ad7;unfold Addr.add at this
   simpa using this
  subst hsp;have PT:(⟨b,off,none⟩:Addr).add j=⟨b,off+j,none⟩:=tE b off j;rw [PT]at h1;refine⟨bounds_i64 wk,b,off,rfl,?_,h1⟩;rcases Nat.lt_or_ge b w.heap.size with h|h
  ·exact h
  ·unfold World.cell? at h1
   rw [show(⟨b,off+j,none⟩:Addr).block=b from rfl,Array.getElem?_eq_none h]at h1;cases h1
theorem ad8:∃fs:Array Field,Tryz.prog.underlying 25=some (.struct fs)∧Go.Deep.oneCellFields Tryz.prog fs=true∧fs.size=11∧fs.map (·.type)=#[9,22,2,2,2,2,3,2,2,2,23]:=
 ⟨_,Tryz.underlying25,by kernel_rfl,by kernel_rfl,by kernel_rfl⟩
theorem ad9 {H:Type} {enc:TypeId×Value→H} {w:World} {spare:Nat→Bool} {held:Bool} {v:Value} {d:DataW H} {pl:List MemPlace} (h:DataW.Trod enc Tryz.prog w 0 spare held 25 v d pl) {b0:Nat} (hv:Value.okWide Tryz.prog w .any b0 25 v):
 ∃p:Prod,v=p.agg∧PR w p:=by
 obtain⟨fs,IA,hone,hsz,PU⟩:=ad8;obtain⟨cs,rfl,Wp⟩:=okWide_struct IA hv;obtain⟨fuel,hf⟩:=h;have hC:Tryz.prog.cellsOf 25=11:=by kernel_rfl
 rw [hC]at Wp;have Di:(Value.agg cs).cells=cs:=rfl;rw [Di]at hf;have hh:=Wn IA hone (by rw [hsz];simpa using Wp) hf
 have Dj:∀(j:Nat) (t:TypeId),(#[9,22,2,2,2,2,3,2,2,2,23]:Array TypeId)[j]? =some t→∃(v:Value) (m:Nat) (z:DataW H×List MemPlace),cs.toList[j]? =some v∧DataW.trod enc Tryz.prog w 0 spare held m t [v]=some z:=by
  intro j t hj;rw [←PU,Array.getElem?_map,Option.map_eq_some_iff]at hj;obtain⟨f,zB,zC⟩:=hj;rw [←zC];exact hh j f zB
 have qG:∀(j:Nat) (t:TypeId),(#[9,22,2,2,2,2,3,2,2,2,23]:Array TypeId)[j]? =some t→Tryz.prog.underlying t=some (.int .i64)→∃z:Int,cs.toList[j]? =some (.int .i64 z)∧b8 z:=by
  intro j t hj hu;obtain⟨v,m,z,hv1,jq⟩:=Dj j t hj;obtain⟨z',hz1,_,wk⟩:=DataW.trod_int hu jq;have hz:v= .int .i64 z':=by simpa using hz1
  exact⟨z',by rw [hv1,hz],bounds_i64 wk⟩
 obtain⟨v0,m0,z0,g0,t0⟩:=Dj 0 9 rfl;obtain⟨s,hs1,_,Wq⟩:=DataW.trod_string Tryz.underlying9 t0;have hs:v0= .string s:=by simpa using hs1
 subst hs;obtain⟨v1,m1,dM,g1,t1⟩:=Dj 1 22 rfl;obtain⟨a1,eE,c1,rfl,aea,iR⟩:=PS Tryz.underlying22 Tryz.underlying3 (by kernel_rfl) t1;obtain⟨n2,g2,o2⟩:=qG 2 2 rfl Tryz.underlying2;obtain⟨oD,aO,bx⟩:=qG 3 2 rfl Tryz.underlying2;obtain⟨kW,gj,dr⟩:=qG 4 2 rfl Tryz.underlying2;obtain⟨pn,bg,PV⟩:=qG 5 2 rfl Tryz.underlying2;obtain⟨Dk,pM,PW⟩:=qG 6 3 rfl Tryz.underlying3;obtain⟨IB,aI,PX⟩:=qG 7 2 rfl Tryz.underlying2;obtain⟨rV,ck,aeb⟩:=qG 8 2 rfl Tryz.underlying2;obtain⟨yt,c8,aec⟩:=qG 9 2 rfl Tryz.underlying2;obtain⟨v10,aiS,aiT,Fp,t10⟩:=Dj 10 23 rfl;obtain⟨Wr,tT,ur,rfl,aed,aee⟩:=PS Tryz.underlying23 Tryz.underlying2 (by kernel_rfl) t10
 have hcs:cs=#[.string s,.slice a1 eE.length c1,.int .i64 n2,.int .i64 oD,.int .i64 kW,.int .i64 pn,.int .i64 Dk,.int .i64 IB,.int .i64 rV,.int .i64 yt,.slice Wr tT.length ur]:=by
  apply Array.toList_inj.1;apply List.ext_getElem?;intro i
  match i with
  |0=>exact g0
  |1=>exact g1
  |2=>exact g2
  |3=>exact aO
  |4=>exact gj
  |5=>exact bg
  |6=>exact pM
  |7=>exact aI
  |8=>exact ck
  |9=>exact c8
  |10=>exact Fp
  |i+11=>rw [List.getElem?_eq_none (by simp;omega),List.getElem?_eq_none (by simp)]
 subst hcs;have hml:maxLen≤9223372036854775807:=by decide
 exact⟨⟨s,a1,eE,c1,n2,oD,kW,pn,Dk,IB,rV,yt,Wr,tT,ur⟩,rfl,Wq,aea,aed,Nat.le_trans iR hml,Nat.le_trans aee hml,o2,bx,dr,PV,PW,PX,aeb,aec⟩
theorem open_ints {H:Type} {enc:TypeId×Value→H} {w:World} {spare:Nat→Bool} {held:Bool} {v:Value} {d:DataW H} {pl:List MemPlace} (h:DataW.Trod enc Tryz.prog w 0 spare held 22 v d pl) {b0:Nat} (hv:Value.okWide Tryz.prog w .any b0 22 v):
 ∃(a:Option Addr) (L:List Int) (c:Nat),v= .slice a L.length c∧qE w a L:=by
 obtain⟨a0,n0,c0,rfl⟩:=okWide_slice Tryz.underlying22 hv;obtain⟨fuel,hf⟩:=h;obtain⟨a,L,c,h1,h2,_⟩:=PS Tryz.underlying22 Tryz.underlying3 (by kernel_rfl) hf;exact⟨a,L,c,h1,h2⟩
theorem aef:∃fs:Array Field,Tryz.prog.underlying 80=some (.struct fs)∧Go.Deep.oneCellFields Tryz.prog fs=true∧fs.size=9∧fs.map (·.type)=#[3,2,3,3,2,2,2,3,9]:=
 ⟨_,Tryz.underlying80,by kernel_rfl,by kernel_rfl,by kernel_rfl⟩
theorem Ws {H:Type} {enc:TypeId×Value→H} {w:World} {spare:Nat→Bool} {held:Bool} {n:Nat} {cs:List Value} {y:DataW H×List MemPlace} (h:DataW.trod enc Tryz.prog w 0 spare held n 80 cs=some y):∃x:dB,cs=x.list∧Dl x:=by
 obtain⟨fs,IA,hone,hsz,PU⟩:=aef;obtain⟨_,_,_,_,hl,_,_⟩:=DataW.trod_struct IA h;have hC:Tryz.prog.cellsOf 80=9:=by kernel_rfl
 rw [hC]at hl;have hh:=Wn IA hone (by rw [hsz];exact hl) h
 have Dj:∀(j:Nat) (t:TypeId),(#[3,2,3,3,2,2,2,3,9]:Array TypeId)[j]? =some t→∃(v:Value) (m:Nat) (z:DataW H×List MemPlace),cs[j]? =some v∧DataW.trod enc Tryz.prog w 0 spare held m t [v]=some z:=by
  intro j t hj;rw [←PU,Array.getElem?_map,Option.map_eq_some_iff]at hj;obtain⟨f,zB,zC⟩:=hj;rw [←zC];exact hh j f zB
 have qG:∀(j:Nat) (t:TypeId),(#[3,2,3,3,2,2,2,3,9]:Array TypeId)[j]? =some t→Tryz.prog.underlying t=some (.int .i64)→∃z:Int,cs[j]? =some (.int .i64 z)∧b8 z:=by
  intro j t hj hu;obtain⟨v,m,z,hv1,jq⟩:=Dj j t hj;obtain⟨z',hz1,_,wk⟩:=DataW.trod_int hu jq;have hz:v= .int .i64 z':=by simpa using hz1
  exact⟨z',by rw [hv1,hz],bounds_i64 wk⟩
 obtain⟨n0,g0,o0⟩:=qG 0 3 rfl Tryz.underlying3;obtain⟨n1,g1,o1⟩:=qG 1 2 rfl Tryz.underlying2;obtain⟨n2,g2,o2⟩:=qG 2 3 rfl Tryz.underlying3;obtain⟨oD,aO,bx⟩:=qG 3 3 rfl Tryz.underlying3;obtain⟨kW,gj,dr⟩:=qG 4 2 rfl Tryz.underlying2;obtain⟨pn,bg,PV⟩:=qG 5 2 rfl Tryz.underlying2;obtain⟨Dk,pM,PW⟩:=qG 6 2 rfl Tryz.underlying2;obtain⟨IB,aI,PX⟩:=qG 7 3 rfl Tryz.underlying3;obtain⟨qz,Lv,y2,ck,t8⟩:=Dj 8 9 rfl;obtain⟨s,hs1,_,Wq⟩:=DataW.trod_string Tryz.underlying9 t8;have hs:qz= .string s:=by simpa using hs1
 subst hs
 have hcs:cs= [.int .i64 n0,.int .i64 n1,.int .i64 n2,.int .i64 oD,.int .i64 kW,.int .i64 pn,.int .i64 Dk,.int .i64 IB,.string s]:=by
  apply List.ext_getElem?;intro i
  match i with
  |0=>exact g0
  |1=>exact g1
  |2=>exact g2
  |3=>exact aO
  |4=>exact gj
  |5=>exact bg
  |6=>exact pM
  |7=>exact aI
  |8=>exact ck
  |i+9=>rw [List.getElem?_eq_none (by omega),List.getElem?_eq_none (by simp)]
 subst hcs;exact⟨⟨n0,n1,n2,oD,kW,pn,Dk,IB,s⟩,rfl,o0,o1,o2,bx,dr,PV,PW,PX⟩
theorem aeg:Dl Lc:=by
 have h:b8 0:=by unfold b8;omega
 exact⟨h,h,h,h,h,h,h,h⟩
theorem aeh {H:Type} {enc:TypeId×Value→H} {w:World} {spare:Nat→Bool} {held:Bool} {v:Value} {d:DataW H} {p:List MemPlace} (h:DataW.Trod enc Tryz.prog w 0 spare held 26 v d p) {b0:Nat} (hv:Value.okWide Tryz.prog w .any b0 26 v):
 ∃(a:Option Addr) (L:List dB) (c:Nat),v= .slice a L.length c∧OH.fF w a L∧(∀x∈L,Dl x)∧L.length≤9223372036854775807∧L.length≤c:=by
 obtain⟨a0,n0,c0,rfl⟩:=okWide_slice Tryz.underlying26 hv;obtain⟨fuel,hf⟩:=h;rcases Go.Deep.open_slice Tryz.underlying26 hf with⟨h0,_⟩|⟨a,len,cap,m,n,D,Pl,hcs,_,hl,hm,Aw,_,hi⟩
 ·have h0':a0=none∧n0=0∧c0=0:=by
   simp [Value.cells]at h0;exact h0
  obtain⟨rfl,rfl,rfl⟩:=h0';exact⟨none,[],0,rfl,aY.fF.nil,fun x hx=>by simp at hx,by simp,by simp⟩
 ·have h0':a0=some a∧n0=len∧c0=cap:=by
   simp [Value.cells]at hcs;exact hcs
  obtain⟨rfl,rfl,rfl⟩:=h0';have hnm:n0≤m:=by rw [Aw];split<;>omega
  obtain⟨b,off,sp⟩:=a;have hC:Tryz.prog.cellsOf 80=9:=by kernel_rfl
  rw [hC]at hi
  have hex:∀k:Nat,∃x:dB,Dl x∧(k<n0→sp=none∧b<w.heap.size∧gL w b (off+k*9) x.list):=by
   intro k;by_cases hk:k<n0
   ·obtain⟨cs',hc,ht⟩:=hi k (by omega)
    obtain⟨x,rfl,hx⟩:=Ws ht;obtain⟨_,_,Ai⟩:=World.cells?_some hc
    have hsp:sp=none:=by
     obtain⟨cs0,hc0,ju⟩:=hi 0 (by omega);obtain⟨x0,rfl,_⟩:=Ws ju;obtain⟨_,_,aei⟩:=World.cells?_some hc0;have h1:=aei 0 (by omega);exact World.cell?_spot (a:=⟨b,off,sp⟩) (h1.trans rfl)
    subst hsp;refine⟨x,hx,fun _=>⟨rfl,?_,fun j u hu=>?_⟩⟩
    ·have h1:=Ai 0 (by omega)
     rw [tE]at h1;rcases Nat.lt_or_ge b w.heap.size with h|h
     ·exact h
     ·unfold World.cell? at h1
      rw [show((⟨b,off+k*9,none⟩:Addr).add 0).block=b from rfl,Array.getElem?_eq_none h]at h1;cases h1
    ·have hj:j<9:=dc hu
     have h1:=Ai j hj;rw [tE,tE]at h1;exact h1.trans hu
   ·exact⟨Lc,aeg,fun h=>absurd h hk⟩
  have hml:maxLen≤9223372036854775807:=by decide
  refine⟨some ⟨b,off,sp⟩,(List.range n0).map (fun k=>(hex k).choose),c0,by simp,?_,?_,by simp;omega,by simp;omega⟩
  ·intro j e hj
   have hjl:j<n0:=by have:=dc hj;simpa using this
   rw [List.getElem?_map,List.getElem?_range hjl]at hj;simp at hj;obtain⟨_,h2⟩:=(hex j).choose_spec;obtain⟨rfl,h4,h5⟩:=h2 hjl;rw [hj]at h5;exact⟨b,off,rfl,h4,h5⟩
  ·intro x hx
   rw [List.mem_map]at hx;obtain⟨k,_,rfl⟩:=hx;exact((hex k).choose_spec).1
end Go.Proofs.YtmaijkoopjocdaaGreat
namespace Go.Proofs.YtmaijkoopjocdaaGreat
open Go.RowKit Go.Lib
theorem Lu (x:ax) (w:World):Calls Tryz.prog 43 #[x.agg] w fun e w'=>e= .returned x.agg∧Below w.heap.size w w':=by
 unfold ax.agg;have aE:=af (Below.aA w (.cells #[.int .i64 x.ag,.int .i64 x.ah,.int .i64 x.count] 47));go_enter Tryz.func43,Tryz.ntmps43
 go_wp2_with fail
 obtain⟨w1,hw1⟩:∃w1,w.alloc (.cells #[.int .i64 x.ag,.int .i64 x.ah,.int .i64 x.count] 47)=w1:=⟨_,rfl⟩;rw [hw1]at aE⊢;have hz:w1.heap.size=w.heap.size+1:=by rw [←hw1];simp
 have aP:=aj.new w1 101 #[.int .i64 x.ag,.int .i64 x.ah,.int .i64 x.count];rw [hz]at aP;have hb:=aE.out.trans ((Below.aA w1 (.cells #[.int .i64 x.ag,.int .i64 x.ah,.int .i64 x.count] 101)).mono aE.out.size);have k0:=aP.cell 0;have k1:=aP.cell 1;have k2:=aP.cell 2;simp only [List.getElem?_toArray,List.getElem?_cons_zero,List.getElem?_cons_succ]at k0 k1 k2;generalize w1.alloc (.cells #[.int .i64 x.ag,.int .i64 x.ah,.int .i64 x.count] 101)=w2 at*;clear hw1 hz aP;refine bodyPost_ret (v:= .agg #[.int .i64 x.ag,.int .i64 x.ah,.int .i64 x.count]) (by simp [results,Tryz.results43,go_sem,k0,k1,k2]) rfl ⟨rfl,hb⟩
end Go.Proofs.YtmaijkoopjocdaaGreat
