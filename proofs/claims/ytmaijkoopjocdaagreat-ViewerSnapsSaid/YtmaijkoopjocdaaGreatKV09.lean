import Derived.Test.YtmaijkoopjocdaaGreatKV08
set_option maxRecDepth 100000
set_option maxHeartbeats 64000000
namespace Go.Proofs.YtmaijkoopjocdaaGreat
open Go.RowKit Go.Lib
def n6 (n:Nat) (m:aF):Int:=if m.inst<0∨(n:Int)≤m.inst then 20 else if¬(m.side=1∨m.side=2)then 21 else if m.aq<0∨m.count<0∨¬(m.aq=0↔m.count=0)then 24 else 0
theorem Mg {n:Nat} {m:aF}:n6 n m=0↔zQ n m=true:=by
 unfold n6;rw [IA];constructor
 ·intro h
  split at h
  ·cases h
  ·split at h
   ·cases h
   ·split at h
    ·cases h
    ·rename_i h1 h2 h3
     have JG:=Decidable.not_not.1 h2;have a1:¬m.inst<0:=fun x=>h1 (.inl x);have a2:¬(n:Int)≤m.inst:=fun x=>h1 (.inr x);have a3:¬m.aq<0:=fun x=>h3 (.inl x);have a4:¬m.count<0:=fun x=>h3 (.inr (.inl x));exact⟨by omega,by omega,JG,by omega,by omega,Decidable.not_not.1 fun x=>h3 (.inr (.inr x))⟩
 ·intro h
  rw [if_neg (by rintro(x|x);have:=h.i0;omega;have:=h.i1;omega),if_neg (fun x=>x h.sd),if_neg (by rintro(x|x|x);have:=h.q0;omega;have:=h.c0;omega;exact x h.xh)]
theorem xQ (n:Nat) (m:aF) (w:World):
 Calls Tryz.prog 36 #[↑n,m.agg] w fun e w'=>e= .returned (.int .i64 (n6 n m))∧Below w.heap.size w w':=by
 unfold aF.agg;have dD:Hid (n6 n m=if m.inst<0∨(n:Int)≤m.inst then 20 else if¬(m.side=1∨m.side=2)then 21 else if m.aq<0∨m.count<0∨¬(m.aq=0↔m.count=0)then 24 else 0):=af rfl;rw [dD.out];have aG:=af (Below.aI w (.cells #[↑m.seq,↑m.inst,↑m.side,↑m.ap,↑m.aq,↑m.count,↑m.imp] 86));clear dD;obtain⟨q,i,d,p,t,c,f⟩:=m;dsimp only at*;by_cases h1:i<0
 ·rw [if_pos (.inl h1)]
  go_enter Tryz.func36,Tryz.ntmps36
  go_wp2_with fail
  go_ret;exact⟨by trivial,aG.out⟩
 ·by_cases h2:(n:Int)≤i
  ·rw [if_pos (.inr h2)]
   go_enter Tryz.func36,Tryz.ntmps36
   go_wp2_with fail
   go_ret;exact⟨by trivial,aG.out⟩
  ·rw [if_neg (by rintro(x|x);exact h1 x;exact h2 x)]
   by_cases h3:d=1
   ·rw [if_neg (fun x=>x (.inl h3))]
    subst h3;by_cases h5:t<0
    ·rw [if_pos (.inl h5)]
     go_enter Tryz.func36,Tryz.ntmps36
     go_wp2_with fail
     go_ret;exact⟨by trivial,aG.out⟩
    ·by_cases h6:c<0
     ·rw [if_pos (.inr (.inl h6))]
      go_enter Tryz.func36,Tryz.ntmps36
      go_wp2_with fail
      go_ret;exact⟨by trivial,aG.out⟩
     ·by_cases h7:t=0
      ·have l8:(t==0)=true:=by rw [h7];rfl
       by_cases h8:c=0
       ·have Ex:(c==0)=true:=by rw [h8];rfl
        rw [if_neg (by rintro(x|x|x);exact h5 x;exact h6 x;exact x (by simp [h7,h8]))];clear h7 h8;go_enter Tryz.func36,Tryz.ntmps36
        go_wp2_with fail
        go_ret;exact⟨by trivial,aG.out⟩
       ·have Ex:(c==0)=false:=by rw [beq_eq_false_iff_ne];exact h8
        rw [if_pos (.inr (.inr (by rw [h7];intro y;exact h8 (y.1 rfl))))];clear h7 h8;go_enter Tryz.func36,Tryz.ntmps36
        go_wp2_with fail
        go_ret;exact⟨by trivial,aG.out⟩
      ·have l8:(t==0)=false:=by rw [beq_eq_false_iff_ne];exact h7
       by_cases h8:c=0
       ·have Ex:(c==0)=true:=by rw [h8];rfl
        rw [if_pos (.inr (.inr (by rw [h8];intro y;exact h7 (y.2 rfl))))];clear h7 h8;go_enter Tryz.func36,Tryz.ntmps36
        go_wp2_with fail
        go_ret;exact⟨by trivial,aG.out⟩
       ·have Ex:(c==0)=false:=by rw [beq_eq_false_iff_ne];exact h8
        rw [if_neg (by rintro(x|x|x);exact h5 x;exact h6 x;exact x (by constructor<;>intro y;exact absurd y h7;exact absurd y h8))];clear h7 h8;go_enter Tryz.func36,Tryz.ntmps36
        go_wp2_with fail
        go_ret;exact⟨by trivial,aG.out⟩
   ·have ae6:(d !=1)=true:=by simpa using h3
    by_cases h4:d=2
    ·rw [if_neg (fun x=>x (.inr h4))]
     subst h4;clear h3 ae6;by_cases h5:t<0
     ·rw [if_pos (.inl h5)]
      go_enter Tryz.func36,Tryz.ntmps36
      go_wp2_with fail
      go_ret;exact⟨by trivial,aG.out⟩
     ·by_cases h6:c<0
      ·rw [if_pos (.inr (.inl h6))]
       go_enter Tryz.func36,Tryz.ntmps36
       go_wp2_with fail
       go_ret;exact⟨by trivial,aG.out⟩
      ·by_cases h7:t=0
       ·have l8:(t==0)=true:=by rw [h7];rfl
        by_cases h8:c=0
        ·have Ex:(c==0)=true:=by rw [h8];rfl
         rw [if_neg (by rintro(x|x|x);exact h5 x;exact h6 x;exact x (by simp [h7,h8]))];clear h7 h8;go_enter Tryz.func36,Tryz.ntmps36
         go_wp2_with fail
         go_ret;exact⟨by trivial,aG.out⟩
        ·have Ex:(c==0)=false:=by rw [beq_eq_false_iff_ne];exact h8
         rw [if_pos (.inr (.inr (by rw [h7];intro y;exact h8 (y.1 rfl))))];clear h7 h8;go_enter Tryz.func36,Tryz.ntmps36
         go_wp2_with fail
         go_ret;exact⟨by trivial,aG.out⟩
       ·have l8:(t==0)=false:=by rw [beq_eq_false_iff_ne];exact h7
        by_cases h8:c=0
        ·have Ex:(c==0)=true:=by rw [h8];rfl
         rw [if_pos (.inr (.inr (by rw [h8];intro y;exact h7 (y.2 rfl))))];clear h7 h8;go_enter Tryz.func36,Tryz.ntmps36
         go_wp2_with fail
         go_ret;exact⟨by trivial,aG.out⟩
        ·have Ex:(c==0)=false:=by rw [beq_eq_false_iff_ne];exact h8
         rw [if_neg (by rintro(x|x|x);exact h5 x;exact h6 x;exact x (by constructor<;>intro y;exact absurd y h7;exact absurd y h8))];clear h7 h8;go_enter Tryz.func36,Tryz.ntmps36
         go_wp2_with fail
         go_ret;exact⟨by trivial,aG.out⟩
    ·have amj:(d !=2)=true:=by simpa using h4
     rw [if_pos (by rintro(x|x);exact h3 x;exact h4 x)];clear h3 h4;go_enter Tryz.func36,Tryz.ntmps36
     go_wp2_with fail
     go_ret;exact⟨by trivial,aG.out⟩
section
variable {W w w':World} {pr:Nat} {s:bH}
theorem iV.aE (h:iV W w pr s):ck w pr 215:=by
 obtain⟨a,c,hb,_⟩:=h.box;exact hb.aE
theorem iV.lt (h:iV W w pr s):pr<w.heap.size:=h.aE.lt
theorem aao (h:iV W w pr s):
 Calls Tryz.prog 127 #[.pointer ↑pr] w fun e w'=>e= .returned (mY s).1.agg∧iV W w' pr (mY s).2∧aK (fun g=>g=pr) w w':=by
 obtain⟨p,s1,h1⟩:∃p t,s.long=(p,t):=⟨_,_,rfl⟩;obtain⟨q,s2,h2⟩:∃p t,s1.long=(p,t):=⟨_,_,rfl⟩;obtain⟨c,kT,h3⟩:∃p t,s2.long=(p,t):=⟨_,_,rfl⟩;have hv:mY s=(⟨p,q,c⟩,kT):=by unfold mY;simp only [h1,h2,h3]
 rw [hv];unfold aB.agg;dsimp only;have hba:=Below.aI w (.cells #[.int .i64 0,.int .i64 0,.int .i64 0] 47);have R0:=af (h.below hba);have bU:Hid (av (w.alloc (.cells #[.int .i64 0,.int .i64 0,.int .i64 0] 47)) w.heap.size 47 #[.int .i64 0,.int .i64 0,.int .i64 0]):=af (av.new _ _ _);have Li:Hid (aK (fun g=>g=pr) w (w.alloc (.cells #[.int .i64 0,.int .i64 0,.int .i64 0] 47))):=af (Below.keeps hba);have FE:Hid (w.heap.size≠pr):=af (by have:=h.lt;omega);have Dk:Hid (W.heap.size≤w.heap.size):=af h.aJ.size;have H1:=af h1;have H2:=af h2;have H3:=af h3;have iD:Hid (w.heap.size≤w.heap.size):=af (Nat.le_refl _);clear h hba h1 h2 h3 hv;go_enter Tryz.func127,Tryz.ntmps127
 go_upto_region 1 with(fail)
 obtain⟨g,hg⟩:=ai w.heap.size;have mM:=af (Nat.le_of_eq hg);rw [hg]at bU FE Dk⊢;clear hg;generalize w.alloc (.cells #[.int .i64 0,.int .i64 0,.int .i64 0] 47)=w1 at*;go_wp2_with fail
 refine(Cm R0.out H1.out).mono ?_;rintro e w2 ⟨rfl,hr,hk⟩;have IL:=af hr;have aap:=af (bU.out.keeps hk FE.out);have DW:=af (Li.out.trans hk);clear hr hk bU R0 Li;go_wp2_with fail
 refine(Cm IL.out H2.out).mono ?_;rintro e w3 ⟨rfl,hr,hk⟩;have IM:=af hr;have aaq:=af (aap.out.keeps hk FE.out);have DX:=af (DW.out.trans hk);clear hr hk aap IL DW;go_wp2_with fail
 refine(Cm IM.out H3.out).mono ?_;rintro e az ⟨rfl,hr,hk⟩;have wW:=af hr;have HY:=af (aaq.out.keeps hk FE.out);have ol:=af (DX.out.trans hk);clear hr hk aaq IM DX;obtain⟨l0,l1,l2⟩:=HY.out.amv;have fz:∀o,az.frozen? ⟨g,o,none⟩=false:=fun o=>HY.out.frozen o;have mv:=aK.vP az g ↑p ↑q ↑c;have Lj:=af (wW.out.keep mv (Ne.symm FE.out) (fun b ht e=>ht.ne HY.out.aE (by decide) e) (fun k hk=>by have hk2:k=g:=hk;rw [hk2];exact Dk.out));have tU:=af (HY.out.vP ↑p ↑q ↑c);have Ll:Hid (aK (fun g=>g=pr) w (((az.setCell ⟨g,0,none⟩ ↑p).setCell ⟨g,1,none⟩ ↑q).setCell ⟨g,2,none⟩ ↑c)):=af (ol.out.step mv (fun k hk he=>by have iU:k=g:=he;have:=mM.out;omega));clear mv;go_wp2_with fail
 clear l0 l1 l2 fz;generalize ((az.setCell ↑g ↑p).setCell ⟨g,1,none⟩ ↑q).setCell ⟨g,2,none⟩ ↑c=wf at*;obtain⟨k0,k1,k2⟩:=tU.out.amv;refine bodyPost_ret (v:= .agg #[↑p,↑q,↑c]) (by simp [results,Tryz.results127,go_sem,k0,k1,k2]) rfl ⟨rfl,Lj.out,Ll.out⟩
end
structure SL (W w wr:World) (pr g2 c5 n:Nat) (s0:bH) (k:Nat) (v:Value) (acc:List aB) (t:bH):Prop where
 rd:iV W wr pr t
 cW:av wr c5 49 #[v,.int .i64 0,.int .i64 0,.int .i64 0,.bool false]
 br:av wr g2 49 #[.slice none 0 0,.int .i64 0,.int .i64 0,.int .i64 0,.bool false]
 row:bS.Row wr w.heap.size v acc
 kN:aK (fun g=>g=pr) w wr
 e1:acc++(oX (n-k) t).1=(oX n s0).1
 e2:(oX (n-k) t).2=(oX n s0).2
 len:acc.length=k
section
variable {W w w':World} {pr:Nat} {s:bH}
theorem aar:∀(n:Nat) (s:bH),(oX n s).1.length=n
 |0,_=>rfl
 |n+1,s=>by show((mY s).1::(oX n (mY s).2).1).length=n+1;rw [List.length_cons,aar n]
theorem aas (h:iV W w pr s):
 Calls Tryz.prog 93 #[.pointer ↑pr] w fun e w'=>∃sh:eO,e= .returned (.tuple #[.agg #[.slice sh.a sh.n sh.c,↑sh.im.ap,↑sh.im.aq,↑sh.im.count,↑sh.has],.bool (mm s).2.1])∧bV bS w' w.heap.size sh (mm s).1∧iV W w' pr (mm s).2.2∧aK (fun g=>g=pr) w w':=by
 obtain⟨nz,s1,h1⟩:∃p t,s.num 1=(p,t):=⟨_,_,rfl⟩;have xT:=bH.Lm h.ok;rw [h1]at xT;obtain⟨n,rfl⟩:∃n:Nat,nz=n:=⟨nz.toNat,by omega⟩;have hn:n≤255:=by omega
 have hv:mm s=xH (oX n s1).1 (oX n s1).2:=by unfold mm;simp only [h1,Int.toNat_natCast]
 rw [hv];have hz:=ak;have hb1:=(Below.aI w (.cells #[.slice none 0 0,.int .i64 0,.int .i64 0,.int .i64 0,.bool false] 49));have hb2:=hb1.trans ((Below.aI (w.alloc (.cells #[.slice none 0 0,.int .i64 0,.int .i64 0,.int .i64 0,.bool false] 49)) (.cells #[.slice none 0 0,.int .i64 0,.int .i64 0,.int .i64 0,.bool false] 49)).mono hb1.size);have fY:av ((w.alloc (.cells #[.slice none 0 0,.int .i64 0,.int .i64 0,.int .i64 0,.bool false] 49)).alloc (.cells #[.slice none 0 0,.int .i64 0,.int .i64 0,.int .i64 0,.bool false] 49)) w.heap.size 49 #[.slice none 0 0,.int .i64 0,.int .i64 0,.int .i64 0,.bool false]:=(av.new w _ _).alloc _
 have Bn:av ((w.alloc (.cells #[.slice none 0 0,.int .i64 0,.int .i64 0,.int .i64 0,.bool false] 49)).alloc (.cells #[.slice none 0 0,.int .i64 0,.int .i64 0,.int .i64 0,.bool false] 49)) (w.heap.size+1) 49 #[.slice none 0 0,.int .i64 0,.int .i64 0,.int .i64 0,.bool false]:=by
  have:=av.new (w.alloc (.cells #[.slice none 0 0,.int .i64 0,.int .i64 0,.int .i64 0,.bool false] 49)) 49 #[.slice none 0 0,.int .i64 0,.int .i64 0,.int .i64 0,.bool false]
  rwa [hz]at this
 have R0:=af (h.below hb2);have dG:=af fY;have lI:=af Bn;have Li:=af (Below.keeps (F:=fun g=>g=pr) hb2);have FE:Hid (pr<w.heap.size):=af h.lt;have Dk:Hid (W.heap.size≤w.heap.size):=af h.aJ.size;have H1:=af h1;have iD:=af hb2.size;clear h hz hb1 hb2 fY Bn h1 hv xT;go_enter Tryz.func93,Tryz.ntmps93
 go_upto_region 2 with(fail)
 obtain⟨g2,fY⟩:=ai w.heap.size;obtain⟨c5,Bn⟩:=ai (w.heap.size+1);have oz:Hid (g2≠c5∧pr<g2∧pr<c5∧w.heap.size≤g2∧w.heap.size≤c5):=af (by have:=FE.out;omega);rw [Bn]at lI⊢;rw [fY]at dG⊢;clear fY Bn;generalize (w.alloc (.cells #[.slice none 0 0,.int .i64 0,.int .i64 0,.int .i64 0,.bool false] 49)).alloc (.cells #[.slice none 0 0,.int .i64 0,.int .i64 0,.int .i64 0,.bool false] 49)=w1 at*;go_wp2_with fail
 refine(Ge R0.out H1.out).mono ?_;rintro e w2 ⟨rfl,hr,hk⟩;have zV:Hid (SL W w w2 pr g2 c5 n s1 0 (.slice none 0 0) [] s1):=af ⟨hr,lI.out.keeps hk (by have:=oz.out;omega),dG.out.keeps hk (by have:=oz.out;omega),bl.Row.nil _ _,Li.out.trans hk,rfl,rfl,rfl⟩;clear hr hk R0 dG lI Li;go_wp2_with fail
 go_loopw [8] (fun i w'=>∃(k:Nat) (v:Value) (acc:List aB) (t:bH),i=↑k∧k≤n∧SL W w w' pr g2 c5 n s1 k v acc t) (fun i _=>n-(RowKit.intOf i).toNat)
 case atStart=>exact⟨0,_,_,_,rfl,Nat.zero_le _,zV.out⟩
 case round=>
  clear zV;obtain⟨k,v,acc,t,rfl,hk,hI⟩:=hrel;obtain⟨ax,rfl⟩:=aj wr;have cU:=af hI;obtain⟨cJ,aY,gU⟩:=hI.row.form;have hal:=hI.len;clear hI;by_cases hlt:k<n
  ·have hlt':(k:Int)<(n:Int):=by omega
   subst gU;have hS:ax.cell? ↑c5=some (.slice cJ acc.length aY):=cU.out.cW.cell 0;have nV:=af (aao (cU.out.rd.below (Below.bO ax 1)));have nJ:Hid (oX (n-k) t=((mY t).1::(oX (n-(k+1)) (mY t).2).1,(oX (n-(k+1)) (mY t).2).2)):=af (by rw [show n-k=(n-(k+1))+1 by omega];rfl);obtain⟨x,t',hx⟩:∃x t',mY t=(x,t'):=⟨_,_,rfl⟩;rw [hx]at nV nJ;unfold aB.agg at nV;dsimp only at nV nJ;have Nd:=af hal;clear hx hal;go_upto_region 4 with(fail)
   refine cP (S:=fun w'=>w'.cell? ↑c5=some (.slice cJ acc.length aY)) hS fun hHeld=>?_;refine au 0 ?_;refine au 1 ?_;refine au 2 ?_;refine aU 3 fun K hK=>?_;go_simp;refine nV.out.mono ?_;rintro e w3 ⟨rfl,jr,kr⟩;have y4:=(Below.keeps (F:=fun g=>g=pr) (Below.bO ax 1)).trans kr;have gV:=af (cU.out.cW.keeps y4 (by have:=oz.out;omega));have aof:=af (cU.out.br.keeps y4 (by have:=oz.out;omega));have HZ:=af (cU.out.row.keep y4 (fun g hg e=>hg.ne cU.out.rd.aE (by decide) e));have ol:=af (cU.out.kN.trans y4);have wW:=af jr;refine hK.out _ _ (gV.out.cell 0) (fun hHeld=>?_);clear hK K jr kr y4 hS nV;have hba:=Below.aI w3 (.cells #[↑x.ap,↑x.aq,↑x.count] 47);have lN:=af (gV.out.below hba);have H6:=af (aof.out.below hba);have FF:=af (HZ.out.below hba);have rD:=af (ol.out.trans (Below.keeps hba));have vA:=af (wW.out.below hba);have uG:Hid (av (w3.alloc (.cells #[↑x.ap,↑x.aq,↑x.count] 47)) w3.heap.size 47 x.cells.toArray):=af (av.new _ _ _);obtain⟨aL,fO⟩:=ai w3.heap.size;refine aU 4 fun K hK=>?_;go_simp;refine hK.out _ _ (lN.out.cell 0) (fun hHeld=>?_);rw [fO]at uG;have NX:Hid (w.heap.size≤aL):=af (by have h1:=ol.out.size;omega);clear fO hK K hba gV aof HZ ol wW;generalize w3.alloc (.cells #[↑x.ap,↑x.aq,↑x.count] 47)=az at*;refine aU 5 fun K hK=>?_;refine bS.step (by rfl) (.tmp 11) (.tmp 14) (by rfl) w.heap.size (.slice cJ acc.length aY) acc (by rfl) FF.out aL x (by rfl) uG.out.lt uG.out.gH (by have:=Nd.out;omega) rD.out.size ?_;intro v' aA dl gb _;obtain⟨a5,b8,hM⟩:=dl.form;rw [show(acc++ [x]).length=acc.length+1 by rw [List.length_append];rfl]at hM;subst hM;have ja:=fK gb;have bT:∀g,(Value.slice cJ acc.length aY).ownBlock=some g→ck az g bS.t:=fun g hg=>eo FF.out g hg;have dw:∀g,(Value.slice cJ acc.length aY).ownBlock=some g→w.heap.size≤g:=cS FF.out;have mZ:=af (lN.out.keeps ja (fun e=>(bT _ e).ne lN.out.aE (by decide) rfl));have xI:=af (H6.out.keeps ja (fun e=>(bT _ e).ne H6.out.aE (by decide) rfl));have zz:=af (vA.out.keep ja (fun e=>(bT _ e).ne vA.out.aE (by decide) rfl) (fun b hb e=>(bT _ e).ne hb (by decide) rfl) (fun k hk=>Nat.le_trans Dk.out (dw k hk)));have AL:=af (rD.out.step ja (fun i hi hg=>absurd (dw i hg) (by omega)));have zX:=af dl;refine hK.out _ _ (mZ.out.cell 0) (fun hHeld=>?_);clear hK K dl gb ja bT dw lN H6 vA rD FF uG;refine au 6 ?_;refine dY 7 fun K hK=>?_;have lq:aA.cell? ↑c5=some (.slice cJ acc.length aY):=mZ.out.cell 0;have z5:aA.frozen? ↑c5=false:=mZ.out.frozen 0;go_simp;refine hK.out _ _ ?_;have fu:=ct aA c5 0 (.slice a5 (acc.length+1) b8);have bI:=mZ.out.aW 0 (.slice a5 (acc.length+1) b8);simp only [List.setIfInBounds_toArray,List.set_cons_zero]at bI
   have rQ:Hid (SL W w (aA.setCell ↑c5 (.slice a5 (acc.length+1) b8)) pr g2 c5 n s1 (k+1) (.slice a5 (acc.length+1) b8) (acc++ [x]) t'):=af
    ⟨zz.out.keep fu (by have:=oz.out;omega) (fun b hb e=>hb.ne mZ.out.aE (by decide) e) (fun k hk=>by have hk2:k=c5:=hk;rw [hk2];exact Nat.le_trans Dk.out oz.out.2.2.2.2),
     bI,xI.out.keeps fu oz.out.1,zX.out.keep fu (fun g hg e=>hg.ne mZ.out.aE (by decide) e),AL.out.step fu (fun i hi he=>by have iU:i=c5:=he;have:=oz.out;omega),
     by rw [←cU.out.e1,nJ.out];simp,by rw [←cU.out.e2,nJ.out],by rw [List.length_append,Nd.out];rfl⟩
   clear hK K hHeld lq z5 fu bI cU nJ mZ xI zz AL zX;go_wp2_with fail
   go_roundw
   case rel=>exact⟨k+1,_,_,_,by go_num,hlt,rQ.out⟩
   case measure=>simp [RowKit.intOf];omega
  ·have hkn:k=n:=by omega
   subst gU;have cO:Hid ((oX n s1).1=acc):=af (by rw [←cU.out.e1,hkn,Nat.sub_self];exact(List.append_nil _));have bP:Hid ((oX n s1).2=t):=af (by rw [←cU.out.e2,hkn,Nat.sub_self];rfl);obtain⟨y,t1,hy⟩:∃p u,t.num 1=(p,u):=⟨_,_,rfl⟩;have wC:=af hy;clear hal hkn hy;go_wp2_with fail
   refine(Ge cU.out.rd wC.out).mono ?_;rintro e w3 ⟨rfl,jr,kr⟩;have wW:=af jr;have gV:=af (cU.out.cW.keeps kr (by have:=oz.out;omega));have aof:=af (cU.out.br.keeps kr (by have:=oz.out;omega));have HZ:=af (cU.out.row.keep kr (fun g hg e=>hg.ne cU.out.rd.aE (by decide) e));have ol:=af (cU.out.kN.trans kr);clear jr kr cU;by_cases hy1:y=1
   ·subst hy1
    obtain⟨x,t2,hx⟩:∃x u,mY t1=(x,u):=⟨_,_,rfl⟩;have FG:Hid (xH acc t=(⟨acc,x,true⟩,true,t2)):=af (by unfold xH;rw [wC.out];simp only [if_true,hx]);have hgt:=aao wW.out;rw [hx]at hgt;unfold aB.agg at hgt;dsimp only at hgt;have nV:=af hgt;clear hgt hx;go_wp2_with fail
    refine nV.out.mono ?_;rintro e az ⟨rfl,gJ,iZ⟩;have vA:=af gJ;have lN:=af (gV.out.keeps iZ (by have:=oz.out;omega));have H6:=af (aof.out.keeps iZ (by have:=oz.out;omega));have FF:=af (HZ.out.keep iZ (fun g hg e=>hg.ne wW.out.aE (by decide) e));have rD:=af (ol.out.trans iZ);clear gJ iZ wW gV aof HZ ol nV;have fw:az.cell? ⟨c5,1,none⟩=some (.int .i64 0):=lN.out.cell 1;have z2:az.cell? ⟨c5,2,none⟩=some (.int .i64 0):=lN.out.cell 2;have z3:az.cell? ⟨c5,3,none⟩=some (.int .i64 0):=lN.out.cell 3;have z4:az.cell? ⟨c5,4,none⟩=some (.bool false):=lN.out.cell 4;have vt:∀o,az.frozen? ⟨c5,o,none⟩=false:=fun o=>lN.out.frozen o;have ja:=(((ct az c5 1 ↑x.ap).trans (ct _ c5 2 ↑x.aq)).trans (ct _ c5 3 ↑x.count)).trans (ct _ c5 4 (.bool true));have cx:=(((lN.out.aW 1 ↑x.ap).aW 2 ↑x.aq).aW 3 ↑x.count).aW 4 (.bool true);simp only [List.setIfInBounds_toArray,List.set_cons_zero,List.set_cons_succ]at cx;have mZ:=af cx;have xI:=af (H6.out.keeps ja oz.out.1);have zz:=af (vA.out.keep ja (by have:=oz.out;omega) (fun b hb e=>hb.ne lN.out.aE (by decide) e) (fun k hk=>by have hk2:k=c5:=hk;rw [hk2];exact Nat.le_trans Dk.out oz.out.2.2.2.2));have AL:=af (rD.out.step ja (fun i hi he=>by have iU:i=c5:=he;have:=oz.out;omega));have zX:=af (FF.out.keep ja (fun g hg e=>hg.ne lN.out.aE (by decide) e));clear ja cx;go_upto_region 9 with(fail)
    clear fw z2 z3 z4 vt lN H6 vA rD FF;generalize (((az.setCell ⟨c5,1,none⟩ ↑x.ap).setCell ⟨c5,2,none⟩ ↑x.aq).setCell ⟨c5,3,none⟩ ↑x.count).setCell ⟨c5,4,none⟩ (.bool true)=aA at*;obtain⟨x0,x1,aZ,cl,cw⟩:=mZ.out.amx;obtain⟨l0,l1,l2,l3,l4⟩:=xI.out.amx;have fz:∀o,aA.frozen? ⟨g2,o,none⟩=false:=fun o=>xI.out.frozen o;have mv:=aK.qc aA g2 (.slice cJ acc.length aY) (.int .i64 (x.ap)) (.int .i64 (x.aq)) (.int .i64 (x.count)) (.bool true);have tU:=af (xI.out.qc (.slice cJ acc.length aY) (.int .i64 (x.ap)) (.int .i64 (x.aq)) (.int .i64 (x.count)) (.bool true));have Lj:=af (zz.out.keep mv (by have:=oz.out;omega) (fun b hb e=>hb.ne xI.out.aE (by decide) e) (fun k hk=>by have hk2:k=g2:=hk;rw [hk2];exact Nat.le_trans Dk.out oz.out.2.2.2.1));have Ll:Hid (aK (fun g=>g=pr) w (((((aA.setCell ↑g2 (.slice cJ acc.length aY)).setCell ⟨g2,1,none⟩ (.int .i64 (x.ap))).setCell ⟨g2,2,none⟩ (.int .i64 (x.aq))).setCell ⟨g2,3,none⟩ (.int .i64 (x.count))).setCell ⟨g2,4,none⟩ (.bool true))):=af (AL.out.step mv (fun i hi he=>by have iU:i=g2:=he;have:=oz.out;omega));have SM:=af (zX.out.keep mv (fun g hg e=>hg.ne xI.out.aE (by decide) e));clear mv;go_wp2_with fail
    clear x0 x1 aZ cl cw l0 l1 l2 l3 l4 fz;generalize (((((aA.setCell ↑g2 (.slice cJ acc.length aY)).setCell ⟨g2,1,none⟩ (.int .i64 (x.ap))).setCell ⟨g2,2,none⟩ (.int .i64 (x.aq))).setCell ⟨g2,3,none⟩ (.int .i64 (x.count))).setCell ⟨g2,4,none⟩ (.bool true))=wf at*;obtain⟨f0,f1,f2,f3,f4⟩:=tU.out.amx;refine bodyPost_ret (v:= .tuple #[.agg #[.slice cJ acc.length aY,.int .i64 (x.ap),.int .i64 (x.aq),.int .i64 (x.count),.bool true],.bool (true)]) (by simp [results,Tryz.results93,go_sem,f0,f1,f2,f3,f4]) rfl ⟨⟨cJ,acc.length,aY,x,true⟩,?_,?_,?_,Ll.out⟩
    ·rw [cO.out,bP.out,FG.out];try rfl
    ·rw [cO.out,bP.out,FG.out];exact⟨rfl,SM.out,rfl,rfl⟩
    ·rw [cO.out,bP.out,FG.out];exact Lj.out
   ·have ad5:(y==1)=false:=by rw [beq_eq_false_iff_ne];exact hy1
    have FG:Hid (xH acc t=(⟨acc,jD,false⟩,decide (y≤1),t1)):=af (by unfold xH;rw [wC.out];exact if_neg hy1);clear hy1;obtain⟨x0,x1,aZ,cl,cw⟩:=gV.out.amx;obtain⟨l0,l1,l2,l3,l4⟩:=aof.out.amx;have fz:∀o,w3.frozen? ⟨g2,o,none⟩=false:=fun o=>aof.out.frozen o;have mv:=aK.qc w3 g2 (.slice cJ acc.length aY) (.int .i64 (0)) (.int .i64 (0)) (.int .i64 (0)) (.bool false);have tU:=af (aof.out.qc (.slice cJ acc.length aY) (.int .i64 (0)) (.int .i64 (0)) (.int .i64 (0)) (.bool false));have Lj:=af (wW.out.keep mv (by have:=oz.out;omega) (fun b hb e=>hb.ne aof.out.aE (by decide) e) (fun k hk=>by have hk2:k=g2:=hk;rw [hk2];exact Nat.le_trans Dk.out oz.out.2.2.2.1));have Ll:Hid (aK (fun g=>g=pr) w (((((w3.setCell ↑g2 (.slice cJ acc.length aY)).setCell ⟨g2,1,none⟩ (.int .i64 (0))).setCell ⟨g2,2,none⟩ (.int .i64 (0))).setCell ⟨g2,3,none⟩ (.int .i64 (0))).setCell ⟨g2,4,none⟩ (.bool false))):=af (ol.out.step mv (fun i hi he=>by have iU:i=g2:=he;have:=oz.out;omega));have SM:=af (HZ.out.keep mv (fun g hg e=>hg.ne aof.out.aE (by decide) e));clear mv;go_wp2_with fail
    clear x0 x1 aZ cl cw l0 l1 l2 l3 l4 fz;generalize (((((w3.setCell ↑g2 (.slice cJ acc.length aY)).setCell ⟨g2,1,none⟩ (.int .i64 (0))).setCell ⟨g2,2,none⟩ (.int .i64 (0))).setCell ⟨g2,3,none⟩ (.int .i64 (0))).setCell ⟨g2,4,none⟩ (.bool false))=wf at*;obtain⟨f0,f1,f2,f3,f4⟩:=tU.out.amx;refine bodyPost_ret (v:= .tuple #[.agg #[.slice cJ acc.length aY,.int .i64 (0),.int .i64 (0),.int .i64 (0),.bool false],.bool (decide (y≤1))]) (by simp [results,Tryz.results93,go_sem,f0,f1,f2,f3,f4]) rfl ⟨⟨cJ,acc.length,aY,jD,false⟩,?_,?_,?_,Ll.out⟩
    ·rw [cO.out,bP.out,FG.out];try rfl
    ·rw [cO.out,bP.out,FG.out];exact⟨rfl,SM.out,rfl,rfl⟩
    ·rw [cO.out,bP.out,FG.out];exact Lj.out
end
end Go.Proofs.YtmaijkoopjocdaaGreat
