import Derived.Test.YtmaijkoopjocdaaGreatKT20
set_option maxRecDepth 100000
set_option maxHeartbeats 64000000
namespace Go.Proofs.YtmaijkoopjocdaaGreat
open Go.RowKit
def pu (x:ay):List ax→List ax
 | []=> [⟨x.ag,x.ah,1⟩]
 | [l]=>if l.ag=x.ag then [⟨l.ag,l.ah+x.ah,l.count+1⟩]else [l,⟨x.ag,x.ah,1⟩]
 |l::m::M=>l::pu x (m::M)
theorem aeC (o:ay) (M:List ax):oH o M≠ []:=by
 cases M with
 |nil=>simp [oH]
 |cons l M=>
  show(if l.ag=o.ag then(⟨o.ag,o.ah+l.ah,1+l.count⟩:ax)::M else⟨o.ag,o.ah,1⟩::l::M)≠ [];split<;>simp
theorem aeD (x o:ay) (M:List ax) (og:M≠ []):pu x (oH o M)=oH o (pu x M):=by
 cases M with
 |nil=>exact absurd rfl og
 |cons l M=>
  cases M with
  |nil=>
   show pu x (if l.ag=o.ag then [⟨o.ag,o.ah+l.ah,1+l.count⟩]else [⟨o.ag,o.ah,1⟩,l])=oH o (if l.ag=x.ag then [⟨l.ag,l.ah+x.ah,l.count+1⟩]else [l,⟨x.ag,x.ah,1⟩]);by_cases h1:l.ag=o.ag<;>by_cases h2:l.ag=x.ag
   ·rw [if_pos h1,if_pos h2]
    show(if o.ag=x.ag then _ else _)=(if l.ag=o.ag then _ else _);rw [if_pos (h1▸h2),if_pos h1];simp [Int.add_assoc]
   ·rw [if_pos h1,if_neg h2]
    show(if o.ag=x.ag then _ else _)=(if l.ag=o.ag then _ else _);rw [if_neg (h1▸h2),if_pos h1]
   ·rw [if_neg h1,if_pos h2]
    show _::(if l.ag=x.ag then _ else _)=(if l.ag=o.ag then _ else _);rw [if_pos h2,if_neg h1]
   ·rw [if_neg h1,if_neg h2]
    show _::(if l.ag=x.ag then _ else _)=(if l.ag=o.ag then _ else _);rw [if_neg h2,if_neg h1]
  |cons m M=>
   show pu x (if l.ag=o.ag then⟨o.ag,o.ah+l.ah,1+l.count⟩::m::M else⟨o.ag,o.ah,1⟩::l::m::M)=(if l.ag=o.ag then⟨o.ag,o.ah+l.ah,1+l.count⟩::pu x (m::M)else⟨o.ag,o.ah,1⟩::l::pu x (m::M));split<;>rfl
theorem aeE {S:List ay} (h:S≠ []):iO S≠ []:=by
 cases S with
 |nil=>exact absurd rfl h
 |cons o S=>exact aeC o _
theorem aeF (S:List ay) (x:ay):iO (S++ [x])=pu x (iO S):=by
 induction S with
 |nil=>rfl
 |cons o S ih=>
  show oH o (iO (S++ [x]))=pu x (oH o (iO S));rw [ih];by_cases hS:S= []
  ·subst hS
   show oH o [⟨x.ag,x.ah,1⟩]=pu x [⟨o.ag,o.ah,1⟩];show(if x.ag=o.ag then _ else _)=(if o.ag=x.ag then _ else _);by_cases h:x.ag=o.ag
   ·rw [if_pos h,if_pos h.symm]
   ·rw [if_neg h,if_neg (Ne.symm h)]
  ·rw [aeD x o _ (aeE hS)]
theorem aeG {x:ay} {M:List ax} (h:∀l,M.getLast? =some l→l.ag≠x.ag):pu x M=M++ [⟨x.ag,x.ah,1⟩]:=by
 induction M with
 |nil=>rfl
 |cons l M ih=>
  cases M with
  |nil=>exact if_neg (h l rfl)
  |cons m M=>
   show l::pu x (m::M)=l::((m::M)++_);rw [ih fun z hz=>h z (by rw [List.getLast?_cons_cons];exact hz)]
theorem aeH {x:ay} {M:List ax} {j:Nat} {l:ax} (hj:M.length=j+1) (hl:M[j]? =some l) (he:l.ag=x.ag):pu x M=M.set j ⟨l.ag,l.ah+x.ah,l.count+1⟩:=by
 induction M generalizing j with
 |nil=>simp at hj
 |cons a M ih=>
  cases M with
  |nil=>
   have:j=0:=by simpa using hj.symm
   subst this;have:a=l:=by simpa using hl
   subst this;exact if_pos he
  |cons m M=>
   obtain⟨j',rfl⟩:∃j',j=j'+1:=⟨j-1,by simp at hj;omega⟩;show a::pu x (m::M)=a::(m::M).set j' _;rw [ih (j:=j') (by simpa using hj) (by simpa using hl)]
theorem WA {S:List ay} (h:∀o∈S,1≤o.ah∧o.ah≤1000000):∀l∈iO S,(0≤l.ah∧l.ah≤1000000*S.length)∧0≤l.count∧l.count≤S.length:=by
 induction S with
 |nil=>intro l hl;simp [iO]at hl
 |cons o S ih=>
  have LX:=ih fun x hx=>h x (List.mem_cons_of_mem _ hx);have ho:=h o (List.mem_cons_self ..);intro l hl;have hl':l∈oH o (iO S):=hl;rw [List.length_cons];cases hg:iO S with
  |nil=>
   rw [hg]at hl';simp only [oH,List.mem_singleton]at hl';subst hl';dsimp only;omega
  |cons z zs=>
   rw [hg]at hl' LX;simp only [oH]at hl';split at hl'
   ·rcases List.mem_cons.1 hl' with rfl|h2
    ·have:=LX z (List.mem_cons_self ..)
     dsimp only;omega
    ·have:=LX l (List.mem_cons_of_mem _ h2)
     omega
   ·rcases List.mem_cons.1 hl' with rfl|h2
    ·dsimp only
     omega
    ·have:=LX l h2
     omega
theorem Pm (S:List ay):(iO S).length≤S.length:=by
 induction S with
 |nil=>exact Nat.le_refl _
 |cons o S ih=>
  show(oH o (iO S)).length≤_;rw [List.length_cons];cases hg:iO S with
  |nil=>simp [oH]
  |cons z zs=>
   rw [hg,List.length_cons]at ih;show(if z.ag=o.ag then(⟨o.ag,o.ah+z.ah,1+z.count⟩:ax)::zs else⟨o.ag,o.ah,1⟩::z::zs).length≤_;split
   ·rw [List.length_cons];omega
   ·rw [List.length_cons,List.length_cons];omega
section
variable {W w w':World} {pw:Nat} {L:List ay}
theorem aeI {L:List ay} {k:Nat} {o:ay} (h:L[k]? =some o) (s:Int):iO (p6 (L.take (k+1)) s)=if o.side=s then pu o (iO (p6 (L.take k) s))else iO (p6 (L.take k) s):=by
 unfold p6;rw [Wz h];by_cases hs:o.side=s
 ·rw [if_pos (by simpa using hs),if_pos hs,aeF]
 ·rw [if_neg (by simpa using hs),if_neg hs,List.append_nil]
theorem LL (h:gC W w pw L) (hl:L.length≤250) (hq:∀o∈L,1≤o.ah∧o.ah≤1000000) (side:Int):
 Calls Tryz.prog 61 #[.pointer (some ⟨pw,0,none⟩),.int .i64 side] w fun e w'=>∃v,e= .returned v∧bC.Row w' w.heap.size v (j9 L side)∧Below w.heap.size w w':=by
 have H:=af h;have gM:=af hq;clear h hq;have cG:Hid (j9 L side=iO (p6 L side)):=af rfl;go_enter Tryz.func61,Tryz.ntmps61
 go_wp2_with fail
 go_loopw [5,6] (fun v j w'=>∃k:Nat,j= .int .i64 k∧k≤L.length∧bC.Row w' w.heap.size v (iO (p6 (L.take k) side))∧Below w.heap.size w w') (fun _ j _=>L.length-(RowKit.intOf j).toNat)
 case atStart=>exact⟨0,rfl,Nat.zero_le _,aY.Row.nil _ _,Below.refl _ _⟩
 case round=>
  obtain⟨k,rfl,hk,hrow,hb⟩:=hrel;obtain⟨ak,rfl⟩:∃bk:World,bk=wr:=⟨_,rfl⟩;have ec:=af hrow;have gZ:=af hb;obtain⟨a,c,aP,hrw⟩:=(H.out.below hb).box;obtain⟨a',c',he,_,hrd⟩:=hrw.rd;injection he with ej _ jK;subst ej jK;have jD:ak.cell? ⟨pw,0,none⟩=some (.slice a L.length c):=aP.cell 0;clear hrow hb aP hrw;by_cases hlt:k<L.length
  ·have hlt':(k:Int)<(L.length:Int):=by omega
   obtain⟨o,ho⟩:∃o,L[k]? =some o:=⟨_,List.getElem?_eq_getElem hlt⟩;obtain⟨g,off,rfl,_,hc⟩:=hrd k o ho;have l6:=af (aeI ho side);have lR:=af (WA (S:=p6 (L.take k) side) fun o ho=>gM.out o (List.mem_of_mem_take (List.mem_filter.1 ho).1));have jP:Hid ((iO (p6 (L.take k) side)).length≤250):=af (Nat.le_trans (Pm _) (Nat.le_trans (List.length_filter_le _ _) (by rw [List.length_take];omega)));have zi:Hid ((p6 (L.take k) side).length≤250):=af (Nat.le_trans (List.length_filter_le _ _) (by rw [List.length_take];omega));have hoq:=gM.out o (List.mem_of_getElem? ho);obtain⟨f0,f1,f2,f3,f4⟩:=o;have hq1:1≤f3:=hoq.1;have hq2:f3≤1000000:=hoq.2;have c0:ak.cell? ⟨g,off+k*5,none⟩=some (.int .i64 f0):=hc 0 _ rfl;have c1:ak.cell? ⟨g,off+k*5+1,none⟩=some (.int .i64 f1):=hc 1 _ rfl;have c2:ak.cell? ⟨g,off+k*5+2,none⟩=some (.int .i64 f2):=hc 2 _ rfl;have c3:ak.cell? ⟨g,off+k*5+3,none⟩=some (.int .i64 f3):=hc 3 _ rfl;have dn:ak.cell? ⟨g,off+k*5+4,none⟩=some (.bool f4):=hc 4 _ rfl;clear hc ho hrd hoq;go_upto_region 6 with(fail)
   clear c0 c1 c2 c3 dn jD;have hnew:aj (ak.alloc (.cells #[.int .i64 f0,.int .i64 f1,.int .i64 f2,.int .i64 f3,.bool f4] 139)) ak.heap.size 139 #[.int .i64 f0,.int .i64 f1,.int .i64 f2,.int .i64 f3,.bool f4]:=aj.new _ _ _;have hba:=Below.aA ak (.cells #[.int .i64 f0,.int .i64 f1,.int .i64 f2,.int .i64 f3,.bool f4] 139);have hO:=ec.out.below hba;have hb4:=gZ.out.trans (hba.mono gZ.out.size);obtain⟨aM,jA⟩:∃aM,ak.heap.size=aM:=⟨_,rfl⟩;rw [jA]at hnew⊢;clear jA hba ec gZ;generalize ak.alloc (.cells #[.int .i64 f0,.int .i64 f1,.int .i64 f2,.int .i64 f3,.bool f4] 139)=g3 at*;have zF:=af hnew;have ec:=af hO;have ke:=af hb4;have x1:g3.cell? ⟨aM,1,none⟩=some (.int .i64 f1):=hnew.cell 1;clear hnew hO hb4;by_cases hs:f1=side
   ·replace l6:Hid (iO (p6 (L.take (k+1)) side)=pu ⟨f0,f1,f2,f3,f4⟩ (iO (p6 (L.take k) side))):=af (by rw [l6.out,if_pos hs])
    generalize iO (p6 (L.take k) side)=nB at*;subst hs;obtain⟨va,vc,iN⟩:=ec.out.form;obtain⟨m,hm⟩:∃m,nB.length=m:=⟨_,rfl⟩;rw [hm]at iN;have cA:=af hm;clear hm;subst iN;go_upto_region 8 with(fail)
    clear x1;have bl:g3.cell? ⟨aM,2,none⟩=some (.int .i64 f2):=zF.out.cell 2
    obtain⟨kO,q5⟩:∃kO:Bool,Hid ((kO=true→∀l,nB.getLast? =some l→l.ag≠f2)∧(kO=false→∃j l,m=j+1∧nB[j]? =some l∧l.ag=f2)∧((m=0∧kO=true)∨∃j l,m=j+1∧nB[j]? =some l∧kO= !decide (l.ag=f2))):=by
     have hm:=cA.out;rcases Nat.eq_zero_or_pos m with h0|h0
     ·refine⟨true,af ⟨fun _ l hl=>?_,fun h=>(by cases h),.inl ⟨h0,rfl⟩⟩⟩
      rw [List.length_eq_zero_iff.1 (hm.trans h0)]at hl;cases hl
     ·obtain⟨l,hl⟩:∃l,nB[m-1]? =some l:=⟨_,List.getElem?_eq_getElem (by omega)⟩
      refine⟨!decide (l.ag=f2),af ⟨fun ht l' hl'=>?_,fun ht=>⟨m-1,l,by omega,hl,by simpa using ht⟩,.inr ⟨m-1,l,by omega,hl,rfl⟩⟩⟩;rw [List.getLast?_eq_getElem?,hm,hl]at hl';injection hl' with hl';subst hl'
      simpa using ht
    go_cut [43] (fun v wx=>v= .bool kO∧Below g3.heap.size g3 wx)
    case first=>
     rcases q5.out.2.2 with⟨rfl,ht⟩|⟨j,l,rfl,hl,ht⟩
     ·subst ht
      go_quiet (fail)
      go_wp2_with fail
      go_meet;exact⟨rfl,Below.bT _ _⟩
     ·obtain⟨c8,y5,dU,_,sV⟩:=aY.Row.at_ ec.out j l hl
      injection dU with dU rW pU;subst dU;clear rW pU
      have WB:(j:Int)≤250:=by
       have h1:=cA.out;have h2:=jP.out;omega
      have hz1:(((j+1:Nat):Int)==0)=false:=by rw [beq_eq_false_iff_ne];omega
      have dG:((j:Int)+1==0)=false:=by rw [beq_eq_false_iff_ne];omega
      obtain⟨eO,Fz⟩:∃y,l.ag=y:=⟨_,rfl⟩;have jO:g3.cell? ⟨c8,j*3,none⟩=some (.int .i64 eO):=Fz▸sV 0 _ rfl;rw [Fz]at ht;clear sV hl Fz;by_cases g9:eO=f2
      ·subst g9
       obtain rfl:kO=false:=by rw [ht];simp
       clear ht;go_quiet (fail)
       go_wp2_with fail
       go_meet;exact⟨rfl,Below.bT _ _⟩
      ·have ze:(eO !=f2)=true:=by rw [bne_iff_ne];exact g9
       obtain rfl:kO=true:=by rw [ht];simp [g9]
       clear ht;go_quiet (fail)
       go_wp2_with fail
       go_meet;exact⟨rfl,Below.bT _ _⟩
    case rest=>
    obtain⟨rfl,hb⟩:=hcut;obtain⟨wy,rfl⟩:∃bk:World,bk=wc:=⟨_,rfl⟩;have IE:=af (zF.out.below hb);have Dm:=af (ec.out.below hb);have fM:=af (ke.out.trans (hb.mono ke.out.size));clear hb zF ec ke bl;cases kO with
    |true=>
     as_aux_lemma=>
     have mm:Hid (pu ⟨f0,f1,f2,f3,f4⟩ nB=nB++ [⟨f2,f3,1⟩]):=af (aeG (q5.out.1 rfl));have bl:wy.cell? ⟨aM,2,none⟩=some (.int .i64 f2):=IE.out.cell 2;have hnew:aj (wy.alloc (.cells #[.int .i64 f2,.int .i64 0,.int .i64 0] 101)) wy.heap.size 101 (⟨f2,0,0⟩:ax).cells.toArray:=aj.new _ _ _;have wY:=af hnew;have hba:=Below.aA wy (.cells #[.int .i64 f2,.int .i64 0,.int .i64 0] 101);have fL:=af (Dm.out.below hba);have bM:=af (fM.out.trans (hba.mono fM.out.size));have sW:=af (IE.out.below hba)
     have WB:(m:Int)≤250:=by
      have h1:=cA.out;have h2:=jP.out;omega
     clear hnew hba
     go_wp2_with (first
      |(at_builtin;go_loud (refine bC.push rfl (.tmp 44) (.tmp 48) rfl w.heap.size (.slice va m vc) nB rfl fL.out wy.heap.size ⟨f2,0,0⟩ rfl wY.out.lt wY.out.fU (by rw [cA.out];omega) bM.out.size ?_)))
     intro v' aK bO cB ez;have bF:=gF cB bM.out (cx fL.out);have hkp:=fe cB;have HZ:=sW.out.keeps hkp (fun hg=>(sW.out.aC).ne (dR fL.out _ hg) (by decide) rfl);obtain⟨g,cap,cur,dl,fj,hgt⟩:=bO.Ak (by simp);rw [List.length_append,cA.out]at dl;subst dl;have sA:=af bO;have ke:=af bF;have zF:=af HZ;have cE:=af fj;have sX:=af hgt;have cX:Hid ((nB++ [(⟨f2,0,0⟩:ax)])[m]? =some (⟨f2,0,0⟩:ax)):=af (by rw [←cA.out,List.getElem?_append_right (Nat.le_refl _),Nat.sub_self];rfl);have P5:Hid (pu ⟨f0,f1,f2,f3,f4⟩ nB=(nB++ [(⟨f2,0,0⟩:ax)]).set m ⟨f2,f3,1⟩):=af (by rw [mm.out,←cA.out,List.set_append_right _ _ (Nat.le_refl _),Nat.sub_self];rfl);clear bO bF hkp HZ fj hgt cB ez wY fL bM sW Dm IE fM bl mm q5;generalize aK=g3 at*;have B8:=(aY.Row.at_ sA.out m _ cX.out);obtain⟨c8,y5,dU,_,sV⟩:=B8;injection dU with dU rW pU;injection dU with dU;injection dU with dU;subst dU;clear rW pU;have q1:g3.cell? ⟨g,m*3+1,none⟩=some (.int .i64 0):=sV 1 _ rfl;have dK:g3.cell? ⟨aM,3,none⟩=some (.int .i64 f3):=zF.out.cell 3;have fz:∀o,g3.frozen? ⟨g,o,none⟩=false:=fun o=>sX.out.frozen o;clear sV;have aeJ:IntKind.i64.wrap (m:Int)=(m:Int):=IntWalk.i64_in _ (by omega);have aeK:(m:Int)<(m:Int)+1:=by omega
     have aeL:(0:Int)≤(m:Int):=by omega
     go_upto_region 11 with(fail)
     refine cF (S:=fun w'=>w'.cell? ⟨g,m*3+1,none⟩=some (.int .i64 0)∧w'.cell? ⟨aM,3,none⟩=some (.int .i64 f3)) (by kernel_rfl) ⟨q1,dK⟩ (fun hHeld=>?_);refine ai 0 ?_;refine ai 1 ?_;refine ai 2 ?_;refine ai 3 ?_;refine ai 4 ?_;refine ai 5 ?_;refine ai 6 ?_;refine ai 7 ?_;refine ai 8 ?_;refine ai 9 ?_;refine ai 10 ?_;refine ai 11 ?_;refine ai 12 ?_;refine ai 13 ?_;refine cO 14 fun K hK=>?_;go_simp;try rw [show IntKind.i64.wrap (f3)=f3 from IntWalk.i64_in _ (by omega)]
     refine hK.out _ _ ?_;clear hK K hHeld q1 dK fz;have mv:bC.Row ((g3.setCell ⟨g,m*3+1,none⟩ (.int .i64 (f3))).drew) w.heap.size _ ((nB++ [(⟨f2,0,0⟩:ax)]).set m ⟨f2,f3,0⟩):=(aY.Row.aQ sA.out (e':=(⟨f2,f3,0⟩:ax)) (k:=1) (u:= .int .i64 (f3)) cX.out (by decide) rfl).below (Below.bT _ 1);have hb0:=ke.out.setCell (p:=⟨g,m*3+1,none⟩) cE.out (.int .i64 (f3));have hb1:Below w.heap.size w ((g3.setCell ⟨g,m*3+1,none⟩ (.int .i64 (f3))).drew):=hb0.trans ((Below.bT _ 1).mono hb0.size);have dz:aj ((g3.setCell ⟨g,m*3+1,none⟩ (.int .i64 (f3))).drew) g bC.t _:=(sX.out.aQ (m*3+1) (.int .i64 (f3))).below (Below.bT _ 1);have rQ:Hid (((nB++ [(⟨f2,0,0⟩:ax)]).set m ⟨f2,f3,0⟩)[m]? =some (⟨f2,f3,0⟩:ax)):=af (by rw [List.getElem?_set_self (dc cX.out)]);replace sA:=af mv;replace ke:=af hb1;replace sX:=af dz;clear mv hb0 hb1 dz zF;generalize (g3.setCell ⟨g,m*3+1,none⟩ (.int .i64 (f3))).drew=wp at*;obtain⟨c8,y5,dU,_,sV⟩:=aY.Row.at_ sA.out m _ rQ.out;injection dU with dU rW pU;injection dU with dU;injection dU with dU;subst dU;clear rW pU;have e5:wp.cell? ⟨g,m*3+2,none⟩=some (.int .i64 0):=sV 2 _ rfl;have fz:∀o,wp.frozen? ⟨g,o,none⟩=false:=fun o=>sX.out.frozen o;clear sV;go_wp2_with fail
     clear e5 fz;have gv:bC.Row (wp.setCell ⟨g,m*3+2,none⟩ (.int .i64 (1))) w.heap.size _ (((nB++ [(⟨f2,0,0⟩:ax)]).set m ⟨f2,f3,0⟩).set m ⟨f2,f3,1⟩):=aY.Row.aQ sA.out (e':=(⟨f2,f3,1⟩:ax)) (k:=2) (u:= .int .i64 (1)) rQ.out (by decide) rfl;rw [List.set_set,←P5.out]at gv;have jx:=af gv;have aT:=af (ke.out.setCell (p:=⟨g,m*3+2,none⟩) cE.out (.int .i64 (1)));clear gv;go_roundw
     case rel=>exact⟨k+1,by go_num,by omega,by rw [l6.out];exact jx.out,aT.out⟩
     case measure=>simp [RowKit.intOf];omega
    |false=>
     as_aux_lemma=>
     obtain⟨j,l,rfl,hl,Fz⟩:=q5.out.2.1 rfl;have eV:=af (aeH (x:=⟨f0,f1,f2,f3,f4⟩) cA.out hl Fz);have hbd:=lR.out l (List.mem_of_getElem? hl);have hsl:=zi.out;obtain⟨g,cap,cur,dl,fj,hgt⟩:=Dm.out.Ak (by rintro rfl;cases hl);obtain⟨eO,fC,lc⟩:=l;have ai0:0≤fC:=hbd.1.1;have ai1:fC≤250000000:=by have:=hbd.1.2;dsimp only at this;omega
     have ai2:0≤lc:=hbd.2.1;have ai3:lc≤250:=by have:=hbd.2.2;dsimp only at this;omega
     injection dl with dl rW pU;subst dl;clear rW pU
     have WB:(j:Int)≤250:=by
      have h1:=cA.out;have h2:=jP.out;omega
     replace Dm:Hid (bC.Row wy w.heap.size (.slice (some ⟨g,0,none⟩) (j+1) vc) nB):=Dm;have sA:=af Dm.out;have ke:=af fM.out;have zF:=af IE.out;have cE:=af fj;have sX:=af hgt;have cX:=af hl;have P5:Hid (pu ⟨f0,f1,f2,f3,f4⟩ nB=nB.set j ⟨eO,fC+f3,lc+1⟩):=af eV.out;clear hl Fz hbd hsl fj hgt Dm IE fM q5 eV;generalize wy=g3 at*;have B8:=(aY.Row.at_ sA.out j _ cX.out);obtain⟨c8,y5,dU,_,sV⟩:=B8;injection dU with dU rW pU;injection dU with dU;injection dU with dU;subst dU;clear rW pU;have q1:g3.cell? ⟨g,j*3+1,none⟩=some (.int .i64 fC):=sV 1 _ rfl;have dK:g3.cell? ⟨aM,3,none⟩=some (.int .i64 f3):=zF.out.cell 3;have fz:∀o,g3.frozen? ⟨g,o,none⟩=false:=fun o=>sX.out.frozen o;clear sV;have aeJ:IntKind.i64.wrap (j:Int)=(j:Int):=IntWalk.i64_in _ (by omega);have aeK:(j:Int)<(j:Int)+1:=by omega
     have aeL:(0:Int)≤(j:Int):=by omega
     go_upto_region 11 with(fail)
     refine cF (S:=fun w'=>w'.cell? ⟨g,j*3+1,none⟩=some (.int .i64 fC)∧w'.cell? ⟨aM,3,none⟩=some (.int .i64 f3)) (by kernel_rfl) ⟨q1,dK⟩ (fun hHeld=>?_);refine ai 0 ?_;refine ai 1 ?_;refine ai 2 ?_;refine ai 3 ?_;refine ai 4 ?_;refine ai 5 ?_;refine ai 6 ?_;refine ai 7 ?_;refine ai 8 ?_;refine ai 9 ?_;refine ai 10 ?_;refine ai 11 ?_;refine ai 12 ?_;refine ai 13 ?_;refine cO 14 fun K hK=>?_;go_simp;try rw [show IntKind.i64.wrap (fC+f3)=fC+f3 from IntWalk.i64_in _ (by omega)]
     refine hK.out _ _ ?_;clear hK K hHeld q1 dK fz;have mv:bC.Row ((g3.setCell ⟨g,j*3+1,none⟩ (.int .i64 (fC+f3))).drew) w.heap.size _ (nB.set j ⟨eO,fC+f3,lc⟩):=(aY.Row.aQ sA.out (e':=(⟨eO,fC+f3,lc⟩:ax)) (k:=1) (u:= .int .i64 (fC+f3)) cX.out (by decide) rfl).below (Below.bT _ 1);have hb0:=ke.out.setCell (p:=⟨g,j*3+1,none⟩) cE.out (.int .i64 (fC+f3));have hb1:Below w.heap.size w ((g3.setCell ⟨g,j*3+1,none⟩ (.int .i64 (fC+f3))).drew):=hb0.trans ((Below.bT _ 1).mono hb0.size);have dz:aj ((g3.setCell ⟨g,j*3+1,none⟩ (.int .i64 (fC+f3))).drew) g bC.t _:=(sX.out.aQ (j*3+1) (.int .i64 (fC+f3))).below (Below.bT _ 1);have rQ:Hid ((nB.set j ⟨eO,fC+f3,lc⟩)[j]? =some (⟨eO,fC+f3,lc⟩:ax)):=af (by rw [List.getElem?_set_self (dc cX.out)]);replace sA:=af mv;replace ke:=af hb1;replace sX:=af dz;clear mv hb0 hb1 dz zF;generalize (g3.setCell ⟨g,j*3+1,none⟩ (.int .i64 (fC+f3))).drew=wp at*;obtain⟨c8,y5,dU,_,sV⟩:=aY.Row.at_ sA.out j _ rQ.out;injection dU with dU rW pU;injection dU with dU;injection dU with dU;subst dU;clear rW pU;have e5:wp.cell? ⟨g,j*3+2,none⟩=some (.int .i64 lc):=sV 2 _ rfl;have fz:∀o,wp.frozen? ⟨g,o,none⟩=false:=fun o=>sX.out.frozen o;clear sV;go_wp2_with fail
     clear e5 fz;have gv:bC.Row (wp.setCell ⟨g,j*3+2,none⟩ (.int .i64 (lc+1))) w.heap.size _ ((nB.set j ⟨eO,fC+f3,lc⟩).set j ⟨eO,fC+f3,lc+1⟩):=aY.Row.aQ sA.out (e':=(⟨eO,fC+f3,lc+1⟩:ax)) (k:=2) (u:= .int .i64 (lc+1)) rQ.out (by decide) rfl;rw [List.set_set,←P5.out]at gv;have jx:=af gv;have aT:=af (ke.out.setCell (p:=⟨g,j*3+2,none⟩) cE.out (.int .i64 (lc+1)));clear gv;go_roundw
     case rel=>exact⟨k+1,by go_num,by omega,by rw [l6.out];exact jx.out,aT.out⟩
     case measure=>simp [RowKit.intOf];omega
   ·have hsb:(f1 !=side)=true:=by rw [bne_iff_ne];exact hs
    have cy:Hid (iO (p6 (L.take (k+1)) side)=iO (p6 (L.take k) side)):=af (by rw [l6.out,if_neg hs]);go_wp2_with fail
    go_roundw
    case rel=>exact⟨k+1,by go_num,by omega,by rw [cy.out];exact ec.out,ke.out⟩
    case measure=>simp [RowKit.intOf];omega
  ·obtain rfl:k=L.length:=by omega
   have hrow:=ec.out;rw [List.take_length]at hrow;have iH:=af hrow;clear hrow;go_wp2_with fail
   go_ret;exact⟨_,rfl,by rw [cG.out];exact iH.out,gZ.out⟩
end
end Go.Proofs.YtmaijkoopjocdaaGreat
namespace Go.Proofs.YtmaijkoopjocdaaGreat
open Go.RowKit Go.Lib
theorem Mf {w:World} {B g n cap k:Nat} {L:List ax} {z:ax} (h:bC.Row w B (.slice (some ⟨g,0,none⟩) n cap) L) (hz:L[k]? =some z):w.cell? ⟨g,k*3,none⟩=some (.int .i64 z.ag)∧w.cell? ⟨g,k*3+1,none⟩=some (.int .i64 z.ah)∧w.cell? ⟨g,k*3+2,none⟩=some (.int .i64 z.count)∧∀o,w.frozen? ⟨g,o,none⟩=false:=by
 obtain⟨g1,mE,e1,_,hc⟩:=h.at_ k z hz;obtain⟨g2,nj,cur,e2,_,hbk⟩:=h.Ak (by intro h0;rw [h0]at hz;simp at hz);have h1:g1=g:=by injection e1 with e1;injection e1 with e1;injection e1 with e1;exact e1.symm
 have h2:g2=g:=by injection e2 with e2;injection e2 with e2;injection e2 with e2;exact e2.symm
 subst h1;rw [h2]at hbk;have qg:gL w g1 (k*3) [.int .i64 z.ag,.int .i64 z.ah,.int .i64 z.count]:=hc;refine⟨?_,qg 1 _ rfl,qg 2 _ rfl,fun o=>hbk.frozen o⟩;have:=qg 0 _ rfl
 rwa [Nat.add_zero]at this
structure w7 (W w:World) (B ap gr aL go cap:Nat) (V:bP) (P:List bz) (q p t c:Int) (i:Nat) (sd:Int) (im:Bool):Prop where
 bm:aj w ap 86 #[.int .i64 q,.int .i64 (i:Int),.int .i64 sd,.int .i64 p,.int .i64 t,.int .i64 c,.bool im]
 br:aj w gr 54 #[.slice none 0 0]
 Qk:aj w aL 54 #[.slice (some ⟨go,0,none⟩) V.length cap]
 row:eF.Row w W.heap.size (.slice (some ⟨go,0,none⟩) V.length cap) P
 sh:∀(j:Nat) (p:bz) (x:aV×aV),P[j]? =some p→V[j]? =some x→bN bC w B p.s x.1∧bN bC w B p.t x.2
 aF:Below W.heap.size W w
theorem w7.below {W w w':World} {B ap gr aL go cap:Nat} {V:bP} {P:List bz} {q p t c:Int} {i:Nat} {sd:Int} {im:Bool} (h:w7 W w B ap gr aL go cap V P q p t c i sd im) (hb:Below w.heap.size w w'):w7 W w' B ap gr aL go cap V P q p t c i sd im:=
 ⟨h.bm.below hb,h.br.below hb,h.Qk.below hb,h.row.below hb,fun j p x hp hx=>⟨(h.sh j p x hp hx).1.below hb,(h.sh j p x hp hx).2.below hb⟩,h.aF.trans (hb.mono h.aF.size)⟩
theorem w7.fin {W w w':World} {B ap gr aL go cap:Nat} {V:bP} {P:List bz} {q p t c:Int} {i s:Nat} {sd:Int} {im:Bool} {bn:bz} {x:aV×aV} {sh:eI} {d:aV} (h:w7 W w B ap gr aL go cap V P q p t c i sd im) (hB:B≤W.heap.size) (hl:P.length=V.length) (hp:P[i]? =some bn) (hx:V[i]? =some x) (hs:s<2) (hk:aD (fun g=>g=go) w w')
 (hr:eF.Row w' W.heap.size (.slice (some ⟨go,0,none⟩) V.length cap) (P.set i (bn.put s sh))) (hd:bN bC w' B sh d):cl eF bC w' B (.slice (some ⟨go,0,none⟩) V.length cap) (V.set i (J7 x s d)):=by
 have qd:bV w go eF.t:=dR h.row go rfl;have hkp:∀{y:eI} {e:aV},bN bC w B y e→bN bC w' B y e:=fun hh=>hh.keep hk (fun g hg e=>hg.ne qd (by decide) e);have hil:=dc hx;refine⟨_,hr.base hB,by rw [List.length_set,List.length_set];exact hl,fun j y z hy hz=>?_⟩;by_cases hj:j=i
 ·subst hj
  rw [oN hp]at hy;rw [oN hx]at hz;injection hy with hy;injection hz with hz;subst hy;subst hz;have h0:=h.sh j bn x hp hx;rcases(show s=0∨s=1 by omega)with rfl|rfl
  ·exact⟨hd,hkp h0.2⟩
  ·exact⟨hkp h0.1,hd⟩
 ·rw [List.getElem?_set_ne (fun e=>hj e.symm)]at hy hz
  have h0:=h.sh j y z hy hz;exact⟨hkp h0.1,hkp h0.2⟩
theorem w7.imp {W w w':World} {B ap gr aL go cap:Nat} {V:bP} {P:List bz} {q p t c:Int} {i s:Nat} {bn:bz} {l:ax} {b:Bool} (h:w7 W w B ap gr aL go cap V P q p t c i ((s:Int)+1) true) (hB:B≤W.heap.size) (hl:P.length=V.length) (hp:P[i]? =some bn) (hs:s<2) (hk:aD (fun g=>g=go) w w')
 (hr:eF.Row w' W.heap.size (.slice (some ⟨go,0,none⟩) V.length cap) (P.set i (bn.put s ⟨(bn.sh s).a,(bn.sh s).n,(bn.sh s).c,l,b⟩))) (hb:decide (0<t)=b) (hv:l=if b=true then⟨p,t,c⟩else oP):cl eF bC w' B (.slice (some ⟨go,0,none⟩) V.length cap) (fO ⟨q,i,(s:Int)+1,p,t,c,true⟩ V):=by
 obtain⟨x,hx⟩:∃x,V[i]? =some x:=⟨_,List.getElem?_eq_getElem (by have:=dc hp;omega)⟩;rw [Sd (m:=⟨q,i,(s:Int)+1,p,t,c,true⟩) rfl rfl hs hx];have qd:bV w go eF.t:=dR h.row go rfl;have h0:=h.sh i bn x hp hx
 have h1:bN bC w B (bn.sh s) (cI x s):=by
  rcases(show s=0∨s=1 by omega)with rfl|rfl
  ·exact h0.1
  ·exact h0.2
 have h2:=h1.keep hk (fun g hg e=>hg.ne qd (by decide) e);refine h.fin hB hl hp hx hs hk hr ?_
 have e:(cI x s).app ⟨q,i,(s:Int)+1,p,t,c,true⟩=⟨(cI x s).lv,l,b⟩:=by
  unfold aV.app;rw [if_pos rfl];dsimp only [aB.lv];subst hv;subst hb;by_cases h:0<t
  ·rw [if_pos h,decide_eq_true h,if_pos rfl]
  ·rw [if_neg h,decide_eq_false h,if_neg (by simp)]
 rw [e];exact⟨h2.n,h2.row,rfl,rfl⟩
theorem w7.grow {W w w':World} {B ap gr aL go cap:Nat} {V:bP} {P:List bz} {q p t c:Int} {i:Nat} {sd:Int} {im:Bool} {F:Nat→Prop} (h:w7 W w B ap gr aL go cap V P q p t c i sd im) (lo:∀(j:Nat) (p:bz) (g:Nat),P[j]? =some p→(p.s.own=some g∨p.t.own=some g)→g<W.heap.size) (hk:aD F w w') (hF:∀g,F g→bV w g bC.t∧W.heap.size≤g):w7 W w' B ap gr aL go cap V P q p t c i sd im:=
 ⟨h.bm.keeps hk (fun e=>(hF _ e).1.ne h.bm.aC (by decide) rfl),h.br.keeps hk (fun e=>(hF _ e).1.ne h.br.aC (by decide) rfl),h.Qk.keeps hk (fun e=>(hF _ e).1.ne h.Qk.aC (by decide) rfl),
  h.row.keep hk (fun g hg e=>(hF _ e).1.ne hg (by decide) rfl),
  fun j p x hp hx=>⟨⟨(h.sh j p x hp hx).1.n,(h.sh j p x hp hx).1.row.zk hk (fun g hg e=>absurd (lo j p g hp (.inl hg)) (by have:=(hF g e).2;omega)),(h.sh j p x hp hx).1.im,(h.sh j p x hp hx).1.has⟩,⟨(h.sh j p x hp hx).2.n,(h.sh j p x hp hx).2.row.zk hk (fun g hg e=>absurd (lo j p g hp (.inr hg)) (by have:=(hF g e).2;omega)),(h.sh j p x hp hx).2.im,(h.sh j p x hp hx).2.has⟩⟩,
  h.aF.trans (hk.below (fun g hg=>(hF g hg).2) h.aF.size)⟩
structure FF (W w:World) (B ap gr aL go cap:Nat) (V:bP) (P:List bz) (q p t c:Int) (i:Nat) (sd:Int) (v:Value) (out:List ax):Prop where
 j8:w7 W w B ap gr aL go cap V P q p t c i sd false
 row:bC.Row w W.heap.size v out
theorem FF.below {W w w':World} {B ap gr aL go cap:Nat} {V:bP} {P:List bz} {q p t c:Int} {i:Nat} {sd:Int} {v:Value} {out:List ax} (h:FF W w B ap gr aL go cap V P q p t c i sd v out) (hb:Below w.heap.size w w'):FF W w' B ap gr aL go cap V P q p t c i sd v out:=⟨h.j8.below hb,h.row.below hb⟩
theorem FF.push {W w w':World} {B ap gr aL go cap:Nat} {V:bP} {P:List bz} {q p t c:Int} {i:Nat} {sd:Int} {v v':Value} {out:List ax} {l:ax} (h:FF W w B ap gr aL go cap V P q p t c i sd v out) (lo:∀(j:Nat) (p:bz) (g:Nat),P[j]? =some p→(p.s.own=some g∨p.t.own=some g)→g<W.heap.size) (hg:w.grownBy w' v.ownBlock) (hr:bC.Row w' W.heap.size v' (out++ [l])):FF W w' B ap gr aL go cap V P q p t c i sd v' (out++ [l]):=
 ⟨h.j8.grow lo (fe hg) (fun g e=>⟨dR h.row g e,cx h.row g e⟩),hr⟩
theorem aY.Row.Ev {α:Type} {Y:aY α} {w:World} {B:Nat} {v:Value} {L:List α} (h:Y.Row w B v L) (hv:v.ownBlock≠none):∃g cap cur,v= .slice (some ⟨g,0,none⟩) L.length cap∧B≤g∧aj w g Y.t cur:=by
 rcases h.2 with⟨rfl,h0⟩|⟨g,cap,cur,hv,hb,hh,_⟩
 ·exact absurd rfl hv
 ·exact⟨g,cap,cur,hv,hb,hh⟩
theorem aY.o3 {α:Type} (Y:aY α) {w:World} {ops:Array Oper} {o:Oper} {a:Act} {K:Act→World→Prop} {Q:Exit→Act→World→Prop} {E:Prop} (hgd:o.guard=none) (s x:Operand)
 (ho:o.op= .call {callee:= .builtin .append,args:=#[s,x],argTypes:=#[Y.ts,Y.ts]})
 (B g0 c0 n m:Nat) (L:List α) (hn:L.length=n) (hs:a.eval s= .slice (some ⟨g0,0,none⟩) n c0) (hown:Y.Row w B (.slice (some ⟨g0,0,none⟩) n c0) L)
 (b off c:Nat) (M:List α) (hm:M.length=m) (hx:a.eval x= .slice (some ⟨b,off,none⟩) m c) (hr:Y.fF w (some ⟨b,off,none⟩) M)
 (nm:Nat) (hnm:n+m=nm) (hle:n+m≤1000000) (hbase:B≤w.heap.size)
 (h:∀g cap w',Y.Row w' B (.slice (some ⟨g,0,none⟩) nm cap) (L++M)→w.grownBy w' (some g0)→(g=g0∨g=w.heap.size)→K (a.put o.dst (.slice (some ⟨g,0,none⟩) nm cap)) w'):
 if Region.wanted o (yielded ops a.tmps)=true then Oper.wp Tryz.prog o a w K Q else E:=by
 subst hn;subst hm;subst hnm;have hw:Region.wanted o (yielded ops a.tmps)=true:=by simp [Region.wanted,hgd]
 rw [if_pos hw];obtain⟨v',w',hrun,h2,h3,h5⟩:=Y.IV o.type hown ⟨b,off,none⟩ c M ⟨b,off,rfl⟩ hr hle hbase
 obtain⟨g,cap,cur,rfl,_,_⟩:=h2.Ev (by
  rcases h5 with h5|h5
  ·rw [h5];simp [Value.ownBlock]
  ·rw [h5];simp)
 unfold Oper.wp execOp;simp only [ho,resolve,invoke,builtin,Sem.run_bind,Sem.run_pure,Result.andThen_ok,List.map_toArray,List.map_cons,List.map_nil,hs,hx,hrun];rw [List.length_append]at h2⊢;refine h g cap w' h2 h3 ?_;rcases h5 with h5|h5
 ·have h6:some g=some g0:=h5
  injection h6 with h6;exact .inl h6
 ·have h6:some g=some w.heap.size:=h5
  injection h6 with h6;exact .inr h6
structure ajf (W w wr:World) (pw:Nat) (hw:Value) (s:jn) (k:Nat) (hw':Value) (V:bP) (q:Int) (H:List aB):Prop where
 rv:q8 W wr pw hw' ⟨V,q,H⟩
 kK:aD (fun g=>g=pw) w wr
 own:∀g,hw'.ownBlock=some g→hw.ownBlock=some g∨w.heap.size≤g
 eg:Qz H.length ⟨V,q,H⟩=Qz s.H.length s
 len:H.length≤k
 vl:V.length=s.V.length
 oq:yO V
 sz:∃j,g7 V j∧j+H.length≤500000
 HL:∀m∈H,zj s.V.length m
 q0:0≤q
 q1:q≤9223372036854775807
end Go.Proofs.YtmaijkoopjocdaaGreat
