import Derived.Test.YtmaijkoopjocdaaGreatKW20
set_option maxRecDepth 100000
set_option maxHeartbeats 64000000
namespace Go.Proofs.YtmaijkoopjocdaaGreat
open Go.RowKit Go.Lib
section
variable {W w w':World} {pw:Nat} {L:List aC}
def yH (side ap:Int) (o:aC):Bool:=decide (o.side=side∧o.ap=ap)
theorem Yr {p:aC->Bool} {k:Nat} {o:aC} (h:L[k]? =some o):(L.take (k+1)).filter p=(L.take k).filter p++(if p o=true then [o]else []):=by
 rw [kH h,List.filter_append]
 congr 1
 by_cases hp:p o=true
 ·rw [if_pos hp];simp [hp]
 rw [if_neg hp];simp [hp]
theorem UY (h:g4 W w pw L) (hl:L.length<=250) (side ap:Int):
 Calls Tryz.prog 147 #[.pointer ↑pw,↑side,↑ap] w fun e w'=>∃v,e= .returned v∧gI.Row w' ↑w v (yo L side ap)∧Below ↑w w w':=by
 have H:=af h;clear h;have Q:Ei (yo L side ap=L.filter (yH side ap)):=af rfl;go_enter Tryz.func147,Tryz.ntmps147;go_wp2_with fail;go_loopw [7,8] (fun v j w'=>∃k:Nat,j=↑k∧k<=L.length∧gI.Row w' ↑w v ((L.take k).filter (yH side ap))∧Below ↑w w w') (fun _ j _=>L.length-(RowKit.intOf j).toNat)
 case atStart=>exact⟨0,rfl,Nat.zero_le _,bl.Row.nil _ _,Below.refl _ _⟩
 obtain⟨k,rfl,hk,hrow,hb⟩:=hrel;obtain⟨ax,rfl⟩:=aj wr;have A:=af hrow;have C:=af hb;obtain⟨a,c,I,hrw⟩:=(H.o.below hb).box;obtain⟨a',c',he,_,hrd⟩:=hrw.rd;injection he with U _ V;subst U V;have Y:=I.GC;clear hrow hb I hrw;by_cases hlt:k<L.length
 ·have hlt':(k:Int)<(L.length:Int):=by omega
  obtain⟨o,ho⟩:=GB L k hlt;obtain⟨g,off,rfl,_,hc⟩:=hrd k o ho;have E:=af (Yr (p:=yH side ap) ho);have S:Ei (((L.take k).filter (yH side ap)).length<=250):=af (Nat.le_trans (List.length_filter_le _ _) (by rw [List.length_take];omega));obtain⟨f0,f1,f2,f3,f4⟩:=o;have c0:ax.cell? ↑(g,off+k*5)=↑f0:=hc 0 _ rfl;have c1:ax.cell? ↑(g,off+k*5+1)=↑f1:=hc 1 _ rfl;have c2:ax.cell? ↑(g,off+k*5+2)=↑f2:=hc 2 _ rfl;have c3:ax.cell? ↑(g,off+k*5+3)=↑f3:=hc 3 _ rfl;have R:ax.cell? ↑(g,off+k*5+4)=↑f4:=hc 4 _ rfl;clear hc ho hrd;by_cases hs:f1=side
  ·by_cases hp:f2=ap
   ·subst hs;subst hp;have B:Ei (yH f1 f2 ⟨f0,f1,f2,f3,f4⟩=true):=af (decide_eq_true ⟨rfl,rfl⟩);generalize (L.take k).filter (yH f1 f2)=Z at*;have hnew:av (ax.alloc (.cells #[↑f0,↑f1,↑f2,↑f3,↑f4] 139)) ↑ax 139 (⟨f0,f1,f2,f3,f4⟩:aC).cells.toArray:=av.new _ _ _;have G:=af hnew;have hba:=Below.aI ax (.cells #[↑f0,↑f1,↑f2,↑f3,↑f4] 139);have F:=af (A.o.below hba);have D:=ag C hba;clear hnew hba;go_wp2_with (first
     |(at_builtin;go_loud (refine gI.push rfl (.tmp 40) (.tmp 48) rfl ↑w u7 Z rfl F.o ↑ax ⟨f0,f1,f2,f3,f4⟩ rfl G.o.lt G.o.gH (by have:=S.o;omega) D.o.size ?_)))
    intro v' N J K T;have M:gI.Row N ↑w v' ((L.take (k+1)).filter (yH f1 f2)):=by rw [E.o,if_pos B.o];exact J
    have P:=af M;have O:=af (iJ K D.o (cS F.o));clear J M K T G F D c0 c1 c2 c3 R Y A C;go_wp2_with fail;go_roundw
    case rel=>exact⟨k+1,dR,bh,P.o,O.o⟩
    exact Ej
   have b:(f2==ap)=false:=by rw [beq_eq_false_iff_ne];exact hp
   have B:Ei (¬yH side ap ⟨f0,f1,f2,f3,f4⟩=true):=af (by unfold yH;simp [hp]);go_wp2_with fail;go_roundw
   case rel=>exact⟨k+1,dR,bh,by rw [E.o,if_neg B.o,List.append_nil];exact A.o,C.o⟩
   exact Ej
  have hsb:(f1==side)=false:=by rw [beq_eq_false_iff_ne];exact hs
  have B:Ei (¬yH side ap ⟨f0,f1,f2,f3,f4⟩=true):=af (by unfold yH;simp [hs]);go_wp2_with fail;go_roundw
  case rel=>exact⟨k+1,dR,bh,by rw [E.o,if_neg B.o,List.append_nil];exact A.o,C.o⟩
  exact Ej
 obtain rfl:k=L.length:=bh;have hrow:=A.o;rw [List.take_length]at hrow;have X:=af hrow;clear hrow;go_wp2_with fail;go_ret;exact⟨_,rfl,by rw [Q.o];exact X.o,C.o⟩
end
def qs (x:aC):List aB->List aB
 | []=> [⟨x.ap,x.aq,1⟩]
 | [l]=>if l.ap=x.ap then [⟨l.ap,l.aq+x.aq,l.count+1⟩]else [l,⟨x.ap,x.aq,1⟩]
 |l::m::M=>l::qs x (m::M)
theorem ahi (o:aC) (M:List aB):pN o M≠ []:=by
 cases M with
 |nil=>simp [pN]
 |cons l M=>show(if l.ap=o.ap then(⟨o.ap,o.aq+l.aq,1+l.count⟩:aB)::M else⟨o.ap,o.aq,1⟩::l::M)≠ [];split<;>simp
theorem ahj (x o:aC) (M:List aB) (A:M≠ []):qs x (pN o M)=pN o (qs x M):=by
 cases M with
 |nil=>exact absurd rfl A
 |cons l M=>
  cases M with
  |nil=>
   show qs x (if l.ap=o.ap then [⟨o.ap,o.aq+l.aq,1+l.count⟩]else [⟨o.ap,o.aq,1⟩,l])=pN o (if l.ap=x.ap then [⟨l.ap,l.aq+x.aq,l.count+1⟩]else [l,⟨x.ap,x.aq,1⟩]);by_cases h1:l.ap=o.ap<;>by_cases h2:l.ap=x.ap
   ·rw [if_pos h1,if_pos h2];show(if o.ap=x.ap then _ else _)=(if l.ap=o.ap then _ else _);rw [if_pos (h1▸h2),if_pos h1];simp [Int.add_assoc]
   ·rw [if_pos h1,if_neg h2];show(if o.ap=x.ap then _ else _)=(if l.ap=o.ap then _ else _);rw [if_neg (h1▸h2),if_pos h1]
   ·rw [if_neg h1,if_pos h2];show _::(if l.ap=x.ap then _ else _)=(if l.ap=o.ap then _ else _);rw [if_pos h2,if_neg h1]
   rw [if_neg h1,if_neg h2];show _::(if l.ap=x.ap then _ else _)=(if l.ap=o.ap then _ else _);rw [if_neg h2,if_neg h1]
  |cons m M=>show qs x (if l.ap=o.ap then⟨o.ap,o.aq+l.aq,1+l.count⟩::m::M else⟨o.ap,o.aq,1⟩::l::m::M)=(if l.ap=o.ap then⟨o.ap,o.aq+l.aq,1+l.count⟩::qs x (m::M)else⟨o.ap,o.aq,1⟩::l::qs x (m::M));split<;>rfl
theorem ahk {S:List aC} (h:S≠ []):jB S≠ []:=by
 cases S with
 |nil=>exact absurd rfl h
 |cons o S=>exact ahi o _
theorem ahl (S:List aC) (x:aC):jB (S++ [x])=qs x (jB S):=by
 induction S with
 |nil=>rfl
 |cons o S ih=>
  show pN o (jB (S++ [x]))=qs x (pN o (jB S));rw [ih];by_cases hS:S= []
  ·subst hS;show pN o [⟨x.ap,x.aq,1⟩]=qs x [⟨o.ap,o.aq,1⟩];show(if x.ap=o.ap then _ else _)=(if o.ap=x.ap then _ else _);by_cases h:x.ap=o.ap
   ·rw [if_pos h,if_pos h.symm]
   rw [if_neg h,if_neg (Ne.symm h)]
  rw [ahj x o _ (ahk hS)]
theorem ahm {x:aC} {M:List aB} (h:∀l,M.getLast? =some l->l.ap≠x.ap):qs x M=M++ [⟨x.ap,x.aq,1⟩]:=by
 induction M with
 |nil=>rfl
 |cons l M ih=>
  cases M with
  |nil=>exact if_neg (h l rfl)
  |cons m M=>show l::qs x (m::M)=l::((m::M)++_);rw [ih fun z hz=>h z (by rw [List.getLast?_cons_cons];exact hz)]
theorem ahn {x:aC} {M:List aB} {j:Nat} {l:aB} (hj:M.length=j+1) (hl:M[j]? =some l) (he:l.ap=x.ap):qs x M=M.set j ⟨l.ap,l.aq+x.aq,l.count+1⟩:=by
 induction M generalizing j with
 |nil=>simp at hj
 |cons a M ih=>
  cases M with
  |nil=>
   have:j=0:=by simpa using hj.symm
   subst this;have:a=l:=by simpa using hl
   subst this;exact if_pos he
  |cons m M=>obtain⟨j',rfl⟩:∃j',j=j'+1:=⟨j-1,by simp at hj;omega⟩;show a::qs x (m::M)=a::(m::M).set j' _;rw [ih (j:=j') (by simpa using hj) (by simpa using hl)]
theorem Ys {S:List aC} (h:∀o∈S,1<=o.aq∧o.aq<=1000000):∀l∈jB S,(0<=l.aq∧l.aq<=1000000*S.length)∧0<=l.count∧l.count<=S.length:=by
 induction S with
 |nil=>intro l hl;simp [jB]at hl
 |cons o S ih=>
  have A:=ih fun x hx=>h x (List.mem_cons_of_mem _ hx);have ho:=h o (List.mem_cons_self ..);intro l hl;have hl':l∈pN o (jB S):=hl;rw [List.length_cons];cases hg:jB S with
  |nil=>rw [hg]at hl';simp only [pN,List.mem_singleton]at hl';subst hl';dsimp only;omega
  |cons z zs=>
   rw [hg]at hl' A;simp only [pN]at hl';split at hl'
   ·rcases List.mem_cons.1 hl' with rfl|h2
    ·have:=A z (List.mem_cons_self ..);dsimp only;omega
    have:=A l (List.mem_cons_of_mem _ h2);omega
   rcases List.mem_cons.1 hl' with rfl|h2
   ·dsimp only;omega
   have:=A l h2;omega
theorem QN (S:List aC):(jB S).length<=S.length:=by
 induction S with
 |nil=>exact Nat.le_refl _
 |cons o S ih=>
  show(pN o (jB S)).length<=_;rw [List.length_cons];cases hg:jB S with
  |nil=>simp [pN]
  |cons z zs=>
   rw [hg,List.length_cons]at ih;show(if z.ap=o.ap then(⟨o.ap,o.aq+z.aq,1+z.count⟩:aB)::zs else⟨o.ap,o.aq,1⟩::z::zs).length<=_;split
   ·rw [List.length_cons];omega
   rw [List.length_cons,List.length_cons];omega
section
variable {W w w':World} {pw:Nat} {L:List aC}
theorem aho {L:List aC} {k:Nat} {o:aC} (h:L[k]? =some o) (s:Int):jB (q5 (L.take (k+1)) s)=if o.side=s then qs o (jB (q5 (L.take k) s))else jB (q5 (L.take k) s):=by
 unfold q5;rw [Yr h];by_cases hs:o.side=s
 ·rw [if_pos (by simpa using hs),if_pos hs,ahl]
 rw [if_neg (by simpa using hs),if_neg hs,List.append_nil]
theorem Ny (h:g4 W w pw L) (hl:L.length<=250) (hq:∀o∈L,1<=o.aq∧o.aq<=1000000) (side:Int):
 Calls Tryz.prog 61 #[.pointer ↑pw,↑side] w fun e w'=>∃v,e= .returned v∧bK.Row w' ↑w v (k6 L side)∧Below ↑w w w':=by
 have H:=af h;have ie:=af hq;clear h hq;have cO:Ei (k6 L side=jB (q5 L side)):=af rfl;go_enter Tryz.func61,Tryz.ntmps61;go_wp2_with fail;go_loopw [5,6] (fun v j w'=>∃k:Nat,j=↑k∧k<=L.length∧bK.Row w' ↑w v (jB (q5 (L.take k) side))∧Below ↑w w w') (fun _ j _=>L.length-(RowKit.intOf j).toNat)
 case atStart=>exact⟨0,rfl,Nat.zero_le _,bl.Row.nil _ _,Below.refl _ _⟩
 obtain⟨k,rfl,hk,hrow,hb⟩:=hrel;obtain⟨ax,rfl⟩:=aj wr;have Q:=af hrow;have iK:=af hb;obtain⟨a,c,aT,hrw⟩:=(H.o.below hb).box;obtain⟨a',c',he,_,hrd⟩:=hrw.rd;injection he with eb _ iU;subst eb iU;have jA:=aT.GC;clear hrow hb aT hrw;by_cases hlt:k<L.length
 ·have hlt':(k:Int)<(L.length:Int):=by omega
  obtain⟨o,ho⟩:=GB L k hlt;obtain⟨g,off,rfl,_,hc⟩:=hrd k o ho;have r:=af (aho ho side);have mL:=af (Ys (S:=q5 (L.take k) side) fun o ho=>ie.o o (List.mem_of_mem_take (List.mem_filter.1 ho).1));have jR:Ei ((jB (q5 (L.take k) side)).length<=250):=af (Nat.le_trans (QN _) (Nat.le_trans (List.length_filter_le _ _) (by rw [List.length_take];omega)));have Bb:Ei ((q5 (L.take k) side).length<=250):=af (Nat.le_trans (List.length_filter_le _ _) (by rw [List.length_take];omega));have hoq:=ie.o o (List.mem_of_getElem? ho);obtain⟨f0,f1,f2,f3,f4⟩:=o;have hq1:1<=f3:=hoq.1;have hq2:f3<=1000000:=hoq.2;have c0:ax.cell? ↑(g,off+k*5)=↑f0:=hc 0 _ rfl;have c1:ax.cell? ↑(g,off+k*5+1)=↑f1:=hc 1 _ rfl;have c2:ax.cell? ↑(g,off+k*5+2)=↑f2:=hc 2 _ rfl;have c3:ax.cell? ↑(g,off+k*5+3)=↑f3:=hc 3 _ rfl;have dH:ax.cell? ↑(g,off+k*5+4)=↑f4:=hc 4 _ rfl;clear hc ho hrd hoq;go_upto_region 6 with(fail);clear c0 c1 c2 c3 dH jA;have hnew:av (ax.alloc (.cells #[↑f0,↑f1,↑f2,↑f3,↑f4] 139)) ↑ax 139 #[↑f0,↑f1,↑f2,↑f3,↑f4]:=av.new _ _ _;have hba:=Below.aI ax (.cells #[↑f0,↑f1,↑f2,↑f3,↑f4] 139);have gJ:=Q.o.below hba;have hb4:=iK.o.trans (hba.mono iK.o.size);obtain⟨aL,fO⟩:=ai ax.heap.size;rw [fO]at hnew⊢;clear fO hba Q iK;generalize ax.alloc (.cells #[↑f0,↑f1,↑f2,↑f3,↑f4] 139)=D at*;have O:=af hnew;have Q:=af gJ;have G:=af hb4;have x1:=hnew.GD;clear hnew gJ hb4;by_cases hs:f1=side
  ·replace r:Ei (jB (q5 (L.take (k+1)) side)=qs ⟨f0,f1,f2,f3,f4⟩ (jB (q5 (L.take k) side))):=af (by rw [r.o,if_pos hs]);generalize jB (q5 (L.take k) side)=C at*;subst hs;obtain⟨va,vc,gU⟩:=Q.o.form;obtain⟨m,hm⟩:=ai C.length;rw [hm]at gU;have P:=af hm;clear hm;subst gU;go_upto_region 8 with(fail);clear x1;have aZ:=O.o.Je;obtain⟨N,z⟩:∃N:Bool,Ei ((N=true->∀l,C.getLast? =some l->l.ap≠f2)∧(N=false->∃j l,m=j+1∧C[j]? =some l∧l.ap=f2)∧((m=0∧N=true)∨∃j l,m=j+1∧C[j]? =some l∧N= !decide (l.ap=f2))):=by
    have hm:=P.o;rcases Nat.eq_zero_or_pos m with h0|h0
    ·refine⟨true,af ⟨fun _ l hl=>?_,fun h=>(by cases h),.inl ⟨h0,rfl⟩⟩⟩;rw [List.length_eq_zero_iff.1 (hm.trans h0)]at hl;cases hl
    obtain⟨l,hl⟩:=GB C (m-1) bh;refine⟨!decide (l.ap=f2),af ⟨fun ht l' hl'=>?_,fun ht=>⟨m-1,l,bh,hl,by simpa using ht⟩,.inr ⟨m-1,l,bh,hl,rfl⟩⟩⟩;rw [List.getLast?_eq_getElem?,hm,hl]at hl';injection hl' with hl';subst hl'
    simpa using ht
   go_cut [43] (fun v wx=>v=↑N∧Below ↑D D wx)
   case first=>
    rcases z.o.2.2 with⟨rfl,ht⟩|⟨j,l,rfl,hl,ht⟩
    ·subst ht;go_quiet (fail);go_wp2_with fail;go_meet;exact⟨rfl,Below.bO _ _⟩
    obtain⟨cI,f,A,_,E⟩:=bl.Row.at_ Q.o j l hl;injection A with A M I;subst A;clear M I;have Yt:(j:Int)<=250:=by have h1:=P.o;have h2:=jR.o;omega
    have hz1:(((j+1:Nat):Int)==0)=false:=by rw [beq_eq_false_iff_ne];omega
    have eg:((j:Int)+1==0)=false:=by rw [beq_eq_false_iff_ne];omega
    obtain⟨F,X⟩:=ai l.ap;have jh:D.cell? ↑(cI,j*3)=↑F:=X▸E 0 _ rfl;rw [X]at ht;clear E hl X;by_cases iP:F=f2
    ·subst iP;obtain rfl:N=false:=by rw [ht];simp
     clear ht;go_quiet (fail);go_wp2_with fail;go_meet;exact⟨rfl,Below.bO _ _⟩
    have A7:(F !=f2)=true:=by rw [bne_iff_ne];exact iP
    obtain rfl:N=true:=by rw [ht];simp [iP]
    clear ht;go_quiet (fail);go_wp2_with fail;go_meet;exact⟨rfl,Below.bO _ _⟩
   case rest=>
   obtain⟨rfl,hb⟩:=hcut;obtain⟨wy,rfl⟩:=aj wc;have Y:=af (O.o.below hb);have T:=af (Q.o.below hb);have i:=ag G hb;clear hb O Q G aZ;cases N with
   |true=>
    as_aux_lemma=>
    have l9:Ei (qs ⟨f0,f1,f2,f3,f4⟩ C=C++ [⟨f2,f3,1⟩]):=af (ahm (z.o.1 rfl));have aZ:=Y.o.Je;have hnew:av (wy.alloc (.cells #[↑f2,↑(),↑()] 101)) ↑wy 101 (⟨f2,0,0⟩:aB).cells.toArray:=av.new _ _ _;have yI:=af hnew;have hba:=Below.aI wy (.cells #[↑f2,↑(),↑()] 101);have n:=af (T.o.below hba);have bN:=ag i hba;have uP:=af (Y.o.below hba);have Yt:(m:Int)<=250:=by have h1:=P.o;have h2:=jR.o;omega
    clear hnew hba;go_wp2_with (first
     |(at_builtin;go_loud (refine bK.push rfl (.tmp 44) (.tmp 48) rfl ↑w (.slice va m vc) C rfl n.o ↑wy ⟨f2,0,0⟩ rfl yI.o.lt yI.o.gH (by rw [P.o];omega) bN.o.size ?_)))
    intro v' aN bX cQ eG;have bI:=iJ cQ bN.o (cS n.o);have hkp:=fK cQ;have JV:=uP.o.keeps hkp (fun hg=>(uP.o.aE).ne (eo n.o _ hg) b9 rfl);obtain⟨g,cap,cur,dF,q,hgt⟩:=bX.Cd cU;rw [List.length_append,P.o]at dF;subst dF;have J:=af bX;have G:=af bI;have O:=af JV;have b:=af q;have R:=af hgt;have U:Ei ((C++ [(⟨f2,0,0⟩:aB)])[m]? =some (⟨f2,0,0⟩:aB)):=af (by rw [<-P.o,List.getElem?_append_right (Nat.le_refl _),Nat.sub_self];rfl);have Rt:Ei (qs ⟨f0,f1,f2,f3,f4⟩ C=(C++ [(⟨f2,0,0⟩:aB)]).set m ⟨f2,f3,1⟩):=af (by rw [l9.o,<-P.o,List.set_append_right _ _ (Nat.le_refl _),Nat.sub_self];rfl);clear bX bI hkp JV q hgt cQ eG yI n bN uP T Y i aZ l9 z;generalize aN=D at*;have D0:=(bl.Row.at_ J.o m _ U.o);obtain⟨cI,f,A,_,E⟩:=D0;injection A with A M I;injection A with A;injection A with A;subst A;clear M I;have q1:D.cell? ↑(g,m*3+1)=↑():=E 1 _ rfl;have Z:=O.o.Jf;have fz:∀o,D.frozen? ⟨g,o,none⟩=false:=fun o=>R.o.frozen o;clear E;have ahp:IntKind.i64.wrap (m:Int)=(m:Int):=IntWalk.i64_in _ bh;have ahq:(m:Int)<(m:Int)+1:=bh;have ahr:(0:Int)<=(m:Int):=bh;go_upto_region 11 with(fail);refine cP (S:=fun w'=>w'.cell? ⟨g,m*3+1,none⟩=↑()∧w'.cell? ⟨aL,3,none⟩=↑f3) ⟨q1,Z⟩ fun hHeld=>?_;refine eX [0,1,2,3,4,5,6,7,8,9,10,11,12,13] ?_;refine dY 14 fun K hK=>?_;go_simp;try rw [show IntKind.i64.wrap (f3)=f3 from IntWalk.i64_in _ bh]
    refine hK.out _ _ ?_;clear hK K hHeld q1 Z fz;have s:bK.Row ((D.setCell ↑(g,m*3+1) (.int .i64 (f3))).drew) w.heap.size _ ((C++ [(⟨f2,0,0⟩:aB)]).set m ⟨f2,f3,0⟩):=(bl.Row.aW J.o (e':=(⟨f2,f3,0⟩:aB)) (k:=1) (u:= .int .i64 (f3)) U.o b9 rfl).below (Below.bO _ 1);have hb0:=G.o.setCell (p:=⟨g,m*3+1,none⟩) b.o (.int .i64 (f3));have hb1:Below ↑w w ((D.setCell ↑(g,m*3+1) (.int .i64 (f3))).drew):=hb0.trans ((Below.bO _ 1).mono hb0.size);have d:av ((D.setCell ↑(g,m*3+1) (.int .i64 (f3))).drew) g bK.t _:=(R.o.aW (m*3+1) (.int .i64 (f3))).below (Below.bO _ 1);have y:Ei (((C++ [(⟨f2,0,0⟩:aB)]).set m ⟨f2,f3,0⟩)[m]? =some (⟨f2,f3,0⟩:aB)):=af (by rw [List.getElem?_set_self (dM U.o)]);replace J:=af s;replace G:=af hb1;replace R:=af d;clear s hb0 hb1 d O;generalize (D.setCell ⟨g,m*3+1,none⟩ (.int .i64 (f3))).drew=wp at*;obtain⟨cI,f,A,_,E⟩:=bl.Row.at_ J.o m _ y.o;injection A with A M I;injection A with A;injection A with A;subst A;clear M I;have ic:wp.cell? ↑(g,m*3+2)=↑():=E 2 _ rfl;have fz:∀o,wp.frozen? ⟨g,o,none⟩=false:=fun o=>R.o.frozen o;clear E;go_wp2_with fail;clear ic fz;have V:bK.Row (wp.setCell ↑(g,m*3+2) (.int .i64 (1))) ↑w _ (((C++ [(⟨f2,0,0⟩:aB)]).set m ⟨f2,f3,0⟩).set m ⟨f2,f3,1⟩):=bl.Row.aW J.o (e':=(⟨f2,f3,1⟩:aB)) (k:=2) (u:= .int .i64 (1)) y.o b9 rfl;rw [List.set_set,<-Rt.o]at V;have kS:=af V;have aS:=af (G.o.setCell (p:=⟨g,m*3+2,none⟩) b.o (.int .i64 (1)));clear V;go_roundw
    case rel=>exact⟨k+1,dR,bh,by rw [r.o];exact kS.o,aS.o⟩
    exact Ej
   |false=>
    as_aux_lemma=>
    obtain⟨j,l,rfl,hl,X⟩:=z.o.2.1 rfl;have e6:=af (ahn (x:=⟨f0,f1,f2,f3,f4⟩) P.o hl X);have hbd:=mL.o l (List.mem_of_getElem? hl);have hsl:=Bb.o;obtain⟨g,cap,cur,dF,q,hgt⟩:=T.o.Cd (by rintro rfl;cases hl);obtain⟨F,B,lc⟩:=l;have amS:0<=B:=hbd.1.1;have amT:B<=250000000:=by have:=hbd.1.2;dsimp only at this;omega
    have amU:0<=lc:=hbd.2.1;have amV:lc<=250:=by have:=hbd.2.2;dsimp only at this;omega
    injection dF with dF M I;subst dF;clear M I;have Yt:(j:Int)<=250:=by have h1:=P.o;have h2:=jR.o;omega
    replace T:Ei (bK.Row wy ↑w (.slice ↑g (j+1) vc) C):=T;have J:=af T.o;have G:=af i.o;have O:=af Y.o;have b:=af q;have R:=af hgt;have U:=af hl;have Rt:Ei (qs ⟨f0,f1,f2,f3,f4⟩ C=C.set j ⟨F,B+f3,lc+1⟩):=af e6.o;clear hl X hbd hsl q hgt T Y i z e6;generalize wy=D at*;have D0:=(bl.Row.at_ J.o j _ U.o);obtain⟨cI,f,A,_,E⟩:=D0;injection A with A M I;injection A with A;injection A with A;subst A;clear M I;have q1:D.cell? ↑(g,j*3+1)=↑B:=E 1 _ rfl;have Z:=O.o.Jf;have fz:∀o,D.frozen? ⟨g,o,none⟩=false:=fun o=>R.o.frozen o;clear E;have ahp:IntKind.i64.wrap (j:Int)=(j:Int):=IntWalk.i64_in _ bh;have ahq:(j:Int)<(j:Int)+1:=bh;have ahr:(0:Int)<=(j:Int):=bh;go_upto_region 11 with(fail);refine cP (S:=fun w'=>w'.cell? ⟨g,j*3+1,none⟩=↑B∧w'.cell? ⟨aL,3,none⟩=↑f3) ⟨q1,Z⟩ fun hHeld=>?_;refine eX [0,1,2,3,4,5,6,7,8,9,10,11,12,13] ?_;refine dY 14 fun K hK=>?_;go_simp;try rw [show IntKind.i64.wrap (B+f3)=B+f3 from IntWalk.i64_in _ bh]
    refine hK.out _ _ ?_;clear hK K hHeld q1 Z fz;have s:bK.Row ((D.setCell ↑(g,j*3+1) (.int .i64 (B+f3))).drew) w.heap.size _ (C.set j ⟨F,B+f3,lc⟩):=(bl.Row.aW J.o (e':=(⟨F,B+f3,lc⟩:aB)) (k:=1) (u:= .int .i64 (B+f3)) U.o b9 rfl).below (Below.bO _ 1);have hb0:=G.o.setCell (p:=⟨g,j*3+1,none⟩) b.o (.int .i64 (B+f3));have hb1:Below ↑w w ((D.setCell ↑(g,j*3+1) (.int .i64 (B+f3))).drew):=hb0.trans ((Below.bO _ 1).mono hb0.size);have d:av ((D.setCell ↑(g,j*3+1) (.int .i64 (B+f3))).drew) g bK.t _:=(R.o.aW (j*3+1) (.int .i64 (B+f3))).below (Below.bO _ 1);have y:Ei ((C.set j ⟨F,B+f3,lc⟩)[j]? =some (⟨F,B+f3,lc⟩:aB)):=af (by rw [List.getElem?_set_self (dM U.o)]);replace J:=af s;replace G:=af hb1;replace R:=af d;clear s hb0 hb1 d O;generalize (D.setCell ⟨g,j*3+1,none⟩ (.int .i64 (B+f3))).drew=wp at*;obtain⟨cI,f,A,_,E⟩:=bl.Row.at_ J.o j _ y.o;injection A with A M I;injection A with A;injection A with A;subst A;clear M I;have ic:wp.cell? ↑(g,j*3+2)=↑lc:=E 2 _ rfl;have fz:∀o,wp.frozen? ⟨g,o,none⟩=false:=fun o=>R.o.frozen o;clear E;go_wp2_with fail;clear ic fz;have V:bK.Row (wp.setCell ↑(g,j*3+2) (.int .i64 (lc+1))) ↑w _ ((C.set j ⟨F,B+f3,lc⟩).set j ⟨F,B+f3,lc+1⟩):=bl.Row.aW J.o (e':=(⟨F,B+f3,lc+1⟩:aB)) (k:=2) (u:= .int .i64 (lc+1)) y.o b9 rfl;rw [List.set_set,<-Rt.o]at V;have kS:=af V;have aS:=af (G.o.setCell (p:=⟨g,j*3+2,none⟩) b.o (.int .i64 (lc+1)));clear V;go_roundw
    case rel=>exact⟨k+1,dR,bh,by rw [r.o];exact kS.o,aS.o⟩
    exact Ej
  have hsb:(f1 !=side)=true:=by rw [bne_iff_ne];exact hs
  have cA:Ei (jB (q5 (L.take (k+1)) side)=jB (q5 (L.take k) side)):=af (by rw [r.o,if_neg hs]);go_wp2_with fail;go_roundw
  case rel=>exact⟨k+1,dR,bh,by rw [cA.o];exact Q.o,G.o⟩
  exact Ej
 obtain rfl:k=L.length:=bh;have hrow:=Q.o;rw [List.take_length]at hrow;have iz:=af hrow;clear hrow;go_wp2_with fail;go_ret;exact⟨_,rfl,by rw [cO.o];exact iz.o,iK.o⟩
end
theorem Hr {w:World} {e:TypeId} {base size n:Nat} {v:Value} {xs:List Value} (h:w.ownsRow base e size v n xs) {p:Addr} (hp:v.ownBlock≠some p.block) (u:Value):(w.setCell p u).ownsRow base e size v n xs:=by
 refine⟨h.1,?_⟩;rcases h.2 with h2|⟨g,cap,cur,hv,hb,hh,r⟩
 ·exact .inl h2
 refine .inr ⟨g,cap,cur,hv,hb,?_,r⟩;rw [Below.heap_setCell _ _ _ _ (fun e=>hp (by rw [hv,e];rfl))];exact hh
section
variable {W w w':World} {pw:Nat} {L:List aC}
theorem Ru (h:g4 W w pw L) (hl:L.length<=250) (hq:∀o∈L,1<=o.aq∧o.aq<=1000000) (side:Int):
 Calls Tryz.prog 100 #[.pointer ↑pw,↑side] w fun e w'=>e= .returned (.tuple #[.agg (jS L side).1.cells.toArray,.bool (jS L side).2])∧Below ↑w w w':=by
 have D:=af (Below.aI w (.cells #[↑(),↑(),↑()] 101));have H1:=af (h.below D.o);have H:=af hq;have A:Ei (av (w.alloc (.cells #[↑(),↑(),↑()] 101)) ↑w 101 #[↑(),↑(),↑()]):=af (av.new _ _ _);clear h hq;cases hf:k6 L side with
 |nil=>have F:Ei (jS L side=(jD,false)):=af (by unfold jS;rw [hf]);have G:=af hf;clear hf;go_enter Tryz.func100,Tryz.ntmps100;go_upto_region 1 with(fail);obtain⟨aH,C⟩:=ai w.heap.size;have B:Ei (w.heap.size<=aH):=af bh;replace A:Ei (av (w.alloc (.cells #[↑(),↑(),↑()] 101)) aH 101 #[↑(),↑(),↑()]):=af (by rw [<-C];exact A.o);rw [C];clear C;generalize w.alloc (.cells #[↑(),↑(),↑()] 101)=w0 at*;have hla:=Ny H1.o hl H.o side;rw [G.o]at hla;go_wp2_with fail;refine hla.mono ?_;rintro e w1 ⟨v,rfl,hr,hb⟩;replace A:=af (A.o.below hb);replace D:=ag D hb;obtain⟨ra,rc,rfl,_,hrd⟩:=hr.rd;clear hla hr hb;clear hrd;obtain⟨l0,l1,l2⟩:=A.o.gQ;have fz:∀o,w1.frozen? ⟨aH,o,none⟩=false:=fun o=>A.o.frozen o;go_wp2_with fail;clear l0 l1 l2 fz;have hz:=((A.o.aW 0 ↑()).aW 1 ↑()).aW 2 ↑();have hbz:=((D.o.setCell (p:=⟨aH,0,none⟩) B.o ↑()).setCell (p:=⟨aH,1,none⟩) B.o ↑()).setCell (p:=⟨aH,2,none⟩) B.o ↑();generalize ((w1.setCell ↑aH ↑()).setCell ⟨aH,1,none⟩ ↑()).setCell ⟨aH,2,none⟩ ↑()=ax at*;obtain⟨k0,k1,k2⟩:=hz.gQ;refine bodyPost_ret (v:= .tuple #[.agg #[↑(),↑(),↑()],.bool false]) (by simp [results,Tryz.results100,go_sem,k0,k1,k2]) rfl ⟨by rw [F.o];rfl,hbz⟩
 |cons v M=>
  have F:Ei (jS L side=(v,true)):=af (by unfold jS;rw [hf]);have G:=af hf;clear hf;obtain⟨v0,v1,v2⟩:=v;go_enter Tryz.func100,Tryz.ntmps100;go_upto_region 1 with(fail);obtain⟨aH,C⟩:=ai w.heap.size;have B:Ei (w.heap.size<=aH):=af bh;replace A:Ei (av (w.alloc (.cells #[↑(),↑(),↑()] 101)) aH 101 #[↑(),↑(),↑()]):=af (by rw [<-C];exact A.o);rw [C];clear C;generalize w.alloc (.cells #[↑(),↑(),↑()] 101)=w0 at*;have hla:=Ny H1.o hl H.o side;rw [G.o]at hla;go_wp2_with fail;refine hla.mono ?_;rintro e w1 ⟨v,rfl,hr,hb⟩;replace A:=af (A.o.below hb);replace D:=ag D hb;obtain⟨ra,rc,rfl,_,hrd⟩:=hr.rd;clear hla hr hb;obtain⟨g,off,rfl,_,hc⟩:=hrd 0 _ rfl;rw [Nat.zero_mul,Nat.add_zero]at hc;have c0:w1.cell? ↑(g,off)=↑v0:=hc 0 _ rfl;have c1:w1.cell? ↑(g,off+1)=↑v1:=hc 1 _ rfl;have c2:w1.cell? ↑(g,off+2)=↑v2:=hc 2 _ rfl;rw [List.length_cons];have hn0:¬((M.length+1:Nat):Int)=0:=bh;have I:(((M.length+1:Nat):Int)==0)=false:=by rw [beq_eq_false_iff_ne];exact hn0
  have hn2:((M.length:Int)+1==0)=false:=by rw [beq_eq_false_iff_ne];omega
  have E:(0:Int)<(M.length:Int)+1:=bh;clear hc hrd;obtain⟨l0,l1,l2⟩:=A.o.gQ;have fz:∀o,w1.frozen? ⟨aH,o,none⟩=false:=fun o=>A.o.frozen o;go_wp2_with fail;clear l0 l1 l2 fz c0 c1 c2 hn0 I hn2 E;have hz:=((A.o.aW 0 ↑v0).aW 1 ↑v1).aW 2 ↑v2;have hbz:=((D.o.setCell (p:=⟨aH,0,none⟩) B.o ↑v0).setCell (p:=⟨aH,1,none⟩) B.o ↑v1).setCell (p:=⟨aH,2,none⟩) B.o ↑v2;generalize ((w1.setCell ↑aH ↑v0).setCell ⟨aH,1,none⟩ ↑v1).setCell ⟨aH,2,none⟩ ↑v2=ax at*;obtain⟨k0,k1,k2⟩:=hz.gQ;refine bodyPost_ret (v:= .tuple #[.agg #[↑v0,↑v1,↑v2],.bool true]) (by simp [results,Tryz.results100,go_sem,k0,k1,k2]) rfl ⟨by rw [F.o];rfl,hbz⟩
end
instance (n:Int):Decidable (cz n):=by unfold cz;infer_instance
def oO (rule:Int) (a b:Nat):Prod:=⟨⟨#[67,76]⟩,some ⟨a,0,none⟩,[320,321,323],3,5,0,1000,200,rule,4,2,40,some ⟨b,0,none⟩,[500,505,490],3⟩
theorem X0 {w:World} {g:Nat} {t:TypeId} {L:List Int} (h:av w g t (L.map (Value.int .i64)).toArray) (hok:∀x∈L,cz x):rS w ↑g L:=by intro j x hj;refine⟨hok x (List.mem_of_getElem? hj),g,0,rfl,h.lt,?_⟩;rw [Nat.zero_add,h.cell,List.getElem?_toArray,List.getElem?_map,hj];rfl
theorem YU (rule:Int) (w:World):
 Calls Tryz.prog 44 #[↑rule] w fun e w'=>∃a b,e= .returned (oO rule a b).agg∧gM w' (oO rule a b)∧Below ↑w w w':=by
 go_enter Tryz.func44,Tryz.ntmps44;go_wp2_with fail;have s1:=ak;generalize hA:w.alloc (.cells #[.string ⟨#[67,76]⟩,.slice (some ⟨w.heap.size+1,0,none⟩) 3 3,.int .i64 5,↑(),.int .i64 1000,.int .i64 200,↑rule,.int .i64 4,.int .i64 2,.int .i64 40,.slice (some ⟨w.heap.size+1+1,0,none⟩) 3 3] 25)=wa;have B:wa.heap.size=w.heap.size+1:=by rw [<-hA];exact s1 _ _
 have hm:=av.new wa 3 #[.int .i64 320,.int .i64 321,.int .i64 323];have hb1:Below ↑w w wa:=by rw [<-hA];exact Below.aI _ _
 have jh:wa.heap[w.heap.size]? =some (.cells #[.string ⟨#[67,76]⟩,.slice (some ⟨w.heap.size+1,0,none⟩) 3 3,.int .i64 5,↑(),.int .i64 1000,.int .i64 200,↑rule,.int .i64 4,.int .i64 2,.int .i64 40,.slice (some ⟨w.heap.size+1+1,0,none⟩) 3 3] 25):=by rw [<-hA];exact heap_alloc_new w _
 have hm2:av ((wa.alloc (.cells #[.int .i64 320,.int .i64 321,.int .i64 323] 3)).alloc (.cells #[.int .i64 500,.int .i64 505,.int .i64 490] 2)) (w.heap.size+1) 3 (([320,321,323]:List Int).map (Value.int .i64)).toArray:=by rw [<-B];exact hm.alloc _
 have A:av ((wa.alloc (.cells #[.int .i64 320,.int .i64 321,.int .i64 323] 3)).alloc (.cells #[.int .i64 500,.int .i64 505,.int .i64 490] 2)) (w.heap.size+1+1) 2 (([500,505,490]:List Int).map (Value.int .i64)).toArray:=by have:=av.new (wa.alloc (.cells #[.int .i64 320,.int .i64 321,.int .i64 323] 3)) 2 #[.int .i64 500,.int .i64 505,.int .i64 490];rw [s1,B]at this;exact this
 have e1:∀x∈([320,321,323]:List Int),cz x:=b9;have e2:∀x∈([500,505,490]:List Int),cz x:=b9;have hp:∀i,i<11->((wa.alloc (.cells #[.int .i64 320,.int .i64 321,.int .i64 323] 3)).alloc (.cells #[.int .i64 500,.int .i64 505,.int .i64 490] 2)).cell? ⟨w.heap.size,i,none⟩=(oO rule (w.heap.size+1) (w.heap.size+1+1)).cells[i]? :=by intro i hi;have hb:av wa ↑w 25 (oO rule (w.heap.size+1) (w.heap.size+1+1)).cells:=jh;exact((hb.alloc _).alloc _).cell i
 have c0:=hp 0 bh;have c1:=hp 1 bh;have c2:=hp 2 bh;have c3:=hp 3 bh;have E:=hp 4 bh;have D:=hp 5 bh;have F:=hp 6 bh;have G:=hp 7 bh;have H:=hp 8 bh;have I:=hp 9 bh;have K:=hp 10 bh;have C:Below ↑w w ((wa.alloc (.cells #[.int .i64 320,.int .i64 321,.int .i64 323] 3)).alloc (.cells #[.int .i64 500,.int .i64 505,.int .i64 490] 2)):=(hb1.alloc hb1.size _).alloc (by rw [s1];omega) _;have J:gM ((wa.alloc (.cells #[.int .i64 320,.int .i64 321,.int .i64 323] 3)).alloc (.cells #[.int .i64 500,.int .i64 505,.int .i64 490] 2)) (oO rule (w.heap.size+1) (w.heap.size+1+1)):=
  ⟨by show 2<=1000;omega,X0 hm2 e1,X0 A e2,by show 3<=1000000;omega,by show 3<=1000000;omega,by show cz 5;decide,by show cz 0;decide,by show cz 1000;decide,by show cz 200;decide⟩
 clear hm hm2 A jh hA hp;generalize ((wa.alloc (.cells #[.int .i64 320,.int .i64 321,.int .i64 323] 3)).alloc (.cells #[.int .i64 500,.int .i64 505,.int .i64 490] 2))=wc at*;simp only [oO,Prod.cells]at c0 c1 c2 c3 E D F G H I K;exact bodyPost_ret (v:=(oO rule (w.heap.size+1) (w.heap.size+1+1)).agg) (by unfold oO Prod.agg Prod.cells;simp [results,Tryz.results44,go_sem, *]) rfl ⟨_,_,rfl,J,C⟩
structure xk where
 n:Nat
 tick:Int
 rule:Int
 top:Int
 least:Int
 part:Int
 wd:Int
structure xk.ok (k:xk):Prop where
 n:2<=k.n∧k.n<=5
 tick:1<=k.tick∧k.tick<=10
 rule:1<=k.rule∧k.rule<=3
 top:0<=k.top∧k.top<=9
 least:1<=k.least∧k.least<=5
 part:0<=k.part∧k.part<=100
 wd:5<=k.wd∧k.wd<=65
def rP (n:Nat):List Int:=(List.range n).map (fun(i:Nat)=>10*(i:Int)+3)
def oN (tick:Int) (n:Nat):List Int:=(List.range n).map (fun(i:Nat)=>tick*(10+(i:Int)))
def xk.prod (k:xk) (ma:Option Addr) (mc:Nat) (sa:Option Addr) (sc:Nat):Prod:=⟨⟨#[206,169]⟩,ma,rP k.n,mc,k.tick,-20*k.tick,100*k.tick,k.tick*k.wd,k.rule,k.top,k.least,k.part,sa,oN k.tick k.n,sc⟩
theorem afu (n:Nat):rP (n+1)=rP n++ [10*(n:Int)+3]:=by unfold rP;rw [List.range_succ,List.map_append];rfl
theorem afy (t:Int) (n:Nat):oN t (n+1)=oN t n++ [t*(10+(n:Int))]:=by unfold oN;rw [List.range_succ,List.map_append];rfl
theorem G2 (n:Nat):(rP n).length=n:=by simp [rP]
theorem G3 (t:Int) (n:Nat):(oN t n).length=n:=by simp [oN]
theorem agh:∀n,n<=5->2<=n->lp (rP n)=true:=b9
theorem agi:o6 ⟨#[206,169]⟩=true:=by decide+kernel
theorem agj:o6 ⟨#[67,76]⟩=true:=by decide+kernel
theorem Xf {t:Int} {n:Nat} {x:Int} (h:x∈oN t n):∃i:Nat,i<n∧x=t*(10+(i:Int)):=by unfold oN at h;rw [List.mem_map]at h;obtain⟨i,hi,rfl⟩:=h;exact⟨i,List.mem_range.1 hi,rfl⟩
theorem ED {t i:Int} (ht:1<=t) {a b:Int} (h1:a<=i) (h2:i<=b):t*a<=t*i∧t*i<=t*b:=⟨Int.mul_le_mul_of_nonneg_left h1 bh,Int.mul_le_mul_of_nonneg_left h2 bh⟩
theorem Nz (t i:Int):jQ t (t*i)=false:=by unfold jQ;rw [Int.mul_tmod_right];rfl
theorem agk (k:xk) (h:k.ok) (ma:Option Addr) (mc:Nat) (sa:Option Addr) (sc:Nat):cR (k.prod ma mc sa sc)=0:=by
 obtain⟨hn,ht,hr,D,hl,C,hw⟩:=h;have h1:o6 (k.prod ma mc sa sc).code=true:=agi;have h2:lp (k.prod ma mc sa sc).months=true:=agh k.n hn.2 hn.1;have B:=ED ht.1 hw.1 hw.2;have A:∀x∈oN k.tick k.n,jQ k.tick x=false∧k.tick*10<=x∧x<=k.tick*15:=by intro x hx;obtain⟨i,hi,rfl⟩:=Xf hx;have:=ED ht.1 (i:=10+(i:Int)) (a:=10) (b:=15) bh bh;exact⟨Nz _ _,this.1,this.2⟩
 have h3:nD (k.prod ma mc sa sc)=true:=by unfold nD;show(decide (1<=k.tick)&&decide (k.tick<=1000)&& !jQ k.tick (-20*k.tick)&& !jQ k.tick (100*k.tick)&& !jQ k.tick (k.tick*k.wd)&& !(oN k.tick k.n).any (jQ k.tick))=true;rw [Int.mul_comm (-20),Int.mul_comm 100,Nz,Nz,Nz,decide_eq_true ht.1,decide_eq_true (bh:k.tick<=1000),any_none fun j x hx=>(A x (List.mem_of_getElem? hx)).1];rfl
 have h4:¬ix (k.prod ma mc sa sc):=by unfold ix;show¬(-20*k.tick< -1000000∨100*k.tick<=-20*k.tick∨1000000<100*k.tick∨k.tick*k.wd<0∨100*k.tick- -20*k.tick<k.tick*k.wd);omega
 have h5:o5 (k.prod ma mc sa sc)=false:=by unfold o5;show((oN k.tick k.n).length !=(rP k.n).length||(oN k.tick k.n).any (fun x=>decide (x< -20*k.tick))||(oN k.tick k.n).any (fun x=>decide (100*k.tick<x)))=false;rw [G3,G2,any_none (f:=fun x=>decide (x< -20*k.tick)) fun j x hx=>decide_eq_false (by have:=A x (List.mem_of_getElem? hx);omega),any_none (f:=fun x=>decide (100*k.tick<x)) fun j x hx=>decide_eq_false (by have:=A x (List.mem_of_getElem? hx);omega)];simp
 have h6:¬lS (k.prod ma mc sa sc):=by unfold lS;show¬(k.rule<1∨3<k.rule);omega
 have h7:¬g9 (k.prod ma mc sa sc):=by unfold g9;show¬(k.top<0∨1000000<k.top∨k.least<1∨1000<k.least∨k.part<0∨100<k.part);omega
 unfold cR;rw [h1,h2,h3,h5,if_neg cU,if_neg cU,if_neg cU,if_neg h4,if_neg cU,if_neg h6,if_neg h7]
theorem YV (rule:Int) (h:1<=rule∧rule<=3) (a b:Nat):cR (oO rule a b)=0:=by
 have h1:o6 (oO rule a b).code=true:=agj;have h2:lp (oO rule a b).months=true:=by show lp [320,321,323]=true;decide
 have h3:nD (oO rule a b)=true:=by show(decide ((1:Int)<=5)&&decide ((5:Int)<=1000)&& !jQ 5 0&& !jQ 5 1000&& !jQ 5 200&& !([500,505,490]:List Int).any (jQ 5))=true;decide
 have h4:¬ix (oO rule a b):=by show¬((0:Int)< -1000000∨(1000:Int)<=0∨(1000000:Int)<1000∨(200:Int)<0∨(1000:Int)-0<200);omega
 have h5:o5 (oO rule a b)=false:=by show(([500,505,490]:List Int).length !=([320,321,323]:List Int).length||([500,505,490]:List Int).any (fun x=>decide (x<0))||([500,505,490]:List Int).any (fun x=>decide (1000<x)))=false;decide
 have h6:¬lS (oO rule a b):=by show¬(rule<1∨3<rule);omega
 have h7:¬g9 (oO rule a b):=by show¬((4:Int)<0∨(1000000:Int)<4∨(2:Int)<1∨(1000:Int)<2∨(40:Int)<0∨(100:Int)<40);omega
 unfold cR;rw [h1,h2,h3,h5,if_neg cU,if_neg cU,if_neg cU,if_neg h4,if_neg cU,if_neg h6,if_neg h7]
def rN (a b:Int):Int×Bool:=if cz (a+b)then(a+b,true)else(0,false)
def qX (a b:Int):Int×Bool:=if cz (a-b)then(a-b,true)else(0,false)
theorem afn (a b:Int) (w:World) (ha:cz a) (hb:cz b):
 Calls Tryz.prog 145 #[↑a,↑b] w fun e w'=>e= .returned (.tuple #[.int .i64 (rN a b).1,.bool (rN a b).2])∧w=w':=by
 unfold cz at ha hb;by_cases h1:0<b
 ·have y1:IntKind.i64.wrap (9223372036854775807-b)=9223372036854775807-b:=IntWalk.i64_in _ bh;have h2:¬b<0:=bh;by_cases hr:cz (a+b)
  ·have hv:rN a b=(a+b,true):=if_pos hr;rw [hv];have A:IntKind.i64.wrap (a+b)=a+b:=IntWalk.i64_in _ hr;unfold cz at hr;have h3:¬9223372036854775807-b<a:=bh;clear hr hv ha hb;go_enter Tryz.func145,Tryz.ntmps145;go_wp2_with fail;go_ret2;exact⟨cF,cF⟩
  have hv:rN a b=(0,false):=if_neg hr;rw [hv];unfold cz at hr;have h3:9223372036854775807-b<a:=bh;clear hr hv ha hb;go_enter Tryz.func145,Tryz.ntmps145;go_wp2_with fail;go_ret2;exact⟨cF,cF⟩
 by_cases h2:b<0
 ·have y1:IntKind.i64.wrap (-9223372036854775808-b)= -9223372036854775808-b:=IntWalk.i64_in _ bh;by_cases hr:cz (a+b)
  ·have hv:rN a b=(a+b,true):=if_pos hr;rw [hv];have A:IntKind.i64.wrap (a+b)=a+b:=IntWalk.i64_in _ hr;unfold cz at hr;have h3:¬a< -9223372036854775808-b:=bh;clear hr hv ha hb;go_enter Tryz.func145,Tryz.ntmps145;go_wp2_with fail;go_ret2;exact⟨cF,cF⟩
  have hv:rN a b=(0,false):=if_neg hr;rw [hv];unfold cz at hr;have h3:a< -9223372036854775808-b:=bh;clear hr hv ha hb;go_enter Tryz.func145,Tryz.ntmps145;go_wp2_with fail;go_ret2;exact⟨cF,cF⟩
 have hr:cz (a+b):=by unfold cz;omega
 have hv:rN a b=(a+b,true):=if_pos hr;rw [hv];have A:IntKind.i64.wrap (a+b)=a+b:=IntWalk.i64_in _ hr;clear hr hv ha hb;go_enter Tryz.func145,Tryz.ntmps145;go_wp2_with fail;go_ret2;exact⟨cF,cF⟩
theorem WT (a b:Int) (w:World) (ha:cz a) (hb:cz b):
 Calls Tryz.prog 146 #[↑a,↑b] w fun e w'=>e= .returned (.tuple #[.int .i64 (qX a b).1,.bool (qX a b).2])∧w=w':=by
 unfold cz at ha hb;by_cases h1:b<0
 ·have y1:IntKind.i64.wrap (9223372036854775807+b)=9223372036854775807+b:=IntWalk.i64_in _ bh;have h2:¬0<b:=bh;by_cases hr:cz (a-b)
  ·have hv:qX a b=(a-b,true):=if_pos hr;rw [hv];have A:IntKind.i64.wrap (a-b)=a-b:=IntWalk.i64_in _ hr;unfold cz at hr;have h3:¬9223372036854775807+b<a:=bh;clear hr hv ha hb;go_enter Tryz.func146,Tryz.ntmps146;go_wp2_with fail;go_ret2;exact⟨cF,cF⟩
  have hv:qX a b=(0,false):=if_neg hr;rw [hv];unfold cz at hr;have h3:9223372036854775807+b<a:=bh;clear hr hv ha hb;go_enter Tryz.func146,Tryz.ntmps146;go_wp2_with fail;go_ret2;exact⟨cF,cF⟩
 by_cases h2:0<b
 ·have y1:IntKind.i64.wrap (-9223372036854775808+b)= -9223372036854775808+b:=IntWalk.i64_in _ bh;by_cases hr:cz (a-b)
  ·have hv:qX a b=(a-b,true):=if_pos hr;rw [hv];have A:IntKind.i64.wrap (a-b)=a-b:=IntWalk.i64_in _ hr;unfold cz at hr;have h3:¬a< -9223372036854775808+b:=bh;clear hr hv ha hb;go_enter Tryz.func146,Tryz.ntmps146;go_wp2_with fail;go_ret2;exact⟨cF,cF⟩
  have hv:qX a b=(0,false):=if_neg hr;rw [hv];unfold cz at hr;have h3:a< -9223372036854775808+b:=bh;clear hr hv ha hb;go_enter Tryz.func146,Tryz.ntmps146;go_wp2_with fail;go_ret2;exact⟨cF,cF⟩
 have hr:cz (a-b):=by unfold cz;omega
 have hv:qX a b=(a-b,true):=if_pos hr;rw [hv];have A:IntKind.i64.wrap (a-b)=a-b:=IntWalk.i64_in _ hr;clear hr hv ha hb;go_enter Tryz.func146,Tryz.ntmps146;go_wp2_with fail;go_ret2;exact⟨cF,cF⟩
end Go.Proofs.YtmaijkoopjocdaaGreat
