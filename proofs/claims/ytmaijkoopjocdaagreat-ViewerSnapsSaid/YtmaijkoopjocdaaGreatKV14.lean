import Derived.Test.YtmaijkoopjocdaaGreatKV05
import Derived.Test.YtmaijkoopjocdaaGreatKV13
set_option maxRecDepth 100000
set_option maxHeartbeats 64000000
namespace Go.Proofs.YtmaijkoopjocdaaGreat
open Go.RowKit Go.Lib
def gI:bl aC:=⟨aC.cells,5,fun _=>rfl,aC.kI,by omega,139,179,.agg Q9.cells.toArray,40,Tryz.underlying179,by kernel_rfl,by rfl,by omega⟩
structure g4 (W w:World) (pw:Nat) (L:List aC):Prop where
 box:∃a c,av w pw 181 #[.slice a L.length c]∧gI.Row w W.heap.size (.slice a L.length c) L
 base:W.heap.size≤pw
 aJ:Below W.heap.size W w
section
variable {W w w':World} {pw:Nat} {L:List aC}
theorem g4.below (h:g4 W w pw L) (hb:Below w.heap.size w w'):g4 W w' pw L:=by
 obtain⟨⟨a,c,h1,h2⟩,h3,h4⟩:=h;exact⟨⟨a,c,h1.below hb,h2.below hb⟩,h3,h4.trans (hb.mono h4.size)⟩
theorem Gx (side x y:Int) (w:World):
 Calls Tryz.prog 72 #[↑side,↑x,↑y] w fun e w'=>e= .returned (.bool (cT side x y))∧w=w':=by
 unfold cT;by_cases h:side=1
 ·subst h
  go_enter Tryz.func72,Tryz.ntmps72
  go_wp2_with fail
  go_ret;exact⟨by trivial,by trivial⟩
 ·have hb:(side==1)=false:=by rw [beq_eq_false_iff_ne];exact h
  rw [if_neg h];go_enter Tryz.func72,Tryz.ntmps72
  go_wp2_with fail
  go_ret;exact⟨by trivial,by trivial⟩
theorem CX (h:g4 W w pw L) (hl:L.length≤250) (id:Int):
 Calls Tryz.prog 134 #[.pointer ↑pw,↑id] w fun e w'=>(∃r,e= .returned (.int .i64 r)∧((r= -1∧L.find? (fun o=>o.id==id)=none)∨∃(k:Nat) (o:aC),r=k∧L[k]? =some o∧o.id=id∧L.find? (fun o=>o.id==id)=some o))∧w=w':=by
 obtain⟨a,c,hb,hr⟩:=h.box;obtain⟨a',c',he,hac,hrd⟩:=hr.rd;injection he with eb _ iU;subst eb iU;have jA:w.cell? ↑pw=some (.slice a L.length c):=hb.cell 0;have R:=af hrd;clear hb hr h hrd hac;go_enter Tryz.func134,Tryz.ntmps134
 go_wp2_with fail
 go_loopw [5] (fun i w'=>∃k:Nat,i=↑k∧k≤L.length∧(L.find? (fun o=>o.id==id)=(L.drop k).find? (fun o=>o.id==id))∧w=w') (fun i _=>L.length-(RowKit.intOf i).toNat)
 case atStart=>exact⟨0,rfl,Nat.zero_le _,rfl,rfl⟩
 case round=>
  obtain⟨k,rfl,hk,hf,rfl⟩:=hrel;have b5:=af hf;clear hf;by_cases hlt:k<L.length
  ·have hlt':(k:Int)<(L.length:Int):=by omega
   obtain⟨o,ho⟩:∃o,L[k]? =some o:=⟨_,List.getElem?_eq_getElem hlt⟩;obtain⟨g,off,rfl,_,hc⟩:=R.out k o ho
   have hd:L.drop k=o::L.drop (k+1):=by
    obtain⟨h1,h2⟩:=lB ho;rw [List.drop_eq_getElem_cons h1,h2]
   have e9:=af ho;obtain⟨oi,x4⟩:=ai o.id;have c0:w.cell? ⟨g,off+k*5,none⟩=some ↑oi:=x4▸hc 0 _ rfl;have Kt:=af x4;have dI:=af hd;clear hc ho x4 hd;by_cases he:oi=id
   ·subst he
    go_wp2_with fail
    go_ret;refine⟨⟨_,by trivial,.inr ⟨k,o,rfl,e9.out,Kt.out,?_⟩⟩,by trivial⟩;rw [b5.out,dI.out,List.find?_cons_of_pos (by rw [Kt.out];simp)]
   ·have Ku:(oi==id)=false:=by rw [beq_eq_false_iff_ne];exact he
    go_wp2_with fail
    go_roundw
    case rel=>exact⟨k+1,by go_num,by omega,by rw [b5.out,dI.out,List.find?_cons_of_neg (by rw [Kt.out,Ku];simp)],by trivial⟩
    case measure=>simp [RowKit.intOf];omega
  ·go_wp2_with fail
   go_ret;refine⟨⟨_,by trivial,.inl ⟨by trivial,?_⟩⟩,by trivial⟩;rw [b5.out,List.drop_of_length_le (by omega)];rfl
theorem ahh (h:g4 W w pw L) (hl:L.length≤250) (id:Int):
 Calls Tryz.prog 107 #[.pointer ↑pw,↑id] w fun e w'=>e= .returned (.tuple #[.agg (vQ L id).1.cells.toArray,.bool (vQ L id).2])∧Below w.heap.size w w':=by
 have iK:=af (Below.aI w (.cells #[.int .i64 0,.int .i64 0,.int .i64 0,.int .i64 0,.bool false] 139));have H1:=af (h.below iK.out);have dQ:Hid (av (w.alloc (.cells #[.int .i64 0,.int .i64 0,.int .i64 0,.int .i64 0,.bool false] 139)) w.heap.size 139 #[.int .i64 0,.int .i64 0,.int .i64 0,.int .i64 0,.bool false]):=af (av.new _ _ _);clear h;cases hf:L.find? (fun o=>o.id==id)with
 |none=>
  have bR:Hid (vQ L id=(Q9,false)):=af (by unfold vQ;rw [hf]);have b5:=af hf;clear hf;go_enter Tryz.func107,Tryz.ntmps107
  go_upto_region 1 with(fail)
  obtain⟨aH,dr⟩:=ai w.heap.size;have bL:Hid (w.heap.size≤aH):=af (by omega);replace dQ:Hid (av (w.alloc (.cells #[.int .i64 0,.int .i64 0,.int .i64 0,.int .i64 0,.bool false] 139)) aH 139 #[.int .i64 0,.int .i64 0,.int .i64 0,.int .i64 0,.bool false]):=af (by rw [←dr];exact dQ.out);rw [dr];clear dr;generalize w.alloc (.cells #[.int .i64 0,.int .i64 0,.int .i64 0,.int .i64 0,.bool false] 139)=w1 at*;have hfr:=CX H1.out hl id;go_wp2_with fail
  refine hfr.mono ?_;rintro e w2 ⟨⟨r,rfl,hr⟩,rfl⟩;clear hfr
  obtain rfl:r= -1:=by
   rcases hr with⟨rfl,_⟩|⟨k,o,_,_,_,h1⟩
   ·rfl
   ·rw [b5.out]at h1;cases h1
  clear hr;obtain⟨l0,l1,l2,l3,l4⟩:=dQ.out.amx;have fz:∀o,w1.frozen? ⟨aH,o,none⟩=false:=fun o=>dQ.out.frozen o;go_wp2_with fail
  clear l0 l1 l2 l3 l4 fz;have hz:=((((dQ.out.aW 0 (.int .i64 0)).aW 1 (.int .i64 0)).aW 2 (.int .i64 0)).aW 3 (.int .i64 0)).aW 4 (.bool false);have hbz:=((((iK.out.setCell (p:=⟨aH,0,none⟩) bL.out (.int .i64 0)).setCell (p:=⟨aH,1,none⟩) bL.out (.int .i64 0)).setCell (p:=⟨aH,2,none⟩) bL.out (.int .i64 0)).setCell (p:=⟨aH,3,none⟩) bL.out (.int .i64 0)).setCell (p:=⟨aH,4,none⟩) bL.out (.bool false);generalize ((((w1.setCell ↑aH (.int .i64 0)).setCell ⟨aH,1,none⟩ (.int .i64 0)).setCell ⟨aH,2,none⟩ (.int .i64 0)).setCell ⟨aH,3,none⟩ (.int .i64 0)).setCell ⟨aH,4,none⟩ (.bool false)=ax at*;obtain⟨k0,k1,k2,di,jc⟩:=hz.amx;refine bodyPost_ret (v:= .tuple #[.agg #[.int .i64 0,.int .i64 0,.int .i64 0,.int .i64 0,.bool false],.bool false]) (by simp [results,Tryz.results107,go_sem,k0,k1,k2,di,jc]) rfl ⟨by rw [bR.out];rfl,hbz⟩
 |some o=>
  have bR:Hid (vQ L id=(o,true)):=af (by unfold vQ;rw [hf]);have b5:=af hf;clear hf;go_enter Tryz.func107,Tryz.ntmps107
  go_upto_region 1 with(fail)
  obtain⟨aH,dr⟩:=ai w.heap.size;have bL:Hid (w.heap.size≤aH):=af (by omega);replace dQ:Hid (av (w.alloc (.cells #[.int .i64 0,.int .i64 0,.int .i64 0,.int .i64 0,.bool false] 139)) aH 139 #[.int .i64 0,.int .i64 0,.int .i64 0,.int .i64 0,.bool false]):=af (by rw [←dr];exact dQ.out);rw [dr];clear dr;generalize w.alloc (.cells #[.int .i64 0,.int .i64 0,.int .i64 0,.int .i64 0,.bool false] 139)=w1 at*;have hfr:=CX H1.out hl id;go_wp2_with fail
  refine hfr.mono ?_;rintro e w2 ⟨⟨r,rfl,hr⟩,rfl⟩;clear hfr
  obtain⟨k,rfl,ho⟩:∃k:Nat,r=k∧L[k]? =some o:=by
   rcases hr with⟨_,h1⟩|⟨k,o',rfl,h2,_,h1⟩
   ·rw [b5.out]at h1;cases h1
   ·rw [b5.out]at h1;injection h1 with h1;subst h1;exact⟨k,rfl,h2⟩
  have eR:(k:Int)<(L.length:Int):=by have:=dM ho;omega
  obtain⟨a,c,hb,hrw⟩:=H1.out.box;obtain⟨a',c',he,hac,hrd⟩:=hrw.rd;injection he with eb _ iU;subst eb iU;obtain⟨g,off,rfl,_,hc⟩:=hrd k o ho;obtain⟨f0,f1,f2,f3,f4⟩:=o;have c0:w1.cell? ⟨g,off+k*5,none⟩=some ↑f0:=hc 0 _ rfl;have c1:w1.cell? ⟨g,off+k*5+1,none⟩=some ↑f1:=hc 1 _ rfl;have c2:w1.cell? ⟨g,off+k*5+2,none⟩=some ↑f2:=hc 2 _ rfl;have c3:w1.cell? ⟨g,off+k*5+3,none⟩=some ↑f3:=hc 3 _ rfl;have dH:w1.cell? ⟨g,off+k*5+4,none⟩=some ↑f4:=hc 4 _ rfl;have jA:w1.cell? ↑pw=some (.slice (some ⟨g,off,none⟩) L.length c):=hb.cell 0;clear hc hb hrw hrd ho hr;obtain⟨l0,l1,l2,l3,l4⟩:=dQ.out.amx;have fz:∀o,w1.frozen? ⟨aH,o,none⟩=false:=fun o=>dQ.out.frozen o;go_wp2_with fail
  clear l0 l1 l2 l3 l4 fz c0 c1 c2 c3 dH jA;have hz:=((((dQ.out.aW 0 ↑f0).aW 1 ↑f1).aW 2 ↑f2).aW 3 ↑f3).aW 4 ↑f4;have hbz:=((((iK.out.setCell (p:=⟨aH,0,none⟩) bL.out ↑f0).setCell (p:=⟨aH,1,none⟩) bL.out ↑f1).setCell (p:=⟨aH,2,none⟩) bL.out ↑f2).setCell (p:=⟨aH,3,none⟩) bL.out ↑f3).setCell (p:=⟨aH,4,none⟩) bL.out ↑f4;generalize ((((w1.setCell ↑aH ↑f0).setCell ⟨aH,1,none⟩ ↑f1).setCell ⟨aH,2,none⟩ ↑f2).setCell ⟨aH,3,none⟩ ↑f3).setCell ⟨aH,4,none⟩ ↑f4=ax at*;obtain⟨k0,k1,k2,di,jc⟩:=hz.amx;refine bodyPost_ret (v:= .tuple #[.agg #[↑f0,↑f1,↑f2,↑f3,↑f4],.bool true]) (by simp [results,Tryz.results107,go_sem,k0,k1,k2,di,jc]) rfl ⟨by rw [bR.out];rfl,hbz⟩
end
section
variable {W w w':World} {pw:Nat} {L:List aC}
def yH (side ap:Int) (o:aC):Bool:=decide (o.side=side∧o.ap=ap)
theorem Yr {p:aC→Bool} {k:Nat} {o:aC} (h:L[k]? =some o):(L.take (k+1)).filter p=(L.take k).filter p++(if p o=true then [o]else []):=by
 rw [kH h,List.filter_append]
 congr 1
 by_cases hp:p o=true
 ·rw [if_pos hp];simp [hp]
 ·rw [if_neg hp];simp [hp]
theorem aeY (h:g4 W w pw L) (hl:L.length≤250) (side ap:Int):
 Calls Tryz.prog 147 #[.pointer ↑pw,↑side,↑ap] w fun e w'=>∃v,e= .returned v∧gI.Row w' w.heap.size v (yo L side ap)∧Below w.heap.size w w':=by
 have H:=af h;clear h;have cO:Hid (yo L side ap=L.filter (yH side ap)):=af rfl;go_enter Tryz.func147,Tryz.ntmps147
 go_wp2_with fail
 go_loopw [7,8] (fun v j w'=>∃k:Nat,j=↑k∧k≤L.length∧gI.Row w' w.heap.size v ((L.take k).filter (yH side ap))∧Below w.heap.size w w') (fun _ j _=>L.length-(RowKit.intOf j).toNat)
 case atStart=>exact⟨0,rfl,Nat.zero_le _,bl.Row.nil _ _,Below.refl _ _⟩
 case round=>
  obtain⟨k,rfl,hk,hrow,hb⟩:=hrel;obtain⟨ax,rfl⟩:=aj wr;have cY:=af hrow;have iK:=af hb;obtain⟨a,c,aT,hrw⟩:=(H.out.below hb).box;obtain⟨a',c',he,_,hrd⟩:=hrw.rd;injection he with eb _ iU;subst eb iU;have jA:ax.cell? ↑pw=some (.slice a L.length c):=aT.cell 0;clear hrow hb aT hrw;by_cases hlt:k<L.length
  ·have hlt':(k:Int)<(L.length:Int):=by omega
   obtain⟨o,ho⟩:∃o,L[k]? =some o:=⟨_,List.getElem?_eq_getElem hlt⟩;obtain⟨g,off,rfl,_,hc⟩:=hrd k o ho;have dN:=af (Yr (p:=yH side ap) ho);have tG:Hid (((L.take k).filter (yH side ap)).length≤250):=af (Nat.le_trans (List.length_filter_le _ _) (by rw [List.length_take];omega));obtain⟨f0,f1,f2,f3,f4⟩:=o;have c0:ax.cell? ⟨g,off+k*5,none⟩=some ↑f0:=hc 0 _ rfl;have c1:ax.cell? ⟨g,off+k*5+1,none⟩=some ↑f1:=hc 1 _ rfl;have c2:ax.cell? ⟨g,off+k*5+2,none⟩=some ↑f2:=hc 2 _ rfl;have c3:ax.cell? ⟨g,off+k*5+3,none⟩=some ↑f3:=hc 3 _ rfl;have dH:ax.cell? ⟨g,off+k*5+4,none⟩=some ↑f4:=hc 4 _ rfl;clear hc ho hrd;by_cases hs:f1=side
   ·by_cases hp:f2=ap
    ·subst hs
     subst hp;have dx:Hid (yH f1 f2 ⟨f0,f1,f2,f3,f4⟩=true):=af (decide_eq_true ⟨rfl,rfl⟩);generalize (L.take k).filter (yH f1 f2)=ov at*;have hnew:av (ax.alloc (.cells #[↑f0,↑f1,↑f2,↑f3,↑f4] 139)) ax.heap.size 139 (⟨f0,f1,f2,f3,f4⟩:aC).cells.toArray:=av.new _ _ _;have yI:=af hnew;have hba:=Below.aI ax (.cells #[↑f0,↑f1,↑f2,↑f3,↑f4] 139);have fM:=af (cY.out.below hba);have bN:=ag iK hba;clear hnew hba
     go_wp2_with (first
      |(at_builtin;go_loud (refine gI.push rfl (.tmp 40) (.tmp 48) rfl w.heap.size u7 ov rfl fM.out ax.heap.size ⟨f0,f1,f2,f3,f4⟩ rfl yI.out.lt yI.out.gH (by have:=tG.out;omega) bN.out.size ?_)))
     intro v' aN bX cQ eG;have lQ:gI.Row aN w.heap.size v' ((L.take (k+1)).filter (yH f1 f2)):=by rw [dN.out,if_pos dx.out];exact bX
     have cL:=af lQ;have b7:=af (iJ cQ bN.out (cS fM.out));clear bX lQ cQ eG yI fM bN c0 c1 c2 c3 dH jA cY iK;go_wp2_with fail
     go_roundw
     case rel=>exact⟨k+1,by go_num,by omega,cL.out,b7.out⟩
     case measure=>simp [RowKit.intOf];omega
    ·have A7:(f2==ap)=false:=by rw [beq_eq_false_iff_ne];exact hp
     have dx:Hid (¬yH side ap ⟨f0,f1,f2,f3,f4⟩=true):=af (by unfold yH;simp [hp]);go_wp2_with fail
     go_roundw
     case rel=>exact⟨k+1,by go_num,by omega,by rw [dN.out,if_neg dx.out,List.append_nil];exact cY.out,iK.out⟩
     case measure=>simp [RowKit.intOf];omega
   ·have hsb:(f1==side)=false:=by rw [beq_eq_false_iff_ne];exact hs
    have dx:Hid (¬yH side ap ⟨f0,f1,f2,f3,f4⟩=true):=af (by unfold yH;simp [hs]);go_wp2_with fail
    go_roundw
    case rel=>exact⟨k+1,by go_num,by omega,by rw [dN.out,if_neg dx.out,List.append_nil];exact cY.out,iK.out⟩
    case measure=>simp [RowKit.intOf];omega
  ·obtain rfl:k=L.length:=by omega
   have hrow:=cY.out;rw [List.take_length]at hrow;have iz:=af hrow;clear hrow;go_wp2_with fail
   go_ret;exact⟨_,rfl,by rw [cO.out];exact iz.out,iK.out⟩
end
def qs (x:aC):List aB→List aB
 | []=> [⟨x.ap,x.aq,1⟩]
 | [l]=>if l.ap=x.ap then [⟨l.ap,l.aq+x.aq,l.count+1⟩]else [l,⟨x.ap,x.aq,1⟩]
 |l::m::M=>l::qs x (m::M)
theorem ahi (o:aC) (M:List aB):pN o M≠ []:=by
 cases M with
 |nil=>simp [pN]
 |cons l M=>
  show(if l.ap=o.ap then(⟨o.ap,o.aq+l.aq,1+l.count⟩:aB)::M else⟨o.ap,o.aq,1⟩::l::M)≠ [];split<;>simp
theorem ahj (x o:aC) (M:List aB) (fF:M≠ []):qs x (pN o M)=pN o (qs x M):=by
 cases M with
 |nil=>exact absurd rfl fF
 |cons l M=>
  cases M with
  |nil=>
   show qs x (if l.ap=o.ap then [⟨o.ap,o.aq+l.aq,1+l.count⟩]else [⟨o.ap,o.aq,1⟩,l])=pN o (if l.ap=x.ap then [⟨l.ap,l.aq+x.aq,l.count+1⟩]else [l,⟨x.ap,x.aq,1⟩]);by_cases h1:l.ap=o.ap<;>by_cases h2:l.ap=x.ap
   ·rw [if_pos h1,if_pos h2]
    show(if o.ap=x.ap then _ else _)=(if l.ap=o.ap then _ else _);rw [if_pos (h1▸h2),if_pos h1];simp [Int.add_assoc]
   ·rw [if_pos h1,if_neg h2]
    show(if o.ap=x.ap then _ else _)=(if l.ap=o.ap then _ else _);rw [if_neg (h1▸h2),if_pos h1]
   ·rw [if_neg h1,if_pos h2]
    show _::(if l.ap=x.ap then _ else _)=(if l.ap=o.ap then _ else _);rw [if_pos h2,if_neg h1]
   ·rw [if_neg h1,if_neg h2]
    show _::(if l.ap=x.ap then _ else _)=(if l.ap=o.ap then _ else _);rw [if_neg h2,if_neg h1]
  |cons m M=>
   show qs x (if l.ap=o.ap then⟨o.ap,o.aq+l.aq,1+l.count⟩::m::M else⟨o.ap,o.aq,1⟩::l::m::M)=(if l.ap=o.ap then⟨o.ap,o.aq+l.aq,1+l.count⟩::qs x (m::M)else⟨o.ap,o.aq,1⟩::l::qs x (m::M));split<;>rfl
theorem ahk {S:List aC} (h:S≠ []):jB S≠ []:=by
 cases S with
 |nil=>exact absurd rfl h
 |cons o S=>exact ahi o _
theorem ahl (S:List aC) (x:aC):jB (S++ [x])=qs x (jB S):=by
 induction S with
 |nil=>rfl
 |cons o S ih=>
  show pN o (jB (S++ [x]))=qs x (pN o (jB S));rw [ih];by_cases hS:S= []
  ·subst hS
   show pN o [⟨x.ap,x.aq,1⟩]=qs x [⟨o.ap,o.aq,1⟩];show(if x.ap=o.ap then _ else _)=(if o.ap=x.ap then _ else _);by_cases h:x.ap=o.ap
   ·rw [if_pos h,if_pos h.symm]
   ·rw [if_neg h,if_neg (Ne.symm h)]
  ·rw [ahj x o _ (ahk hS)]
theorem ahm {x:aC} {M:List aB} (h:∀l,M.getLast? =some l→l.ap≠x.ap):qs x M=M++ [⟨x.ap,x.aq,1⟩]:=by
 induction M with
 |nil=>rfl
 |cons l M ih=>
  cases M with
  |nil=>exact if_neg (h l rfl)
  |cons m M=>
   show l::qs x (m::M)=l::((m::M)++_);rw [ih fun z hz=>h z (by rw [List.getLast?_cons_cons];exact hz)]
theorem ahn {x:aC} {M:List aB} {j:Nat} {l:aB} (hj:M.length=j+1) (hl:M[j]? =some l) (he:l.ap=x.ap):qs x M=M.set j ⟨l.ap,l.aq+x.aq,l.count+1⟩:=by
 induction M generalizing j with
 |nil=>simp at hj
 |cons a M ih=>
  cases M with
  |nil=>
   have:j=0:=by simpa using hj.symm
   subst this;have:a=l:=by simpa using hl
   subst this;exact if_pos he
  |cons m M=>
   obtain⟨j',rfl⟩:∃j',j=j'+1:=⟨j-1,by simp at hj;omega⟩;show a::qs x (m::M)=a::(m::M).set j' _;rw [ih (j:=j') (by simpa using hj) (by simpa using hl)]
theorem Ys {S:List aC} (h:∀o∈S,1≤o.aq∧o.aq≤1000000):∀l∈jB S,(0≤l.aq∧l.aq≤1000000*S.length)∧0≤l.count∧l.count≤S.length:=by
 induction S with
 |nil=>intro l hl;simp [jB]at hl
 |cons o S ih=>
  have NH:=ih fun x hx=>h x (List.mem_cons_of_mem _ hx);have ho:=h o (List.mem_cons_self ..);intro l hl;have hl':l∈pN o (jB S):=hl;rw [List.length_cons];cases hg:jB S with
  |nil=>
   rw [hg]at hl';simp only [pN,List.mem_singleton]at hl';subst hl';dsimp only;omega
  |cons z zs=>
   rw [hg]at hl' NH;simp only [pN]at hl';split at hl'
   ·rcases List.mem_cons.1 hl' with rfl|h2
    ·have:=NH z (List.mem_cons_self ..)
     dsimp only;omega
    ·have:=NH l (List.mem_cons_of_mem _ h2)
     omega
   ·rcases List.mem_cons.1 hl' with rfl|h2
    ·dsimp only
     omega
    ·have:=NH l h2
     omega
theorem QN (S:List aC):(jB S).length≤S.length:=by
 induction S with
 |nil=>exact Nat.le_refl _
 |cons o S ih=>
  show(pN o (jB S)).length≤_;rw [List.length_cons];cases hg:jB S with
  |nil=>simp [pN]
  |cons z zs=>
   rw [hg,List.length_cons]at ih;show(if z.ap=o.ap then(⟨o.ap,o.aq+z.aq,1+z.count⟩:aB)::zs else⟨o.ap,o.aq,1⟩::z::zs).length≤_;split
   ·rw [List.length_cons];omega
   ·rw [List.length_cons,List.length_cons];omega
section
variable {W w w':World} {pw:Nat} {L:List aC}
theorem aho {L:List aC} {k:Nat} {o:aC} (h:L[k]? =some o) (s:Int):jB (q5 (L.take (k+1)) s)=if o.side=s then qs o (jB (q5 (L.take k) s))else jB (q5 (L.take k) s):=by
 unfold q5;rw [Yr h];by_cases hs:o.side=s
 ·rw [if_pos (by simpa using hs),if_pos hs,ahl]
 ·rw [if_neg (by simpa using hs),if_neg hs,List.append_nil]
theorem Ny (h:g4 W w pw L) (hl:L.length≤250) (hq:∀o∈L,1≤o.aq∧o.aq≤1000000) (side:Int):
 Calls Tryz.prog 61 #[.pointer ↑pw,↑side] w fun e w'=>∃v,e= .returned v∧bK.Row w' w.heap.size v (k6 L side)∧Below w.heap.size w w':=by
 have H:=af h;have ie:=af hq;clear h hq;have cO:Hid (k6 L side=jB (q5 L side)):=af rfl;go_enter Tryz.func61,Tryz.ntmps61
 go_wp2_with fail
 go_loopw [5,6] (fun v j w'=>∃k:Nat,j=↑k∧k≤L.length∧bK.Row w' w.heap.size v (jB (q5 (L.take k) side))∧Below w.heap.size w w') (fun _ j _=>L.length-(RowKit.intOf j).toNat)
 case atStart=>exact⟨0,rfl,Nat.zero_le _,bl.Row.nil _ _,Below.refl _ _⟩
 case round=>
  obtain⟨k,rfl,hk,hrow,hb⟩:=hrel;obtain⟨ax,rfl⟩:=aj wr;have cY:=af hrow;have iK:=af hb;obtain⟨a,c,aT,hrw⟩:=(H.out.below hb).box;obtain⟨a',c',he,_,hrd⟩:=hrw.rd;injection he with eb _ iU;subst eb iU;have jA:ax.cell? ↑pw=some (.slice a L.length c):=aT.cell 0;clear hrow hb aT hrw;by_cases hlt:k<L.length
  ·have hlt':(k:Int)<(L.length:Int):=by omega
   obtain⟨o,ho⟩:∃o,L[k]? =some o:=⟨_,List.getElem?_eq_getElem hlt⟩;obtain⟨g,off,rfl,_,hc⟩:=hrd k o ho;have lR:=af (aho ho side);have mL:=af (Ys (S:=q5 (L.take k) side) fun o ho=>ie.out o (List.mem_of_mem_take (List.mem_filter.1 ho).1));have jR:Hid ((jB (q5 (L.take k) side)).length≤250):=af (Nat.le_trans (QN _) (Nat.le_trans (List.length_filter_le _ _) (by rw [List.length_take];omega)));have Bb:Hid ((q5 (L.take k) side).length≤250):=af (Nat.le_trans (List.length_filter_le _ _) (by rw [List.length_take];omega));have hoq:=ie.out o (List.mem_of_getElem? ho);obtain⟨f0,f1,f2,f3,f4⟩:=o;have hq1:1≤f3:=hoq.1;have hq2:f3≤1000000:=hoq.2;have c0:ax.cell? ⟨g,off+k*5,none⟩=some ↑f0:=hc 0 _ rfl;have c1:ax.cell? ⟨g,off+k*5+1,none⟩=some ↑f1:=hc 1 _ rfl;have c2:ax.cell? ⟨g,off+k*5+2,none⟩=some ↑f2:=hc 2 _ rfl;have c3:ax.cell? ⟨g,off+k*5+3,none⟩=some ↑f3:=hc 3 _ rfl;have dH:ax.cell? ⟨g,off+k*5+4,none⟩=some ↑f4:=hc 4 _ rfl;clear hc ho hrd hoq;go_upto_region 6 with(fail)
   clear c0 c1 c2 c3 dH jA;have hnew:av (ax.alloc (.cells #[↑f0,↑f1,↑f2,↑f3,↑f4] 139)) ax.heap.size 139 #[↑f0,↑f1,↑f2,↑f3,↑f4]:=av.new _ _ _;have hba:=Below.aI ax (.cells #[↑f0,↑f1,↑f2,↑f3,↑f4] 139);have gJ:=cY.out.below hba;have hb4:=iK.out.trans (hba.mono iK.out.size);obtain⟨aL,fO⟩:=ai ax.heap.size;rw [fO]at hnew⊢;clear fO hba cY iK;generalize ax.alloc (.cells #[↑f0,↑f1,↑f2,↑f3,↑f4] 139)=fU at*;have Bv:=af hnew;have cY:=af gJ;have gi:=af hb4;have x1:fU.cell? ⟨aL,1,none⟩=some ↑f1:=hnew.cell 1;clear hnew gJ hb4;by_cases hs:f1=side
   ·replace lR:Hid (jB (q5 (L.take (k+1)) side)=qs ⟨f0,f1,f2,f3,f4⟩ (jB (q5 (L.take k) side))):=af (by rw [lR.out,if_pos hs])
    generalize jB (q5 (L.take k) side)=ov at*;subst hs;obtain⟨va,vc,gU⟩:=cY.out.form;obtain⟨m,hm⟩:=ai ov.length;rw [hm]at gU;have cM:=af hm;clear hm;subst gU;go_upto_region 8 with(fail)
    clear x1;have aZ:fU.cell? ⟨aL,2,none⟩=some ↑f2:=Bv.out.cell 2
    obtain⟨Ab,sJ⟩:∃Ab:Bool,Hid ((Ab=true→∀l,ov.getLast? =some l→l.ap≠f2)∧(Ab=false→∃j l,m=j+1∧ov[j]? =some l∧l.ap=f2)∧((m=0∧Ab=true)∨∃j l,m=j+1∧ov[j]? =some l∧Ab= !decide (l.ap=f2))):=by
     have hm:=cM.out;rcases Nat.eq_zero_or_pos m with h0|h0
     ·refine⟨true,af ⟨fun _ l hl=>?_,fun h=>(by cases h),.inl ⟨h0,rfl⟩⟩⟩
      rw [List.length_eq_zero_iff.1 (hm.trans h0)]at hl;cases hl
     ·obtain⟨l,hl⟩:∃l,ov[m-1]? =some l:=⟨_,List.getElem?_eq_getElem (by omega)⟩
      refine⟨!decide (l.ap=f2),af ⟨fun ht l' hl'=>?_,fun ht=>⟨m-1,l,by omega,hl,by simpa using ht⟩,.inr ⟨m-1,l,by omega,hl,rfl⟩⟩⟩;rw [List.getLast?_eq_getElem?,hm,hl]at hl';injection hl' with hl';subst hl'
      simpa using ht
    go_cut [43] (fun v wx=>v=↑Ab∧Below fU.heap.size fU wx)
    case first=>
     rcases sJ.out.2.2 with⟨rfl,ht⟩|⟨j,l,rfl,hl,ht⟩
     ·subst ht
      go_quiet (fail)
      go_wp2_with fail
      go_meet;exact⟨rfl,Below.bO _ _⟩
     ·obtain⟨cI,AY,dZ,_,uO⟩:=bl.Row.at_ cY.out j l hl
      injection dZ with dZ tM pH;subst dZ;clear tM pH
      have Yt:(j:Int)≤250:=by
       have h1:=cM.out;have h2:=jR.out;omega
      have hz1:(((j+1:Nat):Int)==0)=false:=by rw [beq_eq_false_iff_ne];omega
      have eg:((j:Int)+1==0)=false:=by rw [beq_eq_false_iff_ne];omega
      obtain⟨fl,Hq⟩:=ai l.ap;have jh:fU.cell? ⟨cI,j*3,none⟩=some ↑fl:=Hq▸uO 0 _ rfl;rw [Hq]at ht;clear uO hl Hq;by_cases iP:fl=f2
      ·subst iP
       obtain rfl:Ab=false:=by rw [ht];simp
       clear ht;go_quiet (fail)
       go_wp2_with fail
       go_meet;exact⟨rfl,Below.bO _ _⟩
      ·have A7:(fl !=f2)=true:=by rw [bne_iff_ne];exact iP
       obtain rfl:Ab=true:=by rw [ht];simp [iP]
       clear ht;go_quiet (fail)
       go_wp2_with fail
       go_meet;exact⟨rfl,Below.bO _ _⟩
    case rest=>
    obtain⟨rfl,hb⟩:=hcut;obtain⟨wy,rfl⟩:=aj wc;have Kv:=af (Bv.out.below hb);have Ac:=af (cY.out.below hb);have fB:=ag gi hb;clear hb Bv cY gi aZ;cases Ab with
    |true=>
     as_aux_lemma=>
     have l9:Hid (qs ⟨f0,f1,f2,f3,f4⟩ ov=ov++ [⟨f2,f3,1⟩]):=af (ahm (sJ.out.1 rfl));have aZ:wy.cell? ⟨aL,2,none⟩=some ↑f2:=Kv.out.cell 2;have hnew:av (wy.alloc (.cells #[↑f2,.int .i64 0,.int .i64 0] 101)) wy.heap.size 101 (⟨f2,0,0⟩:aB).cells.toArray:=av.new _ _ _;have yI:=af hnew;have hba:=Below.aI wy (.cells #[↑f2,.int .i64 0,.int .i64 0] 101);have fM:=af (Ac.out.below hba);have bN:=ag fB hba;have uP:=af (Kv.out.below hba)
     have Yt:(m:Int)≤250:=by
      have h1:=cM.out;have h2:=jR.out;omega
     clear hnew hba
     go_wp2_with (first
      |(at_builtin;go_loud (refine bK.push rfl (.tmp 44) (.tmp 48) rfl w.heap.size (.slice va m vc) ov rfl fM.out wy.heap.size ⟨f2,0,0⟩ rfl yI.out.lt yI.out.gH (by rw [cM.out];omega) bN.out.size ?_)))
     intro v' aN bX cQ eG;have bI:=iJ cQ bN.out (cS fM.out);have hkp:=fK cQ;have JV:=uP.out.keeps hkp (fun hg=>(uP.out.aE).ne (eo fM.out _ hg) (by decide) rfl);obtain⟨g,cap,cur,dF,fT,hgt⟩:=bX.Cd (by simp);rw [List.length_append,cM.out]at dF;subst dF;have rC:=af bX;have gi:=af bI;have Bv:=af JV;have dc:=af fT;have nV:=af hgt;have c6:Hid ((ov++ [(⟨f2,0,0⟩:aB)])[m]? =some (⟨f2,0,0⟩:aB)):=af (by rw [←cM.out,List.getElem?_append_right (Nat.le_refl _),Nat.sub_self];rfl);have Rt:Hid (qs ⟨f0,f1,f2,f3,f4⟩ ov=(ov++ [(⟨f2,0,0⟩:aB)]).set m ⟨f2,f3,1⟩):=af (by rw [l9.out,←cM.out,List.set_append_right _ _ (Nat.le_refl _),Nat.sub_self];rfl);clear bX bI hkp JV fT hgt cQ eG yI fM bN uP Ac Kv fB aZ l9 sJ;generalize aN=fU at*;have D0:=(bl.Row.at_ rC.out m _ c6.out);obtain⟨cI,AY,dZ,_,uO⟩:=D0;injection dZ with dZ tM pH;injection dZ with dZ;injection dZ with dZ;subst dZ;clear tM pH;have q1:fU.cell? ⟨g,m*3+1,none⟩=some (.int .i64 0):=uO 1 _ rfl;have cl:fU.cell? ⟨aL,3,none⟩=some ↑f3:=Bv.out.cell 3;have fz:∀o,fU.frozen? ⟨g,o,none⟩=false:=fun o=>nV.out.frozen o;clear uO;have ahp:IntKind.i64.wrap (m:Int)=(m:Int):=IntWalk.i64_in _ (by omega);have ahq:(m:Int)<(m:Int)+1:=by omega
     have ahr:(0:Int)≤(m:Int):=by omega
     go_upto_region 11 with(fail)
     refine cP (S:=fun w'=>w'.cell? ⟨g,m*3+1,none⟩=some (.int .i64 0)∧w'.cell? ⟨aL,3,none⟩=some ↑f3) ⟨q1,cl⟩ fun hHeld=>?_;refine au 0 ?_;refine au 1 ?_;refine au 2 ?_;refine au 3 ?_;refine au 4 ?_;refine au 5 ?_;refine au 6 ?_;refine au 7 ?_;refine au 8 ?_;refine au 9 ?_;refine au 10 ?_;refine au 11 ?_;refine au 12 ?_;refine au 13 ?_;refine dY 14 fun K hK=>?_;go_simp;try rw [show IntKind.i64.wrap (f3)=f3 from IntWalk.i64_in _ (by omega)]
     refine hK.out _ _ ?_;clear hK K hHeld q1 cl fz;have mh:bK.Row ((fU.setCell ⟨g,m*3+1,none⟩ (.int .i64 (f3))).drew) w.heap.size _ ((ov++ [(⟨f2,0,0⟩:aB)]).set m ⟨f2,f3,0⟩):=(bl.Row.aW rC.out (e':=(⟨f2,f3,0⟩:aB)) (k:=1) (u:= .int .i64 (f3)) c6.out (by decide) rfl).below (Below.bO _ 1);have hb0:=gi.out.setCell (p:=⟨g,m*3+1,none⟩) dc.out (.int .i64 (f3));have hb1:Below w.heap.size w ((fU.setCell ⟨g,m*3+1,none⟩ (.int .i64 (f3))).drew):=hb0.trans ((Below.bO _ 1).mono hb0.size);have eZ:av ((fU.setCell ⟨g,m*3+1,none⟩ (.int .i64 (f3))).drew) g bK.t _:=(nV.out.aW (m*3+1) (.int .i64 (f3))).below (Below.bO _ 1);have nj:Hid (((ov++ [(⟨f2,0,0⟩:aB)]).set m ⟨f2,f3,0⟩)[m]? =some (⟨f2,f3,0⟩:aB)):=af (by rw [List.getElem?_set_self (dM c6.out)]);replace rC:=af mh;replace gi:=af hb1;replace nV:=af eZ;clear mh hb0 hb1 eZ Bv;generalize (fU.setCell ⟨g,m*3+1,none⟩ (.int .i64 (f3))).drew=wp at*;obtain⟨cI,AY,dZ,_,uO⟩:=bl.Row.at_ rC.out m _ nj.out;injection dZ with dZ tM pH;injection dZ with dZ;injection dZ with dZ;subst dZ;clear tM pH;have ic:wp.cell? ⟨g,m*3+2,none⟩=some (.int .i64 0):=uO 2 _ rfl;have fz:∀o,wp.frozen? ⟨g,o,none⟩=false:=fun o=>nV.out.frozen o;clear uO;go_wp2_with fail
     clear ic fz;have gv:bK.Row (wp.setCell ⟨g,m*3+2,none⟩ (.int .i64 (1))) w.heap.size _ (((ov++ [(⟨f2,0,0⟩:aB)]).set m ⟨f2,f3,0⟩).set m ⟨f2,f3,1⟩):=bl.Row.aW rC.out (e':=(⟨f2,f3,1⟩:aB)) (k:=2) (u:= .int .i64 (1)) nj.out (by decide) rfl;rw [List.set_set,←Rt.out]at gv;have kS:=af gv;have aS:=af (gi.out.setCell (p:=⟨g,m*3+2,none⟩) dc.out (.int .i64 (1)));clear gv;go_roundw
     case rel=>exact⟨k+1,by go_num,by omega,by rw [lR.out];exact kS.out,aS.out⟩
     case measure=>simp [RowKit.intOf];omega
    |false=>
     as_aux_lemma=>
     obtain⟨j,l,rfl,hl,Hq⟩:=sJ.out.2.1 rfl;have e6:=af (ahn (x:=⟨f0,f1,f2,f3,f4⟩) cM.out hl Hq);have hbd:=mL.out l (List.mem_of_getElem? hl);have hsl:=Bb.out;obtain⟨g,cap,cur,dF,fT,hgt⟩:=Ac.out.Cd (by rintro rfl;cases hl);obtain⟨fl,gj,lc⟩:=l;have amS:0≤gj:=hbd.1.1;have amT:gj≤250000000:=by have:=hbd.1.2;dsimp only at this;omega
     have amU:0≤lc:=hbd.2.1;have amV:lc≤250:=by have:=hbd.2.2;dsimp only at this;omega
     injection dF with dF tM pH;subst dF;clear tM pH
     have Yt:(j:Int)≤250:=by
      have h1:=cM.out;have h2:=jR.out;omega
     replace Ac:Hid (bK.Row wy w.heap.size (.slice ↑g (j+1) vc) ov):=Ac;have rC:=af Ac.out;have gi:=af fB.out;have Bv:=af Kv.out;have dc:=af fT;have nV:=af hgt;have c6:=af hl;have Rt:Hid (qs ⟨f0,f1,f2,f3,f4⟩ ov=ov.set j ⟨fl,gj+f3,lc+1⟩):=af e6.out;clear hl Hq hbd hsl fT hgt Ac Kv fB sJ e6;generalize wy=fU at*;have D0:=(bl.Row.at_ rC.out j _ c6.out);obtain⟨cI,AY,dZ,_,uO⟩:=D0;injection dZ with dZ tM pH;injection dZ with dZ;injection dZ with dZ;subst dZ;clear tM pH;have q1:fU.cell? ⟨g,j*3+1,none⟩=some ↑gj:=uO 1 _ rfl;have cl:fU.cell? ⟨aL,3,none⟩=some ↑f3:=Bv.out.cell 3;have fz:∀o,fU.frozen? ⟨g,o,none⟩=false:=fun o=>nV.out.frozen o;clear uO;have ahp:IntKind.i64.wrap (j:Int)=(j:Int):=IntWalk.i64_in _ (by omega);have ahq:(j:Int)<(j:Int)+1:=by omega
     have ahr:(0:Int)≤(j:Int):=by omega
     go_upto_region 11 with(fail)
     refine cP (S:=fun w'=>w'.cell? ⟨g,j*3+1,none⟩=some ↑gj∧w'.cell? ⟨aL,3,none⟩=some ↑f3) ⟨q1,cl⟩ fun hHeld=>?_;refine au 0 ?_;refine au 1 ?_;refine au 2 ?_;refine au 3 ?_;refine au 4 ?_;refine au 5 ?_;refine au 6 ?_;refine au 7 ?_;refine au 8 ?_;refine au 9 ?_;refine au 10 ?_;refine au 11 ?_;refine au 12 ?_;refine au 13 ?_;refine dY 14 fun K hK=>?_;go_simp;try rw [show IntKind.i64.wrap (gj+f3)=gj+f3 from IntWalk.i64_in _ (by omega)]
     refine hK.out _ _ ?_;clear hK K hHeld q1 cl fz;have mh:bK.Row ((fU.setCell ⟨g,j*3+1,none⟩ (.int .i64 (gj+f3))).drew) w.heap.size _ (ov.set j ⟨fl,gj+f3,lc⟩):=(bl.Row.aW rC.out (e':=(⟨fl,gj+f3,lc⟩:aB)) (k:=1) (u:= .int .i64 (gj+f3)) c6.out (by decide) rfl).below (Below.bO _ 1);have hb0:=gi.out.setCell (p:=⟨g,j*3+1,none⟩) dc.out (.int .i64 (gj+f3));have hb1:Below w.heap.size w ((fU.setCell ⟨g,j*3+1,none⟩ (.int .i64 (gj+f3))).drew):=hb0.trans ((Below.bO _ 1).mono hb0.size);have eZ:av ((fU.setCell ⟨g,j*3+1,none⟩ (.int .i64 (gj+f3))).drew) g bK.t _:=(nV.out.aW (j*3+1) (.int .i64 (gj+f3))).below (Below.bO _ 1);have nj:Hid ((ov.set j ⟨fl,gj+f3,lc⟩)[j]? =some (⟨fl,gj+f3,lc⟩:aB)):=af (by rw [List.getElem?_set_self (dM c6.out)]);replace rC:=af mh;replace gi:=af hb1;replace nV:=af eZ;clear mh hb0 hb1 eZ Bv;generalize (fU.setCell ⟨g,j*3+1,none⟩ (.int .i64 (gj+f3))).drew=wp at*;obtain⟨cI,AY,dZ,_,uO⟩:=bl.Row.at_ rC.out j _ nj.out;injection dZ with dZ tM pH;injection dZ with dZ;injection dZ with dZ;subst dZ;clear tM pH;have ic:wp.cell? ⟨g,j*3+2,none⟩=some ↑lc:=uO 2 _ rfl;have fz:∀o,wp.frozen? ⟨g,o,none⟩=false:=fun o=>nV.out.frozen o;clear uO;go_wp2_with fail
     clear ic fz;have gv:bK.Row (wp.setCell ⟨g,j*3+2,none⟩ (.int .i64 (lc+1))) w.heap.size _ ((ov.set j ⟨fl,gj+f3,lc⟩).set j ⟨fl,gj+f3,lc+1⟩):=bl.Row.aW rC.out (e':=(⟨fl,gj+f3,lc+1⟩:aB)) (k:=2) (u:= .int .i64 (lc+1)) nj.out (by decide) rfl;rw [List.set_set,←Rt.out]at gv;have kS:=af gv;have aS:=af (gi.out.setCell (p:=⟨g,j*3+2,none⟩) dc.out (.int .i64 (lc+1)));clear gv;go_roundw
     case rel=>exact⟨k+1,by go_num,by omega,by rw [lR.out];exact kS.out,aS.out⟩
     case measure=>simp [RowKit.intOf];omega
   ·have hsb:(f1 !=side)=true:=by rw [bne_iff_ne];exact hs
    have cA:Hid (jB (q5 (L.take (k+1)) side)=jB (q5 (L.take k) side)):=af (by rw [lR.out,if_neg hs]);go_wp2_with fail
    go_roundw
    case rel=>exact⟨k+1,by go_num,by omega,by rw [cA.out];exact cY.out,gi.out⟩
    case measure=>simp [RowKit.intOf];omega
  ·obtain rfl:k=L.length:=by omega
   have hrow:=cY.out;rw [List.take_length]at hrow;have iz:=af hrow;clear hrow;go_wp2_with fail
   go_ret;exact⟨_,rfl,by rw [cO.out];exact iz.out,iK.out⟩
end
theorem Hr {w:World} {e:TypeId} {base size n:Nat} {v:Value} {xs:List Value} (h:w.ownsRow base e size v n xs) {p:Addr} (hp:v.ownBlock≠some p.block) (u:Value):(w.setCell p u).ownsRow base e size v n xs:=by
 refine⟨h.1,?_⟩;rcases h.2 with h2|⟨g,cap,cur,hv,hb,hh,r⟩
 ·exact .inl h2
 ·refine .inr ⟨g,cap,cur,hv,hb,?_,r⟩
  rw [Below.heap_setCell _ _ _ _ (fun e=>hp (by rw [hv,e];rfl))];exact hh
section
variable {W w w':World} {pw:Nat} {L:List aC}
theorem Ru (h:g4 W w pw L) (hl:L.length≤250) (hq:∀o∈L,1≤o.aq∧o.aq≤1000000) (side:Int):
 Calls Tryz.prog 100 #[.pointer ↑pw,↑side] w fun e w'=>e= .returned (.tuple #[.agg (jS L side).1.cells.toArray,.bool (jS L side).2])∧Below w.heap.size w w':=by
 have iK:=af (Below.aI w (.cells #[.int .i64 0,.int .i64 0,.int .i64 0] 101));have H1:=af (h.below iK.out);have ie:=af hq;have dQ:Hid (av (w.alloc (.cells #[.int .i64 0,.int .i64 0,.int .i64 0] 101)) w.heap.size 101 #[.int .i64 0,.int .i64 0,.int .i64 0]):=af (av.new _ _ _);clear h hq;cases hf:k6 L side with
 |nil=>
  have bR:Hid (jS L side=(jD,false)):=af (by unfold jS;rw [hf]);have zF:=af hf;clear hf;go_enter Tryz.func100,Tryz.ntmps100
  go_upto_region 1 with(fail)
  obtain⟨aH,dr⟩:=ai w.heap.size;have bL:Hid (w.heap.size≤aH):=af (by omega);replace dQ:Hid (av (w.alloc (.cells #[.int .i64 0,.int .i64 0,.int .i64 0] 101)) aH 101 #[.int .i64 0,.int .i64 0,.int .i64 0]):=af (by rw [←dr];exact dQ.out);rw [dr];clear dr;generalize w.alloc (.cells #[.int .i64 0,.int .i64 0,.int .i64 0] 101)=w0 at*;have hla:=Ny H1.out hl ie.out side;rw [zF.out]at hla;go_wp2_with fail
  refine hla.mono ?_;rintro e w1 ⟨v,rfl,hr,hb⟩;replace dQ:=af (dQ.out.below hb);replace iK:=ag iK hb;obtain⟨ra,rc,rfl,_,hrd⟩:=hr.rd;clear hla hr hb;clear hrd;obtain⟨l0,l1,l2⟩:=dQ.out.amv;have fz:∀o,w1.frozen? ⟨aH,o,none⟩=false:=fun o=>dQ.out.frozen o;go_wp2_with fail
  clear l0 l1 l2 fz;have hz:=((dQ.out.aW 0 (.int .i64 0)).aW 1 (.int .i64 0)).aW 2 (.int .i64 0);have hbz:=((iK.out.setCell (p:=⟨aH,0,none⟩) bL.out (.int .i64 0)).setCell (p:=⟨aH,1,none⟩) bL.out (.int .i64 0)).setCell (p:=⟨aH,2,none⟩) bL.out (.int .i64 0);generalize ((w1.setCell ↑aH (.int .i64 0)).setCell ⟨aH,1,none⟩ (.int .i64 0)).setCell ⟨aH,2,none⟩ (.int .i64 0)=ax at*;obtain⟨k0,k1,k2⟩:=hz.amv;refine bodyPost_ret (v:= .tuple #[.agg #[.int .i64 0,.int .i64 0,.int .i64 0],.bool false]) (by simp [results,Tryz.results100,go_sem,k0,k1,k2]) rfl ⟨by rw [bR.out];rfl,hbz⟩
 |cons v M=>
  have bR:Hid (jS L side=(v,true)):=af (by unfold jS;rw [hf]);have zF:=af hf;clear hf;obtain⟨v0,v1,v2⟩:=v;go_enter Tryz.func100,Tryz.ntmps100
  go_upto_region 1 with(fail)
  obtain⟨aH,dr⟩:=ai w.heap.size;have bL:Hid (w.heap.size≤aH):=af (by omega);replace dQ:Hid (av (w.alloc (.cells #[.int .i64 0,.int .i64 0,.int .i64 0] 101)) aH 101 #[.int .i64 0,.int .i64 0,.int .i64 0]):=af (by rw [←dr];exact dQ.out);rw [dr];clear dr;generalize w.alloc (.cells #[.int .i64 0,.int .i64 0,.int .i64 0] 101)=w0 at*;have hla:=Ny H1.out hl ie.out side;rw [zF.out]at hla;go_wp2_with fail
  refine hla.mono ?_;rintro e w1 ⟨v,rfl,hr,hb⟩;replace dQ:=af (dQ.out.below hb);replace iK:=ag iK hb;obtain⟨ra,rc,rfl,_,hrd⟩:=hr.rd;clear hla hr hb;obtain⟨g,off,rfl,_,hc⟩:=hrd 0 _ rfl;rw [Nat.zero_mul,Nat.add_zero]at hc;have c0:w1.cell? ⟨g,off,none⟩=some ↑v0:=hc 0 _ rfl;have c1:w1.cell? ⟨g,off+1,none⟩=some ↑v1:=hc 1 _ rfl;have c2:w1.cell? ⟨g,off+2,none⟩=some ↑v2:=hc 2 _ rfl;rw [List.length_cons];have hn0:¬((M.length+1:Nat):Int)=0:=by omega
  have E4:(((M.length+1:Nat):Int)==0)=false:=by rw [beq_eq_false_iff_ne];exact hn0
  have hn2:((M.length:Int)+1==0)=false:=by rw [beq_eq_false_iff_ne];omega
  have ahs:(0:Int)<(M.length:Int)+1:=by omega
  clear hc hrd;obtain⟨l0,l1,l2⟩:=dQ.out.amv;have fz:∀o,w1.frozen? ⟨aH,o,none⟩=false:=fun o=>dQ.out.frozen o;go_wp2_with fail
  clear l0 l1 l2 fz c0 c1 c2 hn0 E4 hn2 ahs;have hz:=((dQ.out.aW 0 ↑v0).aW 1 ↑v1).aW 2 ↑v2;have hbz:=((iK.out.setCell (p:=⟨aH,0,none⟩) bL.out ↑v0).setCell (p:=⟨aH,1,none⟩) bL.out ↑v1).setCell (p:=⟨aH,2,none⟩) bL.out ↑v2;generalize ((w1.setCell ↑aH ↑v0).setCell ⟨aH,1,none⟩ ↑v1).setCell ⟨aH,2,none⟩ ↑v2=ax at*;obtain⟨k0,k1,k2⟩:=hz.amv;refine bodyPost_ret (v:= .tuple #[.agg #[↑v0,↑v1,↑v2],.bool true]) (by simp [results,Tryz.results100,go_sem,k0,k1,k2]) rfl ⟨by rw [bR.out];rfl,hbz⟩
end
end Go.Proofs.YtmaijkoopjocdaaGreat
