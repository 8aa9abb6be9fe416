import Derived.Test.YtmaijkoopjocdaaGreatKV15
import Derived.Test.YtmaijkoopjocdaaGreatKV14
set_option maxRecDepth 100000
set_option maxHeartbeats 64000000
namespace Go.Proofs.YtmaijkoopjocdaaGreat
open Go.RowKit Go.Lib
theorem aht {L:List aC} {k:Nat} {o:aC} {side ap:Int} (ho:L[k]? =some o) (h:nU L side ap=k+((L.drop k).takeWhile (mD side ap)).length):
 (mD side ap o=true→nU L side ap=(k+1)+((L.drop (k+1)).takeWhile (mD side ap)).length)∧(mD side ap o=false→nU L side ap=k):=by
 obtain⟨h1,h2⟩:=lB ho;rw [List.drop_eq_getElem_cons h1,h2]at h;refine⟨fun ha=>?_,fun ha=>?_⟩
 ·rw [List.takeWhile_cons_of_pos ha,List.length_cons]at h
  omega
 ·rw [List.takeWhile_cons_of_neg (by rw [ha];simp)]at h
  exact h
theorem ahu {L:List aC} {k:Nat} {side ap:Int} (hk:L.length≤k) (h:nU L side ap=k+((L.drop k).takeWhile (mD side ap)).length):nU L side ap=k:=by
 rw [List.drop_of_length_le hk]at h;exact h
theorem ahv {L:List aC} {k:Nat} {o:aC} {side ap:Int} (ho:L[k]? =some o):mS (L.take (k+1)) side ap=(mS (L.take k) side ap&& !(decide (o.side=side)&& !cT side ap o.ap)):=by
 unfold mS;rw [kH ho,List.all_append];simp
theorem ahw {α:Type} {l:List α} {i:Nat} {x:α} (h:l[i]? =some x):l.set i x=l:=by
 obtain⟨h1,h2⟩:=lB h;rw [←h2];exact List.set_getElem_self h1
def uQ (L:List aC) (side:Int) (i:Nat):List aC:=(L.take i).map (mg side)++L.drop i
theorem ahx (L:List aC) (side:Int) (i:Nat):(uQ L side i).length=L.length:=by
 unfold uQ;rw [List.length_append,List.length_map,←List.length_append,List.take_append_drop]
theorem Yu {L:List aC} {side:Int} {i:Nat} {o:aC} (ho:L[i]? =some o):(uQ L side i)[i]? =some o:=by
 have hi:=dM ho;unfold uQ;rw [List.getElem?_append_right (by rw [List.length_map,List.length_take];omega),List.length_map,List.length_take,Nat.min_eq_left (by omega),Nat.sub_self,List.getElem?_drop,Nat.add_zero,ho]
theorem Yv {L:List aC} {side:Int} {i:Nat} {o:aC} (ho:L[i]? =some o):uQ L side (i+1)=(uQ L side i).set i (mg side o):=by
 obtain⟨h1,h2⟩:=lB ho;unfold uQ;rw [kH ho,List.map_append,List.set_append_right _ _ (by rw [List.length_map,List.length_take];omega),List.length_map,List.length_take,Nat.min_eq_left (by omega),Nat.sub_self,List.append_assoc,List.drop_eq_getElem_cons h1,h2];rfl
theorem ahy {L:List aC} {side:Int} {i:Nat} {o:aC} (ho:L[i]? =some o) (hs:¬o.side=side):uQ L side (i+1)=uQ L side i:=by
 rw [Yv ho,show mg side o=o from if_neg hs];exact ahw (Yu ho)
theorem Rv {w:World} {ops:Array Oper} {o:Oper} {a:Act} {K:Act→World→Prop} {Q:Exit→Act→World→Prop} {E:Prop} {f0 f1 f2 f3:Int} {f4:Bool} (hgd:o.guard=none) (t:Nat)
 (ho:o.op= .buildSlice 179 1 #[(0,.tmp t)]) (hx:a.tmps[t]?.getD undef= .agg #[↑f0,↑f1,↑f2,↑f3,↑f4])
 (h:K (a.put o.dst (.slice ↑w.heap.size 1 1)) (w.alloc (.cells #[↑f0,↑f1,↑f2,↑f3,↑f4] 139))):
 if Region.wanted o (yielded ops a.tmps)=true then Oper.wp Tryz.prog o a w K Q else E:=by
 have hw:Region.wanted o (yielded ops a.tmps)=true:=by simp [Region.wanted,hgd]
 rw [if_pos hw];unfold Oper.wp execOp;simp only [ho];go_simp;exact h
section
variable {W w w':World} {pw:Nat} {L:List aC}
theorem ahz {L:List aC} {id side ap aq:Int} (h:z8 side=false):mT L id side ap aq=(L,21):=by unfold mT;rw [if_pos h]
theorem ahA {L:List aC} {id side ap aq:Int} (h:z8 side=true) (hq:aq<1∨1000000<aq):mT L id side ap aq=(L,24):=by unfold mT;rw [h,if_neg (by simp),if_pos hq]
theorem ahB (w:World) (pw:Nat) (id side ap aq:Int) (hb:z8 side=false):
 Calls Tryz.prog 139 #[.pointer ↑pw,↑id,↑side,↑ap,↑aq] w fun e w'=>e= .returned (.int .i64 21)∧w=w':=by
 have h1:(side !=1)=true:=by
  rw [bne_iff_ne];rintro rfl;cases hb
 have h2:(side !=2)=true:=by
  rw [bne_iff_ne];rintro rfl;cases hb
 clear hb;go_enter Tryz.func139,Tryz.ntmps139
 go_wp2_with fail
 go_ret;exact⟨by trivial,by trivial⟩
theorem ahC (w:World) (pw:Nat) (id side ap aq:Int) (hs:side=1∨side=2) (hq:aq<1∨1000000<aq):
 Calls Tryz.prog 139 #[.pointer ↑pw,↑id,↑side,↑ap,↑aq] w fun e w'=>e= .returned (.int .i64 24)∧w=w':=by
 have aD:=af hs;clear hs;go_enter Tryz.func139,Tryz.ntmps139
 go_upto_region 1 with(fail)
 go_cut [21] (fun v wx=>v= .bool false∧w=wx)
 case first=>
  rcases aD.out with rfl|rfl
  ·go_wp2_with fail
   go_meet;exact⟨rfl,rfl⟩
  ·go_wp2_with fail
   go_meet;exact⟨rfl,rfl⟩
 case rest=>
 obtain⟨rfl,rfl⟩:=hcut;rcases hq with hq|hq
 ·go_wp2_with fail
  go_ret;exact⟨by trivial,by trivial⟩
 ·have hq1:¬aq<1:=by omega
  go_wp2_with fail
  go_ret;exact⟨by trivial,by trivial⟩
theorem ahD (h:g4 W w pw L) (hl:L.length≤250) (id side ap aq:Int) (hs:side=1∨side=2) (hq:1≤aq∧aq≤1000000) (ht:(L.find? (fun o=>o.id==id)).isSome=true):
 Calls Tryz.prog 139 #[.pointer ↑pw,↑id,↑side,↑ap,↑aq] w fun e w'=>e= .returned (.int .i64 25)∧w=w':=by
 have aD:=af hs;have bP:=af ht;have hq1:¬aq<1:=by omega
 have hq2:¬1000000<aq:=by omega
 have hfr:=CX h hl id;clear hs ht h hq;go_enter Tryz.func139,Tryz.ntmps139
 go_upto_region 1 with(fail)
 go_cut [21] (fun v wx=>v= .bool false∧w=wx)
 case first=>
  rcases aD.out with rfl|rfl
  ·go_wp2_with fail
   go_meet;exact⟨rfl,rfl⟩
  ·go_wp2_with fail
   go_meet;exact⟨rfl,rfl⟩
 case rest=>
 obtain⟨rfl,rfl⟩:=hcut;go_wp2_with fail
 refine hfr.mono ?_;rintro e w2 ⟨⟨r,rfl,hr⟩,rfl⟩
 obtain⟨k,rfl⟩:∃k:Nat,r=k:=by
  rcases hr with⟨_,h1⟩|⟨k,o',rfl,_⟩
  ·have:=bP.out;rw [h1]at this;cases this
  ·exact⟨k,rfl⟩
 have iQ:(0:Int)≤(k:Int):=by omega
 clear hr hfr;go_wp2_with fail
 go_ret;exact⟨by trivial,by trivial⟩
theorem ahE (h:g4 W w pw L) (hl:L.length=250) (id side ap aq:Int) (hs:side=1∨side=2) (hq:1≤aq∧aq≤1000000) (ht:(L.find? (fun o=>o.id==id)).isSome=false):
 Calls Tryz.prog 139 #[.pointer ↑pw,↑id,↑side,↑ap,↑aq] w fun e w'=>e= .returned (.int .i64 13)∧w=w':=by
 have aD:=af hs;have bP:=af ht;have hq1:¬aq<1:=by omega
 have hq2:¬1000000<aq:=by omega
 have hfr:=CX h (by omega) id;obtain⟨a,c,aT,_⟩:=h.box;rw [hl]at aT;have jA:w.cell? ↑pw=some (.slice a 250 c):=aT.cell 0;clear hs ht h hq aT;go_enter Tryz.func139,Tryz.ntmps139
 go_upto_region 1 with(fail)
 go_cut [21] (fun v wx=>v= .bool false∧w=wx)
 case first=>
  rcases aD.out with rfl|rfl
  ·go_wp2_with fail
   go_meet;exact⟨rfl,rfl⟩
  ·go_wp2_with fail
   go_meet;exact⟨rfl,rfl⟩
 case rest=>
 obtain⟨rfl,rfl⟩:=hcut;go_wp2_with fail
 refine hfr.mono ?_;rintro e w2 ⟨⟨r,rfl,hr⟩,rfl⟩
 obtain rfl:r= -1:=by
  rcases hr with⟨h1,_⟩|⟨k,o',_,_,_,h1⟩
  ·exact h1
  ·have:=bP.out;rw [h1]at this;cases this
 clear hr hfr;go_wp2_with fail
 go_ret;exact⟨by trivial,by trivial⟩
theorem ahF (h:g4 W w pw L) (hl:L.length<250) (id side ap aq:Int) (hs:side=1∨side=2) (hq:1≤aq∧aq≤1000000) (ht:(L.find? (fun o=>o.id==id)).isSome=false) (R:List aC) (oT:R=(if mS L side ap=true then L.map (mg side)else L).take (nU L side ap)++ [⟨id,side,ap,aq,mS L side ap⟩]++(if mS L side ap=true then L.map (mg side)else L).drop (nU L side ap)):
 Calls Tryz.prog 139 #[.pointer ↑pw,↑id,↑side,↑ap,↑aq] w fun e w'=>e= .returned (.int .i64 0)∧g4 W w' pw R∧aK (fun g=>g=pw) w w':=by
 have nW:=af oT;clear oT;have aD:=af hs;have bP:=af ht;have en:=af h;have hq1:¬aq<1:=by omega
 have hq2:¬1000000<aq:=by omega
 have hfr:=CX h (by omega) id;have amW:¬(250:Int)≤(L.length:Int):=by omega
 obtain⟨a,c,aT,hrw⟩:=h.box;have jA:w.cell? ↑pw=some (.slice a L.length c):=aT.cell 0;have g6:Hid (av w pw 181 #[.slice a L.length c]):=af aT;have gq:Hid (pw<w.heap.size):=af aT.lt;have iz:=af hrw;clear hs ht h hq aT hrw;go_enter Tryz.func139,Tryz.ntmps139
 go_upto_region 1 with(fail)
 go_cut [21] (fun v wx=>v= .bool false∧w=wx)
 case first=>
  rcases aD.out with rfl|rfl
  ·go_wp2_with fail
   go_meet;exact⟨rfl,rfl⟩
  ·go_wp2_with fail
   go_meet;exact⟨rfl,rfl⟩
 case rest=>
 obtain⟨rfl,rfl⟩:=hcut;go_wp2_with fail
 refine hfr.mono ?_;rintro e w2 ⟨⟨r,rfl,hr⟩,rfl⟩
 obtain rfl:r= -1:=by
  rcases hr with⟨h1,_⟩|⟨k,o',_,_,_,h1⟩
  ·exact h1
  ·have:=bP.out;rw [h1]at this;cases this
 clear hr hfr;go_upto_region 10 with(fail)
 have wD:av (w.alloc (.cells #[↑id,↑side,↑ap,↑aq,.bool true] 139)) w.heap.size 139 #[↑id,↑side,↑ap,↑aq,.bool true]:=av.new _ _ _;have hb1:=Below.aI w (.cells #[↑id,↑side,↑ap,↑aq,.bool true] 139);have Yw:=(hb1.cell (p:=⟨pw,0,none⟩) gq.out).trans jA;have Ad:=af (iz.out.below hb1);have hs1:(w.alloc (.cells #[↑id,↑side,↑ap,↑aq,.bool true] 139)).heap.size=w.heap.size+1:=by simp
 obtain⟨aL,fO⟩:=ai w.heap.size;have fy:Hid (w.heap.size=aL):=af fO;rw [fO]at wD hs1⊢;generalize w.alloc (.cells #[↑id,↑side,↑ap,↑aq,.bool true] 139)=w1 at*;have bA:=af hb1;have tN:=af wD;have dW:=af hs1;clear wD hb1 hs1 fO jA iz;obtain⟨_,_,he,hac,hrd⟩:=Ad.out.rd;injection he with eb _ iU;subst eb iU
 have Bw:Hid (∀ad,a=some ad→∃b off,ad=⟨b,off,none⟩):=af fun ad hab=>by
  rcases Ad.out.2 with⟨hv,_⟩|⟨g,cap,cur,hv,_⟩
  ·injection hv with hv;rw [hv]at hab;cases hab
  ·injection hv with hv;rw [hv]at hab;injection hab with hab;exact⟨g,0,hab.symm⟩
 have hba:=Below.aI w1 (.cells #[] 139);have CY:=af (hrd.below hba);have gY:Hid (gI.Row (w1.alloc (.cells #[] 139)) w1.heap.size (.slice ↑w1.heap.size 0 0) []):=af (bl.Row.empty w1);have aS:=ag bA hba;have xx:=af (tN.out.below hba);have iD:Hid ((w1.alloc (.cells #[] 139)).heap.size=aL+2):=af (by have:=dW.out;simp;omega);have Rw:=(hba.cell (p:=⟨pw,0,none⟩) (show pw<w1.heap.size by have:=bA.out.size;have:=gq.out;omega)).trans Yw;clear hrd hba;have Bx:=af hac;clear hac
 go_wp2_with (first
  |(at_builtin;go_loud (refine gI.wV rfl (.tmp 43) (.tmp 47) rfl w1.heap.size (.slice ↑w1.heap.size 0 0) [] rfl gY.out a c L rfl Bx.out CY.out Bw.out (by have h0:([]:List aC).length=0:=rfl;omega) (by have h0:=iD.out;have h1:=dW.out;omega) ?_)))
 intro v' w3 jr cj yJ;try rw [List.nil_append]at jr
 obtain⟨aH,cap,_,rfl,dr,_⟩:=jr.Gv (by
  rcases yJ with h5|h5
  ·rw [h5];simp [Value.ownBlock]
  ·rw [h5];simp)
 have hb3:=iJ cj aS.out (fun y hy=>by have h0:some w1.heap.size=some y:=hy;injection h0 with h0;have:=bA.out.size;omega);have JT:=xx.out.keeps (fK cj) (fun hy=>by have h0:some w1.heap.size=some aL:=hy;injection h0 with h0;have:=dW.out;omega);have rG:Hid (gI.Row w3 (aL+1) (.slice ↑aH L.length cap) L):=af (jr.base (by rw [dW.out];exact Nat.le_refl _));have aQ:=af hb3;have Kp:=af JT;have By:Hid (aL+1≤aH):=af (by rw [←dW.out];exact dr);clear jr cj yJ hb3 JT dr Ad CY gY aS xx iD Bx Bw Yw Rw tN bA;go_wp2_with fail
 as_aux_lemma=>
 go_loopw [14] (fun i w'=>∃k:Nat,i=↑k∧k≤L.length∧gI.Row w' (aL+1) (.slice ↑aH L.length cap) L∧av w' aL 139 #[↑id,↑side,↑ap,↑aq,.bool (mS (L.take k) side ap)]∧Below w.heap.size w w') (fun i _=>L.length-(RowKit.intOf i).toNat)
 case atStart=>exact⟨0,rfl,Nat.zero_le _,rG.out,Kp.out,aQ.out⟩
 case round=>
  clear rG Kp aQ;obtain⟨k,rfl,hk,hr,hx,hb⟩:=hrel;obtain⟨az,rfl⟩:=aj wr;have fM:=af hr;have uP:=af hx;have bN:=af hb;clear hr hx hb;by_cases hlt:k<L.length
  ·as_aux_lemma=>
   have hlt':(k:Int)<(L.length:Int):=by omega
   obtain⟨o,ho⟩:∃o,L[k]? =some o:=⟨_,List.getElem?_eq_getElem hlt⟩;obtain⟨g,off,he,_,hc⟩:=fM.out.rd_some k o ho;injection he with he;injection he with eb iU;subst eb iU;have z6:=af (ahv (side:=side) (ap:=ap) ho);obtain⟨f0,f1,f2,f3,f4⟩:=o;have c1:az.cell? ⟨aH,k*5+1,none⟩=some ↑f1:=by have:=hc 1 _ rfl;rw [Nat.zero_add]at this;exact this
   have c2:az.cell? ⟨aH,k*5+2,none⟩=some ↑f2:=by have:=hc 2 _ rfl;rw [Nat.zero_add]at this;exact this
   clear hc ho;by_cases hs:f1=side
   ·subst hs
    obtain⟨bb,aP⟩:=ai (cT f1 ap f2);have g7:=Gx f1 ap f2 az;rw [aP]at g7;have bp:=af aP;clear aP;go_wp2_with fail
    refine g7.mono ?_;rintro e aA ⟨rfl,rfl⟩;clear g7 c1 c2;cases bb with
    |true=>
     have nc:Hid (mS (L.take (k+1)) f1 ap=mS (L.take k) f1 ap):=af (by rw [z6.out];simp [bp.out]);go_wp2_with fail
     go_roundw
     case rel=>exact⟨k+1,by go_num,by omega,fM.out,by rw [nc.out];exact uP.out,bN.out⟩
     case measure=>simp [RowKit.intOf];omega
    |false=>
     have nc:Hid (mS (L.take (k+1)) f1 ap=false):=af (by rw [z6.out];simp [bp.out]);have z4:az.cell? ⟨aL,4,none⟩=some (.bool (mS (L.take k) f1 ap)):=uP.out.cell 4;have fz:∀o,az.frozen? ⟨aL,o,none⟩=false:=fun o=>uP.out.frozen o;have E5:Hid (av (az.setCell ⟨aL,4,none⟩ (.bool false)) aL 139 #[↑id,↑f1,↑ap,↑aq,.bool false]):=af (uP.out.aW 4 _);have k7:Hid (gI.Row (az.setCell ⟨aL,4,none⟩ (.bool false)) (aL+1) (.slice ↑aH L.length cap) L):=af (Hr fM.out (fun hy=>by have h0:some aH=some aL:=hy;injection h0 with h0;have:=By.out;omega) _);have bY:=af (bN.out.setCell (p:=⟨aL,4,none⟩) (by rw [fy.out];exact Nat.le_refl _) (.bool false));go_wp2_with fail
     clear z4 fz;go_roundw
     case rel=>exact⟨k+1,by go_num,by omega,k7.out,by rw [nc.out];exact E5.out,bY.out⟩
     case measure=>simp [RowKit.intOf];omega
   ·have hsb:(f1==side)=false:=by rw [beq_eq_false_iff_ne];exact hs
    have nc:Hid (mS (L.take (k+1)) side ap=mS (L.take k) side ap):=af (by rw [z6.out];simp [hs]);go_wp2_with fail
    go_roundw
    case rel=>exact⟨k+1,by go_num,by omega,fM.out,by rw [nc.out];exact uP.out,bN.out⟩
    case measure=>simp [RowKit.intOf];omega
  ·obtain rfl:k=L.length:=by omega
   have hx:=uP.out;rw [List.take_length]at hx;replace uP:=af hx;clear hx hk;obtain⟨T,hT⟩:=ai (mS L side ap);rw [hT]at uP;have Hs:=af hT;clear hT;go_wp2_with fail
   as_aux_lemma=>
   go_loopw [13] (fun i w'=>∃k:Nat,i=↑k∧k≤L.length∧nU L side ap=k+((L.drop k).takeWhile (mD side ap)).length∧az=w') (fun i _=>L.length-(RowKit.intOf i).toNat)
   case atStart=>exact⟨0,rfl,Nat.zero_le _,(Nat.zero_add _).symm,rfl⟩
   case round=>
    obtain⟨k,rfl,hk,hp,rfl⟩:=hrel;have dx:=af hp;clear hp;go_upto_region 17 with(fail)
    go_cut [106] (fun v wx=>∃bb:Bool,v=↑bb∧(bb=true→k<L.length∧nU L side ap=(k+1)+((L.drop (k+1)).takeWhile (mD side ap)).length)∧(bb=false→nU L side ap=k)∧az=wx)
    case first=>
     as_aux_lemma=>
     by_cases hlt:k<L.length
     ·have hlt':(k:Int)<(L.length:Int):=by omega
      obtain⟨o,ho⟩:∃o,L[k]? =some o:=⟨_,List.getElem?_eq_getElem hlt⟩;have e6:=af (aht ho dx.out);obtain⟨g,off,he,_,hc⟩:=fM.out.rd_some k o ho;injection he with he;injection he with eb iU;subst eb iU;obtain⟨f0,f1,f2,f3,f4⟩:=o;have c1:az.cell? ⟨aH,k*5+1,none⟩=some ↑f1:=by have:=hc 1 _ rfl;rw [Nat.zero_add]at this;exact this
      have c2:az.cell? ⟨aH,k*5+2,none⟩=some ↑f2:=by have:=hc 2 _ rfl;rw [Nat.zero_add]at this;exact this
      clear hc ho;rcases Int.lt_trichotomy f1 side with h1|h1|h1
      ·have cO:Hid (mD side ap ⟨f0,f1,f2,f3,f4⟩=true):=af (by unfold mD;simp [h1])
       go_wp2_with fail
       go_meet;exact⟨true,rfl,fun _=>⟨hlt,e6.out.1 cO.out⟩,fun h=>(by cases h),rfl⟩
      ·subst h1
       obtain⟨bb,aP⟩:=ai (cT f1 ap f2);have cO:Hid (mD f1 ap ⟨f0,f1,f2,f3,f4⟩= !bb):=af (by unfold mD;simp [aP]);have g7:=Gx f1 ap f2 az;rw [aP]at g7;clear aP;go_wp2_with fail
       refine g7.mono ?_;rintro e aA ⟨rfl,rfl⟩;clear g7 c1 c2;cases bb with
       |true=>
        go_wp2_with fail
        go_meet;exact⟨false,rfl,fun h=>(by cases h),fun _=>e6.out.2 cO.out,rfl⟩
       |false=>
        go_wp2_with fail
        go_meet;exact⟨true,rfl,fun _=>⟨hlt,e6.out.1 cO.out⟩,fun h=>(by cases h),rfl⟩
      ·have h2:¬f1<side:=by omega
       have h3:(f1==side)=false:=by rw [beq_eq_false_iff_ne];omega
       have cO:Hid (mD side ap ⟨f0,f1,f2,f3,f4⟩=false):=af (by unfold mD;rw [decide_eq_false h2,decide_eq_false (show¬f1=side by omega)];rfl);go_wp2_with fail
       go_meet;exact⟨false,rfl,fun h=>(by cases h),fun _=>e6.out.2 cO.out,rfl⟩
     ·go_wp2_with fail
      go_meet;exact⟨false,rfl,fun h=>(by cases h),fun _=>ahu (by omega) dx.out,rfl⟩
    case rest=>
    obtain⟨bb,rfl,hb1,hb2,rfl⟩:=hcut;cases bb with
    |true=>
     obtain⟨hlt,Rx⟩:=hb1 rfl;have ahG:=af Rx;clear hb1 hb2 Rx;go_wp2_with fail
     go_roundw
     case rel=>exact⟨k+1,by go_num,by omega,ahG.out,by trivial⟩
     case measure=>simp [RowKit.intOf];omega
    |false=>
     have Ht:=af (hb2 rfl);clear hb1 hb2 dx;go_wp2_with fail
     as_aux_lemma=>
     go_loopw [15] (fun i w'=>∃i':Nat,i=↑i'∧i'≤L.length∧(T=false→i'=0)∧gI.Row w' (aL+1) (.slice ↑aH L.length cap) (uQ L side i')∧av w' aL 139 #[↑id,↑side,↑ap,↑aq,↑T]∧Below w.heap.size w w') (fun i _=>L.length-(RowKit.intOf i).toNat)
     case atStart=>exact⟨0,rfl,Nat.zero_le _,fun _=>rfl,fM.out,uP.out,bN.out⟩
     case round=>
      clear fM uP bN;obtain⟨i,rfl,hi,ko,hr,hx,hb⟩:=hrel;obtain⟨aA,rfl⟩:=aj wr;have k7:=af hr;have E5:=af hx;have bY:=af hb;have uk:=af ko;have z4:aA.cell? ⟨aL,4,none⟩=some ↑T:=hx.cell 4;clear hr hx hb ko;go_upto_region 20 with(fail)
      go_cut [116] (fun v wx=>∃bb:Bool,v=↑bb∧(bb=true→i<L.length∧T=true)∧(bb=false→¬(i<L.length∧T=true))∧aA=wx)
      case first=>
       by_cases hlt:i<L.length
       ·have hlt':(i:Int)<(L.length:Int):=by omega
        go_wp2_with fail
        go_meet;exact⟨T,rfl,fun h=>⟨hlt,h⟩,fun h h2=>(by rw [h2.2]at h;cases h),rfl⟩
       ·go_wp2_with fail
        go_meet;exact⟨false,rfl,fun h=>(by cases h),fun _ h2=>hlt h2.1,rfl⟩
      case rest=>
      obtain⟨bb,rfl,hb1,hb2,rfl⟩:=hcut;cases bb with
      |true=>
       obtain⟨hlt,Hu⟩:=hb1 rfl;have wE:=af Hu;clear hb1 hb2 Hu z4;have hlt':(i:Int)<(L.length:Int):=by omega
       obtain⟨o,ho⟩:∃o,L[i]? =some o:=⟨_,List.getElem?_eq_getElem hlt⟩;have Yx:=af (Yu (side:=side) ho);have Mq:=af (Yv (side:=side) ho);have ahH:=af (ahy (side:=side) ho);obtain⟨g,off,he,_,hc⟩:=k7.out.rd_some i o Yx.out;injection he with he;injection he with eb iU;subst eb iU;obtain⟨f0,f1,f2,f3,f4⟩:=o;have c1:aA.cell? ⟨aH,i*5+1,none⟩=some ↑f1:=by have:=hc 1 _ rfl;rw [Nat.zero_add]at this;exact this
       have dH:aA.cell? ⟨aH,i*5+4,none⟩=some ↑f4:=by have:=hc 4 _ rfl;rw [Nat.zero_add]at this;exact this
       clear hc ho;by_cases hs:f1=side
       ·subst hs
        obtain⟨Yy,oD,_,kf,_,hgt⟩:=k7.out.Gv (by simp [Value.ownBlock]);injection kf with kf;injection kf with kf;injection kf with kf;subst kf;have fz:∀o,aA.frozen? ⟨aH,o,none⟩=false:=fun o=>av.frozen hgt o
        have cL:Hid (gI.Row (aA.setCell ⟨aH,i*5+4,none⟩ (.bool false)) (aL+1) (.slice ↑aH L.length cap) (uQ L f1 (i+1))):=af (by
         rw [Mq.out,show mg f1 ⟨f0,f1,f2,f3,f4⟩=⟨f0,f1,f2,f3,false⟩from if_pos rfl];exact bl.Row.aW k7.out (e':=(⟨f0,f1,f2,f3,false⟩:aC)) (k:=4) (u:= .bool false) Yx.out (by decide) rfl)
        have Ry:=af (E5.out.keeps ((aK.refl (fun k=>k=aH) aA).setCell (p:=⟨aH,i*5+4,none⟩) (fun _=>rfl) (.bool false)) (fun h=>by have:=By.out;omega));have b7:=af (bY.out.setCell (p:=⟨aH,i*5+4,none⟩) (show w.heap.size≤aH by have:=By.out;have:=fy.out;omega) (.bool false));clear hgt;go_wp2_with fail
        clear c1 dH fz;go_roundw
        case rel=>exact⟨i+1,by go_num,by omega,fun h=>(by rw [wE.out]at h;cases h),cL.out,Ry.out,b7.out⟩
        case measure=>simp [RowKit.intOf];omega
       ·have hsb:(f1==side)=false:=by rw [beq_eq_false_iff_ne];exact hs
        go_wp2_with fail
        go_roundw
        case rel=>exact⟨i+1,by go_num,by omega,fun h=>(by rw [wE.out]at h;cases h),by rw [ahH.out hs];exact k7.out,E5.out,bY.out⟩
        case measure=>simp [RowKit.intOf];omega
      |false=>
       have nj:Hid (uQ L side i=if mS L side ap=true then L.map (mg side)else L):=af (by
        rw [Hs.out];have h2:=hb2 rfl;cases hT:T with
        |true=>
         have hi2:i=L.length:=by
          have:¬i<L.length:=fun h=>h2 ⟨h,hT⟩;omega
         rw [if_pos rfl,hi2];unfold uQ;rw [List.take_length,List.drop_length,List.append_nil]
        |false=>
         rw [if_neg (by simp),uk.out hT];rfl)
       have qE:=af (ahx L side i);generalize uQ L side i=eX at*;clear hb1 hb2 z4 uk;have ec:=af E5.out;obtain⟨z0,fw,z2,z3,z4⟩:=ec.out.amx
       have hkc:k≤cap:=by
        rcases k7.out.2 with⟨hv,_⟩|⟨cI,AY,Mt,hv,_,_,hh,_⟩
        ·injection hv with hv;cases hv
        ·injection hv with _ _ hv;rw [hv];have:=qE.out;omega
       have hkn:(k:Int)≤(L.length:Int):=by omega
       have iQ:(0:Int)≤(k:Int):=by omega
       obtain⟨off2,hoff⟩:=aj (if cap=k then 0 else k*5)
       have Vm:(if cap=k then(some ⟨aH,0,none⟩:Option Addr)else some ⟨aH,k*5,none⟩)=some ⟨aH,off2,none⟩:=by
        rw [hoff];split<;>rfl
       have Cy:=af hoff
       have ahI:Hid (L.length≤cap):=af (by
        rcases k7.out.2 with⟨hv,_⟩|⟨cI,AY,Mt,hv,_,_,hh,_⟩
        ·injection hv with hv;cases hv
        ·injection hv with _ _ hv;rw [hv];have:=qE.out;omega)
       clear hoff;go_upto_region 24 with(fail)
       refine cP (S:=fun w'=>w'.cell? ↑aL=some ↑id∧w'.cell? ⟨aL,1,none⟩=some ↑side∧w'.cell? ⟨aL,2,none⟩=some ↑ap∧w'.cell? ⟨aL,3,none⟩=some ↑aq∧w'.cell? ⟨aL,4,none⟩=some ↑T) ⟨z0,fw,z2,z3,z4⟩ fun hHeld=>?_;have NI:=af (Below.bO aA 1);have gZ:Hid (gI.Row aA.drew (aL+1) (.slice ↑aH L.length cap) eX):=af (k7.out.below NI.out);have Bs:Hid (av aA.drew aL 139 #[↑id,↑side,↑ap,↑aq,↑T]):=af (E5.out.below NI.out);have b6:Hid (Below w.heap.size w aA.drew):=ah bY NI;clear NI k7 E5 bY ec z0 fw z2 z3 z4;generalize aA.drew=wd at*;have c4:Hid (∀w',Below wd.heap.size wd w'→w'.cell? ↑aL=some ↑id∧w'.cell? ⟨aL,1,none⟩=some ↑side∧w'.cell? ⟨aL,2,none⟩=some ↑ap∧w'.cell? ⟨aL,3,none⟩=some ↑aq∧w'.cell? ⟨aL,4,none⟩=some ↑T):=af fun w' hb=>⟨(Bs.out.below hb).cell 0,(Bs.out.below hb).cell 1,(Bs.out.below hb).cell 2,(Bs.out.below hb).cell 3,(Bs.out.below hb).cell 4⟩;have NJ:Hid (av wd pw 181 #[.slice a L.length c]):=af (g6.out.below b6.out);have Rz:Hid (pw<wd.heap.size):=af NJ.out.lt;have dN:Hid ((eX.take k).length=k):=af (by rw [List.length_take,qE.out];omega);have Gz:Hid ((eX.take k++ [(⟨id,side,ap,aq,T⟩:aC)]).length=k+1):=af (by rw [List.length_append,dN.out];rfl);have xb:Hid ((eX.drop k).length=L.length-k):=af (by rw [List.length_drop,qE.out]);have jR:Hid ((eX.take k++ [(⟨id,side,ap,aq,T⟩:aC)]++eX.drop k).length=L.length+1):=af (by rw [List.length_append,Gz.out,xb.out];omega)
       have D9:Hid (∀w1,Below wd.heap.size wd w1→gI.fR w1 (some ⟨aH,off2,none⟩) (eX.drop k)):=af (by
        intro w1 PO;rw [Cy.out];by_cases hcap:cap=k
        ·rw [if_pos hcap]
         have h0:eX.drop k= []:=List.eq_nil_of_length_eq_zero (by rw [xb.out];have:=ahI.out;omega);rw [h0];exact bl.fR.nil
        ·rw [if_neg hcap]
         intro j e hj;rw [List.getElem?_drop]at hj;obtain⟨b,off,h1,h2,h3⟩:=(gZ.out.rd_some.below PO) (k+j) e hj;injection h1 with h1;injection h1 with h1 h4;subst h1 h4;refine⟨aH,k*5,rfl,h2,?_⟩;rw [show k*5+j*gI.m=0+(k+j)*gI.m by rw [Nat.add_mul,Nat.zero_add];rfl];exact h3)
       have oJ:Hid (Below wd.heap.size wd wd):=af (Below.refl _ _);refine au 0 ?_;refine au 2 ?_;refine au 3 ?_;refine au 4 ?_;refine au 6 ?_;refine au 9 ?_;refine au 10 ?_;refine au 11 ?_;refine lZ 1 7 (fun K hK=>?_) fun K hK=>?_
       ·as_aux_lemma=>
        go_simp;have hba:=Below.aI wd (.cells #[] 139);have aP:=oJ.out.trans (hba.mono oJ.out.size);refine hK.out _ _ (c4.out _ aP) (fun hHeld=>?_);clear hK K;have pp:gI.Row (wd.alloc (.cells #[] 139)) wd.heap.size (.slice ↑wd.heap.size 0 0) []:=bl.Row.empty wd;have dm:(wd.alloc (.cells #[] 139)).heap.size=wd.heap.size+1:=by simp
        obtain⟨ge,hge⟩:=ai wd.heap.size;have bL:Hid (wd.heap.size=ge):=af hge;rw [hge]at pp dm⊢;clear hge;generalize wd.alloc (.cells #[] 139)=fV at*;have bR:=af pp;have qa:=af aP;have I8:=af dm;clear hba aP pp dm;replace bR:=af (bR.out.base (show wd.heap.size≤ge by have h1:=bL.out;omega));refine lZ 5 7 (fun K hK=>?_) fun K hK=>?_
        ·as_aux_lemma=>
         refine gI.s9 (by rfl) (.tmp 131) (.tmp 134) (by rfl) wd.heap.size ge 0 0 k [] rfl (by rfl) bR.out aH 0 cap (eX.take k) dN.out (by rfl) ((gZ.out.rd_some.below qa.out).take k) k (by omega) (by omega) qa.out.size ?_;intro g1 m6 wf fk nL rF;try rw [List.nil_append]at fk
         have jL:=iJ nL qa.out (cS bR.out);have b5:=af fk;have td:=af jL;have yb:=af (fK nL);refine hK.out _ _ (c4.out _ jL) (fun hHeld=>?_);clear hK K fk jL nL rF;try simp only [Act.put,QJ,QK,QL]
         refine aU 7 fun K hK=>?_;refine Rv (by rfl) 136 (by rfl) (by rfl) ?_;have hba:=Below.aI wf (.cells #[↑id,↑side,↑ap,↑aq,↑T] 139);have aP:=td.out.trans (hba.mono td.out.size);refine hK.out _ _ (c4.out _ aP) (fun hHeld=>?_);clear hK K;try simp only [Act.put,QJ,QK,QL]
         have j5:av (wf.alloc (.cells #[↑id,↑side,↑ap,↑aq,↑T] 139)) wf.heap.size 139 #[↑id,↑side,↑ap,↑aq,↑T]:=av.new _ _ _;have dm:(wf.alloc (.cells #[↑id,↑side,↑ap,↑aq,↑T] 139)).heap.size=wf.heap.size+1:=by simp
         obtain⟨gn,jz⟩:=ai wf.heap.size;have oo:Hid (wf.heap.size=gn):=af jz;rw [jz]at j5 dm⊢;clear jz;have Cz:=b5.out.below hba;generalize wf.alloc (.cells #[↑id,↑side,↑ap,↑aq,↑T] 139)=wc at*;have HN:=af j5;have pq:=af aP;have Ea:=af dm;clear hba aP j5 dm;replace b5:=af Cz;clear Cz;refine aU 8 fun K hK=>?_;refine gI.s9 (by rfl) (.tmp 135) (.tmp 137) (by rfl) wd.heap.size g1 m6 k 1 (eX.take k) dN.out (by rfl) b5.out gn 0 1 [(⟨id,side,ap,aq,T⟩:aC)] rfl (by rfl) (iI.rd HN.out.lt (av.gH HN.out)) (k+1) rfl (by omega) pq.out.size ?_;intro g2 oD wg pu ju th;have tj:=iJ ju pq.out (cS b5.out);have bU:=af pu;have tq:=af tj;refine hK.out _ _ (c4.out _ tj) (fun hHeld=>?_);clear hK K pu tj ju th;try simp only [Act.put,QJ,QK,QL]
         refine aU 12 fun K hK=>?_;refine gI.s9 (by rfl) (.tmp 138) (.tmp 141) (by rfl) wd.heap.size g2 oD (k+1) (L.length-k) (eX.take k++ [(⟨id,side,ap,aq,T⟩:aC)]) Gz.out (by rfl) bU.out aH off2 (cap-k) (eX.drop k) xb.out (by rfl) (D9.out _ tq.out) (L.length+1) (by omega) (by omega) tq.out.size ?_;intro aV nN qM ux yc yd;have qN:=iJ yc tq.out (cS bU.out);have cj:wd.heap.size≤aV:=cS ux aV rfl;have Eb:=af ux;have zI:=af qN;have eA:=af cj;have yK:=NJ.out.below qN;have CZ:=af yK;have Kw:qM.cell? ↑pw=some (.slice a L.length c):=yK.cell 0;have Ky:∀o,qM.frozen? ⟨pw,o,none⟩=false:=fun o=>CZ.out.frozen o;refine hK.out _ _ (c4.out _ qN) (fun hHeld=>?_);clear hK K ux qN yc yd yK cj;try simp only [Act.put,QJ,QK,QL]
         refine au 13 ?_;refine au 14 ?_;refine dY 15 fun K hK=>?_;go_simp;refine hK.out _ _ ?_;clear hK K hHeld Kw Ky
         have hrb:g4 W (qM.setCell ↑pw (.slice ↑aV (L.length+1) nN)) pw (eX.take k++ [(⟨id,side,ap,aq,T⟩:aC)]++eX.drop k):=by
          have C0:W.heap.size≤wd.heap.size:=Nat.le_trans en.out.aJ.size b6.out.size;refine⟨⟨some ⟨aV,0,none⟩,nN,?_,?_⟩,en.out.base,?_⟩
          ·rw [jR.out];exact CZ.out.aW 0 _
          ·rw [jR.out]
           have rF:gI.Row (qM.setCell ↑pw (.slice ↑aV (L.length+1) nN)) wd.heap.size (.slice ↑aV (L.length+1) nN) (eX.take k++ [(⟨id,side,ap,aq,T⟩:aC)]++eX.drop k):=Hr Eb.out (p:=⟨pw,0,none⟩) (fun hy=>by have h0:some aV=some pw:=hy;injection h0 with h0;have h1:=Rz.out;have h2:=eA.out;omega) _;exact rF.base C0
          ·exact((en.out.aJ.trans (b6.out.mono en.out.aJ.size)).trans (zI.out.mono C0)).setCell (p:=⟨pw,0,none⟩) en.out.base _
         have hkp:aK (fun g=>g=pw) w (qM.setCell ↑pw (.slice ↑aV (L.length+1) nN)):=
          (Below.keeps (F:=fun g=>g=pw) (ah b6 zI).out).setCell (p:=⟨pw,0,none⟩) (fun _=>rfl) _
         have uJ:=af hrb;have yL:=af hkp;clear hrb hkp;go_wp2_with fail
         go_ret;exact⟨by trivial,by rw [nW.out,←nj.out,Ht.out,Hs.out];exact uJ.out,yL.out⟩
        ·as_aux_lemma=>
         refine Rv (by rfl) 136 (by rfl) (by rfl) ?_;have hba:=Below.aI fV (.cells #[↑id,↑side,↑ap,↑aq,↑T] 139);have aP:=qa.out.trans (hba.mono qa.out.size);refine hK.out _ _ (c4.out _ aP) (fun hHeld=>?_);clear hK K;try simp only [Act.put,QJ,QK,QL]
         have j5:av (fV.alloc (.cells #[↑id,↑side,↑ap,↑aq,↑T] 139)) fV.heap.size 139 #[↑id,↑side,↑ap,↑aq,↑T]:=av.new _ _ _;have dm:(fV.alloc (.cells #[↑id,↑side,↑ap,↑aq,↑T] 139)).heap.size=fV.heap.size+1:=by simp
         obtain⟨gn,jz⟩:=ai fV.heap.size;have oo:Hid (fV.heap.size=gn):=af jz;rw [jz]at j5 dm⊢;clear jz;have I9:=bR.out.below hba;generalize fV.alloc (.cells #[↑id,↑side,↑ap,↑aq,↑T] 139)=wc at*;have HN:=af j5;have pq:=af aP;have Ea:=af dm;clear hba aP j5 dm;replace bR:=af I9;clear I9;refine aU 5 fun K hK=>?_;refine gI.s9 (by rfl) (.tmp 131) (.tmp 134) (by rfl) wd.heap.size ge 0 0 k [] rfl (by rfl) bR.out aH 0 cap (eX.take k) dN.out (by rfl) ((gZ.out.rd_some.below pq.out).take k) k (by omega) (by omega) pq.out.size ?_;intro g1 m6 wf fk nL rF;try rw [List.nil_append]at fk
         have jL:=iJ nL pq.out (cS bR.out);have b5:=af fk;have td:=af jL;have yb:=af (fK nL);refine hK.out _ _ (c4.out _ jL) (fun hHeld=>?_);clear hK K fk jL nL rF;try simp only [Act.put,QJ,QK,QL]
         have nM:=HN.out.keeps yb.out (fun hy=>by have h0:some ge=some gn:=hy;injection h0 with h0;have h1:=bL.out;have h2:=I8.out;have h3:=oo.out;omega);replace HN:=af nM;clear nM;refine aU 8 fun K hK=>?_;refine gI.s9 (by rfl) (.tmp 135) (.tmp 137) (by rfl) wd.heap.size g1 m6 k 1 (eX.take k) dN.out (by rfl) b5.out gn 0 1 [(⟨id,side,ap,aq,T⟩:aC)] rfl (by rfl) (iI.rd HN.out.lt (av.gH HN.out)) (k+1) rfl (by omega) td.out.size ?_;intro g2 oD wg pu ju th;have tj:=iJ ju td.out (cS b5.out);have bU:=af pu;have tq:=af tj;refine hK.out _ _ (c4.out _ tj) (fun hHeld=>?_);clear hK K pu tj ju th;try simp only [Act.put,QJ,QK,QL]
         refine aU 12 fun K hK=>?_;refine gI.s9 (by rfl) (.tmp 138) (.tmp 141) (by rfl) wd.heap.size g2 oD (k+1) (L.length-k) (eX.take k++ [(⟨id,side,ap,aq,T⟩:aC)]) Gz.out (by rfl) bU.out aH off2 (cap-k) (eX.drop k) xb.out (by rfl) (D9.out _ tq.out) (L.length+1) (by omega) (by omega) tq.out.size ?_;intro aV nN qM ux yc yd;have qN:=iJ yc tq.out (cS bU.out);have cj:wd.heap.size≤aV:=cS ux aV rfl;have Eb:=af ux;have zI:=af qN;have eA:=af cj;have yK:=NJ.out.below qN;have CZ:=af yK;have Kw:qM.cell? ↑pw=some (.slice a L.length c):=yK.cell 0;have Ky:∀o,qM.frozen? ⟨pw,o,none⟩=false:=fun o=>CZ.out.frozen o;refine hK.out _ _ (c4.out _ qN) (fun hHeld=>?_);clear hK K ux qN yc yd yK cj;try simp only [Act.put,QJ,QK,QL]
         refine au 13 ?_;refine au 14 ?_;refine dY 15 fun K hK=>?_;go_simp;refine hK.out _ _ ?_;clear hK K hHeld Kw Ky
         have hrb:g4 W (qM.setCell ↑pw (.slice ↑aV (L.length+1) nN)) pw (eX.take k++ [(⟨id,side,ap,aq,T⟩:aC)]++eX.drop k):=by
          have C0:W.heap.size≤wd.heap.size:=Nat.le_trans en.out.aJ.size b6.out.size;refine⟨⟨some ⟨aV,0,none⟩,nN,?_,?_⟩,en.out.base,?_⟩
          ·rw [jR.out];exact CZ.out.aW 0 _
          ·rw [jR.out]
           have rF:gI.Row (qM.setCell ↑pw (.slice ↑aV (L.length+1) nN)) wd.heap.size (.slice ↑aV (L.length+1) nN) (eX.take k++ [(⟨id,side,ap,aq,T⟩:aC)]++eX.drop k):=Hr Eb.out (p:=⟨pw,0,none⟩) (fun hy=>by have h0:some aV=some pw:=hy;injection h0 with h0;have h1:=Rz.out;have h2:=eA.out;omega) _;exact rF.base C0
          ·exact((en.out.aJ.trans (b6.out.mono en.out.aJ.size)).trans (zI.out.mono C0)).setCell (p:=⟨pw,0,none⟩) en.out.base _
         have hkp:aK (fun g=>g=pw) w (qM.setCell ↑pw (.slice ↑aV (L.length+1) nN)):=
          (Below.keeps (F:=fun g=>g=pw) (ah b6 zI).out).setCell (p:=⟨pw,0,none⟩) (fun _=>rfl) _
         have uJ:=af hrb;have yL:=af hkp;clear hrb hkp;go_wp2_with fail
         go_ret;exact⟨by trivial,by rw [nW.out,←nj.out,Ht.out,Hs.out];exact uJ.out,yL.out⟩
       ·as_aux_lemma=>
        refine Rv (by rfl) 136 (by rfl) (by rfl) ?_;have hba:=Below.aI wd (.cells #[↑id,↑side,↑ap,↑aq,↑T] 139);have aP:=oJ.out.trans (hba.mono oJ.out.size);refine hK.out _ _ (c4.out _ aP) (fun hHeld=>?_);clear hK K;try simp only [Act.put,QJ,QK,QL]
        have j5:av (wd.alloc (.cells #[↑id,↑side,↑ap,↑aq,↑T] 139)) wd.heap.size 139 #[↑id,↑side,↑ap,↑aq,↑T]:=av.new _ _ _;have dm:(wd.alloc (.cells #[↑id,↑side,↑ap,↑aq,↑T] 139)).heap.size=wd.heap.size+1:=by simp
        obtain⟨gn,jz⟩:=ai wd.heap.size;have oo:Hid (wd.heap.size=gn):=af jz;rw [jz]at j5 dm⊢;clear jz;generalize wd.alloc (.cells #[↑id,↑side,↑ap,↑aq,↑T] 139)=wc at*;have HN:=af j5;have pq:=af aP;have Ea:=af dm;clear hba aP j5 dm;refine aU 1 fun K hK=>?_;go_simp;have hba:=Below.aI wc (.cells #[] 139);have aP:=pq.out.trans (hba.mono pq.out.size);refine hK.out _ _ (c4.out _ aP) (fun hHeld=>?_);clear hK K;have pp:gI.Row (wc.alloc (.cells #[] 139)) wc.heap.size (.slice ↑wc.heap.size 0 0) []:=bl.Row.empty wc;have dm:(wc.alloc (.cells #[] 139)).heap.size=wc.heap.size+1:=by simp
        obtain⟨ge,hge⟩:=ai wc.heap.size;have bL:Hid (wc.heap.size=ge):=af hge;rw [hge]at pp dm⊢;clear hge;have lD:=HN.out.below hba;generalize wc.alloc (.cells #[] 139)=fV at*;have bR:=af pp;have qa:=af aP;have I8:=af dm;clear hba aP pp dm;replace HN:=af lD;clear lD;replace bR:=af (bR.out.base (show wd.heap.size≤ge by have h1:=bL.out;have h2:=pq.out.size;omega));refine aU 5 fun K hK=>?_;refine gI.s9 (by rfl) (.tmp 131) (.tmp 134) (by rfl) wd.heap.size ge 0 0 k [] rfl (by rfl) bR.out aH 0 cap (eX.take k) dN.out (by rfl) ((gZ.out.rd_some.below qa.out).take k) k (by omega) (by omega) qa.out.size ?_;intro g1 m6 wf fk nL rF;try rw [List.nil_append]at fk
        have jL:=iJ nL qa.out (cS bR.out);have b5:=af fk;have td:=af jL;have yb:=af (fK nL);refine hK.out _ _ (c4.out _ jL) (fun hHeld=>?_);clear hK K fk jL nL rF;try simp only [Act.put,QJ,QK,QL]
        have nM:=HN.out.keeps yb.out (fun hy=>by have h0:some ge=some gn:=hy;injection h0 with h0;have h1:=bL.out;have h2:=Ea.out;have h3:=oo.out;omega);replace HN:=af nM;clear nM;refine aU 8 fun K hK=>?_;refine gI.s9 (by rfl) (.tmp 135) (.tmp 137) (by rfl) wd.heap.size g1 m6 k 1 (eX.take k) dN.out (by rfl) b5.out gn 0 1 [(⟨id,side,ap,aq,T⟩:aC)] rfl (by rfl) (iI.rd HN.out.lt (av.gH HN.out)) (k+1) rfl (by omega) td.out.size ?_;intro g2 oD wg pu ju th;have tj:=iJ ju td.out (cS b5.out);have bU:=af pu;have tq:=af tj;refine hK.out _ _ (c4.out _ tj) (fun hHeld=>?_);clear hK K pu tj ju th;try simp only [Act.put,QJ,QK,QL]
        refine aU 12 fun K hK=>?_;refine gI.s9 (by rfl) (.tmp 138) (.tmp 141) (by rfl) wd.heap.size g2 oD (k+1) (L.length-k) (eX.take k++ [(⟨id,side,ap,aq,T⟩:aC)]) Gz.out (by rfl) bU.out aH off2 (cap-k) (eX.drop k) xb.out (by rfl) (D9.out _ tq.out) (L.length+1) (by omega) (by omega) tq.out.size ?_;intro aV nN qM ux yc yd;have qN:=iJ yc tq.out (cS bU.out);have cj:wd.heap.size≤aV:=cS ux aV rfl;have Eb:=af ux;have zI:=af qN;have eA:=af cj;have yK:=NJ.out.below qN;have CZ:=af yK;have Kw:qM.cell? ↑pw=some (.slice a L.length c):=yK.cell 0;have Ky:∀o,qM.frozen? ⟨pw,o,none⟩=false:=fun o=>CZ.out.frozen o;refine hK.out _ _ (c4.out _ qN) (fun hHeld=>?_);clear hK K ux qN yc yd yK cj;try simp only [Act.put,QJ,QK,QL]
        refine au 13 ?_;refine au 14 ?_;refine dY 15 fun K hK=>?_;go_simp;refine hK.out _ _ ?_;clear hK K hHeld Kw Ky
        have hrb:g4 W (qM.setCell ↑pw (.slice ↑aV (L.length+1) nN)) pw (eX.take k++ [(⟨id,side,ap,aq,T⟩:aC)]++eX.drop k):=by
         have C0:W.heap.size≤wd.heap.size:=Nat.le_trans en.out.aJ.size b6.out.size;refine⟨⟨some ⟨aV,0,none⟩,nN,?_,?_⟩,en.out.base,?_⟩
         ·rw [jR.out];exact CZ.out.aW 0 _
         ·rw [jR.out]
          have rF:gI.Row (qM.setCell ↑pw (.slice ↑aV (L.length+1) nN)) wd.heap.size (.slice ↑aV (L.length+1) nN) (eX.take k++ [(⟨id,side,ap,aq,T⟩:aC)]++eX.drop k):=Hr Eb.out (p:=⟨pw,0,none⟩) (fun hy=>by have h0:some aV=some pw:=hy;injection h0 with h0;have h1:=Rz.out;have h2:=eA.out;omega) _;exact rF.base C0
         ·exact((en.out.aJ.trans (b6.out.mono en.out.aJ.size)).trans (zI.out.mono C0)).setCell (p:=⟨pw,0,none⟩) en.out.base _
        have hkp:aK (fun g=>g=pw) w (qM.setCell ↑pw (.slice ↑aV (L.length+1) nN)):=
         (Below.keeps (F:=fun g=>g=pw) (ah b6 zI).out).setCell (p:=⟨pw,0,none⟩) (fun _=>rfl) _
        have uJ:=af hrb;have yL:=af hkp;clear hrb hkp;go_wp2_with fail
        go_ret;exact⟨by trivial,by rw [nW.out,←nj.out,Ht.out,Hs.out];exact uJ.out,yL.out⟩
end
end Go.Proofs.YtmaijkoopjocdaaGreat
