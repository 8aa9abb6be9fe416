import Derived.Test.YtmaijkoopjocdaaGreatKW24
set_option maxRecDepth 100000
set_option maxHeartbeats 64000000
namespace Go.Proofs.YtmaijkoopjocdaaGreat
open Go.RowKit Go.Lib
theorem aht {L:List aC} {k:Nat} {o:aC} {side ap:Int} (ho:L[k]? =some o) (h:nU L side ap=k+((L.drop k).takeWhile (mD side ap)).length):
 (mD side ap o=true->nU L side ap=(k+1)+((L.drop (k+1)).takeWhile (mD side ap)).length)∧(mD side ap o=false->nU L side ap=k):=by
 obtain⟨h1,h2⟩:=lB ho;rw [List.drop_eq_getElem_cons h1,h2]at h;refine⟨fun ha=>?_,fun ha=>?_⟩
 ·rw [List.takeWhile_cons_of_pos ha,List.length_cons]at h;omega
 rw [List.takeWhile_cons_of_neg (by rw [ha];simp)]at h;exact h
theorem ahu {L:List aC} {k:Nat} {side ap:Int} (hk:L.length<=k) (h:nU L side ap=k+((L.drop k).takeWhile (mD side ap)).length):nU L side ap=k:=by rw [List.drop_of_length_le hk]at h;exact h
theorem ahv {L:List aC} {k:Nat} {o:aC} {side ap:Int} (ho:L[k]? =some o):mS (L.take (k+1)) side ap=(mS (L.take k) side ap&& !(decide (o.side=side)&& !cT side ap o.ap)):=by unfold mS;rw [kH ho,List.all_append];simp
theorem ahw {α:Type} {l:List α} {i:Nat} {x:α} (h:l[i]? =some x):l.set i x=l:=by obtain⟨h1,h2⟩:=lB h;rw [<-h2];exact List.set_getElem_self h1
def uQ (L:List aC) (side:Int) (i:Nat):List aC:=(L.take i).map (mg side)++L.drop i
theorem ahx (L:List aC) (side:Int) (i:Nat):(uQ L side i).length=L.length:=by unfold uQ;rw [List.length_append,List.length_map,<-List.length_append,List.take_append_drop]
theorem Yu {L:List aC} {side:Int} {i:Nat} {o:aC} (ho:L[i]? =some o):(uQ L side i)[i]? =some o:=by have hi:=dM ho;unfold uQ;rw [List.getElem?_append_right (by rw [List.length_map,List.length_take];omega),List.length_map,List.length_take,Nat.min_eq_left bh,Nat.sub_self,List.getElem?_drop,Nat.add_zero,ho]
theorem Yv {L:List aC} {side:Int} {i:Nat} {o:aC} (ho:L[i]? =some o):uQ L side (i+1)=(uQ L side i).set i (mg side o):=by obtain⟨h1,h2⟩:=lB ho;unfold uQ;rw [kH ho,List.map_append,List.set_append_right _ _ (by rw [List.length_map,List.length_take];omega),List.length_map,List.length_take,Nat.min_eq_left bh,Nat.sub_self,List.append_assoc,List.drop_eq_getElem_cons h1,h2];rfl
theorem ahy {L:List aC} {side:Int} {i:Nat} {o:aC} (ho:L[i]? =some o) (hs:¬o.side=side):uQ L side (i+1)=uQ L side i:=by rw [Yv ho,show mg side o=o from if_neg hs];exact ahw (Yu ho)
theorem Rv {w:World} {ops:Array Oper} {o:Oper} {a:Act} {K:Act->World->Prop} {Q:Exit->Act->World->Prop} {E:Prop} {f0 f1 f2 f3:Int} {f4:Bool} (hgd:o.guard=none) (t:Nat)
 (ho:o.op= .buildSlice 179 1 #[(0,.tmp t)]) (hx:a.tmps[t]?.getD undef= .agg #[↑f0,↑f1,↑f2,↑f3,↑f4])
 (h:K (a.put o.dst (.slice ↑w.heap.size 1 1)) (w.alloc (.cells #[↑f0,↑f1,↑f2,↑f3,↑f4] 139))):
 if Region.wanted o (yielded ops a.tmps)=true then Oper.wp Tryz.prog o a w K Q else E:=by
 have hw:Region.wanted o (yielded ops a.tmps)=true:=by simp [Region.wanted,hgd]
 rw [if_pos hw];unfold Oper.wp execOp;simp only [ho];go_simp;exact h
section
variable {W w w':World} {pw:Nat} {L:List aC}
theorem ahz {L:List aC} {id side ap aq:Int} (h:z8 side=false):mT L id side ap aq=(L,21):=by unfold mT;rw [if_pos h]
theorem ahA {L:List aC} {id side ap aq:Int} (h:z8 side=true) (hq:aq<1∨1000000<aq):mT L id side ap aq=(L,24):=by unfold mT;rw [h,if_neg cU,if_pos hq]
theorem ahB (w:World) (pw:Nat) (id side ap aq:Int) (hb:z8 side=false):
 Calls Tryz.prog 139 #[.pointer ↑pw,↑id,↑side,↑ap,↑aq] w fun e w'=>e= .returned (.int .i64 21)∧w=w':=by
 have h1:(side !=1)=true:=by rw [bne_iff_ne];rintro rfl;cases hb
 have h2:(side !=2)=true:=by rw [bne_iff_ne];rintro rfl;cases hb
 clear hb;go_enter Tryz.func139,Tryz.ntmps139;go_wp2_with fail;go_ret;exact⟨cF,cF⟩
theorem ahC (w:World) (pw:Nat) (id side ap aq:Int) (hs:side=1∨side=2) (hq:aq<1∨1000000<aq):
 Calls Tryz.prog 139 #[.pointer ↑pw,↑id,↑side,↑ap,↑aq] w fun e w'=>e= .returned (.int .i64 24)∧w=w':=by
 have A:=af hs;clear hs;go_enter Tryz.func139,Tryz.ntmps139;go_upto_region 1 with(fail);go_cut [21] (fun v wx=>v= .bool false∧w=wx)
 case first=>
  rcases A.o with rfl|rfl
  ·go_wp2_with fail;go_meet;exact⟨rfl,rfl⟩
  go_wp2_with fail;go_meet;exact⟨rfl,rfl⟩
 case rest=>
 obtain⟨rfl,rfl⟩:=hcut;rcases hq with hq|hq
 ·go_wp2_with fail;go_ret;exact⟨cF,cF⟩
 have hq1:¬aq<1:=bh;go_wp2_with fail;go_ret;exact⟨cF,cF⟩
theorem ahD (h:g4 W w pw L) (hl:L.length<=250) (id side ap aq:Int) (hs:side=1∨side=2) (hq:1<=aq∧aq<=1000000) (ht:(L.find? (fun o=>o.id==id)).isSome=true):
 Calls Tryz.prog 139 #[.pointer ↑pw,↑id,↑side,↑ap,↑aq] w fun e w'=>e= .returned (.int .i64 25)∧w=w':=by
 have A:=af hs;have B:=af ht;have hq1:¬aq<1:=bh;have hq2:¬1000000<aq:=bh;have hfr:=CX h hl id;clear hs ht h hq;go_enter Tryz.func139,Tryz.ntmps139;go_upto_region 1 with(fail);go_cut [21] (fun v wx=>v= .bool false∧w=wx)
 case first=>
  rcases A.o with rfl|rfl
  ·go_wp2_with fail;go_meet;exact⟨rfl,rfl⟩
  go_wp2_with fail;go_meet;exact⟨rfl,rfl⟩
 case rest=>
 obtain⟨rfl,rfl⟩:=hcut;go_wp2_with fail;refine hfr.mono ?_;rintro e w2 ⟨⟨r,rfl,hr⟩,rfl⟩;obtain⟨k,rfl⟩:∃k:Nat,r=k:=by
  rcases hr with⟨_,h1⟩|⟨k,o',rfl,_⟩
  ·have:=B.o;rw [h1]at this;cases this
  exact⟨k,rfl⟩
 have C:(0:Int)<=(k:Int):=bh;clear hr hfr;go_wp2_with fail;go_ret;exact⟨cF,cF⟩
theorem ahE (h:g4 W w pw L) (hl:L.length=250) (id side ap aq:Int) (hs:side=1∨side=2) (hq:1<=aq∧aq<=1000000) (ht:(L.find? (fun o=>o.id==id)).isSome=false):
 Calls Tryz.prog 139 #[.pointer ↑pw,↑id,↑side,↑ap,↑aq] w fun e w'=>e= .returned (.int .i64 13)∧w=w':=by
 have B:=af hs;have C:=af ht;have hq1:¬aq<1:=bh;have hq2:¬1000000<aq:=bh;have hfr:=CX h bh id;obtain⟨a,c,A,_⟩:=h.box;rw [hl]at A;have D:=A.GC;clear hs ht h hq A;go_enter Tryz.func139,Tryz.ntmps139;go_upto_region 1 with(fail);go_cut [21] (fun v wx=>v= .bool false∧w=wx)
 case first=>
  rcases B.o with rfl|rfl
  ·go_wp2_with fail;go_meet;exact⟨rfl,rfl⟩
  go_wp2_with fail;go_meet;exact⟨rfl,rfl⟩
 case rest=>
 obtain⟨rfl,rfl⟩:=hcut;go_wp2_with fail;refine hfr.mono ?_;rintro e w2 ⟨⟨r,rfl,hr⟩,rfl⟩;obtain rfl:r= -1:=by
  rcases hr with⟨h1,_⟩|⟨k,o',_,_,_,h1⟩
  ·exact h1
  have:=C.o;rw [h1]at this;cases this
 clear hr hfr;go_wp2_with fail;go_ret;exact⟨cF,cF⟩
theorem ahF (h:g4 W w pw L) (hl:L.length<250) (id side ap aq:Int) (hs:side=1∨side=2) (hq:1<=aq∧aq<=1000000) (ht:(L.find? (fun o=>o.id==id)).isSome=false) (R:List aC) (oT:R=(if mS L side ap=true then L.map (mg side)else L).take (nU L side ap)++ [⟨id,side,ap,aq,mS L side ap⟩]++(if mS L side ap=true then L.map (mg side)else L).drop (nU L side ap)):
 Calls Tryz.prog 139 #[.pointer ↑pw,↑id,↑side,↑ap,↑aq] w fun e w'=>e= .returned ↑()∧g4 W w' pw R∧aK (fun g=>g=pw) w w':=by
 have nW:=af oT;clear oT;have aD:=af hs;have bP:=af ht;have E:=af h;have hq1:¬aq<1:=bh;have hq2:¬1000000<aq:=bh;have hfr:=CX h bh id;have amW:¬(250:Int)<=(L.length:Int):=bh;obtain⟨a,c,aT,hrw⟩:=h.box;have jA:=aT.GC;have g6:Ei (av w pw 181 #[.slice a L.length c]):=af aT;have gq:Ei (pw<w.heap.size):=af aT.lt;have iz:=af hrw;clear hs ht h hq aT hrw;go_enter Tryz.func139,Tryz.ntmps139;go_upto_region 1 with(fail);go_cut [21] (fun v wx=>v= .bool false∧w=wx)
 case first=>
  rcases aD.o with rfl|rfl
  ·go_wp2_with fail;go_meet;exact⟨rfl,rfl⟩
  go_wp2_with fail;go_meet;exact⟨rfl,rfl⟩
 case rest=>
 obtain⟨rfl,rfl⟩:=hcut;go_wp2_with fail;refine hfr.mono ?_;rintro e w2 ⟨⟨r,rfl,hr⟩,rfl⟩;obtain rfl:r= -1:=by
  rcases hr with⟨h1,_⟩|⟨k,o',_,_,_,h1⟩
  ·exact h1
  have:=bP.o;rw [h1]at this;cases this
 clear hr hfr;go_upto_region 10 with(fail);have wD:av (w.alloc (.cells #[↑id,↑side,↑ap,↑aq,.bool true] 139)) ↑w 139 #[↑id,↑side,↑ap,↑aq,.bool true]:=av.new _ _ _;have hb1:=Below.aI w (.cells #[↑id,↑side,↑ap,↑aq,.bool true] 139);have Yw:=(hb1.cell (p:=⟨pw,0,none⟩) gq.o).trans jA;have Ad:=af (iz.o.below hb1);have hs1:(w.alloc (.cells #[↑id,↑side,↑ap,↑aq,.bool true] 139)).heap.size=w.heap.size+1:=cU;obtain⟨aL,fO⟩:=ai w.heap.size;have fy:Ei (w.heap.size=aL):=af fO;rw [fO]at wD hs1⊢;generalize w.alloc (.cells #[↑id,↑side,↑ap,↑aq,.bool true] 139)=w1 at*;have bA:=af hb1;have tN:=af wD;have dW:=af hs1;clear wD hb1 hs1 fO jA iz;obtain⟨_,_,he,hac,hrd⟩:=Ad.o.rd;injection he with eb _ iU;subst eb iU;have Bw:Ei (∀ad,a=some ad->∃b off,ad=⟨b,off,none⟩):=af fun ad hab=>by
  rcases Ad.o.2 with⟨hv,_⟩|⟨g,cap,cur,hv,_⟩
  ·injection hv with hv;rw [hv]at hab;cases hab
  injection hv with hv;rw [hv]at hab;injection hab with hab;exact⟨g,0,hab.symm⟩
 have hba:=Below.aI w1 (.cells #[] 139);have CY:=af (hrd.below hba);have gY:Ei (gI.Row (w1.alloc (.cells #[] 139)) ↑w1 (.slice ↑w1.heap.size 0 0) []):=af (bl.Row.empty w1);have aS:=ag bA hba;have xx:=af (tN.o.below hba);have iD:Ei ((w1.alloc (.cells #[] 139)).heap.size=aL+2):=af (by have:=dW.o;simp;omega);have Rw:=(hba.cell (p:=⟨pw,0,none⟩) (show pw<w1.heap.size by have:=bA.o.size;have:=gq.o;omega)).trans Yw;clear hrd hba;have Bx:=af hac;clear hac;go_wp2_with (first
  |(at_builtin;go_loud (refine gI.wV rfl (.tmp 43) (.tmp 47) rfl ↑w1 (.slice (some ⟨w1.heap.size,0,none⟩) 0 0) [] rfl gY.o a c L rfl Bx.o CY.o (fun ad h _=>Bw.o ad h) (by have h0:([]:List aC).length=0:=rfl;omega) (by have h0:=iD.o;have h1:=dW.o;omega) ?_)))
 intro v' w3 jr N yJ;try rw [List.nil_append]at jr
 obtain⟨aH,cap,_,rfl,dr,_⟩:=jr.Gv (by
  rcases yJ with h5|h5
  ·rw [h5];simp [Value.ownBlock]
  rw [h5];simp)
 have hb3:=iJ N aS.o (fun y hy=>by have h0:some w1.heap.size=some y:=hy;injection h0 with h0;have:=bA.o.size;omega);have JT:=xx.o.keeps (fK N) (fun hy=>by have h0:some w1.heap.size=some aL:=hy;injection h0 with h0;have:=dW.o;omega);have rG:Ei (gI.Row w3 (aL+1) (.slice ↑aH L.length cap) L):=af (jr.base (by rw [dW.o];exact Nat.le_refl _));have aQ:=af hb3;have Kp:=af JT;have By:Ei (aL+1<=aH):=af (by rw [<-dW.o];exact dr);clear jr N yJ hb3 JT dr Ad CY gY aS xx iD Bx Bw Yw Rw tN bA;go_wp2_with fail
 as_aux_lemma=>
 go_loopw [14] (fun i w'=>∃k:Nat,i=↑k∧k<=L.length∧gI.Row w' (aL+1) (.slice ↑aH L.length cap) L∧av w' aL 139 #[↑id,↑side,↑ap,↑aq,.bool (mS (L.take k) side ap)]∧Below ↑w w w') (fun i _=>L.length-(RowKit.intOf i).toNat)
 case atStart=>exact⟨0,rfl,Nat.zero_le _,rG.o,Kp.o,aQ.o⟩
 clear rG Kp aQ;obtain⟨k,rfl,hk,hr,hx,hb⟩:=hrel;obtain⟨O,rfl⟩:=aj wr;have fM:=af hr;have n:=af hx;have bN:=af hb;clear hr hx hb;by_cases hlt:k<L.length
 ·as_aux_lemma=>
  have hlt':(k:Int)<(L.length:Int):=bh;obtain⟨o,ho⟩:=GB L k hlt;obtain⟨g,off,he,_,hc⟩:=fM.o.rd_some k o ho;injection he with he;injection he with eb iU;subst eb iU;have z6:=af (ahv (side:=side) (ap:=ap) ho);obtain⟨f0,f1,f2,f3,f4⟩:=o;have c1:O.cell? ↑(aH,k*5+1)=↑f1:=by have:=hc 1 _ rfl;rw [Nat.zero_add]at this;exact this
  have c2:O.cell? ↑(aH,k*5+2)=↑f2:=by have:=hc 2 _ rfl;rw [Nat.zero_add]at this;exact this
  clear hc ho;by_cases hs:f1=side
  ·subst hs;obtain⟨bb,B⟩:=ai (cT f1 ap f2);have g7:=Gx f1 ap f2 O;rw [B]at g7;have bp:=af B;clear B;go_wp2_with fail;refine g7.mono ?_;rintro e J ⟨rfl,rfl⟩;clear g7 c1 c2;cases bb with
   |true=>
    have nc:Ei (mS (L.take (k+1)) f1 ap=mS (L.take k) f1 ap):=af (by rw [z6.o];simp [bp.o]);go_wp2_with fail;go_roundw
    case rel=>exact⟨k+1,dR,bh,fM.o,by rw [nc.o];exact n.o,bN.o⟩
    exact Ej
   |false=>
    have nc:Ei (mS (L.take (k+1)) f1 ap=false):=af (by rw [z6.o];simp [bp.o]);have z4:=n.o.Jg;have fz:∀o,O.frozen? ⟨aL,o,none⟩=false:=fun o=>n.o.frozen o;have E5:Ei (av (O.setCell ↑(aL,4) (.bool false)) aL 139 #[↑id,↑f1,↑ap,↑aq,.bool false]):=af (n.o.aW 4 _);have z:Ei (gI.Row (O.setCell ↑(aL,4) (.bool false)) (aL+1) (.slice ↑aH L.length cap) L):=af (Hr fM.o (fun hy=>by have h0:some aH=some aL:=hy;injection h0 with h0;have:=By.o;omega) _);have bY:=af (bN.o.setCell (p:=⟨aL,4,none⟩) (by rw [fy.o];exact Nat.le_refl _) (.bool false));go_wp2_with fail;clear z4 fz;go_roundw
    case rel=>exact⟨k+1,dR,bh,z.o,by rw [nc.o];exact E5.o,bY.o⟩
    exact Ej
  have hsb:(f1==side)=false:=by rw [beq_eq_false_iff_ne];exact hs
  have nc:Ei (mS (L.take (k+1)) side ap=mS (L.take k) side ap):=af (by rw [z6.o];simp [hs]);go_wp2_with fail;go_roundw
  case rel=>exact⟨k+1,dR,bh,fM.o,by rw [nc.o];exact n.o,bN.o⟩
  exact Ej
 obtain rfl:k=L.length:=bh;have hx:=n.o;rw [List.take_length]at hx;replace n:=af hx;clear hx hk;obtain⟨T,hT⟩:=ai (mS L side ap);rw [hT]at n;have Hs:=af hT;clear hT;go_wp2_with fail
 as_aux_lemma=>
 go_loopw [13] (fun i w'=>∃k:Nat,i=↑k∧k<=L.length∧nU L side ap=k+((L.drop k).takeWhile (mD side ap)).length∧O=w') (fun i _=>L.length-(RowKit.intOf i).toNat)
 case atStart=>exact⟨0,rfl,Nat.zero_le _,(Nat.zero_add _).symm,rfl⟩
 obtain⟨k,rfl,hk,hp,rfl⟩:=hrel;have dx:=af hp;clear hp;go_upto_region 17 with(fail);go_cut [106] (fun v wx=>∃bb:Bool,v=↑bb∧(bb=true->k<L.length∧nU L side ap=(k+1)+((L.drop (k+1)).takeWhile (mD side ap)).length)∧(bb=false->nU L side ap=k)∧O=wx)
 case first=>
  as_aux_lemma=>
  by_cases hlt:k<L.length
  ·have hlt':(k:Int)<(L.length:Int):=by omega
   obtain⟨o,ho⟩:=GB L k hlt;have e6:=af (aht ho dx.o);obtain⟨g,off,he,_,hc⟩:=fM.o.rd_some k o ho;injection he with he;injection he with eb iU;subst eb iU;obtain⟨f0,f1,f2,f3,f4⟩:=o;have c1:O.cell? ↑(aH,k*5+1)=↑f1:=by have:=hc 1 _ rfl;rw [Nat.zero_add]at this;exact this
   have c2:O.cell? ↑(aH,k*5+2)=↑f2:=by have:=hc 2 _ rfl;rw [Nat.zero_add]at this;exact this
   clear hc ho;rcases Int.lt_trichotomy f1 side with h1|h1|h1
   ·have cO:Ei (mD side ap ⟨f0,f1,f2,f3,f4⟩=true):=af (by unfold mD;simp [h1]);go_wp2_with fail;go_meet;exact⟨true,rfl,fun _=>⟨hlt,e6.o.1 cO.o⟩,fun h=>(by cases h),rfl⟩
   ·subst h1;obtain⟨bb,B⟩:=ai (cT f1 ap f2);have cO:Ei (mD f1 ap ⟨f0,f1,f2,f3,f4⟩= !bb):=af (by unfold mD;simp [B]);have g7:=Gx f1 ap f2 O;rw [B]at g7;clear B;go_wp2_with fail;refine g7.mono ?_;rintro e J ⟨rfl,rfl⟩;clear g7 c1 c2;cases bb with
    |true=>go_wp2_with fail;go_meet;exact⟨false,rfl,fun h=>(by cases h),fun _=>e6.o.2 cO.o,rfl⟩
    |false=>go_wp2_with fail;go_meet;exact⟨true,rfl,fun _=>⟨hlt,e6.o.1 cO.o⟩,fun h=>(by cases h),rfl⟩
   have h2:¬f1<side:=bh;have h3:(f1==side)=false:=by rw [beq_eq_false_iff_ne];omega
   have cO:Ei (mD side ap ⟨f0,f1,f2,f3,f4⟩=false):=af (by unfold mD;rw [decide_eq_false h2,decide_eq_false (show¬f1=side by omega)];rfl);go_wp2_with fail;go_meet;exact⟨false,rfl,fun h=>(by cases h),fun _=>e6.o.2 cO.o,rfl⟩
  go_wp2_with fail;go_meet;exact⟨false,rfl,fun h=>(by cases h),fun _=>ahu bh dx.o,rfl⟩
 case rest=>
 obtain⟨bb,rfl,hb1,hb2,rfl⟩:=hcut;cases bb with
 |true=>
  obtain⟨hlt,Rx⟩:=hb1 rfl;have ahG:=af Rx;clear hb1 hb2 Rx;go_wp2_with fail;go_roundw
  case rel=>exact⟨k+1,dR,bh,ahG.o,cF⟩
  exact Ej
 |false=>
  have Ht:=af (hb2 rfl);clear hb1 hb2 dx;go_wp2_with fail
  as_aux_lemma=>
  go_loopw [15] (fun i w'=>∃i':Nat,i=↑i'∧i'<=L.length∧(T=false->i'=0)∧gI.Row w' (aL+1) (.slice ↑aH L.length cap) (uQ L side i')∧av w' aL 139 #[↑id,↑side,↑ap,↑aq,↑T]∧Below ↑w w w') (fun i _=>L.length-(RowKit.intOf i).toNat)
  case atStart=>exact⟨0,rfl,Nat.zero_le _,fun _=>rfl,fM.o,n.o,bN.o⟩
  clear fM n bN;obtain⟨i,rfl,hi,ko,hr,hx,hb⟩:=hrel;obtain⟨J,rfl⟩:=aj wr;have z:=af hr;have E5:=af hx;have bY:=af hb;have uk:=af ko;have z4:=hx.Jg;clear hr hx hb ko;go_upto_region 20 with(fail);go_cut [116] (fun v wx=>∃bb:Bool,v=↑bb∧(bb=true->i<L.length∧T=true)∧(bb=false->¬(i<L.length∧T=true))∧J=wx)
  case first=>
   by_cases hlt:i<L.length
   ·have hlt':(i:Int)<(L.length:Int):=by omega
    go_wp2_with fail;go_meet;exact⟨T,rfl,fun h=>⟨hlt,h⟩,fun h h2=>(by rw [h2.2]at h;cases h),rfl⟩
   go_wp2_with fail;go_meet;exact⟨false,rfl,fun h=>(by cases h),fun _ h2=>hlt h2.1,rfl⟩
  case rest=>
  obtain⟨bb,rfl,hb1,hb2,rfl⟩:=hcut;cases bb with
  |true=>
   obtain⟨hlt,Hu⟩:=hb1 rfl;have wE:=af Hu;clear hb1 hb2 Hu z4;have hlt':(i:Int)<(L.length:Int):=bh;obtain⟨o,ho⟩:=GB L i hlt;have Yx:=af (Yu (side:=side) ho);have Mq:=af (Yv (side:=side) ho);have ahH:=af (ahy (side:=side) ho);obtain⟨g,off,he,_,hc⟩:=z.o.rd_some i o Yx.o;injection he with he;injection he with eb iU;subst eb iU;obtain⟨f0,f1,f2,f3,f4⟩:=o;have c1:J.cell? ↑(aH,i*5+1)=↑f1:=by have:=hc 1 _ rfl;rw [Nat.zero_add]at this;exact this
   have dH:J.cell? ↑(aH,i*5+4)=↑f4:=by have:=hc 4 _ rfl;rw [Nat.zero_add]at this;exact this
   clear hc ho;by_cases hs:f1=side
   ·subst hs;obtain⟨Yy,oD,_,kf,_,hgt⟩:=z.o.Gv (by simp [Value.ownBlock]);injection kf with kf;injection kf with kf;injection kf with kf;subst kf;have fz:∀o,J.frozen? ⟨aH,o,none⟩=false:=fun o=>av.frozen hgt o;have cL:Ei (gI.Row (J.setCell ↑(aH,i*5+4) (.bool false)) (aL+1) (.slice ↑aH L.length cap) (uQ L f1 (i+1))):=af (by
     rw [Mq.o,show mg f1 ⟨f0,f1,f2,f3,f4⟩=⟨f0,f1,f2,f3,false⟩from if_pos rfl];exact bl.Row.aW z.o (e':=(⟨f0,f1,f2,f3,false⟩:aC)) (k:=4) (u:= .bool false) Yx.o b9 rfl)
    have Ry:=af (E5.o.keeps ((aK.refl (fun k=>k=aH) J).setCell (p:=⟨aH,i*5+4,none⟩) (fun _=>rfl) (.bool false)) (fun h=>by have:=By.o;omega));have b7:=af (bY.o.setCell (p:=⟨aH,i*5+4,none⟩) (show w.heap.size<=aH by have:=By.o;have:=fy.o;omega) (.bool false));clear hgt;go_wp2_with fail;clear c1 dH fz;go_roundw
    case rel=>exact⟨i+1,dR,bh,fun h=>(by rw [wE.o]at h;cases h),cL.o,Ry.o,b7.o⟩
    exact Ej
   have hsb:(f1==side)=false:=by rw [beq_eq_false_iff_ne];exact hs
   go_wp2_with fail;go_roundw
   case rel=>exact⟨i+1,dR,bh,fun h=>(by rw [wE.o]at h;cases h),by rw [ahH.o hs];exact z.o,E5.o,bY.o⟩
   exact Ej
  |false=>
   have nj:Ei (uQ L side i=if mS L side ap=true then L.map (mg side)else L):=af (by
    rw [Hs.o];have h2:=hb2 rfl;cases hT:T with
    |true=>
     have hi2:i=L.length:=by have:¬i<L.length:=fun h=>h2 ⟨h,hT⟩;omega
     rw [if_pos rfl,hi2];unfold uQ;rw [List.take_length,List.drop_length,List.append_nil]
    |false=>rw [if_neg cU,uk.o hT];rfl)
   have qE:=af (ahx L side i);generalize uQ L side i=A at*;clear hb1 hb2 z4 uk;have ec:=af E5.o;obtain⟨z0,fw,z2,z3,z4⟩:=ec.o.gP;have hkc:k<=cap:=by
    rcases z.o.2 with⟨hv,_⟩|⟨cI,AY,Mt,hv,_,_,hh,_⟩
    ·injection hv with hv;cases hv
    injection hv with _ _ hv;rw [hv];have:=qE.o;omega
   have hkn:(k:Int)<=(L.length:Int):=bh;have iQ:(0:Int)<=(k:Int):=bh;obtain⟨off2,hoff⟩:=aj (if cap=k then 0 else k*5);have Vm:(if cap=k then(some ⟨aH,0,none⟩:Option Addr)else some ⟨aH,k*5,none⟩)=some ⟨aH,off2,none⟩:=by rw [hoff];split<;>rfl
   have Cy:=af hoff;have ahI:Ei (L.length<=cap):=af (by
    rcases z.o.2 with⟨hv,_⟩|⟨cI,AY,Mt,hv,_,_,hh,_⟩
    ·injection hv with hv;cases hv
    injection hv with _ _ hv;rw [hv];have:=qE.o;omega)
   clear hoff;go_upto_region 24 with(fail);refine cP (S:=fun w'=>w'.cell? ↑aL=↑id∧w'.cell? ⟨aL,1,none⟩=↑side∧w'.cell? ⟨aL,2,none⟩=↑ap∧w'.cell? ⟨aL,3,none⟩=↑aq∧w'.cell? ⟨aL,4,none⟩=↑T) ⟨z0,fw,z2,z3,z4⟩ fun hHeld=>?_;have NI:=af (Below.bO J 1);have gZ:Ei (gI.Row J.drew (aL+1) (.slice ↑aH L.length cap) A):=af (z.o.below NI.o);have Bs:Ei (av J.drew aL 139 #[↑id,↑side,↑ap,↑aq,↑T]):=af (E5.o.below NI.o);have t:Ei (Below ↑w w J.drew):=ah bY NI;clear NI z E5 bY ec z0 fw z2 z3 z4;generalize J.drew=wd at*;have G:Ei (∀w',Below ↑wd wd w'->w'.cell? ↑aL=↑id∧w'.cell? ↑(aL,1)=↑side∧w'.cell? ↑(aL,2)=↑ap∧w'.cell? ↑(aL,3)=↑aq∧w'.cell? ↑(aL,4)=↑T):=af fun w' hb=>⟨(Bs.o.below hb).cell 0,(Bs.o.below hb).cell 1,(Bs.o.below hb).cell 2,(Bs.o.below hb).cell 3,(Bs.o.below hb).cell 4⟩;have NJ:Ei (av wd pw 181 #[.slice a L.length c]):=af (g6.o.below t.o);have Rz:Ei (pw<wd.heap.size):=af NJ.o.lt;have dN:Ei ((A.take k).length=k):=af (by rw [List.length_take,qE.o];omega);have Gz:Ei ((A.take k++ [(⟨id,side,ap,aq,T⟩:aC)]).length=k+1):=af (by rw [List.length_append,dN.o];rfl);have xb:Ei ((A.drop k).length=L.length-k):=af (by rw [List.length_drop,qE.o]);have jR:Ei ((A.take k++ [(⟨id,side,ap,aq,T⟩:aC)]++A.drop k).length=L.length+1):=af (by rw [List.length_append,Gz.o,xb.o];omega);have D9:Ei (∀w1,Below ↑wd wd w1->gI.fR w1 (some ⟨aH,off2,none⟩) (A.drop k)):=af (by
    intro w1 PO;rw [Cy.o];by_cases hcap:cap=k
    ·rw [if_pos hcap];have h0:A.drop k= []:=List.eq_nil_of_length_eq_zero (by rw [xb.o];have:=ahI.o;omega);rw [h0];exact bl.fR.nil
    rw [if_neg hcap];intro j e hj;rw [List.getElem?_drop]at hj;obtain⟨b,off,h1,h2,h3⟩:=(gZ.o.rd_some.below PO) (k+j) e hj;injection h1 with h1;injection h1 with h1 h4;subst h1 h4;refine⟨aH,k*5,rfl,h2,?_⟩;rw [show k*5+j*gI.m=0+(k+j)*gI.m by rw [Nat.add_mul,Nat.zero_add];rfl];exact h3)
   have oJ:Ei (Below ↑wd wd wd):=af (Below.refl _ _);refine eX [0,2,3,4,6,9,10,11] ?_;refine lZ 1 7 (fun K hK=>?_) fun K hK=>?_
   ·as_aux_lemma=>
    go_simp;have hba:=Below.aI wd (.cells #[] 139);have B:=oJ.o.trans (hba.mono oJ.o.size);refine hK.out _ _ (G.o _ B) (fun hHeld=>?_);clear hK K;have pp:gI.Row (wd.alloc (.cells #[] 139)) ↑wd (.slice ↑wd.heap.size 0 0) []:=bl.Row.empty wd;have C:(wd.alloc (.cells #[] 139)).heap.size=wd.heap.size+1:=cU;obtain⟨ge,hge⟩:=ai wd.heap.size;have bL:Ei (wd.heap.size=ge):=af hge;rw [hge]at pp C⊢;clear hge;generalize wd.alloc (.cells #[] 139)=x at*;have M:=af pp;have qa:=af B;have I8:=af C;clear hba B pp C;replace M:=af (M.o.base (show wd.heap.size<=ge by have h1:=bL.o;omega));refine lZ 5 7 (fun K hK=>?_) fun K hK=>?_
    ·as_aux_lemma=>
     refine gI.s9 dn (.tmp 131) (.tmp 134) dn wd.heap.size ge 0 0 k [] rfl dn M.o aH 0 cap (A.take k) dN.o dn ((gZ.o.rd_some.below qa.o).take k) k bh bh qa.o.size ?_;intro g1 m6 wf P X Y;try rw [List.nil_append]at P
     have U:=iJ X qa.o (cS M.o);have s:=af P;have td:=af U;have yb:=af (fK X);refine hK.out _ _ (G.o _ U) (fun hHeld=>?_);clear hK K P U X Y;try simp only [Act.put,QJ,QK,QL]
     refine aU 7 fun K hK=>?_;refine Rv dn 136 dn dn ?_;have hba:=Below.aI wf (.cells #[↑id,↑side,↑ap,↑aq,↑T] 139);have B:=td.o.trans (hba.mono td.o.size);refine hK.out _ _ (G.o _ B) (fun hHeld=>?_);clear hK K;try simp only [Act.put,QJ,QK,QL]
     have Q:av (wf.alloc (.cells #[↑id,↑side,↑ap,↑aq,↑T] 139)) ↑wf 139 #[↑id,↑side,↑ap,↑aq,↑T]:=av.new _ _ _;have C:(wf.alloc (.cells #[↑id,↑side,↑ap,↑aq,↑T] 139)).heap.size=wf.heap.size+1:=cU;obtain⟨gn,V⟩:=ai wf.heap.size;have oo:Ei (wf.heap.size=gn):=af V;rw [V]at Q C⊢;clear V;have Cz:=s.o.below hba;generalize wf.alloc (.cells #[↑id,↑side,↑ap,↑aq,↑T] 139)=wc at*;have HN:=af Q;have f:=af B;have Ea:=af C;clear hba B Q C;replace s:=af Cz;clear Cz;refine aU 8 fun K hK=>?_;refine gI.s9 dn (.tmp 135) (.tmp 137) dn wd.heap.size g1 m6 k 1 (A.take k) dN.o dn s.o gn 0 1 [(⟨id,side,ap,aq,T⟩:aC)] rfl dn (iI.rd HN.o.lt (av.gH HN.o)) (k+1) rfl bh f.o.size ?_;intro g2 oD wg pu ju th;have Z:=iJ ju f.o (cS s.o);have bU:=af pu;have d:=af Z;refine hK.out _ _ (G.o _ Z) (fun hHeld=>?_);clear hK K pu Z ju th;try simp only [Act.put,QJ,QK,QL]
     refine aU 12 fun K hK=>?_;refine gI.s9 dn (.tmp 138) (.tmp 141) dn wd.heap.size g2 oD (k+1) (L.length-k) (A.take k++ [(⟨id,side,ap,aq,T⟩:aC)]) Gz.o dn bU.o aH off2 (cap-k) (A.drop k) xb.o dn (D9.o _ d.o) (L.length+1) bh bh d.o.size ?_;intro aV D H l yc yd;have I:=iJ yc d.o (cS bU.o);have N:wd.heap.size<=aV:=cS l aV rfl;have Eb:=af l;have zI:=af I;have eA:=af N;have q:=NJ.o.below I;have CZ:=af q;have Kw:=q.GC;have Ky:∀o,H.frozen? ⟨pw,o,none⟩=false:=fun o=>CZ.o.frozen o;refine hK.out _ _ (G.o _ I) (fun hHeld=>?_);clear hK K l I yc yd q N;try simp only [Act.put,QJ,QK,QL]
     refine eX [13,14] ?_;refine dY 15 fun K hK=>?_;go_simp;refine hK.out _ _ ?_;clear hK K hHeld Kw Ky;have hrb:g4 W (H.setCell ↑pw (.slice ↑aV (L.length+1) D)) pw (A.take k++ [(⟨id,side,ap,aq,T⟩:aC)]++A.drop k):=by
      have C0:W.heap.size<=wd.heap.size:=Nat.le_trans E.o.aJ.size t.o.size;refine⟨⟨some ⟨aV,0,none⟩,D,?_,?_⟩,E.o.base,?_⟩
      ·rw [jR.o];exact CZ.o.aW 0 _
      ·rw [jR.o];have Y:gI.Row (H.setCell ↑pw (.slice ↑aV (L.length+1) D)) ↑wd (.slice ↑aV (L.length+1) D) (A.take k++ [(⟨id,side,ap,aq,T⟩:aC)]++A.drop k):=Hr Eb.o (p:=⟨pw,0,none⟩) (fun hy=>by have h0:some aV=some pw:=hy;injection h0 with h0;have h1:=Rz.o;have h2:=eA.o;omega) _;exact Y.base C0
      exact((E.o.aJ.trans (t.o.mono E.o.aJ.size)).trans (zI.o.mono C0)).setCell (p:=⟨pw,0,none⟩) E.o.base _
     have hkp:aK (fun g=>g=pw) w (H.setCell ↑pw (.slice ↑aV (L.length+1) D)):=
      (Below.keeps (F:=fun g=>g=pw) (ah t zI).o).setCell (p:=⟨pw,0,none⟩) (fun _=>rfl) _
     have uJ:=af hrb;have yL:=af hkp;clear hrb hkp;go_wp2_with fail;go_ret;exact⟨cF,by rw [nW.o,<-nj.o,Ht.o,Hs.o];exact uJ.o,yL.o⟩
    as_aux_lemma=>
    refine Rv dn 136 dn dn ?_;have hba:=Below.aI x (.cells #[↑id,↑side,↑ap,↑aq,↑T] 139);have B:=qa.o.trans (hba.mono qa.o.size);refine hK.out _ _ (G.o _ B) (fun hHeld=>?_);clear hK K;try simp only [Act.put,QJ,QK,QL]
    have Q:av (x.alloc (.cells #[↑id,↑side,↑ap,↑aq,↑T] 139)) ↑x 139 #[↑id,↑side,↑ap,↑aq,↑T]:=av.new _ _ _;have C:(x.alloc (.cells #[↑id,↑side,↑ap,↑aq,↑T] 139)).heap.size=x.heap.size+1:=cU;obtain⟨gn,V⟩:=ai x.heap.size;have oo:Ei (x.heap.size=gn):=af V;rw [V]at Q C⊢;clear V;have I9:=M.o.below hba;generalize x.alloc (.cells #[↑id,↑side,↑ap,↑aq,↑T] 139)=wc at*;have HN:=af Q;have f:=af B;have Ea:=af C;clear hba B Q C;replace M:=af I9;clear I9;refine aU 5 fun K hK=>?_;refine gI.s9 dn (.tmp 131) (.tmp 134) dn wd.heap.size ge 0 0 k [] rfl dn M.o aH 0 cap (A.take k) dN.o dn ((gZ.o.rd_some.below f.o).take k) k bh bh f.o.size ?_;intro g1 m6 wf P X Y;try rw [List.nil_append]at P
    have U:=iJ X f.o (cS M.o);have s:=af P;have td:=af U;have yb:=af (fK X);refine hK.out _ _ (G.o _ U) (fun hHeld=>?_);clear hK K P U X Y;try simp only [Act.put,QJ,QK,QL]
    have nM:=HN.o.keeps yb.o (fun hy=>by have h0:some ge=some gn:=hy;injection h0 with h0;have h1:=bL.o;have h2:=I8.o;have h3:=oo.o;omega);replace HN:=af nM;clear nM;refine aU 8 fun K hK=>?_;refine gI.s9 dn (.tmp 135) (.tmp 137) dn wd.heap.size g1 m6 k 1 (A.take k) dN.o dn s.o gn 0 1 [(⟨id,side,ap,aq,T⟩:aC)] rfl dn (iI.rd HN.o.lt (av.gH HN.o)) (k+1) rfl bh td.o.size ?_;intro g2 oD wg pu ju th;have Z:=iJ ju td.o (cS s.o);have bU:=af pu;have d:=af Z;refine hK.out _ _ (G.o _ Z) (fun hHeld=>?_);clear hK K pu Z ju th;try simp only [Act.put,QJ,QK,QL]
    refine aU 12 fun K hK=>?_;refine gI.s9 dn (.tmp 138) (.tmp 141) dn wd.heap.size g2 oD (k+1) (L.length-k) (A.take k++ [(⟨id,side,ap,aq,T⟩:aC)]) Gz.o dn bU.o aH off2 (cap-k) (A.drop k) xb.o dn (D9.o _ d.o) (L.length+1) bh bh d.o.size ?_;intro aV D H l yc yd;have I:=iJ yc d.o (cS bU.o);have N:wd.heap.size<=aV:=cS l aV rfl;have Eb:=af l;have zI:=af I;have eA:=af N;have q:=NJ.o.below I;have CZ:=af q;have Kw:=q.GC;have Ky:∀o,H.frozen? ⟨pw,o,none⟩=false:=fun o=>CZ.o.frozen o;refine hK.out _ _ (G.o _ I) (fun hHeld=>?_);clear hK K l I yc yd q N;try simp only [Act.put,QJ,QK,QL]
    refine eX [13,14] ?_;refine dY 15 fun K hK=>?_;go_simp;refine hK.out _ _ ?_;clear hK K hHeld Kw Ky;have hrb:g4 W (H.setCell ↑pw (.slice ↑aV (L.length+1) D)) pw (A.take k++ [(⟨id,side,ap,aq,T⟩:aC)]++A.drop k):=by
     have C0:W.heap.size<=wd.heap.size:=Nat.le_trans E.o.aJ.size t.o.size;refine⟨⟨some ⟨aV,0,none⟩,D,?_,?_⟩,E.o.base,?_⟩
     ·rw [jR.o];exact CZ.o.aW 0 _
     ·rw [jR.o];have Y:gI.Row (H.setCell ↑pw (.slice ↑aV (L.length+1) D)) ↑wd (.slice ↑aV (L.length+1) D) (A.take k++ [(⟨id,side,ap,aq,T⟩:aC)]++A.drop k):=Hr Eb.o (p:=⟨pw,0,none⟩) (fun hy=>by have h0:some aV=some pw:=hy;injection h0 with h0;have h1:=Rz.o;have h2:=eA.o;omega) _;exact Y.base C0
     exact((E.o.aJ.trans (t.o.mono E.o.aJ.size)).trans (zI.o.mono C0)).setCell (p:=⟨pw,0,none⟩) E.o.base _
    have hkp:aK (fun g=>g=pw) w (H.setCell ↑pw (.slice ↑aV (L.length+1) D)):=
     (Below.keeps (F:=fun g=>g=pw) (ah t zI).o).setCell (p:=⟨pw,0,none⟩) (fun _=>rfl) _
    have uJ:=af hrb;have yL:=af hkp;clear hrb hkp;go_wp2_with fail;go_ret;exact⟨cF,by rw [nW.o,<-nj.o,Ht.o,Hs.o];exact uJ.o,yL.o⟩
   as_aux_lemma=>
   refine Rv dn 136 dn dn ?_;have hba:=Below.aI wd (.cells #[↑id,↑side,↑ap,↑aq,↑T] 139);have B:=oJ.o.trans (hba.mono oJ.o.size);refine hK.out _ _ (G.o _ B) (fun hHeld=>?_);clear hK K;try simp only [Act.put,QJ,QK,QL]
   have Q:av (wd.alloc (.cells #[↑id,↑side,↑ap,↑aq,↑T] 139)) ↑wd 139 #[↑id,↑side,↑ap,↑aq,↑T]:=av.new _ _ _;have C:(wd.alloc (.cells #[↑id,↑side,↑ap,↑aq,↑T] 139)).heap.size=wd.heap.size+1:=cU;obtain⟨gn,V⟩:=ai wd.heap.size;have oo:Ei (wd.heap.size=gn):=af V;rw [V]at Q C⊢;clear V;generalize wd.alloc (.cells #[↑id,↑side,↑ap,↑aq,↑T] 139)=wc at*;have HN:=af Q;have f:=af B;have Ea:=af C;clear hba B Q C;refine aU 1 fun K hK=>?_;go_simp;have hba:=Below.aI wc (.cells #[] 139);have B:=f.o.trans (hba.mono f.o.size);refine hK.out _ _ (G.o _ B) (fun hHeld=>?_);clear hK K;have pp:gI.Row (wc.alloc (.cells #[] 139)) ↑wc (.slice ↑wc.heap.size 0 0) []:=bl.Row.empty wc;have C:(wc.alloc (.cells #[] 139)).heap.size=wc.heap.size+1:=cU;obtain⟨ge,hge⟩:=ai wc.heap.size;have bL:Ei (wc.heap.size=ge):=af hge;rw [hge]at pp C⊢;clear hge;have lD:=HN.o.below hba;generalize wc.alloc (.cells #[] 139)=x at*;have M:=af pp;have qa:=af B;have I8:=af C;clear hba B pp C;replace HN:=af lD;clear lD;replace M:=af (M.o.base (show wd.heap.size<=ge by have h1:=bL.o;have h2:=f.o.size;omega));refine aU 5 fun K hK=>?_;refine gI.s9 dn (.tmp 131) (.tmp 134) dn wd.heap.size ge 0 0 k [] rfl dn M.o aH 0 cap (A.take k) dN.o dn ((gZ.o.rd_some.below qa.o).take k) k bh bh qa.o.size ?_;intro g1 m6 wf P X Y;try rw [List.nil_append]at P
   have U:=iJ X qa.o (cS M.o);have s:=af P;have td:=af U;have yb:=af (fK X);refine hK.out _ _ (G.o _ U) (fun hHeld=>?_);clear hK K P U X Y;try simp only [Act.put,QJ,QK,QL]
   have nM:=HN.o.keeps yb.o (fun hy=>by have h0:some ge=some gn:=hy;injection h0 with h0;have h1:=bL.o;have h2:=Ea.o;have h3:=oo.o;omega);replace HN:=af nM;clear nM;refine aU 8 fun K hK=>?_;refine gI.s9 dn (.tmp 135) (.tmp 137) dn wd.heap.size g1 m6 k 1 (A.take k) dN.o dn s.o gn 0 1 [(⟨id,side,ap,aq,T⟩:aC)] rfl dn (iI.rd HN.o.lt (av.gH HN.o)) (k+1) rfl bh td.o.size ?_;intro g2 oD wg pu ju th;have Z:=iJ ju td.o (cS s.o);have bU:=af pu;have d:=af Z;refine hK.out _ _ (G.o _ Z) (fun hHeld=>?_);clear hK K pu Z ju th;try simp only [Act.put,QJ,QK,QL]
   refine aU 12 fun K hK=>?_;refine gI.s9 dn (.tmp 138) (.tmp 141) dn wd.heap.size g2 oD (k+1) (L.length-k) (A.take k++ [(⟨id,side,ap,aq,T⟩:aC)]) Gz.o dn bU.o aH off2 (cap-k) (A.drop k) xb.o dn (D9.o _ d.o) (L.length+1) bh bh d.o.size ?_;intro aV D H l yc yd;have I:=iJ yc d.o (cS bU.o);have N:wd.heap.size<=aV:=cS l aV rfl;have Eb:=af l;have zI:=af I;have eA:=af N;have q:=NJ.o.below I;have CZ:=af q;have Kw:=q.GC;have Ky:∀o,H.frozen? ⟨pw,o,none⟩=false:=fun o=>CZ.o.frozen o;refine hK.out _ _ (G.o _ I) (fun hHeld=>?_);clear hK K l I yc yd q N;try simp only [Act.put,QJ,QK,QL]
   refine eX [13,14] ?_;refine dY 15 fun K hK=>?_;go_simp;refine hK.out _ _ ?_;clear hK K hHeld Kw Ky;have hrb:g4 W (H.setCell ↑pw (.slice ↑aV (L.length+1) D)) pw (A.take k++ [(⟨id,side,ap,aq,T⟩:aC)]++A.drop k):=by
    have C0:W.heap.size<=wd.heap.size:=Nat.le_trans E.o.aJ.size t.o.size;refine⟨⟨some ⟨aV,0,none⟩,D,?_,?_⟩,E.o.base,?_⟩
    ·rw [jR.o];exact CZ.o.aW 0 _
    ·rw [jR.o];have Y:gI.Row (H.setCell ↑pw (.slice ↑aV (L.length+1) D)) ↑wd (.slice ↑aV (L.length+1) D) (A.take k++ [(⟨id,side,ap,aq,T⟩:aC)]++A.drop k):=Hr Eb.o (p:=⟨pw,0,none⟩) (fun hy=>by have h0:some aV=some pw:=hy;injection h0 with h0;have h1:=Rz.o;have h2:=eA.o;omega) _;exact Y.base C0
    exact((E.o.aJ.trans (t.o.mono E.o.aJ.size)).trans (zI.o.mono C0)).setCell (p:=⟨pw,0,none⟩) E.o.base _
   have hkp:aK (fun g=>g=pw) w (H.setCell ↑pw (.slice ↑aV (L.length+1) D)):=
    (Below.keeps (F:=fun g=>g=pw) (ah t zI).o).setCell (p:=⟨pw,0,none⟩) (fun _=>rfl) _
   have uJ:=af hrb;have yL:=af hkp;clear hrb hkp;go_wp2_with fail;go_ret;exact⟨cF,by rw [nW.o,<-nj.o,Ht.o,Hs.o];exact uJ.o,yL.o⟩
end
end Go.Proofs.YtmaijkoopjocdaaGreat
