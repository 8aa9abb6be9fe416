import Derived.Test.YtmaijkoopjocdaaGreatKT22
set_option maxRecDepth 100000
set_option maxHeartbeats 64000000
namespace Go.Proofs.YtmaijkoopjocdaaGreat
open Go.RowKit
theorem aeN {L:List ay} {k:Nat} {o:ay} {side ag:Int} (ho:L[k]? =some o) (h:m5 L side ag=k+((L.drop k).takeWhile (lM side ag)).length):
 (lM side ag o=true→m5 L side ag=(k+1)+((L.drop (k+1)).takeWhile (lM side ag)).length)∧(lM side ag o=false→m5 L side ag=k):=by
 obtain⟨h1,h2⟩:=lq ho;rw [List.drop_eq_getElem_cons h1,h2]at h;refine⟨fun ha=>?_,fun ha=>?_⟩
 ·rw [List.takeWhile_cons_of_pos ha,List.length_cons]at h
  omega
 ·rw [List.takeWhile_cons_of_neg (by rw [ha];simp)]at h
  exact h
theorem aeO {L:List ay} {k:Nat} {side ag:Int} (hk:L.length≤k) (h:m5 L side ag=k+((L.drop k).takeWhile (lM side ag)).length):m5 L side ag=k:=by
 rw [List.drop_of_length_le hk]at h;exact h
theorem aeP {L:List ay} {k:Nat} {o:ay} {side ag:Int} (ho:L[k]? =some o):lV (L.take (k+1)) side ag=(lV (L.take k) side ag&& !(decide (o.side=side)&& !cV side ag o.ag)):=by
 unfold lV;rw [lp ho,List.all_append];simp
theorem aeQ {α:Type} {l:List α} {i:Nat} {x:α} (h:l[i]? =some x):l.set i x=l:=by
 obtain⟨h1,h2⟩:=lq h;rw [←h2];exact List.set_getElem_self h1
def sY (L:List ay) (side:Int) (i:Nat):List ay:=(L.take i).map (lf side)++L.drop i
theorem aeR (L:List ay) (side:Int) (i:Nat):(sY L side i).length=L.length:=by
 unfold sY;rw [List.length_append,List.length_map,←List.length_append,List.take_append_drop]
theorem WC {L:List ay} {side:Int} {i:Nat} {o:ay} (ho:L[i]? =some o):(sY L side i)[i]? =some o:=by
 have hi:=dc ho;unfold sY;rw [List.getElem?_append_right (by rw [List.length_map,List.length_take];omega),List.length_map,List.length_take,Nat.min_eq_left (by omega),Nat.sub_self,List.getElem?_drop,Nat.add_zero,ho]
theorem WD {L:List ay} {side:Int} {i:Nat} {o:ay} (ho:L[i]? =some o):sY L side (i+1)=(sY L side i).set i (lf side o):=by
 obtain⟨h1,h2⟩:=lq ho;unfold sY;rw [lp ho,List.map_append,List.set_append_right _ _ (by rw [List.length_map,List.length_take];omega),List.length_map,List.length_take,Nat.min_eq_left (by omega),Nat.sub_self,List.append_assoc,List.drop_eq_getElem_cons h1,h2];rfl
theorem aeS {L:List ay} {side:Int} {i:Nat} {o:ay} (ho:L[i]? =some o) (hs:¬o.side=side):sY L side (i+1)=sY L side i:=by
 rw [WD ho,show lf side o=o from if_neg hs];exact aeQ (WC ho)
theorem P7 {w:World} {ops:Array Oper} {o:Oper} {a:Act} {K:Act→World→Prop} {Q:Exit→Act→World→Prop} {E:Prop} {f0 f1 f2 f3:Int} {f4:Bool} (hgd:o.guard=none) (t:Nat)
 (ho:o.op= .buildSlice 179 1 #[(0,.tmp t)]) (hx:a.tmps[t]?.getD undef= .agg #[.int .i64 f0,.int .i64 f1,.int .i64 f2,.int .i64 f3,.bool f4])
 (h:K (a.put o.dst (.slice (some ⟨w.heap.size,0,none⟩) 1 1)) (w.alloc (.cells #[.int .i64 f0,.int .i64 f1,.int .i64 f2,.int .i64 f3,.bool f4] 139))):
 if Region.wanted o (yielded ops a.tmps)=true then Oper.wp Tryz.prog o a w K Q else E:=by
 have hw:Region.wanted o (yielded ops a.tmps)=true:=by simp [Region.wanted,hgd]
 rw [if_pos hw];unfold Oper.wp execOp;simp only [ho];go_simp;exact h
section
variable {W w w':World} {pw:Nat} {L:List ay}
theorem aeT {L:List ay} {id side ag ah:Int} (h:yp side=false):lW L id side ag ah=(L,21):=by unfold lW;rw [if_pos h]
theorem aeU {L:List ay} {id side ag ah:Int} (h:yp side=true) (hq:ah<1∨1000000<ah):lW L id side ag ah=(L,24):=by unfold lW;rw [h,if_neg (by simp),if_pos hq]
theorem aeV (w:World) (pw:Nat) (id side ag ah:Int) (hb:yp side=false):
 Calls Tryz.prog 139 #[.pointer (some ⟨pw,0,none⟩),.int .i64 id,.int .i64 side,.int .i64 ag,.int .i64 ah] w fun e w'=>e= .returned (.int .i64 21)∧w=w':=by
 have h1:(side !=1)=true:=by
  rw [bne_iff_ne];rintro rfl;cases hb
 have h2:(side !=2)=true:=by
  rw [bne_iff_ne];rintro rfl;cases hb
 clear hb;go_enter Tryz.func139,Tryz.ntmps139
 go_wp2_with fail
 go_ret;exact⟨by trivial,by trivial⟩
theorem aeW (w:World) (pw:Nat) (id side ag ah:Int) (hs:side=1∨side=2) (hq:ah<1∨1000000<ah):
 Calls Tryz.prog 139 #[.pointer (some ⟨pw,0,none⟩),.int .i64 id,.int .i64 side,.int .i64 ag,.int .i64 ah] w fun e w'=>e= .returned (.int .i64 24)∧w=w':=by
 have aq:=af hs;clear hs;go_enter Tryz.func139,Tryz.ntmps139
 go_upto_region 1 with(fail)
 go_cut [21] (fun v wx=>v= .bool false∧w=wx)
 case first=>
  rcases aq.out with rfl|rfl
  ·go_wp2_with fail
   go_meet;exact⟨rfl,rfl⟩
  ·go_wp2_with fail
   go_meet;exact⟨rfl,rfl⟩
 case rest=>
 obtain⟨rfl,rfl⟩:=hcut;rcases hq with hq|hq
 ·go_wp2_with fail
  go_ret;exact⟨by trivial,by trivial⟩
 ·have hq1:¬ah<1:=by omega
  go_wp2_with fail
  go_ret;exact⟨by trivial,by trivial⟩
theorem aeX (h:gC W w pw L) (hl:L.length≤250) (id side ag ah:Int) (hs:side=1∨side=2) (hq:1≤ah∧ah≤1000000) (ht:(L.find? (fun o=>o.id==id)).isSome=true):
 Calls Tryz.prog 139 #[.pointer (some ⟨pw,0,none⟩),.int .i64 id,.int .i64 side,.int .i64 ag,.int .i64 ah] w fun e w'=>e= .returned (.int .i64 25)∧w=w':=by
 have aq:=af hs;have bK:=af ht;have hq1:¬ah<1:=by omega
 have hq2:¬1000000<ah:=by omega
 have hfr:=Be h hl id;clear hs ht h hq;go_enter Tryz.func139,Tryz.ntmps139
 go_upto_region 1 with(fail)
 go_cut [21] (fun v wx=>v= .bool false∧w=wx)
 case first=>
  rcases aq.out with rfl|rfl
  ·go_wp2_with fail
   go_meet;exact⟨rfl,rfl⟩
  ·go_wp2_with fail
   go_meet;exact⟨rfl,rfl⟩
 case rest=>
 obtain⟨rfl,rfl⟩:=hcut;go_wp2_with fail
 refine hfr.mono ?_;rintro e w2 ⟨⟨r,rfl,hr⟩,rfl⟩
 obtain⟨k,rfl⟩:∃k:Nat,r=k:=by
  rcases hr with⟨_,h1⟩|⟨k,o',rfl,_⟩
  ·have:=bK.out;rw [h1]at this;cases this
  ·exact⟨k,rfl⟩
 have jR:(0:Int)≤(k:Int):=by omega
 clear hr hfr;go_wp2_with fail
 go_ret;exact⟨by trivial,by trivial⟩
theorem aeY (h:gC W w pw L) (hl:L.length=250) (id side ag ah:Int) (hs:side=1∨side=2) (hq:1≤ah∧ah≤1000000) (ht:(L.find? (fun o=>o.id==id)).isSome=false):
 Calls Tryz.prog 139 #[.pointer (some ⟨pw,0,none⟩),.int .i64 id,.int .i64 side,.int .i64 ag,.int .i64 ah] w fun e w'=>e= .returned (.int .i64 13)∧w=w':=by
 have aq:=af hs;have bK:=af ht;have hq1:¬ah<1:=by omega
 have hq2:¬1000000<ah:=by omega
 have hfr:=Be h (by omega) id;obtain⟨a,c,aP,_⟩:=h.box;rw [hl]at aP;have jD:w.cell? ⟨pw,0,none⟩=some (.slice a 250 c):=aP.cell 0;clear hs ht h hq aP;go_enter Tryz.func139,Tryz.ntmps139
 go_upto_region 1 with(fail)
 go_cut [21] (fun v wx=>v= .bool false∧w=wx)
 case first=>
  rcases aq.out with rfl|rfl
  ·go_wp2_with fail
   go_meet;exact⟨rfl,rfl⟩
  ·go_wp2_with fail
   go_meet;exact⟨rfl,rfl⟩
 case rest=>
 obtain⟨rfl,rfl⟩:=hcut;go_wp2_with fail
 refine hfr.mono ?_;rintro e w2 ⟨⟨r,rfl,hr⟩,rfl⟩
 obtain rfl:r= -1:=by
  rcases hr with⟨h1,_⟩|⟨k,o',_,_,_,h1⟩
  ·exact h1
  ·have:=bK.out;rw [h1]at this;cases this
 clear hr hfr;go_wp2_with fail
 go_ret;exact⟨by trivial,by trivial⟩
theorem aeZ (h:gC W w pw L) (hl:L.length<250) (id side ag ah:Int) (hs:side=1∨side=2) (hq:1≤ah∧ah≤1000000) (ht:(L.find? (fun o=>o.id==id)).isSome=false) (R:List ay) (nX:R=(if lV L side ag=true then L.map (lf side)else L).take (m5 L side ag)++ [⟨id,side,ag,ah,lV L side ag⟩]++(if lV L side ag=true then L.map (lf side)else L).drop (m5 L side ag)):
 Calls Tryz.prog 139 #[.pointer (some ⟨pw,0,none⟩),.int .i64 id,.int .i64 side,.int .i64 ag,.int .i64 ah] w fun e w'=>e= .returned (.int .i64 0)∧gC W w' pw R∧aD (fun g=>g=pw) w w':=by
 have oI:=af nX;clear nX;have aq:=af hs;have bK:=af ht;have dL:=af h;have hq1:¬ah<1:=by omega
 have hq2:¬1000000<ah:=by omega
 have hfr:=Be h (by omega) id;have ai4:¬(250:Int)≤(L.length:Int):=by omega
 obtain⟨a,c,aP,hrw⟩:=h.box;have jD:w.cell? ⟨pw,0,none⟩=some (.slice a L.length c):=aP.cell 0;have lJ:Hid (aj w pw 181 #[.slice a L.length c]):=af aP;have ia:Hid (pw<w.heap.size):=af aP.lt;have iH:=af hrw;clear hs ht h hq aP hrw;go_enter Tryz.func139,Tryz.ntmps139
 go_upto_region 1 with(fail)
 go_cut [21] (fun v wx=>v= .bool false∧w=wx)
 case first=>
  rcases aq.out with rfl|rfl
  ·go_wp2_with fail
   go_meet;exact⟨rfl,rfl⟩
  ·go_wp2_with fail
   go_meet;exact⟨rfl,rfl⟩
 case rest=>
 obtain⟨rfl,rfl⟩:=hcut;go_wp2_with fail
 refine hfr.mono ?_;rintro e w2 ⟨⟨r,rfl,hr⟩,rfl⟩
 obtain rfl:r= -1:=by
  rcases hr with⟨h1,_⟩|⟨k,o',_,_,_,h1⟩
  ·exact h1
  ·have:=bK.out;rw [h1]at this;cases this
 clear hr hfr;go_upto_region 10 with(fail)
 have zG:aj (w.alloc (.cells #[.int .i64 id,.int .i64 side,.int .i64 ag,.int .i64 ah,.bool true] 139)) w.heap.size 139 #[.int .i64 id,.int .i64 side,.int .i64 ag,.int .i64 ah,.bool true]:=aj.new _ _ _;have hb1:=Below.aA w (.cells #[.int .i64 id,.int .i64 side,.int .i64 ag,.int .i64 ah,.bool true] 139);have WE:=(hb1.cell (p:=⟨pw,0,none⟩) ia.out).trans jD;have Dn:=af (iH.out.below hb1);have hs1:(w.alloc (.cells #[.int .i64 id,.int .i64 side,.int .i64 ag,.int .i64 ah,.bool true] 139)).heap.size=w.heap.size+1:=by simp
 obtain⟨aM,jA⟩:∃aM,w.heap.size=aM:=⟨_,rfl⟩;have jX:Hid (w.heap.size=aM):=af jA;rw [jA]at zG hs1⊢;generalize w.alloc (.cells #[.int .i64 id,.int .i64 side,.int .i64 ag,.int .i64 ah,.bool true] 139)=w1 at*;have bD:=af hb1;have rX:=af zG;have c5:=af hs1;clear zG hb1 hs1 jA jD iH;obtain⟨_,_,he,hac,hrd⟩:=Dn.out.rd;injection he with ej _ jK;subst ej jK
 have zH:Hid (∀ad,a=some ad→∃b off,ad=⟨b,off,none⟩):=af fun ad hab=>by
  rcases Dn.out.2 with⟨hv,_⟩|⟨g,cap,cur,hv,_⟩
  ·injection hv with hv;rw [hv]at hab;cases hab
  ·injection hv with hv;rw [hv]at hab;injection hab with hab;exact⟨g,0,hab.symm⟩
 have hba:=Below.aA w1 (.cells #[] 139);have IG:=af (hrd.below hba);have gy:Hid (fX.Row (w1.alloc (.cells #[] 139)) w1.heap.size (.slice (some ⟨w1.heap.size,0,none⟩) 0 0) []):=af (aY.Row.empty w1);have aT:=af (bD.out.trans (hba.mono bD.out.size));have vp:=af (rX.out.below hba);have hM:Hid ((w1.alloc (.cells #[] 139)).heap.size=aM+2):=af (by have:=c5.out;simp;omega);have P8:=(hba.cell (p:=⟨pw,0,none⟩) (show pw<w1.heap.size by have:=bD.out.size;have:=ia.out;omega)).trans WE;clear hrd hba;have zI:=af hac;clear hac
 go_wp2_with (first
  |(at_builtin;go_loud (refine fX.vN rfl (.tmp 43) (.tmp 47) rfl w1.heap.size (.slice (some ⟨w1.heap.size,0,none⟩) 0 0) [] rfl gy.out a c L rfl zI.out IG.out zH.out (by have h0:([]:List ay).length=0:=rfl;omega) (by have h0:=hM.out;have h1:=c5.out;omega) ?_)))
 intro v' w3 j4 bU wZ;try rw [List.nil_append]at j4
 obtain⟨az,cap,_,rfl,c6,_⟩:=j4.Ev (by
  rcases wZ with h5|h5
  ·rw [h5];simp [Value.ownBlock]
  ·rw [h5];simp)
 have hb3:=gF bU aT.out (fun y hy=>by have h0:some w1.heap.size=some y:=hy;injection h0 with h0;have:=bD.out.size;omega);have HX:=vp.out.keeps (fe bU) (fun hy=>by have h0:some w1.heap.size=some aM:=hy;injection h0 with h0;have:=c5.out;omega);have nM:Hid (fX.Row w3 (aM+1) (.slice (some ⟨az,0,none⟩) L.length cap) L):=af (j4.base (by rw [c5.out];exact Nat.le_refl _));have aN:=af hb3;have LP:=af HX;have zJ:Hid (aM+1≤az):=af (by rw [←c5.out];exact c6);clear j4 bU wZ hb3 HX c6 Dn IG gy aT vp hM zI zH WE P8 rX bD;go_wp2_with fail
 as_aux_lemma=>
 go_loopw [14] (fun i w'=>∃k:Nat,i= .int .i64 k∧k≤L.length∧fX.Row w' (aM+1) (.slice (some ⟨az,0,none⟩) L.length cap) L∧aj w' aM 139 #[.int .i64 id,.int .i64 side,.int .i64 ag,.int .i64 ah,.bool (lV (L.take k) side ag)]∧Below w.heap.size w w') (fun i _=>L.length-(RowKit.intOf i).toNat)
 case atStart=>exact⟨0,rfl,Nat.zero_le _,nM.out,LP.out,aN.out⟩
 case round=>
  clear nM LP aN;obtain⟨k,rfl,hk,hr,hx,hb⟩:=hrel;obtain⟨av,rfl⟩:∃bk:World,bk=wr:=⟨_,rfl⟩;have fL:=af hr;have sW:=af hx;have bM:=af hb;clear hr hx hb;by_cases hlt:k<L.length
  ·as_aux_lemma=>
   have hlt':(k:Int)<(L.length:Int):=by omega
   obtain⟨o,ho⟩:∃o,L[k]? =some o:=⟨_,List.getElem?_eq_getElem hlt⟩;obtain⟨g,off,he,_,hc⟩:=fL.out.rd_some k o ho;injection he with he;injection he with ej jK;subst ej jK;have ym:=af (aeP (side:=side) (ag:=ag) ho);obtain⟨f0,f1,f2,f3,f4⟩:=o;have c1:av.cell? ⟨az,k*5+1,none⟩=some (.int .i64 f1):=by have:=hc 1 _ rfl;rw [Nat.zero_add]at this;exact this
   have c2:av.cell? ⟨az,k*5+2,none⟩=some (.int .i64 f2):=by have:=hc 2 _ rfl;rw [Nat.zero_add]at this;exact this
   clear hc ho;by_cases hs:f1=side
   ·subst hs
    obtain⟨bb,aJ⟩:∃bb,cV f1 ag f2=bb:=⟨_,rfl⟩;have kf:=Ex f1 ag f2 av;rw [aJ]at kf;have bu:=af aJ;clear aJ;go_wp2_with fail
    refine kf.mono ?_;rintro e au ⟨rfl,rfl⟩;clear kf c1 c2;cases bb with
    |true=>
     have om:Hid (lV (L.take (k+1)) f1 ag=lV (L.take k) f1 ag):=af (by rw [ym.out];simp [bu.out]);go_wp2_with fail
     go_roundw
     case rel=>exact⟨k+1,by go_num,by omega,fL.out,by rw [om.out];exact sW.out,bM.out⟩
     case measure=>simp [RowKit.intOf];omega
    |false=>
     have om:Hid (lV (L.take (k+1)) f1 ag=false):=af (by rw [ym.out];simp [bu.out]);have z4:av.cell? ⟨aM,4,none⟩=some (.bool (lV (L.take k) f1 ag)):=sW.out.cell 4;have fz:∀o,av.frozen? ⟨aM,o,none⟩=false:=fun o=>sW.out.frozen o;have Dp:Hid (aj (av.setCell ⟨aM,4,none⟩ (.bool false)) aM 139 #[.int .i64 id,.int .i64 f1,.int .i64 ag,.int .i64 ah,.bool false]):=af (sW.out.aQ 4 _);have ld:Hid (fX.Row (av.setCell ⟨aM,4,none⟩ (.bool false)) (aM+1) (.slice (some ⟨az,0,none⟩) L.length cap) L):=af (FA fL.out (fun hy=>by have h0:some az=some aM:=hy;injection h0 with h0;have:=zJ.out;omega) _);have cD:=af (bM.out.setCell (p:=⟨aM,4,none⟩) (by rw [jX.out];exact Nat.le_refl _) (.bool false));go_wp2_with fail
     clear z4 fz;go_roundw
     case rel=>exact⟨k+1,by go_num,by omega,ld.out,by rw [om.out];exact Dp.out,cD.out⟩
     case measure=>simp [RowKit.intOf];omega
   ·have hsb:(f1==side)=false:=by rw [beq_eq_false_iff_ne];exact hs
    have om:Hid (lV (L.take (k+1)) side ag=lV (L.take k) side ag):=af (by rw [ym.out];simp [hs]);go_wp2_with fail
    go_roundw
    case rel=>exact⟨k+1,by go_num,by omega,fL.out,by rw [om.out];exact sW.out,bM.out⟩
    case measure=>simp [RowKit.intOf];omega
  ·obtain rfl:k=L.length:=by omega
   have hx:=sW.out;rw [List.take_length]at hx;replace sW:=af hx;clear hx hk;obtain⟨T,hT⟩:∃T,lV L side ag=T:=⟨_,rfl⟩;rw [hT]at sW;have FB:=af hT;clear hT;go_wp2_with fail
   as_aux_lemma=>
   go_loopw [13] (fun i w'=>∃k:Nat,i= .int .i64 k∧k≤L.length∧m5 L side ag=k+((L.drop k).takeWhile (lM side ag)).length∧av=w') (fun i _=>L.length-(RowKit.intOf i).toNat)
   case atStart=>exact⟨0,rfl,Nat.zero_le _,(Nat.zero_add _).symm,rfl⟩
   case round=>
    obtain⟨k,rfl,hk,hp,rfl⟩:=hrel;have dy:=af hp;clear hp;go_upto_region 17 with(fail)
    go_cut [106] (fun v wx=>∃bb:Bool,v= .bool bb∧(bb=true→k<L.length∧m5 L side ag=(k+1)+((L.drop (k+1)).takeWhile (lM side ag)).length)∧(bb=false→m5 L side ag=k)∧av=wx)
    case first=>
     as_aux_lemma=>
     by_cases hlt:k<L.length
     ·have hlt':(k:Int)<(L.length:Int):=by omega
      obtain⟨o,ho⟩:∃o,L[k]? =some o:=⟨_,List.getElem?_eq_getElem hlt⟩;have eV:=af (aeN ho dy.out);obtain⟨g,off,he,_,hc⟩:=fL.out.rd_some k o ho;injection he with he;injection he with ej jK;subst ej jK;obtain⟨f0,f1,f2,f3,f4⟩:=o;have c1:av.cell? ⟨az,k*5+1,none⟩=some (.int .i64 f1):=by have:=hc 1 _ rfl;rw [Nat.zero_add]at this;exact this
      have c2:av.cell? ⟨az,k*5+2,none⟩=some (.int .i64 f2):=by have:=hc 2 _ rfl;rw [Nat.zero_add]at this;exact this
      clear hc ho;rcases Int.lt_trichotomy f1 side with h1|h1|h1
      ·have cG:Hid (lM side ag ⟨f0,f1,f2,f3,f4⟩=true):=af (by unfold lM;simp [h1])
       go_wp2_with fail
       go_meet;exact⟨true,rfl,fun _=>⟨hlt,eV.out.1 cG.out⟩,fun h=>(by cases h),rfl⟩
      ·subst h1
       obtain⟨bb,aJ⟩:∃bb,cV f1 ag f2=bb:=⟨_,rfl⟩;have cG:Hid (lM f1 ag ⟨f0,f1,f2,f3,f4⟩= !bb):=af (by unfold lM;simp [aJ]);have kf:=Ex f1 ag f2 av;rw [aJ]at kf;clear aJ;go_wp2_with fail
       refine kf.mono ?_;rintro e au ⟨rfl,rfl⟩;clear kf c1 c2;cases bb with
       |true=>
        go_wp2_with fail
        go_meet;exact⟨false,rfl,fun h=>(by cases h),fun _=>eV.out.2 cG.out,rfl⟩
       |false=>
        go_wp2_with fail
        go_meet;exact⟨true,rfl,fun _=>⟨hlt,eV.out.1 cG.out⟩,fun h=>(by cases h),rfl⟩
      ·have h2:¬f1<side:=by omega
       have h3:(f1==side)=false:=by rw [beq_eq_false_iff_ne];omega
       have cG:Hid (lM side ag ⟨f0,f1,f2,f3,f4⟩=false):=af (by unfold lM;rw [decide_eq_false h2,decide_eq_false (show¬f1=side by omega)];rfl);go_wp2_with fail
       go_meet;exact⟨false,rfl,fun h=>(by cases h),fun _=>eV.out.2 cG.out,rfl⟩
     ·go_wp2_with fail
      go_meet;exact⟨false,rfl,fun h=>(by cases h),fun _=>aeO (by omega) dy.out,rfl⟩
    case rest=>
    obtain⟨bb,rfl,hb1,hb2,rfl⟩:=hcut;cases bb with
    |true=>
     obtain⟨hlt,P9⟩:=hb1 rfl;have ae0:=af P9;clear hb1 hb2 P9;go_wp2_with fail
     go_roundw
     case rel=>exact⟨k+1,by go_num,by omega,ae0.out,by trivial⟩
     case measure=>simp [RowKit.intOf];omega
    |false=>
     have FC:=af (hb2 rfl);clear hb1 hb2 dy;go_wp2_with fail
     as_aux_lemma=>
     go_loopw [15] (fun i w'=>∃i':Nat,i= .int .i64 i'∧i'≤L.length∧(T=false→i'=0)∧fX.Row w' (aM+1) (.slice (some ⟨az,0,none⟩) L.length cap) (sY L side i')∧aj w' aM 139 #[.int .i64 id,.int .i64 side,.int .i64 ag,.int .i64 ah,.bool T]∧Below w.heap.size w w') (fun i _=>L.length-(RowKit.intOf i).toNat)
     case atStart=>exact⟨0,rfl,Nat.zero_le _,fun _=>rfl,fL.out,sW.out,bM.out⟩
     case round=>
      clear fL sW bM;obtain⟨i,rfl,hi,ju,hr,hx,hb⟩:=hrel;obtain⟨au,rfl⟩:∃bk:World,bk=wr:=⟨_,rfl⟩;have ld:=af hr;have Dp:=af hx;have cD:=af hb;have sj:=af ju;have z4:au.cell? ⟨aM,4,none⟩=some (.bool T):=hx.cell 4;clear hr hx hb ju;go_upto_region 20 with(fail)
      go_cut [116] (fun v wx=>∃bb:Bool,v= .bool bb∧(bb=true→i<L.length∧T=true)∧(bb=false→¬(i<L.length∧T=true))∧au=wx)
      case first=>
       by_cases hlt:i<L.length
       ·have hlt':(i:Int)<(L.length:Int):=by omega
        go_wp2_with fail
        go_meet;exact⟨T,rfl,fun h=>⟨hlt,h⟩,fun h h2=>(by rw [h2.2]at h;cases h),rfl⟩
       ·go_wp2_with fail
        go_meet;exact⟨false,rfl,fun h=>(by cases h),fun _ h2=>hlt h2.1,rfl⟩
      case rest=>
      obtain⟨bb,rfl,hb1,hb2,rfl⟩:=hcut;cases bb with
      |true=>
       obtain⟨hlt,FD⟩:=hb1 rfl;have yu:=af FD;clear hb1 hb2 FD z4;have hlt':(i:Int)<(L.length:Int):=by omega
       obtain⟨o,ho⟩:∃o,L[i]? =some o:=⟨_,List.getElem?_eq_getElem hlt⟩;have WG:=af (WC (side:=side) ho);have Kq:=af (WD (side:=side) ho);have ae1:=af (aeS (side:=side) ho);obtain⟨g,off,he,_,hc⟩:=ld.out.rd_some i o WG.out;injection he with he;injection he with ej jK;subst ej jK;obtain⟨f0,f1,f2,f3,f4⟩:=o;have c1:au.cell? ⟨az,i*5+1,none⟩=some (.int .i64 f1):=by have:=hc 1 _ rfl;rw [Nat.zero_add]at this;exact this
       have dn:au.cell? ⟨az,i*5+4,none⟩=some (.bool f4):=by have:=hc 4 _ rfl;rw [Nat.zero_add]at this;exact this
       clear hc ho;by_cases hs:f1=side
       ·subst hs
        obtain⟨Qa,nj,_,jq,_,hgt⟩:=ld.out.Ev (by simp [Value.ownBlock]);injection jq with jq;injection jq with jq;injection jq with jq;subst jq;have fz:∀o,au.frozen? ⟨az,o,none⟩=false:=fun o=>aj.frozen hgt o
        have cH:Hid (fX.Row (au.setCell ⟨az,i*5+4,none⟩ (.bool false)) (aM+1) (.slice (some ⟨az,0,none⟩) L.length cap) (sY L f1 (i+1))):=af (by
         rw [Kq.out,show lf f1 ⟨f0,f1,f2,f3,f4⟩=⟨f0,f1,f2,f3,false⟩from if_pos rfl];exact aY.Row.aQ ld.out (e':=(⟨f0,f1,f2,f3,false⟩:ay)) (k:=4) (u:= .bool false) WG.out (by decide) rfl)
        have ae2:=af (Dp.out.keeps ((aD.refl (fun k=>k=az) au).setCell (p:=⟨az,i*5+4,none⟩) (fun _=>rfl) (.bool false)) (fun h=>by have:=zJ.out;omega));have cC:=af (cD.out.setCell (p:=⟨az,i*5+4,none⟩) (show w.heap.size≤az by have:=zJ.out;have:=jX.out;omega) (.bool false));clear hgt;go_wp2_with fail
        clear c1 dn fz;go_roundw
        case rel=>exact⟨i+1,by go_num,by omega,fun h=>(by rw [yu.out]at h;cases h),cH.out,ae2.out,cC.out⟩
        case measure=>simp [RowKit.intOf];omega
       ·have hsb:(f1==side)=false:=by rw [beq_eq_false_iff_ne];exact hs
        go_wp2_with fail
        go_roundw
        case rel=>exact⟨i+1,by go_num,by omega,fun h=>(by rw [yu.out]at h;cases h),by rw [ae1.out hs];exact ld.out,Dp.out,cD.out⟩
        case measure=>simp [RowKit.intOf];omega
      |false=>
       have rQ:Hid (sY L side i=if lV L side ag=true then L.map (lf side)else L):=af (by
        rw [FB.out];have h2:=hb2 rfl;cases hT:T with
        |true=>
         have hi2:i=L.length:=by
          have:¬i<L.length:=fun h=>h2 ⟨h,hT⟩;omega
         rw [if_pos rfl,hi2];unfold sY;rw [List.take_length,List.drop_length,List.append_nil]
        |false=>
         rw [if_neg (by simp),sj.out hT];rfl)
       have pK:=af (aeR L side i);generalize sY L side i=eE at*;clear hb1 hb2 z4 sj;have dI:=af Dp.out;have z0:au.cell? ⟨aM,0,none⟩=some (.int .i64 id):=dI.out.cell 0;have dM:au.cell? ⟨aM,1,none⟩=some (.int .i64 side):=dI.out.cell 1;have z2:au.cell? ⟨aM,2,none⟩=some (.int .i64 ag):=dI.out.cell 2;have z3:au.cell? ⟨aM,3,none⟩=some (.int .i64 ah):=dI.out.cell 3;have z4:au.cell? ⟨aM,4,none⟩=some (.bool T):=dI.out.cell 4
       have hkc:k≤cap:=by
        rcases ld.out.2 with⟨hv,_⟩|⟨c8,y5,Kt,hv,_,_,hh,_⟩
        ·injection hv with hv;cases hv
        ·injection hv with _ _ hv;rw [hv];have:=pK.out;omega
       have hkn:(k:Int)≤(L.length:Int):=by omega
       have jR:(0:Int)≤(k:Int):=by omega
       obtain⟨off2,hoff⟩:∃off2,off2=(if cap=k then 0 else k*5):=⟨_,rfl⟩
       have TF:(if cap=k then(some ⟨az,0,none⟩:Option Addr)else some ⟨az,k*5,none⟩)=some ⟨az,off2,none⟩:=by
        rw [hoff];split<;>rfl
       have AH:=af hoff
       have ae3:Hid (L.length≤cap):=af (by
        rcases ld.out.2 with⟨hv,_⟩|⟨c8,y5,Kt,hv,_,_,hh,_⟩
        ·injection hv with hv;cases hv
        ·injection hv with _ _ hv;rw [hv];have:=pK.out;omega)
       clear hoff;go_upto_region 24 with(fail)
       refine cF (S:=fun w'=>w'.cell? ⟨aM,0,none⟩=some (.int .i64 id)∧w'.cell? ⟨aM,1,none⟩=some (.int .i64 side)∧w'.cell? ⟨aM,2,none⟩=some (.int .i64 ag)∧w'.cell? ⟨aM,3,none⟩=some (.int .i64 ah)∧w'.cell? ⟨aM,4,none⟩=some (.bool T)) (by kernel_rfl) ⟨z0,dM,z2,z3,z4⟩ (fun hHeld=>?_);have LZ:=af (Below.bT au 1);have gA:Hid (fX.Row au.drew (aM+1) (.slice (some ⟨az,0,none⟩) L.length cap) eE):=af (ld.out.below LZ.out);have zA:Hid (aj au.drew aM 139 #[.int .i64 id,.int .i64 side,.int .i64 ag,.int .i64 ah,.bool T]):=af (Dp.out.below LZ.out);have cr:Hid (Below w.heap.size w au.drew):=af (cD.out.trans (LZ.out.mono cD.out.size));clear LZ ld Dp cD dI z0 dM z2 z3 z4;generalize au.drew=wd at*;have b5:Hid (∀w',Below wd.heap.size wd w'→w'.cell? ⟨aM,0,none⟩=some (.int .i64 id)∧w'.cell? ⟨aM,1,none⟩=some (.int .i64 side)∧w'.cell? ⟨aM,2,none⟩=some (.int .i64 ag)∧w'.cell? ⟨aM,3,none⟩=some (.int .i64 ah)∧w'.cell? ⟨aM,4,none⟩=some (.bool T)):=af fun w' hb=>⟨(zA.out.below hb).cell 0,(zA.out.below hb).cell 1,(zA.out.below hb).cell 2,(zA.out.below hb).cell 3,(zA.out.below hb).cell 4⟩;have L0:Hid (aj wd pw 181 #[.slice a L.length c]):=af (lJ.out.below cr.out);have Qb:Hid (pw<wd.heap.size):=af L0.out.lt;have dh:Hid ((eE.take k).length=k):=af (by rw [List.length_take,pK.out];omega);have AI:Hid ((eE.take k++ [(⟨id,side,ag,ah,T⟩:ay)]).length=k+1):=af (by rw [List.length_append,dh.out];rfl);have sF:Hid ((eE.drop k).length=L.length-k):=af (by rw [List.length_drop,pK.out]);have jP:Hid ((eE.take k++ [(⟨id,side,ag,ah,T⟩:ay)]++eE.drop k).length=L.length+1):=af (by rw [List.length_append,AI.out,sF.out];omega)
       have y6:Hid (∀w1,Below wd.heap.size wd w1→fX.fF w1 (some ⟨az,off2,none⟩) (eE.drop k)):=af (by
        intro w1 NP;rw [AH.out];by_cases hcap:cap=k
        ·rw [if_pos hcap]
         have h0:eE.drop k= []:=List.eq_nil_of_length_eq_zero (by rw [sF.out];have:=ae3.out;omega);rw [h0];exact aY.fF.nil
        ·rw [if_neg hcap]
         intro j e hj;rw [List.getElem?_drop]at hj;obtain⟨b,off,h1,h2,h3⟩:=(gA.out.rd_some.below NP) (k+j) e hj;injection h1 with h1;injection h1 with h1 h4;subst h1 h4;refine⟨az,k*5,rfl,h2,?_⟩;rw [show k*5+j*fX.m=0+(k+j)*fX.m by rw [Nat.add_mul,Nat.zero_add];rfl];exact h3)
       have nK:Hid (Below wd.heap.size wd wd):=af (Below.refl _ _);refine ai 0 ?_;refine ai 2 ?_;refine ai 3 ?_;refine ai 4 ?_;refine ai 6 ?_;refine ai 9 ?_;refine ai 10 ?_;refine ai 11 ?_;refine jW 1 7 (fun K hK=>?_) fun K hK=>?_
       ·as_aux_lemma=>
        go_simp;have hba:=Below.aA wd (.cells #[] 139);have aJ:=nK.out.trans (hba.mono nK.out.size);refine hK.out _ _ (b5.out _ aJ) (fun hHeld=>?_);clear hK K;have ot:fX.Row (wd.alloc (.cells #[] 139)) wd.heap.size (.slice (some ⟨wd.heap.size,0,none⟩) 0 0) []:=aY.Row.empty wd;have cQ:(wd.alloc (.cells #[] 139)).heap.size=wd.heap.size+1:=by simp
        obtain⟨ge,hge⟩:∃ge,wd.heap.size=ge:=⟨_,rfl⟩;have bB:Hid (wd.heap.size=ge):=af hge;rw [hge]at ot cQ⊢;clear hge;generalize wd.alloc (.cells #[] 139)=fy at*;have bH:=af ot;have oZ:=af aJ;have GQ:=af cQ;clear hba aJ ot cQ;replace bH:=af (bH.out.base (show wd.heap.size≤ge by have h1:=bB.out;omega));refine jW 5 7 (fun K hK=>?_) fun K hK=>?_
        ·as_aux_lemma=>
         refine fX.o3 (by rfl) (.tmp 131) (.tmp 134) (by rfl) wd.heap.size ge 0 0 k [] rfl (by rfl) bH.out az 0 cap (eE.take k) dh.out (by rfl) ((gA.out.rd_some.below oZ.out).take k) k (by omega) (by omega) oZ.out.size ?_;intro g1 mE wf gm mO qq;try rw [List.nil_append]at gm
         have iX:=gF mO oZ.out (cx bH.out);have cn:=af gm;have qs:=af iX;have v8:=af (fe mO);refine hK.out _ _ (b5.out _ iX) (fun hHeld=>?_);clear hK K gm iX mO qq;try simp only [Act.put,List.setIfInBounds_toArray,List.set_cons_zero,List.set_cons_succ]
         refine aR 7 fun K hK=>?_;refine P7 (by rfl) 136 (by rfl) (by rfl) ?_;have hba:=Below.aA wf (.cells #[.int .i64 id,.int .i64 side,.int .i64 ag,.int .i64 ah,.bool T] 139);have aJ:=qs.out.trans (hba.mono qs.out.size);refine hK.out _ _ (b5.out _ aJ) (fun hHeld=>?_);clear hK K;try simp only [Act.put,List.setIfInBounds_toArray,List.set_cons_zero,List.set_cons_succ]
         have jk:aj (wf.alloc (.cells #[.int .i64 id,.int .i64 side,.int .i64 ag,.int .i64 ah,.bool T] 139)) wf.heap.size 139 #[.int .i64 id,.int .i64 side,.int .i64 ag,.int .i64 ah,.bool T]:=aj.new _ _ _;have cQ:(wf.alloc (.cells #[.int .i64 id,.int .i64 side,.int .i64 ag,.int .i64 ah,.bool T] 139)).heap.size=wf.heap.size+1:=by simp
         obtain⟨gn,iM⟩:∃gn,wf.heap.size=gn:=⟨_,rfl⟩;have nw:Hid (wf.heap.size=gn):=af iM;rw [iM]at jk cQ⊢;clear iM;have AJ:=cn.out.below hba;generalize wf.alloc (.cells #[.int .i64 id,.int .i64 side,.int .i64 ag,.int .i64 ah,.bool T] 139)=wc at*;have HN:=af jk;have nL:=af aJ;have Ch:=af cQ;clear hba aJ jk cQ;replace cn:=af AJ;clear AJ;refine aR 8 fun K hK=>?_;refine fX.o3 (by rfl) (.tmp 135) (.tmp 137) (by rfl) wd.heap.size g1 mE k 1 (eE.take k) dh.out (by rfl) cn.out gn 0 1 [(⟨id,side,ag,ah,T⟩:ay)] rfl (by rfl) (gL.rd HN.out.lt (aj.fU HN.out)) (k+1) rfl (by omega) nL.out.size ?_;intro g2 nj wg lA iE o4;have mP:=gF iE nL.out (cx cn.out);have cv:=af lA;have mQ:=af mP;refine hK.out _ _ (b5.out _ mP) (fun hHeld=>?_);clear hK K lA mP iE o4;try simp only [Act.put,List.setIfInBounds_toArray,List.set_cons_zero,List.set_cons_succ]
         refine aR 12 fun K hK=>?_;refine fX.o3 (by rfl) (.tmp 138) (.tmp 141) (by rfl) wd.heap.size g2 nj (k+1) (L.length-k) (eE.take k++ [(⟨id,side,ag,ah,T⟩:ay)]) AI.out (by rfl) cv.out az off2 (cap-k) (eE.drop k) sF.out (by rfl) (y6.out _ mQ.out) (L.length+1) (by omega) (by omega) mQ.out.size ?_;intro aO lS ou ov qt rJ;have lB:=gF qt mQ.out (cx cv.out);have bU:wd.heap.size≤aO:=cx ov aO rfl;have we:=af ov;have sG:=af lB;have eW:=af bU;have w4:=L0.out.below lB;have Bf:=af w4;have II:ou.cell? ⟨pw,0,none⟩=some (.slice a L.length c):=w4.cell 0;have IJ:∀o,ou.frozen? ⟨pw,o,none⟩=false:=fun o=>Bf.out.frozen o;refine hK.out _ _ (b5.out _ lB) (fun hHeld=>?_);clear hK K ov lB qt rJ w4 bU;try simp only [Act.put,List.setIfInBounds_toArray,List.set_cons_zero,List.set_cons_succ]
         refine ai 13 ?_;refine ai 14 ?_;refine cO 15 fun K hK=>?_;go_simp;refine hK.out _ _ ?_;clear hK K hHeld II IJ
         have hrb:gC W (ou.setCell ⟨pw,0,none⟩ (.slice (some ⟨aO,0,none⟩) (L.length+1) lS)) pw (eE.take k++ [(⟨id,side,ag,ah,T⟩:ay)]++eE.drop k):=by
          have Bg:W.heap.size≤wd.heap.size:=Nat.le_trans dL.out.aF.size cr.out.size;refine⟨⟨some ⟨aO,0,none⟩,lS,?_,?_⟩,dL.out.base,?_⟩
          ·rw [jP.out];exact Bf.out.aQ 0 _
          ·rw [jP.out]
           have qq:fX.Row (ou.setCell ⟨pw,0,none⟩ (.slice (some ⟨aO,0,none⟩) (L.length+1) lS)) wd.heap.size (.slice (some ⟨aO,0,none⟩) (L.length+1) lS) (eE.take k++ [(⟨id,side,ag,ah,T⟩:ay)]++eE.drop k):=FA we.out (p:=⟨pw,0,none⟩) (fun hy=>by have h0:some aO=some pw:=hy;injection h0 with h0;have h1:=Qb.out;have h2:=eW.out;omega) _;exact qq.base Bg
          ·exact((dL.out.aF.trans (cr.out.mono dL.out.aF.size)).trans (sG.out.mono Bg)).setCell (p:=⟨pw,0,none⟩) dL.out.base _
         have hkp:aD (fun g=>g=pw) w (ou.setCell ⟨pw,0,none⟩ (.slice (some ⟨aO,0,none⟩) (L.length+1) lS)):=
          (Below.keeps (F:=fun g=>g=pw) (cr.out.trans (sG.out.mono cr.out.size))).setCell (p:=⟨pw,0,none⟩) (fun _=>rfl) _
         have wL:=af hrb;have w5:=af hkp;clear hrb hkp;go_wp2_with fail
         go_ret;exact⟨by trivial,by rw [oI.out,←rQ.out,FC.out,FB.out];exact wL.out,w5.out⟩
        ·as_aux_lemma=>
         refine P7 (by rfl) 136 (by rfl) (by rfl) ?_;have hba:=Below.aA fy (.cells #[.int .i64 id,.int .i64 side,.int .i64 ag,.int .i64 ah,.bool T] 139);have aJ:=oZ.out.trans (hba.mono oZ.out.size);refine hK.out _ _ (b5.out _ aJ) (fun hHeld=>?_);clear hK K;try simp only [Act.put,List.setIfInBounds_toArray,List.set_cons_zero,List.set_cons_succ]
         have jk:aj (fy.alloc (.cells #[.int .i64 id,.int .i64 side,.int .i64 ag,.int .i64 ah,.bool T] 139)) fy.heap.size 139 #[.int .i64 id,.int .i64 side,.int .i64 ag,.int .i64 ah,.bool T]:=aj.new _ _ _;have cQ:(fy.alloc (.cells #[.int .i64 id,.int .i64 side,.int .i64 ag,.int .i64 ah,.bool T] 139)).heap.size=fy.heap.size+1:=by simp
         obtain⟨gn,iM⟩:∃gn,fy.heap.size=gn:=⟨_,rfl⟩;have nw:Hid (fy.heap.size=gn):=af iM;rw [iM]at jk cQ⊢;clear iM;have GY:=bH.out.below hba;generalize fy.alloc (.cells #[.int .i64 id,.int .i64 side,.int .i64 ag,.int .i64 ah,.bool T] 139)=wc at*;have HN:=af jk;have nL:=af aJ;have Ch:=af cQ;clear hba aJ jk cQ;replace bH:=af GY;clear GY;refine aR 5 fun K hK=>?_;refine fX.o3 (by rfl) (.tmp 131) (.tmp 134) (by rfl) wd.heap.size ge 0 0 k [] rfl (by rfl) bH.out az 0 cap (eE.take k) dh.out (by rfl) ((gA.out.rd_some.below nL.out).take k) k (by omega) (by omega) nL.out.size ?_;intro g1 mE wf gm mO qq;try rw [List.nil_append]at gm
         have iX:=gF mO nL.out (cx bH.out);have cn:=af gm;have qs:=af iX;have v8:=af (fe mO);refine hK.out _ _ (b5.out _ iX) (fun hHeld=>?_);clear hK K gm iX mO qq;try simp only [Act.put,List.setIfInBounds_toArray,List.set_cons_zero,List.set_cons_succ]
         have l9:=HN.out.keeps v8.out (fun hy=>by have h0:some ge=some gn:=hy;injection h0 with h0;have h1:=bB.out;have h2:=GQ.out;have h3:=nw.out;omega);replace HN:=af l9;clear l9;refine aR 8 fun K hK=>?_;refine fX.o3 (by rfl) (.tmp 135) (.tmp 137) (by rfl) wd.heap.size g1 mE k 1 (eE.take k) dh.out (by rfl) cn.out gn 0 1 [(⟨id,side,ag,ah,T⟩:ay)] rfl (by rfl) (gL.rd HN.out.lt (aj.fU HN.out)) (k+1) rfl (by omega) qs.out.size ?_;intro g2 nj wg lA iE o4;have mP:=gF iE qs.out (cx cn.out);have cv:=af lA;have mQ:=af mP;refine hK.out _ _ (b5.out _ mP) (fun hHeld=>?_);clear hK K lA mP iE o4;try simp only [Act.put,List.setIfInBounds_toArray,List.set_cons_zero,List.set_cons_succ]
         refine aR 12 fun K hK=>?_;refine fX.o3 (by rfl) (.tmp 138) (.tmp 141) (by rfl) wd.heap.size g2 nj (k+1) (L.length-k) (eE.take k++ [(⟨id,side,ag,ah,T⟩:ay)]) AI.out (by rfl) cv.out az off2 (cap-k) (eE.drop k) sF.out (by rfl) (y6.out _ mQ.out) (L.length+1) (by omega) (by omega) mQ.out.size ?_;intro aO lS ou ov qt rJ;have lB:=gF qt mQ.out (cx cv.out);have bU:wd.heap.size≤aO:=cx ov aO rfl;have we:=af ov;have sG:=af lB;have eW:=af bU;have w4:=L0.out.below lB;have Bf:=af w4;have II:ou.cell? ⟨pw,0,none⟩=some (.slice a L.length c):=w4.cell 0;have IJ:∀o,ou.frozen? ⟨pw,o,none⟩=false:=fun o=>Bf.out.frozen o;refine hK.out _ _ (b5.out _ lB) (fun hHeld=>?_);clear hK K ov lB qt rJ w4 bU;try simp only [Act.put,List.setIfInBounds_toArray,List.set_cons_zero,List.set_cons_succ]
         refine ai 13 ?_;refine ai 14 ?_;refine cO 15 fun K hK=>?_;go_simp;refine hK.out _ _ ?_;clear hK K hHeld II IJ
         have hrb:gC W (ou.setCell ⟨pw,0,none⟩ (.slice (some ⟨aO,0,none⟩) (L.length+1) lS)) pw (eE.take k++ [(⟨id,side,ag,ah,T⟩:ay)]++eE.drop k):=by
          have Bg:W.heap.size≤wd.heap.size:=Nat.le_trans dL.out.aF.size cr.out.size;refine⟨⟨some ⟨aO,0,none⟩,lS,?_,?_⟩,dL.out.base,?_⟩
          ·rw [jP.out];exact Bf.out.aQ 0 _
          ·rw [jP.out]
           have qq:fX.Row (ou.setCell ⟨pw,0,none⟩ (.slice (some ⟨aO,0,none⟩) (L.length+1) lS)) wd.heap.size (.slice (some ⟨aO,0,none⟩) (L.length+1) lS) (eE.take k++ [(⟨id,side,ag,ah,T⟩:ay)]++eE.drop k):=FA we.out (p:=⟨pw,0,none⟩) (fun hy=>by have h0:some aO=some pw:=hy;injection h0 with h0;have h1:=Qb.out;have h2:=eW.out;omega) _;exact qq.base Bg
          ·exact((dL.out.aF.trans (cr.out.mono dL.out.aF.size)).trans (sG.out.mono Bg)).setCell (p:=⟨pw,0,none⟩) dL.out.base _
         have hkp:aD (fun g=>g=pw) w (ou.setCell ⟨pw,0,none⟩ (.slice (some ⟨aO,0,none⟩) (L.length+1) lS)):=
          (Below.keeps (F:=fun g=>g=pw) (cr.out.trans (sG.out.mono cr.out.size))).setCell (p:=⟨pw,0,none⟩) (fun _=>rfl) _
         have wL:=af hrb;have w5:=af hkp;clear hrb hkp;go_wp2_with fail
         go_ret;exact⟨by trivial,by rw [oI.out,←rQ.out,FC.out,FB.out];exact wL.out,w5.out⟩
       ·as_aux_lemma=>
        refine P7 (by rfl) 136 (by rfl) (by rfl) ?_;have hba:=Below.aA wd (.cells #[.int .i64 id,.int .i64 side,.int .i64 ag,.int .i64 ah,.bool T] 139);have aJ:=nK.out.trans (hba.mono nK.out.size);refine hK.out _ _ (b5.out _ aJ) (fun hHeld=>?_);clear hK K;try simp only [Act.put,List.setIfInBounds_toArray,List.set_cons_zero,List.set_cons_succ]
        have jk:aj (wd.alloc (.cells #[.int .i64 id,.int .i64 side,.int .i64 ag,.int .i64 ah,.bool T] 139)) wd.heap.size 139 #[.int .i64 id,.int .i64 side,.int .i64 ag,.int .i64 ah,.bool T]:=aj.new _ _ _;have cQ:(wd.alloc (.cells #[.int .i64 id,.int .i64 side,.int .i64 ag,.int .i64 ah,.bool T] 139)).heap.size=wd.heap.size+1:=by simp
        obtain⟨gn,iM⟩:∃gn,wd.heap.size=gn:=⟨_,rfl⟩;have nw:Hid (wd.heap.size=gn):=af iM;rw [iM]at jk cQ⊢;clear iM;generalize wd.alloc (.cells #[.int .i64 id,.int .i64 side,.int .i64 ag,.int .i64 ah,.bool T] 139)=wc at*;have HN:=af jk;have nL:=af aJ;have Ch:=af cQ;clear hba aJ jk cQ;refine aR 1 fun K hK=>?_;go_simp;have hba:=Below.aA wc (.cells #[] 139);have aJ:=nL.out.trans (hba.mono nL.out.size);refine hK.out _ _ (b5.out _ aJ) (fun hHeld=>?_);clear hK K;have ot:fX.Row (wc.alloc (.cells #[] 139)) wc.heap.size (.slice (some ⟨wc.heap.size,0,none⟩) 0 0) []:=aY.Row.empty wc;have cQ:(wc.alloc (.cells #[] 139)).heap.size=wc.heap.size+1:=by simp
        obtain⟨ge,hge⟩:∃ge,wc.heap.size=ge:=⟨_,rfl⟩;have bB:Hid (wc.heap.size=ge):=af hge;rw [hge]at ot cQ⊢;clear hge;have kH:=HN.out.below hba;generalize wc.alloc (.cells #[] 139)=fy at*;have bH:=af ot;have oZ:=af aJ;have GQ:=af cQ;clear hba aJ ot cQ;replace HN:=af kH;clear kH;replace bH:=af (bH.out.base (show wd.heap.size≤ge by have h1:=bB.out;have h2:=nL.out.size;omega));refine aR 5 fun K hK=>?_;refine fX.o3 (by rfl) (.tmp 131) (.tmp 134) (by rfl) wd.heap.size ge 0 0 k [] rfl (by rfl) bH.out az 0 cap (eE.take k) dh.out (by rfl) ((gA.out.rd_some.below oZ.out).take k) k (by omega) (by omega) oZ.out.size ?_;intro g1 mE wf gm mO qq;try rw [List.nil_append]at gm
        have iX:=gF mO oZ.out (cx bH.out);have cn:=af gm;have qs:=af iX;have v8:=af (fe mO);refine hK.out _ _ (b5.out _ iX) (fun hHeld=>?_);clear hK K gm iX mO qq;try simp only [Act.put,List.setIfInBounds_toArray,List.set_cons_zero,List.set_cons_succ]
        have l9:=HN.out.keeps v8.out (fun hy=>by have h0:some ge=some gn:=hy;injection h0 with h0;have h1:=bB.out;have h2:=Ch.out;have h3:=nw.out;omega);replace HN:=af l9;clear l9;refine aR 8 fun K hK=>?_;refine fX.o3 (by rfl) (.tmp 135) (.tmp 137) (by rfl) wd.heap.size g1 mE k 1 (eE.take k) dh.out (by rfl) cn.out gn 0 1 [(⟨id,side,ag,ah,T⟩:ay)] rfl (by rfl) (gL.rd HN.out.lt (aj.fU HN.out)) (k+1) rfl (by omega) qs.out.size ?_;intro g2 nj wg lA iE o4;have mP:=gF iE qs.out (cx cn.out);have cv:=af lA;have mQ:=af mP;refine hK.out _ _ (b5.out _ mP) (fun hHeld=>?_);clear hK K lA mP iE o4;try simp only [Act.put,List.setIfInBounds_toArray,List.set_cons_zero,List.set_cons_succ]
        refine aR 12 fun K hK=>?_;refine fX.o3 (by rfl) (.tmp 138) (.tmp 141) (by rfl) wd.heap.size g2 nj (k+1) (L.length-k) (eE.take k++ [(⟨id,side,ag,ah,T⟩:ay)]) AI.out (by rfl) cv.out az off2 (cap-k) (eE.drop k) sF.out (by rfl) (y6.out _ mQ.out) (L.length+1) (by omega) (by omega) mQ.out.size ?_;intro aO lS ou ov qt rJ;have lB:=gF qt mQ.out (cx cv.out);have bU:wd.heap.size≤aO:=cx ov aO rfl;have we:=af ov;have sG:=af lB;have eW:=af bU;have w4:=L0.out.below lB;have Bf:=af w4;have II:ou.cell? ⟨pw,0,none⟩=some (.slice a L.length c):=w4.cell 0;have IJ:∀o,ou.frozen? ⟨pw,o,none⟩=false:=fun o=>Bf.out.frozen o;refine hK.out _ _ (b5.out _ lB) (fun hHeld=>?_);clear hK K ov lB qt rJ w4 bU;try simp only [Act.put,List.setIfInBounds_toArray,List.set_cons_zero,List.set_cons_succ]
        refine ai 13 ?_;refine ai 14 ?_;refine cO 15 fun K hK=>?_;go_simp;refine hK.out _ _ ?_;clear hK K hHeld II IJ
        have hrb:gC W (ou.setCell ⟨pw,0,none⟩ (.slice (some ⟨aO,0,none⟩) (L.length+1) lS)) pw (eE.take k++ [(⟨id,side,ag,ah,T⟩:ay)]++eE.drop k):=by
         have Bg:W.heap.size≤wd.heap.size:=Nat.le_trans dL.out.aF.size cr.out.size;refine⟨⟨some ⟨aO,0,none⟩,lS,?_,?_⟩,dL.out.base,?_⟩
         ·rw [jP.out];exact Bf.out.aQ 0 _
         ·rw [jP.out]
          have qq:fX.Row (ou.setCell ⟨pw,0,none⟩ (.slice (some ⟨aO,0,none⟩) (L.length+1) lS)) wd.heap.size (.slice (some ⟨aO,0,none⟩) (L.length+1) lS) (eE.take k++ [(⟨id,side,ag,ah,T⟩:ay)]++eE.drop k):=FA we.out (p:=⟨pw,0,none⟩) (fun hy=>by have h0:some aO=some pw:=hy;injection h0 with h0;have h1:=Qb.out;have h2:=eW.out;omega) _;exact qq.base Bg
         ·exact((dL.out.aF.trans (cr.out.mono dL.out.aF.size)).trans (sG.out.mono Bg)).setCell (p:=⟨pw,0,none⟩) dL.out.base _
        have hkp:aD (fun g=>g=pw) w (ou.setCell ⟨pw,0,none⟩ (.slice (some ⟨aO,0,none⟩) (L.length+1) lS)):=
         (Below.keeps (F:=fun g=>g=pw) (cr.out.trans (sG.out.mono cr.out.size))).setCell (p:=⟨pw,0,none⟩) (fun _=>rfl) _
        have wL:=af hrb;have w5:=af hkp;clear hrb hkp;go_wp2_with fail
        go_ret;exact⟨by trivial,by rw [oI.out,←rQ.out,FC.out,FB.out];exact wL.out,w5.out⟩
end
end Go.Proofs.YtmaijkoopjocdaaGreat
