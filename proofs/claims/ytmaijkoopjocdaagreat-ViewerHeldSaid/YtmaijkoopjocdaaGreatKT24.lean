import Derived.Test.YtmaijkoopjocdaaGreatKT23
set_option maxRecDepth 100000
set_option maxHeartbeats 64000000
namespace Go.Proofs.YtmaijkoopjocdaaGreat
open Go.RowKit
theorem L1 {L:List ay} {k:Nat} {o:ay} (h:L[k]? =some o):L=L.take k++o::L.drop (k+1):=by
 obtain⟨h1,h2⟩:=lq h;rw [←h2,←List.drop_eq_getElem_cons h1,List.take_append_drop]
theorem WH {L:List ay} (hn:(L.map ay.id).Nodup) {k:Nat} {o:ay} (h:L[k]? =some o):(∀x∈L.take k,x.id≠o.id)∧∀x∈L.drop (k+1),x.id≠o.id:=by
 rw [L1 h,List.map_append,List.map_cons,List.nodup_append,List.nodup_cons]at hn;obtain⟨_,⟨h2,_⟩,h3⟩:=hn;refine⟨fun x hx he=>h3 x.id (List.mem_map.2 ⟨x,hx,rfl⟩) o.id (List.mem_cons_self ..) he,fun x hx he=>h2 (List.mem_map.2 ⟨x,hx,he⟩)⟩
theorem ae4 {L:List ay} (hn:(L.map ay.id).Nodup) {k:Nat} {o:ay} (h:L[k]? =some o):L.filter (fun x=>decide (x.id≠o.id))=L.take k++L.drop (k+1):=by
 obtain⟨h1,h2⟩:=WH hn h
 conv=>lhs;rw [L1 h]
 rw [List.filter_append,List.filter_cons_of_neg (by simp),List.filter_eq_self.2 fun x hx=>decide_eq_true (h1 x hx),List.filter_eq_self.2 fun x hx=>decide_eq_true (h2 x hx)]
theorem ae5 {L:List ay} (hn:(L.map ay.id).Nodup) {k:Nat} {o:ay} (h:L[k]? =some o) (f:ay→ay):L.map (fun x=>if x.id=o.id then f x else x)=L.set k (f o):=by
 obtain⟨h1,h2⟩:=WH hn h;have hk:=dc h
 conv=>lhs;rw [L1 h]
 conv=>rhs;rw [L1 h]
 rw [List.map_append,List.map_cons,if_pos rfl,List.set_append_right _ _ (by rw [List.length_take];omega),List.length_take,Nat.min_eq_left (by omega),Nat.sub_self];show _=L.take k++f o::L.drop (k+1)
 congr 1
 ·conv=>rhs;rw [←List.map_id' (L.take k)]
  exact List.map_congr_left fun x hx=>if_neg (h1 x hx)
 ·congr 1
  conv=>rhs;rw [←List.map_id' (L.drop (k+1))]
  exact List.map_congr_left fun x hx=>if_neg (h2 x hx)
section
variable {W w w':World} {pw:Nat} {L:List ay}
theorem ae6 (h:gC W w pw L) (hl:L.length≤250) (id ah:Int) (hf:L.find? (fun o=>o.id==id)=none):
 Calls Tryz.prog 108 #[.pointer (some ⟨pw,0,none⟩),.int .i64 id,.int .i64 ah] w fun e w'=>e= .returned (.int .i64 26)∧w=w':=by
 have hfr:=Be h hl id;have cn:=af hf;clear h hf;go_enter Tryz.func108,Tryz.ntmps108
 go_wp2_with fail
 refine hfr.mono ?_;rintro e w2 ⟨⟨r,rfl,hr⟩,rfl⟩
 obtain rfl:r= -1:=by
  rcases hr with⟨h1,_⟩|⟨k,o',_,_,_,h1⟩
  ·exact h1
  ·have:=cn.out;rw [h1]at this;cases this
 clear hr hfr;go_wp2_with fail
 go_ret;exact⟨by trivial,by trivial⟩
theorem ae7 (h:gC W w pw L) (hl:L.length≤250) (id ah:Int) {o:ay} (hf:L.find? (fun o=>o.id==id)=some o) (hq:ah<1∨o.ah<ah):
 Calls Tryz.prog 108 #[.pointer (some ⟨pw,0,none⟩),.int .i64 id,.int .i64 ah] w fun e w'=>e= .returned (.int .i64 24)∧w=w':=by
 have hfr:=Be h hl id;have cn:=af hf;have dL:=af h;clear h hf;go_enter Tryz.func108,Tryz.ntmps108
 go_wp2_with fail
 refine hfr.mono ?_;rintro e w2 ⟨⟨r,rfl,hr⟩,rfl⟩
 obtain⟨k,rfl,ho⟩:∃k:Nat,r=k∧L[k]? =some o:=by
  rcases hr with⟨_,h1⟩|⟨k,o',rfl,h2,_,h1⟩
  ·rw [cn.out]at h1;cases h1
  ·rw [cn.out]at h1;injection h1 with h1;subst h1;exact⟨k,rfl,h2⟩
 have fP:(k:Int)<(L.length:Int):=by have:=dc ho;omega
 have jR:¬(k:Int)<0:=by omega
 obtain⟨a,c,aP,hrw⟩:=dL.out.box;obtain⟨_,_,he,_,hrd⟩:=hrw.rd;injection he with ej _ jK;subst ej jK;obtain⟨g,off,rfl,_,hc⟩:=hrd k o ho;obtain⟨fk,hoq⟩:∃y,o.ah=y:=⟨_,rfl⟩;have jD:w.cell? ⟨pw,0,none⟩=some (.slice (some ⟨g,off,none⟩) L.length c):=aP.cell 0;have c3:w.cell? ⟨g,off+k*5+3,none⟩=some (.int .i64 fk):=hoq▸hc 3 _ rfl;rw [hoq]at hq;clear hr hfr hc aP hrw hrd ho hoq;rcases hq with hq|hq
 ·go_wp2_with fail
  go_ret;exact⟨by trivial,by trivial⟩
 ·by_cases hq1:ah<1
  ·go_wp2_with fail
   go_ret;exact⟨by trivial,by trivial⟩
  ·go_wp2_with fail
   go_ret;exact⟨by trivial,by trivial⟩
theorem ae8 (h:gC W w pw L) (hl:L.length≤250) (hn:(L.map ay.id).Nodup) (id ah:Int) {o:ay} (hf:L.find? (fun o=>o.id==id)=some o) (hq:1≤ah∧ah≤o.ah) (zK:o.ah≤1000000) (R:List ay) (nX:R=(oz L id ah).1):
 Calls Tryz.prog 108 #[.pointer (some ⟨pw,0,none⟩),.int .i64 id,.int .i64 ah] w fun e w'=>e= .returned (.int .i64 0)∧gC W w' pw R∧aD (fun g=>g=pw) w w':=by
 have hfr:=Be h hl id;have cn:=af hf;have dL:=af h;have ae9:o.id=id:=by simpa using List.find?_some hf
 have oI:Hid (∀k,L[k]? =some o→R=if o.ah=ah then L.take k++L.drop (k+1)else L.set k {o with ah:=o.ah-ah}):=af fun k hk=>by
  rw [nX,LQ hf,if_neg (by omega)];subst ae9;split
  ·exact ae4 hn hk
  ·exact ae5 hn hk fun x=>{x with ah:=x.ah-ah}
 have WI:=af h.box;clear h hf nX hn;go_enter Tryz.func108,Tryz.ntmps108
 go_wp2_with fail
 refine hfr.mono ?_;rintro e w2 ⟨⟨r,rfl,hr⟩,rfl⟩
 obtain⟨k,rfl,ho⟩:∃k:Nat,r=k∧L[k]? =some o:=by
  rcases hr with⟨_,h1⟩|⟨k,o',rfl,h2,_,h1⟩
  ·rw [cn.out]at h1;cases h1
  ·rw [cn.out]at h1;injection h1 with h1;subst h1;exact⟨k,rfl,h2⟩
 have fP:(k:Int)<(L.length:Int):=by have:=dc ho;omega
 have jR:¬(k:Int)<0:=by omega
 have WJ:=af (oI.out k ho);obtain⟨a,c,aP,hrw⟩:=WI.out;obtain⟨_,_,he,hac,hrd⟩:=hrw.rd;injection he with ej _ jK;subst ej jK;obtain⟨g,off,rfl,_,hc⟩:=hrd k o ho;obtain⟨f0,f1,f2,fk,f4⟩:=o;have hq1:¬ah<1:=by omega
 have hq2:¬fk<ah:=by have:=hq.2;dsimp only at this;omega
 have xY:1≤ah:=hq.1;have sB:fk≤1000000:=zK;have e6:=af ho;have lJ:=af aP;have jD:w.cell? ⟨pw,0,none⟩=some (.slice (some ⟨g,off,none⟩) L.length c):=aP.cell 0;have c3:w.cell? ⟨g,off+k*5+3,none⟩=some (.int .i64 fk):=hc 3 _ rfl
 have afa:off=0:=by
  rcases hrw.2 with⟨hv,_⟩|⟨c8,y5,Kt,hv,_⟩
  ·injection hv with hv;cases hv
  ·injection hv with hv;injection hv with hv;injection hv with _ hv
 have rI:=af hrd;have zI:=af hac;clear hr hfr hc aP hrw hrd ho hq zK hac WI oI;subst afa;rw [Nat.zero_add]at c3;go_upto_region 6 with(fail)
 clear c3;have hba:=Below.aA w (.cells #[] 139);have IG:=af (rI.out.below hba);have gy:Hid (fX.Row (w.alloc (.cells #[] 139)) w.heap.size (.slice (some ⟨w.heap.size,0,none⟩) 0 0) []):=af (aY.Row.empty w);have aT:=af hba;have P8:=(hba.cell (p:=⟨pw,0,none⟩) lJ.out.lt).trans jD;have zH:Hid (∀ad,(some ⟨g,0,none⟩:Option Addr)=some ad→∃b off,ad=⟨b,off,none⟩):=af fun ad hab=>by injection hab with hab;exact⟨g,0,hab.symm⟩
 clear hba
 go_wp2_with (first
  |(at_builtin;go_loud (refine fX.vN rfl (.tmp 28) (.tmp 32) rfl w.heap.size (.slice (some ⟨w.heap.size,0,none⟩) 0 0) [] rfl gy.out (some ⟨g,0,none⟩) c L rfl zI.out IG.out zH.out (by have h0:([]:List ay).length=0:=rfl;omega) aT.out.size ?_)))
 intro v' w3 j4 bU wZ;try rw [List.nil_append]at j4
 obtain⟨az,cap,_,rfl,c6,_⟩:=j4.Ev (by
  rcases wZ with h5|h5
  ·rw [h5];simp [Value.ownBlock]
  ·rw [h5];simp)
 have hb3:=gF bU aT.out (cx gy.out);have Qc:=lJ.out.below hb3;have nM:=af j4;have aN:=af hb3;have rz:=af Qc;have zJ:Hid (w.heap.size≤az):=af c6;have L2:Hid (pw<w.heap.size):=af lJ.out.lt;have afb:w3.cell? ⟨pw,0,none⟩=some (.slice (some ⟨g,0,none⟩) L.length c):=Qc.cell 0;have td:∀o,w3.frozen? ⟨pw,o,none⟩=false:=fun o=>rz.out.frozen o;clear j4 bU wZ hb3 Qc c6 rI IG gy aT zI zH P8 jD;go_upto_region 7 with(fail)
 clear afb td;have Qd:=rz.out.aQ 0 (.slice (some ⟨az,0,none⟩) L.length cap);have hO:fX.Row (w3.setCell ⟨pw,0,none⟩ (.slice (some ⟨az,0,none⟩) L.length cap)) w.heap.size (.slice (some ⟨az,0,none⟩) L.length cap) L:=FA nM.out (p:=⟨pw,0,none⟩) (fun hy=>by have h0:some az=some pw:=hy;injection h0 with h0;have h1:=L2.out;have h2:=zJ.out;omega) _;have jB:aD (fun g=>g=pw∨w.heap.size≤g) w (w3.setCell ⟨pw,0,none⟩ (.slice (some ⟨az,0,none⟩) L.length cap)):=(Below.keeps (F:=fun g=>g=pw∨w.heap.size≤g) aN.out).setCell (p:=⟨pw,0,none⟩) (fun _=> .inl rfl) _;generalize w3.setCell ⟨pw,0,none⟩ (.slice (some ⟨az,0,none⟩) L.length cap)=av at*;have WK:Hid (aj av pw 181 #[.slice (some ⟨az,0,none⟩) L.length cap]):=af Qd;have fL:=af hO;have x7:=af jB;obtain⟨Qa,nj,_,jq,_,hgt⟩:=hO.Ev (by simp [Value.ownBlock]);injection jq with jq Fv afc;injection jq with jq;injection jq with jq;subst jq;clear Fv afc;have sX:=af hgt;have WL:av.cell? ⟨pw,0,none⟩=some (.slice (some ⟨az,0,none⟩) L.length cap):=Qd.cell 0
 have c3:av.cell? ⟨az,k*5+3,none⟩=some (.int .i64 fk):=by
  obtain⟨ck,afd,h1,_,h3⟩:=hO.rd_some k _ e6.out;injection h1 with h1;injection h1 with h1 h4;subst h1 h4;have:=h3 3 _ rfl;rw [Nat.zero_add]at this;exact this
 have fz:∀o,av.frozen? ⟨az,o,none⟩=false:=fun o=>sX.out.frozen o;clear Qd hO jB hgt aN nM rz;refine cF (S:=fun w'=>w'.cell? ⟨pw,0,none⟩=some (.slice (some ⟨az,0,none⟩) L.length cap)∧w'.cell? ⟨az,k*5+3,none⟩=some (.int .i64 fk)) (by kernel_rfl) ⟨WL,c3⟩ (fun hHeld=>?_);refine ai 0 ?_;refine ai 1 ?_;refine ai 2 ?_;refine ai 3 ?_;refine ai 4 ?_;refine ai 5 ?_;refine ai 6 ?_;refine ai 7 ?_;refine ai 8 ?_;refine ai 9 ?_;refine ai 10 ?_;refine ai 11 ?_;refine ai 12 ?_;refine ai 13 ?_;refine ai 14 ?_;refine ai 15 ?_;refine ai 16 ?_;refine cO 17 fun K hK=>?_;go_simp;try rw [show IntKind.i64.wrap (fk-ah)=fk-ah from IntWalk.i64_in _ (by omega)]
 refine hK.out _ _ ?_;clear hK K hHeld WL c3 fz;have cS:fX.Row ((av.setCell ⟨az,k*5+3,none⟩ (.int .i64 (fk-ah))).drew) w.heap.size (.slice (some ⟨az,0,none⟩) L.length cap) (L.set k ⟨f0,f1,f2,fk-ah,f4⟩):=(aY.Row.aQ fL.out (e':=(⟨f0,f1,f2,fk-ah,f4⟩:ay)) (k:=3) (u:= .int .i64 (fk-ah)) e6.out (by decide) rfl).below (Below.bT _ 1);have qj:aj ((av.setCell ⟨az,k*5+3,none⟩ (.int .i64 (fk-ah))).drew) pw 181 #[.slice (some ⟨az,0,none⟩) L.length cap]:=(WK.out.keeps ((aD.refl (fun k=>k=az) av).setCell (p:=⟨az,k*5+3,none⟩) (fun _=>rfl) (.int .i64 (fk-ah))) (fun h=>by have h1:=L2.out;have h2:=zJ.out;omega)).below (Below.bT _ 1);have nS:aD (fun g=>g=pw∨w.heap.size≤g) w ((av.setCell ⟨az,k*5+3,none⟩ (.int .i64 (fk-ah))).drew):=(x7.out.setCell (p:=⟨az,k*5+3,none⟩) (fun _=> .inr zJ.out) (.int .i64 (fk-ah))).trans (Below.keeps (Below.bT _ 1));generalize (av.setCell ⟨az,k*5+3,none⟩ (.int .i64 (fk-ah))).drew=au at*;have ld:=af cS;have Qe:=af qj;have uh:=af nS;have afe:Hid ((L.set k ⟨f0,f1,f2,fk-ah,f4⟩)[k]? =some (⟨f0,f1,f2,fk-ah,f4⟩:ay)):=af (by rw [List.getElem?_set_self (dc e6.out)]);have WM:au.cell? ⟨pw,0,none⟩=some (.slice (some ⟨az,0,none⟩) L.length cap):=qj.cell 0
 have cj:au.cell? ⟨az,k*5+3,none⟩=some (.int .i64 (fk-ah)):=by
  obtain⟨ck,afd,h1,_,h3⟩:=cS.rd_some k _ afe.out;injection h1 with h1;injection h1 with h1 h4;subst h1 h4;have:=h3 3 _ rfl;rw [Nat.zero_add]at this;exact this
 have Qf:Hid (W.heap.size≤w.heap.size):=af dL.out.aF.size
 have tY:Hid (∀(wx:World) (L':List ay) (g' n' c':Nat),L'.length=n'→aj wx pw 181 #[.slice (some ⟨g',0,none⟩) n' c']→fX.Row wx w.heap.size (.slice (some ⟨g',0,none⟩) n' c') L'→aD (fun g=>g=pw∨w.heap.size≤g) w wx→gC W wx pw L'∧aD (fun g=>g=pw) w wx):=af fun wx L' g' n' c' hl' h1 h2 h3=>by
  subst hl';refine⟨⟨⟨_,_,h1,h2.base Qf.out⟩,dL.out.base,dL.out.aF.trans (h3.below (fun g hg=>?_) Qf.out)⟩,h3.os,h3.tape,h3.output,h3.size,fun k hk hf=>h3.block k hk fun hF=>?_⟩
  ·have h5:=dL.out.base
   have h6:=Qf.out;rcases hg with rfl|hg<;>omega
  ·rcases hF with hF|hF
   ·exact hf hF
   ·omega
 clear cS qj nS fL WK x7;by_cases hz:fk=ah
 ·have sU:Hid (R=L.take k++L.drop (k+1)):=af (by rw [WJ.out,if_pos hz])
  have cQ:fk-ah=0:=by omega
  rw [cQ]at cj;have yu:Hid ((L.set k ⟨f0,f1,f2,fk-ah,f4⟩).take k=L.take k):=af (by exact List.take_set_of_le (Nat.le_refl _));have om:Hid ((L.set k ⟨f0,f1,f2,fk-ah,f4⟩).drop (k+1)=L.drop (k+1)):=af (by exact List.drop_set_of_lt (Nat.lt_succ_self _));have yM:Hid ((L.set k (⟨f0,f1,f2,fk-ah,f4⟩:ay)).length=L.length):=af (List.length_set ..);generalize L.set k ⟨f0,f1,f2,fk-ah,f4⟩=eE at*;clear hz cQ;have LY:k+1≤L.length:=by omega
  have hcap:L.length≤cap:=by
   rcases ld.out.2 with⟨hv,_⟩|⟨c8,y5,Kt,hv,_,_,hh,_⟩
   ·injection hv with hv;cases hv
   ·injection hv with _ _ hv;rw [hv,←yM.out];exact hh
  have i1:IntKind.i64.wrap ((k:Int)+1)=(k:Int)+1:=IntWalk.i64_in _ (by omega);have i2:0≤(k:Int)+1:=by omega
  have i3:((k:Int)+1).toNat=k+1:=by omega
  have i4:(k:Int)+1≤(L.length:Int):=by omega
  have i6:(k:Int)≤(L.length:Int):=by omega
  have i7:(0:Int)≤(k:Int):=by omega
  have i8:(k:Int)≤(cap:Int):=by omega
  have i9:(L.length:Int)≤(cap:Int):=by omega
  have j1:k≤cap:=by omega
  have j2:k+1≤cap:=by omega
  have ai5:k≤k+1:=by omega
  obtain⟨off2,hoff⟩:∃off2,off2=(if cap=k+1 then 0 else(k+1)*5):=⟨_,rfl⟩
  have TF:(if cap=k+1 then(some ⟨az,0,none⟩:Option Addr)else some ⟨az,(k+1)*5,none⟩)=some ⟨az,off2,none⟩:=by
   rw [hoff];split<;>rfl
  have AH:=af hoff;clear hoff;go_upto_region 9 with(fail)
  clear cj;refine cF (S:=fun w'=>w'.cell? ⟨pw,0,none⟩=some (.slice (some ⟨az,0,none⟩) L.length cap)) (by kernel_rfl) WM (fun hHeld=>?_);clear WM;have cH:Hid (fX.Row au.drew w.heap.size (.slice (some ⟨az,0,none⟩) L.length cap) eE):=af (ld.out.below (Below.bT au 1));have Lr:Hid (aj au.drew pw 181 #[.slice (some ⟨az,0,none⟩) L.length cap]):=af (Qe.out.below (Below.bT au 1));have uP:Hid (aD (fun g=>g=pw∨w.heap.size≤g) w au.drew):=af (uh.out.trans (Below.keeps (Below.bT au 1)));clear ld Qe uh;generalize au.drew=aK at*;have dh:Hid ((eE.take k).length=k):=af (by rw [List.length_take,yM.out];omega);have sF:Hid ((eE.drop (k+1)).length=L.length-(k+1)):=af (by rw [List.length_drop,yM.out])
  have y6:Hid (fX.fF aK (some ⟨az,off2,none⟩) (eE.drop (k+1))):=af (by
   rw [AH.out];by_cases WN:cap=k+1
   ·rw [if_pos WN]
    have h0:eE.drop (k+1)= []:=List.eq_nil_of_length_eq_zero (by rw [sF.out];omega);rw [h0];exact aY.fF.nil
   ·rw [if_neg WN]
    intro j e hj;rw [List.getElem?_drop]at hj;obtain⟨b,off,h1,h2,h3⟩:=cH.out.rd_some (k+1+j) e hj;injection h1 with h1;injection h1 with h1 h4;subst h1 h4;refine⟨az,(k+1)*5,rfl,h2,?_⟩;rw [show(k+1)*5+j*fX.m=0+(k+1+j)*fX.m by rw [Nat.add_mul (k+1) j,Nat.zero_add];rfl];exact h3)
  refine ai 0 ?_;refine ai 1 ?_;refine ai 2 ?_;refine ai 3 ?_;refine ai 4 ?_;refine ai 5 ?_;refine ai 6 ?_;refine ai 7 ?_;refine ai 8 ?_;refine ai 9 ?_;refine ai 10 ?_;refine ai 11 ?_;refine ai 12 ?_;refine ai 13 ?_;refine aR 14 fun K hK=>?_;refine fX.o3 (by rfl) (.tmp 68) (.tmp 75) (by rfl) w.heap.size az cap k (L.length-(k+1)) (eE.take k) dh.out (by rfl) (cH.out.front (by rw [yM.out];omega)) az off2 (cap-(k+1)) (eE.drop (k+1)) sF.out (by rfl) y6.out (L.length-1) (by omega) (by omega) uP.out.size ?_;intro aI WO bw l5 dY B2;have Qg:=fe dY;have yc:=Lr.out.keeps Qg (fun hy=>by injection hy with hy;have h1:=L2.out;have h2:=zJ.out;omega);have qL:=af l5;have WQ:=af yc;have oO:=af (uP.out.trans (Qg.more fun g' hg'=> .inr (by injection hg' with hg';rw [←hg'];exact zJ.out)));have n9:Hid (w.heap.size≤aI):=af (cx l5 aI rfl);have WR:bw.cell? ⟨pw,0,none⟩=some (.slice (some ⟨az,0,none⟩) L.length cap):=yc.cell 0;have aff:∀o,bw.frozen? ⟨pw,o,none⟩=false:=fun o=>WQ.out.frozen o;refine hK.out _ _ WR (fun hHeld=>?_);clear hK K l5 dY B2 Qg yc;refine ai 15 ?_;refine ai 16 ?_;refine cO 17 fun K hK=>?_;go_simp;refine hK.out _ _ ?_;clear hK K hHeld WR aff;have bA:=af (tY.out (bw.setCell ⟨pw,0,none⟩ (.slice (some ⟨aI,0,none⟩) (L.length-1) WO)) (eE.take k++eE.drop (k+1)) aI (L.length-1) WO (by rw [List.length_append,dh.out,sF.out];omega) (WQ.out.aQ 0 _) (FA qL.out (p:=⟨pw,0,none⟩) (fun hy=>by have h0:some aI=some pw:=hy;injection h0 with h0;have h1:=L2.out;have h2:=n9.out;omega) _) (oO.out.setCell (p:=⟨pw,0,none⟩) (fun _=> .inl rfl) _));go_wp2_with fail
  go_ret;exact⟨by trivial,by rw [sU.out,←yu.out,←om.out];exact bA.out.1,bA.out.2⟩
 ·have sU:Hid (R=L.set k ⟨f0,f1,f2,fk-ah,f4⟩):=af (by rw [WJ.out,if_neg hz])
  have cQ:(fk-ah==0)=false:=by rw [beq_eq_false_iff_ne];omega
  have bA:=af (tY.out au _ az L.length cap (List.length_set ..) Qe.out ld.out uh.out);go_wp2_with fail
  go_ret;exact⟨by trivial,by rw [sU.out];exact bA.out.1,bA.out.2⟩
end
section
variable {W w w':World} {pw:Nat} {L:List ay}
theorem Ut (h:gC W w pw L) (hl:L.length≤250) (hn:(L.map ay.id).Nodup) (hq:∀o∈L,1≤o.ah∧o.ah≤1000000) (id ah:Int):
 Calls Tryz.prog 108 #[.pointer (some ⟨pw,0,none⟩),.int .i64 id,.int .i64 ah] w fun e w'=>e= .returned (.int .i64 (oz L id ah).2)∧gC W w' pw (oz L id ah).1∧aD (fun g=>g=pw) w w':=by
 cases hf:L.find? (fun o=>o.id==id)with
 |none=>
  rw [Wh hf];exact(ae6 h hl id ah hf).mono fun _ _ ⟨h1,h2⟩=>⟨h1,h2▸h,h2▸aD.refl _ _⟩
 |some o=>
  by_cases hb:ah<1∨o.ah<ah
  ·rw [LQ hf,if_pos hb]
   exact(ae7 h hl id ah hf hb).mono fun _ _ ⟨h1,h2⟩=>⟨h1,h2▸h,h2▸aD.refl _ _⟩
  ·have hc:(oz L id ah).2=0:=by
    rw [LQ hf,if_neg hb];split<;>rfl
   rw [hc];exact ae8 h hl hn id ah hf (by omega) (hq o (List.mem_of_find?_eq_some hf)).2 _ rfl
theorem gC.aC (h:gC W w pw L):bV w pw 181:=by
 obtain⟨⟨a,c,h1,_⟩,_⟩:=h;exact h1.aC
theorem afg (h:gC W w pw L) (hl:L.length≤250) (id side ag ah:Int):
 Calls Tryz.prog 139 #[.pointer (some ⟨pw,0,none⟩),.int .i64 id,.int .i64 side,.int .i64 ag,.int .i64 ah] w fun e w'=>e= .returned (.int .i64 (lW L id side ag ah).2)∧gC W w' pw (lW L id side ag ah).1∧aD (fun g=>g=pw) w w':=by
 cases hb:yp side with
 |false=>
  rw [aeT hb];exact(aeV w pw id side ag ah hb).mono fun _ _ ⟨h1,h2⟩=>⟨h1,h2▸h,h2▸aD.refl _ _⟩
 |true=>
  have hs:side=1∨side=2:=by
   unfold yp at hb
   simpa using hb
  by_cases hq:ah<1∨1000000<ah
  ·rw [aeU hb hq]
   exact(aeW w pw id side ag ah hs hq).mono fun _ _ ⟨h1,h2⟩=>⟨h1,h2▸h,h2▸aD.refl _ _⟩
  ·have vP:1≤ah∧ah≤1000000:=by omega
   cases ht:(L.find? (fun o=>o.id==id)).isSome with
   |true=>
    rw [show lW L id side ag ah=(L,25)by unfold lW;rw [hb,if_neg (by simp),if_neg hq,if_pos ht]];exact(aeX h hl id side ag ah hs vP ht).mono fun _ _ ⟨h1,h2⟩=>⟨h1,h2▸h,h2▸aD.refl _ _⟩
   |false=>
    by_cases hf:250≤L.length
    ·rw [show lW L id side ag ah=(L,13)by unfold lW;rw [hb,if_neg (by simp),if_neg hq,ht,if_neg (by simp),if_pos hf]]
     exact(aeY h (by omega) id side ag ah hs vP ht).mono fun _ _ ⟨h1,h2⟩=>⟨h1,h2▸h,h2▸aD.refl _ _⟩
    ·have he:lW L id side ag ah=((if lV L side ag=true then L.map (lf side)else L).take (m5 L side ag)++ [⟨id,side,ag,ah,lV L side ag⟩]++(if lV L side ag=true then L.map (lf side)else L).drop (m5 L side ag),0):=by
      unfold lW;rw [hb,if_neg (by simp),if_neg hq,ht,if_neg (by simp),if_neg hf]
     rw [he];exact aeZ h (by omega) id side ag ah hs vP ht _ rfl
end
end Go.Proofs.YtmaijkoopjocdaaGreat
namespace Go.Proofs.YtmaijkoopjocdaaGreat
open Go.RowKit Go.Lib
def Ju (x:Nat):List Value:= [.pointer (some ⟨x,0,none⟩)]
theorem agI (x:Nat):∀u∈Ju x,u.oneCell'=true:=by
 intro u hu;simp only [Ju,List.mem_cons,List.not_mem_nil,or_false]at hu;rw [hu];rfl
def Bx:aY Nat:=⟨Ju,1,fun _=>rfl,agI,by omega,134,127,.pointer none,8,Tryz.underlying127,by kernel_rfl,by rfl,by omega⟩
def s6 (p:Prod) (v:Value):Array Value:=#[.string p.code,.slice p.ma p.months.length p.mc,.int .i64 p.tick,.int .i64 p.low,.int .i64 p.high,.int .i64 p.wide,.int .i64 p.rule,.int .i64 p.top,.int .i64 p.least,.int .i64 p.part,.slice p.sa p.settle.length p.sc,v]
structure ek (W w:World) (ps:Nat) (p:Prod) (Q:List Nat) (S:List (List ay)):Prop where
 box:∃a c,aj w ps 129 (s6 p (.slice a Q.length c))∧Bx.Row w W.heap.size (.slice a Q.length c) Q
 len:Q.length=S.length
 nd:Q.Nodup
 CL:∀(i pb:Nat) (L:List ay),Q[i]? =some pb→S[i]? =some L→gC W w pb L
 pv:fZ W p
 base:W.heap.size≤ps
 aF:Below W.heap.size W w
section
variable {W w w':World} {ps pb:Nat} {p:Prod} {Q:List Nat} {S:List (List ay)} {L L':List ay}
theorem gC.keep {F:Nat→Prop} (h:gC W w pb L) (hk:aD F w w') (hp:¬F pb) (hr:∀g,bV w g fX.t→¬F g) (hF:∀g,F g→W.heap.size≤g):gC W w' pb L:=by
 obtain⟨⟨a,c,h1,h2⟩,h3,h4⟩:=h;exact⟨⟨a,c,h1.keeps hk hp,h2.keep hk hr⟩,h3,h4.trans (hk.below hF h4.size)⟩
theorem gC.Ft {k3:World} (h:gC W w pb L) (hb:Below k3.heap.size k3 W):gC k3 w pb L:=by
 obtain⟨⟨a,c,h1,h2⟩,h3,h4⟩:=h;exact⟨⟨a,c,h1,h2.base hb.size⟩,Nat.le_trans hb.size h3,hb.trans (h4.mono hb.size)⟩
theorem ek.aC (h:ek W w ps p Q S):bV w ps 129:=by
 obtain⟨a,c,h1,_⟩:=h.box;exact h1.aC
theorem ek.get (h:ek W w ps p Q S) {i:Nat} (hi:i<S.length):∃pb L,Q[i]? =some pb∧S[i]? =some L∧gC W w pb L:=by
 have hq:i<Q.length:=by rw [h.len];exact hi
 exact⟨_,_,List.getElem?_eq_getElem hq,List.getElem?_eq_getElem hi,h.CL i _ _ (List.getElem?_eq_getElem hq) (List.getElem?_eq_getElem hi)⟩
theorem ek.ow (h:ek W w ps p Q S) {g:Nat} (hg:g∈Q):bV w g 181∧W.heap.size≤g:=by
 obtain⟨i,hi,he⟩:=List.getElem_of_mem hg;have hs:i<S.length:=by rw [←h.len];exact hi
 have:=h.CL i g _ (by rw [List.getElem?_eq_getElem hi,he]) (List.getElem?_eq_getElem hs);exact⟨this.aC,this.base⟩
theorem ek.agJ {F:Nat→Prop} (h:ek W w ps p Q S) (hk:aD F w w') (hF:∀g,F g→bV w g 181∧g ∉ Q∧W.heap.size≤g):ek W w' ps p Q S:=by
 obtain⟨a,c,h1,h2⟩:=h.box;refine⟨⟨a,c,h1.keeps hk (fun e=>(hF _ e).1.ne h1.aC (by decide) rfl),h2.keep hk (fun g hg e=>hg.ne (hF _ e).1 (by decide) rfl)⟩,h.len,h.nd,fun i pb L hq hs=>?_,h.pv,h.base,h.aF.trans (hk.below (fun g e=>(hF g e).2.2) h.aF.size)⟩;exact(h.CL i pb L hq hs).keep hk (fun e=>(hF _ e).2.1 (List.mem_of_getElem? hq)) (fun g hg e=>hg.ne (hF _ e).1 (by decide) rfl) (fun g e=>(hF g e).2.2)
theorem ek.below (h:ek W w ps p Q S) (hb:Below w.heap.size w w'):ek W w' ps p Q S:=
 h.agJ (F:=fun _=>False) (Below.keeps hb) (fun _ e=>e.elim)
theorem ek.Ox (h:ek W w ps p Q S) {i:Nat} (hq:Q[i]? =some pb) (hk:aD (fun g=>g=pb) w w') (hr:gC W w' pb L'):ek W w' ps p Q (S.set i L'):=by
 obtain⟨a,c,h1,h2⟩:=h.box;have ht:=h.ow (List.mem_of_getElem? hq);refine⟨⟨a,c,h1.keeps hk (fun e=>h1.aC.ne ht.1 (by decide) e),h2.keep hk (fun g hg e=>hg.ne ht.1 (by decide) e)⟩,by rw [List.length_set];exact h.len,h.nd,fun j g K hj hs=>?_,h.pv,h.base,h.aF.trans (hk.below (fun g e=>by have e2:g=pb:=e;rw [e2];exact ht.2) h.aF.size)⟩;by_cases hij:i=j
 ·subst hij
  rw [hq]at hj;injection hj with hj;subst hj;rw [List.getElem?_set_self (by have:=dc hq;rw [←h.len];exact this)]at hs;injection hs with hs;subst hs;exact hr
 ·rw [List.getElem?_set_ne hij]at hs
  refine(h.CL j g K hj hs).keep hk (fun e=>?_) (fun g hg e=>hg.ne ht.1 (by decide) e) (fun g e=>by have e2:g=pb:=e;rw [e2];exact ht.2);have e2:g=pb:=e;subst e2;obtain⟨h3,h4⟩:=lq hq;obtain⟨h5,h6⟩:=lq hj;exact hij ((List.getElem_inj h.nd).1 (h4.trans h6.symm))
end
def oK (L:List ay):Int:=match L.findIdx? (fun o=>o.top)with|none=> -1|some i=>i
def zh (p:Prod) (L:List ay) (q:Int):List Int:=
 if p.rule=1 then DR (L.map ay.ah) q else if p.rule=2 then DT (L.map ay.ah) (oK L) p.top p.least q else DS (L.map ay.ah) p.part p.least q
theorem HI (p:Prod) (L:List ay) (q:Int):(zh p L q).length≤L.length:=by
 unfold zh;have h:(L.map ay.ah).length=L.length:=List.length_map ..;split
 ·rw [←h];exact agk _ _
 ·split
  ·rw [←h];exact agl _ _ _ _ _
  ·rw [←h];exact agm _ _ _ _
theorem agn (L:List ay):oK L= -1∨∃t:Nat,oK L=t∧t<L.length:=by
 unfold oK;cases h:L.findIdx? (fun o=>o.top)with
 |none=>exact .inl rfl
 |some i=>exact .inr ⟨i,rfl,by
  obtain⟨h1,_⟩:=List.findIdx?_eq_some_iff_findIdx_eq.1 h;exact h1⟩
theorem Yh {L:List ay} (h:L.findIdx? (fun o=>o.top)=none):oK L= -1:=by unfold oK;rw [h]
theorem Rb {L:List ay} {i:Nat} (h:L.findIdx? (fun o=>o.top)=some i):oK L=i:=by unfold oK;rw [h]
theorem ago (L:List ay) (o:ay):oK (L++ [o])=if o.top=true∧oK L<0 then(L.length:Int)else oK L:=by
 cases h:L.findIdx? (fun o=>o.top)with
 |some i=>
  rw [Rb h,if_neg (by omega)];exact Rb (by rw [List.findIdx?_append,h];rfl)
 |none=>
  rw [Yh h];cases hb:o.top with
  |true=>
   rw [if_pos ⟨rfl,by decide⟩];exact Rb (by rw [List.findIdx?_append,h];simp [List.findIdx?_cons,hb])
  |false=>
   rw [if_neg (by simp)];exact Yh (by rw [List.findIdx?_append,h];simp [List.findIdx?_cons,hb])
theorem agp {p:Prod} (h:cz p=0):1≤p.rule∧p.rule≤3∧0≤p.top∧p.top≤1000000∧1≤p.least∧p.least≤1000∧0≤p.part∧p.part≤100:=by
 unfold cz at h;split at h<;>try cases h
 split at h<;>try cases h
 split at h<;>try cases h
 split at h<;>try cases h
 split at h<;>try cases h
 split at h
 ·cases h
 ·rename_i h1
  split at h
  ·cases h
  ·rename_i h2
   unfold kU at h1;unfold gD at h2;omega
theorem ab5 {w:World} {p:Prod} {v:Value} {L:List ay} (h:fX.e8 w v L) (hz:cz p=0) (hl:L.length≤250) (hx:∀o∈L,1≤o.ah∧o.ah≤1000000) (q:Int):
 Calls Tryz.prog 148 #[p.agg,v,.int .i64 q] w fun e w'=>∃v',e= .returned v'∧eJ.Row w' w.heap.size v' (zh p L q)∧Below w.heap.size w w':=by
 unfold Prod.agg Prod.cells;have e3:Hid (Below w.heap.size w (w.alloc (.cells #[.string p.code,.slice p.ma p.months.length p.mc,.int .i64 p.tick,.int .i64 p.low,.int .i64 p.high,.int .i64 p.wide,.int .i64 p.rule,.int .i64 p.top,.int .i64 p.least,.int .i64 p.part,.slice p.sa p.settle.length p.sc] 25))):=af (Below.aA _ _);have jf:Hid (aj (w.alloc (.cells #[.string p.code,.slice p.ma p.months.length p.mc,.int .i64 p.tick,.int .i64 p.low,.int .i64 p.high,.int .i64 p.wide,.int .i64 p.rule,.int .i64 p.top,.int .i64 p.least,.int .i64 p.part,.slice p.sa p.settle.length p.sc] 25)) w.heap.size 25 p.cells):=af (aj.new _ _ _);have aq:=af (h.below e3.out);have bA:=af hx;have wC:=af (agp hz);obtain⟨a,c,rfl,_,_⟩:=h;obtain⟨n,hn⟩:∃n,L.length=n:=⟨_,rfl⟩
 have Rc:Hid (∀x∈L.map ay.ah,1≤x∧x≤1000000):=af fun x fN=>by
  obtain⟨o,ho,rfl⟩:=List.mem_map.1 fN;exact hx o ho
 have zn:Hid ((L.map ay.ah).length=n):=af (by rw [List.length_map];exact hn);have FZ:Hid (oK L= -1∨∃t:Nat,oK L=t∧t<(L.map ay.ah).length):=af (by rw [List.length_map];exact agn L);rw [hn]at aq hl⊢;have hnb:(n:Int)≤250:=by omega
 have HN:=af hn;clear hx hz hn;go_enter Tryz.func148,Tryz.ntmps148
 go_upto_region 1 with(fail)
 obtain⟨g0,nt⟩:∃g,w.heap.size=g:=⟨_,rfl⟩;have vt:=af nt;rw [nt]at jf⊢;clear nt;unfold Prod.cells at jf;generalize (w.alloc (.cells #[.string p.code,.slice p.ma p.months.length p.mc,.int .i64 p.tick,.int .i64 p.low,.int .i64 p.high,.int .i64 p.wide,.int .i64 p.rule,.int .i64 p.top,.int .i64 p.least,.int .i64 p.part,.slice p.sa p.settle.length p.sc] 25))=w1 at*;have hM:=af e3.out.size;go_wp2_with fail
 go_loopw [7,8,9] (fun v t i w'=>∃(k:Nat) (z:Int),z=oK (L.take k)∧t= .int .i64 z∧i= .int .i64 k∧k≤n∧eJ.Row w' w1.heap.size v ((L.take k).map ay.ah)∧Below w1.heap.size w1 w') (fun _ _ i _=>n-(RowKit.intOf i).toNat)
 case atStart=>exact⟨0,-1,rfl,rfl,rfl,Nat.zero_le _,aY.Row.nil _ _,Below.refl _ _⟩
 case round=>
  obtain⟨k,z,hz,rfl,rfl,hk,hrow,hb⟩:=hrel;obtain⟨ak,rfl⟩:∃bk:World,bk=wr:=⟨_,rfl⟩;by_cases hlt:k<n
  ·have hlt':(k:Int)<(n:Int):=by omega
   obtain⟨o,hok⟩:∃o,L[k]? =some o:=⟨_,List.getElem?_eq_getElem (by rw [HN.out];exact hlt)⟩;obtain⟨b,off,c',he,_,hc⟩:=(aq.out.below hb).get hok;injection he with he hne fu;clear hne;subst he;subst fu;obtain⟨f0,f1,f2,f3,f4⟩:=o;have c3:ak.cell? ⟨b,off+k*5+3,none⟩=some (.int .i64 f3):=hc 3 _ rfl
   have agq:Hid (∀wv,Below w1.heap.size w1 wv→wv.cell? ⟨b,off+k*5+4,none⟩=some (.bool f4)):=af fun wv hb=>by
    obtain⟨b',off',ajp,he,_,hc⟩:=(aq.out.below hb).get hok;injection he with he;injection he with he;injection he with e1 e2;subst e1;subst e2;exact hc 4 _ rfl
   have bK:Hid ((L.take (k+1)).map ay.ah=(L.take k).map ay.ah++ [f3]):=af (by rw [lp hok,List.map_append];rfl);have Jn:Hid (oK (L.take (k+1))=if f4=true∧z<0 then(k:Int)else z):=af (by rw [lp hok,ago,←hz,List.length_take,HN.out,Nat.min_eq_left (Nat.le_of_lt hlt)]);have iI:Hid (((L.take k).map ay.ah).length≤250):=af (by rw [List.length_map,List.length_take];omega);generalize (L.take k).map ay.ah=M at*;obtain⟨a1,c1,hv⟩:=hrow.form;obtain⟨m,hm⟩:∃m,M.length=m:=⟨_,rfl⟩;rw [hm]at hv;subst hv;have cA:=af hm;have aE:=af hb;have hba:=Below.aA ak (.cells #[.int .i64 f3] 2);have iH:=af (hrow.below hba);have cC:=af (hb.trans (hba.mono hb.size));have dN:Hid (aj (ak.alloc (.cells #[.int .i64 f3] 2)) ak.heap.size 2 (kC f3).toArray):=af (aj.new _ _ _);clear hrow hb hz hok hm hc hba
   go_wp2_with (first
    |(at_builtin;go_loud (refine eJ.push rfl (.tmp 16) (.tmp 22) rfl w1.heap.size (.slice a1 m c1) M rfl iH.out ak.heap.size f3 rfl dN.out.lt dN.out.fU (by have:=iI.out;omega) cC.out.size ?_)))
   intro v' aK bO cB ez;have cH:=af bO;have fw:=af (gF cB cC.out (cx iH.out));clear bO cB ez c3 dN iH cC;have dn:=agq.out _ fw.out;cases f4 with
   |true=>
    by_cases hzl:z<0
    ·have s5:Hid ((k:Int)=oK (L.take (k+1))):=af (by rw [Jn.out,if_pos ⟨rfl,hzl⟩])
     go_wp2_with fail
     go_roundw
     case rel=>exact⟨k+1,_,s5.out,rfl,by go_num,hlt,by rw [bK.out];exact cH.out,fw.out⟩
     case measure=>simp [RowKit.intOf];omega
    ·have s5:Hid (z=oK (L.take (k+1))):=af (by rw [Jn.out,if_neg (fun hh=>hzl hh.2)])
     go_wp2_with fail
     go_roundw
     case rel=>exact⟨k+1,_,s5.out,rfl,by go_num,hlt,by rw [bK.out];exact cH.out,fw.out⟩
     case measure=>simp [RowKit.intOf];omega
   |false=>
    have s5:Hid (z=oK (L.take (k+1))):=af (by rw [Jn.out,if_neg (fun hh=>by cases hh.1)]);go_wp2_with fail
    go_roundw
    case rel=>exact⟨k+1,_,s5.out,rfl,by go_num,hlt,by rw [bK.out];exact cH.out,fw.out⟩
    case measure=>simp [RowKit.intOf];omega
  ·have hkn:k=n:=by omega
   rw [hkn,←HN.out,List.take_length]at hrow hz;have aE:=af (e3.out.trans (hb.mono e3.out.size));have aP:=jf.out.below hb;have bp:ak.cell? ⟨g0,6,none⟩=some (.int .i64 p.rule):=aP.cell 6;have aX:ak.cell? ⟨g0,7,none⟩=some (.int .i64 p.top):=aP.cell 7;have bq:ak.cell? ⟨g0,8,none⟩=some (.int .i64 p.least):=aP.cell 8;have bt:ak.cell? ⟨g0,9,none⟩=some (.int .i64 p.part):=aP.cell 9;have hsl:=hrow.sl;have zR:(L.map ay.ah).length≤250:=by rw [zn.out];exact hl
   obtain⟨k1,k2,e7,gY,kX,iJ,Mu,ug⟩:=wC.out;have Fx:=af (aga hsl zR Rc.out q);have Jo:=af (agi hsl zR Rc.out (oK L) p.top p.least q FZ.out ⟨e7,by omega⟩ kX);have h12:=af (agc hsl zR Rc.out p.part p.least q ⟨Mu,ug⟩ kX);have s5:Hid (oK L=z):=af hz.symm;rw [s5.out]at Jo;have pS:Hid (zh p L q=if p.rule=1 then DR (L.map ay.ah) q else if p.rule=2 then DT (L.map ay.ah) z p.top p.least q else DS (L.map ay.ah) p.part p.least q):=af (by rw [←s5.out];rfl);obtain⟨R,nX⟩:∃R,zh p L q=R:=⟨_,rfl⟩;rw [nX]at pS;have oI:=af nX;obtain⟨Jp,Yi⟩:∃Jp,p.rule=Jp:=⟨_,rfl⟩;rw [Yi]at pS bp k1 k2;clear hkn hrow hb hz aP hsl zR nX Yi e7 gY kX iJ Mu ug;have hcs:Jp=1∨Jp=2∨Jp=3:=by omega
   clear k1 k2;rcases hcs with rfl|rfl|rfl
   ·rw [if_pos rfl]at pS
    go_wp2_with fail
    refine Fx.out.mono ?_;rintro e au ⟨v5,rfl,cS,di⟩;have ld:=af (cS.base aE.out.size);have cD:=af (aE.out.trans (di.mono aE.out.size));clear cS di Fx Jo h12;go_wp2_with fail
    go_ret;exact⟨_,rfl,by rw [oI.out,pS.out];exact ld.out,cD.out⟩
   ·rw [if_neg (by omega),if_pos rfl]at pS
    go_wp2_with fail
    refine Jo.out.mono ?_;rintro e au ⟨v5,rfl,cS,di⟩;have ld:=af (cS.base aE.out.size);have cD:=af (aE.out.trans (di.mono aE.out.size));clear cS di Fx Jo h12;go_wp2_with fail
    go_ret;exact⟨_,rfl,by rw [oI.out,pS.out];exact ld.out,cD.out⟩
   ·rw [if_neg (by omega),if_neg (by omega)]at pS
    go_wp2_with fail
    refine h12.out.mono ?_;rintro e au ⟨v5,rfl,cS,di⟩;have ld:=af (cS.base aE.out.size);have cD:=af (aE.out.trans (di.mono aE.out.size));clear cS di Fx Jo h12;go_wp2_with fail
    go_ret;exact⟨_,rfl,by rw [oI.out,pS.out];exact ld.out,cD.out⟩
end Go.Proofs.YtmaijkoopjocdaaGreat
