import Derived.Test.YtmaijkoopjocdaaGreatKW24
import Derived.Test.YtmaijkoopjocdaaGreatKW26
set_option maxRecDepth 100000
set_option maxHeartbeats 64000000
namespace Go.Proofs.YtmaijkoopjocdaaGreat
open Go.RowKit Go.Lib
theorem NK {L:List aC} {k:Nat} {o:aC} (h:L[k]? =some o):L=L.take k++o::L.drop (k+1):=by obtain⟨h1,h2⟩:=lB h;rw [<-h2,<-List.drop_eq_getElem_cons h1,List.take_append_drop]
theorem Yz {L:List aC} (hn:(L.map aC.id).Nodup) {k:Nat} {o:aC} (h:L[k]? =some o):(∀x∈L.take k,x.id≠o.id)∧∀x∈L.drop (k+1),x.id≠o.id:=by rw [NK h,List.map_append,List.map_cons,List.nodup_append,List.nodup_cons]at hn;obtain⟨_,⟨h2,_⟩,h3⟩:=hn;refine⟨fun x hx he=>h3 x.id (List.mem_map.2 ⟨x,hx,rfl⟩) o.id (List.mem_cons_self ..) he,fun x hx he=>h2 (List.mem_map.2 ⟨x,hx,he⟩)⟩
theorem ahJ {L:List aC} (hn:(L.map aC.id).Nodup) {k:Nat} {o:aC} (h:L[k]? =some o):L.filter (fun x=>decide (x.id≠o.id))=L.take k++L.drop (k+1):=by
 obtain⟨h1,h2⟩:=Yz hn h
 conv=>lhs;rw [NK h]
 rw [List.filter_append,List.filter_cons_of_neg cU,List.filter_eq_self.2 fun x hx=>decide_eq_true (h1 x hx),List.filter_eq_self.2 fun x hx=>decide_eq_true (h2 x hx)]
theorem ahK {L:List aC} (hn:(L.map aC.id).Nodup) {k:Nat} {o:aC} (h:L[k]? =some o) (f:aC->aC):L.map (fun x=>if x.id=o.id then f x else x)=L.set k (f o):=by
 obtain⟨h1,h2⟩:=Yz hn h;have hk:=dM h
 conv=>lhs;rw [NK h]
 conv=>rhs;rw [NK h]
 rw [List.map_append,List.map_cons,if_pos rfl,List.set_append_right _ _ (by rw [List.length_take];omega),List.length_take,Nat.min_eq_left bh,Nat.sub_self];show _=L.take k++f o::L.drop (k+1)
 congr 1
 ·conv=>rhs;rw [<-List.map_id' (L.take k)]
  exact List.map_congr_left fun x hx=>if_neg (h1 x hx)
 congr 1
 conv=>rhs;rw [<-List.map_id' (L.drop (k+1))]
 exact List.map_congr_left fun x hx=>if_neg (h2 x hx)
section
variable {W w w':World} {pw:Nat} {L:List aC}
theorem ahL (h:g4 W w pw L) (hl:L.length<=250) (id aq:Int) (hf:L.find? (fun o=>o.id==id)=none):
 Calls Tryz.prog 108 #[.pointer ↑pw,↑id,↑aq] w fun e w'=>e= .returned (.int .i64 26)∧w=w':=by
 have hfr:=CX h hl id;have A:=af hf;clear h hf;go_enter Tryz.func108,Tryz.ntmps108;go_wp2_with fail;refine hfr.mono ?_;rintro e w2 ⟨⟨r,rfl,hr⟩,rfl⟩;obtain rfl:r= -1:=by
  rcases hr with⟨h1,_⟩|⟨k,o',_,_,_,h1⟩
  ·exact h1
  have:=A.o;rw [h1]at this;cases this
 clear hr hfr;go_wp2_with fail;go_ret;exact⟨cF,cF⟩
theorem ahM (h:g4 W w pw L) (hl:L.length<=250) (id aq:Int) {o:aC} (hf:L.find? (fun o=>o.id==id)=some o) (hq:aq<1∨o.aq<aq):
 Calls Tryz.prog 108 #[.pointer ↑pw,↑id,↑aq] w fun e w'=>e= .returned (.int .i64 24)∧w=w':=by
 have hfr:=CX h hl id;have B:=af hf;have D:=af h;clear h hf;go_enter Tryz.func108,Tryz.ntmps108;go_wp2_with fail;refine hfr.mono ?_;rintro e w2 ⟨⟨r,rfl,hr⟩,rfl⟩;obtain⟨k,rfl,ho⟩:∃k:Nat,r=k∧L[k]? =some o:=by
  rcases hr with⟨_,h1⟩|⟨k,o',rfl,h2,_,h1⟩
  ·rw [B.o]at h1;cases h1
  rw [B.o]at h1;injection h1 with h1;subst h1;exact⟨k,rfl,h2⟩
 have G:(k:Int)<(L.length:Int):=by have:=dM ho;omega
 have H:¬(k:Int)<0:=bh;obtain⟨a,c,A,hrw⟩:=D.o.box;obtain⟨_,_,he,_,hrd⟩:=hrw.rd;injection he with C _ F;subst C F;obtain⟨g,off,rfl,_,hc⟩:=hrd k o ho;obtain⟨E,hoq⟩:=ai o.aq;have I:w.cell? ↑pw=some (.slice (some ⟨g,off,none⟩) L.length c):=A.cell 0;have c3:w.cell? ↑(g,off+k*5+3)=↑E:=hoq▸hc 3 _ rfl;rw [hoq]at hq;clear hr hfr hc A hrw hrd ho hoq;rcases hq with hq|hq
 ·go_wp2_with fail;go_ret;exact⟨cF,cF⟩
 by_cases hq1:aq<1
 ·go_wp2_with fail;go_ret;exact⟨cF,cF⟩
 go_wp2_with fail;go_ret;exact⟨cF,cF⟩
theorem ahN (h:g4 W w pw L) (hl:L.length<=250) (hn:(L.map aC.id).Nodup) (id aq:Int) {o:aC} (hf:L.find? (fun o=>o.id==id)=some o) (hq:1<=aq∧aq<=o.aq) (Bz:o.aq<=1000000) (R:List aC) (oT:R=(pF L id aq).1):
 Calls Tryz.prog 108 #[.pointer ↑pw,↑id,↑aq] w fun e w'=>e= .returned ↑()∧g4 W w' pw R∧aK (fun g=>g=pw) w w':=by
 have hfr:=CX h hl id;have b5:=af hf;have M:=af h;have d:o.id=id:=by simpa using List.find?_some hf
 have nW:Ei (∀k,L[k]? =some o->R=if o.aq=aq then L.take k++L.drop (k+1)else L.set k {o with aq:=o.aq-aq}):=af fun k hk=>by
  rw [oT,NC hf,if_neg bh];subst d;split
  ·exact ahJ hn hk
  exact ahK hn hk fun x=>{x with aq:=x.aq-aq}
 have YA:=af h.box;clear h hf oT hn;go_enter Tryz.func108,Tryz.ntmps108;go_wp2_with fail;refine hfr.mono ?_;rintro e w2 ⟨⟨r,rfl,hr⟩,rfl⟩;obtain⟨k,rfl,ho⟩:∃k:Nat,r=k∧L[k]? =some o:=by
  rcases hr with⟨_,h1⟩|⟨k,o',rfl,h2,_,h1⟩
  ·rw [b5.o]at h1;cases h1
  rw [b5.o]at h1;injection h1 with h1;subst h1;exact⟨k,rfl,h2⟩
 have eR:(k:Int)<(L.length:Int):=by have:=dM ho;omega
 have iQ:¬(k:Int)<0:=bh;have YB:=af (nW.o k ho);obtain⟨a,c,Z,hrw⟩:=YA.o;obtain⟨_,_,he,hac,hrd⟩:=hrw.rd;injection he with eb _ iU;subst eb iU;obtain⟨g,off,rfl,_,hc⟩:=hrd k o ho;obtain⟨f0,f1,f2,A,f4⟩:=o;have hq1:¬aq<1:=bh;have hq2:¬A<aq:=by have:=hq.2;dsimp only at this;omega
 have Cw:1<=aq:=hq.1;have w8:A<=1000000:=Bz;have f:=af ho;have i:=af Z;have jA:w.cell? ↑pw=some (.slice (some ⟨g,off,none⟩) L.length c):=Z.cell 0;have c3:w.cell? ↑(g,off+k*5+3)=↑A:=hc 3 _ rfl;have l:off=0:=by
  rcases hrw.2 with⟨hv,_⟩|⟨cI,AY,Mt,hv,_⟩
  ·injection hv with hv;cases hv
  injection hv with hv;injection hv with hv;injection hv with _ hv
 have om:=af hrd;have Bx:=af hac;clear hr hfr hc Z hrw hrd ho hq Bz hac YA nW;subst l;rw [Nat.zero_add]at c3;go_upto_region 6 with(fail);clear c3;have hba:=Below.aI w (.cells #[] 139);have CY:=af (om.o.below hba);have n:Ei (gI.Row (w.alloc (.cells #[] 139)) ↑w (.slice ↑w.heap.size 0 0) []):=af (bl.Row.empty w);have Y:=af hba;have Rw:=(hba.cell (p:=⟨pw,0,none⟩) i.o.lt).trans jA;have Bw:Ei (∀ad,(some ⟨g,0,none⟩:Option Addr)=some ad->∃b off,ad=⟨b,off,none⟩):=af fun ad hab=>by injection hab with hab;exact⟨g,0,hab.symm⟩
 clear hba;go_wp2_with (first
  |(at_builtin;go_loud (refine gI.wV rfl (.tmp 28) (.tmp 32) rfl ↑w (.slice (some ⟨w.heap.size,0,none⟩) 0 0) [] rfl n.o (some ⟨g,0,none⟩) c L rfl Bx.o CY.o (fun ad h _=>Bw.o ad h) (by have h0:([]:List aC).length=0:=rfl;omega) Y.o.size ?_)))
 intro v' w3 O cj yJ;try rw [List.nil_append]at O
 obtain⟨aH,cap,_,rfl,dr,_⟩:=O.Gv (by
  rcases yJ with h5|h5
  ·rw [h5];simp [Value.ownBlock]
  rw [h5];simp)
 have hb3:=iJ cj Y.o (cS n.o);have Q:=i.o.below hb3;have rG:=af O;have aQ:=af hb3;have sZ:=af Q;have G:Ei (w.heap.size<=aH):=af dr;have J:Ei (pw<w.heap.size):=af i.o.lt;have q:=Q.GC;have vo:∀o,w3.frozen? ⟨pw,o,none⟩=false:=fun o=>sZ.o.frozen o;clear O cj yJ hb3 Q dr om CY n Y Bx Bw Rw jA;go_upto_region 7 with(fail);clear q vo;have T:=sZ.o.aW 0 (.slice ↑aH L.length cap);have N:gI.Row (w3.setCell ↑pw (.slice ↑aH L.length cap)) ↑w (.slice ↑aH L.length cap) L:=Hr rG.o (p:=⟨pw,0,none⟩) (fun hy=>by have h0:some aH=some pw:=hy;injection h0 with h0;have h1:=J.o;have h2:=G.o;omega) _;have iZ:aK (fun g=>g=pw∨w.heap.size<=g) w (w3.setCell ↑pw (.slice ↑aH L.length cap)):=(Below.keeps (F:=fun g=>g=pw∨w.heap.size<=g) aQ.o).setCell (p:=⟨pw,0,none⟩) (fun _=> .inl rfl) _;generalize w3.setCell ↑pw (.slice ↑aH L.length cap)=D at*;have YC:Ei (av D pw 181 #[.slice ↑aH L.length cap]):=af T;have fM:=af N;have zP:=af iZ;obtain⟨Yy,oD,_,E,_,hgt⟩:=N.Gv (by simp [Value.ownBlock]);injection E with E Hj NM;injection E with E;injection E with E;subst E;clear Hj NM;have nV:=af hgt;have YD:=T.GC;have c3:D.cell? ↑(aH,k*5+3)=↑A:=by obtain⟨cB,s,h1,_,h3⟩:=N.rd_some k _ f.o;injection h1 with h1;injection h1 with h1 h4;subst h1 h4;have:=h3 3 _ rfl;rw [Nat.zero_add]at this;exact this
 have fz:∀o,D.frozen? ⟨aH,o,none⟩=false:=fun o=>nV.o.frozen o;clear T N iZ hgt aQ rG sZ;refine cP (S:=fun w'=>w'.cell? ↑pw=some (.slice ↑aH L.length cap)∧w'.cell? ⟨aH,k*5+3,none⟩=↑A) ⟨YD,c3⟩ fun hHeld=>?_;refine eX [0,1,2,3,4,5,6,7,8,9,10,11,12,13,14,15,16] ?_;refine dY 17 fun K hK=>?_;go_simp;try rw [show IntKind.i64.wrap (A-aq)=A-aq from IntWalk.i64_in _ bh]
 refine hK.out _ _ ?_;clear hK K hHeld YD c3 fz;have y:gI.Row ((D.setCell ↑(aH,k*5+3) (.int .i64 (A-aq))).drew) w.heap.size (.slice ↑aH L.length cap) (L.set k ⟨f0,f1,f2,A-aq,f4⟩):=(bl.Row.aW fM.o (e':=(⟨f0,f1,f2,A-aq,f4⟩:aC)) (k:=3) (u:= .int .i64 (A-aq)) f.o b9 rfl).below (Below.bO _ 1);have rz:av ((D.setCell ⟨aH,k*5+3,none⟩ (.int .i64 (A-aq))).drew) pw 181 #[.slice ↑aH L.length cap]:=(YC.o.keeps ((aK.refl (fun k=>k=aH) D).setCell (p:=⟨aH,k*5+3,none⟩) (fun _=>rfl) (.int .i64 (A-aq))) (fun h=>by have h1:=J.o;have h2:=G.o;omega)).below (Below.bO _ 1);have ja:aK (fun g=>g=pw∨w.heap.size<=g) w ((D.setCell ↑(aH,k*5+3) (.int .i64 (A-aq))).drew):=(zP.o.setCell (p:=⟨aH,k*5+3,none⟩) (fun _=> .inr G.o) (.int .i64 (A-aq))).trans (Below.keeps (Below.bO _ 1));generalize (D.setCell ⟨aH,k*5+3,none⟩ (.int .i64 (A-aq))).drew=B at*;have P:=af y;have U:=af rz;have vX:=af ja;have t:Ei ((L.set k ⟨f0,f1,f2,A-aq,f4⟩)[k]? =some (⟨f0,f1,f2,A-aq,f4⟩:aC)):=af (by rw [List.getElem?_set_self (dM f.o)]);have YE:=rz.GC;have b8:B.cell? ↑(aH,k*5+3)=some (.int .i64 (A-aq)):=by obtain⟨cB,s,h1,_,h3⟩:=y.rd_some k _ t.o;injection h1 with h1;injection h1 with h1 h4;subst h1 h4;have:=h3 3 _ rfl;rw [Nat.zero_add]at this;exact this
 have V:Ei (W.heap.size<=w.heap.size):=af M.o.aJ.size;have vT:Ei (∀(wx:World) (L':List aC) (g' n' c':Nat),L'.length=n'->av wx pw 181 #[.slice (some ⟨g',0,none⟩) n' c']->gI.Row wx ↑w (.slice (some ⟨g',0,none⟩) n' c') L'->aK (fun g=>g=pw∨w.heap.size<=g) w wx->g4 W wx pw L'∧aK (fun g=>g=pw) w wx):=af fun wx L' g' n' c' hl' h1 h2 h3=>by
  subst hl';refine⟨⟨⟨_,_,h1,h2.base V.o⟩,M.o.base,M.o.aJ.trans (h3.below (fun g hg=>?_) V.o)⟩,h3.os,h3.tape,h3.output,h3.size,fun k hk hf=>h3.block k hk fun hF=>?_⟩
  ·have h5:=M.o.base;have h6:=V.o;rcases hg with rfl|hg<;>omega
  rcases hF with hF|hF
  ·exact hf hF
  omega
 clear y rz ja fM YC zP;by_cases hz:A=aq
 ·have uN:Ei (R=L.take k++L.drop (k+1)):=af (by rw [YB.o,if_pos hz]);have z:A-aq=0:=bh;rw [z]at b8;have wE:Ei ((L.set k ⟨f0,f1,f2,A-aq,f4⟩).take k=L.take k):=af (by exact List.take_set_of_le (Nat.le_refl _));have nc:Ei ((L.set k ⟨f0,f1,f2,A-aq,f4⟩).drop (k+1)=L.drop (k+1)):=af (by exact List.drop_set_of_lt (Nat.lt_succ_self _));have I:Ei ((L.set k (⟨f0,f1,f2,A-aq,f4⟩:aC)).length=L.length):=af (List.length_set ..);generalize L.set k ⟨f0,f1,f2,A-aq,f4⟩=C at*;clear hz z;have E4:k+1<=L.length:=bh;have hcap:L.length<=cap:=by
   rcases P.o.2 with⟨hv,_⟩|⟨cI,AY,Mt,hv,_,_,hh,_⟩
   ·injection hv with hv;cases hv
   injection hv with _ _ hv;rw [hv,<-I.o];exact hh
  have i1:IntKind.i64.wrap ((k:Int)+1)=(k:Int)+1:=IntWalk.i64_in _ bh;have i2:0<=(k:Int)+1:=bh;have i3:((k:Int)+1).toNat=k+1:=bh;have i4:(k:Int)+1<=(L.length:Int):=bh;have i6:(k:Int)<=(L.length:Int):=bh;have i7:(0:Int)<=(k:Int):=bh;have i8:(k:Int)<=(cap:Int):=bh;have i9:(L.length:Int)<=(cap:Int):=bh;have j1:k<=cap:=bh;have j2:k+1<=cap:=bh;have RE:k<=k+1:=bh;obtain⟨off2,hoff⟩:=aj (if cap=k+1 then 0 else(k+1)*5);have Vm:(if cap=k+1 then(some ⟨aH,0,none⟩:Option Addr)else some ⟨aH,(k+1)*5,none⟩)=some ⟨aH,off2,none⟩:=by rw [hoff];split<;>rfl
  have Cy:=af hoff;clear hoff;go_upto_region 9 with(fail);clear b8;refine cP (S:=fun w'=>w'.cell? ↑pw=some (.slice ↑aH L.length cap)) YE fun hHeld=>?_;clear YE;have cL:Ei (gI.Row B.drew ↑w (.slice ↑aH L.length cap) C):=af (P.o.below (Below.bO B 1));have Ng:Ei (av B.drew pw 181 #[.slice ↑aH L.length cap]):=af (U.o.below (Below.bO B 1));have wT:Ei (aK (fun g=>g=pw∨w.heap.size<=g) w B.drew):=af (vX.o.trans (Below.keeps (Below.bO B 1)));clear P U vX;generalize B.drew=aN at*;have dN:Ei ((C.take k).length=k):=af (by rw [List.length_take,I.o];omega);have xb:Ei ((C.drop (k+1)).length=L.length-(k+1)):=af (by rw [List.length_drop,I.o]);have D9:Ei (gI.fR aN (some ⟨aH,off2,none⟩) (C.drop (k+1))):=af (by
   rw [Cy.o];by_cases YF:cap=k+1
   ·rw [if_pos YF];have h0:C.drop (k+1)= []:=List.eq_nil_of_length_eq_zero (by rw [xb.o];omega);rw [h0];exact bl.fR.nil
   rw [if_neg YF];intro j e hj;rw [List.getElem?_drop]at hj;obtain⟨b,off,h1,h2,h3⟩:=cL.o.rd_some (k+1+j) e hj;injection h1 with h1;injection h1 with h1 h4;subst h1 h4;refine⟨aH,(k+1)*5,rfl,h2,?_⟩;rw [show(k+1)*5+j*gI.m=0+(k+1+j)*gI.m by rw [Nat.add_mul (k+1) j,Nat.zero_add];rfl];exact h3)
  refine eX [0,1,2,3,4,5,6,7,8,9,10,11,12,13] ?_;refine aU 14 fun K hK=>?_;refine gI.s9 dn (.tmp 68) (.tmp 75) dn w.heap.size aH cap k (L.length-(k+1)) (C.take k) dN.o dn (cL.o.front (by rw [I.o];omega)) aH off2 (cap-(k+1)) (C.drop (k+1)) xb.o dn D9.o (L.length-1) bh bh wT.o.size ?_;intro aO YG bf lQ er DT;have X:=fK er;have zU:=Ng.o.keeps X (fun hy=>by injection hy with hy;have h1:=J.o;have h2:=G.o;omega);have m5:=af lQ;have YH:=af zU;have pS:=af (wT.o.trans (X.more fun g' hg'=> .inr (by injection hg' with hg';rw [<-hg'];exact G.o)));have jx:Ei (w.heap.size<=aO):=af (cS lQ aO rfl);have YI:=zU.GC;have v:∀o,bf.frozen? ⟨pw,o,none⟩=false:=fun o=>YH.o.frozen o;refine hK.out _ _ YI (fun hHeld=>?_);clear hK K lQ er DT X zU;refine eX [15,16] ?_;refine dY 17 fun K hK=>?_;go_simp;refine hK.out _ _ ?_;clear hK K hHeld YI v;have H:=af (vT.o (bf.setCell ↑pw (.slice ↑aO (L.length-1) YG)) (C.take k++C.drop (k+1)) aO (L.length-1) YG (by rw [List.length_append,dN.o,xb.o];omega) (YH.o.aW 0 _) (Hr m5.o (p:=⟨pw,0,none⟩) (fun hy=>by have h0:some aO=some pw:=hy;injection h0 with h0;have h1:=J.o;have h2:=jx.o;omega) _) (pS.o.setCell (p:=⟨pw,0,none⟩) (fun _=> .inl rfl) _));go_wp2_with fail;go_ret;exact⟨cF,by rw [uN.o,<-wE.o,<-nc.o];exact H.o.1,H.o.2⟩
 have uN:Ei (R=L.set k ⟨f0,f1,f2,A-aq,f4⟩):=af (by rw [YB.o,if_neg hz]);have z:(A-aq==0)=false:=by rw [beq_eq_false_iff_ne];omega
 have H:=af (vT.o B _ aH L.length cap (List.length_set ..) U.o P.o vX.o);go_wp2_with fail;go_ret;exact⟨cF,by rw [uN.o];exact H.o.1,H.o.2⟩
end
theorem ar4 (q:Int) (H:List aF):decide (0<=fF q 0 H)=kP q H:=by
 rw [vG];unfold kP;cases h:H.findIdx? (fun m=>m.seq==q)with
 |none=>
  rw [List.findIdx?_eq_none_iff]at h;have:(H.any fun x=>x.seq==q)=false:=by rw [List.any_eq_false];intro x hx;rw [h x hx];decide
  rw [this];rfl
 |some k=>obtain⟨m,_,hm,hq⟩:=zk h;have:(H.any fun x=>x.seq==q)=true:=List.any_eq_true.2 ⟨m,hm,by rw [beq_iff_eq];exact hq⟩;rw [this];exact decide_eq_true (by show(0:Int)<=((0+k:Nat):Int);omega)
section
variable {W w:World} {pw n:Nat} {hw:Value} {s:ig} {cc:Nat}
theorem sM.x4 {w':World} {H:List aF} {hw':Value} (h:sM W w pw hw s) (hk:aK (fun g=>hw.ownBlock=some g) w w') (hr:hH.Row w' ↑W hw' H):sM W (w'.setCell ↑(pw,2) hw') pw hw' ⟨s.V,s.seq,H⟩:=by obtain⟨⟨a,c,h1,h2⟩,h3,h4,h5⟩:=h;have ht:∀g,hw.ownBlock=some g->ck w g hH.t:=eo h3;have hb1:=h1.keeps hk (fun e=>(ht pw e).ne h1.aE b9 rfl);have hv1:=h2.keep hk (fun g hg e=>hg.ne (ht g e) b9 rfl) (fun g hg e=>hg.ne (ht g e) b9 rfl);have A:=ct w' pw 2 hw';have hb:=hb1.aW 2 hw';simp only [List.setIfInBounds_toArray,List.set_cons_zero,List.set_cons_succ]at hb;exact⟨⟨a,c,hb,hv1.keep A (fun g hg e=>hg.ne hb1.aE b9 e) (fun g hg e=>hg.ne hb1.aE b9 e)⟩,hr.keep A (fun g hg e=>hg.ne hb1.aE b9 e),h4,(h5.trans (hk.below (cS h3) h5.size)).setCell (p:=⟨pw,2,none⟩) h4 _⟩
theorem ar5 (h:sM W w pw hw s) {v:Value} {b:List Int} (hsl:cZ.eT w v b) (hl:b.length<=900000) (hok:∀z∈b,isByte z) (hd:pg b=none):
 Calls Tryz.prog 25 #[.pointer ↑pw,v] w fun e w'=>e= .returned (.int .i64 12)∧∃hw',sM W w' pw hw' s∧aK (wo pw hw) w w'∧∀g,hw'.ownBlock=some g->hw.ownBlock=some g∨w.heap.size<=g:=by
 have hdec:=MW hsl hl hok;rw [hd]at hdec;unfold Cp at hdec;simp only [Option.getD_none,Option.isSome_none,Bool.false_eq_true,if_false]at hdec;unfold DU aF.cells at hdec;dsimp only at hdec;have B:=af hdec;have H0:=af h;clear hdec h hsl hl hok hd;go_enter Tryz.func25,Tryz.ntmps25;go_wp2_with fail;refine B.o.mono ?_;rintro e w1 ⟨rfl,hb⟩;have A:=af hb;clear hb;go_wp2_with fail;go_ret;have hba:=A.o.trans ((Below.aI w1 (.cells #[↑(),↑(),↑(),↑(),↑(),↑(),.bool false] 86)).mono A.o.size);exact⟨cF,hw,H0.o.below hba,Below.keeps hba,fun g hg=> .inl hg⟩
theorem ar6 (h:sM W w pw hw s) (hk:pL n cc s) (hn:n<=255) (oK:cc<=400000) {v:Value} {b:List Int} (hsl:cZ.eT w v b) (hl:b.length<=900000) (hok:∀z∈b,isByte z) {q ii sd p t c:Int} {im:Bool} (hd:pg b=some ⟨q,ii,sd,p,t,c,im⟩) {r:Int×ig} (hr:jE n s b=r):
 Calls Tryz.prog 25 #[.pointer ↑pw,v] w fun e w'=>e= .returned (.int .i64 r.1)∧∃hw',sM W w' pw hw' r.2∧aK (wo pw hw) w w'∧∀g,hw'.ownBlock=some g->hw.ownBlock=some g∨w.heap.size<=g:=by
 have hdec:=MW hsl hl hok;rw [hd]at hdec;unfold Cp at hdec;simp only [Option.getD_some,Option.isSome_some,if_true]at hdec;unfold aF.cells at hdec;dsimp only at hdec;have bM:Ei (r=(if q<1∨zQ n ⟨q,ii,sd,p,t,c,im⟩=false then(12,s)else if q<=s.seq∨kP q s.H=true then(33,s)else if q-1=s.seq then(0,RX s.H.length ⟨gm ⟨q,ii,sd,p,t,c,im⟩ s.V,q,s.H⟩)else if 4096<=s.H.length then(13,s)else(32,⟨s.V,s.seq,s.H++ [⟨q,ii,sd,p,t,c,im⟩]⟩))):=af (by rw [<-hr];unfold jE;rw [hd]);have hmo:=(FQ hok hd).1;have uW:=af hmo;have oy:=af hdec;have H0:=af h;have dJ:=af hk;have k:=af hk.len;have vR:=af oK;clear hdec h hk hsl hl hok hd hr hmo oK;go_enter Tryz.func25,Tryz.ntmps25;go_wp2_with fail;refine oy.o.mono ?_;rintro e w1 ⟨rfl,hb⟩;obtain⟨ay,dL⟩:=ai w1.heap.size;go_upto_region 2 with(fail);have hba:=Below.aI w1 (.cells #[↑q,↑ii,↑sd,↑p,↑t,↑c,↑im] 86);have fT:av (w1.alloc (.cells #[↑q,↑ii,↑sd,↑p,↑t,↑c,↑im] 86)) ↑w1 86 #[↑q,↑ii,↑sd,↑p,↑t,↑c,↑im]:=av.new _ _ _;rw [dL]at fT;have dc:=af fT;have aS:=af (hb.trans (hba.mono hb.size));have bL:Ei (w.heap.size<=ay):=af (by rw [<-dL];exact hb.size);clear hb hba fT dL oy;generalize w1.alloc (.cells #[↑q,↑ii,↑sd,↑p,↑t,↑c,↑im] 86)=w2 at*;have ot:=af (H0.o.below aS.o);obtain⟨a2,c2,aT,fj⟩:=ot.o.box;obtain⟨G,ch,gU⟩:=ot.o.held.form;subst gU;have jA:=af aT;have e5:=af fj;obtain⟨z,hz⟩:=ai (n6 n ⟨q,ii,sd,p,t,c,im⟩);have ec:=af hz;have P:Ei (∀wx,Below ↑w2 w2 wx->(fun w'=>w'.cell? ↑pw=some (.slice a2 s.V.length c2)∧w'.cell? ↑ay=↑q∧w'.cell? ↑(ay,1)=↑ii∧w'.cell? ↑(ay,2)=↑sd∧w'.cell? ↑(ay,3)=↑p∧w'.cell? ↑(ay,4)=↑t∧w'.cell? ↑(ay,5)=↑c∧w'.cell? ↑(ay,6)=↑im) wx):=af fun wx hb=>by have hx:=jA.o.below hb;have hg:=dc.o.below hb;exact⟨hx.cell 0,hg.cell 0,hg.cell 1,hg.cell 2,hg.cell 3,hg.cell 4,hg.cell 5,hg.cell 6⟩
 have lO:Ei (∀wx,Below ↑w2 w2 wx->Calls Tryz.prog 55 #[.agg #[.slice a2 s.V.length c2],.agg #[↑q,↑ii,↑sd,↑p,↑t,↑c,↑im]] wx fun e w'=>(∃(a3:Option Addr) (pJ c3:Nat),e= .returned (.tuple #[.agg #[.slice a3 pJ c3],↑z])∧(z=0->cg eJ bK w' ↑W (.slice a3 pJ c3) (gm ⟨q,ii,sd,p,t,c,im⟩ s.V)))∧Below wx.heap.size wx w'):=af (fun wx wI=>by
  by_cases h0:z=0
  ·have hf:Az s.V.length ⟨q,ii,sd,p,t,c,im⟩:=by rw [k.o];exact IA.1 (Mg.1 (by rw [ec.o];exact h0))
   obtain⟨jj,sA,hj2⟩:=dJ.o.sz;have:=L2 (m:=⟨q,ii,sd,p,t,c,im⟩) (e5.o.below wI) (Nat.le_trans ot.o.aJ.size wI.size) (by rw [k.o];exact hn) sA (by have:=vR.o;omega) dJ.o.oH hf;refine this.mono ?_;rintro e w' ⟨v',rfl,hv,hb⟩;obtain⟨a3,c3,rfl⟩:=hv.form;exact⟨⟨a3,_,c3,by rw [h0],fun _=>hv⟩,hb⟩
  have:=arI (w:=wx) (a:=a2) (aY:=c2) (n:=s.V.length) ⟨q,ii,sd,p,t,c,im⟩ (by rw [k.o,ec.o];exact h0);rw [k.o,ec.o]at this;rw [k.o];refine this.mono ?_;rintro e w' ⟨rfl,hb⟩;exact⟨⟨_,_,_,rfl,fun h=>absurd h h0⟩,hb⟩)
 clear aT fj hz;go_wp2_with fail;go_cut [6,7] (fun u6 u7 wx=>∃(cX:Nat) (a3:Option Addr) (pJ c3:Nat),u6=↑z∧u7= .pointer ↑cX∧av wx cX 54 #[.slice a3 pJ c3]∧(z=0->cg eJ bK wx ↑W (.slice a3 pJ c3) (gm ⟨q,ii,sd,p,t,c,im⟩ s.V))∧Below ↑w2 w2 wx)
 case first=>
  refine cP (S:=fun w'=>w'.cell? ↑pw=some (.slice a2 s.V.length c2)∧w'.cell? ↑ay=↑q∧w'.cell? ⟨ay,1,none⟩=↑ii∧w'.cell? ⟨ay,2,none⟩=↑sd∧w'.cell? ⟨ay,3,none⟩=↑p∧w'.cell? ⟨ay,4,none⟩=↑t∧w'.cell? ⟨ay,5,none⟩=↑c∧w'.cell? ⟨ay,6,none⟩=↑im) (P.o _ (Below.refl _ _).drew) fun hHeld=>?_;have hb1:Below ↑w2 w2 w2.drew:=Below.bO w2 1;refine eX [0,1,2,3,4] ?_;refine lZ 5 9 (fun K hK=>?_) fun K hK=>?_
  ·go_simp;refine(lO.o _ hb1).mono ?_;rintro e w3 ⟨⟨a3,pJ,c3,rfl,D⟩,hb3⟩;have T:Below ↑w2 w2 w3:=hb1.trans hb3;refine hK.out _ _ (P.o _ T) (fun hHeld=>?_);clear hK K hb1;have hba:=Below.aI w3 (.cells #[.slice none 0 0] 54);have hb4:=T.trans (hba.mono T.size);have M:av (w3.alloc (.cells #[.slice none 0 0] 54)) ↑w3 54 #[.slice none 0 0]:=av.new _ _ _;have hbc:=Below.aI w3 (.cells #[.slice a3 pJ c3] 54);have sy:Ei (av (w3.alloc (.cells #[.slice a3 pJ c3] 54)) ↑w3 54 #[.slice a3 pJ c3]):=af (av.new _ _ _);have y:Ei (z=0->cg eJ bK (w3.alloc (.cells #[.slice a3 pJ c3] 54)) ↑W (.slice a3 pJ c3) (gm ⟨q,ii,sd,p,t,c,im⟩ s.V)):=af fun h0=>(D h0).below hbc;have Q:=af (T.trans (hbc.mono T.size));have Fb:=P.o _ Q.o;have NY:=P.o _ hb4;refine eX [6,7,8] ?_;refine aU 9 fun K hK=>?_;go_simp;refine hK.out _ _ NY (fun hHeld=>?_);clear hK K;have g0:(w3.alloc (.cells #[.slice none 0 0] 54)).cell? ↑w3.heap.size=some (.slice none 0 0):=M.cell 0;have z0:(w3.alloc (.cells #[.slice none 0 0] 54)).frozen? ↑w3.heap.size=false:=M.frozen 0;clear D hb3 T hba hb4 M hbc;refine aU 10 fun K hK=>?_;go_simp;refine hK.out _ _ Fb (fun hHeld=>?_);clear hK K;refine dY 11 fun K hK=>?_;go_simp;refine hK.out _ _ ?_;clear hK K hHeld g0 z0;go_wp2_with fail;go_meet;exact⟨_,a3,pJ,c3,rfl,rfl,sy.o,y.o,Q.o⟩
  go_simp;have hba:=Below.aI w2.drew (.cells #[.slice none 0 0] 54);have hb4:Below ↑w2 w2 (w2.alloc (.cells #[.slice none 0 0] 54)).drew:=hb1.trans (hba.mono hb1.size);refine hK.out _ _ (P.o _ hb4) (fun hHeld=>?_);clear hK K hb1;have M:av (w2.alloc (.cells #[.slice none 0 0] 54)).drew w2.heap.size 54 #[.slice none 0 0]:=av.new _ _ _;refine aU 5 fun K hK=>?_;go_simp;refine(lO.o _ hb4).mono ?_;rintro e w3 ⟨⟨a3,pJ,c3,rfl,D⟩,hb3⟩;have T:Below ↑w2 w2 w3:=hb4.trans (hb3.mono hb4.size);have N:=M.below hb3;refine hK.out _ _ (P.o _ T) (fun hHeld=>?_);clear hK K;have sy:=af (N.aW 0 (.slice a3 pJ c3));have y:Ei (z=0->cg eJ bK (w3.setCell ↑w2.heap.size (.slice a3 pJ c3)) ↑W (.slice a3 pJ c3) (gm ⟨q,ii,sd,p,t,c,im⟩ s.V)):=af fun h0=>(D h0).keep (ct _ ↑w2 0 (.slice a3 pJ c3)) (fun g hg e=>hg.ne N.aE b9 e) (fun g hg e=>hg.ne N.aE b9 e);have Q:=af (T.setCell (p:=⟨w2.heap.size,0,none⟩) (Nat.le_refl _) (.slice a3 pJ c3));have Fb:=P.o _ Q.o;have g0:w3.cell? ↑w2.heap.size=some (.slice none 0 0):=N.cell 0;have z0:w3.frozen? ↑w2.heap.size=false:=N.frozen 0;clear D hb3 T hba hb4 M N;refine eX [6,7,8] ?_;refine aU 10 fun K hK=>?_;go_simp;refine hK.out _ _ Fb (fun hHeld=>?_);clear hK K;refine dY 11 fun K hK=>?_;go_simp;refine hK.out _ _ ?_;clear hK K hHeld g0 z0;go_wp2_with fail;go_meet;exact⟨_,a3,pJ,c3,rfl,rfl,sy.o,y.o,Q.o⟩
 case rest=>
 obtain⟨cX,a3,pJ,c3,rfl,rfl,tr,D,cx⟩:=hcut;obtain⟨L,rfl⟩:=aj wc;have mM:=af tr;have OS:=af D;have bY:=af cx;have aG:=ag aS cx;have cy:=af (dc.o.below cx);have nr:=af (ot.o.below cx);have mZ:=af (jA.o.below cx);have m0:=cy.o.GC;clear tr D cx lO P e5 jA ot dc aS;have BB:Ei (∀wx,Below ↑L L wx->(∃hw',sM W wx pw hw' s∧aK (wo pw (.slice G s.H.length ch)) w wx∧∀g,hw'.ownBlock=some g->(Value.slice G s.H.length ch).ownBlock=some g∨w.heap.size<=g)):=af fun wx hb=>⟨_,nr.o.below hb,Below.keeps (ag aG hb).o,fun g hg=> .inl hg⟩;by_cases h0:z=0
 ·have EY:zQ n ⟨q,ii,sd,p,t,c,im⟩=true:=Mg.1 (by rw [ec.o];exact h0);have JJ:=af EY;have Zj:=af (OS.o h0);subst h0;by_cases hq1:q<1
  ·have R:Ei (r=(12,s)):=af (by rw [bM.o,if_pos (.inl hq1)]);go_wp2_with fail;go_ret;rw [R.o];exact⟨cF,BB.o _ (Below.refl _ _)⟩
  have kS:Ei (r=(if q<=s.seq∨kP q s.H=true then(33,s)else if q-1=s.seq then(0,RX s.H.length ⟨gm ⟨q,ii,sd,p,t,c,im⟩ s.V,q,s.H⟩)else if 4096<=s.H.length then(13,s)else(32,⟨s.V,s.seq,s.H++ [⟨q,ii,sd,p,t,c,im⟩]⟩))):=af (by rw [bM.o,if_neg (by rintro(h|h);exact hq1 h;rw [JJ.o]at h;cases h)]);clear EY bM;go_upto_region 7 with(fail);obtain⟨bb,aP⟩:=ai (decide (q<=s.seq)||kP q s.H);have bp:=af aP;clear aP;have k1:=mZ.o.GD;go_cut [32] (fun u wx=>u=↑bb∧∃nq,wx=L.drewN nq)
  case first=>
   by_cases hle:q<=s.seq
   ·have hb:bb=true:=by rw [<-bp.o,decide_eq_true hle,Bool.true_or]
    subst hb;go_quiet (fail);go_wp2_with fail;go_meet;exact⟨dn,_,rfl⟩
   have hb:decide (0<=fF q 0 s.H)=bb:=by rw [ar4,<-bp.o,decide_eq_false hle,Bool.false_or]
   have aoN:=af fun n=>(zj (nr.o.below (Below.bO L n)) (by have:=dJ.o.hl;have:=vR.o;omega) q).mono fun e w' (h:e= .returned (.int .i64 (fF q 0 s.H))∧L.drewN n=w')=>(⟨h.1,h.2.symm⟩:e= .returned (.int .i64 (fF q 0 s.H))∧w'=L.drewN n);generalize fF q 0 s.H=hz at*;go_quiet ((go_at_call 56;exact Calls.quiet_of_same (aoN.o _)));go_wp2_with fail;go_meet;exact⟨dn,_,rfl⟩
  case rest=>
  obtain⟨rfl,nq,rfl⟩:=hcut;clear k1 m0;have E:Below ↑L L (L.drewN nq):=Below.bO L nq;have JQ:=af E;have I:=af (cy.o.below E);have X:=af (mM.o.below E);have uZ:=af (nr.o.below E);have O:=af (mZ.o.below E);have d:=af (Zj.o.below E);have b7:=ag aG E;have U:Ei (∀wx,Below (L.drewN nq).heap.size (L.drewN nq) wx->(∃hw',sM W wx pw hw' s∧aK (wo pw (.slice G s.H.length ch)) w wx∧∀g,hw'.ownBlock=some g->(Value.slice G s.H.length ch).ownBlock=some g∨w.heap.size<=g)):=af fun wx hb=>BB.o wx (ag JQ hb).o;clear E cy mM nr mZ Zj aG BB JQ;generalize L.drewN nq=B at*;cases bb with
  |true=>have R:Ei (r=(33,s)):=af (by rw [kS.o,if_pos (by have:=bp.o;rw [Bool.or_eq_true]at this;rcases this with h|h;exact .inl (of_decide_eq_true h);exact .inr h)]);go_wp2_with fail;go_ret;rw [R.o];exact⟨cF,U.o _ (Below.refl _ _)⟩
  |false=>
   have rG:Ei (r=(if q-1=s.seq then(0,RX s.H.length ⟨gm ⟨q,ii,sd,p,t,c,im⟩ s.V,q,s.H⟩)else if 4096<=s.H.length then(13,s)else(32,⟨s.V,s.seq,s.H++ [⟨q,ii,sd,p,t,c,im⟩]⟩))):=af (by rw [kS.o,if_neg (by have:=bp.o;rw [Bool.or_eq_false_iff]at this;rintro(h|h);exact absurd h (of_decide_eq_false this.1);rw [this.2]at h;cases h)]);have m0:=I.o.GC;have k1:=O.o.GD;have ar7:=uW.o.seq.2;have y1:IntKind.i64.wrap (q-1)=q-1:=IntWalk.i64_in _ (by dsimp only at ar7;omega);clear kS;by_cases x:q-1=s.seq
   ·have A6:(q-1==s.seq)=true:=by rw [beq_iff_eq];exact x
    have R:Ei (r=(0,RX s.H.length ⟨gm ⟨q,ii,sd,p,t,c,im⟩ s.V,q,s.H⟩)):=af (by rw [rG.o,if_pos x]);clear x;obtain⟨a',c',he⟩:=d.o.form;injection he with e1 e2 bJ;subst e1;subst bJ;subst e2;have e1:(ay=pw)=False:=eq_false (fun e=>I.o.aE.ne O.o.aE b9 e);have e2:(cX=pw)=False:=eq_false (fun e=>X.o.aE.ne O.o.aE b9 e);have bJ:(pw=ay)=False:=eq_false (fun e=>I.o.aE.ne O.o.aE b9 e.symm);have cV:(pw=cX)=False:=eq_false (fun e=>X.o.aE.ne O.o.aE b9 e.symm);go_wp2_with fail;go_quiet (fail);have A:Below ↑B B (B.drewN nq):=Below.bO B nq;have dP:=ag b7 A;have k3:=af (uZ.o.below A);have wH:=af (d.o.below A);have Y:=af (O.o.below A);have m0:(B.drewN nq).cell? ↑ay=↑q:=(I.o.below A).cell 0;have g0:(B.drewN nq).cell? ↑cX=some (.slice a3 (gm ⟨q,ii,sd,p,t,c,im⟩ s.V).length c3):=(X.o.below A).cell 0;have k0:(B.drewN nq).cell? ↑pw=some (.slice a2 s.V.length c2):=Y.o.cell 0;have k1:(B.drewN nq).cell? ↑(pw,1)=↑s.seq:=Y.o.cell 1;have vt:∀o,(B.drewN nq).frozen? ⟨pw,o,none⟩=false:=fun o=>Y.o.frozen o;clear A I X uZ d O b7 U;generalize B.drewN nq=J at*;have Tx:=af ((k3.o.Sc wH.o).Sb q);have rU:Ei (aK (wo pw (.slice G s.H.length ch)) w ((J.setCell ↑pw (.slice a3 (gm ⟨q,ii,sd,p,t,c,im⟩ s.V).length c3)).setCell ↑(pw,1) ↑q)):=af ((((Below.keeps (F:=wo pw (.slice G s.H.length ch)) dP.o).setCell (p:=⟨pw,0,none⟩) (fun _=> .inl rfl) _)).setCell (p:=⟨pw,1,none⟩) (fun _=> .inl rfl) _);go_upto_region 12 with(fail);clear m0 g0 k0 k1 vt e1 e2 bJ cV k3 wH Y;generalize (J.setCell ↑pw (.slice a3 (gm ⟨q,ii,sd,p,t,c,im⟩ s.V).length c3)).setCell ⟨pw,1,none⟩ ↑q=bZ at*;have hf:Az s.V.length ⟨q,ii,sd,p,t,c,im⟩:=by rw [k.o];exact IA.1 JJ.o
    have hlv:(gm ⟨q,ii,sd,p,t,c,im⟩ s.V).length=n:=by rw [CK];exact k.o
    have hmk:∀m∈s.H,Bc (gm ⟨q,ii,sd,p,t,c,im⟩ s.V).length m:=fun m hm=>by rw [hlv];exact dJ.o.hh m hm
    have hsz:∃j,fX (gm ⟨q,ii,sd,p,t,c,im⟩ s.V) j∧j+s.H.length<=500000:=by obtain⟨j,h1,h2⟩:=dJ.o.sz;exact⟨j+1,GY h1,by have:=vR.o;omega⟩
    have sN:=M2 (m:=⟨q,ii,sd,p,t,c,im⟩) hf.sd dJ.o.oH;have Kh:=af (JR Tx.o (by exact Nat.le_trans (Nat.le_of_eq hlv) hn) hsz sN hmk (by show 0<=q;omega) (by exact uW.o.seq.2));clear hf hlv hmk hsz sN;go_wp2_with fail;refine Kh.o.mono ?_;rintro e bW ⟨rfl,hw',dZ,Z,LC⟩;have zn:=af dZ;have w6:Ei (aK (wo pw (.slice G s.H.length ch)) w bW):=af (rU.o.step Z (fun i _ he=> .inl he));have xA:Ei (∀g,hw'.ownBlock=some g->(Value.slice G s.H.length ch).ownBlock=some g∨w.heap.size<=g):=af fun g hg=>by
     rcases LC g hg with h|h
     ·exact .inl h
     exact .inr (Nat.le_trans rU.o.size h)
    clear dZ Z LC Kh;go_wp2_with fail;go_ret;rw [R.o];exact⟨cF,hw',zn.o,w6.o,xA.o⟩
   have A6:(q-1==s.seq)=false:=by rw [beq_eq_false_iff_ne];exact x
   by_cases hfull:4096<=s.H.length
   ·have R:Ei (r=(13,s)):=af (by rw [rG.o,if_neg x,if_pos hfull]);have Bt:(4096:Int)<=(s.H.length:Int):=bh;have k2:∀n,(B.drewN n).cell? ↑(pw,2)=some (.slice G s.H.length ch):=fun n=>(O.o.below (Below.bO B n)).cell 2;go_wp2_with fail;go_quiet (fail);have A:Below ↑B B (B.drewN nq):=Below.bO B nq;have mX:=U.o _ A;go_wp2_with fail;go_ret;rw [R.o];exact⟨cF,mX⟩
   have R:Ei (r=(32,⟨s.V,s.seq,s.H++ [⟨q,ii,sd,p,t,c,im⟩]⟩)):=af (by rw [rG.o,if_neg x,if_neg hfull]);have Bt:¬(4096:Int)<=(s.H.length:Int):=bh;have k2:∀n,(B.drewN n).cell? ↑(pw,2)=some (.slice G s.H.length ch):=fun n=>(O.o.below (Below.bO B n)).cell 2;go_wp2_with fail;go_quiet (fail);have A:Below ↑B B (B.drewN nq):=Below.bO B nq;have dP:=ag b7 A;have k3:=af (uZ.o.below A);have Y:=af (O.o.below A);have Na:=af (I.o.below A);have ar8:=k2 nq;clear A I uZ O b7 U k2 m0 k1;generalize B.drewN nq=J at*;go_upto_region 16 with(fail);have P:Ei (∀wx,Below ↑J J wx->(fun w'=>w'.cell? ↑(pw,2)=some (.slice G s.H.length ch)∧w'.cell? ↑ay=↑q∧w'.cell? ↑(ay,1)=↑ii∧w'.cell? ↑(ay,2)=↑sd∧w'.cell? ↑(ay,3)=↑p∧w'.cell? ↑(ay,4)=↑t∧w'.cell? ↑(ay,5)=↑c∧w'.cell? ↑(ay,6)=↑im) wx):=af fun wx hb=>by have hx:=Y.o.below hb;have hg:=Na.o.below hb;exact⟨hx.cell 2,hg.cell 0,hg.cell 1,hg.cell 2,hg.cell 3,hg.cell 4,hg.cell 5,hg.cell 6⟩
   refine cP (S:=fun w'=>w'.cell? ⟨pw,2,none⟩=some (.slice G s.H.length ch)∧w'.cell? ↑ay=↑q∧w'.cell? ⟨ay,1,none⟩=↑ii∧w'.cell? ⟨ay,2,none⟩=↑sd∧w'.cell? ⟨ay,3,none⟩=↑p∧w'.cell? ⟨ay,4,none⟩=↑t∧w'.cell? ⟨ay,5,none⟩=↑c∧w'.cell? ⟨ay,6,none⟩=↑im) (P.o _ (Below.refl _ _).drew) fun hHeld=>?_;refine eX [0,1,2,3,4,5] ?_;refine aU 6 fun K hK=>?_;go_simp;have hba:=Below.aI J (.cells #[↑q,↑ii,↑sd,↑p,↑t,↑c,↑im] 86);have mH:Below ↑J J (J.alloc (.cells #[↑q,↑ii,↑sd,↑p,↑t,↑c,↑im] 86)).drew:=hba.drew;have l:Ei (av (J.alloc (.cells #[↑q,↑ii,↑sd,↑p,↑t,↑c,↑im] 86)).drew J.heap.size 86 (⟨q,ii,sd,p,t,c,im⟩:aF).cells.toArray):=af (av.new J _ _);refine hK.out _ _ (P.o _ mH) (fun hHeld=>?_);clear hK K hba;obtain⟨aL,fO⟩:=ai J.heap.size;have uK:=af (k3.o.below mH);have lz:=af mH;have fy:=af fO;rw [fO]at l;try rw [fO]
   clear fO mH;generalize (J.alloc (.cells #[↑q,↑ii,↑sd,↑p,↑t,↑c,↑im] 86)).drew=bZ at*;refine aU 7 fun K hK=>?_;refine hH.step dn (.tmp 78) (.tmp 80) dn W.heap.size (.slice G s.H.length ch) s.H dn uK.o.held aL ⟨q,ii,sd,p,t,c,im⟩ dn l.o.lt l.o.gH bh uK.o.aJ.size ?_;intro v' bW jV gC LC;obtain⟨a9,kp,dZ⟩:=jV.form;rw [List.length_append,List.length_singleton]at dZ;subst dZ;have Z:=fK gC;have C:=(Na.o.below lz.o).keeps Z (fun e=>by have h1:=ki H0.o.held ay e;have h2:=bL.o;omega);have f:=(Y.o.below lz.o).keeps Z (fun e=>(eo uK.o.held pw e).ne (Y.o.below lz.o).aE b9 rfl);have ar9:=af (uK.o.x4 Z jV);have l8:Ei (aK (wo pw (.slice G s.H.length ch)) w (bW.setCell ↑(pw,2) (.slice a9 (s.H.length+1) kp))):=af (((Below.keeps (F:=wo pw (.slice G s.H.length ch)) (ah dP lz).o).step Z (fun i _ he=> .inr he)).setCell (p:=⟨pw,2,none⟩) (fun _=> .inl rfl) _);have Ai:Ei (∀g,(Value.slice a9 (s.H.length+1) kp).ownBlock=some g->(Value.slice G s.H.length ch).ownBlock=some g∨w.heap.size<=g):=af fun g hg=>by
    rcases LC with h|h
    ·exact .inl (by rw [<-h];exact hg)
    rw [hg]at h;injection h with h;refine .inr ?_;rw [h];exact Nat.le_trans dP.o.size lz.o.size
   have M1:=f.Je;have z9:bW.frozen? ↑(pw,2)=false:=f.frozen 2;refine hK.out _ _ ⟨M1,C.cell 0,C.cell 1,C.cell 2,C.cell 3,C.cell 4,C.cell 5,C.cell 6⟩ (fun hHeld=>?_);clear hK K jV gC LC Z C f;refine eX [8,9] ?_;refine dY 10 fun K hK=>?_;go_simp;refine hK.out _ _ ?_;clear hK K hHeld M1 z9 ar8;go_wp2_with fail;go_ret;rw [R.o];exact⟨cF,_,ar9.o,l8.o,Ai.o⟩
 have oF:(z !=0)=true:=by rw [bne_iff_ne];exact h0
 have EY:zQ n ⟨q,ii,sd,p,t,c,im⟩=false:=by
  cases hf:zQ n ⟨q,ii,sd,p,t,c,im⟩with
  |true=>exact absurd (by rw [<-ec.o];exact Mg.2 hf) h0
  |false=>rfl
 have R:Ei (r=(12,s)):=af (by rw [bM.o,if_pos (.inr EY)]);clear EY;clear h0;go_wp2_with fail;go_ret;rw [R.o];exact⟨cF,BB.o _ (Below.refl _ _)⟩
theorem asa (h:sM W w pw hw s) (hk:pL n cc s) (hn:n<=255) (A:cc<=400000) {v:Value} {b:List Int} (hsl:cZ.eT w v b) (hl:b.length<=900000) (hok:∀z∈b,isByte z):
 Calls Tryz.prog 25 #[.pointer ↑pw,v] w fun e w'=>e= .returned (.int .i64 (jE n s b).1)∧∃hw',sM W w' pw hw' (jE n s b).2∧aK (wo pw hw) w w'∧∀g,hw'.ownBlock=some g->hw.ownBlock=some g∨w.heap.size<=g:=by
 cases hd:pg b with
 |none=>
  have e:jE n s b=(12,s):=by unfold jE;rw [hd]
  rw [e];exact ar5 h hsl hl hok hd
 |some m=>obtain⟨q,ii,sd,p,t,c,im⟩:=m;exact ar6 h hk hn A hsl hl hok hd rfl
end
end Go.Proofs.YtmaijkoopjocdaaGreat
