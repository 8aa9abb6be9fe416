import Derived.Test.YtmaijkoopjocdaaGreatKW51
set_option maxRecDepth 100000
set_option maxHeartbeats 64000000
namespace Go.Proofs.YtmaijkoopjocdaaGreat
open Go.RowKit Go.Lib
def iq (jJ w:World) (u:Value) (b:List Int):Prop:=bl.eT cZ jJ u b∨∃B,cZ.Row w B u b
theorem iq.sl {jJ w:World} {u:Value} {b:List Int} (h:iq jJ w u b) (hb:Below ↑jJ jJ w):bl.eT cZ w u b:=by
 rcases h with h|⟨B,h⟩
 ·exact h.below hb
 exact h.sl
theorem iq.below {jJ w w1:World} {u:Value} {b:List Int} (h:iq jJ w u b) (hb:Below ↑w w w1):iq jJ w1 u b:=by
 rcases h with h|⟨B,h⟩
 ·exact .inl h
 exact .inr ⟨B,h.below hb⟩
theorem iq.one {jJ w w1:World} {u hv hw:Value} {b:List Int} {pv pw n c B:Nat} {s t:ig} (h:iq jJ w u b) (hT:gl jJ w pv pw n hv hw s t c B) (hk:aK (wo pv hv) w w1):iq jJ w1 u b:=by
 rcases h with h|⟨B,h⟩
 ·exact .inl h
 exact .inr ⟨B,hT.row hk h⟩
theorem Nw {n c:Nat} {s:ig} (h:pL n c s):fX s.V (255+c):=by intro p hp;obtain⟨jj,hj,hl⟩:=h.sz;have:=hj p hp;have:=h.hl;omega
theorem asi (x y:Int):isByte (bits .xor .u8 x y):=by unfold bits isByte;rw [IntKind.wrap_u8];omega
theorem asj {w:World} {B g cap j:Nat} {b:List Int} {n:Nat} {z y:Int} (h:cZ.Row w B (.slice ↑g n cap) b) (hz:b[j]? =some z):cZ.Row (w.setCell ↑(g,j) (.int .u8 y)) B (.slice ↑g n cap) (b.set j y):=by have e:=h.aW (j:=j) (e':=y) (k:=0) (u:= .int .u8 y) hz b9 rfl;rw [show j*cZ.m+0=j by show j*1+0=j;omega]at e;exact e
theorem ak6 {V:bG} {n:Nat} (q:Int) (h:fX V 250) (hl:V.length=n) (hn:n<=21):(lK V q).length<=900000:=by unfold lK;have h1:=ak7 q h;have h2:V.length*(52+250*48)<=21*(52+250*48):=Nat.mul_le_mul_right _ bh;rw [List.length_append];have h3:(r3 (rB (r0 V q))).length=4:=rfl;omega
theorem arH (cq:Prod) (la:Option Addr) (BZ:List ed) (lc:Nat) (ta:Option Addr) (Ts:List lY) (tc:Nat) (tb:Int) (W:World) (hx:Qv cq) (hrd:Qm.fR W la BZ) (hcs:∀c∈BZ,E3 c) (hts:Mj W ta Ts) (htb:0<=tb∧tb<=255):
 Calls Tryz.prog 6 #[cq.agg,.slice la BZ.length lc,.slice ta Ts.length tc,.int .u8 tb] W fun e W'=>e= .returned (.bool true)∧Below ↑W W W':=by
 have s1:=ak;have fE:Ei (Below ↑W W (W.alloc (.cells ↑cq 25))):=af (Below.aI _ _);have yL:=afo cq (W.alloc (.cells ↑cq 25)) hx;unfold Prod.agg Prod.cells at yL⊢;have yL:=af yL;have om:=af hrd;have kG:=af hcs;have sJ:=af hts;have oI:=af htb;obtain⟨tC,hnt⟩:=ai Ts.length;have P9:=af hnt;rw [hnt];clear hx hrd hcs hts hnt htb;go_enter Tryz.func6,Tryz.ntmps6;go_upto_region 1 with(fail);obtain⟨g0,og⟩:=ai W.heap.size;have jU:Ei (av (W.alloc (.cells ↑cq 25)) ↑W 25 cq.cells):=af (av.new _ _ _);rw [og]at jU⊢;clear og;generalize (W.alloc (.cells ↑cq 25))=w0 at*;obtain⟨jh,p1,p2,p3,y8,y9,za,zb,ze,zf,zg⟩:=PC.oQ jU.o;go_wp2_with fail;refine yL.o.mono ?_;rintro e w1 ⟨kN,ma,mc,sa,sc,hok,rfl,sD,hb1⟩;have hz:=agk kN hok ma mc sa sc;have DI:1<=(kN.prod ma mc sa sc).tick∧(kN.prod ma mc sa sc).tick<=10:=hok.tick;obtain⟨p,hp⟩:=ai (kN.prod ma mc sa sc);rw [hp]at hz DI sD⊢;have bA:=ag fE hb1;have Bo:=af sD;have ec:=af hz;have Ld:=af DI;clear hok hz DI sD hb1 hp fE yL jU jh p1 p2 p3 y8 y9 za zb ze zf zg;try unfold Prod.agg Prod.cells
 go_upto_region 2 with(fail);have hba:Below ↑w1 w1 (w1.alloc (.cells ↑p 25)):=Below.aI _ _;have iR:PC (w1.alloc (.cells ↑p 25)) ↑w1 p:=PC.new w1 p;obtain⟨aR,nT⟩:=ai w1.heap.size;have aS:=ag bA hba;have Ty:=af (Bo.o.below hba);have g6:Ei (av (w1.alloc (.cells ↑p 25)) ↑w1 25 p.cells):=af (av.new _ _ _);rw [nT]at iR g6⊢;clear nT hba Bo bA;generalize (w1.alloc (.cells ↑p 25))=w2 at*;have gG:=akr p w2 Ty.o ec.o Ld.o (lc:=lc) (fun j c hj=>(om.o.below aS.o) j c hj) kG.o;unfold Prod.agg Prod.cells at gG;have gG:=af gG;obtain⟨jh,p1,p2,p3,y8,y9,za,zb,ze,zf,zg⟩:=iR;go_wp2_with fail;refine gG.o.mono ?_;rintro e w3 ⟨anQ,xv,p6,rfl,M,V,Q,hst,hml,hvl,hmo,fj,Bz,hb3⟩;have aQ:=ag aS hb3;have IE:=af (Ty.o.below hb3);have yE:=af (g6.o.below hb3);obtain⟨am,zh,gx⟩:=hmo.form;obtain⟨cJ,aY,EB⟩:=fj.form;obtain⟨anR,akj,E8⟩:=Bz.form;obtain⟨nm,hnm⟩:=ai M.length;obtain⟨nv,OD⟩:=ai V.length;have wm:Q.length=nv:=by rw [<-hst.len];exact OD
 rw [hnm]at gx;rw [OD]at EB;rw [wm]at E8;subst gx;subst EB;subst E8;have anS:nm<=60000:=bh;have anT:1<=nv∧nv<=26:=by have:=hst.one;omega
 have sq:=af hst;have uW:=af hmo;have e5:=af fj;have OW:=af Bz;have wM:=af hnm;have Tz:=af OD;have tL:=af wm;clear hst hml hvl hmo fj Bz hb3 hnm OD wm gG Ty aS g6 jh p1 p2 p3 y8 y9 za zb ze zf zg;obtain⟨N,iA⟩:=ai ((countP p).toNat);have j6:Ei (nR p.months.length=N):=af (by rw [<-iA,show countP p=nR p.months.length from if_pos ec.o];rfl);have anU:Ei (1<=nR p.months.length):=af (by have h2:=pI ec.o;have h3:=yN p.months.length h2.2;omega);have c8:Ei (N<=21):=af (by have:=BA p;omega);have lU:Ei (∀wx,Below ↑w3 w3 wx->Calls Tryz.prog 22 #[p.agg] wx fun e w'=>∃pw,e= .returned (.pointer (some ⟨pw,0,none⟩))∧sM wx w' pw (.slice none 0 0) (rM N)):=af fun wx wI=>by have:=asc p wx (IE.o.below wI);rw [iA]at this;exact this
 rw [iA]at sq;clear iA;have Dg:=Xn p w3 IE.o ec.o;rw [j6.o]at Dg;unfold Prod.agg Prod.cells at Dg;have Dg:=af Dg;obtain⟨jh,p1,p2,p3,y8,y9,za,zb,ze,zf,zg⟩:=PC.oQ yE.o;go_wp2_with fail;refine Dg.o.mono ?_;rintro e az ⟨pv,rfl,y3⟩;have P:=af y3;clear y3 Dg jh p1 p2 p3 y8 y9 za zb ze zf zg;have NH:=af (yE.o.below P.o.aJ);have n:=lU.o az P.o.aJ;unfold Prod.agg Prod.cells at n;have S0:=af n;clear n lU;obtain⟨jh,p1,p2,p3,y8,y9,za,zb,ze,zf,zg⟩:=PC.oQ NH.o;go_wp2_with fail;refine S0.o.mono ?_;rintro e aA ⟨pw,rfl,dl⟩;have T5:Ei (gl w3 aA pv pw N (.slice none 0 0) (.slice none 0 0) (rM N) (rM N) 0 0):=af
  ⟨P.o.below dl.aJ,dl.Hg P.o.aJ,fun g hg=>(by cases hg),asl N,QH N,fun g hg=>(by cases hg),fun g hg=>(by cases hg),Nat.zero_le _⟩
 clear S0 dl P jh p1 p2 p3 y8 y9 za zb ze zf zg NH yE;go_wp2_with fail;go_loopw [16] (fun i w'=>∃(k cc:Nat) (hv hw:Value) (s t:ig),i=↑k∧k<=60∧cc<=k∧gl w3 w' pv pw N hv hw s t cc 0) (fun i _=>60-(RowKit.intOf i).toNat)
 case atStart=>exact⟨0,0,_,_,_,_,rfl,Nat.zero_le _,Nat.le_refl _,T5.o⟩
 clear T5;obtain⟨k,cc,hv,hw,s,t,rfl,hk,oK,hT⟩:=hrel;obtain⟨ax,rfl⟩:=aj wr;have L:=af hT;clear hT;by_cases hlt:k<tC∧k<60
 ·obtain⟨jF,Cf⟩:=hlt;have g1:(k:Int)<(tC:Int):=bh;have g2:(k:Int)<60:=bh;obtain⟨x,hx⟩:=GB Ts k (by rw [P9.o];exact jF);obtain⟨b,off,Q8,Z,c0,c1,c2,ij,q8,hsl,hby⟩:=sJ.o k x hx;subst Q8;obtain⟨D,xn,j3,d,xc⟩:=x;dsimp only at c0 c1 c2 ij q8 hsl hby;have Bx:Ei (∀wx,Below ↑w3 w3 wx->wx.cell? ↑(b,off+k*3)=↑D∧wx.cell? ↑(b,off+k*3+1)=↑xn∧wx.cell? ↑(b,off+k*3+2)=some (.slice j3 d.length xc)):=af fun wx hb=>
   ⟨((ag aQ hb).o.cell (p:=⟨b,off+k*3,none⟩) Z).trans c0,((ag aQ hb).o.cell (p:=⟨b,off+k*3+1,none⟩) Z).trans c1,((ag aQ hb).o.cell (p:=⟨b,off+k*3+2,none⟩) Z).trans c2⟩
  have iG:Ei (bl.eT cZ w3 (.slice j3 d.length xc) d):=af (hsl.below aQ.o);have fB:=af hby;have I:=af q8;obtain⟨e0,e1,e2⟩:=Bx.o ax L.o.v.aJ;have oc:=af (arC (iG.o.below L.o.v.aJ));clear hx Z c0 c1 c2 hsl hby ij q8;go_wp2_with fail;refine oc.o.mono ?_;rintro e aN ⟨rfl,vu,rfl,Aj⟩;obtain⟨b1,hb1⟩:=ai (d.take 60);rw [hb1]at Aj;have bA:Ei (iq w3 ax vu b1):=af (.inl (Aj w3 iG.o));have nj:Ei (b1.length<=900000):=af (by rw [<-hb1,List.length_take];omega);have SJ:Ei (∀z∈b1,isByte z):=af (by rw [<-hb1];exact fun z hz=>fB.o z (List.mem_of_mem_take hz));clear Aj hb1 oc iG fB e2;obtain⟨sn,qC⟩:=ai (D.tmod 2==0);obtain⟨q1,hq1⟩:=ai ((D==1)&&decide (0<nm));have HA:=af hq1;clear hq1;go_upto_region 12 with(fail);clear qC;go_cut [75] (fun u wx=>u=↑q1∧ax=wx)
  case first=>
   by_cases H:D=1
   ·have k1:(D==1)=true:=by rw [H];rfl
    by_cases hm0:0<nm
    ·have k2:(0:Int)<(nm:Int):=by omega
     have hq:q1=true:=by rw [<-HA.o,k1,decide_eq_true hm0];rfl
     subst hq;clear H;go_wp2_with fail;go_meet;exact⟨dn,rfl⟩
    have k2:¬(0:Int)<(nm:Int):=bh;have hq:q1=false:=by rw [<-HA.o,k1,decide_eq_false hm0];rfl
    subst hq;clear H;go_wp2_with fail;go_meet;exact⟨dn,rfl⟩
   have k1:(D==1)=false:=by rw [beq_eq_false_iff_ne];exact H
   have hq:q1=false:=by rw [<-HA.o,k1];rfl
   subst hq;clear H;go_wp2_with fail;go_meet;exact⟨dn,rfl⟩
  case rest=>
  obtain⟨rfl,rfl⟩:=hcut;refine ‹∀(a:Act) (w:World),Code.wp Tryz.prog _ _ a w->_› _ _ ?_;go_cut [17] (fun vb wx=>(∃bs,iq w3 wx vb bs∧bs.length<=900000∧∀z∈bs,isByte z)∧Below ↑ax ax wx)
  case first=>
   cases q1 with
   |true=>
    have hm0:0<nm:=by have:=HA.o;rw [Bool.and_eq_true]at this;exact of_decide_eq_true this.2
    have hwi:=oq xn 0 ((nm:Int)-1) bh;have cK:=af (Below.aI ax (.cells #[] 5));have FX:=af (v8 xn 0 ((nm:Int)-1) (ax.alloc (.cells #[] 5)) I.o.1 I.o.2 bh bh bh);obtain⟨r,hr⟩:∃r:Nat,ew xn 0 ((nm:Int)-1)=r:=⟨(ew xn 0 ((nm:Int)-1)).toNat,bh⟩;rw [hr]at FX hwi;have n:r<nm:=bh;have alg:(r:Int)<(nm:Int):=bh;obtain⟨m,hm⟩:=GB M r (by rw [wM.o];exact n);obtain⟨ay,alm,B5,hme,dr,xa,hmr⟩:=(uW.o.below L.o.v.aJ).get hm;injection hme with h1 h2 h3;clear h2;subst h1;subst h3;obtain⟨gB,yn,fH⟩:=B5;dsimp only at xa hmr;obtain⟨bm,l⟩:=ai (fL m);have NL:bm.length=35:=by rw [<-l];exact Nl _
    have asm:Ei (∀z∈bm,isByte z):=af (by rw [<-l];exact EO m);rw [l]at hmr;obtain⟨a',c',he,w9,hrd⟩:=hmr.sl;injection he with h1 h2 h3;subst h1;subst h2;subst h3;have uv:=af w9;have om:=af (hrd.below cK.o);have f:=af NL;have H0:=af (bl.Row.empty (Y:=cZ) ax);have d0:(ax.alloc (.cells #[] 5)).cell? ↑(ay,r)=some (.slice gB bm.length fH):=(cK.o.cell (p:=⟨ay,r,none⟩) dr).trans xa;have d1:(ax.alloc (.cells #[] 5)).cell? ↑(b,off+k*3+1)=↑xn:=(Bx.o _ (L.o.v.aJ.trans (cK.o.mono L.o.v.aJ.size))).2.1;clear hr hm dr xa hmr l w9 hrd NL hwi;go_wp2_with fail;refine FX.o.mono ?_;rintro e bf ⟨rfl,rfl⟩;clear FX d1;go_wp2_with (first
     |(at_builtin;go_loud (refine cZ.wV rfl (.tmp 76) (.tmp 88) rfl ↑ax (.slice (some ⟨ax.heap.size,0,none⟩) 0 0) [] rfl H0.o gB fH bm rfl (fun h=>(uv.o.1 h).2) om.o uv.o.2.1 (by rw [f.o];decide) cK.o.size ?_)))
    intro v' bZ qB Cr _;have mH:=iJ Cr cK.o (cS H0.o);replace qB:cZ.Row bZ ↑ax v' bm:=qB;obtain⟨bE,cap,hvb,hcap⟩:=ash qB (by rw [f.o];decide);subst hvb;have pU:=af qB;have lz:=af mH;clear qB Cr mH H0 om uv cK d0;have hlc:bm.length=35:=f.o;have NP:=oq xn 0 ((bm.length:Int)-1) bh;have Ak:=af (v8 xn 0 ((bm.length:Int)-1) bZ I.o.1 I.o.2 bh bh bh);obtain⟨j,hj⟩:∃j:Nat,ew xn 0 ((bm.length:Int)-1)=j:=⟨(ew xn 0 ((bm.length:Int)-1)).toNat,bh⟩;rw [hj]at Ak NP;have hjn:j<bm.length:=bh;have aid:(j:Int)<(bm.length:Int):=bh;obtain⟨z,hz⟩:=GB bm j hjn;obtain⟨g',cap',e',_,cD⟩:=pU.o.at_ j z hz;injection e' with R lX Aq;clear lX Aq;injection R with R;injection R with R lX Aq;clear lX Aq;subst R;have d2:bZ.cell? ↑(bE,j*1)=some (.int .u8 z):=cD 0 _ rfl;rw [Nat.mul_one]at d2;obtain⟨g',cap',cur,cV,_,hbk⟩:=pU.o.Cd (by intro h0;rw [h0]at hz;simp at hz);injection cV with cV su vN;clear su vN;injection cV with cV;injection cV with cV su vN;clear su vN;subst cV;have d3:bZ.frozen? ↑(bE,j)=false:=hbk.frozen j;have d4:bZ.cell? ↑(b,off+k*3+1)=↑xn:=(Bx.o _ (L.o.v.aJ.trans (lz.o.mono L.o.v.aJ.size))).2.1;have Jv:=af (asj (y:=bits .xor .u8 z tb) pU.o hz);have asn:=af (lz.o.setCell (p:=⟨bE,j,none⟩) (cS pU.o bE rfl) (.int .u8 (bits .xor .u8 z tb)));have aso:=af (asi z tb);have asA:IntKind.i64.wrap ((bm.length:Int)-1)=(bm.length:Int)-1:=IntWalk.i64_in _ bh;have alV:bm.length<=60:=bh;have asB:1<=bm.length:=bh;clear hz cD hbk hj NP hlc;go_wp2_with fail;refine Ak.o.mono ?_;rintro e AE ⟨rfl,rfl⟩;clear Ak;go_wp2_with fail;go_meet;exact⟨⟨bm.set j (bits .xor .u8 z tb),.inr ⟨_,Jv.o⟩,by rw [List.length_set,f.o];decide,fun y hy=>by
     rcases List.mem_or_eq_of_mem_set hy with h|h
     ·exact asm.o y h
     rw [h];exact aso.o⟩,asn.o⟩
   |false=>go_wp2_with fail;go_meet;exact⟨⟨b1,bA.o,nj.o,SJ.o⟩,Below.refl _ _⟩
  case rest=>
  obtain⟨⟨bs,aP,Z,hby⟩,hbz⟩:=hcut;obtain⟨J,rfl⟩:=aj wc;have tW:=af (L.o.below hbz);have B0:=af aP;have NW:=af Z;have NZ:=af hby;obtain⟨f0,f1,f2⟩:=Bx.o J tW.o.v.aJ;clear aP Z hby hbz L bA nj SJ e0 e1 f2;obtain⟨ic,hq2⟩:=ai (D==2);refine ‹∀(a:Act) (w:World),Code.wp Tryz.prog _ _ a w->_› _ _ ?_;go_upto_if 110 with(fail);clear hq2;go_cut [17] (fun vc wx=>(∃bs,iq w3 wx vc bs∧bs.length<=900000∧∀z∈bs,isByte z)∧Below ↑J J wx)
  case first=>
   cases ic with
   |true=>
    have hwi:=oq xn 0 ((nv:Int)-1) bh;have FX:=af (v8 xn 0 ((nv:Int)-1) J I.o.1 I.o.2 bh bh bh);obtain⟨r,hr⟩:∃r:Nat,ew xn 0 ((nv:Int)-1)=r:=⟨(ew xn 0 ((nv:Int)-1)).toNat,bh⟩;rw [hr]at FX hwi;have n:r<nv:=bh;have alg:(r:Int)<(nv:Int):=bh;have nr:=af tW.o.v;obtain⟨v,hv1⟩:=GB V r (by rw [Tz.o];exact n);obtain⟨q,hq1⟩:=GB Q r (by rw [tL.o];exact n);obtain⟨j,TA,LU,hvl,LW,OE,LX⟩:=sq.o.at_ r v q hv1 hq1;subst TA;obtain⟨aM,alh,B5,Ao,dr,rY,q9⟩:=e5.o.get hv1;injection Ao with h1 h2 h3;clear h2;subst h1;subst h3;obtain⟨gB,yn,fH⟩:=B5;dsimp only at rY q9;have x8:yn=N:=by obtain⟨_,_,he⟩:=q9.form;injection he with _ he _;rw [he];exact hvl
    rw [x8]at rY q9;obtain⟨dU,ali,EV,LY,rK⟩:=OW.o.at_ r _ hq1;injection EV with h1 h2 h3;clear h2;subst h1;subst h3;have FY:w3.cell? ↑(dU,r*1)=↑j:=rK 0 _ rfl;rw [Nat.mul_one]at FY;have FL:=af q9;have LZ:=af LX;have wu:Ei (∀wx,Below ↑w3 w3 wx->wx.cell? ↑(aM,r)=some (.slice gB N fH)∧wx.cell? ↑(dU,r)=↑j):=af fun wx hb=>⟨(hb.cell (p:=⟨aM,r,none⟩) dr).trans rY,(hb.cell (p:=⟨dU,r,none⟩) LY).trans FY⟩;have c4:Ei (∀wx,Below ↑J J wx->wx.cell? ↑(aM,r)=some (.slice gB N fH)∧wx.cell? ↑(dU,r)=↑j):=af fun wx hb=>wu.o wx (nr.o.aJ.trans (hb.mono nr.o.aJ.size));clear hv1 hq1 dr rY q9 x8 rK FY LY LX;clear hr;go_wp2_with fail;refine FX.o.mono ?_;rintro e aN ⟨rfl,rfl⟩;clear FX;go_upto_region 17 with(fail);have b6:Ei (Below ↑J J J.drew):=af (Below.refl ↑J J).drew;refine cP (S:=fun w'=>w'.cell? ⟨aM,r,none⟩=some (.slice gB N fH)∧w'.cell? ⟨dU,r,none⟩=↑j) (c4.o _ b6.o) fun hHeld=>?_;refine eX [0,1,2,3,4,5,6,7] ?_;refine aU 8 fun K hK=>?_;go_simp;go_at_call 20;have TB:=aio (a:=gB) (c:=fH) (V:=v) (w:=J.drew) (B:=w2.heap.size) (by rw [hvl];exact FL.o.below (nr.o.aJ.trans (b6.o.mono nr.o.aJ.size))) (by rw [hvl];have:=c8.o;omega) (XQ LW LZ.o (by rw [hvl];have:=c8.o;omega)) (j:Int);rw [hvl]at TB;refine TB.mono ?_;rintro e aN ⟨vb,rfl,hrb,bI⟩;obtain⟨ba,bc,Db⟩:=hrb.form;obtain⟨nb,hnb⟩:=ai ((lK v j).length);rw [hnb]at Db;subst Db;have uJ:=af hrb;have b7:=ag b6 bI;refine hK.out _ _ (c4.o _ b7.o) (fun hHeld=>?_);clear hK K hrb bI TB hnb;refine gu _ _ _ _ ?_;refine ej 9 ?_;refine ej 10 ?_;refine ej 11 ?_;refine ej 12 ?_;refine gw ?_;clear hHeld;go_wp2_with fail;go_meet;exact⟨⟨lK v j,.inr ⟨_,uJ.o⟩,ak6 (j:Int) LZ.o hvl c8.o,alj v j⟩,b7.o⟩
   |false=>go_wp2_with fail;go_meet;exact⟨⟨bs,B0.o,NW.o,NZ.o⟩,Below.refl _ _⟩
  case rest=>
  obtain⟨⟨xg,aP,Z,hby⟩,hbz⟩:=hcut;obtain⟨wd,rfl⟩:=aj wc;have A:=af (tW.o.below hbz);have mL:=af aP;have Bp:=af Z;have T:=af hby;clear aP Z hby hbz tW B0 NW NZ f0 f1;refine ‹∀(a:Act) (w:World),Code.wp Tryz.prog _ _ a w->_› _ _ ?_;cases sn with
  |true=>
   obtain⟨rr,GK⟩:=ai ((r4 N s xg).1);have E:=ajs A.o.v A.o.ok bh (mL.o.sl A.o.v.aJ) Bp.o T.o;rw [GK]at E;have nW:=af GK;have GX:=af E;clear E GK;go_wp2_with fail;refine GX.o.mono ?_;rintro e wa ⟨rfl,asp,F,H,HC⟩;have U:=af (A.o.one H);have G:=ar3 U.o (A.o.ok.Nu A.o.rel) bh ((mL.o.one A.o H).sl F.aJ) Bp.o T.o;rw [(N9 A.o.rel).1,nW.o]at G;have X:=af G;have wF:=af F;have Fi:=af H;have Sl:=af HC;clear G F H HC GX;go_wp2_with fail;refine X.o.mono ?_;rintro e wb ⟨rfl,asq,uV,hk2,O⟩;have C:=af (A.o.two wF.o Fi.o Sl.o uV hk2 O (N9 A.o.rel).2 (alk A.o.ok));clear uV hk2 O X wF Fi Sl U A mL nW;have HR:=af (M0 C.o.v C.o.r C.o.rel (by rw [C.o.ok.len];have:=c8.o;omega) (Nw C.o.ok) bh);go_wp2_with fail;refine HR.o.mono ?_;rintro e wc ⟨rfl,hbc⟩;have n4:=af (C.o.below hbc);clear hbc HR C;go_wp2_with fail;go_roundw
   case rel=>exact⟨k+1,cc,_,_,_,_,dR,bh,bh,n4.o⟩
   exact Ej
  |false=>
   obtain⟨rr,GK⟩:=ai ((iF N s xg).1);have E:=Nk A.o.v A.o.ok A.o.rel.a (by have:=c8.o;omega) bh (mL.o.sl A.o.v.aJ) Bp.o T.o;rw [GK]at E;have nW:=af GK;have GX:=af E;clear E GK;go_wp2_with fail;refine GX.o.mono ?_;rintro e wa ⟨rfl,asp,F,H,HC⟩;have U:=af (A.o.one H);have G:=asa U.o (A.o.ok.Nu A.o.rel) (by have:=c8.o;omega) bh ((mL.o.one A.o H).sl F.aJ) Bp.o T.o;rw [(Ok A.o.rel).1,nW.o]at G;have X:=af G;have wF:=af F;have Fi:=af H;have Sl:=af HC;clear G F H HC GX;go_wp2_with fail;refine X.o.mono ?_;rintro e wb ⟨rfl,asq,uV,hk2,O⟩;have C:=af (A.o.two wF.o Fi.o Sl.o uV hk2 O (Ok A.o.rel).2 (EP T.o A.o.ok));clear uV hk2 O X wF Fi Sl U A mL nW;have HR:=af (M0 C.o.v C.o.r C.o.rel (by rw [C.o.ok.len];have:=c8.o;omega) (Nw C.o.ok) bh);go_wp2_with fail;refine HR.o.mono ?_;rintro e wc ⟨rfl,hbc⟩;have n4:=af (C.o.below hbc);clear hbc HR C;go_wp2_with fail;go_roundw
   case rel=>exact⟨k+1,cc+1,_,_,_,_,dR,bh,bh,n4.o⟩
   exact Ej
 have q3:(k:Int)<(tC:Int)->¬(k:Int)<60:=fun h=>bh;by_cases jF:k<tC
 ·have tX:(k:Int)<(tC:Int):=by omega
  have Iq:¬(k:Int)<60:=bh;clear hlt q3;have LA:=af (aQ.o.trans (L.o.v.aJ.mono aQ.o.size));have yh:=af (Hq ax);go_wp2_with fail;refine yh.o.mono ?_;rintro e an1 ⟨rfl,hbk⟩;have NN:=ag LA hbk;clear hbk;go_wp2_with fail;go_ret;exact⟨cF,NN.o⟩
 have tX:¬(k:Int)<(tC:Int):=bh;clear hlt q3;have LA:=af (aQ.o.trans (L.o.v.aJ.mono aQ.o.size));have yh:=af (Hq ax);go_wp2_with fail;refine yh.o.mono ?_;rintro e an1 ⟨rfl,hbk⟩;have NN:=ag LA hbk;clear hbk;go_wp2_with fail;go_ret;exact⟨cF,NN.o⟩
end Go.Proofs.YtmaijkoopjocdaaGreat
