import Derived.Test.YtmaijkoopjocdaaGreatKT50
import Derived.Test.YtmaijkoopjocdaaGreatKT52
import Derived.Test.YtmaijkoopjocdaaGreatKT53
set_option maxRecDepth 100000
set_option maxHeartbeats 64000000
namespace Go.Proofs.YtmaijkoopjocdaaGreat
open Go.RowKit Go.Lib
theorem aes (ct:Prod) (la:Option Addr) (z8:List dB) (lc:Nat) (ta:Option Addr) (Ts:List Int) (tc:Nat) (W:World) (hx:OT ct) (hrd:OH.fF W la z8) (hcs:∀c∈z8,Dl c) (hts:qE W ta Ts):
 Calls Tryz.prog 3 #[ct.agg,.slice la z8.length lc,.slice ta Ts.length tc] W fun e W'=>e= .returned (.bool true)∧Below W.heap.size W W':=by
 have s1:∀(w:World) (o:Obj),(w.alloc o).heap.size=w.heap.size+1:=fun w o=>by simp
 have e3:Hid (Below W.heap.size W (W.alloc (.cells #[.string ct.code,.slice ct.ma ct.months.length ct.mc,.int .i64 ct.tick,.int .i64 ct.low,.int .i64 ct.high,.int .i64 ct.wide,.int .i64 ct.rule,.int .i64 ct.top,.int .i64 ct.least,.int .i64 ct.part,.slice ct.sa ct.settle.length ct.sc] 25))):=af (Below.aA _ _);have w5:=acE ct (W.alloc (.cells #[.string ct.code,.slice ct.ma ct.months.length ct.mc,.int .i64 ct.tick,.int .i64 ct.low,.int .i64 ct.high,.int .i64 ct.wide,.int .i64 ct.rule,.int .i64 ct.top,.int .i64 ct.least,.int .i64 ct.part,.slice ct.sa ct.settle.length ct.sc] 25)) hx;unfold Prod.agg Prod.cells at w5⊢;have w5:=af w5;have rI:=af hrd;have jJ:=af hcs;have q5:=af hts;obtain⟨ud,hnt⟩:∃x,Ts.length=x:=⟨_,rfl⟩;have Oq:=af hnt;rw [hnt];clear hx hrd hcs hts hnt;go_enter Tryz.func3,Tryz.ntmps3
 go_upto_region 1 with(fail)
 obtain⟨g0,nt⟩:∃g,W.heap.size=g:=⟨_,rfl⟩;have jd:Hid (aj (W.alloc (.cells #[.string ct.code,.slice ct.ma ct.months.length ct.mc,.int .i64 ct.tick,.int .i64 ct.low,.int .i64 ct.high,.int .i64 ct.wide,.int .i64 ct.rule,.int .i64 ct.top,.int .i64 ct.least,.int .i64 ct.part,.slice ct.sa ct.settle.length ct.sc] 25)) W.heap.size 25 ct.cells):=af (aj.new _ _ _);rw [nt]at jd⊢;clear nt;generalize (W.alloc (.cells #[.string ct.code,.slice ct.ma ct.months.length ct.mc,.int .i64 ct.tick,.int .i64 ct.low,.int .i64 ct.high,.int .i64 ct.wide,.int .i64 ct.rule,.int .i64 ct.top,.int .i64 ct.least,.int .i64 ct.part,.slice ct.sa ct.settle.length ct.sc] 25))=w0 at*;obtain⟨jO,p1,p2,p3,xm,xo,xp,xq,xu,xw,xx⟩:=PC.nV jd.out;go_wp2_with fail
 refine w5.out.mono ?_;rintro e w1 ⟨kK,ma,mc,sa,sc,hok,rfl,yd,hb1⟩;have hz:=adG kK hok ma mc sa sc;have BS:1≤(kK.prod ma mc sa sc).tick∧(kK.prod ma mc sa sc).tick≤10:=hok.tick;obtain⟨p,hp⟩:∃p,kK.prod ma mc sa sc=p:=⟨_,rfl⟩;rw [hp]at hz BS yd⊢;have bD:=af (e3.out.trans (hb1.mono e3.out.size));have zw:=af yd;have dI:=af hz;have Jn:=af BS;clear hok hz BS yd hb1 hp e3 w5 jd jO p1 p2 p3 xm xo xp xq xu xw xx;try unfold Prod.agg Prod.cells
 go_upto_region 2 with(fail)
 have hba:Below w1.heap.size w1 (w1.alloc (.cells #[.string p.code,.slice p.ma p.months.length p.mc,.int .i64 p.tick,.int .i64 p.low,.int .i64 p.high,.int .i64 p.wide,.int .i64 p.rule,.int .i64 p.top,.int .i64 p.least,.int .i64 p.part,.slice p.sa p.settle.length p.sc] 25)):=Below.aA _ _;have hH:PC (w1.alloc (.cells #[.string p.code,.slice p.ma p.months.length p.mc,.int .i64 p.tick,.int .i64 p.low,.int .i64 p.high,.int .i64 p.wide,.int .i64 p.rule,.int .i64 p.top,.int .i64 p.least,.int .i64 p.part,.slice p.sa p.settle.length p.sc] 25)) w1.heap.size p:=PC.new w1 p;obtain⟨aH,m4⟩:∃g,w1.heap.size=g:=⟨_,rfl⟩;have aT:=af (bD.out.trans (hba.mono bD.out.size));have RQ:=af (zw.out.below hba);have lJ:Hid (aj (w1.alloc (.cells #[.string p.code,.slice p.ma p.months.length p.mc,.int .i64 p.tick,.int .i64 p.low,.int .i64 p.high,.int .i64 p.wide,.int .i64 p.rule,.int .i64 p.top,.int .i64 p.least,.int .i64 p.part,.slice p.sa p.settle.length p.sc] 25)) w1.heap.size 25 p.cells):=af (aj.new _ _ _);rw [m4]at hH lJ⊢;clear m4 hba zw bD;generalize (w1.alloc (.cells #[.string p.code,.slice p.ma p.months.length p.mc,.int .i64 p.tick,.int .i64 p.low,.int .i64 p.high,.int .i64 p.wide,.int .i64 p.rule,.int .i64 p.top,.int .i64 p.least,.int .i64 p.part,.slice p.sa p.settle.length p.sc] 25))=w2 at*;have kx:=ag4 p w2 RQ.out dI.out Jn.out (lc:=lc) (fun j c hj=>(rI.out.below aT.out) j c hj) jJ.out;unfold Prod.agg Prod.cells at kx;have kx:=af kx;obtain⟨jO,p1,p2,p3,xm,xo,xp,xq,xu,xw,xx⟩:=hH;go_wp2_with fail
 refine kx.out.mono ?_;rintro e w3 ⟨ajO,xv,l7,rfl,M,V,Q,hst,hml,hvl,hmo,fh,zK,hb3⟩;have aN:=af (aT.out.trans (hb3.mono aT.out.size));have ahI:=af (RQ.out.below hb3);have ahJ:=af (lJ.out.below hb3);obtain⟨am,xy,fN⟩:=hmo.form;obtain⟨eG,aZ,Zq⟩:=fh.form;obtain⟨ajP,agW,Dt⟩:=zK.form;obtain⟨nm,hnm⟩:∃x,M.length=x:=⟨_,rfl⟩;obtain⟨nv,MS⟩:∃x,V.length=x:=⟨_,rfl⟩;have wJ:Q.length=nv:=by rw [←hst.len];exact MS
 rw [hnm]at fN;rw [MS]at Zq;rw [wJ]at Dt;subst fN;subst Zq;subst Dt;have ajQ:nm≤60000:=by omega
 have ajR:1≤nv∧nv≤26:=by have:=hst.one;omega
 have tL:=af hst;have s4:=af hmo;have eT:=af fh;have ajS:=af zK;have Aa:=af hnm;have ahK:=af MS;have vg:=af wJ;clear hst hml hvl hmo fh zK hb3 hnm MS wJ kx RQ aT lJ jO p1 p2 p3 xm xo xp xq xu xw xx;obtain⟨N,gR⟩:∃x,(countP p).toNat=x:=⟨_,rfl⟩;have gB:Hid (mZ p.months.length=N):=af (by rw [←gR,show countP p=mZ p.months.length from if_pos dI.out];rfl);have ahL:Hid (1≤mZ p.months.length):=af (by have h2:=oC dI.out;have h3:=w6 p.months.length h2.2;omega);have dN:Hid (N≤21):=af (by have:=zL p;omega);rw [gR]at tL;clear gR;have Bt:=Vu p w3 ahI.out dI.out;rw [gB.out]at Bt;unfold Prod.agg Prod.cells at Bt;have Bt:=af Bt;obtain⟨jO,p1,p2,p3,xm,xo,xp,xq,xu,xw,xx⟩:=PC.nV ahJ.out;go_wp2_with fail
 refine Bt.out.mono ?_;rintro e av ⟨pv,rfl,BI⟩;have Zr:=af BI;have MT:Hid (Num N M):=af fun j m hj=>tL.out.ms j m hj;clear BI Bt jO p1 p2 p3 xm xo xp xq xu xw xx;go_wp2_with fail
 go_loopw [13] (fun i w'=>∃(k cc:Nat) (hv:Value),i= .int .i64 k∧k≤nm∧cc≤3*k∧Hid (qC N cc (kO N M k))∧fq w3 w' pv N hv (kO N M k)) (fun i _=>nm-(RowKit.intOf i).toNat)
 case atStart=>exact⟨0,0,_,rfl,Nat.zero_le _,Nat.le_refl _,af (Pd N),Zr.out⟩
 case round=>
  clear Zr;obtain⟨k,cc,hv,rfl,hk,o9,kD,BI⟩:=hrel;obtain⟨ak,rfl⟩:∃bk:World,bk=wr:=⟨_,rfl⟩;have oF:=af BI;clear BI;by_cases hlt:k<nm
  ·have hlt':(k:Int)<(nm:Int):=by omega
   obtain⟨m,hm⟩:∃m,M[k]? =some m:=⟨_,List.getElem?_eq_getElem (by rw [Aa.out];exact hlt)⟩;obtain⟨ap,ajT,JT,hme,c6,v7,hmr⟩:=(s4.out.below oF.out.aF).get hm;injection hme with h1 h2 h3;clear h2;subst h1;subst h3;obtain⟨lz,xn,xc⟩:=JT;dsimp only at v7 hmr;have k7:=Lx oF.out kD.out List.Pairwise.nil (by have:=dN.out;omega) (by omega) hmr.sl (by rw [Ly];decide) (C4 m);rw [Zs MT.out hm]at k7;have dh:=af k7;have hs1:=C5 (b:=j6 m) (C4 m) kD.out;rw [Zs MT.out hm]at hs1;have MU:=af hs1;clear k7 hs1 hm c6 hmr kD;go_wp2_with fail
   refine dh.out.mono ?_;rintro e au ⟨rfl,iA,C6,_,_⟩;have uK:=af C6;have JU:=Pf C6;rw [show decide ((kO N M (k+1)).H.length=0)=true from rfl]at JU;have JU:=af JU;have JV:=VB C6;rw [show(kO N M (k+1)).seq=(k:Int)+1 by unfold kO;dsimp only;omega]at JV;have JV:=af JV;clear C6 oF dh v7;go_wp2_with fail
   refine JU.out.mono ?_;rintro e aK ⟨rfl,rfl⟩;go_wp2_with fail
   refine JV.out.mono ?_;rintro e aK ⟨rfl,rfl⟩;clear JU JV;go_upto_if 65 with(fail)
   go_cut [14] (fun u wx=>∃ci:Int,u= .int .i64 ci∧(0≤ci∧ci≤2)∧au=wx)
   case first=>
    by_cases j3:k<ud
    ·have ahM:(k:Int)<(ud:Int):=by omega
     obtain⟨x,hx⟩:∃x,Ts[k]? =some x:=⟨_,List.getElem?_eq_getElem (by rw [Oq.out];exact j3)⟩;obtain⟨xa,b,off,PG,er,hbc⟩:=q5.out k x hx;subst PG;have ajU:au.cell? ⟨b,off+k,none⟩=some (.int .i64 x):=((aN.out.trans (uK.out.aF.mono aN.out.size)).cell (p:=⟨b,off+k,none⟩) er).trans hbc;have hwi:=nx x 0 2 (by omega);have Ga:=af (uo x 0 2 au xa.1 xa.2 (by omega) (by omega) (by omega));obtain⟨ci,jS⟩:∃c,dW x 0 2=c:=⟨_,rfl⟩;rw [jS]at Ga hwi;clear hx er hbc jS xa;go_wp2_with fail
     refine Ga.out.mono ?_;rintro e aK ⟨rfl,rfl⟩;go_wp2_with fail
     go_meet;exact⟨ci,rfl,hwi,rfl⟩
    ·have ahM:¬(k:Int)<(ud:Int):=by omega
     go_wp2_with fail
     go_meet;exact⟨0,rfl,by omega,rfl⟩
   case rest=>
   obtain⟨ci,rfl,jS,rfl⟩:=hcut;go_wp2_with fail
   go_loopw [14] (fun i w'=>∃(ci:Int) (cc:Nat) (hv:Value),i= .int .i64 ci∧(0≤ci∧ci≤2)∧(cc:Int)≤3*k+3-ci∧Hid (qC N cc (kO N M (k+1)))∧fq w3 w' pv N hv (kO N M (k+1))) (fun i _=>(RowKit.intOf i).toNat)
   case atStart=>exact⟨ci,cc+1,iA,rfl,jS,by omega,MU,uK.out⟩
   case round=>
    clear uK MU jS;obtain⟨ci,cc,hv,rfl,jS,ajV,kD,BI⟩:=hrel;obtain⟨wy,rfl⟩:∃bk:World,bk=wr:=⟨_,rfl⟩;have mj:=af BI;clear BI;by_cases hc0:0<ci
    ·have hwi:=nx (ci*7+k) 0 k (by omega)
     have Ga:=af (uo (ci*7+k) 0 k wy (by omega) (by omega) (by omega) (by omega) (by omega));obtain⟨r,hr⟩:∃r:Nat,dW (ci*7+k) 0 k=r:=⟨(dW (ci*7+k) 0 k).toNat,by omega⟩;rw [hr]at Ga hwi;have Zt:r<k+1:=by omega
     have Jy:r<nm:=by omega
     have ajW:(r:Int)<(nm:Int):=by omega
     obtain⟨m2,hm2⟩:∃m,M[r]? =some m:=⟨_,List.getElem?_eq_getElem (by rw [Aa.out];exact Jy)⟩;obtain⟨ajX,ajY,JT,hme,c6,v7,hmr⟩:=(s4.out.below mj.out.aF).get hm2;injection hme with h1 h2 h3;clear h2;injection h1 with h1;injection h1 with h1;subst h1;obtain⟨kG,yn,iy⟩:=JT;dsimp only at v7 hmr;have k7:=Lx mj.out kD.out List.Pairwise.nil (by have:=dN.out;omega) (by omega) hmr.sl (by rw [Ly];decide) (C4 m2);rw [Zu MT.out hm2 Zt]at k7;have dh:=af k7;have hs1:=C5 (b:=j6 m2) (C4 m2) kD.out;rw [Zu MT.out hm2 Zt]at hs1;have MU:=af hs1;clear k7 hs1 hm2 c6 hmr kD hr h3 hwi mj;go_wp2_with fail
     refine Ga.out.mono ?_;rintro e bW ⟨rfl,rfl⟩;go_wp2_with fail
     refine dh.out.mono ?_;rintro e bW ⟨rfl,rW,Zv,_,_⟩;have C8:=af Zv;clear Zv dh Ga v7;go_wp2_with fail
     go_roundw
     case rel=>exact⟨ci-1,cc+1,rW,by go_num,by omega,by omega,MU,C8.out⟩
     case measure=>simp [RowKit.intOf];omega
    ·have ajZ:¬(0<ci):=hc0
     obtain⟨jj,JW,hjl⟩:=kD.out.sz;have hvl:(kO N M (k+1)).V.length=N:=kD.out.len;have Zw:=af (LB mj.out (by rw [hvl];have:=dN.out;omega) JW (by omega));have oL:=af hvl;clear JW hvl hjl;go_wp2_with fail
     refine Zw.out.mono ?_;rintro e bW ⟨vu,rfl,fh,jv⟩;obtain⟨RR,uc,JX⟩:=fh.form;rw [oL.out]at JX;subst JX;obtain⟨P,hP,fY,_⟩:=fh;have l9:1≤N:=by rw [←gB.out];exact ahL.out
     have ahN:∃g c cur,(Value.slice RR N uc)= .slice (some ⟨g,0,none⟩) P.length c∧aj bW g 50 cur∧wy.heap.size≤g∧N*10≤cur.size:=by
      rcases hP.2 with⟨hv,h0⟩|⟨g,cap,cur,hv,aJ,hh,hle,_,hsz,_⟩
      ·have:=oL.out;omega
      ·exact⟨g,cap,cur,hv,hh,aJ,by have h1:P.length=N:=by rw [fY];exact oL.out
                                   have h2:ei.m=10:=rfl;rw [h2]at hsz;rw [hsz];omega⟩
     obtain⟨jb,Xm,cur,ahO,Zx,fj,hcs⟩:=ahN;injection ahO with h1 h2 h3;clear h2;subst h1;subst h3;have vt:=af Zx;have ig:=af jv;have cE:=af fj;have C8:=af mj.out;clear hP fY Zx jv fj Zw;go_upto_region 19 with(fail)
     have hba:=Below.aA bW (.cells #[.slice (some ⟨jb,0,none⟩) N uc] 43);have MV:Hid (aj (bW.alloc (.cells #[.slice (some ⟨jb,0,none⟩) N uc] 43)) bW.heap.size 43 #[.slice (some ⟨jb,0,none⟩) N uc]):=af (aj.new _ _ _);have Zy:=af (vt.out.below hba);have Zz:=af (ig.out.trans (hba.mono ig.out.size));have kV:Hid (jb<bW.heap.size):=af vt.out.lt;obtain⟨gz,qc⟩:∃g,bW.heap.size=g:=⟨_,rfl⟩;rw [qc]at MV kV⊢;clear hba qc vt ig;generalize bW.alloc (.cells #[.slice (some ⟨jb,0,none⟩) N uc] 43)=bG at*;have q0:bG.cell? ⟨gz,0,none⟩=some (.slice (some ⟨jb,0,none⟩) N uc):=MV.out.cell 0;go_wp2_with fail
     go_loopw [16] (fun i w'=>∃t:Nat,i= .int .i64 t∧t≤N∧Below wy.heap.size wy w'∧aj w' gz 43 #[.slice (some ⟨jb,0,none⟩) N uc]∧∃cur:Array Value,aj w' jb 50 cur∧N*10≤cur.size) (fun i _=>N-(RowKit.intOf i).toNat)
     case atStart=>exact⟨0,rfl,Nat.zero_le _,Zz.out,MV.out,cur,Zy.out,hcs⟩
     case round=>
      clear q0 Zz MV Zy hcs;obtain⟨t,rfl,ht,dA,hbz,aj0,ZA,aj1⟩:=hrel;obtain⟨wx,rfl⟩:∃bk:World,bk=wr:=⟨_,rfl⟩;have eu:=af dA;have fH:=af hbz;have RS:=af ZA;have q0:wx.cell? ⟨gz,0,none⟩=some (.slice (some ⟨jb,0,none⟩) N uc):=hbz.cell 0;have aj2:=dN.out;clear dA hbz ZA;by_cases htn:t<N
      ·have Ye:(t:Int)<(N:Int):=by omega
       have hex:∀i:Nat,i<10→∃v,wx.cell? ⟨jb,t*10+i,none⟩=some v:=fun i hi=>by
        rw [RS.out.cell];exact⟨_,Array.getElem?_eq_getElem (by omega)⟩
       obtain⟨v0,k0⟩:∃v,wx.cell? ⟨jb,t*10,none⟩=some v:=hex 0 (by omega);obtain⟨v1,k1⟩:∃v,wx.cell? ⟨jb,t*10+1,none⟩=some v:=hex 1 (by omega);obtain⟨v2,k2⟩:∃v,wx.cell? ⟨jb,t*10+2,none⟩=some v:=hex 2 (by omega);obtain⟨v3,e7⟩:∃v,wx.cell? ⟨jb,t*10+3,none⟩=some v:=hex 3 (by omega);obtain⟨v4,gY⟩:∃v,wx.cell? ⟨jb,t*10+4,none⟩=some v:=hex 4 (by omega);obtain⟨v5,kX⟩:∃v,wx.cell? ⟨jb,t*10+5,none⟩=some v:=hex 5 (by omega);obtain⟨v6,iJ⟩:∃v,wx.cell? ⟨jb,t*10+6,none⟩=some v:=hex 6 (by omega);obtain⟨kM,Mu⟩:∃v,wx.cell? ⟨jb,t*10+7,none⟩=some v:=hex 7 (by omega);obtain⟨qz,ug⟩:∃v,wx.cell? ⟨jb,t*10+8,none⟩=some v:=hex 8 (by omega);obtain⟨v9,Fa⟩:∃v,wx.cell? ⟨jb,t*10+9,none⟩=some v:=hex 9 (by omega);have fz:∀o,wx.frozen? ⟨jb,o,none⟩=false:=fun o=>RS.out.frozen o;clear hex;go_wp2_with fail
       have hkk:=((((((((((bS wx jb (t*10) (.slice none 0 0)).trans (bS _ jb (t*10+1) (.int .i64 0))).trans (bS _ jb (t*10+2) (.int .i64 0))).trans (bS _ jb (t*10+3) (.int .i64 0))).trans (bS _ jb (t*10+4) (.bool false))).trans (bS _ jb (t*10+5) (.slice none 0 0))).trans (bS _ jb (t*10+6) (.int .i64 0))).trans (bS _ jb (t*10+7) (.int .i64 0))).trans (bS _ jb (t*10+8) (.int .i64 0))).trans (bS _ jb (t*10+9) (.bool false)));have hbk:=((((((((((RS.out.aQ (t*10) (.slice none 0 0)).aQ (t*10+1) (.int .i64 0)).aQ (t*10+2) (.int .i64 0)).aQ (t*10+3) (.int .i64 0)).aQ (t*10+4) (.bool false)).aQ (t*10+5) (.slice none 0 0)).aQ (t*10+6) (.int .i64 0)).aQ (t*10+7) (.int .i64 0)).aQ (t*10+8) (.int .i64 0)).aQ (t*10+9) (.bool false));have aT:=af (eu.out.trans (hkk.below (B:=wy.heap.size) (fun k hk=>by have e:k=jb:=hk;rw [e];exact cE.out) eu.out.size));have ahP:=af (fH.out.keeps hkk (show¬gz=jb by have:=kV.out;omega));clear k0 k1 k2 e7 gY kX iJ Mu ug Fa fz q0 hkk;go_roundw
       case rel=>exact⟨t+1,by go_num,htn,aT.out,ahP.out,_,hbk,by simp;omega⟩
       case measure=>simp [RowKit.intOf];omega
      ·have Ye:¬(t:Int)<(N:Int):=by omega
       have MJ:=af (C8.out.below eu.out);go_wp2_with fail
       go_roundw
       case rel=>exact⟨k+1,cc,hv,by go_num,hlt,by omega,kD,MJ.out⟩
       case measure=>simp [RowKit.intOf];omega
  ·have hkn:k=nm:=by omega
   have hnk:¬(k:Int)<(nm:Int):=by omega
   obtain⟨jj,JW,hjl⟩:=kD.out.sz;have hvl:(kO N M k).V.length=N:=kD.out.len;obtain⟨v,hv1⟩:∃v,V[nv-1]? =some v:=⟨_,List.getElem?_eq_getElem (by rw [ahK.out];omega)⟩
   have RT:v=(kO N M k).V:=by
    obtain⟨q,hq⟩:∃q,Q[nv-1]? =some q:=⟨_,List.getElem?_eq_getElem (by rw [vg.out];omega)⟩;have h1:=tL.out.last q (by rw [vg.out];exact hq);obtain⟨j,h2,_,h3,_⟩:=tL.out.at_ (nv-1) v q hv1 hq;have h4:j=k:=by have:=Aa.out;omega
    rw [h3,h4];rfl
   obtain⟨aG,aj3,JT,F2,c6,Dw,Gb⟩:=(eT.out.below oF.out.aF).get hv1;injection F2 with h1 h2 h3;clear h2;subst h1;subst h3;obtain⟨kG,yn,iy⟩:=JT;dsimp only at Dw Gb
   have GM:yn=N:=by
    obtain⟨_,_,he⟩:=Gb.form;injection he with _ he _;rw [he,RT];exact hvl
   rw [GM]at Dw Gb;rw [RT]at Gb;have ahQ:=af Gb;have oL:=af hvl;have RU:=af JW;have RV:jj≤800000:=by omega
   obtain⟨nl,MK⟩:∃nl,nv=nl+1:=⟨nv-1,by omega⟩;subst MK;rw [show nl+1-1=nl from rfl]at Dw;have aj4:IntKind.i64.wrap (nl:Int)=(nl:Int):=IntWalk.i64_in _ (by omega);have aj5:(nl:Int)<(nl:Int)+1:=by omega
   have b5:Hid (∀wx,Below ak.heap.size ak wx→wx.cell? ⟨aG,nl,none⟩=some (.slice kG N iy)):=af fun wx hb=>(hb.cell (p:=⟨aG,nl,none⟩) c6).trans Dw;clear hv1 RT c6 Dw Gb GM hjl kD hvl JW hkn;go_upto_region 23 with(fail)
   have cr:Hid (Below ak.heap.size ak ak.drew):=af (Below.refl ak.heap.size ak).drew;refine cF (S:=fun w'=>w'.cell? ⟨aG,nl,none⟩=some (.slice kG N iy)) (by kernel_rfl) (b5.out _ cr.out) (fun hHeld=>?_);refine ai 0 ?_;refine ai 3 ?_;refine ai 4 ?_;refine ai 5 ?_;refine ai 6 ?_;refine ai 7 ?_;refine ai 8 ?_;have uK:=af (oF.out.below cr.out);generalize ak.drew=wd at*;refine aR 1 fun K hK=>?_;go_simp;go_at_call 15
   refine(LB uK.out (by rw [oL.out];have:=dN.out;omega) RU.out RV).mono ?_;rintro e bW ⟨vu,rfl,fh,jv⟩;obtain⟨RR,uc,JX⟩:=fh.form;have ahR:=af fh;rw [oL.out]at JX;subst JX;have ig:=af (cr.out.trans (jv.mono cr.out.size));refine hK.out _ _ (b5.out _ ig.out) (fun hHeld=>?_);clear hK K fh jv;refine aR 2 fun K hK=>?_;go_simp;go_at_call 17
   have hin:=acT (a:=RR) (c:=uc) (V:=(kO N M k).V) (w:=bW) (B:=wd.heap.size) (by rw [oL.out];exact ahR.out) (by rw [oL.out];have:=dN.out;omega) (RU.out.more RV);rw [oL.out]at hin;refine hin.mono ?_;rintro e bG ⟨vi,rfl,RW,fR⟩;obtain⟨ahS,H8,ZB⟩:=RW.form;rw [oL.out]at ZB;subst ZB;have C7:=af RW;have vF:=af (ig.out.trans (fR.mono ig.out.size));refine hK.out _ _ (b5.out _ vF.out) (fun hHeld=>?_);clear hK K RW fR hin;refine aR 9 fun K hK=>?_;go_simp;go_at_call 16
   have zO:=afC (a:=ahS) (c:=H8) (b:=kG) (d:=iy) (V:=(kO N M k).V) (w:=bG) (qo:=bW.heap.size) (qp:=w2.heap.size) (by rw [oL.out];exact C7.out) (by rw [oL.out];exact ahQ.out.below vF.out) (by rw [oL.out];have:=dN.out;omega) (RU.out.more RV);rw [oL.out]at zO;refine zO.mono ?_;rintro e yS ⟨rfl,ZC⟩;have RX:=af (vF.out.trans (ZC.mono vF.out.size));refine hK.out _ _ (b5.out _ RX.out) (fun hHeld=>?_);clear hK K ZC zO;refine ai 10 ?_;refine aR 11 fun K hK=>?_;go_simp;go_at_call 18
   refine(ac3 yS).mono ?_;rintro e BX ⟨rfl,ZD⟩;have ZE:=af (RX.out.trans (ZD.mono RX.out.size));refine hK.out _ _ (b5.out _ ZE.out) (fun hHeld=>?_);clear hK K ZD;refine gx _ _ _ _ ?_;refine eB 12 ?_;refine eB 13 ?_;refine wpAnyH_done (by kernel_rfl) ?_ _;clear hHeld;have L4:=af (aN.out.trans ((oF.out.aF.trans (ZE.out.mono oF.out.aF.size)).mono aN.out.size));go_wp2_with fail
   go_ret;exact⟨by trivial,L4.out⟩
end Go.Proofs.YtmaijkoopjocdaaGreat
