import Derived.Test.YtmaijkoopjocdaaGreatKW05
import Derived.Test.YtmaijkoopjocdaaGreatKW11
set_option maxRecDepth 100000
set_option maxHeartbeats 64000000
namespace Go.Proofs.YtmaijkoopjocdaaGreat
open Go.RowKit Go.Lib
theorem HF {w:World} {B g n cap k:Nat} {L:List aB} {z:aB} (h:bK.Row w B (.slice ↑g n cap) L) (hz:L[k]? =some z):w.cell? ↑(g,k*3)=↑z.ap∧w.cell? ↑(g,k*3+1)=↑z.aq∧w.cell? ↑(g,k*3+2)=↑z.count∧∀o,w.frozen? ⟨g,o,none⟩=false:=by
 obtain⟨g1,C,e1,_,hc⟩:=h.at_ k z hz;obtain⟨g2,D,cur,e2,_,hbk⟩:=h.Cd (by intro h0;rw [h0]at hz;simp at hz);have h1:g1=g:=by injection e1 with e1;injection e1 with e1;injection e1 with e1;exact e1.symm
 have h2:g2=g:=by injection e2 with e2;injection e2 with e2;injection e2 with e2;exact e2.symm
 subst h1;rw [h2]at hbk;have A:iI w g1 (k*3) [↑z.ap,↑z.aq,↑z.count]:=hc;refine⟨?_,A 1 _ rfl,A 2 _ rfl,fun o=>hbk.frozen o⟩;have:=A 0 _ rfl;rwa [Nat.add_zero]at this
theorem aij {side:Int} {d:aX} (hl:d.lv.length<=255) (h:(if d.has=true then decide (1<=d.im.aq∧1<=d.im.count)else decide (d.im=jD))=true):ji side d=jC side none d.lv:=by unfold ji;rw [h,decide_eq_true hl,Bool.and_true,Bool.and_true,Za]
theorem H6 {w:World} {B:Nat} {a:Option Addr} {c:Nat} {V:bG} (h:cg eJ bK w B (.slice a V.length c) V) (hl:V.length<=800000) (hK:fX V 800000):
 Calls Tryz.prog 45 #[.agg #[.slice a V.length c]] w fun e w'=>e= .returned (.bool (ql V))∧Below ↑w w w':=by
 obtain⟨rv,f⟩:=ai (ql V);have z:Ei (rv=(V.all mV&&decide (V.length<=255))):=af (by rw [<-f];rfl);rw [f];have hba:=Below.aI w (.cells #[.slice a V.length c] 54);have q:Ei (av (w.alloc (.cells #[.slice a V.length c] 54)) ↑w 54 #[.slice a V.length c]):=af (av.new _ _ _);have p:=af hba;have bM:=af (h.below hba);have e7:=af hK;clear hba h hK f;go_enter Tryz.func45,Tryz.ntmps45;go_upto_region 1 with(fail);obtain⟨g,hg⟩:=ai w.heap.size;rw [hg]at q⊢;clear hg;generalize w.alloc (.cells #[.slice a V.length c] 54)=w1 at*;have c0:=q.o.GC;by_cases hv:V.length<=255
 ·have Fe:decide (255<V.length)=false:=decide_eq_false bh;have Y:Ei (rv=V.all mV):=af (by rw [z.o,decide_eq_true hv,Bool.and_true]);clear z;go_wp2_with fail;go_loopw [3] (fun i w'=>∃k:Nat,i=↑k∧k<=V.length∧V.all mV=(V.drop k).all mV∧Below ↑w1 w1 w') (fun i _=>V.length-(RowKit.intOf i).toNat)
  case atStart=>exact⟨0,rfl,Nat.zero_le _,rfl,Below.refl _ _⟩
  clear c0;obtain⟨k,rfl,hk,W,hb⟩:=hrel;obtain⟨ax,rfl⟩:=aj wr;have t:=af W;have r:=af hb;clear W hb;have g0:=(q.o.below r.o).GC;by_cases hlt:k<V.length
  ·have hlt':(k:Int)<(V.length:Int):=by omega
   obtain⟨x,hx⟩:=GB V k hlt;have gG:=af (Zb hx);have bz:=af hx;have cN:=e7.o x (List.mem_of_getElem? hx);have nj:=af cN;obtain⟨d1,d2⟩:=x;clear hx cN;go_wp2_with fail;go_loopw [4] (fun i w'=>Below ↑w1 w1 w'∧(i= .int .i64 1∨(i= .int .i64 2∧ji 1 d1=true)∨(i= .int .i64 3∧ji 1 d1=true∧ji 2 d2=true))) (fun i _=>3-(RowKit.intOf i).toNat)
   case atStart=>exact⟨r.o,.inl rfl⟩
   clear g0;obtain⟨hb,hi⟩:=hrel;obtain⟨wy,rfl⟩:=aj wr;have fB:=af hb;have Ac:=af (bM.o.below hb);clear hb;have g0:=(q.o.below fB.o).GC;have hi2:(∃(s:Int) (dd:aX),((s=1∧dd=d1)∨(s=2∧dd=d2∧ji 1 d1=true))∧u4=↑s)∨(u4= .int .i64 3∧ji 1 d1=true∧ji 2 d2=true):=by
    rcases hi with h|⟨h,h1⟩|h
    ·exact .inl ⟨1,d1,.inl ⟨rfl,rfl⟩,h⟩
    ·exact .inl ⟨2,d2,.inr ⟨rfl,rfl,h1⟩,h⟩
    exact .inr h
   clear hi;rcases hi2 with⟨s,dd,Q,rfl⟩|⟨rfl,mh,gv⟩
   ·have Z:Ei (ji s dd=false->rv=false):=af (fun hh=>by
     rw [Y.o,t.o,gG.o];rcases Q with⟨rfl,rfl⟩|⟨rfl,rfl,_⟩
     ·rw [show mV (dd,d2)=false by unfold mV;rw [show ji 1 dd=false from hh,Bool.false_and],Bool.false_and]
     rw [show mV (d1,dd)=false by unfold mV;rw [show ji 2 dd=false from hh,Bool.and_false],Bool.false_and])
    have Cx:Ei (ji s dd=true->(Value.int .i64 (s+1)= .int .i64 1∨(Value.int .i64 (s+1)= .int .i64 2∧ji 1 d1=true)∨(Value.int .i64 (s+1)= .int .i64 3∧ji 1 d1=true∧ji 2 d2=true))):=af (fun hh=>by
     rcases Q with⟨rfl,rfl⟩|⟨rfl,rfl,h1⟩
     ·exact .inr (.inl ⟨rfl,hh⟩)
     exact .inr (.inr ⟨rfl,h1,hh⟩))
    have ail:Ei (dd.lv.length<=800000):=af (by
     rcases Q with⟨rfl,rfl⟩|⟨rfl,rfl,_⟩
     ·exact nj.o.1
     exact nj.o.2)
    have O6:1<=s∧s<=2:=by rcases Q with⟨h,_⟩|⟨h,_⟩<;>omega
    obtain⟨bE,cap,bx,he,_,D,hs1,fD⟩:=Ac.o.get bz.o;injection he with eb iU eS;clear iU;subst eb;subst eS;obtain⟨⟨a1,n1,e1,⟨p1,q1,r1⟩,f1⟩,⟨a2,n2,e2,⟨p2,ic,r2⟩,f2⟩⟩:=bx;obtain⟨sh,hsh,hcs⟩:∃sh:eO,bV bK wy B sh dd∧((s=1∧sh=⟨a1,n1,e1,⟨p1,q1,r1⟩,f1⟩)∨(s=2∧sh=⟨a2,n2,e2,⟨p2,ic,r2⟩,f2⟩)):=by
     rcases Q with⟨h,rfl⟩|⟨h,rfl,_⟩
     ·exact⟨_,hs1,.inl ⟨h,rfl⟩⟩
     exact⟨_,fD,.inr ⟨h,rfl⟩⟩
    obtain⟨KK,IX,ex,⟨cq,G,rx⟩,fx⟩:=sh;have l7:=af hsh;clear hs1 fD hsh Q Ac;go_upto_region 9 with(fail);go_cut [5] (fun u wx=>∃aL,u= .pointer (some ⟨aL,0,none⟩)∧av wx aL 103 #[.slice KK IX ex,↑cq,↑G,↑rx,↑fx]∧Below ↑wy wy wx)
    case first=>
     rcases hcs with⟨rfl,h⟩|⟨rfl,h⟩
     ·injection h with u1 u2 u3 u4 u5;injection u4 with u6 u7 u8;subst u1;subst u2;subst u3;subst u5;subst u6;subst u7;subst u8;have x0:wy.cell? ↑(bE,k*10)=some (.slice KK IX ex):=D 0 _ rfl;have x1:wy.cell? ↑(bE,k*10+1)=↑cq:=D 1 _ rfl;have J:wy.cell? ↑(bE,k*10+2)=↑G:=D 2 _ rfl;have cl:wy.cell? ↑(bE,k*10+3)=↑rx:=D 3 _ rfl;have cw:wy.cell? ↑(bE,k*10+4)=↑fx:=D 4 _ rfl;clear D;go_wp2_with fail;go_meet;exact⟨_,rfl,av.new _ _ _,Below.aI wy _⟩
     injection h with u1 u2 u3 u4 u5;injection u4 with u6 u7 u8;subst u1;subst u2;subst u3;subst u5;subst u6;subst u7;subst u8;have x0:wy.cell? ↑(bE,k*10+5)=some (.slice KK IX ex):=D 5 _ rfl;have x1:wy.cell? ↑(bE,k*10+6)=↑cq:=D 6 _ rfl;have J:wy.cell? ↑(bE,k*10+7)=↑G:=D 7 _ rfl;have cl:wy.cell? ↑(bE,k*10+8)=↑rx:=D 8 _ rfl;have cw:wy.cell? ↑(bE,k*10+9)=↑fx:=D 9 _ rfl;clear D;go_wp2_with fail;go_meet;exact⟨_,rfl,av.new _ _ _,Below.aI wy _⟩
    case rest=>
    obtain⟨aL,rfl,fO,H⟩:=hcut;obtain⟨aA,rfl⟩:=aj wc;have bY:=ag fB H;have Fb:=af (l7.o.below H);have fy:=af fO;clear H fO hcs D g0 l7;obtain⟨h1,h2,h3,h4⟩:=Fb.o;obtain⟨L,⟨ip,G5,zW⟩,hs⟩:=dd;dsimp only at h1 h2 h3 h4;injection h3 with t1 t2 t3;subst h1;subst h4;subst t1;subst t2;subst t3;have iu:Ei (L.length<=800000):=ail;have iz:=af h2;clear h2 Fb;obtain⟨x0,x1,J,cl,cw⟩:=fy.o.gP;have dO:=ah p bY;obtain⟨gd,hgd⟩:∃b,(decide (L.length<=255)&&(if fx=true then decide (1<=G∧1<=rx)else decide ((⟨cq,G,rx⟩:aB)=jD)))=b:=⟨_,rfl⟩;have F:=af hgd;obtain⟨tb,htb⟩:=ai (!gd);have E:=af htb;clear hgd htb;go_upto_region 10 with(fail);go_cut [61] (fun u wx=>u=↑tb∧aA=wx)
    case first=>
     by_cases O:L.length<=255
     ·have aim:(L.length:Int)<=255:=by omega
      cases fx with
      |true=>
       by_cases hq:G<1
       ·obtain rfl:tb=true:=by rw [<-E.o,<-F.o,if_pos rfl,decide_eq_false (fun h:1<=G∧1<=rx=>bh),Bool.and_false];rfl
        clear E F;go_wp2_with fail;go_meet;exact⟨by first|rfl|(simp;done)|(simp [hq];done),rfl⟩
       by_cases hc:rx<1
       ·obtain rfl:tb=true:=by rw [<-E.o,<-F.o,if_pos rfl,decide_eq_false (fun h:1<=G∧1<=rx=>bh),Bool.and_false];rfl
        clear E F;go_wp2_with fail;go_meet;exact⟨by first|rfl|(simp;done)|(simp [hc];done),rfl⟩
       obtain rfl:tb=false:=by rw [<-E.o,<-F.o,if_pos rfl,decide_eq_true (bh:1<=G∧1<=rx),decide_eq_true O];rfl
       clear E F;go_wp2_with fail;go_meet;exact⟨by first|rfl|(simp;done)|(simp;omega),rfl⟩
      |false=>
       by_cases hz:(⟨cq,G,rx⟩:aB)=jD
       ·obtain rfl:tb=false:=by rw [<-E.o,<-F.o,if_neg cU,decide_eq_true hz,decide_eq_true O];rfl
        injection hz with u1 u2 u3;subst u1;subst u2;subst u3;clear E F;go_wp2_with fail;go_meet;exact⟨by first|rfl|(simp;done)|(simp;omega),rfl⟩
       obtain rfl:tb=true:=by rw [<-E.o,<-F.o,if_neg cU,decide_eq_false hz,Bool.and_false];rfl
       have ec:=af hz;clear E F hz;by_cases h1:cq=0
       ·subst h1;by_cases h2:G=0
        ·subst h2;have h3:¬rx=0:=fun h=>ec.o (by rw [h];rfl);go_wp2_with fail;go_meet;exact⟨by first|rfl|(simp;done)|(simp [h3];done),rfl⟩
        go_wp2_with fail;go_meet;exact⟨by first|rfl|(simp;done)|(simp [h2];done),rfl⟩
       go_wp2_with fail;go_meet;exact⟨by first|rfl|(simp;done)|(simp [h1];done),rfl⟩
     have aim:¬((L.length:Int)<=255):=bh;obtain rfl:tb=true:=by rw [<-E.o,<-F.o,decide_eq_false O,Bool.false_and];rfl
     clear E F O;go_wp2_with fail;go_meet;exact⟨by first|rfl|(simp;done),rfl⟩
    case rest=>
    obtain⟨rfl,rfl⟩:=hcut;cases tb with
    |true=>
     have N:Ei (rv=false):=af (Z.o (by
      have h1:gd=false:=by have:=E.o;revert this;cases gd<;>simp
      have h2:=F.o;rw [h1]at h2;unfold ji;dsimp only;cases hA:decide (L.length<=255)with
      |false=>rw [Bool.and_false,Bool.false_and]
      |true=>rw [hA,Bool.true_and]at h2;rw [h2,Bool.and_false]))
     go_wp2_with fail;go_ret;exact⟨by rw [N.o];try rfl,dO.o⟩
    |false=>
     have h1:gd=true:=by have:=E.o;revert this;cases gd<;>simp
     have h2:=F.o;rw [h1,Bool.and_eq_true,decide_eq_true_eq]at h2;have O:=h2.1;have v:Ei (ji s ⟨L,⟨cq,G,rx⟩,fx⟩=jC s none L):=af (aij O h2.2);clear h1 h2;go_upto_region 13 with(fail);go_loopw [6] (fun i w'=>∃A:Nat,i=↑A∧A<=L.length∧jC s none L=jC s (qt L A) (L.drop A)∧Below ↑aA aA w') (fun i _=>L.length-(RowKit.intOf i).toNat)
     case atStart=>exact⟨0,rfl,Nat.zero_le _,rfl,Below.refl _ _⟩
     clear x0 x1 J cl cw;obtain⟨A,rfl,kr,W,hb⟩:=hrel;obtain⟨I,rfl⟩:=aj wr;have uF:=ah p bY;have M:=af W;have R:=af hb;have m:=af (fy.o.below hb);have T:=af (iz.o.below hb);have hl:=iu.o;have g0:=m.o.GC;clear W hb;by_cases RZ:A<L.length
     ·have am9:(A:Int)<(L.length:Int):=by omega
      obtain⟨z3,hx⟩:=GB L A RZ;have X:=af (Zc (side:=s) hx);obtain⟨l,nN,he,_,D⟩:=T.o.at_ A z3 hx;injection he with eb _ eS;subst eb;subst eS;obtain⟨x0,x1,J,_⟩:=HF T.o hx;have Kp:=af hx;clear D hx;obtain⟨fc,x7⟩:=ai I.heap.size;go_upto_region 4 with(fail);have H:Below ↑I I (I.alloc (.cells #[↑z3.ap,↑z3.aq,↑z3.count] 101)):=Below.aI _ _;have R1:av (I.alloc (.cells #[↑z3.ap,↑z3.aq,↑z3.count] 101)) ↑I 101 #[↑z3.ap,↑z3.aq,↑z3.count]:=av.new _ _ _;rw [x7]at R1;have P:Ei (Below ↑w w (I.alloc (.cells #[↑z3.ap,↑z3.aq,↑z3.count] 101))):=af (uF.o.trans ((ag R H).o.mono uF.o.size));have d:=ag R H;have jx:=af (m.o.below H);have m5:=af (T.o.below H);have p7:=af R1;clear H R1 x7 x0 x1 J m T R;generalize I.alloc (.cells #[↑z3.ap,↑z3.aq,↑z3.count] 101)=C at*;obtain⟨x0,x1,J⟩:=p7.o.gQ;have g0:=jx.o.GC;by_cases hq:z3.aq<1
      ·have yC:decide (z3.aq<1)=true:=decide_eq_true hq;have N:Ei (jC s none L=false):=af (by rw [M.o,X.o,decide_eq_false (bh:¬(1<=z3.aq∧1<=z3.count)),Bool.false_and,Bool.false_and]);clear hq;go_quiet (fail);have bQ:=P.o.trans ((Below.bO C nq).mono P.o.size);go_wp2_with fail;go_ret;exact⟨by rw [Z.o (v.o.trans N.o)];try rfl,bQ⟩
      have yC:decide (z3.aq<1)=false:=decide_eq_false hq;by_cases hc:z3.count<1
      ·have hcd:decide (z3.count<1)=true:=decide_eq_true hc;have N:Ei (jC s none L=false):=af (by rw [M.o,X.o,decide_eq_false (bh:¬(1<=z3.aq∧1<=z3.count)),Bool.false_and,Bool.false_and]);clear hq hc;go_quiet (fail);have bQ:=P.o.trans ((Below.bO C nq).mono P.o.size);go_wp2_with fail;go_ret;exact⟨by rw [Z.o (v.o.trans N.o)];try rfl,bQ⟩
      have hcd:decide (z3.count<1)=false:=decide_eq_false hc;have dJ:Ei (decide (1<=z3.aq∧1<=z3.count)=true):=af (decide_eq_true bh);clear hq hc;by_cases iQ:A=0
      ·have R2:¬(0:Int)<(A:Int):=by omega
       have HN:Ei (jC s none L=jC s (qt L (A+1)) (L.drop (A+1))):=af (by rw [M.o,X.o,dJ.o,show qt L A=none from if_pos iQ];rfl);go_quiet (fail);have gi:=af (d.o.trans ((Below.bO C nq).mono d.o.size));go_wp2_with fail;go_roundw
       case rel=>exact⟨A+1,dR,RZ,HN.o,gi.o⟩
       exact Ej
      have R2:(0:Int)<(A:Int):=bh;have mO:decide (0<A)=true:=decide_eq_true bh;obtain⟨j,hj⟩:∃j:Nat,A=j+1:=⟨A-1,bh⟩;have y1:IntKind.i64.wrap (j:Int)=(j:Int):=IntWalk.i64_in _ bh;have lF:(0:Int)<=(j:Int):=bh;have fI:(A:Int)-1=(j:Int):=bh;have hjl:(j:Int)<(L.length:Int):=bh;obtain⟨y,hy⟩:=GB L j bh;obtain⟨jh,_,_,_⟩:=HF m5.o hy;have sD:qt L A=some y.ap:=by unfold qt;rw [if_neg iQ,hj,Nat.add_sub_cancel,hy];rfl
      have n:Ei (jC s none L=(cT s y.ap z3.ap&&jC s (qt L (A+1)) (L.drop (A+1)))):=af (by rw [M.o,X.o,dJ.o,sD];rfl);have hS:C.cell? ↑fc=↑z3.ap∧C.cell? ↑(fc,1)=↑z3.aq∧C.cell? ↑(fc,2)=↑z3.count∧C.cell? ↑aL=some (.slice ↑l L.length ex)∧C.cell? ↑(l,j*3)=↑y.ap:=⟨x0,x1,J,g0,jh⟩;have nK:=af (WA s y.ap z3.ap C.drew);obtain⟨xg,g7⟩:=ai (cT s y.ap z3.ap);rw [g7]at nK n;clear hj hy sD iQ x0 x1 J g0 jh g7 X M;refine cP (S:=fun C=>C.cell? ↑fc=↑z3.ap∧C.cell? ⟨fc,1,none⟩=↑z3.aq∧C.cell? ⟨fc,2,none⟩=↑z3.count∧C.cell? ↑aL=some (.slice ↑l L.length ex)∧C.cell? ⟨l,j*3,none⟩=↑y.ap) hS fun hHeld=>?_;refine eX [0,1,2,3,4,5,6,7,8,9,10,11,12,13,14,15,16,17,18,19,20,21] ?_;refine aU 22 fun K hK=>?_;go_simp;refine nK.o.mono ?_;rintro e bZ ⟨rfl,rfl⟩;refine hK.out _ _ hHeld (fun hHeld=>?_);clear hK K;refine eX [23,24] ?_;refine dY 25 fun K hK=>?_;go_simp;refine hK.out _ _ ?_;clear hK K hHeld hS;have gi:=af (d.o.trans ((Below.bO C 1).mono d.o.size));have dO:=af (P.o.trans ((Below.bO C 1).mono P.o.size));cases xg with
      |true=>
       have HN:Ei (jC s none L=jC s (qt L (A+1)) (L.drop (A+1))):=af (by rw [n.o,Bool.true_and]);go_wp2_with fail;go_roundw
       case rel=>exact⟨A+1,dR,RZ,HN.o,gi.o⟩
       exact Ej
      |false=>have N:Ei (jC s none L=false):=af (by rw [n.o,Bool.false_and]);go_wp2_with fail;go_ret;exact⟨by rw [Z.o (v.o.trans N.o)];try rfl,dO.o⟩
     have U:A=L.length:=bh;have m8:Ei (ji s ⟨L,⟨cq,G,rx⟩,fx⟩=true):=af (by rw [v.o,M.o,U,List.drop_length];rfl);have kL:=ah bY R;clear U M m T R;go_wp2_with fail;go_roundw
     case rel=>exact⟨kL.o,Cx.o m8.o⟩
     exact Ej
   have HN:Ei (V.all mV=(V.drop (k+1)).all mV):=af (by rw [t.o,gG.o,show mV (d1,d2)=true by unfold mV;rw [mh,gv];rfl,Bool.true_and]);clear mh gv;go_wp2_with fail;go_roundw
   case rel=>exact⟨k+1,dR,hlt,HN.o,fB.o⟩
   exact Ej
  have U:k=V.length:=bh;have kx:Ei (rv=true):=af (by rw [Y.o,t.o,U,List.drop_length];rfl);have cH:=ah p r;clear U t r;go_wp2_with fail;go_ret;exact⟨by rw [kx.o];try rfl,cH.o⟩
 have Fe:¬((V.length:Int)<=255):=bh;have Y:Ei (rv=false):=af (by rw [z.o,decide_eq_false hv,Bool.and_false]);clear z hv;go_wp2_with fail;go_ret;exact⟨by rw [Y.o];try rfl,p.o⟩
end Go.Proofs.YtmaijkoopjocdaaGreat
