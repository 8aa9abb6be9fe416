import Derived.Test.YtmaijkoopjocdaaGreatKV25
set_option maxRecDepth 100000
set_option maxHeartbeats 64000000
namespace Go.Proofs.YtmaijkoopjocdaaGreat
open Go.RowKit Go.Lib
theorem HF {w:World} {B g n cap k:Nat} {L:List aB} {z:aB} (h:bK.Row w B (.slice ↑g n cap) L) (hz:L[k]? =some z):w.cell? ⟨g,k*3,none⟩=some ↑z.ap∧w.cell? ⟨g,k*3+1,none⟩=some ↑z.aq∧w.cell? ⟨g,k*3+2,none⟩=some ↑z.count∧∀o,w.frozen? ⟨g,o,none⟩=false:=by
 obtain⟨g1,m6,e1,_,hc⟩:=h.at_ k z hz;obtain⟨g2,oD,cur,e2,_,hbk⟩:=h.Cd (by intro h0;rw [h0]at hz;simp at hz);have h1:g1=g:=by injection e1 with e1;injection e1 with e1;injection e1 with e1;exact e1.symm
 have h2:g2=g:=by injection e2 with e2;injection e2 with e2;injection e2 with e2;exact e2.symm
 subst h1;rw [h2]at hbk;have rq:iI w g1 (k*3) [↑z.ap,↑z.aq,↑z.count]:=hc;refine⟨?_,rq 1 _ rfl,rq 2 _ rfl,fun o=>hbk.frozen o⟩;have:=rq 0 _ rfl
 rwa [Nat.add_zero]at this
theorem aij {side:Int} {d:aX} (hl:d.lv.length≤255) (h:(if d.has=true then decide (1≤d.im.aq∧1≤d.im.count)else decide (d.im=jD))=true):ji side d=jC side none d.lv:=by
 unfold ji;rw [h,decide_eq_true hl,Bool.and_true,Bool.and_true,Za]
theorem aik {w:World} {B:Nat} {a:Option Addr} {c:Nat} {V:bG} (h:cg eJ bK w B (.slice a V.length c) V) (hl:V.length≤800000) (hK:fX V 800000):
 Calls Tryz.prog 45 #[.agg #[.slice a V.length c]] w fun e w'=>e= .returned (.bool (ql V))∧Below w.heap.size w w':=by
 obtain⟨rv,BF⟩:=ai (ql V);have wG:Hid (rv=(V.all mV&&decide (V.length≤255))):=af (by rw [←BF];rfl);rw [BF];have hba:=Below.aI w (.cells #[.slice a V.length c] 54);have bU:Hid (av (w.alloc (.cells #[.slice a V.length c] 54)) w.heap.size 54 #[.slice a V.length c]):=af (av.new _ _ _);have aG:=af hba;have bM:=af (h.below hba);have e7:=af hK;clear hba h hK BF;go_enter Tryz.func45,Tryz.ntmps45
 go_upto_region 1 with(fail)
 obtain⟨g,hg⟩:=ai w.heap.size;rw [hg]at bU⊢;clear hg;generalize w.alloc (.cells #[.slice a V.length c] 54)=w1 at*;have c0:w1.cell? ↑g=some (.slice a V.length c):=bU.out.cell 0;by_cases hv:V.length≤255
 ·have Fe:decide (255<V.length)=false:=decide_eq_false (by omega)
  have Ad:Hid (rv=V.all mV):=af (by rw [wG.out,decide_eq_true hv,Bool.and_true]);clear wG;go_wp2_with fail
  go_loopw [3] (fun i w'=>∃k:Nat,i=↑k∧k≤V.length∧V.all mV=(V.drop k).all mV∧Below w1.heap.size w1 w') (fun i _=>V.length-(RowKit.intOf i).toNat)
  case atStart=>exact⟨0,rfl,Nat.zero_le _,rfl,Below.refl _ _⟩
  case round=>
   clear c0;obtain⟨k,rfl,hk,fk,hb⟩:=hrel;obtain⟨ax,rfl⟩:=aj wr;have iT:=af fk;have fZ:=af hb;clear fk hb;have g0:ax.cell? ↑g=some (.slice a V.length c):=(bU.out.below fZ.out).cell 0;by_cases hlt:k<V.length
   ·have hlt':(k:Int)<(V.length:Int):=by omega
    obtain⟨x,hx⟩:∃x,V[k]? =some x:=⟨_,List.getElem?_eq_getElem hlt⟩;have gG:=af (Zb hx);have bz:=af hx;have cN:=e7.out x (List.mem_of_getElem? hx);have nj:=af cN;obtain⟨d1,d2⟩:=x;clear hx cN;go_wp2_with fail
    go_loopw [4] (fun i w'=>Below w1.heap.size w1 w'∧(i= .int .i64 1∨(i= .int .i64 2∧ji 1 d1=true)∨(i= .int .i64 3∧ji 1 d1=true∧ji 2 d2=true))) (fun i _=>3-(RowKit.intOf i).toNat)
    case atStart=>exact⟨fZ.out,.inl rfl⟩
    case round=>
     clear g0;obtain⟨hb,hi⟩:=hrel;obtain⟨wy,rfl⟩:=aj wr;have fB:=af hb;have Ac:=af (bM.out.below hb);clear hb;have g0:wy.cell? ↑g=some (.slice a V.length c):=(bU.out.below fB.out).cell 0
     have hi2:(∃(s:Int) (dd:aX),((s=1∧dd=d1)∨(s=2∧dd=d2∧ji 1 d1=true))∧u4=↑s)∨(u4= .int .i64 3∧ji 1 d1=true∧ji 2 d2=true):=by
      rcases hi with h|⟨h,h1⟩|h
      ·exact .inl ⟨1,d1,.inl ⟨rfl,rfl⟩,h⟩
      ·exact .inl ⟨2,d2,.inr ⟨rfl,rfl,h1⟩,h⟩
      ·exact .inr h
     clear hi;rcases hi2 with⟨s,dd,e3,rfl⟩|⟨rfl,mh,gv⟩
     ·have C7:Hid (ji s dd=false→rv=false):=af (fun hh=>by
       rw [Ad.out,iT.out,gG.out];rcases e3 with⟨rfl,rfl⟩|⟨rfl,rfl,_⟩
       ·rw [show mV (dd,d2)=false by unfold mV;rw [show ji 1 dd=false from hh,Bool.false_and],Bool.false_and]
       ·rw [show mV (d1,dd)=false by unfold mV;rw [show ji 2 dd=false from hh,Bool.and_false],Bool.false_and])
      have Cx:Hid (ji s dd=true→(Value.int .i64 (s+1)= .int .i64 1∨(Value.int .i64 (s+1)= .int .i64 2∧ji 1 d1=true)∨(Value.int .i64 (s+1)= .int .i64 3∧ji 1 d1=true∧ji 2 d2=true))):=af (fun hh=>by
       rcases e3 with⟨rfl,rfl⟩|⟨rfl,rfl,h1⟩
       ·exact .inr (.inl ⟨rfl,hh⟩)
       ·exact .inr (.inr ⟨rfl,h1,hh⟩))
      have ail:Hid (dd.lv.length≤800000):=af (by
       rcases e3 with⟨rfl,rfl⟩|⟨rfl,rfl,_⟩
       ·exact nj.out.1
       ·exact nj.out.2)
      have O6:1≤s∧s≤2:=by rcases e3 with⟨h,_⟩|⟨h,_⟩<;>omega
      obtain⟨bE,cap,bx,he,_,cD,hs1,fD⟩:=Ac.out.get bz.out;injection he with eb iU eS;clear iU;subst eb;subst eS;obtain⟨⟨a1,n1,e1,⟨p1,q1,r1⟩,f1⟩,⟨a2,n2,e2,⟨p2,ic,r2⟩,f2⟩⟩:=bx
      obtain⟨sh,hsh,hcs⟩:∃sh:eO,bV bK wy B sh dd∧((s=1∧sh=⟨a1,n1,e1,⟨p1,q1,r1⟩,f1⟩)∨(s=2∧sh=⟨a2,n2,e2,⟨p2,ic,r2⟩,f2⟩)):=by
       rcases e3 with⟨h,rfl⟩|⟨h,rfl,_⟩
       ·exact⟨_,hs1,.inl ⟨h,rfl⟩⟩
       ·exact⟨_,fD,.inr ⟨h,rfl⟩⟩
      obtain⟨KK,IX,ex,⟨cq,mF,rx⟩,fx⟩:=sh;have l7:=af hsh;clear hs1 fD hsh e3 Ac;go_upto_region 9 with(fail)
      go_cut [5] (fun u wx=>∃aL,u= .pointer (some ⟨aL,0,none⟩)∧av wx aL 103 #[.slice KK IX ex,↑cq,↑mF,↑rx,↑fx]∧Below wy.heap.size wy wx)
      case first=>
       rcases hcs with⟨rfl,h⟩|⟨rfl,h⟩
       ·injection h with u1 u2 u3 u4 u5
        injection u4 with u6 u7 u8;subst u1;subst u2;subst u3;subst u5;subst u6;subst u7;subst u8;have x0:wy.cell? ⟨bE,k*10,none⟩=some (.slice KK IX ex):=cD 0 _ rfl;have x1:wy.cell? ⟨bE,k*10+1,none⟩=some ↑cq:=cD 1 _ rfl;have aZ:wy.cell? ⟨bE,k*10+2,none⟩=some ↑mF:=cD 2 _ rfl;have cl:wy.cell? ⟨bE,k*10+3,none⟩=some ↑rx:=cD 3 _ rfl;have cw:wy.cell? ⟨bE,k*10+4,none⟩=some ↑fx:=cD 4 _ rfl;clear cD;go_wp2_with fail
        go_meet;exact⟨_,rfl,av.new _ _ _,Below.aI wy _⟩
       ·injection h with u1 u2 u3 u4 u5
        injection u4 with u6 u7 u8;subst u1;subst u2;subst u3;subst u5;subst u6;subst u7;subst u8;have x0:wy.cell? ⟨bE,k*10+5,none⟩=some (.slice KK IX ex):=cD 5 _ rfl;have x1:wy.cell? ⟨bE,k*10+6,none⟩=some ↑cq:=cD 6 _ rfl;have aZ:wy.cell? ⟨bE,k*10+7,none⟩=some ↑mF:=cD 7 _ rfl;have cl:wy.cell? ⟨bE,k*10+8,none⟩=some ↑rx:=cD 8 _ rfl;have cw:wy.cell? ⟨bE,k*10+9,none⟩=some ↑fx:=cD 9 _ rfl;clear cD;go_wp2_with fail
        go_meet;exact⟨_,rfl,av.new _ _ _,Below.aI wy _⟩
      case rest=>
      obtain⟨aL,rfl,fO,cx⟩:=hcut;obtain⟨aA,rfl⟩:=aj wc;have bY:=ag fB cx;have Fb:=af (l7.out.below cx);have fy:=af fO;clear cx fO hcs cD g0 l7;obtain⟨h1,h2,h3,h4⟩:=Fb.out;obtain⟨L,⟨ip,G5,zW⟩,hs⟩:=dd;dsimp only at h1 h2 h3 h4;injection h3 with t1 t2 t3;subst h1;subst h4;subst t1;subst t2;subst t3;have iu:Hid (L.length≤800000):=ail;have iz:=af h2;clear h2 Fb;obtain⟨x0,x1,aZ,cl,cw⟩:=fy.out.amx;have dO:=ah aG bY;obtain⟨gd,hgd⟩:∃b,(decide (L.length≤255)&&(if fx=true then decide (1≤mF∧1≤rx)else decide ((⟨cq,mF,rx⟩:aB)=jD)))=b:=⟨_,rfl⟩;have qm:=af hgd;obtain⟨tb,htb⟩:=ai (!gd);have oI:=af htb;clear hgd htb;go_upto_region 10 with(fail)
      go_cut [61] (fun u wx=>u=↑tb∧aA=wx)
      case first=>
       by_cases A2:L.length≤255
       ·have aim:(L.length:Int)≤255:=by omega
        cases fx with
        |true=>
         by_cases hq:mF<1
         ·obtain rfl:tb=true:=by rw [←oI.out,←qm.out,if_pos rfl,decide_eq_false (fun h:1≤mF∧1≤rx=>by omega),Bool.and_false];rfl
          clear oI qm;go_wp2_with fail
          go_meet;exact⟨by first|rfl|(simp;done)|(simp [hq];done),rfl⟩
         ·by_cases hc:rx<1
          ·obtain rfl:tb=true:=by rw [←oI.out,←qm.out,if_pos rfl,decide_eq_false (fun h:1≤mF∧1≤rx=>by omega),Bool.and_false];rfl
           clear oI qm;go_wp2_with fail
           go_meet;exact⟨by first|rfl|(simp;done)|(simp [hc];done),rfl⟩
          ·obtain rfl:tb=false:=by rw [←oI.out,←qm.out,if_pos rfl,decide_eq_true (show 1≤mF∧1≤rx by omega),decide_eq_true A2];rfl
           clear oI qm;go_wp2_with fail
           go_meet;exact⟨by first|rfl|(simp;done)|(simp;omega),rfl⟩
        |false=>
         by_cases hz:(⟨cq,mF,rx⟩:aB)=jD
         ·obtain rfl:tb=false:=by rw [←oI.out,←qm.out,if_neg (by simp),decide_eq_true hz,decide_eq_true A2];rfl
          injection hz with u1 u2 u3;subst u1;subst u2;subst u3;clear oI qm;go_wp2_with fail
          go_meet;exact⟨by first|rfl|(simp;done)|(simp;omega),rfl⟩
         ·obtain rfl:tb=true:=by rw [←oI.out,←qm.out,if_neg (by simp),decide_eq_false hz,Bool.and_false];rfl
          have ec:=af hz;clear oI qm hz;by_cases h1:cq=0
          ·subst h1
           by_cases h2:mF=0
           ·subst h2
            have h3:¬rx=0:=fun h=>ec.out (by rw [h];rfl);go_wp2_with fail
            go_meet;exact⟨by first|rfl|(simp;done)|(simp [h3];done),rfl⟩
           ·go_wp2_with fail
            go_meet;exact⟨by first|rfl|(simp;done)|(simp [h2];done),rfl⟩
          ·go_wp2_with fail
           go_meet;exact⟨by first|rfl|(simp;done)|(simp [h1];done),rfl⟩
       ·have aim:¬((L.length:Int)≤255):=by omega
        obtain rfl:tb=true:=by rw [←oI.out,←qm.out,decide_eq_false A2,Bool.false_and];rfl
        clear oI qm A2;go_wp2_with fail
        go_meet;exact⟨by first|rfl|(simp;done),rfl⟩
      case rest=>
      obtain⟨rfl,rfl⟩:=hcut;cases tb with
      |true=>
       have b5:Hid (rv=false):=af (C7.out (by
        have h1:gd=false:=by have:=oI.out;revert this;cases gd<;>simp
        have h2:=qm.out;rw [h1]at h2;unfold ji;dsimp only;cases hA:decide (L.length≤255)with
        |false=>rw [Bool.and_false,Bool.false_and]
        |true=>rw [hA,Bool.true_and]at h2;rw [h2,Bool.and_false]))
       go_wp2_with fail
       go_ret;exact⟨by rw [b5.out];try rfl,dO.out⟩
      |false=>
       have h1:gd=true:=by have:=oI.out;revert this;cases gd<;>simp
       have h2:=qm.out;rw [h1,Bool.and_eq_true,decide_eq_true_eq]at h2;have A2:=h2.1;have uU:Hid (ji s ⟨L,⟨cq,mF,rx⟩,fx⟩=jC s none L):=af (aij A2 h2.2);clear h1 h2;go_upto_region 13 with(fail)
       go_loopw [6] (fun i w'=>∃di:Nat,i=↑di∧di≤L.length∧jC s none L=jC s (qt L di) (L.drop di)∧Below aA.heap.size aA w') (fun i _=>L.length-(RowKit.intOf i).toNat)
       case atStart=>exact⟨0,rfl,Nat.zero_le _,rfl,Below.refl _ _⟩
       case round=>
        clear x0 x1 aZ cl cw;obtain⟨di,rfl,kr,fk,hb⟩:=hrel;obtain⟨aN,rfl⟩:=aj wr;have uF:=ah aG bY;have Ff:=af fk;have Fg:=af hb;have NZ:=af (fy.out.below hb);have KL:=af (iz.out.below hb);have hl:=iu.out;have g0:aN.cell? ↑aL=some (.slice KK L.length ex):=NZ.out.cell 0;clear fk hb;by_cases RZ:di<L.length
        ·have am9:(di:Int)<(L.length:Int):=by omega
         obtain⟨z3,hx⟩:∃z3,L[di]? =some z3:=⟨_,List.getElem?_eq_getElem RZ⟩;have qq:=af (Zc (side:=s) hx);obtain⟨KM,nN,he,_,cD⟩:=KL.out.at_ di z3 hx;injection he with eb _ eS;subst eb;subst eS;obtain⟨x0,x1,aZ,_⟩:=HF KL.out hx;have Kp:=af hx;clear cD hx;obtain⟨fc,x7⟩:=ai aN.heap.size;go_upto_region 4 with(fail)
         have cx:Below aN.heap.size aN (aN.alloc (.cells #[↑z3.ap,↑z3.aq,↑z3.count] 101)):=Below.aI _ _;have R1:av (aN.alloc (.cells #[↑z3.ap,↑z3.aq,↑z3.count] 101)) aN.heap.size 101 #[↑z3.ap,↑z3.aq,↑z3.count]:=av.new _ _ _;rw [x7]at R1;have dP:Hid (Below w.heap.size w (aN.alloc (.cells #[↑z3.ap,↑z3.aq,↑z3.count] 101))):=af (uF.out.trans ((ag Fg cx).out.mono uF.out.size));have HG:=ag Fg cx;have jx:=af (NZ.out.below cx);have m5:=af (KL.out.below cx);have p7:=af R1;clear cx R1 x7 x0 x1 aZ NZ KL Fg;generalize aN.alloc (.cells #[↑z3.ap,↑z3.aq,↑z3.count] 101)=bf at*;obtain⟨x0,x1,aZ⟩:=p7.out.amv;have g0:bf.cell? ↑aL=some (.slice ↑KM L.length ex):=jx.out.cell 0;by_cases hq:z3.aq<1
         ·have yC:decide (z3.aq<1)=true:=decide_eq_true hq
          have b5:Hid (jC s none L=false):=af (by rw [Ff.out,qq.out,decide_eq_false (by omega:¬(1≤z3.aq∧1≤z3.count)),Bool.false_and,Bool.false_and]);clear hq;go_quiet (fail)
          have bQ:=dP.out.trans ((Below.bO bf nq).mono dP.out.size);go_wp2_with fail
          go_ret;exact⟨by rw [C7.out (uU.out.trans b5.out)];try rfl,bQ⟩
         ·have yC:decide (z3.aq<1)=false:=decide_eq_false hq
          by_cases hc:z3.count<1
          ·have hcd:decide (z3.count<1)=true:=decide_eq_true hc
           have b5:Hid (jC s none L=false):=af (by rw [Ff.out,qq.out,decide_eq_false (by omega:¬(1≤z3.aq∧1≤z3.count)),Bool.false_and,Bool.false_and]);clear hq hc;go_quiet (fail)
           have bQ:=dP.out.trans ((Below.bO bf nq).mono dP.out.size);go_wp2_with fail
           go_ret;exact⟨by rw [C7.out (uU.out.trans b5.out)];try rfl,bQ⟩
          ·have hcd:decide (z3.count<1)=false:=decide_eq_false hc
           have dJ:Hid (decide (1≤z3.aq∧1≤z3.count)=true):=af (decide_eq_true (by omega));clear hq hc;by_cases iQ:di=0
           ·have R2:¬(0:Int)<(di:Int):=by omega
            have HN:Hid (jC s none L=jC s (qt L (di+1)) (L.drop (di+1))):=af (by rw [Ff.out,qq.out,dJ.out,show qt L di=none from if_pos iQ];rfl);go_quiet (fail)
            have gi:=af (HG.out.trans ((Below.bO bf nq).mono HG.out.size));go_wp2_with fail
            go_roundw
            case rel=>exact⟨di+1,by go_num,RZ,HN.out,gi.out⟩
            case measure=>simp [RowKit.intOf];omega
           ·have R2:(0:Int)<(di:Int):=by omega
            have mO:decide (0<di)=true:=decide_eq_true (by omega);obtain⟨j,hj⟩:∃j:Nat,di=j+1:=⟨di-1,by omega⟩;have y1:IntKind.i64.wrap (j:Int)=(j:Int):=IntWalk.i64_in _ (by omega);have lF:(0:Int)≤(j:Int):=by omega
            have fI:(di:Int)-1=(j:Int):=by omega
            have hjl:(j:Int)<(L.length:Int):=by omega
            obtain⟨y,hy⟩:∃y,L[j]? =some y:=⟨_,List.getElem?_eq_getElem (by omega)⟩;obtain⟨jh,_,_,_⟩:=HF m5.out hy;have sD:qt L di=some y.ap:=by unfold qt;rw [if_neg iQ,hj,Nat.add_sub_cancel,hy];rfl
            have Fh:Hid (jC s none L=(cT s y.ap z3.ap&&jC s (qt L (di+1)) (L.drop (di+1)))):=af (by rw [Ff.out,qq.out,dJ.out,sD];rfl);have hS:bf.cell? ↑fc=some ↑z3.ap∧bf.cell? ⟨fc,1,none⟩=some ↑z3.aq∧bf.cell? ⟨fc,2,none⟩=some ↑z3.count∧bf.cell? ↑aL=some (.slice ↑KM L.length ex)∧bf.cell? ⟨KM,j*3,none⟩=some ↑y.ap:=⟨x0,x1,aZ,g0,jh⟩;have nK:=af (WA s y.ap z3.ap bf.drew);obtain⟨xg,g7⟩:=ai (cT s y.ap z3.ap);rw [g7]at nK Fh;clear hj hy sD iQ x0 x1 aZ g0 jh g7 qq Ff;refine cP (S:=fun bf=>bf.cell? ↑fc=some ↑z3.ap∧bf.cell? ⟨fc,1,none⟩=some ↑z3.aq∧bf.cell? ⟨fc,2,none⟩=some ↑z3.count∧bf.cell? ↑aL=some (.slice ↑KM L.length ex)∧bf.cell? ⟨KM,j*3,none⟩=some ↑y.ap) hS fun hHeld=>?_;refine au 0 ?_;refine au 1 ?_;refine au 2 ?_;refine au 3 ?_;refine au 4 ?_;refine au 5 ?_;refine au 6 ?_;refine au 7 ?_;refine au 8 ?_;refine au 9 ?_;refine au 10 ?_;refine au 11 ?_;refine au 12 ?_;refine au 13 ?_;refine au 14 ?_;refine au 15 ?_;refine au 16 ?_;refine au 17 ?_;refine au 18 ?_;refine au 19 ?_;refine au 20 ?_;refine au 21 ?_;refine aU 22 fun K hK=>?_;go_simp;refine nK.out.mono ?_;rintro e bZ ⟨rfl,rfl⟩;refine hK.out _ _ hHeld (fun hHeld=>?_);clear hK K;refine au 23 ?_;refine au 24 ?_;refine dY 25 fun K hK=>?_;go_simp;refine hK.out _ _ ?_;clear hK K hHeld hS;have gi:=af (HG.out.trans ((Below.bO bf 1).mono HG.out.size));have dO:=af (dP.out.trans ((Below.bO bf 1).mono dP.out.size));cases xg with
            |true=>
             have HN:Hid (jC s none L=jC s (qt L (di+1)) (L.drop (di+1))):=af (by rw [Fh.out,Bool.true_and]);go_wp2_with fail
             go_roundw
             case rel=>exact⟨di+1,by go_num,RZ,HN.out,gi.out⟩
             case measure=>simp [RowKit.intOf];omega
            |false=>
             have b5:Hid (jC s none L=false):=af (by rw [Fh.out,Bool.false_and]);go_wp2_with fail
             go_ret;exact⟨by rw [C7.out (uU.out.trans b5.out)];try rfl,dO.out⟩
        ·have eR:di=L.length:=by omega
         have m8:Hid (ji s ⟨L,⟨cq,mF,rx⟩,fx⟩=true):=af (by rw [uU.out,Ff.out,eR,List.drop_length];rfl);have kL:=ah bY Fg;clear eR Ff NZ KL Fg;go_wp2_with fail
         go_roundw
         case rel=>exact⟨kL.out,Cx.out m8.out⟩
         case measure=>simp [RowKit.intOf];omega
     ·have HN:Hid (V.all mV=(V.drop (k+1)).all mV):=af (by rw [iT.out,gG.out,show mV (d1,d2)=true by unfold mV;rw [mh,gv];rfl,Bool.true_and])
      clear mh gv;go_wp2_with fail
      go_roundw
      case rel=>exact⟨k+1,by go_num,hlt,HN.out,fB.out⟩
      case measure=>simp [RowKit.intOf];omega
   ·have eR:k=V.length:=by omega
    have kx:Hid (rv=true):=af (by rw [Ad.out,iT.out,eR,List.drop_length];rfl);have cH:=ah aG fZ;clear eR iT fZ;go_wp2_with fail
    go_ret;exact⟨by rw [kx.out];try rfl,cH.out⟩
 ·have Fe:¬((V.length:Int)≤255):=by omega
  have Ad:Hid (rv=false):=af (by rw [wG.out,decide_eq_false hv,Bool.and_false]);clear wG hv;go_wp2_with fail
  go_ret;exact⟨by rw [Ad.out];try rfl,aG.out⟩
theorem Gs (w:World) (t1 t2:TypeId) (c1 c2:Array Value):av ((w.alloc (.cells c1 t1)).alloc (.cells c2 t2)) w.heap.size t1 c1∧av ((w.alloc (.cells c1 t1)).alloc (.cells c2 t2)) (w.heap.size+1) t2 c2∧Below w.heap.size w ((w.alloc (.cells c1 t1)).alloc (.cells c2 t2)):=by
 have s1:=ak;refine⟨(av.new _ _ _).alloc _,?_,(Below.aI _ _).alloc (by rw [s1];omega) _⟩;have:=av.new (w.alloc (.cells c1 t1)) t2 c2;rw [s1]at this;exact this
section
variable {w:World}
theorem Zn {p4 p5:Nat} {a b:Option Addr} {c d:Nat} {V:bG} (ha:cg eJ bK w p4 (.slice a V.length c) V) (hb:cg eJ bK w p5 (.slice b V.length d) V) (hl:V.length≤255) (hK:fX V 800000):
 Calls Tryz.prog 16 #[.agg #[.slice a V.length c],.agg #[.slice b V.length d]] w fun e w'=>e= .returned (.bool true)∧Below w.heap.size w w':=by
 have hn:=Gs w 54 54 #[.slice a V.length c] #[.slice b V.length d];have IZ:=af hn.1;have dc:=af hn.2.1;have aG:=af hn.2.2;have cO:=af (ha.below aG.out);have Gw:=af (hb.below aG.out);have e7:=af hK;have s1:=ak;have dW:=af s1;clear hn ha hb hK s1;go_enter Tryz.func16,Tryz.ntmps16
 go_upto_region 1 with(fail)
 obtain⟨bE,fT⟩:=ai (w.heap.size+1);rw [fT]at dc⊢;obtain⟨ga,zG⟩:=ai w.heap.size;have D3:Hid (av _ ga 54 #[.slice a V.length c]):=af (by have:=IZ.out;rwa [zG]at this);rw [show(Value.pointer ↑w.heap.size)= .pointer ↑ga by rw [zG]];clear zG fT IZ;generalize (w.alloc (.cells #[.slice a V.length c] 54)).alloc (.cells #[.slice b V.length d] 54)=w1 at*;have c0:w1.cell? ↑ga=some (.slice a V.length c):=D3.out.cell 0;have c1:w1.cell? ↑bE=some (.slice b V.length d):=dc.out.cell 0;go_wp2_with fail
 go_loopw [5] (fun i w'=>∃k:Nat,i=↑k∧k≤V.length∧Below w1.heap.size w1 w') (fun i _=>V.length-(RowKit.intOf i).toNat)
 case atStart=>exact⟨0,rfl,Nat.zero_le _,Below.refl _ _⟩
 case round=>
  clear c0 c1;obtain⟨k,rfl,hk,hbz⟩:=hrel;obtain⟨ax,rfl⟩:=aj wr;have fZ:=af hbz;have c0:ax.cell? ↑ga=some (.slice a V.length c):=(D3.out.below hbz).cell 0;clear hbz;by_cases hlt:k<V.length
  ·have hlt':(k:Int)<(V.length:Int):=by omega
   obtain⟨J0,hx⟩:∃x,V[k]? =some x:=⟨_,List.getElem?_eq_getElem hlt⟩;obtain⟨d1,d2⟩:=J0;have bz:=af hx;have nj:=af (e7.out (d1,d2) (List.mem_of_getElem? hx));clear hx;go_wp2_with fail
   go_loopw [6] (fun i w'=>∃j:Nat,i=↑j∧j≤2∧Below w1.heap.size w1 w') (fun i _=>2-(RowKit.intOf i).toNat)
   case atStart=>exact⟨0,rfl,Nat.zero_le _,fZ.out⟩
   case round=>
    clear c0;obtain⟨j,rfl,hj,hby⟩:=hrel;obtain⟨wy,rfl⟩:=aj wr;have fB:=af hby;clear hby fZ;by_cases hj2:j<2
    ·obtain⟨g1,m6,D6,he,eZ,cD,hq1,hq2⟩:=(cO.out.below fB.out).get bz.out
     injection he with eb _ eS;subst eb;subst eS;obtain⟨g2,oD,PG,he,fY,ng,Cw,w8⟩:=(Gw.out.below fB.out).get bz.out;injection he with eb _ eS;subst eb;subst eS;obtain⟨⟨a1,n1,e1,⟨p1,q1,r1⟩,f1⟩,⟨b1,m1,h1,⟨t1,u1,v1⟩,x1⟩⟩:=D6;obtain⟨⟨a2,n2,e2,⟨p2,ic,r2⟩,f2⟩,⟨b2,m2,h2,⟨t2,u2,v2⟩,aZ⟩⟩:=PG;have hlen:=nj.out
     obtain⟨dd,x5,x6,aiu,aiv,I2,hcs⟩:∃(dd:aX) (x5 x6:eO),bV bK wy p4 x5 dd∧bV bK wy p5 x6 dd∧dd.lv.length≤800000∧((j=0∧x5=⟨a1,n1,e1,⟨p1,q1,r1⟩,f1⟩∧x6=⟨a2,n2,e2,⟨p2,ic,r2⟩,f2⟩)∨(j=1∧x5=⟨b1,m1,h1,⟨t1,u1,v1⟩,x1⟩∧x6=⟨b2,m2,h2,⟨t2,u2,v2⟩,aZ⟩)):=by
      have PI:j=0∨j=1:=by omega
      rcases PI with h0|h0
      ·exact⟨d1,_,_,hq1,Cw,hlen.1,.inl ⟨h0,rfl,rfl⟩⟩
      ·exact⟨d2,_,_,hq2,w8,hlen.2,.inr ⟨h0,rfl,rfl⟩⟩
     obtain⟨j3,xn,xc,⟨qL,p6,xr⟩,kJ⟩:=x5;obtain⟨gB,yn,fH,⟨gP,gQ,yr⟩,jK⟩:=x6
     have I3:wy.cell? ⟨g1,k*10+j*5,none⟩=some (.slice j3 xn xc)∧wy.cell? ⟨g1,k*10+j*5+1,none⟩=some ↑qL∧wy.cell? ⟨g1,k*10+j*5+2,none⟩=some ↑p6∧wy.cell? ⟨g1,k*10+j*5+3,none⟩=some ↑xr∧wy.cell? ⟨g1,k*10+j*5+4,none⟩=some ↑kJ:=by
      rcases hcs with⟨rfl,h,_⟩|⟨rfl,h,_⟩
      ·injection h with i1 i2 i3 i4 i5
       injection i4 with i6 i7 i8;subst i1;subst i2;subst i3;subst i5;subst i6;subst i7;subst i8;exact⟨cD 0 _ rfl,cD 1 _ rfl,cD 2 _ rfl,cD 3 _ rfl,cD 4 _ rfl⟩
      ·injection h with i1 i2 i3 i4 i5
       injection i4 with i6 i7 i8;subst i1;subst i2;subst i3;subst i5;subst i6;subst i7;subst i8;exact⟨cD 5 _ rfl,cD 6 _ rfl,cD 7 _ rfl,cD 8 _ rfl,cD 9 _ rfl⟩
     have I4:wy.cell? ⟨g2,k*10+j*5,none⟩=some (.slice gB yn fH)∧wy.cell? ⟨g2,k*10+j*5+1,none⟩=some ↑gP∧wy.cell? ⟨g2,k*10+j*5+2,none⟩=some ↑gQ∧wy.cell? ⟨g2,k*10+j*5+3,none⟩=some ↑yr∧wy.cell? ⟨g2,k*10+j*5+4,none⟩=some ↑jK:=by
      rcases hcs with⟨rfl,_,h⟩|⟨rfl,_,h⟩
      ·injection h with i1 i2 i3 i4 i5
       injection i4 with i6 i7 i8;subst i1;subst i2;subst i3;subst i5;subst i6;subst i7;subst i8;exact⟨ng 0 _ rfl,ng 1 _ rfl,ng 2 _ rfl,ng 3 _ rfl,ng 4 _ rfl⟩
      ·injection h with i1 i2 i3 i4 i5
       injection i4 with i6 i7 i8;subst i1;subst i2;subst i3;subst i5;subst i6;subst i7;subst i8;exact⟨ng 5 _ rfl,ng 6 _ rfl,ng 7 _ rfl,ng 8 _ rfl,ng 9 _ rfl⟩
     clear hlen hcs cD ng;obtain⟨y1,uV,lF,qb⟩:=aiu;obtain⟨fw,R7,z3,z4⟩:=aiv;obtain⟨L,⟨ip,G5,zW⟩,hh⟩:=dd;dsimp only at y1 uV lF qb fw R7 z3 z4;injection lF with yS xC KR;injection z3 with aiw aix aiy;subst y1;subst qb;subst yS;subst xC;subst KR;subst fw;subst aiw;subst aix;subst aiy;subst z4;have Bg:Hid (L.length≤800000):=af I2;have anh:(j:Int)<2:=by omega
     have C8:=af uV;have Zo:=af R7
     have aD:Hid (∀wx,Below wy.heap.size wy wx→(fun w'=>w'.cell? ↑ga=some (.slice ↑g1 V.length c)∧w'.cell? ↑bE=some (.slice ↑g2 V.length d)∧w'.cell? ⟨g1,k*10+j*5,none⟩=some (.slice j3 L.length xc)∧w'.cell? ⟨g1,k*10+j*5+1,none⟩=some ↑gP∧w'.cell? ⟨g1,k*10+j*5+2,none⟩=some ↑gQ∧w'.cell? ⟨g1,k*10+j*5+3,none⟩=some ↑yr∧w'.cell? ⟨g1,k*10+j*5+4,none⟩=some ↑jK∧w'.cell? ⟨g2,k*10+j*5,none⟩=some (.slice gB L.length fH)∧w'.cell? ⟨g2,k*10+j*5+1,none⟩=some ↑gP∧w'.cell? ⟨g2,k*10+j*5+2,none⟩=some ↑gQ∧w'.cell? ⟨g2,k*10+j*5+3,none⟩=some ↑yr∧w'.cell? ⟨g2,k*10+j*5+4,none⟩=some ↑jK) wx):=af fun wx hb=>by
      have hb1:=fB.out.trans (hb.mono fB.out.size);have e:∀(g o:Nat),g<wy.heap.size→wx.cell? ⟨g,o,none⟩=wy.cell? ⟨g,o,none⟩:=fun g o hg=>hb.cell (p:=⟨g,o,none⟩) hg;obtain⟨c0,c1,c2,c3,dH⟩:=I3;obtain⟨b8,fJ,gL,iC,kp⟩:=I4;exact⟨(D3.out.below hb1).cell 0,(dc.out.below hb1).cell 0,(e g1 _ eZ).trans c0,(e g1 _ eZ).trans c1,(e g1 _ eZ).trans c2,(e g1 _ eZ).trans c3,(e g1 _ eZ).trans dH,(e g2 _ fY).trans b8,(e g2 _ fY).trans fJ,(e g2 _ fY).trans gL,(e g2 _ fY).trans iC,(e g2 _ fY).trans kp⟩
     clear I3 I4 uV R7 hq1 hq2 Cw w8 I2;go_upto_region 9 with(fail)
     go_cut [7,8] (fun u7 u8 wx=>∃aL fc,u7= .pointer (some ⟨aL,0,none⟩)∧u8= .pointer (some ⟨fc,0,none⟩)∧av wx aL 103 #[.slice j3 L.length xc,↑gP,↑gQ,↑yr,↑jK]∧av wx fc 103 #[.slice gB L.length fH,↑gP,↑gQ,↑yr,↑jK]∧Below wy.heap.size wy wx)
     case first=>
      refine cP (S:=fun w'=>w'.cell? ↑ga=some (.slice ↑g1 V.length c)∧w'.cell? ↑bE=some (.slice ↑g2 V.length d)∧w'.cell? ⟨g1,k*10+j*5,none⟩=some (.slice j3 L.length xc)∧w'.cell? ⟨g1,k*10+j*5+1,none⟩=some ↑gP∧w'.cell? ⟨g1,k*10+j*5+2,none⟩=some ↑gQ∧w'.cell? ⟨g1,k*10+j*5+3,none⟩=some ↑yr∧w'.cell? ⟨g1,k*10+j*5+4,none⟩=some ↑jK∧w'.cell? ⟨g2,k*10+j*5,none⟩=some (.slice gB L.length fH)∧w'.cell? ⟨g2,k*10+j*5+1,none⟩=some ↑gP∧w'.cell? ⟨g2,k*10+j*5+2,none⟩=some ↑gQ∧w'.cell? ⟨g2,k*10+j*5+3,none⟩=some ↑yr∧w'.cell? ⟨g2,k*10+j*5+4,none⟩=some ↑jK) (aD.out _ (Below.refl _ _).drew) fun hHeld=>?_;refine au 0 ?_;refine au 1 ?_;refine au 2 ?_;refine au 3 ?_;refine au 4 ?_;refine au 5 ?_;refine au 6 ?_;refine au 7 ?_;refine au 8 ?_;refine au 9 ?_;refine au 10 ?_;refine au 11 ?_;refine au 12 ?_;refine au 13 ?_;refine lZ 14 15 (fun K hK=>?_) fun K hK=>?_
      ·go_simp
       refine hK.out _ _ (by first|exact aD.out _ (Below.aI wy _).drew|exact aD.out _ ((Below.aI wy _).alloc (by rw [dW.out];omega) _).drew) (fun hHeld=>?_);clear hK K;refine aU 15 fun K hK=>?_;go_simp;refine hK.out _ _ (by first|exact aD.out _ (Below.aI wy _).drew|exact aD.out _ ((Below.aI wy _).alloc (by rw [dW.out];omega) _).drew) (fun hHeld=>?_);clear hK K;refine aU 16 fun K hK=>?_;go_simp;refine hK.out _ _ (by first|exact aD.out _ (Below.aI wy _).drew|exact aD.out _ ((Below.aI wy _).alloc (by rw [dW.out];omega) _).drew) (fun hHeld=>?_);clear hK K;refine dY 17 fun K hK=>?_;go_simp;refine hK.out _ _ ?_;clear hK K hHeld;go_wp2_with fail
       go_meet;have h2:=Gs wy 103 103 #[.slice j3 L.length xc,↑gP,↑gQ,↑yr,↑jK] #[.slice gB L.length fH,↑gP,↑gQ,↑yr,↑jK];exact⟨wy.heap.size,wy.heap.size+1,rfl,rfl,h2.1,h2.2.1,h2.2.2.drew⟩
      ·go_simp
       refine hK.out _ _ (by first|exact aD.out _ (Below.aI wy _).drew|exact aD.out _ ((Below.aI wy _).alloc (by rw [dW.out];omega) _).drew) (fun hHeld=>?_);clear hK K;refine aU 14 fun K hK=>?_;go_simp;refine hK.out _ _ (by first|exact aD.out _ (Below.aI wy _).drew|exact aD.out _ ((Below.aI wy _).alloc (by rw [dW.out];omega) _).drew) (fun hHeld=>?_);clear hK K;refine aU 16 fun K hK=>?_;go_simp;refine hK.out _ _ (by first|exact aD.out _ (Below.aI wy _).drew|exact aD.out _ ((Below.aI wy _).alloc (by rw [dW.out];omega) _).drew) (fun hHeld=>?_);clear hK K;refine dY 17 fun K hK=>?_;go_simp;refine hK.out _ _ ?_;clear hK K hHeld;go_wp2_with fail
       go_meet;have h2:=Gs wy 103 103 #[.slice gB L.length fH,↑gP,↑gQ,↑yr,↑jK] #[.slice j3 L.length xc,↑gP,↑gQ,↑yr,↑jK];exact⟨wy.heap.size+1,wy.heap.size,rfl,rfl,h2.2.1,h2.1,h2.2.2.drew⟩
     case rest=>
     obtain⟨aL,fc,rfl,rfl,fO,x7,hbc⟩:=hcut;obtain⟨aA,rfl⟩:=aj wc;have bY:=ag fB hbc;have Ad:=af (C8.out.below hbc);have kS:=af (Zo.out.below hbc);have fy:=af fO;have p7:=af x7;have x0:aA.cell? ↑aL=some (.slice j3 L.length xc):=fy.out.cell 0;have y0:aA.cell? ↑fc=some (.slice gB L.length fH):=p7.out.cell 0;have x1:aA.cell? ⟨aL,1,none⟩=some ↑gP:=fy.out.cell 1;have y1:aA.cell? ⟨fc,1,none⟩=some ↑gP:=p7.out.cell 1;have aZ:aA.cell? ⟨aL,2,none⟩=some ↑gQ:=fy.out.cell 2;have fI:aA.cell? ⟨fc,2,none⟩=some ↑gQ:=p7.out.cell 2;have cl:aA.cell? ⟨aL,3,none⟩=some ↑yr:=fy.out.cell 3;have lF:aA.cell? ⟨fc,3,none⟩=some ↑yr:=p7.out.cell 3;have cw:aA.cell? ⟨aL,4,none⟩=some ↑jK:=fy.out.cell 4;have qb:aA.cell? ⟨fc,4,none⟩=some ↑jK:=p7.out.cell 4;clear fO x7 hbc aD C8 Zo;go_wp2_with fail
     clear x0 y0 x1 y1 aZ fI cl lF cw qb;go_loopw [9] (fun i w'=>∃q:Nat,i=↑q∧q≤L.length∧Below aA.heap.size aA w') (fun i _=>L.length-(RowKit.intOf i).toNat)
     case atStart=>exact⟨0,rfl,Nat.zero_le _,Below.refl _ _⟩
     case round=>
      obtain⟨q,rfl,hq,bQ⟩:=hrel;obtain⟨fU,rfl⟩:=aj wr;have gi:=af bQ;have x0:fU.cell? ↑aL=some (.slice j3 L.length xc):=(fy.out.below bQ).cell 0;have y0:fU.cell? ↑fc=some (.slice gB L.length fH):=(p7.out.below bQ).cell 0;clear bQ;have Xk:=Bg.out;by_cases sF:q<L.length
      ·have Ni:(q:Int)<(L.length:Int):=by omega
       obtain⟨z,hz⟩:∃z,L[q]? =some z:=⟨_,List.getElem?_eq_getElem sF⟩;have yT:=Ad.out.below gi.out;have R8:=kS.out.below gi.out;obtain⟨aH,nN,he,_,_⟩:=yT.at_ q z hz;injection he with eb _ eS;subst eb;subst eS;obtain⟨Yy,ani,he,_,_⟩:=R8.at_ q z hz;injection he with eb _ eS;subst eb;subst eS;obtain⟨l0,l1,l2,_⟩:=HF yT hz;obtain⟨l3,l4,gX,_⟩:=HF R8 hz;clear hz yT R8;go_wp2_with fail
       go_quiet (fail)
       have cn:=gi.out.trans ((Below.bO fU nq).mono gi.out.size);have je:=af cn;clear cn l0 l1 l2 l3 l4 gX x0 y0;go_wp2_with fail
       go_roundw
       case rel=>exact⟨q+1,by go_num,sF,je.out⟩
       case measure=>simp [RowKit.intOf];omega
      ·have wm:q=L.length:=by omega
       have cH:=ah bY gi;clear wm;go_wp2_with fail
       go_roundw
       case rel=>exact⟨j+1,by go_num,by omega,cH.out⟩
       case measure=>simp [RowKit.intOf];omega
    ·go_wp2_with fail
     go_roundw
     case rel=>exact⟨k+1,by go_num,hlt,fB.out⟩
     case measure=>simp [RowKit.intOf];omega
  ·have eR:k=V.length:=by omega
   have cH:=ah aG fZ;clear eR;go_wp2_with fail
   go_ret;exact⟨by trivial,cH.out⟩
end
end Go.Proofs.YtmaijkoopjocdaaGreat
