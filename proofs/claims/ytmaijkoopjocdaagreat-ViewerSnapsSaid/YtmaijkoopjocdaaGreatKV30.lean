import Derived.Test.YtmaijkoopjocdaaGreatKV25
import Derived.Test.YtmaijkoopjocdaaGreatKV28
set_option maxRecDepth 100000
set_option maxHeartbeats 64000000
namespace Go.Proofs.YtmaijkoopjocdaaGreat
open Go.RowKit Go.Lib
section
variable {W w w':World} {pv n:Nat} {hv:Value} {s:ig}
theorem Wt {B g cap:Nat} {x:aF} {t:List aF} (h:hH.Row w B (.slice ↑g (t.length+1) cap) (x::t)):
 hH.eT w (.slice (if cap=1 then some (⟨g,0,none⟩:Addr)else some ⟨g,7,none⟩) t.length (cap-1)) t:=by
 obtain⟨a,c,he,ho,hrd⟩:=h.sl;injection he with e1 _ bJ;subst e1;subst bJ;have hc:t.length+1≤cap:=ho.2.2;refine⟨if cap=1 then some (⟨g,0,none⟩:Addr)else some ⟨g,7,none⟩,cap-1,rfl,⟨fun h=>(by split at h<;>cases h),fun ad h=>?_,by omega⟩,fun j e hj=>?_⟩
 ·split at h<;>(injection h with h;subst h;exact⟨_,_,rfl⟩)
 ·have hjl:=dM hj
  rw [if_neg (by omega)];obtain⟨b,off,h1,h2,h3⟩:=hrd (j+1) e hj;have e1:g=b∧0=off:=by injection h1 with h1;injection h1 with x y;exact⟨x,y⟩
  obtain⟨rfl,rfl⟩:=e1;refine⟨g,7,rfl,h2,?_⟩;rw [show 7+j*hH.m=0+(j+1)*hH.m by show 7+j*7=0+(j+1)*7;omega];exact h3
structure JH (W w wr:World) (pv n:Nat) (hv:Value) (s:ig) (k:Nat) (dF:Value) (V:bG) (q:Int) (H:List aF):Prop where
 vY:fA W wr pv n dF ⟨V,q,H⟩
 kN:aK (fun g=>g=pv) w wr
 own:∀g,dF.ownBlock=some g→hv.ownBlock=some g∨w.heap.size≤g
 qO:jN H V q=jN s.H s.V s.seq
 len:H.length≤k
 vl:V.length=s.V.length
 oH:xU V
 sz:∃j,fX V j∧j+H.length≤700000
 JI:∀m∈H,Bc s.V.length m
 q0:0≤q
 q1:q≤9223372036854775807
theorem JH.Qj {wr wx:World} {k:Nat} {dF:Value} {V:bG} {q:Int} {H:List aF} (h:JH W w wr pv n hv s k dF V q H) (hb:Below wr.heap.size wr wx):JH W w wx pv n hv s k dF V q H:=
 ⟨h.vY.below hb,h.kN.trans (Below.keeps hb),h.own,h.qO,h.len,h.vl,h.oH,h.sz,h.JI,h.q0,h.q1⟩
theorem Wu (h:fA W w pv n hv s) (hl:s.V.length≤255) (hsz:∃j,fX s.V j∧j+s.H.length≤700000) (n7:xU s.V) (Wv:∀m∈s.H,Bc s.V.length m) (jW:0≤s.seq) (hq1:s.seq≤9223372036854775807):
 Calls Tryz.prog 40 #[.pointer ↑pv] w fun e w'=>e= .returned (.tuple #[])∧∃dF,fA W w' pv n dF (jN s.H s.V s.seq)∧aK (fun g=>g=pv) w w'∧∀g,dF.ownBlock=some g→hv.ownBlock=some g∨w.heap.size≤g:=by
 have Ww:Hid (JH W w w pv n hv s s.H.length hv s.V s.seq s.H):=af ⟨h,aK.refl _ _,fun g hg=> .inl hg,rfl,Nat.le_refl _,rfl,n7,hsz,Wv,jW,hq1⟩;clear h hsz n7 Wv jW hq1;go_enter Tryz.func40,Tryz.ntmps40
 go_wp2_with fail
 go_loopg [] s.H.length (fun k wr=>∃(dF:Value) (V:bG) (q:Int) (H:List aF),JH W w wr pv n hv s k dF V q H)
 case atStart=>exact⟨_,_,_,_,Ww.out⟩
 case round=>
  clear Ww;obtain⟨hv1,V,q,H,hF⟩:=hrel;obtain⟨ax,rfl⟩:=aj wr;have ez:=af hF;obtain⟨a,c,aT,_⟩:=hF.vY.box;obtain⟨jO,ch,gU⟩:=hF.vY.held.form;subst gU;have jA:=af aT;have jW:=hF.q0;have hq1:=hF.q1;have k2:ax.cell? ⟨pv,2,none⟩=some ↑q:=aT.cell 2;cases H with
  |nil=>
   have di:ax.cell? ⟨pv,3,none⟩=some (.slice jO 0 ch):=aT.cell 3;clear aT hF;go_wp2_with fail
   go_quiet (fail)
   go_wp2_with fail
   go_end0
   refine⟨by trivial,_,?_,ez.out.kN.trans (Below.keeps (Below.bO _ _)),ez.out.own⟩;rw [←ez.out.qO];exact ez.out.vY.below (Below.bO _ _)
  |cons m t=>
   have di:ax.cell? ⟨pv,3,none⟩=some (.slice jO (t.length+1) ch):=aT.cell 3;obtain⟨g,cap,he,_,hcs⟩:=hF.vY.held.at_ 0 m rfl;injection he with eb _ eS;subst eb;subst eS
   have CJ:iI ax g 0 [↑m.seq,↑m.inst,↑m.side,↑m.ap,↑m.aq,↑m.count,↑m.imp]:=by
    have:iI ax g (0*hH.m) m.cells:=hcs
    rwa [Nat.zero_mul]at this
   have c0:ax.cell? ↑g=some ↑m.seq:=CJ 0 _ rfl;have c1:ax.cell? ⟨g,1,none⟩=some ↑m.inst:=by simpa using CJ 1 _ rfl
   have c2:ax.cell? ⟨g,2,none⟩=some ↑m.side:=by simpa using CJ 2 _ rfl
   have c3:ax.cell? ⟨g,3,none⟩=some ↑m.ap:=by simpa using CJ 3 _ rfl
   have dH:ax.cell? ⟨g,4,none⟩=some ↑m.aq:=by simpa using CJ 4 _ rfl
   have b8:ax.cell? ⟨g,5,none⟩=some ↑m.count:=by simpa using CJ 5 _ rfl
   have fJ:ax.cell? ⟨g,6,none⟩=some ↑m.imp:=by simpa using CJ 6 _ rfl
   have hm:=hF.JI m (by simp);have hs1:=hm.s1;have fD:=hm.o.seq.2;have y1:IntKind.i64.wrap (m.seq-1)=m.seq-1:=IntWalk.i64_in _ (by omega);have hpos:(0:Int)<(t.length:Int)+1:=by omega
   have amk:t.length+1≤700000:=by obtain⟨j,_,hj2⟩:=hF.sz;rw [List.length_cons]at hj2;omega
   have cM:=af hm;clear aT hF hcs CJ hm;by_cases hle:m.seq-1≤q
   ·go_wp2_with fail
    go_quiet (fail)
    obtain⟨ay,dL⟩:=ai ax.heap.size;have tY:(ax.drewN nq).heap.size=ay:=dL;go_upto_region 2 with(fail)
    have ep:Below ax.heap.size ax ((ax.drewN nq).alloc (.cells #[↑m.seq,↑m.inst,↑m.side,↑m.ap,↑m.aq,↑m.count,↑m.imp] 86)):=(Below.bO ax nq).trans ((Below.aI (ax.drewN nq) _).mono (Nat.le_refl _));have kZ:=af (ez.out.Qj ep);have fT:av ((ax.drewN nq).alloc (.cells #[↑m.seq,↑m.inst,↑m.side,↑m.ap,↑m.aq,↑m.count,↑m.imp] 86)) ax.heap.size 86 #[↑m.seq,↑m.inst,↑m.side,↑m.ap,↑m.aq,↑m.count,↑m.imp]:=av.new (ax.drewN nq) _ _;rw [dL]at fT;have dc:=af fT;clear ep fT dL tY c0 c1 c2 c3 dH b8 fJ k2 di;generalize (ax.drewN nq).alloc (.cells #[↑m.seq,↑m.inst,↑m.side,↑m.ap,↑m.aq,↑m.count,↑m.imp] 86)=aA at*;obtain⟨a5,b8,cx,_⟩:=kZ.out.vY.box;have k2:aA.cell? ⟨pv,2,none⟩=some ↑q:=cx.cell 2;have m0:aA.cell? ↑ay=some ↑m.seq:=dc.out.cell 0;clear cx;by_cases heq:m.seq-1=q
    ·have ae8:(m.seq-1==q)=true:=by simpa using heq
     have JJ:Hid (jN (m::t) V q=jN t (gm m V) m.seq):=af (by conv=>{lhs;unfold jN};rw [if_pos hle,if_pos heq]);clear hle;go_quiet (fail)
     have sy:=af (kZ.out.Qj (Below.bO aA nq));have eD:=af (dc.out.below (Below.bO aA nq));generalize aA.drewN nq=aN at*;clear k2 m0 heq;obtain⟨jj,sA,hj2⟩:=ez.out.sz;rw [List.length_cons]at hj2;have vV:=Wx sy.out.vY (by have:=ez.out.vl;dsimp only;omega) sA (by omega) ez.out.oH (m:=m) (by have h1:=ez.out.vl;have h2:=cM.out.f;rw [←h1]at h2;exact h2);unfold aF.agg at vV;have JK:=af vV;obtain⟨m0,m1,m2,eN,ea,eY,dV⟩:=eD.out.amz;clear vV sA hj2;go_wp2_with fail
     refine JK.out.mono ?_;rintro e bf ⟨rfl,pH,kE⟩;have k3:=af pH;have JL:=af (sy.out.kN.trans kE);clear pH kE JK m0 m1 m2 eN ea eY dV;have aT:=(k3.out).box;obtain⟨a9,kp,gD,_⟩:=aT;have di:bf.cell? ⟨pv,3,none⟩=some (.slice ↑g (t.length+1) ch):=gD.cell 3;have qA:∀u:World,Below bf.heap.size bf u→u.cell? ⟨pv,3,none⟩=some (.slice ↑g (t.length+1) ch)∧u.frozen? ⟨pv,3,none⟩=false:=fun u hu=>⟨(gD.below hu).cell 3,(gD.below hu).frozen 3⟩;have Ey:=af qA;obtain⟨off,hoff⟩:∃off,(if ch=1 then some (⟨g,0,none⟩:Addr)else some ⟨g,7,none⟩)=some ⟨g,off,none⟩:=by by_cases h:ch=1;exact⟨0,if_pos h⟩;exact⟨7,if_neg h⟩
     have htl:=Wt (k3.out).held;rw [hoff]at htl;have kj:=af (T8 htl (by omega));have fw:1≤t.length+1:=by omega
     have z2:1≤ch:=by have:=htl.choose_spec.choose_spec.2.1.2.2;have h2:=(k3.out).held;obtain⟨_,_,e,o,_⟩:=h2.sl;injection e with _ _ bJ;rw [bJ];have:=o.2.2;rw [List.length_cons]at this;omega
     have z3:(1:Int)≤(t.length:Int)+1:=by omega
     have z4:t.length+1-1=t.length:=by omega
     clear gD htl qA;go_wp2_with fail
     refine kj.out.mono ?_;rintro e bW ⟨v9,rfl,jV,aP⟩;obtain⟨a8,iC,rfl⟩:=jV.form;have JM:=(k3.out).below aP;have Qk:=af (JM.Ql (jV.base (B':=W.heap.size) (k3.out).aJ.size));have uB:=af ((JL.out).trans ((Below.keeps aP).trans (ct bW pv 3 (.slice a8 t.length iC))));have ym:Hid (∀g,(Value.slice a8 t.length iC).ownBlock=some g→hv.ownBlock=some g∨w.heap.size≤g):=af fun g hg=> .inr (Nat.le_trans (JL.out).size (cS jV g hg));have M1:=(Ey.out bW aP).1;have f9:=(Ey.out bW aP).2;clear jV aP JM kj di hoff Ey fw z2 z3 z4;go_wp2_with fail
     go_roundg (gk-1)
     case measure=>have:=ez.out.len;rw [List.length_cons]at this;omega
     case rel=>
      refine⟨_,gm m V,m.seq,t,Qk.out,uB.out,ym.out,by rw [←ez.out.qO,JJ.out],by have:=ez.out.len;rw [List.length_cons]at this;omega,by rw [CK];exact ez.out.vl,M2 cM.out.f.sd ez.out.oH,by obtain⟨j,h1,h2⟩:=ez.out.sz;rw [List.length_cons]at h2;exact⟨j+1,GY h1,by omega⟩,fun x hx=>ez.out.JI x (List.mem_cons_of_mem _ hx),by have:=cM.out.s1;omega,cM.out.o.seq.2⟩
    ·have ae8:(m.seq-1==q)=false:=by rw [beq_eq_false_iff_ne];exact heq
     have JJ:Hid (jN (m::t) V q=jN t V q):=af (by conv=>{lhs;unfold jN};rw [if_pos hle,if_neg heq]);clear hle heq;go_quiet (fail)
     have sy:=af (kZ.out.Qj (Below.bO aA nq));generalize aA.drewN nq=aN at*;clear k2 m0;have aT:=(sy.out.vY).box;obtain⟨a9,kp,gD,_⟩:=aT;have di:aN.cell? ⟨pv,3,none⟩=some (.slice ↑g (t.length+1) ch):=gD.cell 3;have qA:∀u:World,Below aN.heap.size aN u→u.cell? ⟨pv,3,none⟩=some (.slice ↑g (t.length+1) ch)∧u.frozen? ⟨pv,3,none⟩=false:=fun u hu=>⟨(gD.below hu).cell 3,(gD.below hu).frozen 3⟩;have Ey:=af qA;obtain⟨off,hoff⟩:∃off,(if ch=1 then some (⟨g,0,none⟩:Addr)else some ⟨g,7,none⟩)=some ⟨g,off,none⟩:=by by_cases h:ch=1;exact⟨0,if_pos h⟩;exact⟨7,if_neg h⟩
     have htl:=Wt (sy.out.vY).held;rw [hoff]at htl;have kj:=af (T8 htl (by omega));have fw:1≤t.length+1:=by omega
     have z2:1≤ch:=by have:=htl.choose_spec.choose_spec.2.1.2.2;have h2:=(sy.out.vY).held;obtain⟨_,_,e,o,_⟩:=h2.sl;injection e with _ _ bJ;rw [bJ];have:=o.2.2;rw [List.length_cons]at this;omega
     have z3:(1:Int)≤(t.length:Int)+1:=by omega
     have z4:t.length+1-1=t.length:=by omega
     clear gD htl qA;go_wp2_with fail
     refine kj.out.mono ?_;rintro e bW ⟨v9,rfl,jV,aP⟩;obtain⟨a8,iC,rfl⟩:=jV.form;have JM:=(sy.out.vY).below aP;have Qk:=af (JM.Ql (jV.base (B':=W.heap.size) (sy.out.vY).aJ.size));have uB:=af ((sy.out.kN).trans ((Below.keeps aP).trans (ct bW pv 3 (.slice a8 t.length iC))));have ym:Hid (∀g,(Value.slice a8 t.length iC).ownBlock=some g→hv.ownBlock=some g∨w.heap.size≤g):=af fun g hg=> .inr (Nat.le_trans (sy.out.kN).size (cS jV g hg));have M1:=(Ey.out bW aP).1;have f9:=(Ey.out bW aP).2;clear jV aP JM kj di hoff Ey fw z2 z3 z4;go_wp2_with fail
     go_roundg (gk-1)
     case measure=>have:=ez.out.len;rw [List.length_cons]at this;omega
     case rel=>
      refine⟨_,V,q,t,Qk.out,uB.out,ym.out,by rw [←ez.out.qO,JJ.out],by have:=ez.out.len;rw [List.length_cons]at this;omega,ez.out.vl,ez.out.oH,by obtain⟨j,h1,h2⟩:=ez.out.sz;rw [List.length_cons]at h2;exact⟨j,h1,by omega⟩,fun x hx=>ez.out.JI x (List.mem_cons_of_mem _ hx),ez.out.q0,ez.out.q1⟩
   ·have JJ:Hid (jN (m::t) V q=⟨V,q,m::t⟩):=af (by unfold jN;rw [if_neg hle])
    go_wp2_with fail
    go_quiet (fail)
    go_wp2_with fail
    go_end0
    refine⟨by trivial,_,?_,ez.out.kN.trans (Below.keeps (Below.bO _ _)),ez.out.own⟩;rw [←ez.out.qO,JJ.out];exact ez.out.vY.below (Below.bO _ _)
end
theorem akK {W w:World} {pv n:Nat} {hv:Value} {s:ig} (h:fA W w pv n hv s) {cc:Nat} (hk:pL n cc s) (lf:sG s.H) {v:Value} {b:List Int} (hsl:cZ.eT w v b) (hl:b.length≤900000) (hok:∀z∈b,isByte z) {q ii sd p t c:Int} {im:Bool} (hd:pg b=some ⟨q,ii,sd,p,t,c,im⟩) (hq:¬q<1) (hf:n6 n ⟨q,ii,sd,p,t,c,im⟩≠0):
 Calls Tryz.prog 11 #[.pointer ↑pv,v] w fun e w'=>e= .returned (.int .i64 (12))∧∃dF,fA W w' pv n dF s∧aK (wo pv hv) w w'∧∀g,dF.ownBlock=some g→hv.ownBlock=some g∨w.heap.size≤g:=by
 have hdec:=DV hsl hl hok;rw [hd]at hdec;unfold Cp at hdec;simp only [Option.getD_some,Option.isSome_some,if_true]at hdec;unfold aF.cells at hdec;dsimp only at hdec;have hmo:=(FQ hok hd).1;have uW:=af hmo;have oy:=af hdec;have H0:=af h;have dJ:=af hk;have B1:=af lf;have hlv:=hk.len;have b5:=af hf;clear hf hdec h hk hsl hl hok hd hmo lf;go_enter Tryz.func11,Tryz.ntmps11
 go_wp2_with fail
 refine oy.out.mono ?_;rintro e w1 ⟨rfl,hb⟩;have bA:=af hb;obtain⟨ay,dL⟩:=ai w1.heap.size;go_upto_region 2 with(fail)
 have hba:=Below.aI w1 (.cells #[↑q,↑ii,↑sd,↑p,↑t,↑c,↑im] 86);have fT:av (w1.alloc (.cells #[↑q,↑ii,↑sd,↑p,↑t,↑c,↑im] 86)) w1.heap.size 86 #[↑q,↑ii,↑sd,↑p,↑t,↑c,↑im]:=av.new w1 _ _;rw [dL]at fT;have dc:=af fT;have bL:Hid (w.heap.size≤ay):=af (by rw [←dL];exact hb.size);have aS:=af (hb.trans (hba.mono hb.size));clear hb hba fT dL bA oy;generalize w1.alloc (.cells #[↑q,↑ii,↑sd,↑p,↑t,↑c,↑im] 86)=w2 at*;have ot:=af (H0.out.below aS.out);obtain⟨a2,c2,aT,_⟩:=H0.out.below aS.out |>.box;have jA:=af aT;obtain⟨m0,m1,m2,eN,ea,eY,dV⟩:=dc.out.amz;have k0:w2.cell? ↑pv=some ↑n:=aT.cell 0;clear aT;have hq2:decide (q<1)=false:=decide_eq_false (by omega);have eu:=xQ n ⟨q,ii,sd,p,t,c,im⟩ w2.drew;unfold aF.agg at eu;dsimp only at eu;obtain⟨fv,kV⟩:=ai (n6 n ⟨q,ii,sd,p,t,c,im⟩);rw [kV]at eu;have vh:=af eu;have B2:=af kV;clear eu kV;go_upto_region 4 with(fail)
 have hS:w2.cell? ↑ay=some ↑q∧w2.cell? ⟨ay,1,none⟩=some ↑ii∧w2.cell? ⟨ay,2,none⟩=some ↑sd∧w2.cell? ⟨ay,3,none⟩=some ↑p∧w2.cell? ⟨ay,4,none⟩=some ↑t∧w2.cell? ⟨ay,5,none⟩=some ↑c∧w2.cell? ⟨ay,6,none⟩=some ↑im∧w2.cell? ↑pv=some ↑n:=⟨m0,m1,m2,eN,ea,eY,dV,k0⟩;refine cP (S:=fun w2=>w2.cell? ↑ay=some ↑q∧w2.cell? ⟨ay,1,none⟩=some ↑ii∧w2.cell? ⟨ay,2,none⟩=some ↑sd∧w2.cell? ⟨ay,3,none⟩=some ↑p∧w2.cell? ⟨ay,4,none⟩=some ↑t∧w2.cell? ⟨ay,5,none⟩=some ↑c∧w2.cell? ⟨ay,6,none⟩=some ↑im∧w2.cell? ↑pv=some ↑n) hS fun hHeld=>?_;refine au 0 ?_;refine au 1 ?_;refine au 2 ?_;refine au 3 ?_;refine au 4 ?_;refine au 5 ?_;refine au 6 ?_;refine au 7 ?_;refine au 8 ?_;refine aU 9 fun K hK=>?_;go_simp;refine vh.out.mono ?_;rintro e w3 ⟨rfl,hb⟩;have hb3:=(Below.bO w2 1).trans hb;have mb:=af (ot.out.below hb3);have aQ:=ag aS hb3;have eD:=af (dc.out.below hb3);have gV:=af (jA.out.below hb3);refine hK.out _ _ ⟨eD.out.cell 0,eD.out.cell 1,eD.out.cell 2,eD.out.cell 3,eD.out.cell 4,eD.out.cell 5,eD.out.cell 6,gV.out.cell 0⟩ (fun hHeld=>?_);clear hK K hb hb3 hS vh ot aS dc jA m0 m1 m2 eN ea eY dV k0;refine au 10 ?_;refine dY 11 fun K hK=>?_;go_simp;refine hK.out _ _ ?_;clear hK K hHeld hq2;have hfn:(fv !=0)=true:=by rw [←B2.out];simpa using b5.out
 go_wp2_with fail
 go_ret;exact⟨by trivial,hv,mb.out,Below.keeps aQ.out,fun g hg=> .inl hg⟩
structure yO (W w:World) (B ay gr cX go cap:Nat) (V:bG) (P:List bB) (q p t c:Int) (i:Nat) (sd:Int) (im:Bool):Prop where
 bm:av w ay 86 #[↑q,↑i,↑sd,↑p,↑t,↑c,↑im]
 br:av w gr 54 #[.slice none 0 0]
 RJ:av w cX 54 #[.slice ↑go V.length cap]
 row:eJ.Row w W.heap.size (.slice ↑go V.length cap) P
 sh:∀(j:Nat) (p:bB) (x:aX×aX),P[j]? =some p→V[j]? =some x→bV bK w B p.s x.1∧bV bK w B p.t x.2
 aJ:Below W.heap.size W w
theorem yO.below {W w w':World} {B ay gr cX go cap:Nat} {V:bG} {P:List bB} {q p t c:Int} {i:Nat} {sd:Int} {im:Bool} (h:yO W w B ay gr cX go cap V P q p t c i sd im) (hb:Below w.heap.size w w'):yO W w' B ay gr cX go cap V P q p t c i sd im:=
 ⟨h.bm.below hb,h.br.below hb,h.RJ.below hb,h.row.below hb,fun j p x hp hx=>⟨(h.sh j p x hp hx).1.below hb,(h.sh j p x hp hx).2.below hb⟩,h.aJ.trans (hb.mono h.aJ.size)⟩
theorem yO.fin {W w w':World} {B ay gr cX go cap:Nat} {V:bG} {P:List bB} {q p t c:Int} {i s:Nat} {sd:Int} {im:Bool} {bx:bB} {x:aX×aX} {sh:eO} {d:aX} (h:yO W w B ay gr cX go cap V P q p t c i sd im) (hB:B≤W.heap.size) (hl:P.length=V.length) (hp:P[i]? =some bx) (hx:V[i]? =some x) (hs:s<2) (hk:aK (fun g=>g=go) w w')
 (hr:eJ.Row w' W.heap.size (.slice ↑go V.length cap) (P.set i (bx.put s sh))) (hd:bV bK w' B sh d):cg eJ bK w' B (.slice ↑go V.length cap) (V.set i (Me x s d)):=by
 have rm:ck w go eJ.t:=eo h.row go rfl;have hkp:∀{y:eO} {e:aX},bV bK w B y e→bV bK w' B y e:=fun hh=>hh.keep hk (fun g hg e=>hg.ne rm (by decide) e);have hil:=dM hx;refine⟨_,hr.base hB,by rw [List.length_set,List.length_set];exact hl,fun j y z hy hz=>?_⟩;by_cases hj:j=i
 ·subst hj
  rw [pR hp]at hy;rw [pR hx]at hz;injection hy with hy;injection hz with hz;subst hy;subst hz;have h0:=h.sh j bx x hp hx;rcases(show s=0∨s=1 by omega)with rfl|rfl
  ·exact⟨hd,hkp h0.2⟩
  ·exact⟨hkp h0.1,hd⟩
 ·rw [List.getElem?_set_ne (fun e=>hj e.symm)]at hy hz
  have h0:=h.sh j y z hy hz;exact⟨hkp h0.1,hkp h0.2⟩
theorem yO.imp {W w w':World} {B ay gr cX go cap:Nat} {V:bG} {P:List bB} {q p t c:Int} {i s:Nat} {bx:bB} {l:aB} {b:Bool} (h:yO W w B ay gr cX go cap V P q p t c i ((s:Int)+1) true) (hB:B≤W.heap.size) (hl:P.length=V.length) (hp:P[i]? =some bx) (hs:s<2) (hk:aK (fun g=>g=go) w w')
 (hr:eJ.Row w' W.heap.size (.slice ↑go V.length cap) (P.set i (bx.put s ⟨(bx.sh s).a,(bx.sh s).n,(bx.sh s).c,l,b⟩))) (hb:decide (0<t)=b) (hv:l=if b=true then⟨p,t,c⟩else jD):cg eJ bK w' B (.slice ↑go V.length cap) (gm ⟨q,i,(s:Int)+1,p,t,c,true⟩ V):=by
 obtain⟨x,hx⟩:∃x,V[i]? =some x:=⟨_,List.getElem?_eq_getElem (by have:=dM hp;omega)⟩;rw [T3 (m:=⟨q,i,(s:Int)+1,p,t,c,true⟩) rfl rfl hs hx];have rm:ck w go eJ.t:=eo h.row go rfl;have h0:=h.sh i bx x hp hx
 have h1:bV bK w B (bx.sh s) (c9 x s):=by
  rcases(show s=0∨s=1 by omega)with rfl|rfl
  ·exact h0.1
  ·exact h0.2
 have h2:=h1.keep hk (fun g hg e=>hg.ne rm (by decide) e);refine h.fin hB hl hp hx hs hk hr ?_
 have e:(c9 x s).app ⟨q,i,(s:Int)+1,p,t,c,true⟩=⟨(c9 x s).lv,l,b⟩:=by
  unfold aX.app;rw [if_pos rfl];dsimp only [aF.lv];subst hv;subst hb;by_cases h:0<t
  ·rw [if_pos h,decide_eq_true h,if_pos rfl]
  ·rw [if_neg h,decide_eq_false h,if_neg (by simp)]
 rw [e];exact⟨h2.n,h2.row,rfl,rfl⟩
theorem yO.grow {W w w':World} {B ay gr cX go cap:Nat} {V:bG} {P:List bB} {q p t c:Int} {i:Nat} {sd:Int} {im:Bool} {F:Nat→Prop} (h:yO W w B ay gr cX go cap V P q p t c i sd im) (lo:∀(j:Nat) (p:bB) (g:Nat),P[j]? =some p→(p.s.own=some g∨p.t.own=some g)→g<W.heap.size) (hk:aK F w w') (hF:∀g,F g→ck w g bK.t∧W.heap.size≤g):yO W w' B ay gr cX go cap V P q p t c i sd im:=
 ⟨h.bm.keeps hk (fun e=>(hF _ e).1.ne h.bm.aE (by decide) rfl),h.br.keeps hk (fun e=>(hF _ e).1.ne h.br.aE (by decide) rfl),h.RJ.keeps hk (fun e=>(hF _ e).1.ne h.RJ.aE (by decide) rfl),
  h.row.keep hk (fun g hg e=>(hF _ e).1.ne hg (by decide) rfl),
  fun j p x hp hx=>⟨⟨(h.sh j p x hp hx).1.n,(h.sh j p x hp hx).1.row.Bd hk (fun g hg e=>absurd (lo j p g hp (.inl hg)) (by have:=(hF g e).2;omega)),(h.sh j p x hp hx).1.im,(h.sh j p x hp hx).1.has⟩,⟨(h.sh j p x hp hx).2.n,(h.sh j p x hp hx).2.row.Bd hk (fun g hg e=>absurd (lo j p g hp (.inr hg)) (by have:=(hF g e).2;omega)),(h.sh j p x hp hx).2.im,(h.sh j p x hp hx).2.has⟩⟩,
  h.aJ.trans (hk.below (fun g hg=>(hF g hg).2) h.aJ.size)⟩
structure Hw (W w:World) (B ay gr cX go cap:Nat) (V:bG) (P:List bB) (q p t c:Int) (i:Nat) (sd:Int) (v:Value) (out:List aB):Prop where
 jP:yO W w B ay gr cX go cap V P q p t c i sd false
 row:bK.Row w W.heap.size v out
theorem Hw.below {W w w':World} {B ay gr cX go cap:Nat} {V:bG} {P:List bB} {q p t c:Int} {i:Nat} {sd:Int} {v:Value} {out:List aB} (h:Hw W w B ay gr cX go cap V P q p t c i sd v out) (hb:Below w.heap.size w w'):Hw W w' B ay gr cX go cap V P q p t c i sd v out:=⟨h.jP.below hb,h.row.below hb⟩
theorem Hw.push {W w w':World} {B ay gr cX go cap:Nat} {V:bG} {P:List bB} {q p t c:Int} {i:Nat} {sd:Int} {v v':Value} {out:List aB} {l:aB} (h:Hw W w B ay gr cX go cap V P q p t c i sd v out) (lo:∀(j:Nat) (p:bB) (g:Nat),P[j]? =some p→(p.s.own=some g∨p.t.own=some g)→g<W.heap.size) (hg:w.grownBy w' v.ownBlock) (hr:bK.Row w' W.heap.size v' (out++ [l])):Hw W w' B ay gr cX go cap V P q p t c i sd v' (out++ [l]):=
 ⟨h.jP.grow lo (fK hg) (fun g e=>⟨eo h.row g e,cS h.row g e⟩),hr⟩
theorem MP {id:Int} {x:aC} {i:Nat}:∀(S:List (List aC)) (k:Nat),gR id k S=some (i,x)→k≤i∧∃L,S[i-k]? =some L∧vQ L id=(x,true)
 | [],k,h=>by simp [gR]at h
 |L::t,k,h=>by
  unfold gR at h;split at h
  ·rename_i hb
   injection h with h;injection h with h1 h2;subst h1;exact⟨Nat.le_refl _,L,by rw [Nat.sub_self];rfl,by rw [←h2,←hb]⟩
  ·obtain⟨h1,K,h2,h3⟩:=MP t (k+1) h
   refine⟨by omega,K,?_,h3⟩;rw [show i-k=(i-(k+1))+1 by omega,List.getElem?_cons_succ];exact h2
def fW (S:List (List aC)) (id aq:Int):List (List aC)×Int:=match gR id 0 S with
 |none=>(S,26)
 |some (i,_)=>(S.set i (pF (S.getD i []) id aq).1,(pF (S.getD i []) id aq).2)
section
variable {W w w':World} {ps pb:Nat} {p:Prod} {Q:List Nat} {S:List (List aC)} {L L':List aC}
theorem V0 {id:Int} (h:gR id 0 S=none) (aq:Int):fW S id aq=(S,26):=by
 unfold fW;rw [h]
theorem V1 {id:Int} {i:Nat} {x:aC} (h:gR id 0 S=some (i,x)) (hl:S[i]? =some L) (aq:Int):fW S id aq=(S.set i (pF L id aq).1,(pF L id aq).2):=by
 unfold fW;rw [h];have:S.getD i []=L:=by rw [List.getD_eq_getElem?_getD,hl];rfl
 rw [←this]
theorem Jq (h:eH W w ps p Q S) (hl:S.length≤100) (hL:∀L∈S,L.length≤250∧(L.map aC.id).Nodup∧∀o∈L,1≤o.aq∧o.aq≤1000000) (id aq:Int):
 Calls Tryz.prog 66 #[.pointer ↑ps,↑id,↑aq] w fun e w'=>e= .returned (.int .i64 (fW S id aq).2)∧eH W w' ps p Q (fW S id aq).1∧aK (fun g=>g∈Q) w w':=by
 have b5:=af (Ep h hl (fun L h=>(hL L h).1) id);have H:=af h;have iu:=af hL;have HN:=af hl;cases hf:gR id 0 S with
 |none=>
  rw [hf]at b5;have bP:=af (V0 hf aq);clear h hL hf hl;unfold xe at b5;go_enter Tryz.func66,Tryz.ntmps66
  go_wp2_with fail
  refine b5.out.mono ?_;rintro e w2 ⟨rfl,hb2⟩;have s8:Hid (aK (fun g=>g∈Q) w (w2.alloc (.cells #[.int .i64 0,.int .i64 0,.int .i64 0,.int .i64 0,.bool false] 139))):=af (Below.keeps (hb2.trans ((Below.aI w2 _).mono hb2.size)));have H2:=af ((H.out.below hb2).below (Below.aI w2 (.cells #[.int .i64 0,.int .i64 0,.int .i64 0,.int .i64 0,.bool false] 139)));clear hb2 b5;go_wp2_with fail
  go_ret;refine⟨?_,by rw [bP.out];exact H2.out,s8.out⟩;rw [bP.out];first|done|rfl
 |some rI=>
  obtain⟨i,x⟩:=rI;rw [hf]at b5;obtain⟨_,L,hs,hfo⟩:=MP S 0 hf;rw [Nat.sub_zero]at hs;have bP:=af (V1 hf hs aq);have aD:=af hs;obtain⟨hi,ake⟩:=lB hs;clear h hL hf hfo hs ake;obtain⟨oi,os,op,fP,q8⟩:=x;unfold xe at b5;simp only at b5;go_enter Tryz.func66,Tryz.ntmps66
  go_wp2_with fail
  refine b5.out.mono ?_;rintro e w2 ⟨rfl,hb2⟩;have s8:Hid (aK (fun g=>g∈Q) w (w2.alloc (.cells #[↑oi,↑os,↑op,↑fP,↑q8] 139))):=af (Below.keeps (hb2.trans ((Below.aI w2 _).mono hb2.size)));have H2:=af ((H.out.below hb2).below (Below.aI w2 (.cells #[↑oi,↑os,↑op,↑fP,↑q8] 139)));clear hb2 b5;go_upto_region 4 with(fail)
  obtain⟨pb,mz,hq,fD,hrb⟩:=H2.out.get hi;rw [aD.out]at fD;injection fD with fD;subst fD;obtain⟨n,hn⟩:=ai Q.length;have hin:i<n:=by rw [←hn,H2.out.len];exact hi
  obtain⟨g,c,aT,hrow,q0⟩:=H2.out.ptr hq;have dS:=aT.cell 11;rw [hn]at dS;have ie:=af hq;have cM:=iu.out L (List.mem_of_getElem? aD.out);have bg:=af (Wg hrb cM.1 cM.2.1 cM.2.2 id aq);have tv:=af hn;clear aT hrow hrb hq cM hn hi;generalize w2.alloc (.cells _ 139)=w3 at*;have CH:w3.cell? ⟨ps,11,none⟩=some (.slice ↑g n c):=dS;clear dS;go_wp2_with fail
  refine bg.out.mono ?_;rintro e az ⟨rfl,gJ,iZ⟩;have H4:=af (H2.out.Qe ie.out iZ gJ);have zP:Hid (aK (fun g=>g∈Q) w az):=af (s8.out.trans (iZ.more fun k hk=>by have e:k=pb:=hk;rw [e];exact List.mem_of_getElem? ie.out));clear gJ iZ bg;go_wp2_with fail
  go_ret;refine⟨?_,by rw [bP.out];exact H4.out,zP.out⟩;rw [bP.out];first|done|rfl
end
structure xq where
 kind:Int
 id:Int
 inst:Int
 side:Int
 ap:Int
 aq:Int
 left:Int
 why:Int
def xq.cells (x:xq):List Value:= [.int .i64 x.kind,.int .i64 x.id,.int .i64 x.inst,.int .i64 x.side,.int .i64 x.ap,.int .i64 x.aq,.int .i64 x.left,.int .i64 x.why]
def aiF:xq:=⟨0,0,0,0,0,0,0,0⟩
theorem xq.kI (x:xq):∀u∈x.cells,u.oneCell'=true:=by
 intro u hu;simp only [xq.cells,List.mem_cons,List.not_mem_nil,or_false]at hu;rcases hu with rfl|rfl|rfl|rfl|rfl|rfl|rfl|rfl<;>rfl
def oa:bl xq:=⟨xq.cells,8,fun _=>rfl,xq.kI,by omega,143,77,.agg aiF.cells.toArray,64,Tryz.underlying77,by kernel_rfl,by rfl,by omega⟩
theorem bl.Row.CG {α:Type} (Y:bl α) {w:World} {g:Nat} {L:List α} (h:av w g Y.t (L.flatMap Y.cells).toArray) (hl:L.length≤100000):Y.Row w g (.slice ↑g L.length L.length) L:=by
 have hfl:(L.flatMap Y.cells).length=L.length*Y.m:=mK Y.cells Y.m Y.len L;exact⟨hfl,.inr ⟨g,L.length,_,rfl,Nat.le_refl _,h,Nat.le_refl _,by unfold maxLen;omega,by rw [List.size_toArray,hfl],by rw [List.take_of_length_le (by rw [hfl];exact Nat.le_refl _)]⟩⟩
def Hh (p:Prod) (ps:Nat) (v:Value):Array Value:=#[.string p.code,.slice p.ma p.months.length p.mc,.int .i64 p.tick,.int .i64 p.low,.int .i64 p.high,.int .i64 p.wide,.int .i64 p.rule,.int .i64 p.top,.int .i64 p.least,.int .i64 p.part,.slice p.sa p.settle.length p.sc,.pointer (some ⟨ps,0,none⟩),v]
structure eF (W w:World) (pm ps:Nat) (p:Prod) (Q:List Nat) (S:List (List aC)) (E:List Int):Prop where
 box:∃a c,av w pm 76 (Hh p ps (.slice a E.length c))∧e8.Row w W.heap.size (.slice a E.length c) E
 cr:eH W w ps p Q S
 base:W.heap.size≤pm
section
variable {W w w':World} {pm ps pb:Nat} {p:Prod} {Q:List Nat} {S S':List (List aC)} {E:List Int}
theorem eF.below (h:eF W w pm ps p Q S E) (hb:Below w.heap.size w w'):eF W w' pm ps p Q S E:=by
 obtain⟨a,c,h1,h2⟩:=h.box;exact⟨⟨a,c,h1.below hb,h2.below hb⟩,h.cr.below hb,h.base⟩
theorem eF.turn (h:eF W w pm ps p Q S E) (hs:eH W w' ps p Q S') (hk:aK (fun g=>g∈Q) w w'):eF W w' pm ps p Q S' E:=by
 obtain⟨a,c,h1,h2⟩:=h.box;have hq:∀g,g∈Q→ck w g 181:=fun g hg=>(h.cr.py hg).1;exact⟨⟨a,c,h1.keeps hk (fun e=>h1.aE.ne (hq _ e) (by decide) rfl),h2.keep hk (fun g hg e=>hg.ne (hq _ e) (by decide) rfl)⟩,hs,h.base⟩
theorem eF.qT {F:Nat→Prop} {t:TypeId} {B:Nat} (h:eF W w pm ps p Q S E) (hk:aK F w w') (hF:∀g,F g→ck w g t) (hB:W.heap.size≤B) (hb:∀g,F g→B≤g) (ht:t≠76∧t≠2∧t≠129∧t≠134∧t≠181∧t≠139:=by decide):eF W w' pm ps p Q S E:=by
 obtain⟨a,c,h1,h2⟩:=h.box;have hne:∀{g:Nat} {t':TypeId},ck w g t'→t≠t'→¬F g:=fun hg hn e=>hg.ne (hF _ e) (Ne.symm hn) rfl;exact⟨⟨a,c,h1.keeps hk (hne h1.aE ht.1),h2.keep hk (fun g hg=>hne hg ht.2.1)⟩,h.cr.qT hk hF hB hb ht.2.2,h.base⟩
theorem Ch (id why:Int) (w:World):
 Calls Tryz.prog 63 #[↑id,↑why] w fun e w'=>∃v,e= .returned v∧oa.Row w' w.heap.size v [⟨2,id,0,0,0,0,0,why⟩]∧Below w.heap.size w w':=by
 go_enter Tryz.func63,Tryz.ntmps63
 go_wp2_with fail
 go_ret;exact⟨_,rfl,bl.Row.CG oa (L:= [⟨2,id,0,0,0,0,0,why⟩]) (av.new w 143 _) (by simp),Below.aI w _⟩
theorem aiG {F:List pG} {a:Option Addr} {n c:Nat} (h:qg.eT w (.slice a n c) F) (hn:F.length=n) (hl:n≤100000) (inst month sp iB:Int) (rT:Bool):
 Calls Tryz.prog 138 #[↑inst,.agg #[↑sp,↑iB,↑rT,.slice a n c],↑month] w fun e w'=>∃x:Int,e= .returned ↑x∧Below w.heap.size w w':=by
 have hba:=Below.aI w (.cells #[↑sp,↑iB,↑rT,.slice a n c] 206);have aD:=af (h.below hba);have aG:=af hba;have bU:Hid (av (w.alloc (.cells #[↑sp,↑iB,↑rT,.slice a n c] 206)) w.heap.size 206 #[↑sp,↑iB,↑rT,.slice a n c]):=af (av.new _ _ _);have HN:=af hn;clear h hba hn;go_enter Tryz.func138,Tryz.ntmps138
 go_upto_region 1 with(fail)
 obtain⟨g,hg⟩:=ai w.heap.size;rw [hg]at bU⊢;clear hg;generalize w.alloc (.cells _ 206)=w1 at*;have c0:w1.cell? ↑g=some ↑sp:=bU.out.cell 0;have c3:w1.cell? ⟨g,3,none⟩=some (.slice a n c):=bU.out.cell 3;by_cases hm:month=inst
 ·subst hm
  go_wp2_with fail
  go_ret;first|exact⟨_,rfl,aG.out⟩|exact aG.out|exact⟨⟨_,rfl⟩,aG.out⟩
 ·have hm':(month==inst)=false:=by rw [beq_eq_false_iff_ne];exact hm
  go_wp2_with fail
  go_loopw [7] (fun i w'=>∃k:Nat,i=↑k∧k≤n∧w1=w') (fun i _=>n-(RowKit.intOf i).toNat)
  case atStart=>exact⟨0,rfl,Nat.zero_le _,rfl⟩
  case round=>
   obtain⟨k,rfl,hk,rfl⟩:=hrel;by_cases hlt:k<n
   ·have hlt':(k:Int)<(n:Int):=by omega
    obtain⟨x,hx⟩:∃x,F[k]? =some x:=⟨_,List.getElem?_eq_getElem (by rw [HN.out];exact hlt)⟩;obtain⟨b,off,c',he,_,hc⟩:=aD.out.get hx;injection he with he hne eS;clear hne;subst he;subst eS;obtain⟨f0,f1,f2,f3,f4,f5⟩:=x;have d1:w1.cell? ⟨b,off+k*6+1,none⟩=some ↑f1:=hc 1 _ rfl;have d3:w1.cell? ⟨b,off+k*6+3,none⟩=some ↑f3:=hc 3 _ rfl;clear hc hx;by_cases he:f1=month
    ·subst he
     go_wp2_with fail
     go_ret;first|exact⟨_,rfl,aG.out⟩|exact aG.out|exact⟨⟨_,rfl⟩,aG.out⟩
    ·have he':(f1==month)=false:=by rw [beq_eq_false_iff_ne];exact he
     go_wp2_with fail
     go_roundw
     case rel=>exact⟨k+1,by go_num,hlt,by trivial⟩
     case measure=>simp [RowKit.intOf];omega
   ·have hkn:¬(k:Int)<(n:Int):=by omega
    go_wp2_with fail
    go_ret;first|exact⟨_,rfl,aG.out⟩|exact aG.out|exact⟨⟨_,rfl⟩,aG.out⟩
end
theorem rV.why {W w:World} {pr:Nat} {s:bH} (h:rV W w pr s):w.cell? ⟨pr,2,none⟩=some (.int .i64 (Yq s)):=by
 obtain⟨a,c,X,p,hb,_⟩:=h.box;exact hb.cell 2
structure anj (W w:World) (pr cI n:Nat) (s0:bH) (m:Nat) (v:Value) (f:Bool) (acc:bG) (t:bH):Prop where
 rd:rV W w pr t
 cW:av w cI 54 #[v]
 fh:cg eJ bK w W.heap.size v acc
 e1:acc++(BI m t).1=(BI n s0).1
 e2:(f&&(BI m t).2.1)=(BI n s0).2.1
 bJ:(BI m t).2.2=(BI n s0).2.2
 len:acc.length+m≤n
 le:fX acc 255
structure C9 (W w:World) (pr cI dB:Nat) (v:Value) (acc:bG) (x y:eO) (t:bH):Prop where
 rd:rV W w pr t
 cW:av w cI 54 #[v]
 fh:cg eJ bK w W.heap.size v acc
 jP:∀g,v.ownBlock=some g→g≠dB
 bo:av w dB 104 #[.slice x.a x.n x.c,↑x.im.ap,↑x.im.aq,↑x.im.count,↑x.has,.slice y.a y.n y.c,↑y.im.ap,↑y.im.aq,↑y.im.count,↑y.has]
structure ank (W ax w:World) (pr dB n:Nat) (s0:bH) (m:Nat) (x y:eO) (v:Value) (L:List aB) (t:bH):Prop where
 rd:rV W w pr t
 bo:av w dB 104 #[.slice x.a x.n x.c,↑x.im.ap,↑x.im.aq,↑x.im.count,↑x.has,.slice y.a y.n y.c,↑y.im.ap,↑y.im.aq,↑y.im.count,↑y.has]
 row:bK.Row w ax.heap.size v L
 kN:aK (fun g=>g=pr∨g=dB) ax w
 e1:L++(Da m t).1=(Da n s0).1
 e2:(Da m t).2=(Da n s0).2
 len:L.length+m≤n
section
variable {W ax w w':World} {pr cI dB:Nat} {v:Value} {acc:bG} {x y:eO} {t t':bH}
theorem C9.read (h:C9 W w pr cI dB v acc x y t) (sI:cI≠pr) (R9:dB≠pr) (hr:rV W w' pr t') (hk:aK (fun g=>g=pr) w w'):C9 W w' pr cI dB v acc x y t':=
 ⟨hr,h.cW.keeps hk sI,h.fh.keep hk (fun g hg e=>hg.ne h.rd.aE (by decide) e) (fun g hg e=>hg.ne h.rd.aE (by decide) e),h.jP,h.bo.keeps hk R9⟩
theorem C9.put {w2:World} {x' y':eO} (h:C9 W w pr cI dB v acc x y t) (sI:cI≠dB) (np:pr≠dB) (hb:W.heap.size≤dB) (hk:aK (fun g=>g=dB) w w2)
 (h2:av w2 dB 104 #[.slice x'.a x'.n x'.c,↑x'.im.ap,↑x'.im.aq,↑x'.im.count,↑x'.has,.slice y'.a y'.n y'.c,↑y'.im.ap,↑y'.im.aq,↑y'.im.count,↑y'.has]):C9 W w2 pr cI dB v acc x' y' t:=
 ⟨h.rd.keep hk np (fun k hk=>by have hk2:k=dB:=hk;rw [hk2];exact hb),h.cW.keeps hk sI,h.fh.JZ hk (fun g hg e=>h.jP g hg e) (fun g hg e=>hg.ne h.bo.aE (by decide) e),h.jP,h2⟩
theorem cg.QC {B:Nat} {v':Value} {P:List bB} {p:bB} {d:aX×aX} (hr:eJ.Row w B v' (P++ [p])) (hl:P.length=acc.length) (ho:∀(j:Nat) (p:bB) (x:aX×aX),P[j]? =some p→acc[j]? =some x→bV bK w B p.s x.1∧bV bK w B p.t x.2) (h1:bV bK w B p.s d.1) (h2:bV bK w B p.t d.2):cg eJ bK w B v' (acc++ [d]):=by
 refine⟨_,hr,by rw [List.length_append,List.length_append,hl];rfl,fun j q z hq hz=>?_⟩;by_cases hj:j<P.length
 ·rw [List.getElem?_append_left hj]at hq
  rw [List.getElem?_append_left (by omega)]at hz;exact ho j q z hq hz
 ·rw [List.getElem?_append_right (by omega)]at hq
  rw [List.getElem?_append_right (by omega)]at hz;have hj0:j-P.length=0:=by have:=dM hq;simp at this;omega
  rw [hj0]at hq;rw [←hl,hj0]at hz;injection hq with hq;injection hz with hz;subst hq;subst hz;exact⟨h1,h2⟩
theorem C9.grow {wb aA:World} {P:List bB} {v':Value} {d1 d2:aX} (h:C9 W w pr cI dB v acc x y t) (hb:Below w.heap.size w wb) (hP:eJ.Row wb W.heap.size v P) (hl:P.length=acc.length) (hs:∀(j:Nat) (p:bB) (x:aX×aX),P[j]? =some p→acc[j]? =some x→bV bK wb W.heap.size p.s x.1∧bV bK wb W.heap.size p.t x.2)
 (h1:bV bK w W.heap.size x d1) (h2:bV bK w W.heap.size y d2) (hr:eJ.Row aA W.heap.size v' (P++ [⟨x,y⟩])) (hg:wb.grownBy aA v.ownBlock) (gC:W.heap.size≤cI) (sI:pr≠cI):
 rV W (aA.setCell ↑cI v') pr t∧av (aA.setCell ↑cI v') cI 54 #[v']∧cg eJ bK (aA.setCell ↑cI v') W.heap.size v' (acc++ [(d1,d2)])∧aA.cell? ↑cI=some v∧aA.frozen? ↑cI=false:=by
 have hk:=fK hg;have bT:∀g,v.ownBlock=some g→ck wb g eJ.t:=fun g hg=>eo hP g hg;have dw:∀g,v.ownBlock=some g→W.heap.size≤g:=cS hP;have r1:=h.rd.below hb;have b1:=h.cW.below hb;have gT:=r1.keep hk (fun e=>(bT _ e).ne r1.aE (by decide) rfl) dw;have bk:=b1.keeps hk (fun e=>(bT _ e).ne b1.aE (by decide) rfl);have gX:∀{s:eO} {d:aX},bV bK wb W.heap.size s d→bV bK aA W.heap.size s d:=fun hh=>hh.keep hk (fun g hg e=>(bT _ e).ne hg (by decide) rfl);have EG:cg eJ bK aA W.heap.size v' (acc++ [(d1,d2)]):=cg.QC hr hl (fun j p x hp hx=>⟨gX (hs j p x hp hx).1,gX (hs j p x hp hx).2⟩) (gX (h1.below hb)) (gX (h2.below hb));have fu:=ct aA cI 0 v';have bI:=bk.aW 0 v';simp only [List.setIfInBounds_toArray,List.set_cons_zero]at bI;exact⟨gT.keep fu sI (fun k hk=>by have hk2:k=cI:=hk;rw [hk2];exact gC),bI,EG.keep fu (fun g hg e=>hg.ne bk.aE (by decide) e) (fun g hg e=>hg.ne bk.aE (by decide) e),bk.cell 0,bk.frozen 0⟩
end
end Go.Proofs.YtmaijkoopjocdaaGreat
