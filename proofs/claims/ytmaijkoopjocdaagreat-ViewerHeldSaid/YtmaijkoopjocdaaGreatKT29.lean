import Derived.Test.YtmaijkoopjocdaaGreatKT28
import Derived.Deep.CutBlock
set_option maxRecDepth 100000
set_option maxHeartbeats 64000000
namespace Go.Proofs.YtmaijkoopjocdaaGreat
open Go.RowKit
def sZ (L:List cZ) (cU sa bi bZ how:Int):Option cK:=if how= -1 then(ph L bi bZ cU sa true).map Ff else ph L cU sa bi bZ (how==0)
def L6 (a b how:Int):Int×Bool:=if how= -1 then pW a b else if how=0 then pW b a else qx a b
theorem aft {L:List cZ} {cU bi:Nat} {sa bZ how:Int} {x y:cZ} (hx:L[cU]? =some x) (hy:L[bi]? =some y):sZ L cU sa bi bZ how=
 if x.has sa=true∧y.has bZ=true then(if(L6 (x.ag sa) (y.ag bZ) how).2=true then some ⟨(L6 (x.ag sa) (y.ag bZ) how).1,min (x.ah sa) (y.ah bZ),cU,sa,bi,bZ⟩else none)else none:=by
 unfold sZ L6;by_cases h1:how= -1
 ·rw [if_pos h1,if_pos h1]
  have e:=UT (less:=true) (sa:=bZ) (bZ:=sa) hy hx;simp only [↓reduceIte]at e;rw [e];by_cases h2:x.has sa=true∧y.has bZ=true
  ·rw [if_pos h2,if_pos (show y.has bZ=true∧x.has sa=true from⟨h2.2,h2.1⟩)]
   generalize pW (x.ag sa) (y.ag bZ)=r;by_cases h3:r.2=true
   ·rw [if_pos h3,if_pos h3]
    show some (Ff _)=_;unfold Ff;rw [Int.min_comm]
   ·rw [if_neg h3,if_neg h3];rfl
  ·rw [if_neg h2,if_neg (fun h:y.has bZ=true∧x.has sa=true=>h2 ⟨h.2,h.1⟩)];rfl
 ·rw [if_neg h1,if_neg h1,UT hx hy]
  by_cases h2:how=0
  ·subst h2
   simp
  ·rw [if_neg h2]
   have:(how==0)=false:=by rw [beq_eq_false_iff_ne];exact h2
   rw [this];simp
theorem afh (p:Prod) (inst:Int) (ta:Option Addr) (c:Nat) (L:List cZ) (B:Nat) (v:Value) (O:List cK) (w:World) (hT:pV.fF w ta L) (hv:jE.Row w B v O) (hB:B≤w.heap.size) (ho:O.length≤1000)
 (cU bi ka kb:Nat) (how:Int) (x y:cZ) (hx:L[cU]? =some x) (hy:L[bi]? =some y) (hka:ka<2) (hkb:kb<2) (xa:x.ok) (LR:y.ok) (hh:how=1∨how=0∨how= -1):
 Calls Tryz.prog 131 #[p.agg,.slice ta L.length c,.int .i64 inst,v,.agg #[.int .i64 cU,.int .i64 ((ka:Int)+1)],.agg #[.int .i64 bi,.int .i64 ((kb:Int)+1)],.int .i64 how] w fun e w'=>∃v',e= .returned v'∧jE.Row w' B v' (O++(sZ L cU (ka+1) bi (kb+1) how).toList)∧Below w.heap.size w w':=by
 have s1:∀(w:World) (o:Obj),(w.alloc o).heap.size=w.heap.size+1:=fun w o=>by simp
 have gM:=af (aft (how:=how) (sa:=(ka:Int)+1) (bZ:=(kb:Int)+1) hx hy);obtain⟨va,vc,iN⟩:=hv.form;subst iN;have dm:=af hv
 obtain⟨b,off,rfl,er,W7⟩:∃b off,ta=some ⟨b,off,none⟩∧b<w.heap.size∧gL w b (off+cU*6) x.cells:=by
  obtain⟨b,off,h1,h2,h3⟩:=hT cU x hx;exact⟨b,off,h1,h2,h3⟩
 have W8:gL w b (off+bi*6) y.cells:=by
  obtain⟨b',off',h1,h2,h3⟩:=hT bi y hy;injection h1 with h1;injection h1 with h1 h4;subst h1;subst h4;exact h3
 have hal:(cU:Int)<(L.length:Int):=by have:=dc hx;omega
 have Qm:(bi:Int)<(L.length:Int):=by have:=dc hy;omega
 have W9:=af fun(ak:World) (hb:Below w.heap.size w ak)=>(W7.below hb er).tp;have Xa:=af fun(ak:World) (hb:Below w.heap.size w ak)=>(W8.below hb er).tp;unfold Prod.agg Prod.cells;clear hx hy W7 W8 hv hT;go_enter Tryz.func131,Tryz.ntmps131
 go_upto_region 1 with(fail)
 have hw0:Below w.heap.size w (((w.alloc (.cells #[.string p.code,.slice p.ma p.months.length p.mc,.int .i64 p.tick,.int .i64 p.low,.int .i64 p.high,.int .i64 p.wide,.int .i64 p.rule,.int .i64 p.top,.int .i64 p.least,.int .i64 p.part,.slice p.sa p.settle.length p.sc] 25)).alloc (.cells #[.int .i64 cU,.int .i64 ((ka:Int)+1)] 189)).alloc (.cells #[.int .i64 bi,.int .i64 ((kb:Int)+1)] 189)):=((Below.aA _ _).alloc (by rw [s1];omega) _).alloc (by rw [s1,s1];omega) _;have h2:=Ld (w.alloc (.cells #[.string p.code,.slice p.ma p.months.length p.mc,.int .i64 p.tick,.int .i64 p.low,.int .i64 p.high,.int .i64 p.wide,.int .i64 p.rule,.int .i64 p.top,.int .i64 p.least,.int .i64 p.part,.slice p.sa p.settle.length p.sc] 25)) 189 189 #[.int .i64 cU,.int .i64 ((ka:Int)+1)] #[.int .i64 bi,.int .i64 ((kb:Int)+1)];rw [s1]at h2;have Fw:=h2.1;have L7:=h2.2.1;clear h2;generalize ((w.alloc (.cells #[.string p.code,.slice p.ma p.months.length p.mc,.int .i64 p.tick,.int .i64 p.low,.int .i64 p.high,.int .i64 p.wide,.int .i64 p.rule,.int .i64 p.top,.int .i64 p.least,.int .i64 p.part,.slice p.sa p.settle.length p.sc] 25)).alloc (.cells #[.int .i64 cU,.int .i64 ((ka:Int)+1)] 189)).alloc (.cells #[.int .i64 bi,.int .i64 ((kb:Int)+1)] 189)=w0 at*;have a0:w0.cell? ⟨w.heap.size+1,0,none⟩=some (.int .i64 cU):=Fw.cell 0;obtain⟨c0,c1,c2,c3,dn,cj⟩:=W9.out _ hw0;have cG:=af Fw;have aE:=af L7;have IQ:=af hw0;clear Fw L7 hw0;go_upto_region 2 with(fail)
 clear a0 c0 c1 c2 c3 dn cj;have hb1:Below w0.heap.size w0 (w0.alloc (.cells x.cells.toArray 185)):=Below.aA _ _;have a0:(w0.alloc (.cells #[.bool x.h0,.bool x.h1,.int .i64 x.jO,.int .i64 x.p1,.int .i64 x.q0,.int .i64 x.q1] 185)).cell? ⟨w.heap.size+1+1,0,none⟩=some (.int .i64 bi):=(aE.out.below hb1).cell 0;obtain⟨c0,c1,c2,c3,dn,cj⟩:UQ (w0.alloc (.cells #[.bool x.h0,.bool x.h1,.int .i64 x.jO,.int .i64 x.p1,.int .i64 x.q0,.int .i64 x.q1] 185)) b (off+bi*6) y:=Xa.out _ (IQ.out.trans (hb1.mono IQ.out.size));clear hb1;go_upto_region 3 with(fail)
 clear a0 c0 c1 c2 c3 dn cj;have h2:=Ld w0 185 185 x.cells.toArray y.cells.toArray;simp only [cZ.cells]at h2;generalize (w0.alloc (.cells #[.bool x.h0,.bool x.h1,.int .i64 x.jO,.int .i64 x.p1,.int .i64 x.q0,.int .i64 x.q1] 185)).alloc (.cells #[.bool y.h0,.bool y.h1,.int .i64 y.jO,.int .i64 y.p1,.int .i64 y.q0,.int .i64 y.q1] 185)=w2 at*;have jX:Hid (aj w2 w0.heap.size 185 x.cells.toArray):=af h2.1;have nu:Hid (aj w2 (w0.heap.size+1) 185 y.cells.toArray):=af h2.2.1;have L8:=af (cG.out.below h2.2.2);have aT:=af (aE.out.below h2.2.2);have Bk:=af (IQ.out.trans (h2.2.2.mono IQ.out.size));clear h2 cG aE IQ W9 Xa;generalize w0.heap.size=aM at*;obtain⟨eS,vX⟩:∃eS,aM+1=eS:=⟨_,rfl⟩;rw [vX]at nu⊢;clear vX;obtain⟨ga,xX⟩:∃ga,w.heap.size+1=ga:=⟨_,rfl⟩;rw [xX]at L8 aT⊢;clear xX;obtain⟨bX,fj⟩:∃bX,ga+1=bX:=⟨_,rfl⟩;rw [fj]at aT⊢;clear fj;have hx1:w2.cell? ⟨aM,ka,none⟩=some (.bool (x.has (ka+1))):=(jX.out.cell ka).trans (x.UR hka);have hy1:w2.cell? ⟨eS,kb,none⟩=some (.bool (y.has (kb+1))):=(nu.out.cell kb).trans (y.UR hkb);have wO:w2.cell? ⟨ga,1,none⟩=some (.int .i64 ((ka:Int)+1)):=L8.out.cell 1;have hb1:w2.cell? ⟨bX,1,none⟩=some (.int .i64 ((kb:Int)+1)):=aT.out.cell 1;have y1:IntKind.i64.wrap ((ka:Int)+1-1)=(ka:Int):=by rw [Int.add_sub_cancel];exact IntWalk.i64_in _ (by omega)
 have dw:IntKind.i64.wrap ((kb:Int)+1-1)=(kb:Int):=by rw [Int.add_sub_cancel];exact IntWalk.i64_in _ (by omega)
 have mV:IntKind.i64.wrap (ka:Int)=(ka:Int):=IntWalk.i64_in _ (by omega);have pP:IntKind.i64.wrap (kb:Int)=(kb:Int):=IntWalk.i64_in _ (by omega);have aja:(ka:Int)<2:=by omega
 have ajb:(kb:Int)<2:=by omega
 have L9:Hid (∀ak,Below w2.heap.size w2 ak→sZ L cU (ka+1) bi (kb+1) how=none→∃v',Ending.returned (.slice va O.length vc)= .returned v'∧jE.Row ak B v' (O++(sZ L cU (ka+1) bi (kb+1) how).toList)∧Below w.heap.size w ak):=af fun ak hb hq=>by
  have aJ:=Bk.out.trans (hb.mono Bk.out.size);refine⟨_,rfl,?_,aJ⟩;rw [hq];simp only [Option.toList_none,List.append_nil];exact dm.out.below aJ
 by_cases h1:x.has (ka+1)=true∧y.has (kb+1)=true
 case neg=>
  have oc:Hid (sZ L cU (ka+1) bi (kb+1) how=none):=af (by rw [gM.out,if_neg h1])
  have hcs:x.has (ka+1)=false∨(x.has (ka+1)=true∧y.has (kb+1)=false):=by
   cases hp:x.has (ka+1)with
   |false=>exact .inl rfl
   |true=>exact .inr ⟨rfl,by
    cases hq:y.has (kb+1)with
    |false=>rfl
    |true=>exact absurd ⟨hp,hq⟩ h1⟩
  clear h1;rcases hcs with e1|⟨e1,e2⟩
  ·rw [e1]at hx1
   clear e1;go_wp2_with fail
   go_ret;exact L9.out _ (Below.refl _ _) oc.out
  ·rw [e1]at hx1
   rw [e2]at hy1;clear e1 e2;go_wp2_with fail
   go_ret;exact L9.out _ (Below.refl _ _) oc.out
 case pos=>
 obtain⟨e1,e2⟩:=h1;have FI:Hid (sZ L cU (ka+1) bi (kb+1) how=_):=af (by rw [gM.out,if_pos ⟨e1,e2⟩]);rw [e1]at hx1;rw [e2]at hy1;clear e1 e2 gM;have sP:w2.cell? ⟨aM,2+ka,none⟩=some (.int .i64 (x.ag (ka+1))):=(jX.out.cell (2+ka)).trans (x.Fe hka);have Ce:w2.cell? ⟨eS,2+kb,none⟩=some (.int .i64 (y.ag (kb+1))):=(nu.out.cell (2+kb)).trans (y.Fe hkb);obtain⟨ct,hpx⟩:∃p,x.ag (ka+1)=p:=⟨_,rfl⟩;obtain⟨tK,Qn⟩:∃p,y.ag (kb+1)=p:=⟨_,rfl⟩;have Ma:b8 ct:=by rw [←hpx];exact xa.ag _
 have Mb:b8 tK:=by rw [←Qn];exact LR.ag _
 rw [hpx]at sP FI;rw [Qn]at Ce FI;have Xb:=af fun w=>acC ct tK w Ma Mb;have c5:=af fun w=>U3 tK ct w Mb Ma;have cy:=af fun w=>U3 ct tK w Ma Mb;clear hpx Qn xa LR Ma Mb;obtain⟨b6,r1,hr⟩:∃b6 r1,L6 ct tK how=(b6,r1):=⟨_,_,rfl⟩;rw [hr]at FI;have cM:=af hr;clear hr;go_upto_region 5 with(fail)
 clear hx1 hy1;go_quiet (fail)
 clear sP Ce wO hb1;have aN:Hid (Below w2.heap.size w2 (w2.drewN nq)):=af (Below.bT w2 nq);generalize w2.drewN nq=w3 at*;go_upto_block 0 with(go_at_call 145;refine(Xb.out _).mono ?_;rintro e av ⟨rfl,rfl⟩)
 clear Xb;go_cut [19,20] (fun u1 u2 wx=>u1= .int .i64 b6∧u2= .bool r1∧w3=wx)
 case first=>
  rcases hh with rfl|rfl|rfl
  ·have hr:qx ct tK=(b6,r1):=cM.out
   rw [hr];clear hr;go_wp2_with fail
   go_meet;exact⟨rfl,rfl,rfl⟩
  ·have hr:pW tK ct=(b6,r1):=cM.out
   rw [hr]at c5;clear hr;generalize qx ct tK=ra at*;go_wp2_with (go_at_call 146;refine(c5.out _).mono ?_;rintro e av ⟨rfl,rfl⟩)
   go_meet;exact⟨rfl,rfl,rfl⟩
  ·have hr:pW ct tK=(b6,r1):=cM.out
   rw [hr]at cy;clear hr;generalize qx ct tK=ra at*;go_wp2_with (go_at_call 146;refine(cy.out _).mono ?_;rintro e av ⟨rfl,rfl⟩)
   go_meet;exact⟨rfl,rfl,rfl⟩
 case rest=>
 obtain⟨rfl,rfl,rfl⟩:=hcut;clear c5 cy cM;cases r1 with
 |false=>
  have oc:Hid (sZ L cU (ka+1) bi (kb+1) how=none):=af (by rw [FI.out,if_neg (by simp)]);go_wp2_with fail
  go_ret;exact L9.out _ aN.out oc.out
 |true=>
  have zM:Hid (sZ L cU (ka+1) bi (kb+1) how=some ⟨b6,min (x.ah (ka+1)) (y.ah (kb+1)),cU,ka+1,bi,kb+1⟩):=af (by rw [FI.out,if_pos rfl]);clear FI L9;have Dr:=af (Bk.out.trans (aN.out.mono Bk.out.size));have Qo:=af (jX.out.below aN.out);have Xc:=af (nu.out.below aN.out);have CM:=af (L8.out.below aN.out);have bM:=af (aT.out.below aN.out);clear Bk jX nu L8 aT aN;obtain⟨xb,Qp⟩:∃p,x.ah (ka+1)=p:=⟨_,rfl⟩;obtain⟨kg,Qq⟩:∃p,y.ah (kb+1)=p:=⟨_,rfl⟩;have Dt:w3.cell? ⟨aM,4+ka,none⟩=some (.int .i64 xb):=by rw [←Qp];exact(Qo.out.cell (4+ka)).trans (x.US hka)
  have Qr:Hid (∀ak,aj ak eS 185 y.cells.toArray→ak.cell? ⟨eS,4+kb,none⟩=some (.int .i64 kg)):=af fun ak h=>by rw [←Qq];exact(h.cell (4+kb)).trans (y.US hkb)
  rw [Qp,Qq]at zM;clear Qp Qq;have ha0:w3.cell? ⟨ga,0,none⟩=some (.int .i64 cU):=CM.out.cell 0;have wO:w3.cell? ⟨ga,1,none⟩=some (.int .i64 ((ka:Int)+1)):=CM.out.cell 1;have hb0:w3.cell? ⟨bX,0,none⟩=some (.int .i64 bi):=bM.out.cell 0;have hb1:w3.cell? ⟨bX,1,none⟩=some (.int .i64 ((kb:Int)+1)):=bM.out.cell 1;go_wp2_with fail
  refine cF (S:=fun w'=>w'.cell? ⟨ga,0,none⟩=some (.int .i64 cU)∧w'.cell? ⟨ga,1,none⟩=some (.int .i64 ((ka:Int)+1))∧w'.cell? ⟨bX,0,none⟩=some (.int .i64 bi)∧w'.cell? ⟨bX,1,none⟩=some (.int .i64 ((kb:Int)+1))∧w'.cell? ⟨aM,4+ka,none⟩=some (.int .i64 xb)) (by kernel_rfl) ⟨ha0,wO,hb0,hb1,Dt⟩ (fun hHeld=>?_);refine ai 0 ?_;refine ai 1 ?_;refine ai 2 ?_;refine ai 3 ?_;refine ai 4 ?_;refine ai 5 ?_;refine ai 6 ?_;refine ai 7 ?_;refine ai 8 ?_;refine ai 9 ?_;refine ai 10 ?_;refine aR 11 fun K hK=>?_;go_simp;have hbd:Below w3.heap.size w3 (w3.alloc (.cells #[.int .i64 0,.int .i64 0,.int .i64 0,.int .i64 0,.int .i64 0,.int .i64 0] 192)).drew:=(Below.aA w3 _).drew;have Qs:=CM.out.below hbd;have CW:=bM.out.below hbd;have Xd:=(hbd.cell (p:=⟨aM,4+ka,none⟩) Qo.out.lt).trans Dt;refine hK.out _ _ ⟨Qs.cell 0,Qs.cell 1,CW.cell 0,CW.cell 1,Xd⟩ (fun hHeld=>?_);clear hK K;refine cO 12 fun K hK=>?_;go_simp;refine hK.out _ _ ?_;clear hK K Qs CW Xd hbd ha0 wO hb0 hb1 Dt;have hb4:Below w3.heap.size w3 (w3.alloc (.cells #[.int .i64 b6,.int .i64 xb,.int .i64 cU,.int .i64 ((ka:Int)+1),.int .i64 bi,.int .i64 ((kb:Int)+1)] 192)).drew:=(Below.aA w3 _).drew;have Qt:Hid (aj (w3.alloc (.cells #[.int .i64 b6,.int .i64 xb,.int .i64 cU,.int .i64 ((ka:Int)+1),.int .i64 bi,.int .i64 ((kb:Int)+1)] 192)).drew w3.heap.size 192 #[.int .i64 b6,.int .i64 xb,.int .i64 cU,.int .i64 ((ka:Int)+1),.int .i64 bi,.int .i64 ((kb:Int)+1)]):=af (aj.new w3 _ _);have cD:=af (bM.out.below hb4);have Qu:=af (Xc.out.below hb4);have yh:=af (Dr.out.trans (hb4.mono Dr.out.size));have Xe:Hid (w.heap.size≤w3.heap.size):=af Dr.out.size;clear hb4 bM Xc Dr Qo CM;generalize (w3.alloc (.cells #[.int .i64 b6,.int .i64 xb,.int .i64 cU,.int .i64 ((ka:Int)+1),.int .i64 bi,.int .i64 ((kb:Int)+1)] 192)).drew=av at*;generalize w3.heap.size=cu at*;have hb1:av.cell? ⟨bX,1,none⟩=some (.int .i64 ((kb:Int)+1)):=cD.out.cell 1;have Xf:=Qr.out _ Qu.out;have q1:av.cell? ⟨cu,1,none⟩=some (.int .i64 xb):=Qt.out.cell 1;go_upto_region 15 with(fail)
  go_quiet (fail)
  clear hb1 Xf q1;have bJ:Below av.heap.size av (av.drewN nq):=Below.bT av nq;generalize av.drewN nq=au at*;have wI:=af (Qt.out.below bJ);have cC:=af (cD.out.below bJ);have Cd:=af (Qu.out.below bJ);have Ds:=af (yh.out.trans (bJ.mono yh.out.size));clear bJ Qt cD Qu yh;obtain⟨ki,Qv⟩:∃ki,min xb kg=ki:=⟨_,rfl⟩;have Qw:=af Qv;rw [Qv]at zM;clear Qv;go_upto_if 106 with(fail)
  go_cut [106] (fun _ wx=>aj wx cu 192 #[.int .i64 b6,.int .i64 ki,.int .i64 cU,.int .i64 ((ka:Int)+1),.int .i64 bi,.int .i64 ((kb:Int)+1)]∧Below w.heap.size w wx)
  case first=>
   have hb1:au.cell? ⟨bX,1,none⟩=some (.int .i64 ((kb:Int)+1)):=cC.out.cell 1;have Xf:=Qr.out _ Cd.out;have q1:au.cell? ⟨cu,1,none⟩=some (.int .i64 xb):=wI.out.cell 1;have f1:au.frozen? ⟨cu,1,none⟩=false:=wI.out.frozen 1;by_cases hlt:kg<xb
   ·have hz:kg=ki:=by have:=Qw.out;omega
    subst hz;go_wp2_with fail
    go_meet;have hk:aD (fun g=>g=cu) au (au.setCell ⟨cu,1,none⟩ (.int .i64 kg)):=(aD.refl (fun g=>g=cu) au).setCell (p:=⟨cu,1,none⟩) (fun _=>rfl) _;exact⟨wI.out.aQ 1 (.int .i64 kg),Ds.out.trans (hk.below (fun g hg=>by have hg':g=cu:=hg;have:=Xe.out;omega) Ds.out.size)⟩
   ·have hz:xb=ki:=by have:=Qw.out;omega
    subst hz;go_wp2_with fail
    go_meet;exact⟨wI.out,Ds.out⟩
  case rest=>
  obtain⟨Lj,qK⟩:=hcut;have Xg:=af Lj;have Du:=af qK;clear Lj qK wI cC Cd Ds Qw Qr Xe
  have hac:va=none→vc=0:=by
   obtain⟨a',c',h1,h2,_⟩:=dm.out.rd;injection h1 with h3 _ h4;intro h;rw [h4];exact h2 (by rw [←h3];exact h)
  have zI:=af hac
  have rI:Hid (∀ak,Below w.heap.size w ak→jE.fF ak va O):=af fun ak hb=>by
   obtain⟨a',c',h1,_,h2⟩:=dm.out.rd;injection h1 with h3;rw [h3];exact h2.below hb
  have zH:Hid (∀ad,va=some ad→∃b off,ad=⟨b,off,none⟩):=af fun ad h=>by
   rcases dm.out.2 with⟨h2,_⟩|⟨g,cap,cur,h2,_⟩
   ·injection h2 with h2;rw [h2]at h;cases h
   ·injection h2 with h2;rw [h2]at h;injection h with h;exact⟨g,0,h.symm⟩
  clear hac;have aq:Hid (∀w',aj w' cu 192 #[.int .i64 b6,.int .i64 ki,.int .i64 cU,.int .i64 ((ka:Int)+1),.int .i64 bi,.int .i64 ((kb:Int)+1)]→w'.cell? ⟨cu,0,none⟩=some (.int .i64 b6)∧w'.cell? ⟨cu,1,none⟩=some (.int .i64 ki)∧w'.cell? ⟨cu,2,none⟩=some (.int .i64 cU)∧w'.cell? ⟨cu,3,none⟩=some (.int .i64 ((ka:Int)+1))∧w'.cell? ⟨cu,4,none⟩=some (.int .i64 bi)∧w'.cell? ⟨cu,5,none⟩=some (.int .i64 ((kb:Int)+1))):=af fun w' h=>⟨h.cell 0,h.cell 1,h.cell 2,h.cell 3,h.cell 4,h.cell 5⟩;have Bc:=af (Xg.out.drew);have afu:=af (Du.out.drew)
  have tY:Hid (∀v' ak,jE.Row ak wc.heap.size v' (O++ [⟨b6,ki,cU,ka+1,bi,kb+1⟩])→Below wc.heap.size wc ak→∃v'',Ending.returned v'= .returned v''∧jE.Row ak B v'' (O++(sZ L cU (ka+1) bi (kb+1) how).toList)∧Below w.heap.size w ak):=af fun v' ak h hb=>by
   refine⟨v',rfl,?_,Du.out.trans (hb.mono Du.out.size)⟩;rw [zM.out];exact h.base (Nat.le_trans hB Du.out.size)
  go_wp2_with fail
  refine cF (S:=fun w'=>w'.cell? ⟨cu,0,none⟩=some (.int .i64 b6)∧w'.cell? ⟨cu,1,none⟩=some (.int .i64 ki)∧w'.cell? ⟨cu,2,none⟩=some (.int .i64 cU)∧w'.cell? ⟨cu,3,none⟩=some (.int .i64 ((ka:Int)+1))∧w'.cell? ⟨cu,4,none⟩=some (.int .i64 bi)∧w'.cell? ⟨cu,5,none⟩=some (.int .i64 ((kb:Int)+1))) (by kernel_rfl) (aq.out _ Bc.out) (fun hHeld=>?_);have iF:=af fun(ak:World) (hb:Below wc.heap.size wc ak)=>aq.out ak (Xg.out.below hb);have Qx:=af fun(ak:World) (hb:Below wc.heap.size wc ak)=>rI.out ak (Du.out.trans (hb.mono Du.out.size));clear aq rI Bc afu zM Du dm;refine ai 1 ?_;refine ai 3 ?_;refine jW 0 4 (fun K hK=>?_) fun K hK=>?_
  ·go_simp
   have vr:Below wc.heap.size wc (wc.alloc (.cells #[] 192)).drew:=(Below.aA wc _).drew;have hE:jE.Row (wc.alloc (.cells #[] 192)).drew wc.heap.size (.slice (some ⟨wc.heap.size,0,none⟩) 0 0) []:=(aY.Row.empty (Y:=jE) wc).below (Below.refl _ _).drew;refine hK.out _ _ (iF.out _ vr) (fun hHeld=>?_);clear hK K;generalize (wc.alloc (.cells #[] 192)).drew=qH at*;obtain⟨g0,nt⟩:∃g0,wc.heap.size=g0:=⟨_,rfl⟩;have ot:jE.Row qH wc.heap.size (.slice (some ⟨g0,0,none⟩) 0 0) []:=by rw [←nt];exact hE
   clear hE;have vt:=af nt;refine jW 2 4 (fun K hK=>?_) fun K hK=>?_
   ·rw [nt]
    clear nt;refine jE.steps rfl (.tmp 114) (.tmp 115) rfl wc.heap.size (.slice (some ⟨g0,0,none⟩) 0 0) [] rfl ot va O.length vc O rfl rfl zI.out (Qx.out _ vr) zH.out (by simp;omega) vr.size ?_;intro v1 pJ mv dz FJ;rw [List.nil_append]at mv;have hb1:Below wc.heap.size wc pJ:=vr.trans ((fe dz).below (fun g hg=>by(have hg':some g0=some g:=hg);injection hg' with hg';have:=cx ot g0 rfl;omega) vr.size);clear FJ;refine hK.out _ _ (iF.out _ hb1) (fun hHeld=>?_);clear hK K;refine aR 4 fun K hK=>?_;go_simp;have yy:Below wc.heap.size wc (pJ.alloc (.cells #[.int .i64 b6,.int .i64 ki,.int .i64 cU,.int .i64 ((ka:Int)+1),.int .i64 bi,.int .i64 ((kb:Int)+1)] 192)):=hb1.alloc hb1.size _;have gR:aj (pJ.alloc (.cells #[.int .i64 b6,.int .i64 ki,.int .i64 cU,.int .i64 ((ka:Int)+1),.int .i64 bi,.int .i64 ((kb:Int)+1)] 192)) pJ.heap.size 192 #[.int .i64 b6,.int .i64 ki,.int .i64 cU,.int .i64 ((ka:Int)+1),.int .i64 bi,.int .i64 ((kb:Int)+1)]:=aj.new _ _ _;have gv:=mv.below (Below.aA pJ (.cells #[.int .i64 b6,.int .i64 ki,.int .i64 cU,.int .i64 ((ka:Int)+1),.int .i64 bi,.int .i64 ((kb:Int)+1)] 192));refine hK.out _ _ (iF.out _ yy) (fun hHeld=>?_);clear hK K;generalize pJ.alloc (.cells #[.int .i64 b6,.int .i64 ki,.int .i64 cU,.int .i64 ((ka:Int)+1),.int .i64 bi,.int .i64 ((kb:Int)+1)] 192)=ry at*;refine aR 5 fun K hK=>?_;refine jE.step rfl (.tmp 116) (.tmp 118) rfl wc.heap.size v1 O rfl gv pJ.heap.size ⟨b6,ki,cU,ka+1,bi,kb+1⟩ rfl gR.lt gR.fU (by omega) yy.size ?_;intro v2 IR j4 bU wZ;have Bl:Below wc.heap.size wc IR:=yy.trans ((fe bU).below (fun g hg=>cx gv g hg) yy.size);clear wZ;refine hK.out _ _ (iF.out _ Bl) (fun hHeld=>?_);clear hK K;refine gx _ _ _ _ ?_;refine eB 6 ?_;refine wpAnyH_done (by kernel_rfl) ?_ _;clear hHeld;have bH:=af (tY.out _ _ j4 Bl);go_wp2_with fail
    go_ret;exact bH.out
   ·go_simp
    have yy:Below wc.heap.size wc (qH.alloc (.cells #[.int .i64 b6,.int .i64 ki,.int .i64 cU,.int .i64 ((ka:Int)+1),.int .i64 bi,.int .i64 ((kb:Int)+1)] 192)):=vr.alloc vr.size _;have gR:aj (qH.alloc (.cells #[.int .i64 b6,.int .i64 ki,.int .i64 cU,.int .i64 ((ka:Int)+1),.int .i64 bi,.int .i64 ((kb:Int)+1)] 192)) qH.heap.size 192 #[.int .i64 b6,.int .i64 ki,.int .i64 cU,.int .i64 ((ka:Int)+1),.int .i64 bi,.int .i64 ((kb:Int)+1)]:=aj.new _ _ _;have gv:=ot.below (Below.aA qH (.cells #[.int .i64 b6,.int .i64 ki,.int .i64 cU,.int .i64 ((ka:Int)+1),.int .i64 bi,.int .i64 ((kb:Int)+1)] 192));have hne:g0<qH.heap.size:=jH ot g0 rfl;refine hK.out _ _ (iF.out _ yy) (fun hHeld=>?_);clear hK K;clear nt;generalize qH.alloc (.cells #[.int .i64 b6,.int .i64 ki,.int .i64 cU,.int .i64 ((ka:Int)+1),.int .i64 bi,.int .i64 ((kb:Int)+1)] 192)=ry at*;generalize qH.heap.size=gn at*;refine aR 2 fun K hK=>?_;refine jE.steps rfl (.tmp 114) (.tmp 115) rfl wc.heap.size (.slice (some ⟨g0,0,none⟩) 0 0) [] rfl gv va O.length vc O rfl rfl zI.out (Qx.out _ yy) zH.out (by simp;omega) yy.size ?_;intro v1 pJ mv dz FJ;rw [List.nil_append]at mv;have hb1:Below wc.heap.size wc pJ:=yy.trans ((fe dz).below (fun g hg=>by(have hg':some g0=some g:=hg);injection hg' with hg';have:=cx gv g0 rfl;omega) yy.size);clear FJ;have kH:aj pJ gn 192 #[.int .i64 b6,.int .i64 ki,.int .i64 cU,.int .i64 ((ka:Int)+1),.int .i64 bi,.int .i64 ((kb:Int)+1)]:=gR.keeps (fe dz) (fun h=>by(have h':some g0=some gn:=h);injection h' with h';omega);refine hK.out _ _ (iF.out _ hb1) (fun hHeld=>?_);clear hK K;refine aR 5 fun K hK=>?_;refine jE.step rfl (.tmp 116) (.tmp 118) rfl wc.heap.size v1 O rfl mv gn ⟨b6,ki,cU,ka+1,bi,kb+1⟩ rfl kH.lt kH.fU (by omega) hb1.size ?_;intro v2 IR j4 bU wZ;have Bl:Below wc.heap.size wc IR:=hb1.trans ((fe bU).below (fun g hg=>cx mv g hg) hb1.size);clear wZ;refine hK.out _ _ (iF.out _ Bl) (fun hHeld=>?_);clear hK K;refine gx _ _ _ _ ?_;refine eB 6 ?_;refine wpAnyH_done (by kernel_rfl) ?_ _;clear hHeld;have bH:=af (tY.out _ _ j4 Bl);go_wp2_with fail
    go_ret;exact bH.out
  ·go_simp
   have vr:Below wc.heap.size wc (wc.alloc (.cells #[.int .i64 b6,.int .i64 ki,.int .i64 cU,.int .i64 ((ka:Int)+1),.int .i64 bi,.int .i64 ((kb:Int)+1)] 192)).drew:=(Below.aA wc _).drew;have gR:aj (wc.alloc (.cells #[.int .i64 b6,.int .i64 ki,.int .i64 cU,.int .i64 ((ka:Int)+1),.int .i64 bi,.int .i64 ((kb:Int)+1)] 192)).drew wc.heap.size 192 #[.int .i64 b6,.int .i64 ki,.int .i64 cU,.int .i64 ((ka:Int)+1),.int .i64 bi,.int .i64 ((kb:Int)+1)]:=aj.new wc _ _;refine hK.out _ _ (iF.out _ vr) (fun hHeld=>?_);clear hK K;generalize (wc.alloc (.cells #[.int .i64 b6,.int .i64 ki,.int .i64 cU,.int .i64 ((ka:Int)+1),.int .i64 bi,.int .i64 ((kb:Int)+1)] 192)).drew=qH at*;obtain⟨gn,iM⟩:∃gn,wc.heap.size=gn:=⟨_,rfl⟩;have jk:aj qH gn 192 #[.int .i64 b6,.int .i64 ki,.int .i64 cU,.int .i64 ((ka:Int)+1),.int .i64 bi,.int .i64 ((kb:Int)+1)]:=by rw [←iM];exact gR
   clear gR;rw [iM];have nw:=af iM;clear iM;refine aR 0 fun K hK=>?_;go_simp;have IU:Below wc.heap.size wc (qH.alloc (.cells #[] 192)):=vr.alloc vr.size _;have hE:jE.Row (qH.alloc (.cells #[] 192)) wc.heap.size (.slice (some ⟨qH.heap.size,0,none⟩) 0 0) []:=(aY.Row.empty (Y:=jE) qH).base vr.size;have l9:=jk.below (Below.aA qH (.cells #[] 192));have hne:=jk.lt;refine hK.out _ _ (iF.out _ IU) (fun hHeld=>?_);clear hK K;generalize qH.alloc (.cells #[] 192)=ajc at*;generalize qH.heap.size=g0 at*;refine aR 2 fun K hK=>?_;refine jE.steps rfl (.tmp 114) (.tmp 115) rfl wc.heap.size (.slice (some ⟨g0,0,none⟩) 0 0) [] rfl hE va O.length vc O rfl rfl zI.out (Qx.out _ IU) zH.out (by simp;omega) IU.size ?_;intro v1 pJ mv dz FJ;rw [List.nil_append]at mv;have hb1:Below wc.heap.size wc pJ:=IU.trans ((fe dz).below (fun g hg=>by(have hg':some g0=some g:=hg);injection hg' with hg';have:=cx hE g0 rfl;omega) IU.size);clear FJ;have kH:aj pJ gn 192 #[.int .i64 b6,.int .i64 ki,.int .i64 cU,.int .i64 ((ka:Int)+1),.int .i64 bi,.int .i64 ((kb:Int)+1)]:=l9.keeps (fe dz) (fun h=>by(have h':some g0=some gn:=h);injection h' with h';omega);refine hK.out _ _ (iF.out _ hb1) (fun hHeld=>?_);clear hK K;refine aR 5 fun K hK=>?_;refine jE.step rfl (.tmp 116) (.tmp 118) rfl wc.heap.size v1 O rfl mv gn ⟨b6,ki,cU,ka+1,bi,kb+1⟩ rfl kH.lt kH.fU (by omega) hb1.size ?_;intro v2 IR j4 bU wZ;have Bl:Below wc.heap.size wc IR:=hb1.trans ((fe bU).below (fun g hg=>cx mv g hg) hb1.size);clear wZ;refine hK.out _ _ (iF.out _ Bl) (fun hHeld=>?_);clear hK K;refine gx _ _ _ _ ?_;refine eB 6 ?_;refine wpAnyH_done (by kernel_rfl) ?_ _;clear hHeld;have bH:=af (tY.out _ _ j4 Bl);go_wp2_with fail
   go_ret;exact bH.out
end Go.Proofs.YtmaijkoopjocdaaGreat
