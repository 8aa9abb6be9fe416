import Derived.Test.YtmaijkoopjocdaaGreatKT41
set_option maxRecDepth 100000
set_option maxHeartbeats 64000000
namespace Go.Proofs.YtmaijkoopjocdaaGreat
open Go.RowKit Go.Lib
def BD (p:Prod) (c:dB) (i:Int):dB:=
 if(if 4<1+dW c.kind 0 8 then 1 else 1+dW c.kind 0 8)=1 then
  ⟨1,i+1,dW c.inst 0 (countP p-1),1+dW c.side 0 1,if(fB p (dW c.inst 0 (countP p-1))).2.2=true then p.tick*dW c.ag 0 9-4*p.tick else p.tick*dW c.ag 0 9+8*p.tick,1+dW c.ah 0 11,if c.least.tmod 4=1 then dW c.least 0 (1+dW c.ah 0 11)else 0,if c.time.tmod 5=3 then 3 else if c.time.tmod 5=2 then 2 else 1,⟨#[]⟩⟩
 else⟨1+dW c.kind 0 8,1+dW c.id 0 30,0,0,if 1+dW c.kind 0 8=4 then p.tick*dW c.ag 0 9+5*p.tick else p.tick*dW c.ag 0 9,1+dW c.ah 0 11,0,0,⟨#[]⟩⟩
structure Dl (c:dB):Prop where
 kind:b8 c.kind
 id:b8 c.id
 inst:b8 c.inst
 side:b8 c.side
 ag:b8 c.ag
 ah:b8 c.ah
 least:b8 c.least
 time:b8 c.time
theorem ag9 {p:Prod} (hc:1≤countP p) (ht:1≤p.tick∧p.tick≤10) (c:dB) {i:Int} (hi:0≤i∧i≤100):wm (countP p).toNat (BD p c i):=by
 have h1:=nx c.kind 0 8 (by omega);have h2:=nx c.id 0 30 (by omega);have h3:=nx c.inst 0 (countP p-1) (by omega);have h4:=nx c.side 0 1 (by omega);have h5:=nx c.ah 0 11 (by omega);have h6:=nx c.ag 0 9 (by omega);have h7:=nx c.least 0 (1+dW c.ah 0 11) (by omega);have h8:=CV ht.1 (i:=dW c.ag 0 9) (a:=0) (b:=9) h6.1 h6.2;unfold BD;generalize dW c.least 0 (1+dW c.ah 0 11)=l at*;generalize dW c.kind 0 8=k at*;generalize dW c.id 0 30=d at*;generalize dW c.inst 0 (countP p-1)=n at*;generalize dW c.side 0 1=s at*;generalize dW c.ah 0 11=q at*;generalize p.tick*dW c.ag 0 9=pr at*;by_cases hk:(if 4<1+k then(1:Int)else 1+k)=1
 ·rw [if_pos hk]
  refine⟨by(try dsimp only);omega,by(try dsimp only);omega,by(try dsimp only);omega,?_,rfl,fun _=>⟨by(try dsimp only);omega,?_,?_,n.toNat,by(try dsimp only);omega,by omega⟩⟩
  ·(try dsimp only);split<;>omega
  ·(try dsimp only)
   split
   ·omega
   ·split<;>omega
  ·(try dsimp only);split<;>omega
 ·rw [if_neg hk]
  have jB:¬4<1+k:=fun h=>hk (if_pos h);rw [if_neg jB]at hk;refine⟨by(try dsimp only);omega,by(try dsimp only);omega,by(try dsimp only);omega,?_,rfl,fun h=>(by(try dsimp only at h);exact absurd h hk)⟩
  (try dsimp only);split<;>omega
def Lc:dB:=⟨0,0,0,0,0,0,0,0,⟨#[]⟩⟩
structure qJ (w w':World) (p:Prod) (aH gc gr aM:Nat) (c x:dB):Prop where
 dx:aj w' aH 25 p.cells
 bc:aj w' gc 80 c.cells
 br:aj w' gr 80 Lc.cells
 cY:aj w' aM 80 x.cells
 aF:Below w.heap.size w w'
 n1:aH<aM∧gc<aM∧gr<aM∧w.heap.size≤aM∧w.heap.size≤gr
section
variable {w w' w2:World} {p:Prod} {aH gc gr aM:Nat} {c x:dB}
theorem qJ.below (h:qJ w w' p aH gc gr aM c x) (hb:Below w'.heap.size w' w2):qJ w w2 p aH gc gr aM c x:=
 ⟨h.dx.below hb,h.bc.below hb,h.br.below hb,h.cY.below hb,h.aF.trans (hb.mono h.aF.size),h.n1⟩
theorem qJ.put (h:qJ w w' p aH gc gr aM c x) (k:Nat) (v:Value) (x':dB) (he:x.cells.setIfInBounds k v=x'.cells:=by rfl):qJ w (w'.setCell ⟨aM,k,none⟩ v) p aH gc gr aM c x':=by
 have hk:=bS w' aM k v;obtain⟨n1,n2,oD,kW,pn⟩:=h.n1;exact⟨h.dx.keeps hk (by show¬aH=aM;omega),h.bc.keeps hk (by show¬gc=aM;omega),h.br.keeps hk (by show¬gr=aM;omega),by rw [←he];exact h.cY.aQ k v,h.aF.setCell (p:=⟨aM,k,none⟩) kW v,h.n1⟩
theorem qJ.pc (h:qJ w w' p aH gc gr aM c x):PC w' aH p:=PC.nV h.dx
theorem aj.JI {w:World} {g:Nat} {t:TypeId} {x0 x1 bl dK ew gV lG lH qZ:Value} (h:aj w g t #[x0,x1,bl,dK,ew,gV,lG,lH,qZ]) (v0 v1 v2 v3 v4 v5 v6 kM qz:Value):aj (((((((((w.setCell ⟨g,0,none⟩ v0).setCell ⟨g,1,none⟩ v1).setCell ⟨g,2,none⟩ v2).setCell ⟨g,3,none⟩ v3).setCell ⟨g,4,none⟩ v4).setCell ⟨g,5,none⟩ v5).setCell ⟨g,6,none⟩ v6).setCell ⟨g,7,none⟩ kM).setCell ⟨g,8,none⟩ qz) g t #[v0,v1,v2,v3,v4,v5,v6,kM,qz]:=by
 have h1:=(((((((((h.aQ 0 v0).aQ 1 v1).aQ 2 v2).aQ 3 v3).aQ 4 v4).aQ 5 v5).aQ 6 v6).aQ 7 kM).aQ 8 qz);simp only [List.setIfInBounds_toArray,List.set_cons_zero,List.set_cons_succ]at h1;exact h1
theorem aD.JI (w:World) (g:Nat) (v0 v1 v2 v3 v4 v5 v6 kM qz:Value):aD (fun k=>k=g) w (((((((((w.setCell ⟨g,0,none⟩ v0).setCell ⟨g,1,none⟩ v1).setCell ⟨g,2,none⟩ v2).setCell ⟨g,3,none⟩ v3).setCell ⟨g,4,none⟩ v4).setCell ⟨g,5,none⟩ v5).setCell ⟨g,6,none⟩ v6).setCell ⟨g,7,none⟩ kM).setCell ⟨g,8,none⟩ qz):=(((((((((bS w g 0 v0).trans (bS _ g 1 v1)).trans (bS _ g 2 v2)).trans (bS _ g 3 v3)).trans (bS _ g 4 v4)).trans (bS _ g 5 v5)).trans (bS _ g 6 v6)).trans (bS _ g 7 kM)).trans (bS _ g 8 qz))
theorem ag8 (p:Prod) (w:World) (hp:fZ w p) (hz:cz p=0) (ht:1≤p.tick∧p.tick≤10) (c:dB) (hc:Dl c) (i:Int) (hi:0≤i∧i≤100):
 Calls Tryz.prog 30 #[p.agg,.agg c.cells,.int .i64 i] w fun e w'=>e= .returned (.agg (BD p c i).cells)∧Below w.heap.size w w':=by
 have s1:∀(w:World) (o:Obj),(w.alloc o).heap.size=w.heap.size+1:=fun w o=>by simp
 have ajE:1≤countP p∧countP p≤21:=by
  have h1:countP p=mZ p.months.length:=if_pos hz;have h2:=oC hz;have h3:=w6 p.months.length h2.2;omega
 obtain⟨R,hR⟩:∃R,BD p c i=R:=⟨_,rfl⟩;have b9:=af hR;rw [hR];unfold BD at b9;obtain⟨kd,id,ins,sd,nH,kg,oM,tm,lb⟩:=c;obtain⟨⟨a0,a1⟩,⟨b0,b1⟩,⟨d0,d1⟩,⟨e0,e1⟩,⟨f0,f1⟩,⟨g0,g1⟩,⟨h0,h1⟩,_⟩:=hc;dsimp only at b9 a0 a1 b0 b1 d0 d1 e0 e1 f0 f1 g0 g1 h0 h1;have dy:=af hp;have H1:=af fun w=>uo kd 0 8 w a0 a1 (by omega) (by omega) (by omega);have H2:=af fun w=>uo id 0 30 w b0 b1 (by omega) (by omega) (by omega);have H3:=af fun w=>uo ins 0 (countP p-1) w d0 d1 (by omega) (by omega) (by omega);have H4:=af fun w=>uo sd 0 1 w e0 e1 (by omega) (by omega) (by omega);have H5:=af fun w=>uo kg 0 11 w g0 g1 (by omega) (by omega) (by omega);have Gx:=af fun w=>uo nH 0 9 w f0 f1 (by omega) (by omega) (by omega);have hw1:=nx kd 0 8 (by omega);have tH:=nx id 0 30 (by omega);have HW:=nx ins 0 (countP p-1) (by omega);have OV:=nx sd 0 1 (by omega);have U6:=nx kg 0 11 (by omega);have qK:=nx nH 0 9 (by omega);have rE:=af fun w=>uo oM 0 (1+dW kg 0 11) w h0 h1 (by omega) (by omega) (by omega);have ahx:=CV ht.1 (i:=dW nH 0 9) (a:=0) (b:=9) qK.1 qK.2;generalize dW oM 0 (1+dW kg 0 11)=vl at*;generalize dW ins 0 (countP p-1)=n at*;generalize dW kd 0 8=v1 at*;generalize dW id 0 30=v2 at*;generalize dW sd 0 1=v4 at*;generalize dW kg 0 11=v5 at*;generalize dW nH 0 9=v6 at*;obtain⟨k0,jR⟩:∃k,1+v1=k:=⟨_,rfl⟩;obtain⟨d,hd⟩:∃k,1+v2=k:=⟨_,rfl⟩;obtain⟨s,hs⟩:∃k,1+v4=k:=⟨_,rfl⟩;obtain⟨q,hq⟩:∃k,1+v5=k:=⟨_,rfl⟩;obtain⟨pr,lm⟩:∃k,p.tick*v6=k:=⟨_,rfl⟩;have y1:IntKind.i64.wrap (1+v1)=k0:=by rw [jR];exact IntWalk.i64_in _ (by omega)
 have dw:IntKind.i64.wrap (1+v2)=d:=by rw [hd];exact IntWalk.i64_in _ (by omega)
 have mV:IntKind.i64.wrap (countP p-1)=countP p-1:=IntWalk.i64_in _ (by omega);have pP:IntKind.i64.wrap (1+v4)=s:=by rw [hs];exact IntWalk.i64_in _ (by omega)
 have Fh:IntKind.i64.wrap (1+v5)=q:=by rw [hq];exact IntWalk.i64_in _ (by omega)
 have Rx:IntKind.i64.wrap (p.tick*v6)=pr:=by rw [lm];exact IntWalk.i64_in _ (by omega)
 have ajF:IntKind.i64.wrap (i+1)=i+1:=IntWalk.i64_in _ (by omega);have SB:IntKind.i64.wrap (8*p.tick)=8*p.tick:=IntWalk.i64_in _ (by omega);have ajG:IntKind.i64.wrap (4*p.tick)=4*p.tick:=IntWalk.i64_in _ (by omega);have ajH:IntKind.i64.wrap (5*p.tick)=5*p.tick:=IntWalk.i64_in _ (by omega);have ajI:IntKind.i64.wrap (pr+8*p.tick)=pr+8*p.tick:=IntWalk.i64_in _ (by omega);have ajJ:IntKind.i64.wrap (pr-4*p.tick)=pr-4*p.tick:=IntWalk.i64_in _ (by omega);have ajK:IntKind.i64.wrap (pr+5*p.tick)=pr+5*p.tick:=IntWalk.i64_in _ (by omega);have hkb:1≤k0∧k0≤9:=by omega
 have zb:1≤q∧q≤12:=by omega
 rw [jR,hd,hs,hq,lm]at b9;rw [hq]at rE;obtain⟨kq,hK⟩:∃kq,(if 4<k0 then 1 else k0)=kq:=⟨_,rfl⟩;have eY:=af hK;rw [hK]at b9;clear hR hp hz jR hd hs hq lm hK a0 a1 b0 b1 d0 d1 e0 e1 f0 f1 g0 g1 h0 h1 hw1 tH OV U6 qK ahx ht;unfold Prod.agg Prod.cells dB.cells;go_enter Tryz.func30,Tryz.ntmps30
 go_upto_region 1 with(fail)
 have hb1:Below w.heap.size w (w.alloc (.cells #[.string p.code,.slice p.ma p.months.length p.mc,.int .i64 p.tick,.int .i64 p.low,.int .i64 p.high,.int .i64 p.wide,.int .i64 p.rule,.int .i64 p.top,.int .i64 p.least,.int .i64 p.part,.slice p.sa p.settle.length p.sc] 25)):=Below.aA _ _;have Zc:aj (w.alloc (.cells #[.string p.code,.slice p.ma p.months.length p.mc,.int .i64 p.tick,.int .i64 p.low,.int .i64 p.high,.int .i64 p.wide,.int .i64 p.rule,.int .i64 p.top,.int .i64 p.least,.int .i64 p.part,.slice p.sa p.settle.length p.sc] 25)) w.heap.size 25 p.cells:=aj.new _ _ _;have hz1:(w.alloc (.cells #[.string p.code,.slice p.ma p.months.length p.mc,.int .i64 p.tick,.int .i64 p.low,.int .i64 p.high,.int .i64 p.wide,.int .i64 p.rule,.int .i64 p.top,.int .i64 p.least,.int .i64 p.part,.slice p.sa p.settle.length p.sc] 25)).heap.size=w.heap.size+1:=s1 _ _;generalize (w.alloc (.cells #[.string p.code,.slice p.ma p.months.length p.mc,.int .i64 p.tick,.int .i64 p.low,.int .i64 p.high,.int .i64 p.wide,.int .i64 p.rule,.int .i64 p.top,.int .i64 p.least,.int .i64 p.part,.slice p.sa p.settle.length p.sc] 25))=w0 at*;have hb2:=hb1.trans ((Below.aA w0 (.cells #[.int .i64 kd,.int .i64 id,.int .i64 ins,.int .i64 sd,.int .i64 nH,.int .i64 kg,.int .i64 oM,.int .i64 tm,.string lb] 80)).mono hb1.size)
 have hbc:aj (w0.alloc (.cells #[.int .i64 kd,.int .i64 id,.int .i64 ins,.int .i64 sd,.int .i64 nH,.int .i64 kg,.int .i64 oM,.int .i64 tm,.string lb] 80)) (w.heap.size+1) 80 #[.int .i64 kd,.int .i64 id,.int .i64 ins,.int .i64 sd,.int .i64 nH,.int .i64 kg,.int .i64 oM,.int .i64 tm,.string lb]:=by
  have:=aj.new w0 80 #[.int .i64 kd,.int .i64 id,.int .i64 ins,.int .i64 sd,.int .i64 nH,.int .i64 kg,.int .i64 oM,.int .i64 tm,.string lb]
  rwa [hz1]at this
 have Zd:=Zc.below (Below.aA w0 (.cells #[.int .i64 kd,.int .i64 id,.int .i64 ins,.int .i64 sd,.int .i64 nH,.int .i64 kg,.int .i64 oM,.int .i64 tm,.string lb] 80));have dG:(w0.alloc (.cells #[.int .i64 kd,.int .i64 id,.int .i64 ins,.int .i64 sd,.int .i64 nH,.int .i64 kg,.int .i64 oM,.int .i64 tm,.string lb] 80)).heap.size=w.heap.size+1+1:=by rw [s1,hz1]
 generalize w0.alloc (.cells #[.int .i64 kd,.int .i64 id,.int .i64 ins,.int .i64 sd,.int .i64 nH,.int .i64 kg,.int .i64 oM,.int .i64 tm,.string lb] 80)=D1 at*;have hb3:=hb2.trans ((Below.aA D1 (.cells #[.int .i64 0,.int .i64 0,.int .i64 0,.int .i64 0,.int .i64 0,.int .i64 0,.int .i64 0,.int .i64 0,.string ⟨#[]⟩] 80)).mono hb2.size)
 have Gp:aj (D1.alloc (.cells #[.int .i64 0,.int .i64 0,.int .i64 0,.int .i64 0,.int .i64 0,.int .i64 0,.int .i64 0,.int .i64 0,.string ⟨#[]⟩] 80)) (w.heap.size+1+1) 80 #[.int .i64 0,.int .i64 0,.int .i64 0,.int .i64 0,.int .i64 0,.int .i64 0,.int .i64 0,.int .i64 0,.string ⟨#[]⟩]:=by
  have:=aj.new D1 80 #[.int .i64 0,.int .i64 0,.int .i64 0,.int .i64 0,.int .i64 0,.int .i64 0,.int .i64 0,.int .i64 0,.string ⟨#[]⟩]
  rwa [dG]at this
 have Ze:=Zd.below (Below.aA D1 (.cells #[.int .i64 0,.int .i64 0,.int .i64 0,.int .i64 0,.int .i64 0,.int .i64 0,.int .i64 0,.int .i64 0,.string ⟨#[]⟩] 80));have RD:=hbc.below (Below.aA D1 (.cells #[.int .i64 0,.int .i64 0,.int .i64 0,.int .i64 0,.int .i64 0,.int .i64 0,.int .i64 0,.int .i64 0,.string ⟨#[]⟩] 80));have wk:(D1.alloc (.cells #[.int .i64 0,.int .i64 0,.int .i64 0,.int .i64 0,.int .i64 0,.int .i64 0,.int .i64 0,.int .i64 0,.string ⟨#[]⟩] 80)).heap.size=w.heap.size+1+1+1:=by rw [s1,dG]
 generalize D1.alloc (.cells #[.int .i64 0,.int .i64 0,.int .i64 0,.int .i64 0,.int .i64 0,.int .i64 0,.int .i64 0,.int .i64 0,.string ⟨#[]⟩] 80)=w1 at*
 have bA:Hid (∀x:dB,qJ w (w1.alloc (.cells x.cells 80)) p w.heap.size (w.heap.size+1) (w.heap.size+1+1) (w.heap.size+1+1+1) ⟨kd,id,ins,sd,nH,kg,oM,tm,lb⟩ x):=af fun x=>
  ⟨Ze.alloc _,RD.alloc _,Gp.alloc _,by have:=aj.new w1 80 x.cells;rwa [wk]at this,hb3.trans ((Below.aA w1 _).mono hb3.size),by omega⟩
 obtain⟨aM,jA⟩:∃g,w.heap.size+1+1+1=g:=⟨_,rfl⟩;obtain⟨gr,eL⟩:∃g,w.heap.size+1+1=g:=⟨_,rfl⟩;obtain⟨gc,uq⟩:∃g,w.heap.size+1=g:=⟨_,rfl⟩;obtain⟨aH,m4⟩:∃g,w.heap.size=g:=⟨_,rfl⟩;have vp:Hid (∀x:dB,qJ w (w1.alloc (.cells x.cells 80)) p aH gc gr aM ⟨kd,id,ins,sd,nH,kg,oM,tm,lb⟩ x):=af (by have:=bA.out;rw [jA,eL,uq]at this;intro x;have h2:=this x;exact⟨by have:=h2.dx;rwa [m4]at this,h2.bc,h2.br,h2.cY,h2.aF,by have:=h2.n1;omega⟩);try rw [show w.heap.size+2=w.heap.size+1+1 from rfl]
 try rw [eL]
 rw [uq];rw [show(Value.pointer (some ⟨w.heap.size,0,none⟩))= .pointer (some ⟨aH,0,none⟩)by rw [m4]];have c0:w1.cell? ⟨gc,0,none⟩=some (.int .i64 kd):=by rw [←uq];exact RD.cell 0
 have jX:Hid (w1.heap.size=aM):=af (by rw [wk];exact jA);clear bA jA eL uq m4 Zc hbc Gp Zd Ze RD hb1 hb2 hb3 hz1 dG wk;go_wp2_with fail
 refine(H1.out _).mono ?_;rintro e au ⟨rfl,rfl⟩;go_upto_region 2 with(fail)
 have mJ:=af (vp.out ⟨k0,0,0,0,0,0,0,0,⟨#[]⟩⟩);rw [jX.out];unfold dB.cells at mJ;dsimp only at mJ;clear c0 jX vp;generalize w1.alloc (.cells _ 80)=w2 at*;have c1:w2.cell? ⟨gc,1,none⟩=some (.int .i64 id):=mJ.out.bc.cell 1;have x1:w2.cell? ⟨aM,1,none⟩=some (.int .i64 0):=mJ.out.cY.cell 1;have fx:∀o,w2.frozen? ⟨aM,o,none⟩=false:=fun o=>mJ.out.cY.frozen o;go_wp2_with fail
 refine(H2.out _).mono ?_;rintro e au ⟨rfl,rfl⟩;go_upto_region 3 with(fail)
 have JJ:=af (mJ.out.put 1 (.int .i64 d) ⟨k0,d,0,0,0,0,0,0,⟨#[]⟩⟩);clear c1 x1 fx mJ;generalize w2.setCell ⟨aM,1,none⟩ (.int .i64 d)=w3 at*;have x0:w3.cell? ⟨aM,0,none⟩=some (.int .i64 k0):=JJ.out.cY.cell 0;have fx:∀o,w3.frozen? ⟨aM,o,none⟩=false:=fun o=>JJ.out.cY.frozen o;go_upto_if 24 with(fail)
 go_cut [] (fun wx=>qJ w wx p aH gc gr aM ⟨kd,id,ins,sd,nH,kg,oM,tm,lb⟩ ⟨kq,d,0,0,0,0,0,0,⟨#[]⟩⟩)
 case first=>
  by_cases h4:4<k0
  ·have DA:Hid (kq=1):=af (by rw [←eY.out,if_pos h4])
   go_wp2_with fail
   go_meet;have:=JJ.out.put 0 (.int .i64 1) ⟨1,d,0,0,0,0,0,0,⟨#[]⟩⟩;rw [DA.out];exact this
  ·have DA:Hid (kq=k0):=af (by rw [←eY.out,if_neg h4])
   go_wp2_with fail
   go_meet;rw [DA.out];exact JJ.out
 case rest=>
 have ML:=af hcut;clear hcut x0 fx JJ;generalize wc=av at*;have ajL:Hid (1≤kq∧kq≤4):=af (by rw [←eY.out];split<;>omega);have nr:=IL p av (dy.out.below ML.out.aF);unfold Prod.agg Prod.cells at nr;have nr:=af nr;obtain⟨jO,p1,p2,p3,xm,xo,xp,xq,xu,xw,xx⟩:=ML.out.pc;go_wp2_with fail
 refine nr.out.mono ?_;rintro e au ⟨rfl,di⟩;go_upto_region 6 with(fail)
 have T5:=af (ML.out.below di);clear di nr ML jO p1 p2 p3 xm xo xp xq xu xw xx;generalize au=au at*;have c2:au.cell? ⟨gc,2,none⟩=some (.int .i64 ins):=T5.out.bc.cell 2;have bl:au.cell? ⟨aM,2,none⟩=some (.int .i64 0):=T5.out.cY.cell 2;have fx:∀o,au.frozen? ⟨aM,o,none⟩=false:=fun o=>T5.out.cY.frozen o;go_wp2_with fail
 refine(H3.out _).mono ?_;rintro e au ⟨rfl,rfl⟩;go_upto_region 7 with(fail)
 have JK:=af (T5.out.put 2 (.int .i64 n) ⟨kq,d,n,0,0,0,0,0,⟨#[]⟩⟩);clear c2 bl fx T5;generalize au.setCell ⟨aM,2,none⟩ (.int .i64 n)=aK at*;have c3:aK.cell? ⟨gc,3,none⟩=some (.int .i64 sd):=JK.out.bc.cell 3;have dK:aK.cell? ⟨aM,3,none⟩=some (.int .i64 0):=JK.out.cY.cell 3;have fx:∀o,aK.frozen? ⟨aM,o,none⟩=false:=fun o=>JK.out.cY.frozen o;go_wp2_with fail
 refine(H4.out _).mono ?_;rintro e au ⟨rfl,rfl⟩;go_upto_region 8 with(fail)
 have JL:=af (JK.out.put 3 (.int .i64 s) ⟨kq,d,n,s,0,0,0,0,⟨#[]⟩⟩);clear c3 dK fx JK;generalize aK.setCell ⟨aM,3,none⟩ (.int .i64 s)=bw at*;have cj:bw.cell? ⟨gc,5,none⟩=some (.int .i64 kg):=JL.out.bc.cell 5;have gV:bw.cell? ⟨aM,5,none⟩=some (.int .i64 0):=JL.out.cY.cell 5;have fx:∀o,bw.frozen? ⟨aM,o,none⟩=false:=fun o=>JL.out.cY.frozen o;go_wp2_with fail
 refine(H5.out _).mono ?_;rintro e au ⟨rfl,rfl⟩;go_upto_region 9 with(fail)
 have Zf:=af (JL.out.put 5 (.int .i64 q) ⟨kq,d,n,s,0,q,0,0,⟨#[]⟩⟩);clear cj gV fx JL;generalize bw.setCell ⟨aM,5,none⟩ (.int .i64 q)=bW at*;go_cut [] (fun wx=>qJ w wx p aH gc gr aM ⟨kd,id,ins,sd,nH,kg,oM,tm,lb⟩ ⟨kq,d,n,s,pr,q,0,0,⟨#[]⟩⟩)
 case first=>
  have hd:=(Below.refl bW.heap.size bW).drew;have JM:=af (Zf.out.below hd);clear hd;have p2:bW.drew.cell? ⟨aH,2,none⟩=some (.int .i64 p.tick):=JM.out.dx.cell 2;have dn:bW.drew.cell? ⟨gc,4,none⟩=some (.int .i64 nH):=JM.out.bc.cell 4;have ew:bW.drew.cell? ⟨aM,4,none⟩=some (.int .i64 0):=JM.out.cY.cell 4;have fx:∀o,bW.drew.frozen? ⟨aM,o,none⟩=false:=fun o=>JM.out.cY.frozen o;refine cF (S:=fun w'=>w'.cell? ⟨aH,2,none⟩=some (.int .i64 p.tick)∧w'.cell? ⟨gc,4,none⟩=some (.int .i64 nH)) (by kernel_rfl) ⟨p2,dn⟩ (fun hHeld=>?_);refine ai 0 ?_;refine ai 1 ?_;refine ai 2 ?_;refine ai 3 ?_;refine aR 4 fun K hK=>?_;go_simp;go_at_call 14
  refine(Gx.out _).mono ?_;rintro e au ⟨rfl,rfl⟩;refine hK.out _ _ ⟨p2,dn⟩ (fun hHeld=>?_);clear hK K;refine ai 5 ?_;refine ai 6 ?_;refine cO 7 fun K hK=>?_;go_simp;refine hK.out _ _ ?_;clear hK K hHeld;go_wp2_with fail
  go_meet;have h9:=JM.out.put 4 (.int .i64 pr) ⟨kq,d,n,s,pr,q,0,0,⟨#[]⟩⟩;exact h9
 case rest=>
 have r4:=af hcut;clear hcut Zf;generalize wc=bG at*;have x0:bG.cell? ⟨aM,0,none⟩=some (.int .i64 kq):=r4.out.cY.cell 0;have x1:bG.cell? ⟨aM,1,none⟩=some (.int .i64 d):=r4.out.cY.cell 1;have bl:bG.cell? ⟨aM,2,none⟩=some (.int .i64 n):=r4.out.cY.cell 2;have dK:bG.cell? ⟨aM,3,none⟩=some (.int .i64 s):=r4.out.cY.cell 3;have ew:bG.cell? ⟨aM,4,none⟩=some (.int .i64 pr):=r4.out.cY.cell 4;have gV:bG.cell? ⟨aM,5,none⟩=some (.int .i64 q):=r4.out.cY.cell 5;have lG:bG.cell? ⟨aM,6,none⟩=some (.int .i64 0):=r4.out.cY.cell 6;have lH:bG.cell? ⟨aM,7,none⟩=some (.int .i64 0):=r4.out.cY.cell 7;have fx:∀o,bG.frozen? ⟨aM,o,none⟩=false:=fun o=>r4.out.cY.frozen o;by_cases cJ:kq=1
 ·subst cJ
  rw [if_pos rfl]at b9;go_upto_region 13 with(fail)
  have F5:=af ((r4.out.put 1 (.int .i64 (i+1)) ⟨1,i+1,n,s,pr,q,0,0,⟨#[]⟩⟩).put 7 (.int .i64 1) ⟨1,i+1,n,s,pr,q,0,1,⟨#[]⟩⟩);clear x0 x1 bl dK ew gV lG lH fx r4;generalize (bG.setCell ⟨aM,1,none⟩ (.int .i64 (i+1))).setCell ⟨aM,7,none⟩ (.int .i64 1)=u1 at*;have gP:u1.cell? ⟨gc,7,none⟩=some (.int .i64 tm):=F5.out.bc.cell 7;have lH:u1.cell? ⟨aM,7,none⟩=some (.int .i64 1):=F5.out.cY.cell 7;have fx:∀o,u1.frozen? ⟨aM,o,none⟩=false:=fun o=>F5.out.cY.frozen o;obtain⟨uy,RE⟩:∃t,tm.tmod 5=t:=⟨_,rfl⟩;rw [RE]at b9;obtain⟨F6,FD⟩:∃t:Int,(if uy=2 then 2 else 1)=t:=⟨_,rfl⟩;rw [FD]at b9;have yu:=af FD;have uf:=af RE;clear FD RE;go_upto_if 61 with(fail)
  rw [uf.out];go_cut [] (fun wx=>qJ w wx p aH gc gr aM ⟨kd,id,ins,sd,nH,kg,oM,tm,lb⟩ ⟨1,i+1,n,s,pr,q,0,F6,⟨#[]⟩⟩)
  case first=>
   by_cases h2:uy=2
   ·have e1:(uy==2)=true:=by rw [h2];rfl
    have dL:Hid (F6=2):=af (by rw [←yu.out,if_pos h2]);clear h2;go_wp2_with fail
    go_meet;rw [dL.out];have h9:=F5.out.put 7 (.int .i64 2) ⟨1,i+1,n,s,pr,q,0,2,⟨#[]⟩⟩;exact h9
   ·have e1:(uy==2)=false:=by rw [beq_eq_false_iff_ne];exact h2
    have dL:Hid (F6=1):=af (by rw [←yu.out,if_neg h2]);go_wp2_with fail
    go_meet;rw [dL.out];exact F5.out
  case rest=>
  have vG:=af hcut;clear hcut gP lH fx F5;generalize wc=u2 at*;have gP:u2.cell? ⟨gc,7,none⟩=some (.int .i64 tm):=vG.out.bc.cell 7;have lH:u2.cell? ⟨aM,7,none⟩=some (.int .i64 F6):=vG.out.cY.cell 7;have fx:∀o,u2.frozen? ⟨aM,o,none⟩=false:=fun o=>vG.out.cY.frozen o;obtain⟨mJ,RF⟩:∃t:Int,(if uy=3 then 3 else F6)=t:=⟨_,rfl⟩;rw [RF]at b9;have om:=af RF;clear RF;go_upto_if 66 with(fail)
  rw [uf.out];go_cut [] (fun wx=>qJ w wx p aH gc gr aM ⟨kd,id,ins,sd,nH,kg,oM,tm,lb⟩ ⟨1,i+1,n,s,pr,q,0,mJ,⟨#[]⟩⟩)
  case first=>
   by_cases h2:uy=3
   ·have e1:(uy==3)=true:=by rw [h2];rfl
    have dL:Hid (mJ=3):=af (by rw [←om.out,if_pos h2]);clear h2;go_wp2_with fail
    go_meet;rw [dL.out];have h9:=vG.out.put 7 (.int .i64 3) ⟨1,i+1,n,s,pr,q,0,3,⟨#[]⟩⟩;exact h9
   ·have e1:(uy==3)=false:=by rw [beq_eq_false_iff_ne];exact h2
    have dL:Hid (mJ=F6):=af (by rw [←om.out,if_neg h2]);go_wp2_with fail
    go_meet;rw [dL.out];exact vG.out
  case rest=>
  have D2:=af hcut;clear hcut gP lH fx vG uf;generalize wc=u3 at*;have fE:u3.cell? ⟨gc,6,none⟩=some (.int .i64 oM):=D2.out.bc.cell 6;have gV:u3.cell? ⟨aM,5,none⟩=some (.int .i64 q):=D2.out.cY.cell 5;have lG:u3.cell? ⟨aM,6,none⟩=some (.int .i64 0):=D2.out.cY.cell 6;have fx:∀o,u3.frozen? ⟨aM,o,none⟩=false:=fun o=>D2.out.cY.frozen o;obtain⟨lr,hlr⟩:∃t,oM.tmod 4=t:=⟨_,rfl⟩;rw [hlr]at b9;obtain⟨l,hl⟩:∃t:Int,(if lr=1 then vl else 0)=t:=⟨_,rfl⟩;rw [hl]at b9;have cX:=af hl;have A7:=af hlr;clear hl hlr;go_upto_if 71 with(fail)
  rw [A7.out];go_cut [] (fun wx=>qJ w wx p aH gc gr aM ⟨kd,id,ins,sd,nH,kg,oM,tm,lb⟩ ⟨1,i+1,n,s,pr,q,l,mJ,⟨#[]⟩⟩)
  case first=>
   by_cases h2:lr=1
   ·have e1:(lr==1)=true:=by rw [h2];rfl
    have dL:Hid (l=vl):=af (by rw [←cX.out,if_pos h2]);clear h2;go_wp2_with fail
    refine(rE.out _).mono ?_;rintro e au ⟨rfl,rfl⟩;go_wp2_with fail
    go_meet;rw [dL.out];have h9:=D2.out.put 6 (.int .i64 vl) ⟨1,i+1,n,s,pr,q,vl,mJ,⟨#[]⟩⟩;exact h9
   ·have e1:(lr==1)=false:=by rw [beq_eq_false_iff_ne];exact h2
    have dL:Hid (l=0):=af (by rw [←cX.out,if_neg h2]);go_wp2_with fail
    go_meet;rw [dL.out];exact D2.out
  case rest=>
  have JN:=af hcut;clear hcut fE gV lG fx D2 A7;generalize wc=u4 at*;have fc:=FE p n u4 (dy.out.below JN.out.aF);unfold Prod.agg Prod.cells at fc;have fc:=af fc;obtain⟨jO,p1,p2,p3,xm,xo,xp,xq,xu,xw,xx⟩:=JN.out.pc;have bl:u4.cell? ⟨aM,2,none⟩=some (.int .i64 n):=JN.out.cY.cell 2;obtain⟨⟨la,ajM,lc⟩,lX⟩:∃r,fB p n=r:=⟨_,rfl⟩;rw [lX]at b9 fc;dsimp only at b9 fc;clear lX;go_wp2_with fail
  refine fc.out.mono ?_;rintro e au ⟨rfl,di⟩;go_upto_region 20 with(fail)
  have F7:=af (JN.out.below di);clear di fc JN jO p1 p2 p3 xm xo xp xq xu xw xx bl;generalize au=u5 at*;have p2:u5.cell? ⟨aH,2,none⟩=some (.int .i64 p.tick):=F7.out.dx.cell 2;have ew:u5.cell? ⟨aM,4,none⟩=some (.int .i64 pr):=F7.out.cY.cell 4;have fx:∀o,u5.frozen? ⟨aM,o,none⟩=false:=fun o=>F7.out.cY.frozen o;obtain⟨P,hP⟩:∃t:Int,(if lc=true then pr-4*p.tick else pr+8*p.tick)=t:=⟨_,rfl⟩;rw [hP]at b9;have cL:=af hP;clear hP;go_upto_if 87 with(fail)
  go_cut [] (fun wx=>qJ w wx p aH gc gr aM ⟨kd,id,ins,sd,nH,kg,oM,tm,lb⟩ ⟨1,i+1,n,s,P,q,l,mJ,⟨#[]⟩⟩)
  case first=>
   cases lc with
   |false=>
    have dL:Hid (P=pr+8*p.tick):=af (by rw [←cL.out,if_neg (by simp)]);go_wp2_with fail
    go_meet;rw [dL.out];have h9:=F7.out.put 4 (.int .i64 (pr+8*p.tick)) ⟨1,i+1,n,s,pr+8*p.tick,q,l,mJ,⟨#[]⟩⟩;exact h9
   |true=>
    have dL:Hid (P=pr-4*p.tick):=af (by rw [←cL.out,if_pos rfl]);go_wp2_with fail
    go_meet;rw [dL.out];have h9:=F7.out.put 4 (.int .i64 (pr-4*p.tick)) ⟨1,i+1,n,s,pr-4*p.tick,q,l,mJ,⟨#[]⟩⟩;exact h9
  case rest=>
  have fD:=af hcut;clear hcut p2 ew fx F7;generalize wc=u6 at*;have x0:u6.cell? ⟨aM,0,none⟩=some (.int .i64 (1)):=fD.out.cY.cell 0;have x1:u6.cell? ⟨aM,1,none⟩=some (.int .i64 (i+1)):=fD.out.cY.cell 1;have bl:u6.cell? ⟨aM,2,none⟩=some (.int .i64 (n)):=fD.out.cY.cell 2;have dK:u6.cell? ⟨aM,3,none⟩=some (.int .i64 (s)):=fD.out.cY.cell 3;have ew:u6.cell? ⟨aM,4,none⟩=some (.int .i64 (P)):=fD.out.cY.cell 4;have gV:u6.cell? ⟨aM,5,none⟩=some (.int .i64 (q)):=fD.out.cY.cell 5;have lG:u6.cell? ⟨aM,6,none⟩=some (.int .i64 (l)):=fD.out.cY.cell 6;have lH:u6.cell? ⟨aM,7,none⟩=some (.int .i64 (mJ)):=fD.out.cY.cell 7;have qZ:u6.cell? ⟨aM,8,none⟩=some (.string ⟨#[]⟩):=fD.out.cY.cell 8;have b6:u6.cell? ⟨gr,0,none⟩=some (.int .i64 0):=fD.out.br.cell 0;have r1:u6.cell? ⟨gr,1,none⟩=some (.int .i64 0):=fD.out.br.cell 1;have r2:u6.cell? ⟨gr,2,none⟩=some (.int .i64 0):=fD.out.br.cell 2;have fV:u6.cell? ⟨gr,3,none⟩=some (.int .i64 0):=fD.out.br.cell 3;have gq:u6.cell? ⟨gr,4,none⟩=some (.int .i64 0):=fD.out.br.cell 4;have gu:u6.cell? ⟨gr,5,none⟩=some (.int .i64 0):=fD.out.br.cell 5;have gT:u6.cell? ⟨gr,6,none⟩=some (.int .i64 0):=fD.out.br.cell 6;have gU:u6.cell? ⟨gr,7,none⟩=some (.int .i64 0):=fD.out.br.cell 7;have RH:u6.cell? ⟨gr,8,none⟩=some (.string ⟨#[]⟩):=fD.out.br.cell 8;have fr:∀o,u6.frozen? ⟨gr,o,none⟩=false:=fun o=>fD.out.br.frozen o;go_wp2_with fail
  have gJ:=aj.JI fD.out.br (.int .i64 1) (.int .i64 (i+1)) (.int .i64 n) (.int .i64 s) (.int .i64 P) (.int .i64 q) (.int .i64 l) (.int .i64 mJ) (.string ⟨#[]⟩);have kr:=aD.JI u6 gr (.int .i64 1) (.int .i64 (i+1)) (.int .i64 n) (.int .i64 s) (.int .i64 P) (.int .i64 q) (.int .i64 l) (.int .i64 mJ) (.string ⟨#[]⟩);clear x0 x1 bl dK ew gV lG lH qZ b6 r1 r2 fV gq gu gT gU RH fr;generalize (((((((((u6.setCell ⟨gr,0,none⟩ (.int .i64 1)).setCell ⟨gr,1,none⟩ (.int .i64 (i+1))).setCell ⟨gr,2,none⟩ (.int .i64 n)).setCell ⟨gr,3,none⟩ (.int .i64 s)).setCell ⟨gr,4,none⟩ (.int .i64 P)).setCell ⟨gr,5,none⟩ (.int .i64 q)).setCell ⟨gr,6,none⟩ (.int .i64 l)).setCell ⟨gr,7,none⟩ (.int .i64 mJ)).setCell ⟨gr,8,none⟩ (.string ⟨#[]⟩))=ahy at*;have hbz:=fD.out.aF.trans (kr.below (B:=w.heap.size) (fun k hk=>by have e:k=gr:=hk;rw [e];exact fD.out.n1.2.2.2.2) fD.out.aF.size);have z0:=gJ.cell 0;have dM:=gJ.cell 1;have z2:=gJ.cell 2;have z3:=gJ.cell 3;have z4:=gJ.cell 4;have z5:=gJ.cell 5;have Eh:=gJ.cell 6;have Ei:=gJ.cell 7;have y2:=gJ.cell 8;simp only [List.getElem?_toArray,List.getElem?_cons_zero,List.getElem?_cons_succ]at z0 dM z2 z3 z4 z5 Eh Ei y2;refine bodyPost_ret (v:= .agg #[.int .i64 1,.int .i64 (i+1),.int .i64 n,.int .i64 s,.int .i64 P,.int .i64 q,.int .i64 l,.int .i64 mJ,.string ⟨#[]⟩]) (by simp [results,Tryz.results30,go_sem,z0,dM,z2,z3,z4,z5,Eh,Ei,y2]) rfl ⟨by rw [←b9.out],hbz⟩
 ·rw [if_neg cJ]at b9
  have e0:(kq==1)=false:=by rw [beq_eq_false_iff_ne];exact cJ
  have ko:Hid (kq=k0):=af (by
   have:=eY.out;by_cases h4:4<k0
   ·rw [if_pos h4]at this;exact absurd this.symm cJ
   ·rw [if_neg h4]at this;exact this.symm)
  rw [←ko.out]at b9;obtain⟨P,hP⟩:∃t:Int,(if kq=4 then pr+5*p.tick else pr)=t:=⟨_,rfl⟩;rw [hP]at b9;have cL:=af hP;clear hP;have p2:bG.cell? ⟨aH,2,none⟩=some (.int .i64 p.tick):=r4.out.dx.cell 2;go_upto_if 105 with(fail)
  go_cut [] (fun wx=>qJ w wx p aH gc gr aM ⟨kd,id,ins,sd,nH,kg,oM,tm,lb⟩ ⟨kq,d,n,s,P,q,0,0,⟨#[]⟩⟩)
  case first=>
   by_cases h2:kq=4
   ·have e1:(kq==4)=true:=by rw [h2];rfl
    have dL:Hid (P=pr+5*p.tick):=af (by rw [←cL.out,if_pos h2]);go_wp2_with fail
    go_meet;rw [dL.out];have h9:=r4.out.put 4 (.int .i64 (pr+5*p.tick)) ⟨kq,d,n,s,pr+5*p.tick,q,0,0,⟨#[]⟩⟩;exact h9
   ·have e1:(kq==4)=false:=by rw [beq_eq_false_iff_ne];exact h2
    have dL:Hid (P=pr):=af (by rw [←cL.out,if_neg h2]);go_wp2_with fail
    go_meet;rw [dL.out];exact r4.out
  case rest=>
  have vG:=af hcut;clear hcut p2 x0 x1 bl dK ew gV lG lH fx r4;generalize wc=u2 at*;have dK:u2.cell? ⟨aM,3,none⟩=some (.int .i64 s):=vG.out.cY.cell 3;have bl:u2.cell? ⟨aM,2,none⟩=some (.int .i64 n):=vG.out.cY.cell 2;have fx:∀o,u2.frozen? ⟨aM,o,none⟩=false:=fun o=>vG.out.cY.frozen o;go_upto_region 28 with(fail)
  have fD:=af ((vG.out.put 3 (.int .i64 0) ⟨kq,d,n,0,P,q,0,0,⟨#[]⟩⟩).put 2 (.int .i64 0) ⟨kq,d,0,0,P,q,0,0,⟨#[]⟩⟩);clear bl dK fx vG;generalize (u2.setCell ⟨aM,3,none⟩ (.int .i64 0)).setCell ⟨aM,2,none⟩ (.int .i64 0)=u6 at*;have x0:u6.cell? ⟨aM,0,none⟩=some (.int .i64 (kq)):=fD.out.cY.cell 0;have x1:u6.cell? ⟨aM,1,none⟩=some (.int .i64 (d)):=fD.out.cY.cell 1;have bl:u6.cell? ⟨aM,2,none⟩=some (.int .i64 (0)):=fD.out.cY.cell 2;have dK:u6.cell? ⟨aM,3,none⟩=some (.int .i64 (0)):=fD.out.cY.cell 3;have ew:u6.cell? ⟨aM,4,none⟩=some (.int .i64 (P)):=fD.out.cY.cell 4;have gV:u6.cell? ⟨aM,5,none⟩=some (.int .i64 (q)):=fD.out.cY.cell 5;have lG:u6.cell? ⟨aM,6,none⟩=some (.int .i64 (0)):=fD.out.cY.cell 6;have lH:u6.cell? ⟨aM,7,none⟩=some (.int .i64 (0)):=fD.out.cY.cell 7;have qZ:u6.cell? ⟨aM,8,none⟩=some (.string ⟨#[]⟩):=fD.out.cY.cell 8;have b6:u6.cell? ⟨gr,0,none⟩=some (.int .i64 0):=fD.out.br.cell 0;have r1:u6.cell? ⟨gr,1,none⟩=some (.int .i64 0):=fD.out.br.cell 1;have r2:u6.cell? ⟨gr,2,none⟩=some (.int .i64 0):=fD.out.br.cell 2;have fV:u6.cell? ⟨gr,3,none⟩=some (.int .i64 0):=fD.out.br.cell 3;have gq:u6.cell? ⟨gr,4,none⟩=some (.int .i64 0):=fD.out.br.cell 4;have gu:u6.cell? ⟨gr,5,none⟩=some (.int .i64 0):=fD.out.br.cell 5;have gT:u6.cell? ⟨gr,6,none⟩=some (.int .i64 0):=fD.out.br.cell 6;have gU:u6.cell? ⟨gr,7,none⟩=some (.int .i64 0):=fD.out.br.cell 7;have RH:u6.cell? ⟨gr,8,none⟩=some (.string ⟨#[]⟩):=fD.out.br.cell 8;have fr:∀o,u6.frozen? ⟨gr,o,none⟩=false:=fun o=>fD.out.br.frozen o;go_wp2_with fail
  have gJ:=aj.JI fD.out.br (.int .i64 kq) (.int .i64 d) (.int .i64 0) (.int .i64 0) (.int .i64 P) (.int .i64 q) (.int .i64 0) (.int .i64 0) (.string ⟨#[]⟩);have kr:=aD.JI u6 gr (.int .i64 kq) (.int .i64 d) (.int .i64 0) (.int .i64 0) (.int .i64 P) (.int .i64 q) (.int .i64 0) (.int .i64 0) (.string ⟨#[]⟩);clear x0 x1 bl dK ew gV lG lH qZ b6 r1 r2 fV gq gu gT gU RH fr;generalize (((((((((u6.setCell ⟨gr,0,none⟩ (.int .i64 kq)).setCell ⟨gr,1,none⟩ (.int .i64 d)).setCell ⟨gr,2,none⟩ (.int .i64 0)).setCell ⟨gr,3,none⟩ (.int .i64 0)).setCell ⟨gr,4,none⟩ (.int .i64 P)).setCell ⟨gr,5,none⟩ (.int .i64 q)).setCell ⟨gr,6,none⟩ (.int .i64 0)).setCell ⟨gr,7,none⟩ (.int .i64 0)).setCell ⟨gr,8,none⟩ (.string ⟨#[]⟩))=ahy at*;have hbz:=fD.out.aF.trans (kr.below (B:=w.heap.size) (fun k hk=>by have e:k=gr:=hk;rw [e];exact fD.out.n1.2.2.2.2) fD.out.aF.size);have z0:=gJ.cell 0;have dM:=gJ.cell 1;have z2:=gJ.cell 2;have z3:=gJ.cell 3;have z4:=gJ.cell 4;have z5:=gJ.cell 5;have Eh:=gJ.cell 6;have Ei:=gJ.cell 7;have y2:=gJ.cell 8;simp only [List.getElem?_toArray,List.getElem?_cons_zero,List.getElem?_cons_succ]at z0 dM z2 z3 z4 z5 Eh Ei y2;refine bodyPost_ret (v:= .agg #[.int .i64 kq,.int .i64 d,.int .i64 0,.int .i64 0,.int .i64 P,.int .i64 q,.int .i64 0,.int .i64 0,.string ⟨#[]⟩]) (by simp [results,Tryz.results30,go_sem,z0,dM,z2,z3,z4,z5,Eh,Ei,y2]) rfl ⟨by rw [←b9.out],hbz⟩
end
section
variable {p:Prod} {S:List (List ay)} {E:List Int}
theorem dJ.Pk (h:dJ p S) (i:Nat) (id side ag ah:Int) (hp: -2000000≤ag∧ag≤2000000):dJ p (ve p S i id side ag ah).1:=by
 unfold ve;split
 ·exact h
 ·split
  ·exact h
  ·split
   ·exact h
   ·exact h.set ((h.at_ i).add id side ag ah hp)
theorem dJ.run (h:dJ p S) (hz:cz p=0) (i:Nat) (c:dB) (hq:1≤c.ah) (hp: -2000000≤c.ag∧c.ag≤2000000):dJ p (qh p S i c):=by
 have h1:=(Gw (i:=i) (side:=c.side) (ag:=c.ag) hz c.ah.toNat S c.ah h (by omega)).1;unfold qh;split
 ·exact h1.Pk i c.id c.side c.ag _ hp
 ·exact h1
theorem dJ.come (h:dJ p S) (hz:cz p=0) (i:Nat) (c:dB) (hq:1≤c.ah) (hp: -2000000≤c.ag∧c.ag≤2000000):dJ p (qN p S E i c).1∧(qN p S E i c).2.length≤E.length+1:=by
 unfold qN;split
 ·exact⟨h,Nat.le_succ _⟩
 ·split
  ·exact⟨h,Nat.le_succ _⟩
  ·split
   ·exact⟨h,Nat.le_succ _⟩
   ·split
    ·exact⟨h,Nat.le_succ _⟩
    ·split
     ·exact⟨h,Nat.le_succ _⟩
     ·exact⟨h.run hz i c hq hp,by rw [List.length_append];exact Nat.le_refl _⟩
theorem dJ.Ii (h:dJ p S) (hz:cz p=0) (c:dB) {n:Nat} (hc:wm n c):dJ p (lC p S E c).1∧(lC p S E c).2.length≤E.length+1:=by
 unfold lC;split
 ·exact h.come hz _ c hc.ah.1 hc.ag
 ·split
  ·exact⟨h,Nat.le_succ _⟩
  ·rename_i i x hf
   split
   ·exact⟨h.take _ _,Nat.le_succ _⟩
   ·split
    ·exact⟨h.take _ _,Nat.le_succ _⟩
    ·split
     ·exact⟨h,Nat.le_succ _⟩
     ·split
      ·split
       ·exact⟨h.take _ _,Nat.le_succ _⟩
       ·exact⟨h,Nat.le_succ _⟩
      ·split
       ·exact⟨h,Nat.le_succ _⟩
       ·exact⟨(h.take _ _).run hz i _ hc.ah.1 hc.ag,Nat.le_succ _⟩
theorem dJ.new (p:Prod):dJ p (List.replicate (countP p).toNat []):=
 ⟨List.length_replicate,fun L hL=>by rw [(List.mem_replicate.1 hL).2];exact jm.nil⟩
end
end Go.Proofs.YtmaijkoopjocdaaGreat
