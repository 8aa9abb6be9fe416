import Derived.Test.YtmaijkoopjocdaaGreatKV34
set_option maxRecDepth 100000
set_option maxHeartbeats 64000000
namespace Go.Proofs.YtmaijkoopjocdaaGreat
open Go.RowKit Go.Lib
def Dt (p:Prod) (c:ed) (i:Int):ed:=
 if(if 4<1+ew c.kind 0 8 then 1 else 1+ew c.kind 0 8)=1 then
  ⟨1,i+1,ew c.inst 0 (countP p-1),1+ew c.side 0 1,if(gf p (ew c.inst 0 (countP p-1))).2.2=true then p.tick*ew c.ap 0 9-4*p.tick else p.tick*ew c.ap 0 9+8*p.tick,1+ew c.aq 0 11,if c.least.tmod 4=1 then ew c.least 0 (1+ew c.aq 0 11)else 0,if c.time.tmod 5=3 then 3 else if c.time.tmod 5=2 then 2 else 1,⟨#[]⟩⟩
 else⟨1+ew c.kind 0 8,1+ew c.id 0 30,0,0,if 1+ew c.kind 0 8=4 then p.tick*ew c.ap 0 9+5*p.tick else p.tick*ew c.ap 0 9,1+ew c.aq 0 11,0,0,⟨#[]⟩⟩
structure E3 (c:ed):Prop where
 kind:cz c.kind
 id:cz c.id
 inst:cz c.inst
 side:cz c.side
 ap:cz c.ap
 aq:cz c.aq
 least:cz c.least
 time:cz c.time
theorem akw {p:Prod} (hc:1≤countP p) (ht:1≤p.tick∧p.tick≤10) (c:ed) {i:Int} (hi:0≤i∧i≤100):yg (countP p).toNat (Dt p c i):=by
 have h1:=oq c.kind 0 8 (by omega);have h2:=oq c.id 0 30 (by omega);have h3:=oq c.inst 0 (countP p-1) (by omega);have h4:=oq c.side 0 1 (by omega);have h5:=oq c.aq 0 11 (by omega);have h6:=oq c.ap 0 9 (by omega);have h7:=oq c.least 0 (1+ew c.aq 0 11) (by omega);have h8:=ED ht.1 (i:=ew c.ap 0 9) (a:=0) (b:=9) h6.1 h6.2;unfold Dt;generalize ew c.least 0 (1+ew c.aq 0 11)=l at*;generalize ew c.kind 0 8=k at*;generalize ew c.id 0 30=d at*;generalize ew c.inst 0 (countP p-1)=n at*;generalize ew c.side 0 1=s at*;generalize ew c.aq 0 11=q at*;generalize p.tick*ew c.ap 0 9=pr at*;by_cases hk:(if 4<1+k then(1:Int)else 1+k)=1
 ·rw [if_pos hk]
  refine⟨by(try dsimp only);omega,by(try dsimp only);omega,by(try dsimp only);omega,?_,rfl,fun _=>⟨by(try dsimp only);omega,?_,?_,n.toNat,by(try dsimp only);omega,by omega⟩⟩
  ·(try dsimp only);split<;>omega
  ·(try dsimp only)
   split
   ·omega
   ·split<;>omega
  ·(try dsimp only);split<;>omega
 ·rw [if_neg hk]
  have iZ:¬4<1+k:=fun h=>hk (if_pos h);rw [if_neg iZ]at hk;refine⟨by(try dsimp only);omega,by(try dsimp only);omega,by(try dsimp only);omega,?_,rfl,fun h=>(by(try dsimp only at h);exact absurd h hk)⟩
  (try dsimp only);split<;>omega
def M3:ed:=⟨0,0,0,0,0,0,0,0,⟨#[]⟩⟩
structure r6 (w w':World) (p:Prod) (aR gc gr aL:Nat) (c x:ed):Prop where
 ek:av w' aR 25 p.cells
 bc:av w' gc 80 c.cells
 br:av w' gr 80 M3.cells
 cW:av w' aL 80 x.cells
 aJ:Below w.heap.size w w'
 n1:aR<aL∧gc<aL∧gr<aL∧w.heap.size≤aL∧w.heap.size≤gr
section
variable {w w' w2:World} {p:Prod} {aR gc gr aL:Nat} {c x:ed}
theorem r6.below (h:r6 w w' p aR gc gr aL c x) (hb:Below w'.heap.size w' w2):r6 w w2 p aR gc gr aL c x:=
 ⟨h.ek.below hb,h.bc.below hb,h.br.below hb,h.cW.below hb,h.aJ.trans (hb.mono h.aJ.size),h.n1⟩
theorem r6.put (h:r6 w w' p aR gc gr aL c x) (k:Nat) (v:Value) (x':ed) (he:x.cells.setIfInBounds k v=x'.cells:=by rfl):r6 w (w'.setCell ⟨aL,k,none⟩ v) p aR gc gr aL c x':=by
 have hk:=ct w' aL k v;obtain⟨n1,n2,pJ,lT,qi⟩:=h.n1;exact⟨h.ek.keeps hk (by show¬aR=aL;omega),h.bc.keeps hk (by show¬gc=aL;omega),h.br.keeps hk (by show¬gr=aL;omega),by rw [←he];exact h.cW.aW k v,h.aJ.setCell (p:=⟨aL,k,none⟩) lT v,h.n1⟩
theorem r6.pc (h:r6 w w' p aR gc gr aL c x):PC w' aR p:=PC.oQ h.ek
theorem av.LG {w:World} {g:Nat} {t:TypeId} {x0 x1 aZ cl cw eK gF g5 k5:Value} (h:av w g t #[x0,x1,aZ,cl,cw,eK,gF,g5,k5]) (v0 v1 v2 v3 v4 v5 v6 jt lH:Value):av (((((((((w.setCell ↑g v0).setCell ⟨g,1,none⟩ v1).setCell ⟨g,2,none⟩ v2).setCell ⟨g,3,none⟩ v3).setCell ⟨g,4,none⟩ v4).setCell ⟨g,5,none⟩ v5).setCell ⟨g,6,none⟩ v6).setCell ⟨g,7,none⟩ jt).setCell ⟨g,8,none⟩ lH) g t #[v0,v1,v2,v3,v4,v5,v6,jt,lH]:=by
 have h1:=(((((((((h.aW 0 v0).aW 1 v1).aW 2 v2).aW 3 v3).aW 4 v4).aW 5 v5).aW 6 v6).aW 7 jt).aW 8 lH);simp only [List.setIfInBounds_toArray,List.set_cons_zero,List.set_cons_succ]at h1;exact h1
theorem aK.LG (w:World) (g:Nat) (v0 v1 v2 v3 v4 v5 v6 jt lH:Value):aK (fun k=>k=g) w (((((((((w.setCell ↑g v0).setCell ⟨g,1,none⟩ v1).setCell ⟨g,2,none⟩ v2).setCell ⟨g,3,none⟩ v3).setCell ⟨g,4,none⟩ v4).setCell ⟨g,5,none⟩ v5).setCell ⟨g,6,none⟩ v6).setCell ⟨g,7,none⟩ jt).setCell ⟨g,8,none⟩ lH):=(((((((((ct w g 0 v0).trans (ct _ g 1 v1)).trans (ct _ g 2 v2)).trans (ct _ g 3 v3)).trans (ct _ g 4 v4)).trans (ct _ g 5 v5)).trans (ct _ g 6 v6)).trans (ct _ g 7 jt)).trans (ct _ g 8 lH))
theorem akv (p:Prod) (w:World) (hp:gM w p) (hz:cR p=0) (ht:1≤p.tick∧p.tick≤10) (c:ed) (hc:E3 c) (i:Int) (hi:0≤i∧i≤100):
 Calls Tryz.prog 30 #[p.agg,.agg c.cells,↑i] w fun e w'=>e= .returned (.agg (Dt p c i).cells)∧Below w.heap.size w w':=by
 have s1:=ak
 have anH:1≤countP p∧countP p≤21:=by
  have h1:countP p=nR p.months.length:=if_pos hz;have h2:=pI hz;have h3:=yN p.months.length h2.2;omega
 obtain⟨R,hR⟩:=ai (Dt p c i);have cv:=af hR;rw [hR];unfold Dt at cv;obtain⟨kd,id,ins,sd,oC,k8,pQ,tm,lb⟩:=c;obtain⟨⟨a0,a1⟩,⟨b0,b1⟩,⟨d0,d1⟩,⟨e0,e1⟩,⟨f0,f1⟩,⟨g0,g1⟩,⟨h0,h1⟩,_⟩:=hc;dsimp only at cv a0 a1 b0 b1 d0 d1 e0 e1 f0 f1 g0 g1 h0 h1;have dx:=af hp;have H1:=af fun w=>v8 kd 0 8 w a0 a1 (by omega) (by omega) (by omega);have H2:=af fun w=>v8 id 0 30 w b0 b1 (by omega) (by omega) (by omega);have H3:=af fun w=>v8 ins 0 (countP p-1) w d0 d1 (by omega) (by omega) (by omega);have H4:=af fun w=>v8 sd 0 1 w e0 e1 (by omega) (by omega) (by omega);have H5:=af fun w=>v8 k8 0 11 w g0 g1 (by omega) (by omega) (by omega);have IK:=af fun w=>v8 oC 0 9 w f0 f1 (by omega) (by omega) (by omega);have hw1:=oq kd 0 8 (by omega);have vH:=oq id 0 30 (by omega);have JS:=oq ins 0 (countP p-1) (by omega);have Qx:=oq sd 0 1 (by omega);have WW:=oq k8 0 11 (by omega);have r7:=oq oC 0 9 (by omega);have s6:=af fun w=>v8 pQ 0 (1+ew k8 0 11) w h0 h1 (by omega) (by omega) (by omega);have akU:=ED ht.1 (i:=ew oC 0 9) (a:=0) (b:=9) r7.1 r7.2;generalize ew pQ 0 (1+ew k8 0 11)=vl at*;generalize ew ins 0 (countP p-1)=n at*;generalize ew kd 0 8=v1 at*;generalize ew id 0 30=v2 at*;generalize ew sd 0 1=v4 at*;generalize ew k8 0 11=v5 at*;generalize ew oC 0 9=v6 at*;obtain⟨k0,iQ⟩:=ai (1+v1);obtain⟨d,hd⟩:=ai (1+v2);obtain⟨s,hs⟩:=ai (1+v4);obtain⟨q,hq⟩:=ai (1+v5);obtain⟨pr,mo⟩:=ai (p.tick*v6);have y1:IntKind.i64.wrap (1+v1)=k0:=by rw [iQ];exact IntWalk.i64_in _ (by omega)
 have fI:IntKind.i64.wrap (1+v2)=d:=by rw [hd];exact IntWalk.i64_in _ (by omega)
 have lF:IntKind.i64.wrap (countP p-1)=countP p-1:=IntWalk.i64_in _ (by omega);have qb:IntKind.i64.wrap (1+v4)=s:=by rw [hs];exact IntWalk.i64_in _ (by omega)
 have CN:IntKind.i64.wrap (1+v5)=q:=by rw [hq];exact IntWalk.i64_in _ (by omega)
 have Ln:IntKind.i64.wrap (p.tick*v6)=pr:=by rw [mo];exact IntWalk.i64_in _ (by omega)
 have ajM:IntKind.i64.wrap (i+1)=i+1:=IntWalk.i64_in _ (by omega);have Pk:IntKind.i64.wrap (8*p.tick)=8*p.tick:=IntWalk.i64_in _ (by omega);have anI:IntKind.i64.wrap (4*p.tick)=4*p.tick:=IntWalk.i64_in _ (by omega);have anJ:IntKind.i64.wrap (5*p.tick)=5*p.tick:=IntWalk.i64_in _ (by omega);have anK:IntKind.i64.wrap (pr+8*p.tick)=pr+8*p.tick:=IntWalk.i64_in _ (by omega);have anL:IntKind.i64.wrap (pr-4*p.tick)=pr-4*p.tick:=IntWalk.i64_in _ (by omega);have anM:IntKind.i64.wrap (pr+5*p.tick)=pr+5*p.tick:=IntWalk.i64_in _ (by omega);have hkb:1≤k0∧k0≤9:=by omega
 have A6:1≤q∧q≤12:=by omega
 rw [iQ,hd,hs,hq,mo]at cv;rw [hq]at s6;obtain⟨kq,hK⟩:=ai (if 4<k0 then 1 else k0);have e7:=af hK;rw [hK]at cv;clear hR hp hz iQ hd hs hq mo hK a0 a1 b0 b1 d0 d1 e0 e1 f0 f1 g0 g1 h0 h1 hw1 vH Qx WW r7 akU ht;unfold Prod.agg Prod.cells ed.cells;go_enter Tryz.func30,Tryz.ntmps30
 go_upto_region 1 with(fail)
 have hb1:Below w.heap.size w (w.alloc (.cells #[.string p.code,.slice p.ma p.months.length p.mc,↑p.tick,↑p.low,↑p.high,↑p.wide,↑p.rule,↑p.top,↑p.least,↑p.part,.slice p.sa p.settle.length p.sc] 25)):=Below.aI _ _;have abC:av (w.alloc (.cells #[.string p.code,.slice p.ma p.months.length p.mc,↑p.tick,↑p.low,↑p.high,↑p.wide,↑p.rule,↑p.top,↑p.least,↑p.part,.slice p.sa p.settle.length p.sc] 25)) w.heap.size 25 p.cells:=av.new _ _ _;have hz1:(w.alloc (.cells #[.string p.code,.slice p.ma p.months.length p.mc,↑p.tick,↑p.low,↑p.high,↑p.wide,↑p.rule,↑p.top,↑p.least,↑p.part,.slice p.sa p.settle.length p.sc] 25)).heap.size=w.heap.size+1:=s1 _ _;generalize (w.alloc (.cells #[.string p.code,.slice p.ma p.months.length p.mc,↑p.tick,↑p.low,↑p.high,↑p.wide,↑p.rule,↑p.top,↑p.least,↑p.part,.slice p.sa p.settle.length p.sc] 25))=w0 at*;have hb2:=hb1.trans ((Below.aI w0 (.cells #[↑kd,↑id,↑ins,↑sd,↑oC,↑k8,↑pQ,↑tm,.string lb] 80)).mono hb1.size)
 have hbc:av (w0.alloc (.cells #[↑kd,↑id,↑ins,↑sd,↑oC,↑k8,↑pQ,↑tm,.string lb] 80)) (w.heap.size+1) 80 #[↑kd,↑id,↑ins,↑sd,↑oC,↑k8,↑pQ,↑tm,.string lb]:=by
  have:=av.new w0 80 #[↑kd,↑id,↑ins,↑sd,↑oC,↑k8,↑pQ,↑tm,.string lb]
  rwa [hz1]at this
 have abD:=abC.below (Below.aI w0 (.cells #[↑kd,↑id,↑ins,↑sd,↑oC,↑k8,↑pQ,↑tm,.string lb] 80));have eg:(w0.alloc (.cells #[↑kd,↑id,↑ins,↑sd,↑oC,↑k8,↑pQ,↑tm,.string lb] 80)).heap.size=w.heap.size+1+1:=by rw [s1,hz1]
 generalize w0.alloc (.cells #[↑kd,↑id,↑ins,↑sd,↑oC,↑k8,↑pQ,↑tm,.string lb] 80)=FU at*;have hb3:=hb2.trans ((Below.aI FU (.cells #[.int .i64 0,.int .i64 0,.int .i64 0,.int .i64 0,.int .i64 0,.int .i64 0,.int .i64 0,.int .i64 0,.string ⟨#[]⟩] 80)).mono hb2.size)
 have xT:av (FU.alloc (.cells #[.int .i64 0,.int .i64 0,.int .i64 0,.int .i64 0,.int .i64 0,.int .i64 0,.int .i64 0,.int .i64 0,.string ⟨#[]⟩] 80)) (w.heap.size+1+1) 80 #[.int .i64 0,.int .i64 0,.int .i64 0,.int .i64 0,.int .i64 0,.int .i64 0,.int .i64 0,.int .i64 0,.string ⟨#[]⟩]:=by
  have:=av.new FU 80 #[.int .i64 0,.int .i64 0,.int .i64 0,.int .i64 0,.int .i64 0,.int .i64 0,.int .i64 0,.int .i64 0,.string ⟨#[]⟩]
  rwa [eg]at this
 have abE:=abD.below (Below.aI FU (.cells #[.int .i64 0,.int .i64 0,.int .i64 0,.int .i64 0,.int .i64 0,.int .i64 0,.int .i64 0,.int .i64 0,.string ⟨#[]⟩] 80));have Tk:=hbc.below (Below.aI FU (.cells #[.int .i64 0,.int .i64 0,.int .i64 0,.int .i64 0,.int .i64 0,.int .i64 0,.int .i64 0,.int .i64 0,.string ⟨#[]⟩] 80));have yf:(FU.alloc (.cells #[.int .i64 0,.int .i64 0,.int .i64 0,.int .i64 0,.int .i64 0,.int .i64 0,.int .i64 0,.int .i64 0,.string ⟨#[]⟩] 80)).heap.size=w.heap.size+1+1+1:=by rw [s1,eg]
 generalize FU.alloc (.cells #[.int .i64 0,.int .i64 0,.int .i64 0,.int .i64 0,.int .i64 0,.int .i64 0,.int .i64 0,.int .i64 0,.string ⟨#[]⟩] 80)=w1 at*
 have bz:Hid (∀x:ed,r6 w (w1.alloc (.cells x.cells 80)) p w.heap.size (w.heap.size+1) (w.heap.size+1+1) (w.heap.size+1+1+1) ⟨kd,id,ins,sd,oC,k8,pQ,tm,lb⟩ x):=af fun x=>
  ⟨abE.alloc _,Tk.alloc _,xT.alloc _,by have:=av.new w1 80 x.cells;rwa [yf]at this,hb3.trans ((Below.aI w1 _).mono hb3.size),by omega⟩
 obtain⟨aL,fO⟩:=ai (w.heap.size+1+1+1);obtain⟨gr,fe⟩:=ai (w.heap.size+1+1);obtain⟨gc,we⟩:=ai (w.heap.size+1);obtain⟨aR,nT⟩:=ai w.heap.size;have xx:Hid (∀x:ed,r6 w (w1.alloc (.cells x.cells 80)) p aR gc gr aL ⟨kd,id,ins,sd,oC,k8,pQ,tm,lb⟩ x):=af (by have:=bz.out;rw [fO,fe,we]at this;intro x;have h2:=this x;exact⟨by have:=h2.ek;rwa [nT]at this,h2.bc,h2.br,h2.cW,h2.aJ,by have:=h2.n1;omega⟩);try rw [show w.heap.size+2=w.heap.size+1+1 from rfl]
 try rw [fe]
 rw [we];rw [show(Value.pointer ↑w.heap.size)= .pointer ↑aR by rw [nT]];have c0:w1.cell? ↑gc=some ↑kd:=by rw [←we];exact Tk.cell 0
 have fy:Hid (w1.heap.size=aL):=af (by rw [yf];exact fO);clear bz fO fe we nT abC hbc xT abD abE Tk hb1 hb2 hb3 hz1 eg yf;go_wp2_with fail
 refine(H1.out _).mono ?_;rintro e aA ⟨rfl,rfl⟩;go_upto_region 2 with(fail)
 have nE:=af (xx.out ⟨k0,0,0,0,0,0,0,0,⟨#[]⟩⟩);rw [fy.out];unfold ed.cells at nE;dsimp only at nE;clear c0 fy xx;generalize w1.alloc (.cells _ 80)=w2 at*;have c1:w2.cell? ⟨gc,1,none⟩=some ↑id:=nE.out.bc.cell 1;have x1:w2.cell? ⟨aL,1,none⟩=some (.int .i64 0):=nE.out.cW.cell 1;have fx:∀o,w2.frozen? ⟨aL,o,none⟩=false:=fun o=>nE.out.cW.frozen o;go_wp2_with fail
 refine(H2.out _).mono ?_;rintro e aA ⟨rfl,rfl⟩;go_upto_region 3 with(fail)
 have LH:=af (nE.out.put 1 ↑d ⟨k0,d,0,0,0,0,0,0,⟨#[]⟩⟩);clear c1 x1 fx nE;generalize w2.setCell ⟨aL,1,none⟩ ↑d=w3 at*;have x0:w3.cell? ↑aL=some ↑k0:=LH.out.cW.cell 0;have fx:∀o,w3.frozen? ⟨aL,o,none⟩=false:=fun o=>LH.out.cW.frozen o;go_upto_if 24 with(fail)
 go_cut [] (fun wx=>r6 w wx p aR gc gr aL ⟨kd,id,ins,sd,oC,k8,pQ,tm,lb⟩ ⟨kq,d,0,0,0,0,0,0,⟨#[]⟩⟩)
 case first=>
  by_cases h4:4<k0
  ·have Fi:Hid (kq=1):=af (by rw [←e7.out,if_pos h4])
   go_wp2_with fail
   go_meet;have:=LH.out.put 0 (.int .i64 1) ⟨1,d,0,0,0,0,0,0,⟨#[]⟩⟩;rw [Fi.out];exact this
  ·have Fi:Hid (kq=k0):=af (by rw [←e7.out,if_neg h4])
   go_wp2_with fail
   go_meet;rw [Fi.out];exact LH.out
 case rest=>
 have Ox:=af hcut;clear hcut x0 fx LH;generalize wc=az at*;have anN:Hid (1≤kq∧kq≤4):=af (by rw [←e7.out];split<;>omega);have oc:=KA p az (dx.out.below Ox.out.aJ);unfold Prod.agg Prod.cells at oc;have oc:=af oc;obtain⟨jh,p1,p2,p3,y8,y9,za,zb,ze,zf,zg⟩:=Ox.out.pc;go_wp2_with fail
 refine oc.out.mono ?_;rintro e aA ⟨rfl,cx⟩;go_upto_region 6 with(fail)
 have T5:=af (Ox.out.below cx);clear cx oc Ox jh p1 p2 p3 y8 y9 za zb ze zf zg;generalize aA=aA at*;have c2:aA.cell? ⟨gc,2,none⟩=some ↑ins:=T5.out.bc.cell 2;have aZ:aA.cell? ⟨aL,2,none⟩=some (.int .i64 0):=T5.out.cW.cell 2;have fx:∀o,aA.frozen? ⟨aL,o,none⟩=false:=fun o=>T5.out.cW.frozen o;go_wp2_with fail
 refine(H3.out _).mono ?_;rintro e aA ⟨rfl,rfl⟩;go_upto_region 7 with(fail)
 have LI:=af (T5.out.put 2 ↑n ⟨kq,d,n,0,0,0,0,0,⟨#[]⟩⟩);clear c2 aZ fx T5;generalize aA.setCell ⟨aL,2,none⟩ ↑n=aN at*;have c3:aN.cell? ⟨gc,3,none⟩=some ↑sd:=LI.out.bc.cell 3;have cl:aN.cell? ⟨aL,3,none⟩=some (.int .i64 0):=LI.out.cW.cell 3;have fx:∀o,aN.frozen? ⟨aL,o,none⟩=false:=fun o=>LI.out.cW.frozen o;go_wp2_with fail
 refine(H4.out _).mono ?_;rintro e aA ⟨rfl,rfl⟩;go_upto_region 8 with(fail)
 have LJ:=af (LI.out.put 3 ↑s ⟨kq,d,n,s,0,0,0,0,⟨#[]⟩⟩);clear c3 cl fx LI;generalize aN.setCell ⟨aL,3,none⟩ ↑s=bf at*;have b8:bf.cell? ⟨gc,5,none⟩=some ↑k8:=LJ.out.bc.cell 5;have eK:bf.cell? ⟨aL,5,none⟩=some (.int .i64 0):=LJ.out.cW.cell 5;have fx:∀o,bf.frozen? ⟨aL,o,none⟩=false:=fun o=>LJ.out.cW.frozen o;go_wp2_with fail
 refine(H5.out _).mono ?_;rintro e aA ⟨rfl,rfl⟩;go_upto_region 9 with(fail)
 have abF:=af (LJ.out.put 5 ↑q ⟨kq,d,n,s,0,q,0,0,⟨#[]⟩⟩);clear b8 eK fx LJ;generalize bf.setCell ⟨aL,5,none⟩ ↑q=bZ at*;go_cut [] (fun wx=>r6 w wx p aR gc gr aL ⟨kd,id,ins,sd,oC,k8,pQ,tm,lb⟩ ⟨kq,d,n,s,pr,q,0,0,⟨#[]⟩⟩)
 case first=>
  have hd:=(Below.refl bZ.heap.size bZ).drew;have LK:=af (abF.out.below hd);clear hd;have p2:bZ.drew.cell? ⟨aR,2,none⟩=some ↑p.tick:=LK.out.ek.cell 2;have dH:bZ.drew.cell? ⟨gc,4,none⟩=some ↑oC:=LK.out.bc.cell 4;have cw:bZ.drew.cell? ⟨aL,4,none⟩=some (.int .i64 0):=LK.out.cW.cell 4;have fx:∀o,bZ.drew.frozen? ⟨aL,o,none⟩=false:=fun o=>LK.out.cW.frozen o;refine cP (S:=fun w'=>w'.cell? ⟨aR,2,none⟩=some ↑p.tick∧w'.cell? ⟨gc,4,none⟩=some ↑oC) ⟨p2,dH⟩ fun hHeld=>?_;refine au 0 ?_;refine au 1 ?_;refine au 2 ?_;refine au 3 ?_;refine aU 4 fun K hK=>?_;go_simp;go_at_call 14
  refine(IK.out _).mono ?_;rintro e aA ⟨rfl,rfl⟩;refine hK.out _ _ ⟨p2,dH⟩ (fun hHeld=>?_);clear hK K;refine au 5 ?_;refine au 6 ?_;refine dY 7 fun K hK=>?_;go_simp;refine hK.out _ _ ?_;clear hK K hHeld;go_wp2_with fail
  go_meet;have h9:=LK.out.put 4 ↑pr ⟨kq,d,n,s,pr,q,0,0,⟨#[]⟩⟩;exact h9
 case rest=>
 have tW:=af hcut;clear hcut abF;generalize wc=bW at*;obtain⟨x0,x1,aZ,cl,cw,eK,gF,g5⟩:=tW.out.cW.amA;have fx:∀o,bW.frozen? ⟨aL,o,none⟩=false:=fun o=>tW.out.cW.frozen o;by_cases cN:kq=1
 ·subst cN
  rw [if_pos rfl]at cv;go_upto_region 13 with(fail)
  have Ig:=af ((tW.out.put 1 (.int .i64 (i+1)) ⟨1,i+1,n,s,pr,q,0,0,⟨#[]⟩⟩).put 7 (.int .i64 1) ⟨1,i+1,n,s,pr,q,0,1,⟨#[]⟩⟩);clear x0 x1 aZ cl cw eK gF g5 fx tW;generalize (bW.setCell ⟨aL,1,none⟩ (.int .i64 (i+1))).setCell ⟨aL,7,none⟩ (.int .i64 1)=u1 at*;have gL:u1.cell? ⟨gc,7,none⟩=some ↑tm:=Ig.out.bc.cell 7;have g5:u1.cell? ⟨aL,7,none⟩=some (.int .i64 1):=Ig.out.cW.cell 7;have fx:∀o,u1.frozen? ⟨aL,o,none⟩=false:=fun o=>Ig.out.cW.frozen o;obtain⟨wq,Tl⟩:=ai (tm.tmod 5);rw [Tl]at cv;obtain⟨Ih,Hu⟩:=ai ((if wq=2 then 2 else 1):Int);rw [Hu]at cv;have wE:=af Hu;have kx:=af Tl;clear Hu Tl;go_upto_if 61 with(fail)
  rw [kx.out];go_cut [] (fun wx=>r6 w wx p aR gc gr aL ⟨kd,id,ins,sd,oC,k8,pQ,tm,lb⟩ ⟨1,i+1,n,s,pr,q,0,Ih,⟨#[]⟩⟩)
  case first=>
   by_cases h2:wq=2
   ·have e1:(wq==2)=true:=by rw [h2];rfl
    have en:Hid (Ih=2):=af (by rw [←wE.out,if_pos h2]);clear h2;go_wp2_with fail
    go_meet;rw [en.out];have h9:=Ig.out.put 7 (.int .i64 2) ⟨1,i+1,n,s,pr,q,0,2,⟨#[]⟩⟩;exact h9
   ·have e1:(wq==2)=false:=by rw [beq_eq_false_iff_ne];exact h2
    have en:Hid (Ih=1):=af (by rw [←wE.out,if_neg h2]);go_wp2_with fail
    go_meet;rw [en.out];exact Ig.out
  case rest=>
  have xN:=af hcut;clear hcut gL g5 fx Ig;generalize wc=u2 at*;have gL:u2.cell? ⟨gc,7,none⟩=some ↑tm:=xN.out.bc.cell 7;have g5:u2.cell? ⟨aL,7,none⟩=some ↑Ih:=xN.out.cW.cell 7;have fx:∀o,u2.frozen? ⟨aL,o,none⟩=false:=fun o=>xN.out.cW.frozen o;obtain⟨nE,Tm⟩:=ai ((if wq=3 then 3 else Ih):Int);rw [Tm]at cv;have nc:=af Tm;clear Tm;go_upto_if 66 with(fail)
  rw [kx.out];go_cut [] (fun wx=>r6 w wx p aR gc gr aL ⟨kd,id,ins,sd,oC,k8,pQ,tm,lb⟩ ⟨1,i+1,n,s,pr,q,0,nE,⟨#[]⟩⟩)
  case first=>
   by_cases h2:wq=3
   ·have e1:(wq==3)=true:=by rw [h2];rfl
    have en:Hid (nE=3):=af (by rw [←nc.out,if_pos h2]);clear h2;go_wp2_with fail
    go_meet;rw [en.out];have h9:=xN.out.put 7 (.int .i64 3) ⟨1,i+1,n,s,pr,q,0,3,⟨#[]⟩⟩;exact h9
   ·have e1:(wq==3)=false:=by rw [beq_eq_false_iff_ne];exact h2
    have en:Hid (nE=Ih):=af (by rw [←nc.out,if_neg h2]);go_wp2_with fail
    go_meet;rw [en.out];exact xN.out
  case rest=>
  have FV:=af hcut;clear hcut gL g5 fx xN kx;generalize wc=u3 at*;have fJ:u3.cell? ⟨gc,6,none⟩=some ↑pQ:=FV.out.bc.cell 6;have eK:u3.cell? ⟨aL,5,none⟩=some ↑q:=FV.out.cW.cell 5;have gF:u3.cell? ⟨aL,6,none⟩=some (.int .i64 0):=FV.out.cW.cell 6;have fx:∀o,u3.frozen? ⟨aL,o,none⟩=false:=fun o=>FV.out.cW.frozen o;obtain⟨lr,hlr⟩:=ai (pQ.tmod 4);rw [hlr]at cv;obtain⟨l,hl⟩:=ai ((if lr=1 then vl else 0):Int);rw [hl]at cv;have c6:=af hl;have CQ:=af hlr;clear hl hlr;go_upto_if 71 with(fail)
  rw [CQ.out];go_cut [] (fun wx=>r6 w wx p aR gc gr aL ⟨kd,id,ins,sd,oC,k8,pQ,tm,lb⟩ ⟨1,i+1,n,s,pr,q,l,nE,⟨#[]⟩⟩)
  case first=>
   by_cases h2:lr=1
   ·have e1:(lr==1)=true:=by rw [h2];rfl
    have en:Hid (l=vl):=af (by rw [←c6.out,if_pos h2]);clear h2;go_wp2_with fail
    refine(s6.out _).mono ?_;rintro e aA ⟨rfl,rfl⟩;go_wp2_with fail
    go_meet;rw [en.out];have h9:=FV.out.put 6 ↑vl ⟨1,i+1,n,s,pr,q,vl,nE,⟨#[]⟩⟩;exact h9
   ·have e1:(lr==1)=false:=by rw [beq_eq_false_iff_ne];exact h2
    have en:Hid (l=0):=af (by rw [←c6.out,if_neg h2]);go_wp2_with fail
    go_meet;rw [en.out];exact FV.out
  case rest=>
  have LL:=af hcut;clear hcut fJ eK gF fx FV CQ;generalize wc=u4 at*;have fN:=Hv p n u4 (dx.out.below LL.out.aJ);unfold Prod.agg Prod.cells at fN;have fN:=af fN;obtain⟨jh,p1,p2,p3,y8,y9,za,zb,ze,zf,zg⟩:=LL.out.pc;have aZ:u4.cell? ⟨aL,2,none⟩=some ↑n:=LL.out.cW.cell 2;obtain⟨⟨la,anO,lc⟩,mU⟩:=ai (gf p n);rw [mU]at cv fN;dsimp only at cv fN;clear mU;go_wp2_with fail
  refine fN.out.mono ?_;rintro e aA ⟨rfl,cx⟩;go_upto_region 20 with(fail)
  have Ii:=af (LL.out.below cx);clear cx fN LL jh p1 p2 p3 y8 y9 za zb ze zf zg aZ;generalize aA=u5 at*;have p2:u5.cell? ⟨aR,2,none⟩=some ↑p.tick:=Ii.out.ek.cell 2;have cw:u5.cell? ⟨aL,4,none⟩=some ↑pr:=Ii.out.cW.cell 4;have fx:∀o,u5.frozen? ⟨aL,o,none⟩=false:=fun o=>Ii.out.cW.frozen o;obtain⟨P,hP⟩:=ai ((if lc=true then pr-4*p.tick else pr+8*p.tick):Int);rw [hP]at cv;have dh:=af hP;clear hP;go_upto_if 87 with(fail)
  go_cut [] (fun wx=>r6 w wx p aR gc gr aL ⟨kd,id,ins,sd,oC,k8,pQ,tm,lb⟩ ⟨1,i+1,n,s,P,q,l,nE,⟨#[]⟩⟩)
  case first=>
   cases lc with
   |false=>
    have en:Hid (P=pr+8*p.tick):=af (by rw [←dh.out,if_neg (by simp)]);go_wp2_with fail
    go_meet;rw [en.out];have h9:=Ii.out.put 4 (.int .i64 (pr+8*p.tick)) ⟨1,i+1,n,s,pr+8*p.tick,q,l,nE,⟨#[]⟩⟩;exact h9
   |true=>
    have en:Hid (P=pr-4*p.tick):=af (by rw [←dh.out,if_pos rfl]);go_wp2_with fail
    go_meet;rw [en.out];have h9:=Ii.out.put 4 (.int .i64 (pr-4*p.tick)) ⟨1,i+1,n,s,pr-4*p.tick,q,l,nE,⟨#[]⟩⟩;exact h9
  case rest=>
  have gl:=af hcut;clear hcut p2 cw fx Ii;generalize wc=u6 at*;obtain⟨x0,x1,aZ,cl,cw,eK,gF,g5,k5⟩:=gl.out.cW.amB;obtain⟨cu,r1,r2,fG,gS,gT,g3,iE,Tn⟩:=gl.out.br.amB;have fr:∀o,u6.frozen? ⟨gr,o,none⟩=false:=fun o=>gl.out.br.frozen o;go_wp2_with fail
  have gC:=av.LG gl.out.br (.int .i64 1) (.int .i64 (i+1)) ↑n ↑s ↑P ↑q ↑l ↑nE (.string ⟨#[]⟩);have lm:=aK.LG u6 gr (.int .i64 1) (.int .i64 (i+1)) ↑n ↑s ↑P ↑q ↑l ↑nE (.string ⟨#[]⟩);clear x0 x1 aZ cl cw eK gF g5 k5 cu r1 r2 fG gS gT g3 iE Tn fr;generalize (((((((((u6.setCell ↑gr (.int .i64 1)).setCell ⟨gr,1,none⟩ (.int .i64 (i+1))).setCell ⟨gr,2,none⟩ ↑n).setCell ⟨gr,3,none⟩ ↑s).setCell ⟨gr,4,none⟩ ↑P).setCell ⟨gr,5,none⟩ ↑q).setCell ⟨gr,6,none⟩ ↑l).setCell ⟨gr,7,none⟩ ↑nE).setCell ⟨gr,8,none⟩ (.string ⟨#[]⟩))=akV at*;have hbz:=gl.out.aJ.trans (lm.below (B:=w.heap.size) (fun k hk=>by have e:k=gr:=hk;rw [e];exact gl.out.n1.2.2.2.2) gl.out.aJ.size);have z0:=gC.cell 0;have fw:=gC.cell 1;have z2:=gC.cell 2;have z3:=gC.cell 3;have z4:=gC.cell 4;have z5:=gC.cell 5;have Gg:=gC.cell 6;have Gh:=gC.cell 7;have AO:=gC.cell 8;simp only [List.getElem?_toArray,List.getElem?_cons_zero,List.getElem?_cons_succ]at z0 fw z2 z3 z4 z5 Gg Gh AO;refine bodyPost_ret (v:= .agg #[.int .i64 1,.int .i64 (i+1),↑n,↑s,↑P,↑q,↑l,↑nE,.string ⟨#[]⟩]) (by simp [results,Tryz.results30,go_sem,z0,fw,z2,z3,z4,z5,Gg,Gh,AO]) rfl ⟨by rw [←cv.out],hbz⟩
 ·rw [if_neg cN]at cv
  have e0:(kq==1)=false:=by rw [beq_eq_false_iff_ne];exact cN
  have lg:Hid (kq=k0):=af (by
   have:=e7.out;by_cases h4:4<k0
   ·rw [if_pos h4]at this;exact absurd this.symm cN
   ·rw [if_neg h4]at this;exact this.symm)
  rw [←lg.out]at cv;obtain⟨P,hP⟩:=ai ((if kq=4 then pr+5*p.tick else pr):Int);rw [hP]at cv;have dh:=af hP;clear hP;have p2:bW.cell? ⟨aR,2,none⟩=some ↑p.tick:=tW.out.ek.cell 2;go_upto_if 105 with(fail)
  go_cut [] (fun wx=>r6 w wx p aR gc gr aL ⟨kd,id,ins,sd,oC,k8,pQ,tm,lb⟩ ⟨kq,d,n,s,P,q,0,0,⟨#[]⟩⟩)
  case first=>
   by_cases h2:kq=4
   ·have e1:(kq==4)=true:=by rw [h2];rfl
    have en:Hid (P=pr+5*p.tick):=af (by rw [←dh.out,if_pos h2]);go_wp2_with fail
    go_meet;rw [en.out];have h9:=tW.out.put 4 (.int .i64 (pr+5*p.tick)) ⟨kq,d,n,s,pr+5*p.tick,q,0,0,⟨#[]⟩⟩;exact h9
   ·have e1:(kq==4)=false:=by rw [beq_eq_false_iff_ne];exact h2
    have en:Hid (P=pr):=af (by rw [←dh.out,if_neg h2]);go_wp2_with fail
    go_meet;rw [en.out];exact tW.out
  case rest=>
  have xN:=af hcut;clear hcut p2 x0 x1 aZ cl cw eK gF g5 fx tW;generalize wc=u2 at*;have cl:u2.cell? ⟨aL,3,none⟩=some ↑s:=xN.out.cW.cell 3;have aZ:u2.cell? ⟨aL,2,none⟩=some ↑n:=xN.out.cW.cell 2;have fx:∀o,u2.frozen? ⟨aL,o,none⟩=false:=fun o=>xN.out.cW.frozen o;go_upto_region 28 with(fail)
  have gl:=af ((xN.out.put 3 (.int .i64 0) ⟨kq,d,n,0,P,q,0,0,⟨#[]⟩⟩).put 2 (.int .i64 0) ⟨kq,d,0,0,P,q,0,0,⟨#[]⟩⟩);clear aZ cl fx xN;generalize (u2.setCell ⟨aL,3,none⟩ (.int .i64 0)).setCell ⟨aL,2,none⟩ (.int .i64 0)=u6 at*;obtain⟨x0,x1,aZ,cl,cw,eK,gF,g5,k5⟩:=gl.out.cW.amB;obtain⟨cu,r1,r2,fG,gS,gT,g3,iE,Tn⟩:=gl.out.br.amB;have fr:∀o,u6.frozen? ⟨gr,o,none⟩=false:=fun o=>gl.out.br.frozen o;go_wp2_with fail
  have gC:=av.LG gl.out.br ↑kq ↑d (.int .i64 0) (.int .i64 0) ↑P ↑q (.int .i64 0) (.int .i64 0) (.string ⟨#[]⟩);have lm:=aK.LG u6 gr ↑kq ↑d (.int .i64 0) (.int .i64 0) ↑P ↑q (.int .i64 0) (.int .i64 0) (.string ⟨#[]⟩);clear x0 x1 aZ cl cw eK gF g5 k5 cu r1 r2 fG gS gT g3 iE Tn fr;generalize (((((((((u6.setCell ↑gr ↑kq).setCell ⟨gr,1,none⟩ ↑d).setCell ⟨gr,2,none⟩ (.int .i64 0)).setCell ⟨gr,3,none⟩ (.int .i64 0)).setCell ⟨gr,4,none⟩ ↑P).setCell ⟨gr,5,none⟩ ↑q).setCell ⟨gr,6,none⟩ (.int .i64 0)).setCell ⟨gr,7,none⟩ (.int .i64 0)).setCell ⟨gr,8,none⟩ (.string ⟨#[]⟩))=akV at*;have hbz:=gl.out.aJ.trans (lm.below (B:=w.heap.size) (fun k hk=>by have e:k=gr:=hk;rw [e];exact gl.out.n1.2.2.2.2) gl.out.aJ.size);have z0:=gC.cell 0;have fw:=gC.cell 1;have z2:=gC.cell 2;have z3:=gC.cell 3;have z4:=gC.cell 4;have z5:=gC.cell 5;have Gg:=gC.cell 6;have Gh:=gC.cell 7;have AO:=gC.cell 8;simp only [List.getElem?_toArray,List.getElem?_cons_zero,List.getElem?_cons_succ]at z0 fw z2 z3 z4 z5 Gg Gh AO;refine bodyPost_ret (v:= .agg #[↑kq,↑d,.int .i64 0,.int .i64 0,↑P,↑q,.int .i64 0,.int .i64 0,.string ⟨#[]⟩]) (by simp [results,Tryz.results30,go_sem,z0,fw,z2,z3,z4,z5,Gg,Gh,AO]) rfl ⟨by rw [←cv.out],hbz⟩
end
section
variable {W w w':World} {pm ps pb:Nat} {p:Prod} {Q:List Nat} {S S':List (List aC)} {E:List Int}
theorem aeO (h:eF W w pm ps p Q S E) (hz:cR p=0) (hS:ei p S) (c:ed) (hc:yg S.length c) (hE:E.length≤90000) (rJ:c.kind≠1) (hfind:gR c.id 0 S≠none) (jq:∀(i:Nat) (x:aC),gR c.id 0 S=some (i,x)→c.kind=2∨(c.kind=3∧x.aq≤c.aq)):
 Calls Tryz.prog 29 #[.pointer ↑pm,.agg c.cells] w fun e w'=>∃v,e= .returned v∧gy W w w' pm ps p Q (mq p S E c).1 (mq p S E c).2:=by
 have hb0:=Below.aI w (.cells c.cells 80);have bA:=af hb0;have jd:=af h;have jG:=af (h.below hb0);have cm:Hid (av (w.alloc (.cells c.cells 80)) w.heap.size 80 c.cells):=af (av.new _ _ _);have cL:=af fun w=>GJ c hc (by have:=hS.le;omega) w;have ec:=af hz;have aD:=af hS;have bR:=af hE;have bg:=af hc;have hJ:=af fun(wv:World) (hv:eF W wv pm ps p Q S E) (i:Nat) (n9:c.inst=i) (hi:i<S.length) (e3:c.side=1∨c.side=2) (jF:c.least≤c.aq)=>F8 hv hz hS c n9 hi e3 hc.aq.1 hc.aq.2 jF hE;obtain⟨R,hR⟩:=ai (mq p S E c);have cv:Hid (R=if c.kind=1 then r9 p S E c.inst.toNat c
 else match gR c.id 0 S with
  |none=>(S,E)
  |some (i,x)=>
   if c.kind=2∨(c.kind=3∧x.aq≤c.aq)then((fW S c.id x.aq).1,E)
   else if c.kind=3 then((fW S c.id c.aq).1,E)
   else if eW p i c.ap≠0 then(S,E)
   else if c.ap=x.ap∧c.aq≤x.aq then(if c.aq<x.aq then((fW S c.id (x.aq-c.aq)).1,E)else(S,E))
   else if s4 p (fW S c.id x.aq).1 i x.side c.ap c.aq=true then(S,E)
   else(ru p (fW S c.id x.aq).1 i ⟨0,c.id,i,x.side,c.ap,c.aq,0,1,⟨#[]⟩⟩,E)):=af (by rw [←hR];rfl)
 rw [hR];have yh:=af rJ;have qR:=af hfind;have Eo:=af jq;clear h hz hS hE hb0 hR hc rJ hfind jq hJ;obtain⟨kd,id,inst,side,ap,aq,least,time,label⟩:=c;unfold ed.cells at*;dsimp only at*;go_enter Tryz.func29,Tryz.ntmps29
 go_upto_region 1 with(fail)
 obtain⟨aV,cj⟩:=ai w.heap.size;rw [cj]at cm⊢;clear cj;generalize w.alloc (.cells _ 80)=w1 at*;have c0:=cm.out.cell 0;have c1:=cm.out.cell 1;have c2:=cm.out.cell 2;have c3:=cm.out.cell 3;have dH:=cm.out.cell 4;have b8:=cm.out.cell 5;have fJ:=cm.out.cell 6;have gL:=cm.out.cell 7;have iC:=cm.out.cell 8;have h6:=cL.out w1;go_wp2_with fail
 refine h6.mono ?_;rintro e w2 ⟨rfl,hb2⟩;have aS:=ag bA hb2;have hN:=af (jG.out.below hb2);have dG:=af (cm.out.below hb2);clear c0 c1 c2 c3 dH b8 fJ gL iC h6 hb2 cL jG cm bA;have c0:=dG.out.cell 0;have cN:¬kd=1:=yh.out;have xd:(kd==1)=false:=by rw [beq_eq_false_iff_ne];exact cN
 rw [if_neg cN]at cv;have mO:kd=2∨kd=3∨kd=4:=by have:=bg.out.kind;dsimp only at this;omega
 go_upto_region 6 with(fail)
 clear c0 xd;obtain⟨mr,px⟩:=ai (gR id 0 S)
 obtain⟨fi,o0,o1,o2,bF,dX,fb,kV,qP⟩:∃(fi o0 o1 o2 bF:Int) (dX fb:Bool),xe mr= .tuple #[↑fi,.agg #[↑o0,↑o1,↑o2,↑bF,↑dX],↑fb]∧((mr=none∧fb=false)∨∃(i:Nat),mr=some (i,⟨o0,o1,o2,bF,dX⟩)∧fb=true∧fi=i):=by
  cases mr with
  |none=>exact⟨0,0,0,0,0,false,false,rfl,.inl ⟨rfl,rfl⟩⟩
  |some rI=>
   obtain⟨i,x0,x1,aZ,cl,cw⟩:=rI;exact⟨i,x0,x1,aZ,cl,cw,true,rfl,.inr ⟨i,rfl,rfl,rfl⟩⟩
 have A5:=af qP;have l5:=af px;clear qP px;go_cut [6,7,8] (fun u v b wx=>u=↑fi∧b=↑fb∧(∃aO:Nat,v= .pointer ↑aO∧av wx aO 139 #[↑o0,↑o1,↑o2,↑bF,↑dX])∧Below w2.heap.size w2 wx)
 case first=>
  have hd:=(Below.refl w2.heap.size w2).drew;have bq:=af (hN.out.below hd);have b9:=af (dG.out.below hd);have dI:=af hd
  have jH:∀wv,eF W wv pm ps p Q S E→wv.cell? ⟨pm,11,none⟩=some (.pointer ↑ps):=fun wv hv=>by
   obtain⟨_,_,h1,_⟩:=hv.box;exact h1.cell 11
  have iL:=af jH;have dS:=jH _ bq.out;have c1:w2.drew.cell? ⟨aV,1,none⟩=some ↑id:=b9.out.cell 1;clear hd jH;refine cP (S:=(fun w'=>w'.cell? ⟨pm,11,none⟩=some (.pointer ↑ps)∧w'.cell? ⟨aV,1,none⟩=some ↑id)) ⟨dS,c1⟩ fun hHeld=>?_;refine au 0 ?_;refine au 1 ?_;refine au 2 ?_;refine au 3 ?_;refine au 4 ?_;refine au 5 ?_;clear dS c1;generalize w2.drew=az at*
  have uz:Hid (∀wv,eF W wv pm ps p Q S E→Calls Tryz.prog 65 #[.pointer ↑ps,↑id] wv fun e w'=>e= .returned (.tuple #[↑fi,.agg #[↑o0,↑o1,↑o2,↑bF,↑dX],↑fb])∧Below wv.heap.size wv w'):=af fun wv hv=>by
   have:=Ep hv.cr (by have:=aD.out.le;omega) (fun L hL=>(aD.out.each L hL).len) id;rw [l5.out,kV]at this;exact this
  refine lZ 6 11 (fun K hK=>?_) fun K hK=>?_
  ·go_simp
   go_at_call 65
   refine(uz.out _ bq.out).mono ?_;rintro e wa ⟨rfl,hba⟩;have cK:=af hba;refine hK.out _ _ ⟨iL.out _ (bq.out.below hba),(b9.out.below hba).cell 1⟩ (fun hHeld=>?_);clear hK K hba;refine au 7 ?_;refine au 8 ?_;refine au 9 ?_;refine au 10 ?_;refine aU 11 fun K hK=>?_;go_simp;have aP:=Below.aI wa (.cells #[.int .i64 0,.int .i64 0,.int .i64 0,.int .i64 0,.bool false] 139);have cF:av (wa.alloc (.cells #[.int .i64 0,.int .i64 0,.int .i64 0,.int .i64 0,.bool false] 139)) wa.heap.size 139 #[.int .i64 0,.int .i64 0,.int .i64 0,.int .i64 0,.bool false]:=av.new _ _ _;have bp:=ag cK aP;refine hK.out _ _ ⟨iL.out _ (bq.out.below bp.out),(b9.out.below bp.out).cell 1⟩ (fun hHeld=>?_);clear hK K aP;obtain⟨aO,er⟩:=ai wa.heap.size;have bL:Hid (az.heap.size≤aO):=af (by rw [←er];exact cK.out.size);rw [er]at cF⊢;clear er;generalize wa.alloc (.cells #[.int .i64 0,.int .i64 0,.int .i64 0,.int .i64 0,.bool false] 139)=wb at*;refine au 12 ?_;have e0:=cF.cell 0;have e1:=cF.cell 1;have e2:=cF.cell 2;have bJ:=cF.cell 3;have cV:=cF.cell 4;have l6:=cF.frozen;have kW:=cF.qc ↑o0 ↑o1 ↑o2 ↑bF ↑dX;have cH:=af (((((bp.out.setCell (p:=⟨aO,0,none⟩) bL.out ↑o0).setCell (p:=⟨aO,1,none⟩) bL.out ↑o1).setCell (p:=⟨aO,2,none⟩) bL.out ↑o2).setCell (p:=⟨aO,3,none⟩) bL.out ↑bF).setCell (p:=⟨aO,4,none⟩) bL.out ↑dX);have qd:=af kW;clear cF kW;refine aU 13 fun K hK=>?_;go_simp;clear e0 e1 e2 bJ cV l6;refine hK.out _ _ ⟨iL.out _ (bq.out.below cH.out),(b9.out.below cH.out).cell 1⟩ (fun hHeld=>?_);clear hK K;generalize (((((wb.setCell ↑aO ↑o0).setCell ⟨aO,1,none⟩ ↑o1).setCell ⟨aO,2,none⟩ ↑o2).setCell ⟨aO,3,none⟩ ↑bF).setCell ⟨aO,4,none⟩ ↑dX)=wf at*;refine gu _ _ _ _ ?_;refine ej 14 ?_;refine gw ?_;clear hHeld;have kL:=ah dI cH;go_wp2_with fail
   go_meet;exact⟨by trivial,by trivial,⟨aO,rfl,qd.out⟩,kL.out⟩
  ·go_simp
   have aP:=Below.aI az (.cells #[.int .i64 0,.int .i64 0,.int .i64 0,.int .i64 0,.bool false] 139);have qf:av (az.alloc (.cells #[.int .i64 0,.int .i64 0,.int .i64 0,.int .i64 0,.bool false] 139)) az.heap.size 139 #[.int .i64 0,.int .i64 0,.int .i64 0,.int .i64 0,.bool false]:=av.new _ _ _;have cK:=af aP;refine hK.out _ _ ⟨iL.out _ (bq.out.below aP),(b9.out.below aP).cell 1⟩ (fun hHeld=>?_);clear hK K aP;obtain⟨aO,er⟩:=ai az.heap.size;have bL:Hid (az.heap.size≤aO):=af (by rw [←er];exact Nat.le_refl _);rw [er]at qf⊢;clear er;generalize az.alloc (.cells #[.int .i64 0,.int .i64 0,.int .i64 0,.int .i64 0,.bool false] 139)=wa at*;refine aU 6 fun K hK=>?_;go_simp;go_at_call 65
   refine(uz.out _ (bq.out.below cK.out)).mono ?_;rintro e wb ⟨rfl,aP⟩;have bp:=ag cK aP;have cF:=qf.below aP;refine hK.out _ _ ⟨iL.out _ (bq.out.below bp.out),(b9.out.below bp.out).cell 1⟩ (fun hHeld=>?_);clear hK K aP qf;refine au 7 ?_;refine au 8 ?_;refine au 9 ?_;refine au 10 ?_;refine au 12 ?_;have e0:=cF.cell 0;have e1:=cF.cell 1;have e2:=cF.cell 2;have bJ:=cF.cell 3;have cV:=cF.cell 4;have l6:=cF.frozen;have kW:=cF.qc ↑o0 ↑o1 ↑o2 ↑bF ↑dX;have cH:=af (((((bp.out.setCell (p:=⟨aO,0,none⟩) bL.out ↑o0).setCell (p:=⟨aO,1,none⟩) bL.out ↑o1).setCell (p:=⟨aO,2,none⟩) bL.out ↑o2).setCell (p:=⟨aO,3,none⟩) bL.out ↑bF).setCell (p:=⟨aO,4,none⟩) bL.out ↑dX);have qd:=af kW;clear cF kW;refine aU 13 fun K hK=>?_;go_simp;clear e0 e1 e2 bJ cV l6;refine hK.out _ _ ⟨iL.out _ (bq.out.below cH.out),(b9.out.below cH.out).cell 1⟩ (fun hHeld=>?_);clear hK K;generalize (((((wb.setCell ↑aO ↑o0).setCell ⟨aO,1,none⟩ ↑o1).setCell ⟨aO,2,none⟩ ↑o2).setCell ⟨aO,3,none⟩ ↑bF).setCell ⟨aO,4,none⟩ ↑dX)=wf at*;refine gu _ _ _ _ ?_;refine ej 14 ?_;refine gw ?_;clear hHeld;have kL:=ah dI cH;go_wp2_with fail
   go_meet;exact⟨by trivial,by trivial,⟨aO,rfl,qd.out⟩,kL.out⟩
 case rest=>
 obtain⟨rfl,rfl,⟨aO,rfl,uA⟩,ep⟩:=hcut;have aQ:=ag aS ep;have jl:=af (hN.out.below ep);have eA:=af (dG.out.below ep);have nh:=af uA;clear ep uA hN dG aS;generalize wc=w3 at*;rw [l5.out]at cv;rcases A5.out with⟨rfl,rfl⟩|⟨i,rfl,rfl,rfl⟩
 ·exact absurd l5.out qR.out
 ·dsimp only at cv
  obtain⟨hil,hxs,hx0,hx1⟩:=MQ aD.out l5.out;dsimp only at hxs hx0 hx1;have c1:=eA.out.cell 1;have e1:=nh.out.cell 1;have e2:=nh.out.cell 2;have bJ:=nh.out.cell 3;have hba:=Below.aI w3 (.cells #[.int .i64 4,↑id,↑i,↑o1,↑o2,↑bF,.int .i64 0,.int .i64 0] 143);have ni:Hid (av (w3.alloc (.cells #[.int .i64 4,↑id,↑i,↑o1,↑o2,↑bF,.int .i64 0,.int .i64 0] 143)) w3.heap.size 143 #[.int .i64 4,↑id,↑i,↑o1,↑o2,↑bF,.int .i64 0,.int .i64 0]):=af (av.new _ _ _);have mP:=af (jl.out.below hba);have hO:=af (eA.out.below hba);have kM:=af (nh.out.below hba);have j7:=ag aQ hba;clear hba jl eA nh aQ;go_upto_region 10 with(fail)
  obtain⟨cI,gC⟩:=ai w3.heap.size;rw [gC]at ni⊢;clear gC c1 e1 e2 bJ;generalize w3.alloc (.cells _ 143)=az at*;have c0:=hO.out.cell 0;have b8:=hO.out.cell 5;have bJ:=kM.out.cell 3;have jq:=Eo.out i _ l5.out;dsimp only at jq;have vR:=af jq;clear jq;obtain⟨cb,hcb⟩:∃b:Bool,decide (kd=2∨(kd=3∧bF≤aq))=b:=⟨_,rfl⟩;have gW:=af hcb;clear hcb;have rK:=bg.out.aq;dsimp only at rK;obtain⟨CD,A6⟩:=rK;go_cut [51] (fun v wx=>v=↑cb∧az=wx)
  case first=>
   rcases mO with rfl|rfl|rfl
   ·have gY:Hid (cb=true):=af (by rw [←gW.out];simp)
    go_wp2_with fail
    go_meet;exact⟨by rw [gY.out],by trivial⟩
   ·have gY:Hid (cb=decide (bF≤aq)):=af (by rw [←gW.out];simp)
    go_wp2_with fail
    go_meet;exact⟨by rw [gY.out],by trivial⟩
   ·have gY:Hid (cb=false):=af (by rw [←gW.out];simp)
    go_wp2_with fail
    go_meet;exact⟨by rw [gY.out],by trivial⟩
  case rest=>
  obtain⟨rfl,rfl⟩:=hcut;clear c0 b8 bJ;have jq:=vR.out;obtain rfl:cb=true:=by rw [←gW.out];exact decide_eq_true jq
  rw [if_pos jq]at cv;clear jq;go_upto_region 11 with(fail)
  have hd:=(Below.refl az.heap.size az).drew;have bq:=af (mP.out.below hd);have b9:=af (hO.out.below hd);have jg:=af (kM.out.below hd);have gZ:=af (ni.out.below hd);have b6:=ag j7 hd;clear hd mP hO kM ni j7
  have dS:az.drew.cell? ⟨pm,11,none⟩=some (.pointer ↑ps):=by
   obtain⟨_,_,h1,_⟩:=bq.out.box;exact h1.cell 11
  have yj:az.drew.cell? ⟨aV,1,none⟩=some ↑id:=b9.out.cell 1;have CF:az.drew.cell? ⟨aO,3,none⟩=some ↑bF:=jg.out.cell 3;refine cP (S:=fun w'=>w'.cell? ⟨pm,11,none⟩=some (.pointer ↑ps)∧w'.cell? ⟨aV,1,none⟩=some ↑id∧w'.cell? ⟨aO,3,none⟩=some ↑bF) ⟨dS,yj,CF⟩ fun hHeld=>?_;refine au 0 ?_;refine au 1 ?_;refine au 2 ?_;refine au 3 ?_;refine au 4 ?_;refine au 5 ?_;refine au 6 ?_;refine au 7 ?_;clear dS yj CF;generalize az.drew=wd at*;have kX:=Jq bq.out.cr (by have:=aD.out.le;omega) (fun L hL=>⟨(aD.out.each L hL).len,(aD.out.each L hL).nd,(aD.out.each L hL).aq⟩) id bF;refine dY 8 fun K hK=>?_;go_simp;go_at_call 66
  refine kX.mono ?_;rintro e wt ⟨rfl,hsb,kY⟩;refine hK.out _ _ ?_;clear hK K kX hHeld;have nP:∀g,g∈Q→ck wd g 181:=fun g hg=>(bq.out.cr.py hg).1;have zM:=af (bq.out.turn hsb kY);have xf:=af (b9.out.keeps kY (fun e=>b9.out.aE.ne (nP _ e) (by decide) rfl));have tu:=af (jg.out.keeps kY (fun e=>jg.out.aE.ne (nP _ e) (by decide) rfl));have vS:=af (gZ.out.keeps kY (fun e=>gZ.out.aE.ne (nP _ e) (by decide) rfl));have zN:Hid (aK (fun g=>g∈Q) w wt):=af ((Below.keeps b6.out).trans kY);clear hsb kY nP bq b9 jg gZ b6;have cu:=vS.out.cell 0;have r1:=vS.out.cell 1;have r2:=vS.out.cell 2;have fG:=vS.out.cell 3;have gS:=vS.out.cell 4;have gT:=vS.out.cell 5;have g3:=vS.out.cell 6;have iE:=vS.out.cell 7;go_wp2_with fail
  go_ret;have eU:=Below.aI wt (.cells #[.int .i64 4,↑id,↑i,↑o1,↑o2,↑bF,.int .i64 0,.int .i64 0] 143);have iY:gy W w (wt.alloc (.cells #[.int .i64 4,↑id,↑i,↑o1,↑o2,↑bF,.int .i64 0,.int .i64 0] 143)) pm ps p Q R.1 R.2:=by rw [cv.out];exact gy.ry jd.out (zM.out.below eU) (zN.out.trans (Below.keeps eU))
  first|exact iY|exact⟨_,rfl,iY⟩|exact⟨⟨_,rfl⟩,iY⟩
end
end Go.Proofs.YtmaijkoopjocdaaGreat
