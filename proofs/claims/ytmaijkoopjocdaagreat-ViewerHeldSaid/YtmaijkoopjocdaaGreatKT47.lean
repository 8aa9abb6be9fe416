import Derived.Test.YtmaijkoopjocdaaGreatKT46
set_option maxRecDepth 100000
set_option maxHeartbeats 64000000
namespace Go.Proofs.YtmaijkoopjocdaaGreat
open Go.RowKit Go.Lib
section
variable {W w w':World} {pm ps pb:Nat} {p:Prod} {Q:List Nat} {S S':List (List ay)} {E:List Int}
theorem ek.Ft {k3:World} (h:ek W w ps p Q S) (hb:Below k3.heap.size k3 W) (hp:fZ k3 p):ek k3 w ps p Q S:=by
 obtain⟨a,c,h1,h2⟩:=h.box;exact⟨⟨a,c,h1,h2.base hb.size⟩,h.len,h.nd,fun i pb L hq hs=>(h.CL i pb L hq hs).Ft hb,hp,Nat.le_trans hb.size h.base,hb.trans (h.aF.mono hb.size)⟩
theorem adT (p:Prod) (w:World) (hp:fZ w p):
 Calls Tryz.prog 27 #[p.agg] w fun e w'=>∃pm ps Q,e= .returned (.pointer (some ⟨pm,0,none⟩))∧ed w w' pm ps p Q (List.replicate (countP p).toNat []) []:=by
 unfold Prod.agg Prod.cells;have e3:Hid (Below w.heap.size w (w.alloc (.cells #[.string p.code,.slice p.ma p.months.length p.mc,.int .i64 p.tick,.int .i64 p.low,.int .i64 p.high,.int .i64 p.wide,.int .i64 p.rule,.int .i64 p.top,.int .i64 p.least,.int .i64 p.part,.slice p.sa p.settle.length p.sc] 25))):=af (Below.aA _ _);have jf:Hid (aj (w.alloc (.cells #[.string p.code,.slice p.ma p.months.length p.mc,.int .i64 p.tick,.int .i64 p.low,.int .i64 p.high,.int .i64 p.wide,.int .i64 p.rule,.int .i64 p.top,.int .i64 p.least,.int .i64 p.part,.slice p.sa p.settle.length p.sc] 25)) w.heap.size 25 p.cells):=af (aj.new _ _ _);have dy:=af hp;clear hp;go_enter Tryz.func27,Tryz.ntmps27
 go_upto_region 1 with(fail)
 obtain⟨aH,m4⟩:∃g,w.heap.size=g:=⟨_,rfl⟩;rw [m4]at jf⊢;clear m4;unfold Prod.cells at jf;generalize (w.alloc (.cells #[.string p.code,.slice p.ma p.months.length p.mc,.int .i64 p.tick,.int .i64 p.low,.int .i64 p.high,.int .i64 p.wide,.int .i64 p.rule,.int .i64 p.top,.int .i64 p.least,.int .i64 p.part,.slice p.sa p.settle.length p.sc] 25))=w1 at*;have hd:=(Below.refl w1.heap.size w1).drew;have cr:=af (e3.out.trans (hd.mono e3.out.size));have zA:=af (jf.out.below hd);have hH:PC w1.drew aH p:=PC.nV zA.out;have l6:=adU p w1.drew (dy.out.below cr.out);unfold Prod.agg Prod.cells at l6;have l6:=af l6;clear hd e3 jf;refine cF (S:=fun w'=>w'.cell? ⟨aH,0,none⟩=some (.string p.code)∧w'.cell? ⟨aH,1,none⟩=some (.slice p.ma p.months.length p.mc)∧w'.cell? ⟨aH,2,none⟩=some (.int .i64 p.tick)∧w'.cell? ⟨aH,3,none⟩=some (.int .i64 p.low)∧w'.cell? ⟨aH,4,none⟩=some (.int .i64 p.high)∧w'.cell? ⟨aH,5,none⟩=some (.int .i64 p.wide)∧w'.cell? ⟨aH,6,none⟩=some (.int .i64 p.rule)∧w'.cell? ⟨aH,7,none⟩=some (.int .i64 p.top)∧w'.cell? ⟨aH,8,none⟩=some (.int .i64 p.least)∧w'.cell? ⟨aH,9,none⟩=some (.int .i64 p.part)∧w'.cell? ⟨aH,10,none⟩=some (.slice p.sa p.settle.length p.sc)) (by kernel_rfl) hH (fun hHeld=>?_);refine ai 0 ?_;refine ai 1 ?_;clear hH;generalize w1.drew=w2 at*;refine aR 2 fun K hK=>?_;go_simp;go_at_call 57
 refine l6.out.mono ?_;rintro e w3 ⟨ps,Q,rfl,hsb⟩;refine hK.out _ _ (PC.nV (zA.out.below hsb.aF)) (fun hHeld=>?_);clear hK K;have iF:=af (hsb.Ft cr.out dy.out);have LP:=af (zA.out.below hsb.aF);clear hsb l6;refine ai 3 ?_;refine aR 4 fun K hK=>?_;go_simp;have hba:=Below.aA w3 (.cells (Fu p ps (.slice none 0 0)) 76)
 have Df:Hid (ed w (w3.alloc (.cells (Fu p ps (.slice none 0 0)) 76)) w3.heap.size ps p Q (List.replicate (countP p).toNat []) []):=af
  ⟨⟨none,0,aj.new w3 _ _,aY.Row.nil _ _⟩,iF.out.below hba,iF.out.aF.size⟩
 refine hK.out _ _ (PC.nV (LP.out.below hba)) (fun hHeld=>?_);clear hK K hba;refine gx _ _ _ _ ?_;refine eB 5 ?_;refine wpAnyH_done (by kernel_rfl) ?_ _;clear hHeld;go_wp2_with fail
 go_ret;exact⟨_,_,_,rfl,Df.out⟩
end
theorem acg {l:List ax} {k:Nat} {x:ax} {q:Int} (h:l[k]? =some x) (hf:eR l q=eR (l.drop k) q):eR l q=if x.ag=q then x else eR (l.drop (k+1)) q:=by
 obtain⟨h1,h2⟩:=List.getElem?_eq_some_iff.1 h;rw [hf,List.drop_eq_getElem_cons h1,h2,oo]
theorem TM {w:World} {a:Option Addr} {c:Nat} {L:List ax} (h:bC.e8 w (.slice a L.length c) L) (hl:L.length≤1000000) (q:Int):
 Calls Tryz.prog 73 #[.slice a L.length c,.int .i64 q] w fun e w'=>e= .returned (.agg #[.int .i64 (eR L q).ag,.int .i64 (eR L q).ah,.int .i64 (eR L q).count])∧Below w.heap.size w w':=by
 have hba:=Below.aA w (.cells #[.int .i64 0,.int .i64 0,.int .i64 0] 101);have aq:=af (h.below hba);have aE:=af hba;have cv:Hid (aj (w.alloc (.cells #[.int .i64 0,.int .i64 0,.int .i64 0] 101)) w.heap.size 101 #[.int .i64 0,.int .i64 0,.int .i64 0]):=af (aj.new _ _ _);obtain⟨n,hn⟩:∃n,L.length=n:=⟨_,rfl⟩;rw [hn]at aq hl⊢;have HN:=af hn;obtain⟨r,hr⟩:∃r,eR L q=r:=⟨_,rfl⟩;rw [hr];have cM:=af hr;clear h hba hn hr;go_enter Tryz.func73,Tryz.ntmps73
 go_upto_region 1 with(fail)
 obtain⟨g,hg⟩:∃g,w.heap.size=g:=⟨_,rfl⟩;have vQ:=af hg;rw [hg]at cv⊢;clear hg;generalize w.alloc (.cells _ 101)=w1 at*;have f0:∀o,w1.frozen? ⟨g,o,none⟩=false:=fun o=>cv.out.frozen o;have c0:w1.cell? ⟨g,0,none⟩=some (.int .i64 0):=cv.out.cell 0;have c1:w1.cell? ⟨g,1,none⟩=some (.int .i64 0):=cv.out.cell 1;have c2:w1.cell? ⟨g,2,none⟩=some (.int .i64 0):=cv.out.cell 2;go_wp2_with fail
 go_loopw [5] (fun i w'=>∃k:Nat,i= .int .i64 k∧k≤n∧eR L q=eR (L.drop k) q∧w1=w') (fun i _=>n-(RowKit.intOf i).toNat)
 case atStart=>exact⟨0,rfl,Nat.zero_le _,rfl,rfl⟩
 case round=>
  obtain⟨k,rfl,hk,hf,rfl⟩:=hrel;have cn:=af hf;clear hf;by_cases hlt:k<n
  ·have hlt':(k:Int)<(n:Int):=by omega
   obtain⟨x,hx⟩:∃x,L[k]? =some x:=⟨_,List.getElem?_eq_getElem (by rw [HN.out];exact hlt)⟩;have dD:=af (acg hx cn.out);obtain⟨b,off,c',he,_,hc⟩:=aq.out.get hx;injection he with he hne fu;clear hne;subst he;subst fu;obtain⟨x0,x1,bl⟩:=x;have d0:w1.cell? ⟨b,off+k*3,none⟩=some (.int .i64 x0):=hc 0 _ rfl;have d1:w1.cell? ⟨b,off+k*3+1,none⟩=some (.int .i64 x1):=hc 1 _ rfl;have d2:w1.cell? ⟨b,off+k*3+2,none⟩=some (.int .i64 bl):=hc 2 _ rfl;clear hc hx;by_cases he:x0=q
   ·subst he
    have jx:Hid (r=⟨x0,x1,bl⟩):=af (by rw [←cM.out,dD.out,if_pos rfl]);go_wp2_with fail
    have bU:=cv.out.cW (.int .i64 x0) (.int .i64 x1) (.int .i64 bl);have nI:=aE.out.trans ((aD.cW w1 g (.int .i64 x0) (.int .i64 x1) (.int .i64 bl)).below (B:=w.heap.size) (fun k hk=>by have e:k=g:=hk;rw [e];exact Nat.le_of_eq vQ.out) aE.out.size);have e0:=bU.cell 0;have e1:=bU.cell 1;have e2:=bU.cell 2;refine bodyPost_ret (v:= .agg #[.int .i64 x0,.int .i64 x1,.int .i64 bl]) (by simp [results,Tryz.results73,go_sem,e0,e1,e2]) rfl ⟨by rw [jx.out],nI⟩
   ·rw [if_neg he]at dD
    have he':(x0==q)=false:=by rw [beq_eq_false_iff_ne];exact he
    go_wp2_with fail
    go_roundw
    case rel=>exact⟨k+1,by go_num,hlt,dD.out,by trivial⟩
    case measure=>simp [RowKit.intOf];omega
  ·have hkn:k=n:=by omega
   have jx:Hid (r=⟨q,0,0⟩):=af (by rw [←cM.out,cn.out,hkn,←HN.out,List.drop_length];rfl);clear hkn;go_wp2_with fail
   have bU:=cv.out.cW (.int .i64 q) (.int .i64 0) (.int .i64 0);have nI:=aE.out.trans ((aD.cW w1 g (.int .i64 q) (.int .i64 0) (.int .i64 0)).below (B:=w.heap.size) (fun k hk=>by have e:k=g:=hk;rw [e];exact Nat.le_of_eq vQ.out) aE.out.size);have e0:=bU.cell 0;have e1:=bU.cell 1;have e2:=bU.cell 2;refine bodyPost_ret (v:= .agg #[.int .i64 q,.int .i64 0,.int .i64 0]) (by simp [results,Tryz.results73,go_sem,e0,e1,e2]) rfl ⟨by rw [jx.out],nI⟩
theorem xW (w:World) (t1 t2:TypeId) (c1 c2:Array Value):aj ((w.alloc (.cells c1 t1)).alloc (.cells c2 t2)) w.heap.size t1 c1∧aj ((w.alloc (.cells c1 t1)).alloc (.cells c2 t2)) (w.heap.size+1) t2 c2∧Below w.heap.size w ((w.alloc (.cells c1 t1)).alloc (.cells c2 t2)):=by
 have s1:∀(w:World) (o:Obj),(w.alloc o).heap.size=w.heap.size+1:=fun w o=>by simp
 refine⟨(aj.new _ _ _).alloc _,?_,(Below.aA _ _).alloc (by rw [s1];omega) _⟩;have:=aj.new (w.alloc (.cells c1 t1)) t2 c2;rw [s1]at this;exact this
section
variable {w:World}
theorem afC {qo qp:Nat} {a b:Option Addr} {c d:Nat} {V:bP} (ha:cl eF bC w qo (.slice a V.length c) V) (hb:cl eF bC w qp (.slice b V.length d) V) (hl:V.length≤255) (hK:g7 V 800000):
 Calls Tryz.prog 16 #[.agg #[.slice a V.length c],.agg #[.slice b V.length d]] w fun e w'=>e= .returned (.bool true)∧Below w.heap.size w w':=by
 have hn:=xW w 54 54 #[.slice a V.length c] #[.slice b V.length d];have GF:=af hn.1;have cE:=af hn.2.1;have aE:=af hn.2.2;have cG:=af (ha.below aE.out);have Cf:=af (hb.below aE.out);have eY:=af hK;have s1:∀(w:World) (o:Obj),(w.alloc o).heap.size=w.heap.size+1:=fun w o=>by simp
 have c5:=af s1;clear hn ha hb hK s1;go_enter Tryz.func16,Tryz.ntmps16
 go_upto_region 1 with(fail)
 obtain⟨bX,fj⟩:∃g,w.heap.size+1=g:=⟨_,rfl⟩;rw [fj]at cE⊢;obtain⟨ga,xX⟩:∃g,w.heap.size=g:=⟨_,rfl⟩;have AE:Hid (aj _ ga 54 #[.slice a V.length c]):=af (by have:=GF.out;rwa [xX]at this);rw [show(Value.pointer (some ⟨w.heap.size,0,none⟩))= .pointer (some ⟨ga,0,none⟩)by rw [xX]];clear xX fj GF;generalize (w.alloc (.cells #[.slice a V.length c] 54)).alloc (.cells #[.slice b V.length d] 54)=w1 at*;have c0:w1.cell? ⟨ga,0,none⟩=some (.slice a V.length c):=AE.out.cell 0;have c1:w1.cell? ⟨bX,0,none⟩=some (.slice b V.length d):=cE.out.cell 0;go_wp2_with fail
 go_loopw [5] (fun i w'=>∃k:Nat,i= .int .i64 k∧k≤V.length∧Below w1.heap.size w1 w') (fun i _=>V.length-(RowKit.intOf i).toNat)
 case atStart=>exact⟨0,rfl,Nat.zero_le _,Below.refl _ _⟩
 case round=>
  clear c0 c1;obtain⟨k,rfl,hk,hbz⟩:=hrel;obtain⟨ak,rfl⟩:∃bk:World,bk=wr:=⟨_,rfl⟩;have fH:=af hbz;have c0:ak.cell? ⟨ga,0,none⟩=some (.slice a V.length c):=(AE.out.below hbz).cell 0;clear hbz;by_cases hlt:k<V.length
  ·have hlt':(k:Int)<(V.length:Int):=by omega
   obtain⟨O2,hx⟩:∃x,V[k]? =some x:=⟨_,List.getElem?_eq_getElem hlt⟩;obtain⟨d1,d2⟩:=O2;have bA:=af hx;have rQ:=af (eY.out (d1,d2) (List.mem_of_getElem? hx));clear hx;go_wp2_with fail
   go_loopw [6] (fun i w'=>∃j:Nat,i= .int .i64 j∧(j=0∨j=1∨j=2)∧Below w1.heap.size w1 w') (fun i _=>2-(RowKit.intOf i).toNat)
   case atStart=>exact⟨0,rfl,.inl rfl,fH.out⟩
   case round=>
    clear c0;obtain⟨j,rfl,hj,hby⟩:=hrel;obtain⟨wy,rfl⟩:∃bk:World,bk=wr:=⟨_,rfl⟩;have fM:=af hby;clear hby fH;rcases hj with rfl|rfl|rfl
    ·obtain⟨g1,mE,GH,he,dz,eX,hq1,hq2⟩:=(cG.out.below fM.out).get bA.out
     injection he with ej _ fu;subst ej;subst fu;obtain⟨g2,nj,GI,he,e4,k4,xY,sB⟩:=(Cf.out.below fM.out).get bA.out;injection he with ej _ fu;subst ej;subst fu;obtain⟨⟨a1,n1,e1,⟨p1,q1,r1⟩,f1⟩,⟨b1,m1,h1,⟨t1,u1,v1⟩,x1⟩⟩:=GH;obtain⟨⟨a2,n2,e2,⟨p2,e5,r2⟩,f2⟩,⟨b2,m2,h2,⟨t2,u2,v2⟩,bl⟩⟩:=GI;have QB:=hq1;have QC:=xY;obtain⟨y1,yz,mV,pP⟩:=QB;obtain⟨dM,Dx,z3,z4⟩:=QC;obtain⟨L,⟨ip,O3,H8⟩,hh⟩:=d1;dsimp only at y1 yz mV pP dM Dx z3 z4;injection mV with QD QE QF;injection z3 with QG QH QI;subst y1;subst pP;subst QD;subst QE;subst QF;subst dM;subst QG;subst QH;subst QI;subst z4;have wH:Hid (L.length≤800000):=af rQ.out.1;have IY:=af yz;have IZ:=af Dx
     have aq:Hid (∀wx,Below wy.heap.size wy wx→(fun w'=>w'.cell? ⟨ga,0,none⟩=some (.slice (some ⟨g1,0,none⟩) V.length c)∧w'.cell? ⟨bX,0,none⟩=some (.slice (some ⟨g2,0,none⟩) V.length d)∧w'.cell? ⟨g1,k*10,none⟩=some (.slice a1 L.length e1)∧w'.cell? ⟨g1,k*10+1,none⟩=some (.int .i64 p2)∧w'.cell? ⟨g1,k*10+2,none⟩=some (.int .i64 e5)∧w'.cell? ⟨g1,k*10+3,none⟩=some (.int .i64 r2)∧w'.cell? ⟨g1,k*10+4,none⟩=some (.bool f2)∧w'.cell? ⟨g2,k*10,none⟩=some (.slice a2 L.length e2)∧w'.cell? ⟨g2,k*10+1,none⟩=some (.int .i64 p2)∧w'.cell? ⟨g2,k*10+2,none⟩=some (.int .i64 e5)∧w'.cell? ⟨g2,k*10+3,none⟩=some (.int .i64 r2)∧w'.cell? ⟨g2,k*10+4,none⟩=some (.bool f2)) wx):=af fun wx hb=>by
      have hb1:=fM.out.trans (hb.mono fM.out.size);have e:∀(g o:Nat),g<wy.heap.size→wx.cell? ⟨g,o,none⟩=wy.cell? ⟨g,o,none⟩:=fun g o hg=>hb.cell (p:=⟨g,o,none⟩) hg;exact⟨(AE.out.below hb1).cell 0,(cE.out.below hb1).cell 0,(e g1 _ dz).trans (eX 0 _ rfl),(e g1 _ dz).trans (eX 1 _ rfl),(e g1 _ dz).trans (eX 2 _ rfl),(e g1 _ dz).trans (eX 3 _ rfl),(e g1 _ dz).trans (eX 4 _ rfl),(e g2 _ e4).trans (k4 0 _ rfl),(e g2 _ e4).trans (k4 1 _ rfl),(e g2 _ e4).trans (k4 2 _ rfl),(e g2 _ e4).trans (k4 3 _ rfl),(e g2 _ e4).trans (k4 4 _ rfl)⟩
     clear eX k4 yz Dx hq1 hq2 xY sB;go_upto_region 9 with(fail)
     go_cut [7,8] (fun u7 u8 wx=>∃aM eS,u7= .pointer (some ⟨aM,0,none⟩)∧u8= .pointer (some ⟨eS,0,none⟩)∧aj wx aM 103 #[.slice a1 L.length e1,.int .i64 p2,.int .i64 e5,.int .i64 r2,.bool f2]∧aj wx eS 103 #[.slice a2 L.length e2,.int .i64 p2,.int .i64 e5,.int .i64 r2,.bool f2]∧Below wy.heap.size wy wx)
     case first=>
      refine cF (S:=fun w'=>w'.cell? ⟨ga,0,none⟩=some (.slice (some ⟨g1,0,none⟩) V.length c)∧w'.cell? ⟨bX,0,none⟩=some (.slice (some ⟨g2,0,none⟩) V.length d)∧w'.cell? ⟨g1,k*10,none⟩=some (.slice a1 L.length e1)∧w'.cell? ⟨g1,k*10+1,none⟩=some (.int .i64 p2)∧w'.cell? ⟨g1,k*10+2,none⟩=some (.int .i64 e5)∧w'.cell? ⟨g1,k*10+3,none⟩=some (.int .i64 r2)∧w'.cell? ⟨g1,k*10+4,none⟩=some (.bool f2)∧w'.cell? ⟨g2,k*10,none⟩=some (.slice a2 L.length e2)∧w'.cell? ⟨g2,k*10+1,none⟩=some (.int .i64 p2)∧w'.cell? ⟨g2,k*10+2,none⟩=some (.int .i64 e5)∧w'.cell? ⟨g2,k*10+3,none⟩=some (.int .i64 r2)∧w'.cell? ⟨g2,k*10+4,none⟩=some (.bool f2)) (by kernel_rfl) (aq.out _ (Below.refl _ _).drew) (fun hHeld=>?_);refine ai 0 ?_;refine ai 1 ?_;refine ai 2 ?_;refine ai 3 ?_;refine ai 4 ?_;refine ai 5 ?_;refine ai 6 ?_;refine ai 7 ?_;refine ai 8 ?_;refine ai 9 ?_;refine ai 10 ?_;refine ai 11 ?_;refine ai 12 ?_;refine ai 13 ?_;refine jW 14 15 (fun K hK=>?_) fun K hK=>?_
      ·go_simp
       refine hK.out _ _ (by first|exact aq.out _ (Below.aA wy _).drew|exact aq.out _ ((Below.aA wy _).alloc (by rw [c5.out];omega) _).drew) (fun hHeld=>?_);clear hK K;refine aR 15 fun K hK=>?_;go_simp;refine hK.out _ _ (by first|exact aq.out _ (Below.aA wy _).drew|exact aq.out _ ((Below.aA wy _).alloc (by rw [c5.out];omega) _).drew) (fun hHeld=>?_);clear hK K;refine aR 16 fun K hK=>?_;go_simp;refine hK.out _ _ (by first|exact aq.out _ (Below.aA wy _).drew|exact aq.out _ ((Below.aA wy _).alloc (by rw [c5.out];omega) _).drew) (fun hHeld=>?_);clear hK K;refine cO 17 fun K hK=>?_;go_simp;refine hK.out _ _ ?_;clear hK K hHeld;go_wp2_with fail
       go_meet;have h2:=xW wy 103 103 #[.slice a1 L.length e1,.int .i64 p2,.int .i64 e5,.int .i64 r2,.bool f2] #[.slice a2 L.length e2,.int .i64 p2,.int .i64 e5,.int .i64 r2,.bool f2];exact⟨wy.heap.size,wy.heap.size+1,rfl,rfl,h2.1,h2.2.1,h2.2.2.drew⟩
      ·go_simp
       refine hK.out _ _ (by first|exact aq.out _ (Below.aA wy _).drew|exact aq.out _ ((Below.aA wy _).alloc (by rw [c5.out];omega) _).drew) (fun hHeld=>?_);clear hK K;refine aR 14 fun K hK=>?_;go_simp;refine hK.out _ _ (by first|exact aq.out _ (Below.aA wy _).drew|exact aq.out _ ((Below.aA wy _).alloc (by rw [c5.out];omega) _).drew) (fun hHeld=>?_);clear hK K;refine aR 16 fun K hK=>?_;go_simp;refine hK.out _ _ (by first|exact aq.out _ (Below.aA wy _).drew|exact aq.out _ ((Below.aA wy _).alloc (by rw [c5.out];omega) _).drew) (fun hHeld=>?_);clear hK K;refine cO 17 fun K hK=>?_;go_simp;refine hK.out _ _ ?_;clear hK K hHeld;go_wp2_with fail
       go_meet;have h2:=xW wy 103 103 #[.slice a2 L.length e2,.int .i64 p2,.int .i64 e5,.int .i64 r2,.bool f2] #[.slice a1 L.length e1,.int .i64 p2,.int .i64 e5,.int .i64 r2,.bool f2];exact⟨wy.heap.size+1,wy.heap.size,rfl,rfl,h2.2.1,h2.1,h2.2.2.drew⟩
     case rest=>
     obtain⟨aM,eS,rfl,rfl,jA,vX,hbc⟩:=hcut;obtain⟨au,rfl⟩:∃bk:World,bk=wc:=⟨_,rfl⟩;have cD:=af (fM.out.trans (hbc.mono fM.out.size));have Dn:=af (IY.out.below hbc);have jx:=af (IZ.out.below hbc);have jX:=af jA;have nu:=af vX;have x0:au.cell? ⟨aM,0,none⟩=some (.slice a1 L.length e1):=jX.out.cell 0;have y0:au.cell? ⟨eS,0,none⟩=some (.slice a2 L.length e2):=nu.out.cell 0;have x1:au.cell? ⟨aM,1,none⟩=some (.int .i64 p2):=jX.out.cell 1;have y1:au.cell? ⟨eS,1,none⟩=some (.int .i64 p2):=nu.out.cell 1;have bl:au.cell? ⟨aM,2,none⟩=some (.int .i64 e5):=jX.out.cell 2;have dw:au.cell? ⟨eS,2,none⟩=some (.int .i64 e5):=nu.out.cell 2;have dK:au.cell? ⟨aM,3,none⟩=some (.int .i64 r2):=jX.out.cell 3;have mV:au.cell? ⟨eS,3,none⟩=some (.int .i64 r2):=nu.out.cell 3;have ew:au.cell? ⟨aM,4,none⟩=some (.bool f2):=jX.out.cell 4;have pP:au.cell? ⟨eS,4,none⟩=some (.bool f2):=nu.out.cell 4;clear jA vX hbc aq IY IZ;go_wp2_with fail
     clear x0 y0 x1 y1 bl dw dK mV ew pP;go_loopw [9] (fun i w'=>∃q:Nat,i= .int .i64 q∧q≤L.length∧Below au.heap.size au w') (fun i _=>L.length-(RowKit.intOf i).toNat)
     case atStart=>exact⟨0,rfl,Nat.zero_le _,Below.refl _ _⟩
     case round=>
      obtain⟨q,rfl,hq,bJ⟩:=hrel;obtain⟨g3,rfl⟩:∃bk:World,bk=wr:=⟨_,rfl⟩;have ke:=af bJ;have x0:g3.cell? ⟨aM,0,none⟩=some (.slice a1 L.length e1):=(jX.out.below bJ).cell 0;have y0:g3.cell? ⟨eS,0,none⟩=some (.slice a2 L.length e2):=(nu.out.below bJ).cell 0;clear bJ;have O5:=wH.out;by_cases uw:q<L.length
      ·have O4:(q:Int)<(L.length:Int):=by omega
       obtain⟨z,hz⟩:∃z,L[q]? =some z:=⟨_,List.getElem?_eq_getElem uw⟩;have Dy:=Dn.out.below ke.out;have Dz:=jx.out.below ke.out;obtain⟨az,lS,he,_,_⟩:=Dy.at_ q z hz;injection he with ej _ fu;subst ej;subst fu;obtain⟨Qa,afD,he,_,_⟩:=Dz.at_ q z hz;injection he with ej _ fu;subst ej;subst fu;obtain⟨l0,l1,l2,_⟩:=Mf Dy hz;obtain⟨l3,l4,fT,_⟩:=Mf Dz hz;clear hz Dy Dz;go_wp2_with fail
       go_quiet (fail)
       have bR:=ke.out.trans ((Below.bT g3 nq).mono ke.out.size);have iG:=af bR;clear bR l0 l1 l2 l3 l4 fT x0 y0;go_wp2_with fail
       go_roundw
       case rel=>exact⟨q+1,by go_num,uw,iG.out⟩
       case measure=>simp [RowKit.intOf];omega
      ·have wJ:q=L.length:=by omega
       have c7:=af (cD.out.trans (ke.out.mono cD.out.size));clear wJ;go_wp2_with fail
       go_roundw
       case rel=>exact⟨1,by go_num,.inr (.inl rfl),c7.out⟩
       case measure=>simp [RowKit.intOf]
    ·obtain⟨g1,mE,GH,he,dz,eX,hq1,hq2⟩:=(cG.out.below fM.out).get bA.out
     injection he with ej _ fu;subst ej;subst fu;obtain⟨g2,nj,GI,he,e4,k4,xY,sB⟩:=(Cf.out.below fM.out).get bA.out;injection he with ej _ fu;subst ej;subst fu;obtain⟨⟨b1,m1,h1,⟨t1,u1,v1⟩,x1⟩,⟨a1,n1,e1,⟨p1,q1,r1⟩,f1⟩⟩:=GH;obtain⟨⟨b2,m2,h2,⟨t2,u2,v2⟩,bl⟩,⟨a2,n2,e2,⟨p2,e5,r2⟩,f2⟩⟩:=GI;have QB:=hq2;have QC:=sB;obtain⟨y1,yz,mV,pP⟩:=QB;obtain⟨dM,Dx,z3,z4⟩:=QC;obtain⟨L,⟨ip,O3,H8⟩,hh⟩:=d2;dsimp only at y1 yz mV pP dM Dx z3 z4;injection mV with QD QE QF;injection z3 with QG QH QI;subst y1;subst pP;subst QD;subst QE;subst QF;subst dM;subst QG;subst QH;subst QI;subst z4;have wH:Hid (L.length≤800000):=af rQ.out.2;have IY:=af yz;have IZ:=af Dx
     have aq:Hid (∀wx,Below wy.heap.size wy wx→(fun w'=>w'.cell? ⟨ga,0,none⟩=some (.slice (some ⟨g1,0,none⟩) V.length c)∧w'.cell? ⟨bX,0,none⟩=some (.slice (some ⟨g2,0,none⟩) V.length d)∧w'.cell? ⟨g1,k*10+5,none⟩=some (.slice a1 L.length e1)∧w'.cell? ⟨g1,k*10+6,none⟩=some (.int .i64 p2)∧w'.cell? ⟨g1,k*10+7,none⟩=some (.int .i64 e5)∧w'.cell? ⟨g1,k*10+8,none⟩=some (.int .i64 r2)∧w'.cell? ⟨g1,k*10+9,none⟩=some (.bool f2)∧w'.cell? ⟨g2,k*10+5,none⟩=some (.slice a2 L.length e2)∧w'.cell? ⟨g2,k*10+6,none⟩=some (.int .i64 p2)∧w'.cell? ⟨g2,k*10+7,none⟩=some (.int .i64 e5)∧w'.cell? ⟨g2,k*10+8,none⟩=some (.int .i64 r2)∧w'.cell? ⟨g2,k*10+9,none⟩=some (.bool f2)) wx):=af fun wx hb=>by
      have hb1:=fM.out.trans (hb.mono fM.out.size);have e:∀(g o:Nat),g<wy.heap.size→wx.cell? ⟨g,o,none⟩=wy.cell? ⟨g,o,none⟩:=fun g o hg=>hb.cell (p:=⟨g,o,none⟩) hg;exact⟨(AE.out.below hb1).cell 0,(cE.out.below hb1).cell 0,(e g1 _ dz).trans (eX 5 _ rfl),(e g1 _ dz).trans (eX 6 _ rfl),(e g1 _ dz).trans (eX 7 _ rfl),(e g1 _ dz).trans (eX 8 _ rfl),(e g1 _ dz).trans (eX 9 _ rfl),(e g2 _ e4).trans (k4 5 _ rfl),(e g2 _ e4).trans (k4 6 _ rfl),(e g2 _ e4).trans (k4 7 _ rfl),(e g2 _ e4).trans (k4 8 _ rfl),(e g2 _ e4).trans (k4 9 _ rfl)⟩
     clear eX k4 yz Dx hq1 hq2 xY sB;go_upto_region 9 with(fail)
     go_cut [7,8] (fun u7 u8 wx=>∃aM eS,u7= .pointer (some ⟨aM,0,none⟩)∧u8= .pointer (some ⟨eS,0,none⟩)∧aj wx aM 103 #[.slice a1 L.length e1,.int .i64 p2,.int .i64 e5,.int .i64 r2,.bool f2]∧aj wx eS 103 #[.slice a2 L.length e2,.int .i64 p2,.int .i64 e5,.int .i64 r2,.bool f2]∧Below wy.heap.size wy wx)
     case first=>
      refine cF (S:=fun w'=>w'.cell? ⟨ga,0,none⟩=some (.slice (some ⟨g1,0,none⟩) V.length c)∧w'.cell? ⟨bX,0,none⟩=some (.slice (some ⟨g2,0,none⟩) V.length d)∧w'.cell? ⟨g1,k*10+5,none⟩=some (.slice a1 L.length e1)∧w'.cell? ⟨g1,k*10+6,none⟩=some (.int .i64 p2)∧w'.cell? ⟨g1,k*10+7,none⟩=some (.int .i64 e5)∧w'.cell? ⟨g1,k*10+8,none⟩=some (.int .i64 r2)∧w'.cell? ⟨g1,k*10+9,none⟩=some (.bool f2)∧w'.cell? ⟨g2,k*10+5,none⟩=some (.slice a2 L.length e2)∧w'.cell? ⟨g2,k*10+6,none⟩=some (.int .i64 p2)∧w'.cell? ⟨g2,k*10+7,none⟩=some (.int .i64 e5)∧w'.cell? ⟨g2,k*10+8,none⟩=some (.int .i64 r2)∧w'.cell? ⟨g2,k*10+9,none⟩=some (.bool f2)) (by kernel_rfl) (aq.out _ (Below.refl _ _).drew) (fun hHeld=>?_);refine ai 0 ?_;refine ai 1 ?_;refine ai 2 ?_;refine ai 3 ?_;refine ai 4 ?_;refine ai 5 ?_;refine ai 6 ?_;refine ai 7 ?_;refine ai 8 ?_;refine ai 9 ?_;refine ai 10 ?_;refine ai 11 ?_;refine ai 12 ?_;refine ai 13 ?_;refine jW 14 15 (fun K hK=>?_) fun K hK=>?_
      ·go_simp
       refine hK.out _ _ (by first|exact aq.out _ (Below.aA wy _).drew|exact aq.out _ ((Below.aA wy _).alloc (by rw [c5.out];omega) _).drew) (fun hHeld=>?_);clear hK K;refine aR 15 fun K hK=>?_;go_simp;refine hK.out _ _ (by first|exact aq.out _ (Below.aA wy _).drew|exact aq.out _ ((Below.aA wy _).alloc (by rw [c5.out];omega) _).drew) (fun hHeld=>?_);clear hK K;refine aR 16 fun K hK=>?_;go_simp;refine hK.out _ _ (by first|exact aq.out _ (Below.aA wy _).drew|exact aq.out _ ((Below.aA wy _).alloc (by rw [c5.out];omega) _).drew) (fun hHeld=>?_);clear hK K;refine cO 17 fun K hK=>?_;go_simp;refine hK.out _ _ ?_;clear hK K hHeld;go_wp2_with fail
       go_meet;have h2:=xW wy 103 103 #[.slice a1 L.length e1,.int .i64 p2,.int .i64 e5,.int .i64 r2,.bool f2] #[.slice a2 L.length e2,.int .i64 p2,.int .i64 e5,.int .i64 r2,.bool f2];exact⟨wy.heap.size,wy.heap.size+1,rfl,rfl,h2.1,h2.2.1,h2.2.2.drew⟩
      ·go_simp
       refine hK.out _ _ (by first|exact aq.out _ (Below.aA wy _).drew|exact aq.out _ ((Below.aA wy _).alloc (by rw [c5.out];omega) _).drew) (fun hHeld=>?_);clear hK K;refine aR 14 fun K hK=>?_;go_simp;refine hK.out _ _ (by first|exact aq.out _ (Below.aA wy _).drew|exact aq.out _ ((Below.aA wy _).alloc (by rw [c5.out];omega) _).drew) (fun hHeld=>?_);clear hK K;refine aR 16 fun K hK=>?_;go_simp;refine hK.out _ _ (by first|exact aq.out _ (Below.aA wy _).drew|exact aq.out _ ((Below.aA wy _).alloc (by rw [c5.out];omega) _).drew) (fun hHeld=>?_);clear hK K;refine cO 17 fun K hK=>?_;go_simp;refine hK.out _ _ ?_;clear hK K hHeld;go_wp2_with fail
       go_meet;have h2:=xW wy 103 103 #[.slice a2 L.length e2,.int .i64 p2,.int .i64 e5,.int .i64 r2,.bool f2] #[.slice a1 L.length e1,.int .i64 p2,.int .i64 e5,.int .i64 r2,.bool f2];exact⟨wy.heap.size+1,wy.heap.size,rfl,rfl,h2.2.1,h2.1,h2.2.2.drew⟩
     case rest=>
     obtain⟨aM,eS,rfl,rfl,jA,vX,hbc⟩:=hcut;obtain⟨au,rfl⟩:∃bk:World,bk=wc:=⟨_,rfl⟩;have cD:=af (fM.out.trans (hbc.mono fM.out.size));have Dn:=af (IY.out.below hbc);have jx:=af (IZ.out.below hbc);have jX:=af jA;have nu:=af vX;have x0:au.cell? ⟨aM,0,none⟩=some (.slice a1 L.length e1):=jX.out.cell 0;have y0:au.cell? ⟨eS,0,none⟩=some (.slice a2 L.length e2):=nu.out.cell 0;have x1:au.cell? ⟨aM,1,none⟩=some (.int .i64 p2):=jX.out.cell 1;have y1:au.cell? ⟨eS,1,none⟩=some (.int .i64 p2):=nu.out.cell 1;have bl:au.cell? ⟨aM,2,none⟩=some (.int .i64 e5):=jX.out.cell 2;have dw:au.cell? ⟨eS,2,none⟩=some (.int .i64 e5):=nu.out.cell 2;have dK:au.cell? ⟨aM,3,none⟩=some (.int .i64 r2):=jX.out.cell 3;have mV:au.cell? ⟨eS,3,none⟩=some (.int .i64 r2):=nu.out.cell 3;have ew:au.cell? ⟨aM,4,none⟩=some (.bool f2):=jX.out.cell 4;have pP:au.cell? ⟨eS,4,none⟩=some (.bool f2):=nu.out.cell 4;clear jA vX hbc aq IY IZ;go_wp2_with fail
     clear x0 y0 x1 y1 bl dw dK mV ew pP;go_loopw [9] (fun i w'=>∃q:Nat,i= .int .i64 q∧q≤L.length∧Below au.heap.size au w') (fun i _=>L.length-(RowKit.intOf i).toNat)
     case atStart=>exact⟨0,rfl,Nat.zero_le _,Below.refl _ _⟩
     case round=>
      obtain⟨q,rfl,hq,bJ⟩:=hrel;obtain⟨g3,rfl⟩:∃bk:World,bk=wr:=⟨_,rfl⟩;have ke:=af bJ;have x0:g3.cell? ⟨aM,0,none⟩=some (.slice a1 L.length e1):=(jX.out.below bJ).cell 0;have y0:g3.cell? ⟨eS,0,none⟩=some (.slice a2 L.length e2):=(nu.out.below bJ).cell 0;clear bJ;have O5:=wH.out;by_cases uw:q<L.length
      ·have O4:(q:Int)<(L.length:Int):=by omega
       obtain⟨z,hz⟩:∃z,L[q]? =some z:=⟨_,List.getElem?_eq_getElem uw⟩;have Dy:=Dn.out.below ke.out;have Dz:=jx.out.below ke.out;obtain⟨az,lS,he,_,_⟩:=Dy.at_ q z hz;injection he with ej _ fu;subst ej;subst fu;obtain⟨Qa,afD,he,_,_⟩:=Dz.at_ q z hz;injection he with ej _ fu;subst ej;subst fu;obtain⟨l0,l1,l2,_⟩:=Mf Dy hz;obtain⟨l3,l4,fT,_⟩:=Mf Dz hz;clear hz Dy Dz;go_wp2_with fail
       go_quiet (fail)
       have bR:=ke.out.trans ((Below.bT g3 nq).mono ke.out.size);have iG:=af bR;clear bR l0 l1 l2 l3 l4 fT x0 y0;go_wp2_with fail
       go_roundw
       case rel=>exact⟨q+1,by go_num,uw,iG.out⟩
       case measure=>simp [RowKit.intOf];omega
      ·have wJ:q=L.length:=by omega
       have c7:=af (cD.out.trans (ke.out.mono cD.out.size));clear wJ;go_wp2_with fail
       go_roundw
       case rel=>exact⟨2,by go_num,.inr (.inr rfl),c7.out⟩
       case measure=>simp [RowKit.intOf]
    ·go_wp2_with fail
     go_roundw
     case rel=>exact⟨k+1,by go_num,hlt,fM.out⟩
     case measure=>simp [RowKit.intOf];omega
  ·have fP:k=V.length:=by omega
   have c7:=af (aE.out.trans (fH.out.mono aE.out.size));clear fP;go_wp2_with fail
   go_ret;exact⟨by trivial,c7.out⟩
end
end Go.Proofs.YtmaijkoopjocdaaGreat
