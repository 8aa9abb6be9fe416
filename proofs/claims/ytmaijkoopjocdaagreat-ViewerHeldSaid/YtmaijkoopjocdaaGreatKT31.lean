import Derived.Test.YtmaijkoopjocdaaGreatKT30
set_option maxRecDepth 100000
set_option maxHeartbeats 64000000
namespace Go.Proofs.YtmaijkoopjocdaaGreat
open Go.RowKit
def vq (side:Int) (x q:cK):cK:=if cV side q.ag x.ag=true then q else x
def pp (l:List cK) (side:Int):cK×Bool:=
 match l with
 | []=>(ul,false)
 |x::l'=>(l'.foldl (vq side) x,true)
def yw (l:List cK) (side:Int) (k:Nat):cK:=(l.take k).foldl (vq side) (l.headD ul)
theorem afl {l:List cK} {k:Nat} {q:cK} (side:Int) (h:l[k]? =some q):yw l side (k+1)=vq side (yw l side k) q:=by
 unfold yw;rw [List.take_add_one,h,List.foldl_append];rfl
theorem WZ (side x:Int):cV side x x=false:=by
 unfold cV;split<;>simp
theorem afm {l:List cK} (side:Int) (h:0<l.length):pp l side=(yw l side l.length,true):=by
 cases l with
 |nil=>simp at h
 |cons x l=>
  unfold pp yw;rw [List.take_length];show _=((l.foldl (vq side) (vq side x x)),true);have:vq side x x=x:=by unfold vq;rw [WZ,if_neg (by simp)]
  rw [this]
theorem aD.IP (w:World) (g:Nat) (v0 v1 v2 v3 v4 v5:Value):aD (fun k=>k=g) w ((((((w.setCell ⟨g,0,none⟩ v0).setCell ⟨g,1,none⟩ v1).setCell ⟨g,2,none⟩ v2).setCell ⟨g,3,none⟩ v3).setCell ⟨g,4,none⟩ v4).setCell ⟨g,5,none⟩ v5):=
 ((((((aD.refl (fun k=>k=g) w).setCell (p:=⟨g,0,none⟩) (fun _=>rfl) v0).setCell (p:=⟨g,1,none⟩) (fun _=>rfl) v1).setCell (p:=⟨g,2,none⟩) (fun _=>rfl) v2).setCell (p:=⟨g,3,none⟩) (fun _=>rfl) v3).setCell (p:=⟨g,4,none⟩) (fun _=>rfl) v4).setCell (p:=⟨g,5,none⟩) (fun _=>rfl) v5
theorem aj.IP {w:World} {g:Nat} {t:TypeId} {x0 x1 bl dK ew gV:Value} (h:aj w g t #[x0,x1,bl,dK,ew,gV]) (v0 v1 v2 v3 v4 v5:Value):aj ((((((w.setCell ⟨g,0,none⟩ v0).setCell ⟨g,1,none⟩ v1).setCell ⟨g,2,none⟩ v2).setCell ⟨g,3,none⟩ v3).setCell ⟨g,4,none⟩ v4).setCell ⟨g,5,none⟩ v5) g t #[v0,v1,v2,v3,v4,v5]:=by
 have h1:=(((((h.aQ 0 v0).aQ 1 v1).aQ 2 v2).aQ 3 v3).aQ 4 v4).aQ 5 v5;simp only [List.setIfInBounds_toArray,List.set_cons_zero,List.set_cons_succ]at h1;exact h1
def FG (w:World) (g:Nat) (q:cK):Prop:=w.cell? ⟨g,0,none⟩=some (.int .i64 q.ag)∧w.cell? ⟨g,1,none⟩=some (.int .i64 q.ah)∧w.cell? ⟨g,2,none⟩=some (.int .i64 q.i0)∧w.cell? ⟨g,3,none⟩=some (.int .i64 q.s0)∧w.cell? ⟨g,4,none⟩=some (.int .i64 q.i1)∧w.cell? ⟨g,5,none⟩=some (.int .i64 q.s1)
theorem FG.of {w:World} {g:Nat} {t:TypeId} {q:cK} (h:aj w g t q.cells.toArray):FG w g q:=⟨h.cell 0,h.cell 1,h.cell 2,h.cell 3,h.cell 4,h.cell 5⟩
structure FH (W w:World) (gr bX:Nat) (aa:Option Addr) (A:List cK) (r x:cK):Prop where
 aF:Below W.heap.size W w
 res:aj w gr 192 r.cells.toArray
 best:aj w bX 192 x.cells.toArray
 rd:jE.fF W aa A
 Ng:W.heap.size≤gr
 Ql:W.heap.size≤bX
 ne:gr≠bX
theorem FH.next {W w w':World} {gr bX:Nat} {aa:Option Addr} {A:List cK} {r x:cK} (h:FH W w gr bX aa A r x) (hb:Below w.heap.size w w'):FH W w' gr bX aa A r x:=
 ⟨h.aF.trans (hb.mono h.aF.size),h.res.below hb,h.best.below hb,h.rd,h.Ng,h.Ql,h.ne⟩
theorem W0 (A:List cK) (aa:Option Addr) (ac:Nat) (side:Int) (w:World) (hA:jE.fF w aa A) (hl:A.length≤1000000):
 Calls Tryz.prog 101 #[.slice aa A.length ac,.int .i64 side] w fun e w'=>e= .returned (.tuple #[.agg (pp A side).1.cells.toArray,.bool (pp A side).2])∧Below w.heap.size w w':=by
 have s1:∀(w:World) (o:Obj),(w.alloc o).heap.size=w.heap.size+1:=fun w o=>by simp
 have cG:=af hA;clear hA;cases A with
 |nil=>
  go_enter Tryz.func101,Tryz.ntmps101
  go_wp2_with fail
  refine bodyPost_ret (v:= .tuple #[.agg ul.cells.toArray,.bool false]) (by simp [results,Tryz.results101,go_sem,ul,cK.cells]) rfl ?_;exact⟨rfl,(Below.aA w _)⟩
 |cons x l=>
  have hx:(x::l)[0]? =some x:=rfl;have W3:=af fun(k:Nat) (q:cK) (h:(x::l)[k]? =some q)=>afl side h;have L4:=af (afm (l:=x::l) side (Nat.zero_lt_succ _));have H0:Hid (yw (x::l) side 0=x):=af rfl;rw [L4.out];clear L4;generalize W4:x::l=A at*;have h0:0<A.length:=by rw [←W4];exact Nat.zero_lt_succ _
  have e1:(A.length==0)=false:=by rw [beq_eq_false_iff_ne];omega
  have e2:((A.length:Int)==0)=false:=by rw [beq_eq_false_iff_ne];omega
  have h0':(0:Int)<(A.length:Int):=by omega
  clear W4;obtain⟨b,off,rfl,er,eX⟩:=cG.out 0 x hx;rw [Nat.zero_mul,Nat.add_zero]at eX;have q0:w.cell? ⟨b,off,none⟩=some (.int .i64 x.ag):=eX 0 _ rfl;have q1:w.cell? ⟨b,off+1,none⟩=some (.int .i64 x.ah):=eX 1 _ rfl;have e5:w.cell? ⟨b,off+2,none⟩=some (.int .i64 x.i0):=eX 2 _ rfl;have um:w.cell? ⟨b,off+3,none⟩=some (.int .i64 x.s0):=eX 3 _ rfl;have w8:w.cell? ⟨b,off+4,none⟩=some (.int .i64 x.i1):=eX 4 _ rfl;have w9:w.cell? ⟨b,off+5,none⟩=some (.int .i64 x.s1):=eX 5 _ rfl;have hbd:=Below.aA w (.cells ul.cells.toArray 192);have g0:=(hbd.cell (p:=⟨b,off,none⟩) er).trans q0;have g1:=(hbd.cell (p:=⟨b,off+1,none⟩) er).trans q1;have g2:=(hbd.cell (p:=⟨b,off+2,none⟩) er).trans e5;have aO:=(hbd.cell (p:=⟨b,off+3,none⟩) er).trans um;have gj:=(hbd.cell (p:=⟨b,off+4,none⟩) er).trans w8;have bg:=(hbd.cell (p:=⟨b,off+5,none⟩) er).trans w9;have hres:aj (w.alloc (.cells ul.cells.toArray 192)) w.heap.size 192 ul.cells.toArray:=aj.new _ _ _;have L5:=af hres;have lR:=af hbd;have jd:=af hx;clear eX q0 q1 e5 um w8 w9 hbd hres hx;simp only [ul,cK.cells]at g0 g1 g2 aO gj bg;go_enter Tryz.func101,Tryz.ntmps101
  go_upto_region 1 with(fail)
  simp only [ul,cK.cells]at L5 lR;generalize hw0:w.alloc (.cells #[.int .i64 0,.int .i64 0,.int .i64 0,.int .i64 0,.int .i64 0,.int .i64 0] 192)=w0 at*;clear hw0;go_upto_region 4 with(fail)
  clear g0 g1 g2 aO gj bg e1 e2;have qc:w.heap.size<w0.heap.size:=L5.out.lt
  have hB:FH w (w0.alloc (.cells #[.int .i64 x.ag,.int .i64 x.ah,.int .i64 x.i0,.int .i64 x.s0,.int .i64 x.i1,.int .i64 x.s1] 192)) w.heap.size w0.heap.size (some ⟨b,off,none⟩) A ul x:=
   ⟨lR.out.alloc lR.out.size _,L5.out.alloc _,aj.new _ _ _,cG.out,Nat.le_refl _,by omega,by omega⟩
  have aE:=af hB;clear hB L5 lR cG;generalize w0.alloc (.cells #[.int .i64 x.ag,.int .i64 x.ah,.int .i64 x.i0,.int .i64 x.s0,.int .i64 x.i1,.int .i64 x.s1] 192)=w1 at*;generalize w0.heap.size=bX at*;go_wp2_with fail
  have afn:Hid (yw A side 1=x):=af (by
   rw [W3.out 0 x jd.out,H0.out];unfold vq;rw [WZ,if_neg (by simp)])
  go_loopw [7] (fun j w'=>∃k:Nat,j= .int .i64 k∧1≤k∧k≤A.length∧FH w w' w.heap.size bX (some ⟨b,off,none⟩) A ul (yw A side k)) (fun j _=>A.length-(RowKit.intOf j).toNat)
  case atStart=>exact⟨1,rfl,Nat.le_refl _,h0,by rw [afn.out];exact aE.out⟩
  case round=>
   clear aE;obtain⟨k,rfl,cJ,hk,hB⟩:=hrel;obtain⟨ak,rfl⟩:∃bk:World,bk=wr:=⟨_,rfl⟩;by_cases hkn:k<A.length
   ·have Fi:(k:Int)<(A.length:Int):=by omega
    obtain⟨q,hq⟩:∃q,A[k]? =some q:=⟨_,List.getElem?_eq_getElem hkn⟩;have hto:=W3.out k q hq;generalize yw A side k=z at*;have aE:=af hB;have bK:=af hto;clear hB hto;obtain⟨b',off',he,Qm,yx⟩:=aE.out.rd k q hq;injection he with he;injection he with ej jK;subst ej;subst jK;have jM:Hid (∀wv,Below w.heap.size w wv→gL wv b (off+k*6) q.cells):=af fun wv hb=>yx.below hb Qm;have q0:ak.cell? ⟨b,off+k*6,none⟩=some (.int .i64 q.ag):=jM.out _ aE.out.aF 0 _ rfl;have c0:ak.cell? ⟨bX,0,none⟩=some (.int .i64 z.ag):=aE.out.best.cell 0;clear yx hq Qm;have sD:=af fun n=>(acn side q.ag z.ag (ak.drewN n)).mono fun e w' h=>(⟨h.1,h.2.symm⟩:e= .returned (.bool (cV side q.ag z.ag))∧w'=ak.drewN n);unfold vq at bK;go_upto_region 7 with(fail)
    cases kf:cV side q.ag z.ag with
    |false=>
     rw [kf]at sD bK;rw [if_neg (by simp)]at bK;clear kf;go_quiet ((go_at_call 72;exact Calls.quiet_of_same (sD.out _)))
     have aN:=af (aE.out.next (Below.bT ak nq));clear q0 c0 aE;go_wp2_with fail
     go_roundw
     case rel=>exact⟨k+1,by go_num,by omega,by omega,by rw [bK.out];exact aN.out⟩
     case measure=>simp [RowKit.intOf];omega
    |true=>
     rw [kf]at sD bK;rw [if_pos rfl]at bK;clear kf;go_quiet ((go_at_call 72;exact Calls.quiet_of_same (sD.out _)))
     have aN:=af (aE.out.next (Below.bT ak nq));clear q0 c0 aE;generalize ak.drewN nq=w3 at*;have q0:w3.cell? ⟨b,off+k*6,none⟩=some (.int .i64 q.ag):=jM.out _ aN.out.aF 0 _ rfl;have q1:w3.cell? ⟨b,off+k*6+1,none⟩=some (.int .i64 q.ah):=jM.out _ aN.out.aF 1 _ rfl;have e5:w3.cell? ⟨b,off+k*6+2,none⟩=some (.int .i64 q.i0):=jM.out _ aN.out.aF 2 _ rfl;have um:w3.cell? ⟨b,off+k*6+3,none⟩=some (.int .i64 q.s0):=jM.out _ aN.out.aF 3 _ rfl;have w8:w3.cell? ⟨b,off+k*6+4,none⟩=some (.int .i64 q.i1):=jM.out _ aN.out.aF 4 _ rfl;have w9:w3.cell? ⟨b,off+k*6+5,none⟩=some (.int .i64 q.s1):=jM.out _ aN.out.aF 5 _ rfl;obtain⟨c0,c1,c2,c3,dn,cj⟩:=FG.of aN.out.best;have fz:∀o,w3.frozen? ⟨bX,o,none⟩=false:=fun o=>aN.out.best.frozen o;go_wp2_with fail
     have bM:Hid (FH w ((((((w3.setCell ⟨bX,0,none⟩ (.int .i64 q.ag)).setCell ⟨bX,1,none⟩ (.int .i64 q.ah)).setCell ⟨bX,2,none⟩ (.int .i64 q.i0)).setCell ⟨bX,3,none⟩ (.int .i64 q.s0)).setCell ⟨bX,4,none⟩ (.int .i64 q.i1)).setCell ⟨bX,5,none⟩ (.int .i64 q.s1)) w.heap.size bX (some ⟨b,off,none⟩) A ul q):=af (by
      have hk:=aD.IP w3 bX (.int .i64 q.ag) (.int .i64 q.ah) (.int .i64 q.i0) (.int .i64 q.s0) (.int .i64 q.i1) (.int .i64 q.s1);exact⟨aN.out.aF.trans (hk.below (fun g hg=>by have hg':g=bX:=hg;have:=aN.out.Ql;omega) aN.out.aF.size),aN.out.res.keeps hk aN.out.ne,aN.out.best.IP _ _ _ _ _ _,aN.out.rd,aN.out.Ng,aN.out.Ql,aN.out.ne⟩)
     clear c0 c1 c2 c3 dn cj q0 q1 e5 um w8 w9 fz aN;go_roundw
     case rel=>exact⟨k+1,by go_num,by omega,by omega,by rw [bK.out];exact bM.out⟩
     case measure=>simp [RowKit.intOf];omega
   ·obtain rfl:k=A.length:=by omega
    obtain⟨z,hz⟩:∃z,yw A side A.length=z:=⟨_,rfl⟩;rw [hz]at hB;have dI:=af hz;clear hz;have aE:=af hB;clear hB;obtain⟨c0,c1,c2,c3,dn,cj⟩:=FG.of aE.out.best;obtain⟨d0,d1,d2,d3,d4,d5⟩:=FG.of aE.out.res;have fz:∀o,ak.frozen? ⟨w.heap.size,o,none⟩=false:=fun o=>aE.out.res.frozen o;go_wp2_with fail
    clear c0 c1 c2 c3 dn cj d0 d1 d2 d3 d4 d5 fz;have hk:=aD.IP ak w.heap.size (.int .i64 z.ag) (.int .i64 z.ah) (.int .i64 z.i0) (.int .i64 z.s0) (.int .i64 z.i1) (.int .i64 z.s1);have iX:=aE.out.aF.trans (hk.below (fun g hg=>by have hg':g=w.heap.size:=hg;omega) aE.out.aF.size);have gm:=aE.out.res.IP (.int .i64 z.ag) (.int .i64 z.ah) (.int .i64 z.i0) (.int .i64 z.s0) (.int .i64 z.i1) (.int .i64 z.s1);clear hk;generalize ((((((ak.setCell ⟨w.heap.size,0,none⟩ (.int .i64 z.ag)).setCell ⟨w.heap.size,1,none⟩ (.int .i64 z.ah)).setCell ⟨w.heap.size,2,none⟩ (.int .i64 z.i0)).setCell ⟨w.heap.size,3,none⟩ (.int .i64 z.s0)).setCell ⟨w.heap.size,4,none⟩ (.int .i64 z.i1)).setCell ⟨w.heap.size,5,none⟩ (.int .i64 z.s1))=wf at*;obtain⟨c0,c1,c2,c3,dn,cj⟩:=FG.of (q:=z) gm;clear gm;refine bodyPost_ret (v:= .tuple #[.agg #[.int .i64 z.ag,.int .i64 z.ah,.int .i64 z.i0,.int .i64 z.s0,.int .i64 z.i1,.int .i64 z.s1],.bool true]) (by simp [results,Tryz.results101,go_sem,c0,c1,c2,c3,dn,cj]) rfl ?_;exact⟨by rw [dI.out];rfl,iX⟩
def wM (l:List cK) (x:cK) (k:Nat):Int:=(l.take k).foldl (fun m q=>if q.ag=x.ag then(if m<q.ah then q.ah else m)else m) x.ah
def wN (l:List cK) (x:cK) (k:Nat):Nat:=((l.take k).filter (fun q=>q.ag==x.ag)).length
def m3 (l:List cK) (side:Int):Int×Int×Int×Bool:=
 if(pp l side).2=true then((pp l side).1.ag,wM l (pp l side).1 l.length,(wN l (pp l side).1 l.length:Int),true)else(0,0,0,false)
theorem afE {l:List cK} {k:Nat} {q:cK} (x:cK) (h:l[k]? =some q):wM l x (k+1)=if q.ag=x.ag then(if wM l x k<q.ah then q.ah else wM l x k)else wM l x k:=by
 unfold wM;rw [List.take_add_one,h,List.foldl_append];rfl
theorem afF {l:List cK} {k:Nat} {q:cK} (x:cK) (h:l[k]? =some q):wN l x (k+1)=wN l x k+(if q.ag=x.ag then 1 else 0):=by
 unfold wN;rw [List.take_add_one,h,List.filter_append,List.length_append]
 congr 1
 show(List.filter _ [q]).length=_;by_cases hq:q.ag=x.ag
 ·rw [if_pos hq,List.filter_cons_of_pos (by simpa using hq)];rfl
 ·rw [if_neg hq,List.filter_cons_of_neg (by simpa using hq)];rfl
theorem VO (l:List cK) (x:cK) (k:Nat):wN l x k≤l.length:=by
 unfold wN;have h1:=List.length_filter_le (fun q:cK=>q.ag==x.ag) (l.take k);have h2:(l.take k).length≤l.length:=by rw [List.length_take];omega
 omega
theorem V4 (A:List cK) (aa:Option Addr) (ac:Nat) (side:Int) (w:World) (hA:jE.fF w aa A) (hl:A.length≤1000000):
 Calls Tryz.prog 59 #[.slice aa A.length ac,.int .i64 side] w fun e w'=>e= .returned (.tuple #[.int .i64 (m3 A side).1,.int .i64 (m3 A side).2.1,.int .i64 (m3 A side).2.2.1,.bool (m3 A side).2.2.2])∧Below w.heap.size w w':=by
 have s1:∀(w:World) (o:Obj),(w.alloc o).heap.size=w.heap.size+1:=fun w o=>by simp
 have I1:=W0 A aa ac side w hA hl;have cG:=af hA;clear hA;obtain⟨x,ok,xa⟩:∃x ok,pp A side=(x,ok):=⟨_,_,rfl⟩;rw [xa]at I1;unfold m3;rw [xa];have ajm:=af xa;clear xa;cases ok with
 |false=>
  simp only [Bool.false_eq_true,if_false];go_enter Tryz.func59,Tryz.ntmps59
  go_wp2_with fail
  refine I1.mono ?_;rintro e w1 ⟨rfl,hb⟩;have aE:=af hb;clear hb I1;simp only [cK.cells];go_wp2_with fail
  refine bodyPost_ret (v:= .tuple #[.int .i64 0,.int .i64 0,.int .i64 0,.bool false]) (by simp [results,Tryz.results59,go_sem]) rfl ?_;exact⟨rfl,aE.out.trans ((Below.aA _ _).mono aE.out.size)⟩
 |true=>
  simp only [if_true];have s4:=af fun(k:Nat) (q:cK) (h:A[k]? =some q)=>afE x h;have rA:=af fun(k:Nat) (q:cK) (h:A[k]? =some q)=>afF x h;have sR:=af (VO A x);have Xn:Hid (wM A x 0=x.ah∧wN A x 0=0):=af ⟨rfl,rfl⟩;go_enter Tryz.func59,Tryz.ntmps59
  go_wp2_with fail
  refine I1.mono ?_;rintro e w1 ⟨rfl,hb⟩;have bD:=af hb;clear hb I1;simp only [cK.cells];go_upto_region 2 with(fail)
  have hX:aj (w1.alloc (.cells #[.int .i64 x.ag,.int .i64 x.ah,.int .i64 x.i0,.int .i64 x.s0,.int .i64 x.i1,.int .i64 x.s1] 192)) w1.heap.size 192 #[.int .i64 x.ag,.int .i64 x.ah,.int .i64 x.i0,.int .i64 x.s0,.int .i64 x.i1,.int .i64 x.s1]:=aj.new _ _ _;have Xo:Below w.heap.size w (w1.alloc (.cells #[.int .i64 x.ag,.int .i64 x.ah,.int .i64 x.i0,.int .i64 x.s0,.int .i64 x.i1,.int .i64 x.s1] 192)):=bD.out.alloc bD.out.size _;have bA:=af hX;have aT:=af Xo;clear hX Xo bD;generalize w1.alloc (.cells #[.int .i64 x.ag,.int .i64 x.ah,.int .i64 x.i0,.int .i64 x.s0,.int .i64 x.i1,.int .i64 x.s1] 192)=w2 at*;generalize w1.heap.size=aM at*;have c1:w2.cell? ⟨aM,1,none⟩=some (.int .i64 x.ah):=bA.out.cell 1;go_wp2_with fail
  clear c1;go_loopw [10,11,12] (fun m n j w'=>∃k:Nat,m= .int .i64 (wM A x k)∧n= .int .i64 (wN A x k)∧j= .int .i64 k∧k≤A.length∧Below w.heap.size w w'∧aj w' aM 192 #[.int .i64 x.ag,.int .i64 x.ah,.int .i64 x.i0,.int .i64 x.s0,.int .i64 x.i1,.int .i64 x.s1]) (fun _ _ j _=>A.length-(RowKit.intOf j).toNat)
  case atStart=>exact⟨0,by rw [Xn.out.1],by rw [Xn.out.2];rfl,rfl,Nat.zero_le _,aT.out,bA.out⟩
  case round=>
   clear bA aT;obtain⟨k,rfl,rfl,rfl,hk,hb,hx⟩:=hrel;obtain⟨ak,rfl⟩:∃bk:World,bk=wr:=⟨_,rfl⟩;have bA:=af hx;have aE:=af hb;clear hx hb;by_cases hkn:k<A.length
   ·have Fi:(k:Int)<(A.length:Int):=by omega
    obtain⟨q,hq⟩:∃q,A[k]? =some q:=⟨_,List.getElem?_eq_getElem hkn⟩;have hmo:=s4.out k q hq;have hma:=rA.out k q hq;have hml:=sR.out k;generalize wM A x k=q9 at*;generalize wN A x k=ma at*;have iT:=af hmo;have gH:=af hma;clear hmo hma;obtain⟨b,off,rfl,er,yx⟩:=cG.out k q hq;have jM:Hid (∀wv,Below w.heap.size w wv→gL wv b (off+k*6) q.cells):=af fun wv hb=>yx.below hb er;have q0:ak.cell? ⟨b,off+k*6,none⟩=some (.int .i64 q.ag):=jM.out _ aE.out 0 _ rfl;have c0:ak.cell? ⟨aM,0,none⟩=some (.int .i64 x.ag):=bA.out.cell 0;clear yx hq er;go_upto_region 8 with(fail)
    go_quiet (fail)
    have bJ:Below ak.heap.size ak (ak.drewN nq):=Below.bT ak nq;have aT:=af (aE.out.trans (bJ.mono aE.out.size));have vp:=af (bA.out.below bJ);clear bJ q0 c0 aE bA;generalize ak.drewN nq=w3 at*;by_cases hp:q.ag=x.ag
    ·rw [if_pos hp]at iT gH
     have hz:(q.ag==x.ag)=true:=by rw [beq_iff_eq];exact hp
     have y1:IntKind.i64.wrap ((ma:Int)+1)=(ma:Int)+1:=IntWalk.i64_in _ (by omega);have q1:w3.cell? ⟨b,off+k*6+1,none⟩=some (.int .i64 q.ah):=jM.out _ aT.out 1 _ rfl;clear hp;by_cases Xp:q9<q.ah
     ·rw [if_pos Xp]at iT
      go_wp2_with fail
      clear q1;go_roundw
      case rel=>exact⟨k+1,by rw [iT.out],by rw [gH.out];rfl,by go_num,by omega,aT.out,vp.out⟩
      case measure=>simp [RowKit.intOf];omega
     ·rw [if_neg Xp]at iT
      go_wp2_with fail
      clear q1;go_roundw
      case rel=>exact⟨k+1,by rw [iT.out],by rw [gH.out];rfl,by go_num,by omega,aT.out,vp.out⟩
      case measure=>simp [RowKit.intOf];omega
    ·rw [if_neg hp]at iT gH
     have hz:(q.ag==x.ag)=false:=by rw [beq_eq_false_iff_ne];exact hp
     clear hp;go_wp2_with fail
     go_roundw
     case rel=>exact⟨k+1,by rw [iT.out],by rw [gH.out];rfl,by go_num,by omega,aT.out,vp.out⟩
     case measure=>simp [RowKit.intOf];omega
   ·obtain rfl:k=A.length:=by omega
    have c0:ak.cell? ⟨aM,0,none⟩=some (.int .i64 x.ag):=bA.out.cell 0;go_wp2_with fail
    refine bodyPost_ret (v:= .tuple #[.int .i64 x.ag,.int .i64 (wM A x A.length),.int .i64 (wN A x A.length),.bool true]) (by simp [results,Tryz.results59,go_sem]) rfl ?_;exact⟨rfl,aE.out⟩
end Go.Proofs.YtmaijkoopjocdaaGreat
namespace Go.Proofs.YtmaijkoopjocdaaGreat
open Go.RowKit Go.Lib
def RG (L:List ay):cZ:=⟨(ja L 1).2,(ja L 2).2,(ja L 1).1.ag,(ja L 2).1.ag,(ja L 1).1.ah,(ja L 2).1.ah⟩
def dF (S:List (List ay)):List cZ:=S.map RG
def BA (L:List ay) (m:Nat):cZ:=⟨if 0<m then(ja L 1).2 else false,if 1<m then(ja L 2).2 else false,if 0<m then(ja L 1).1.ag else 0,if 1<m then(ja L 2).1.ag else 0,if 0<m then(ja L 1).1.ah else 0,if 1<m then(ja L 2).1.ah else 0⟩
theorem agS (L:List ay):BA L 2=RG L:=rfl
section
variable {W w w':World} {ps pb:Nat} {p:Prod} {Q:List Nat} {S:List (List ay)} {L L':List ay}
theorem agT {k:Nat} (h:S[k]? =some L):dF (S.take (k+1))=dF (S.take k)++ [RG L]:=by
 unfold dF;rw [lp h,List.map_append];rfl
theorem Px (h:ek W w ps p Q S) (hl:S.length≤100) (hL:∀L∈S,L.length≤250∧∀o∈L,1≤o.ah∧o.ah≤1000000):
 Calls Tryz.prog 58 #[.pointer (some ⟨ps,0,none⟩)] w fun e w'=>∃v,e= .returned v∧pV.Row w' w.heap.size v (dF S)∧Below w.heap.size w w':=by
 have H:=af h;have js:=af hL;obtain⟨n,hn⟩:∃n,Q.length=n:=⟨_,rfl⟩;have p5:S.length=n:=by rw [←h.len];exact hn
 have nU:=af p5;have o5:=af hn;rw [p5]at hl;clear h hL p5 hn;go_enter Tryz.func58,Tryz.ntmps58
 go_wp2_with fail
 go_loopw [4,3] (fun i v w'=>∃k:Nat,i= .int .i64 k∧k≤n∧pV.Row w' w.heap.size v (dF (S.take k))∧Below w.heap.size w w') (fun i _ _=>n-(RowKit.intOf i).toNat)
 case atStart=>exact⟨0,rfl,Nat.zero_le _,by rw [List.take_zero];exact aY.Row.nil _ _,Below.refl _ _⟩
 case round=>
  obtain⟨k,rfl,hk,hr,hb⟩:=hrel;obtain⟨ak,rfl⟩:∃bk:World,bk=wr:=⟨_,rfl⟩;have cM:=af hr;have aE:=af hb;obtain⟨a,c,aP,hrow⟩:=(H.out.below hb).box;rw [o5.out]at aP hrow;have dg:ak.cell? ⟨ps,11,none⟩=some (.slice a n c):=aP.cell 11;clear hr hb aP hrow;by_cases hlt:k<n
  ·have hlt':(k:Int)<(n:Int):=by omega
   go_upto_region 6 with(fail)
   obtain⟨pb,L,hq,hs,hrb⟩:=(H.out.below aE.out).get (by rw [nU.out];exact hlt);have Df:=js.out L (List.mem_of_getElem? hs);have q5:=af (agT hs);obtain⟨g,c1,hb1,mv,q0⟩:=(H.out.below aE.out).ptr hq;have Yz:=af hrb;have gM:=af hq;have YA:Hid (aj (ak.alloc (.cells #[.bool false,.bool false,.int .i64 0,.int .i64 0,.int .i64 0,.int .i64 0] 185)) ak.heap.size 185 (BA L 0).cells.toArray):=af (aj.new _ _ _);have bD:Hid (Below ak.heap.size ak (ak.alloc (.cells #[.bool false,.bool false,.int .i64 0,.int .i64 0,.int .i64 0,.int .i64 0] 185))):=af (Below.aA ak _);obtain⟨gt,hgt⟩:∃x,ak.heap.size=x:=⟨_,rfl⟩;have sX:=af hgt;rw [o5.out]at hb1;have Mw:ak.cell? ⟨ps,11,none⟩=some (.slice (some ⟨g,0,none⟩) n c1):=hb1.cell 11;have he:a=some ⟨g,0,none⟩∧c=c1:=by rw [dg]at Mw;injection Mw with e;injection e with e1 _ bE;exact⟨e1,bE⟩
   obtain⟨rfl,rfl⟩:=he;rw [hgt]at YA⊢;clear hgt hq hs hrb mv Mw dg q0 hb1;generalize ak.alloc (.cells _ 185)=w1 at*;go_wp2_with fail
   go_loopw [6] (fun s w'=>∃m:Nat,s= .int .i64 ((m:Int)+1)∧m≤2∧aj w' gt 185 (BA L m).cells.toArray∧Below ak.heap.size ak w') (fun s _=>4-(RowKit.intOf s).toNat)
   case atStart=>exact⟨0,rfl,by omega,YA.out,bD.out⟩
   case round=>
    obtain⟨m,rfl,hm,kf,dA⟩:=hrel;obtain⟨wy,rfl⟩:∃bk:World,bk=wr:=⟨_,rfl⟩;have sD:=af kf;have eu:=af dA;have H2:=af ((H.out.below aE.out).below dA);have Rj:=af (Yz.out.below dA);obtain⟨g2,c2,hb2,_,q0⟩:=H2.out.ptr gM.out;rw [o5.out]at hb2;have dg:wy.cell? ⟨ps,11,none⟩=some (.slice (some ⟨g2,0,none⟩) n c2):=hb2.cell 11;clear kf dA hb2;have iB:m=0∨m=1∨m=2:=by omega
    rcases iB with rfl|rfl|rfl
    ·have aU:=af (P6 Rj.out Df.1 Df.2 1)
     obtain⟨bo,zQ⟩:∃x,ja L 1=x:=⟨_,rfl⟩;obtain⟨⟨eO,fC,lc⟩,lb⟩:=bo;go_wp2_with fail
     refine aU.out.mono ?_;rintro e w2 ⟨he,hb2⟩;rw [zQ]at he;simp only [ax.cells,List.toArray]at he;subst he;have hba:=Below.aA w2 (.cells #[.int .i64 eO,.int .i64 fC,.int .i64 lc] 101);have vZ:Hid (aj (w2.alloc (.cells #[.int .i64 eO,.int .i64 fC,.int .i64 lc] 101)) w2.heap.size 101 #[.int .i64 eO,.int .i64 fC,.int .i64 lc]):=af (aj.new _ _ _);have qw:=af ((sD.out.below hb2).below hba);have aN:=af ((eu.out.trans (hb2.mono eu.out.size)).trans (hba.mono (eu.out.trans (hb2.mono eu.out.size)).size));have kV:Hid (gt<w2.heap.size):=af (Nat.lt_of_lt_of_le sD.out.lt hb2.size);clear hb2 hba aU;go_upto_region 10 with(fail)
     obtain⟨aG,eZ⟩:∃x,w2.heap.size=x:=⟨_,rfl⟩;rw [eZ]at vZ kV⊢;clear eZ;have n1:aG≠gt:=by have:=kV.out;omega
     have n2:gt≠aG:=by have:=kV.out;omega
     generalize w2.alloc (.cells _ 101)=w3 at*;have v0:w3.cell? ⟨aG,0,none⟩=some (.int .i64 eO):=vZ.out.cell 0;have v1:w3.cell? ⟨aG,1,none⟩=some (.int .i64 fC):=vZ.out.cell 1;have t0:w3.cell? ⟨gt,0,none⟩=some (.bool false):=qw.out.cell 0;have t2:w3.cell? ⟨gt,2,none⟩=some (.int .i64 0):=qw.out.cell 2;have t4:w3.cell? ⟨gt,4,none⟩=some (.int .i64 0):=qw.out.cell 4;have fz:∀o,w3.frozen? ⟨gt,o,none⟩=false:=fun o=>qw.out.frozen o;go_wp2_with fail
     go_roundw
     case rel=>
      have hb3:=((qw.out.aQ 0 (.bool lb)).aQ 2 (.int .i64 eO)).aQ 4 (.int .i64 fC);have jw:BA L 1=⟨lb,false,eO,0,fC,0⟩:=by unfold BA;rw [zQ];rfl
      refine⟨1,rfl,by omega,by rw [jw];exact hb3,?_⟩;exact aN.out.trans (((((aD.refl (fun k=>k=gt) w3).setCell (p:=⟨gt,0,none⟩) (fun _=>rfl) _).setCell (p:=⟨gt,2,none⟩) (fun _=>rfl) _).setCell (p:=⟨gt,4,none⟩) (fun _=>rfl) _).below (B:=ak.heap.size) (fun k hk=>by have e:k=gt:=hk;rw [e];exact Nat.le_of_eq sX.out) aN.out.size)
     case measure=>simp [RowKit.intOf]
    ·have aU:=af (P6 Rj.out Df.1 Df.2 2)
     obtain⟨bo,zQ⟩:∃x,ja L 2=x:=⟨_,rfl⟩;obtain⟨⟨eO,fC,lc⟩,lb⟩:=bo;go_wp2_with fail
     refine aU.out.mono ?_;rintro e w2 ⟨he,hb2⟩;rw [zQ]at he;simp only [ax.cells,List.toArray]at he;subst he;have hba:=Below.aA w2 (.cells #[.int .i64 eO,.int .i64 fC,.int .i64 lc] 101);have vZ:Hid (aj (w2.alloc (.cells #[.int .i64 eO,.int .i64 fC,.int .i64 lc] 101)) w2.heap.size 101 #[.int .i64 eO,.int .i64 fC,.int .i64 lc]):=af (aj.new _ _ _);have qw:=af ((sD.out.below hb2).below hba);have aN:=af ((eu.out.trans (hb2.mono eu.out.size)).trans (hba.mono (eu.out.trans (hb2.mono eu.out.size)).size));have kV:Hid (gt<w2.heap.size):=af (Nat.lt_of_lt_of_le sD.out.lt hb2.size);clear hb2 hba aU;go_upto_region 10 with(fail)
     obtain⟨aG,eZ⟩:∃x,w2.heap.size=x:=⟨_,rfl⟩;rw [eZ]at vZ kV⊢;clear eZ;have n1:aG≠gt:=by have:=kV.out;omega
     have n2:gt≠aG:=by have:=kV.out;omega
     generalize w2.alloc (.cells _ 101)=w3 at*;have v0:w3.cell? ⟨aG,0,none⟩=some (.int .i64 eO):=vZ.out.cell 0;have v1:w3.cell? ⟨aG,1,none⟩=some (.int .i64 fC):=vZ.out.cell 1;have t0:w3.cell? ⟨gt,1,none⟩=some (.bool false):=qw.out.cell 1;have t2:w3.cell? ⟨gt,3,none⟩=some (.int .i64 0):=qw.out.cell 3;have t4:w3.cell? ⟨gt,5,none⟩=some (.int .i64 0):=qw.out.cell 5;have fz:∀o,w3.frozen? ⟨gt,o,none⟩=false:=fun o=>qw.out.frozen o;go_wp2_with fail
     go_roundw
     case rel=>
      have hb3:=((qw.out.aQ 1 (.bool lb)).aQ 3 (.int .i64 eO)).aQ 5 (.int .i64 fC);have jw:BA L 2=⟨(ja L 1).2,lb,(ja L 1).1.ag,eO,(ja L 1).1.ah,fC⟩:=by unfold BA;rw [zQ];rfl
      refine⟨2,rfl,by omega,by rw [jw];exact hb3,?_⟩;exact aN.out.trans (((((aD.refl (fun k=>k=gt) w3).setCell (p:=⟨gt,1,none⟩) (fun _=>rfl) _).setCell (p:=⟨gt,3,none⟩) (fun _=>rfl) _).setCell (p:=⟨gt,5,none⟩) (fun _=>rfl) _).below (B:=ak.heap.size) (fun k hk=>by have e:k=gt:=hk;rw [e];exact Nat.le_of_eq sX.out) aN.out.size)
     case measure=>simp [RowKit.intOf]
    ·obtain⟨x0,x1,bl,dK,ew,gV,hT⟩:∃x0 x1 bl dK ew gV,BA L 2=⟨x0,x1,bl,dK,ew,gV⟩:=⟨_,_,_,_,_,_,rfl⟩
     have BB:=sD.out;rw [hT]at BB;have t0:wy.cell? ⟨gt,0,none⟩=some (.bool x0):=BB.cell 0;have t1:wy.cell? ⟨gt,1,none⟩=some (.bool x1):=BB.cell 1;have t2:wy.cell? ⟨gt,2,none⟩=some (.int .i64 bl):=BB.cell 2;have t3:wy.cell? ⟨gt,3,none⟩=some (.int .i64 dK):=BB.cell 3;have t4:wy.cell? ⟨gt,4,none⟩=some (.int .i64 ew):=BB.cell 4;have t5:wy.cell? ⟨gt,5,none⟩=some (.int .i64 gV):=BB.cell 5;have s5:Hid (dF (S.take (k+1))=dF (S.take k)++ [⟨x0,x1,bl,dK,ew,gV⟩]):=af (by rw [q5.out,←agS,hT]);have iI:Hid ((dF (S.take k)).length≤100):=af (by unfold dF;rw [List.length_map,List.length_take];have:=nU.out;omega);have hba:=Below.aA wy (.cells #[.bool x0,.bool x1,.int .i64 bl,.int .i64 dK,.int .i64 ew,.int .i64 gV] 185);have hbz:Below w.heap.size w wy:=aE.out.trans (eu.out.mono aE.out.size);have iH:=af ((cM.out.below eu.out).below hba);have cC:=af (hbz.trans (hba.mono hbz.size));have dN:Hid (aj (wy.alloc (.cells #[.bool x0,.bool x1,.int .i64 bl,.int .i64 dK,.int .i64 ew,.int .i64 gV] 185)) wy.heap.size 185 (⟨x0,x1,bl,dK,ew,gV⟩:cZ).cells.toArray):=af (aj.new _ _ _);clear hT BB q5 hba hbz Df Rj Yz H2 q0 sD gM;generalize dF (S.take k)=M at*;obtain⟨a1,c1,hv⟩:=cM.out.form;subst hv
     go_wp2_with (first
      |(at_builtin;go_loud (refine pV.push rfl (.tmp 51) (.tmp 53) rfl w.heap.size _ M rfl iH.out wy.heap.size ⟨x0,x1,bl,dK,ew,gV⟩ rfl dN.out.lt dN.out.fU (by have:=iI.out;omega) cC.out.size ?_)))
     intro v' aK bO cB ez;have cH:=af bO;have fw:=af (gF cB cC.out (cx iH.out));clear bO cB ez;go_wp2_with fail
     go_roundw
     case rel=>exact⟨k+1,by go_num,hlt,by rw [s5.out];exact cH.out,fw.out⟩
     case measure=>simp [RowKit.intOf];omega
  ·have hkn:k=n:=by omega
   have bH:Hid (dF (S.take k)=dF S):=af (by rw [hkn,←nU.out,List.take_length]);clear hkn;go_wp2_with fail
   go_ret;exact⟨_,rfl,by rw [←bH.out];exact cM.out,aE.out⟩
end
structure oA where
 id:Int
 inst:Int
 side:Int
 ag:Int
 ah:Int
 left:Int
def oA.cells (x:oA):List Value:= [.int .i64 x.id,.int .i64 x.inst,.int .i64 x.side,.int .i64 x.ag,.int .i64 x.ah,.int .i64 x.left]
def adJ:oA:=⟨0,0,0,0,0,0⟩
theorem oA.jL (x:oA):∀u∈x.cells,u.oneCell'=true:=by
 intro u hu;simp only [oA.cells,List.mem_cons,List.not_mem_nil,or_false]at hu;rcases hu with rfl|rfl|rfl|rfl|rfl|rfl<;>rfl
def pg:aY oA:=⟨oA.cells,6,fun _=>rfl,oA.jL,by omega,208,204,.agg adJ.cells.toArray,48,Tryz.underlying204,by kernel_rfl,by rfl,by omega⟩
def ox (L:List ay) (z:List (ay×Int)):List ay:=z.foldl (fun L x=>if 0<x.2 then(oz L x.1.id x.2).1 else L) L
def E7 (inst side ag:Int) (x:ay×Int):List oA:=if 0<x.2 then [⟨x.1.id,inst,side,ag,x.2,IntKind.i64.wrap (x.1.ah-x.2)⟩]else []
def tZ (inst side ag:Int) (z:List (ay×Int)):List oA:=z.flatMap (E7 inst side ag)
def qW (p:Prod) (L:List ay) (side ag q:Int):List (ay×Int):=(wB L side ag).zip (zh p (wB L side ag) q)
def nA (p:Prod) (S:List (List ay)) (inst:Nat) (side ag q:Int):List (List ay)×List oA:=
 (S.set inst (ox (S.getD inst []) (qW p (S.getD inst []) side ag q)),tZ inst side ag (qW p (S.getD inst []) side ag q))
theorem ab7 (L:List ay) (z:List (ay×Int)) (x:ay×Int):ox L (z++ [x])=if 0<x.2 then(oz (ox L z) x.1.id x.2).1 else ox L z:=by
 unfold ox;rw [List.foldl_append];rfl
theorem ab8 (i s p:Int) (z:List (ay×Int)) (x:ay×Int):tZ i s p (z++ [x])=tZ i s p z++E7 i s p x:=by
 unfold tZ;rw [List.flatMap_append];simp
theorem jm.ox {L:List ay} (h:jm L) (z:List (ay×Int)):jm (ox L z):=by
 unfold Go.Proofs.YtmaijkoopjocdaaGreat.ox
 induction z generalizing L with
 |nil=>exact h
 |cons x t ih=>
  rw [List.foldl_cons];refine ih ?_;split
  ·exact h.fill _ _
  ·exact h
theorem K7 (i s p:Int) (z:List (ay×Int)):(tZ i s p z).length≤z.length:=by
 unfold tZ
 induction z with
 |nil=>exact Nat.le_refl _
 |cons x t ih=>
  rw [List.flatMap_cons,List.length_append,List.length_cons];have:(E7 i s p x).length≤1:=by unfold E7;split<;>simp
  omega
theorem K2 {L:List ay} (h:jm L) (side ag:Int):(wB L side ag).length≤250∧∀o∈wB L side ag,1≤o.ah∧o.ah≤1000000:=
 ⟨Nat.le_trans (List.length_filter_le ..) h.len,fun o ho=>h.ah o (List.mem_filter.1 ho).1⟩
theorem K4 {p:Prod} {L:List ay} (side ag q:Int):(qW p L side ag q).length=(zh p (wB L side ag) q).length:=by
 unfold qW;rw [List.length_zip];exact Nat.min_eq_right (HI p _ q)
end Go.Proofs.YtmaijkoopjocdaaGreat
