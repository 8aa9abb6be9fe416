import Derived.Test.YtmaijkoopjocdaaGreatKT47
set_option maxRecDepth 100000
set_option maxHeartbeats 64000000
namespace Go.Proofs.YtmaijkoopjocdaaGreat
open Go.RowKit Go.Lib
structure vU (w wr:World) (ga bX:Nat) (a b:Option Addr) (c d n:Nat) (q:Int) (M:List aB) (v:Value):Prop where
 ba:aj wr ga 54 #[.slice a n c]
 bb:aj wr bX 54 #[.slice b n d]
 row:gb.Row wr w.heap.size v (jy q M)
 aF:Below w.heap.size w wr
def jV (i:Int) (x y:aV×aV) (j:Nat):List aB:=if j=0 then []else if j=1 then uT i 1 x.1 y.1 else uU i x y
theorem abi {A B:bP} {k:Nat} {x y:aV×aV} (hx:A[k]? =some x) (hy:B[k]? =some y):fI A B (k+1)=fI A B k++uU (k:Int) x y:=by
 unfold fI;rw [List.range_succ,List.flatMap_append];simp [hx,hy]
theorem abj {side:Int} {x y:List ax} {k:Nat} {b:ax} (h:y[k]? =some b):qR side x (y.take (k+1))=qQ side (qR side x (y.take k)) b:=by
 unfold qR;rw [lp h,List.foldl_append];rfl
theorem abk {i side:Int} {x y l:List ax} {k:Nat} {b:ax} (h:l[k]? =some b):(l.take (k+1)).flatMap (ji i side x y)=(l.take k).flatMap (ji i side x y)++ji i side x y b:=by
 rw [lp h,List.flatMap_append];simp
theorem Te {side:Int} {l:List ax} {k:Nat} {z b:ax} (hz:l[k]? =some z) (h:xU side l b=k+((l.drop k).takeWhile (fun a=>cV side a.ag b.ag)).length):
 (cV side z.ag b.ag=true→xU side l b=(k+1)+((l.drop (k+1)).takeWhile (fun a=>cV side a.ag b.ag)).length)∧(cV side z.ag b.ag=false→xU side l b=k):=by
 obtain⟨h1,h2⟩:=List.getElem?_eq_some_iff.1 hz;rw [h,List.drop_eq_getElem_cons h1,h2,List.takeWhile_cons];refine⟨fun hb=>?_,fun hb=>?_⟩
 ·rw [hb]
  simp only [if_true,List.length_cons];omega
 ·rw [hb];simp
theorem NC {w:World} {ops:Array Oper} {o:Oper} {a:Act} {K:Act→World→Prop} {Q:Exit→Act→World→Prop} {E:Prop} {f0 f1 f2:Int} (hgd:o.guard=none) (t:Nat)
 (ho:o.op= .buildSlice 100 1 #[(0,.tmp t)]) (hx:a.tmps[t]?.getD undef= .agg #[.int .i64 f0,.int .i64 f1,.int .i64 f2])
 (h:K (a.put o.dst (.slice (some ⟨w.heap.size,0,none⟩) 1 1)) (w.alloc (.cells #[.int .i64 f0,.int .i64 f1,.int .i64 f2] 101))):
 if Region.wanted o (yielded ops a.tmps)=true then Oper.wp Tryz.prog o a w K Q else E:=by
 have hw:Region.wanted o (yielded ops a.tmps)=true:=by simp [Region.wanted,hgd]
 rw [if_pos hw];unfold Oper.wp execOp;simp only [ho];go_simp;exact h
structure vV (w wr:World) (ga bX aM eS qo qp En:Nat) (a b:Option Addr) (c d n:Nat) (q:Int) (M:List aB) (v:Value) (Ca Eo:Array Value) (vx vy vl:Value) (Ep Er Es:List ax):Prop where
 d:vU w wr ga bX a b c d n q M v
 cY:aj wr aM 103 Ca
 vT:aj wr eS 103 Eo
 rx:bC.Row wr qo vx Ep
 ND:bC.Row wr qp vy Er
 rl:bC.Row wr En vl Es
theorem abl (i:Int) {x y:aV×aV} (hx:x.1.lv.length≤250∧x.2.lv.length≤250) (hy:y.1.lv.length≤250∧y.2.lv.length≤250) (j:Nat):(jV i x y j).length≤1002:=by
 have h1:=Kn i 1 x.1 y.1;have h2:=Kn i 2 x.2 y.2;unfold jV uU;split
 ·simp
 ·split
  ·omega
  ·rw [List.length_append];omega
theorem Tf (i side:Int) (x y:List ax):∀K:List ax,(K.flatMap (ji i side x y)).length≤K.length
 | []=>by simp
 |a::K=>by
  have:=Tf i side x y K;rw [List.flatMap_cons,List.length_append,List.length_cons];have h:(ji i side x y a).length≤1:=by unfold ji;split<;>simp
  omega
theorem aka {P:Program} {ops:Array Oper} {Q:Exit→Act→World→Prop} {md:Region.Mode} {S:World→Prop} {f:Nat} {L L':Array Bool} {a:Act} {w:World} (H:iL P md ops Q S f L' a w) (h:L=L':=by kernel_rfl):iL P md ops Q S f L a w:=h▸H
theorem akd {G C:World→Nat→Nat→Prop} {p:Prop} (leaf:∀W a b,C W a b→G W a b) (main:(∀W a b,C W a b→G W a b)→p):p:=main leaf
theorem akY {G C:World→Nat→Nat→Nat→Nat→Prop} {p:Prop} (leaf:∀W a b c d,C W a b c d→G W a b c d) (main:(∀W a b c d,C W a b c d→G W a b c d)→p):p:=main leaf
theorem abm {P:Program} {ops:Array Oper} {Q:Exit→Act→World→Prop} {md:Region.Mode} {S:World→Prop} {i j k:Nat} {oi oj ok:Oper} {f:Nat} {L:Array Bool} {a:Act} {w:World} (vW:ops[i]? =some oi) (uX:ops[j]? =some oj) (hok:ops[k]? =some ok) (hr:Region.ready md ops L= [i,j,k])
 (h1:∀K':Act→World→Prop,Shut (∀a w,S w→(S w→iL P md ops Q S f (L.setIfInBounds i true) a w)→K' a w)→if Region.wanted oi (yielded ops a.tmps)=true then Oper.wp P oi a w K' Q else K' (a.put oi.dst undef) w)
 (h2:∀K':Act→World→Prop,Shut (∀a w,S w→(S w→iL P md ops Q S f (L.setIfInBounds j true) a w)→K' a w)→if Region.wanted oj (yielded ops a.tmps)=true then Oper.wp P oj a w K' Q else K' (a.put oj.dst undef) w)
 (h3:∀K':Act→World→Prop,Shut (∀a w,S w→(S w→iL P md ops Q S f (L.setIfInBounds k true) a w)→K' a w)→if Region.wanted ok (yielded ops a.tmps)=true then Oper.wp P ok a w K' Q else K' (a.put ok.dst undef) w):iL P md ops Q S (f+1) L a w:=by
 refine⟨fun h0=>(by rw [hr]at h0;cases h0),fun l hl=>?_⟩;rw [hr]at hl;have Am:l=i∨l=j∨l=k:=by simpa using hl
 rcases Am with rfl|rfl|rfl
 ·exact wpOp_step vW fun K' hK=>h1 K' fun b u hS hW=>hK b u ⟨fun _=>hS,hW hS⟩
 ·exact wpOp_step uX fun K' hK=>h2 K' fun b u hS hW=>hK b u ⟨fun _=>hS,hW hS⟩
 ·exact wpOp_step hok fun K' hK=>h3 K' fun b u hS hW=>hK b u ⟨fun _=>hS,hW hS⟩
theorem Tg {P:Program} {ops:Array Oper} {Q:Exit→Act→World→Prop} {md:Region.Mode} {S:World→Prop} (i j k:Nat) {oi oj ok:Oper} {f n:Nat} {L:Array Bool} {a:Act} {w:World} (h1:∀K':Act→World→Prop,Shut (∀a w,S w→(S w→iL P md ops Q S f (L.setIfInBounds i true) a w)→K' a w)→if Region.wanted oi (yielded ops a.tmps)=true then Oper.wp P oi a w K' Q else K' (a.put oi.dst undef) w) (h2:∀K':Act→World→Prop,Shut (∀a w,S w→(S w→iL P md ops Q S f (L.setIfInBounds j true) a w)→K' a w)→if Region.wanted oj (yielded ops a.tmps)=true then Oper.wp P oj a w K' Q else K' (a.put oj.dst undef) w) (h3:∀K':Act→World→Prop,Shut (∀a w,S w→(S w→iL P md ops Q S f (L.setIfInBounds k true) a w)→K' a w)→if Region.wanted ok (yielded ops a.tmps)=true then Oper.wp P ok a w K' Q else K' (a.put ok.dst undef) w) (hn:n=f+1:=by rfl) (vW:ops[i]? =some oi:=by simp only [List.getElem?_toArray];rfl) (uX:ops[j]? =some oj:=by simp only [List.getElem?_toArray];rfl) (hok:ops[k]? =some ok:=by simp only [List.getElem?_toArray];rfl) (hr:Region.ready md ops L= [i,j,k]:=by kernel_rfl):iL P md ops Q S n L a w:=by
 subst hn;exact abm vW uX hok hr h1 h2 h3
section
variable {w wr wr':World} {ga bX:Nat} {a b:Option Addr} {c d n:Nat} {q:Int} {M:List aB} {v v':Value}
theorem vU.below (h:vU w wr ga bX a b c d n q M v) (hb:Below wr.heap.size wr wr'):vU w wr' ga bX a b c d n q M v:=
 ⟨h.ba.below hb,h.bb.below hb,h.row.below hb,h.aF.trans (hb.mono h.aF.size)⟩
theorem vU.push {wb au:World} {m:aB} (h:vU w wr ga bX a b c d n q M v) (hb:Below wr.heap.size wr wb) (hr:gb.Row au w.heap.size v' (jy q M++ [{m with seq:=q+M.length+1}])) (hg:wb.grownBy au v.ownBlock):
 vU w au ga bX a b c d n q (M++ [m]) v'∧aD (fun g=>bV wr g gb.t) wr au:=by
 have hk:=fe hg;have h1:=h.below hb;have bI:∀g,v.ownBlock=some g→bV wb g gb.t:=fun g hg=>dR h1.row g hg;refine⟨⟨h1.ba.keeps hk (fun e=>(bI _ e).ne h1.ba.aC (by decide) rfl),h1.bb.keeps hk (fun e=>(bI _ e).ne h1.bb.aC (by decide) rfl),by rw [aaW];exact hr,h1.aF.trans (hk.below (cx h1.row) h1.aF.size)⟩,?_⟩;refine(Below.keeps hb).step hk fun g hg e=>dR h.row g e
section
variable {aM eS qo qp En:Nat} {Ca Eo:Array Value} {vx vy vl:Value} {Ep Er Es:List ax}
theorem vV.below (h:vV w wr ga bX aM eS qo qp En a b c d n q M v Ca Eo vx vy vl Ep Er Es) (hb:Below wr.heap.size wr wr'):vV w wr' ga bX aM eS qo qp En a b c d n q M v Ca Eo vx vy vl Ep Er Es:=
 ⟨h.d.below hb,h.cY.below hb,h.vT.below hb,h.rx.below hb,h.ND.below hb,h.rl.below hb⟩
theorem vV.push {wb au:World} {m:aB} (h:vV w wr ga bX aM eS qo qp En a b c d n q M v Ca Eo vx vy vl Ep Er Es) (hb:Below wr.heap.size wr wb) (hr:gb.Row au w.heap.size v' (jy q M++ [{m with seq:=q+M.length+1}])) (hg:wb.grownBy au v.ownBlock):
 vV w au ga bX aM eS qo qp En a b c d n q (M++ [m]) v' Ca Eo vx vy vl Ep Er Es:=by
 obtain⟨h1,hk⟩:=h.d.push hb hr hg;exact⟨h1,h.cY.keeps hk (fun e=>h.cY.aC.ne e (by decide) rfl),h.vT.keeps hk (fun e=>h.vT.aC.ne e (by decide) rfl),h.rx.keep hk (fun g hg e=>hg.ne e (by decide) rfl),h.ND.keep hk (fun g hg e=>hg.ne e (by decide) rfl),h.rl.keep hk (fun g hg e=>hg.ne e (by decide) rfl)⟩
end
theorem abn {qo qp:Nat} {A V:bP} (ha:cl eF bC w qo (.slice a A.length c) A) (hb:cl eF bC w qp (.slice b V.length d) V) (hl:A.length=V.length) (hn:A.length≤40) (kA:g7 A 250) (uY:g7 V 250) (mG:0≤q) (hq1:q≤1000000000):
 Calls Tryz.prog 31 #[.agg #[.slice a A.length c],.agg #[.slice b V.length d],.int .i64 q] w fun e w'=>∃v,e= .returned v∧gb.Row w' w.heap.size v (pN A V q)∧Below w.heap.size w w':=by
 have hdf:pN A V q=jy q (fI A V A.length):=if_neg (by rw [hl];simp);have iI:Hid (∀k,k≤A.length→(fI A V k).length≤k*(4*250+2)):=af fun k hk=>NB kA uY hl k hk;rw [hdf];obtain⟨n,lO⟩:∃n,A.length=n:=⟨_,rfl⟩;have rD:V.length=n:=by rw [←hl];exact lO
 have xV:=af lO;have en:=af rD;rw [lO]at ha hn⊢;rw [rD]at hb⊢;have hn2:=xW w 54 54 #[.slice a n c] #[.slice b n d];have GF:=af hn2.1;have cE:=af hn2.2.1;have aE:=af hn2.2.2;have cG:=af ha;have dm:=af hb;have abo:=af kA;have abp:=af uY;have s1:∀(w:World) (o:Obj),(w.alloc o).heap.size=w.heap.size+1:=fun w o=>by simp
 have c5:=af s1;clear hn2 ha hb kA uY s1 hl lO rD hdf;go_enter Tryz.func31,Tryz.ntmps31
 go_upto_region 1 with(fail)
 obtain⟨bX,fj⟩:∃g,w.heap.size+1=g:=⟨_,rfl⟩;rw [fj]at cE⊢;obtain⟨ga,xX⟩:∃g,w.heap.size=g:=⟨_,rfl⟩;have AE:Hid (aj _ ga 54 #[.slice a n c]):=af (by have:=GF.out;rwa [xX]at this);rw [show(Value.pointer (some ⟨w.heap.size,0,none⟩))= .pointer (some ⟨ga,0,none⟩)by rw [xX]];clear xX fj GF;generalize (w.alloc (.cells #[.slice a n c] 54)).alloc (.cells #[.slice b n d] 54)=w1 at*;have c0:w1.cell? ⟨ga,0,none⟩=some (.slice a n c):=AE.out.cell 0;have c1:w1.cell? ⟨bX,0,none⟩=some (.slice b n d):=cE.out.cell 0;have Ti:Hid (vU w w1 ga bX a b c d n q [] (.slice none 0 0)):=af ⟨AE.out,cE.out,aY.Row.nil _ _,aE.out⟩;clear AE cE aE;go_wp2_with fail
 go_loopw [8,7,2] (fun i v gS w'=>∃(k:Nat) (z:Int) (va:Option Addr) (vn vc:Nat),i= .int .i64 k∧k≤n∧gS= .int .i64 z∧v= .slice va vn vc∧Hid (z=q+(fI A V k).length)∧vU w w' ga bX a b c d n q (fI A V k) (.slice va vn vc)) (fun i _ _ _=>n-(RowKit.intOf i).toNat)
 case atStart=>exact⟨0,q,none,0,0,rfl,Nat.zero_le _,rfl,rfl,af (by simp [fI]),Ti.out⟩
 case round=>
  clear c0 c1 Ti;obtain⟨k,z,va,vn,vc,rfl,hk,rfl,rfl,hz,hD⟩:=hrel;obtain⟨ak,rfl⟩:∃bk:World,bk=wr:=⟨_,rfl⟩;have GG:=af hD;clear hD;have c0:ak.cell? ⟨ga,0,none⟩=some (.slice a n c):=GG.out.ba.cell 0;by_cases hlt:k<n
  ·have hlt':(k:Int)<(n:Int):=by omega
   obtain⟨kE,Ko⟩:∃x,A[k]? =some x:=⟨_,List.getElem?_eq_getElem (by rw [xV.out];exact hlt)⟩;obtain⟨kF,hyp⟩:∃x,V[k]? =some x:=⟨_,List.getElem?_eq_getElem (by rw [en.out];exact hlt)⟩;have abq:=af Ko;have abr:=af hyp;have Tj:=af (abi Ko hyp);have AF:=af (abo.out _ (List.mem_of_getElem? Ko));have Tk:=af (abp.out _ (List.mem_of_getElem? hyp));have Cb:=af (iI.out k (by rw [xV.out];exact hk));clear Ko hyp;go_wp2_with fail
   go_loopw [9,7,2] (fun i v gS w'=>∃(j:Nat) (s z:Int) (va:Option Addr) (vn vc:Nat),i= .int .i64 s∧s=(j:Int)+1∧j≤2∧gS= .int .i64 z∧v= .slice va vn vc∧Hid (z=q+(fI A V k++jV (k:Int) kE kF j).length)∧vU w w' ga bX a b c d n q (fI A V k++jV (k:Int) kE kF j) (.slice va vn vc)) (fun i _ _ _=>4-(RowKit.intOf i).toNat)
   case atStart=>exact⟨0,1,z,va,vn,vc,rfl,rfl,Nat.zero_le _,rfl,rfl,af (by rw [hz.out];simp [jV]),by rw [show jV (k:Int) kE kF 0= []from rfl,List.append_nil];exact GG.out⟩
   case round=>
    clear c0 GG hz;obtain⟨j,s,z2,va,vn,vc,rfl,hs,hj,rfl,rfl,dG,hD⟩:=hrel;obtain⟨wy,rfl⟩:∃bk:World,bk=wr:=⟨_,rfl⟩;have y3:=af hD;have Cc:=af hs;have hs1:1≤s∧s≤3:=by omega
    by_cases hj2:j<2
    ·have aie:s≤2:=by omega
     clear hD hs;have NE:=AF.out;have NF:=Tk.out;obtain⟨g1,mE,GH,he,dz,eX,hq1,hq2⟩:=(cG.out.below y3.out.aF).get abq.out;injection he with ej jK fu;clear jK;subst ej;subst fu;obtain⟨g2,nj,GI,he,e4,k4,xY,sB⟩:=(dm.out.below y3.out.aF).get abr.out;injection he with ej jK fu;clear jK;subst ej;subst fu;obtain⟨⟨a1,n1,e1,⟨p1,q1,r1⟩,f1⟩,⟨b1,m1,h1,⟨t1,u1,v1⟩,x1⟩⟩:=GH;obtain⟨⟨a2,n2,e2,⟨p2,e5,r2⟩,f2⟩,⟨b2,m2,h2,⟨t2,u2,v2⟩,bl⟩⟩:=GI
     obtain⟨X,Y,GJ,GK,Tl,Al,Tm,Tn,Tp,hcs⟩:∃(X Y:aV) (GJ GK:eI),jV (k:Int) kE kF (j+1)=jV (k:Int) kE kF j++uT (k:Int) s X Y∧bN bC wy qo GJ X∧bN bC wy qp GK Y∧X.lv.length≤250∧Y.lv.length≤250∧
      ((j=0∧GJ=⟨a1,n1,e1,⟨p1,q1,r1⟩,f1⟩∧GK=⟨a2,n2,e2,⟨p2,e5,r2⟩,f2⟩)∨(j=1∧GJ=⟨b1,m1,h1,⟨t1,u1,v1⟩,x1⟩∧GK=⟨b2,m2,h2,⟨t2,u2,v2⟩,bl⟩)):=by
      have abt:j=0∨j=1:=by omega
      rcases abt with h0|h0
      ·exact⟨kE.1,kF.1,_,_,by rw [Cc.out,h0];rfl,hq1,xY,NE.1,NF.1,.inl ⟨h0,rfl,rfl⟩⟩
      ·exact⟨kE.2,kF.2,_,_,by rw [Cc.out,h0];rfl,hq2,sB,NE.2,NF.2,.inr ⟨h0,rfl,rfl⟩⟩
     obtain⟨lz,xn,xc,⟨mN,l7,xr⟩,iW⟩:=GJ;obtain⟨kG,yn,iy,⟨fJ,fK,yr⟩,l8⟩:=GK;have NG:=af Tl;have Tq:=af Al;have tL:=af Tm;clear NE NF hq1 hq2 xY sB Tl Al Tm;go_upto_region 10 with(fail)
     go_cut [10,11] (fun u7 u8 wx=>∃aM eS,u7= .pointer (some ⟨aM,0,none⟩)∧u8= .pointer (some ⟨eS,0,none⟩)∧aj wx aM 103 #[.slice lz xn xc,.int .i64 mN,.int .i64 l7,.int .i64 xr,.bool iW]∧aj wx eS 103 #[.slice kG yn iy,.int .i64 fJ,.int .i64 fK,.int .i64 yr,.bool l8]∧Below wy.heap.size wy wx)
     case first=>
      rcases hcs with⟨hj0,hcs⟩|⟨hj0,hcs⟩
      ·as_aux_lemma=>
       have y1:IntKind.i64.wrap (s-1)=0:=by rw [show s-1=0 by have:=Cc.out;omega];rfl
       simp only [eI.mk.injEq,ax.mk.injEq]at hcs;obtain⟨⟨rfl,rfl,rfl,⟨rfl,rfl,rfl⟩,rfl⟩,⟨rfl,rfl,rfl,⟨rfl,rfl,rfl⟩,rfl⟩⟩:=hcs
       have aq:Hid (∀wx,Below wy.heap.size wy wx→(fun w'=>w'.cell? ⟨ga,0,none⟩=some (.slice (some ⟨g1,0,none⟩) n c)∧w'.cell? ⟨bX,0,none⟩=some (.slice (some ⟨g2,0,none⟩) n d)∧w'.cell? ⟨g1,k*10,none⟩=some (.slice lz xn xc)∧w'.cell? ⟨g1,k*10+1,none⟩=some (.int .i64 mN)∧w'.cell? ⟨g1,k*10+2,none⟩=some (.int .i64 l7)∧w'.cell? ⟨g1,k*10+3,none⟩=some (.int .i64 xr)∧w'.cell? ⟨g1,k*10+4,none⟩=some (.bool iW)∧w'.cell? ⟨g2,k*10,none⟩=some (.slice kG yn iy)∧w'.cell? ⟨g2,k*10+1,none⟩=some (.int .i64 fJ)∧w'.cell? ⟨g2,k*10+2,none⟩=some (.int .i64 fK)∧w'.cell? ⟨g2,k*10+3,none⟩=some (.int .i64 yr)∧w'.cell? ⟨g2,k*10+4,none⟩=some (.bool l8)) wx):=af fun wx hb=>by
        have e:∀(g o:Nat),g<wy.heap.size→wx.cell? ⟨g,o,none⟩=wy.cell? ⟨g,o,none⟩:=fun g o hg=>hb.cell (p:=⟨g,o,none⟩) hg;exact⟨(y3.out.ba.below hb).cell 0,(y3.out.bb.below hb).cell 0,(e g1 _ dz).trans (eX 0 _ rfl),(e g1 _ dz).trans (eX 1 _ rfl),(e g1 _ dz).trans (eX 2 _ rfl),(e g1 _ dz).trans (eX 3 _ rfl),(e g1 _ dz).trans (eX 4 _ rfl),(e g2 _ e4).trans (k4 0 _ rfl),(e g2 _ e4).trans (k4 1 _ rfl),(e g2 _ e4).trans (k4 2 _ rfl),(e g2 _ e4).trans (k4 3 _ rfl),(e g2 _ e4).trans (k4 4 _ rfl)⟩
       clear eX k4;refine cF (S:=fun w'=>w'.cell? ⟨ga,0,none⟩=some (.slice (some ⟨g1,0,none⟩) n c)∧w'.cell? ⟨bX,0,none⟩=some (.slice (some ⟨g2,0,none⟩) n d)∧w'.cell? ⟨g1,k*10,none⟩=some (.slice lz xn xc)∧w'.cell? ⟨g1,k*10+1,none⟩=some (.int .i64 mN)∧w'.cell? ⟨g1,k*10+2,none⟩=some (.int .i64 l7)∧w'.cell? ⟨g1,k*10+3,none⟩=some (.int .i64 xr)∧w'.cell? ⟨g1,k*10+4,none⟩=some (.bool iW)∧w'.cell? ⟨g2,k*10,none⟩=some (.slice kG yn iy)∧w'.cell? ⟨g2,k*10+1,none⟩=some (.int .i64 fJ)∧w'.cell? ⟨g2,k*10+2,none⟩=some (.int .i64 fK)∧w'.cell? ⟨g2,k*10+3,none⟩=some (.int .i64 yr)∧w'.cell? ⟨g2,k*10+4,none⟩=some (.bool l8)) (by kernel_rfl) (aq.out _ (Below.refl _ _).drew) (fun hHeld=>?_);refine ai 0 ?_;refine ai 1 ?_;refine ai 2 ?_;refine ai 3 ?_;refine ai 4 ?_;refine ai 5 ?_;refine ai 6 ?_;refine ai 7 ?_;refine ai 8 ?_;refine ai 9 ?_;refine ai 10 ?_;refine ai 11 ?_;refine ai 12 ?_;refine ai 13 ?_;refine ai 14 ?_;refine ai 15 ?_;refine jW 16 17 (fun K hK=>?_) fun K hK=>?_
       ·go_simp
        refine hK.out _ _ (by first|exact aq.out _ (Below.aA wy _).drew|exact aq.out _ ((Below.aA wy _).alloc (by rw [c5.out];omega) _).drew) (fun hHeld=>?_);clear hK K;refine aR 17 fun K hK=>?_;go_simp;refine hK.out _ _ (by first|exact aq.out _ (Below.aA wy _).drew|exact aq.out _ ((Below.aA wy _).alloc (by rw [c5.out];omega) _).drew) (fun hHeld=>?_);clear hK K;refine aR 18 fun K hK=>?_;go_simp;refine hK.out _ _ (by first|exact aq.out _ (Below.aA wy _).drew|exact aq.out _ ((Below.aA wy _).alloc (by rw [c5.out];omega) _).drew) (fun hHeld=>?_);clear hK K;refine cO 19 fun K hK=>?_;go_simp;refine hK.out _ _ ?_;clear hK K hHeld;go_wp2_with fail
        go_meet;have h2:=xW wy 103 103 #[.slice lz xn xc,.int .i64 mN,.int .i64 l7,.int .i64 xr,.bool iW] #[.slice kG yn iy,.int .i64 fJ,.int .i64 fK,.int .i64 yr,.bool l8];exact⟨wy.heap.size,wy.heap.size+1,rfl,rfl,h2.1,h2.2.1,h2.2.2.drew⟩
       ·go_simp
        refine hK.out _ _ (by first|exact aq.out _ (Below.aA wy _).drew|exact aq.out _ ((Below.aA wy _).alloc (by rw [c5.out];omega) _).drew) (fun hHeld=>?_);clear hK K;refine aR 16 fun K hK=>?_;go_simp;refine hK.out _ _ (by first|exact aq.out _ (Below.aA wy _).drew|exact aq.out _ ((Below.aA wy _).alloc (by rw [c5.out];omega) _).drew) (fun hHeld=>?_);clear hK K;refine aR 18 fun K hK=>?_;go_simp;refine hK.out _ _ (by first|exact aq.out _ (Below.aA wy _).drew|exact aq.out _ ((Below.aA wy _).alloc (by rw [c5.out];omega) _).drew) (fun hHeld=>?_);clear hK K;refine cO 19 fun K hK=>?_;go_simp;refine hK.out _ _ ?_;clear hK K hHeld;go_wp2_with fail
        go_meet;have h2:=xW wy 103 103 #[.slice kG yn iy,.int .i64 fJ,.int .i64 fK,.int .i64 yr,.bool l8] #[.slice lz xn xc,.int .i64 mN,.int .i64 l7,.int .i64 xr,.bool iW];exact⟨wy.heap.size+1,wy.heap.size,rfl,rfl,h2.2.1,h2.1,h2.2.2.drew⟩
      ·as_aux_lemma=>
       have y1:IntKind.i64.wrap (s-1)=1:=by rw [show s-1=1 by have:=Cc.out;omega];rfl
       simp only [eI.mk.injEq,ax.mk.injEq]at hcs;obtain⟨⟨rfl,rfl,rfl,⟨rfl,rfl,rfl⟩,rfl⟩,⟨rfl,rfl,rfl,⟨rfl,rfl,rfl⟩,rfl⟩⟩:=hcs
       have aq:Hid (∀wx,Below wy.heap.size wy wx→(fun w'=>w'.cell? ⟨ga,0,none⟩=some (.slice (some ⟨g1,0,none⟩) n c)∧w'.cell? ⟨bX,0,none⟩=some (.slice (some ⟨g2,0,none⟩) n d)∧w'.cell? ⟨g1,k*10+5,none⟩=some (.slice lz xn xc)∧w'.cell? ⟨g1,k*10+6,none⟩=some (.int .i64 mN)∧w'.cell? ⟨g1,k*10+7,none⟩=some (.int .i64 l7)∧w'.cell? ⟨g1,k*10+8,none⟩=some (.int .i64 xr)∧w'.cell? ⟨g1,k*10+9,none⟩=some (.bool iW)∧w'.cell? ⟨g2,k*10+5,none⟩=some (.slice kG yn iy)∧w'.cell? ⟨g2,k*10+6,none⟩=some (.int .i64 fJ)∧w'.cell? ⟨g2,k*10+7,none⟩=some (.int .i64 fK)∧w'.cell? ⟨g2,k*10+8,none⟩=some (.int .i64 yr)∧w'.cell? ⟨g2,k*10+9,none⟩=some (.bool l8)) wx):=af fun wx hb=>by
        have e:∀(g o:Nat),g<wy.heap.size→wx.cell? ⟨g,o,none⟩=wy.cell? ⟨g,o,none⟩:=fun g o hg=>hb.cell (p:=⟨g,o,none⟩) hg;exact⟨(y3.out.ba.below hb).cell 0,(y3.out.bb.below hb).cell 0,(e g1 _ dz).trans (eX 5 _ rfl),(e g1 _ dz).trans (eX 6 _ rfl),(e g1 _ dz).trans (eX 7 _ rfl),(e g1 _ dz).trans (eX 8 _ rfl),(e g1 _ dz).trans (eX 9 _ rfl),(e g2 _ e4).trans (k4 5 _ rfl),(e g2 _ e4).trans (k4 6 _ rfl),(e g2 _ e4).trans (k4 7 _ rfl),(e g2 _ e4).trans (k4 8 _ rfl),(e g2 _ e4).trans (k4 9 _ rfl)⟩
       clear eX k4;refine cF (S:=fun w'=>w'.cell? ⟨ga,0,none⟩=some (.slice (some ⟨g1,0,none⟩) n c)∧w'.cell? ⟨bX,0,none⟩=some (.slice (some ⟨g2,0,none⟩) n d)∧w'.cell? ⟨g1,k*10+5,none⟩=some (.slice lz xn xc)∧w'.cell? ⟨g1,k*10+6,none⟩=some (.int .i64 mN)∧w'.cell? ⟨g1,k*10+7,none⟩=some (.int .i64 l7)∧w'.cell? ⟨g1,k*10+8,none⟩=some (.int .i64 xr)∧w'.cell? ⟨g1,k*10+9,none⟩=some (.bool iW)∧w'.cell? ⟨g2,k*10+5,none⟩=some (.slice kG yn iy)∧w'.cell? ⟨g2,k*10+6,none⟩=some (.int .i64 fJ)∧w'.cell? ⟨g2,k*10+7,none⟩=some (.int .i64 fK)∧w'.cell? ⟨g2,k*10+8,none⟩=some (.int .i64 yr)∧w'.cell? ⟨g2,k*10+9,none⟩=some (.bool l8)) (by kernel_rfl) (aq.out _ (Below.refl _ _).drew) (fun hHeld=>?_);refine ai 0 ?_;refine ai 1 ?_;refine ai 2 ?_;refine ai 3 ?_;refine ai 4 ?_;refine ai 5 ?_;refine ai 6 ?_;refine ai 7 ?_;refine ai 8 ?_;refine ai 9 ?_;refine ai 10 ?_;refine ai 11 ?_;refine ai 12 ?_;refine ai 13 ?_;refine ai 14 ?_;refine ai 15 ?_;refine jW 16 17 (fun K hK=>?_) fun K hK=>?_
       ·go_simp
        refine hK.out _ _ (by first|exact aq.out _ (Below.aA wy _).drew|exact aq.out _ ((Below.aA wy _).alloc (by rw [c5.out];omega) _).drew) (fun hHeld=>?_);clear hK K;refine aR 17 fun K hK=>?_;go_simp;refine hK.out _ _ (by first|exact aq.out _ (Below.aA wy _).drew|exact aq.out _ ((Below.aA wy _).alloc (by rw [c5.out];omega) _).drew) (fun hHeld=>?_);clear hK K;refine aR 18 fun K hK=>?_;go_simp;refine hK.out _ _ (by first|exact aq.out _ (Below.aA wy _).drew|exact aq.out _ ((Below.aA wy _).alloc (by rw [c5.out];omega) _).drew) (fun hHeld=>?_);clear hK K;refine cO 19 fun K hK=>?_;go_simp;refine hK.out _ _ ?_;clear hK K hHeld;go_wp2_with fail
        go_meet;have h2:=xW wy 103 103 #[.slice lz xn xc,.int .i64 mN,.int .i64 l7,.int .i64 xr,.bool iW] #[.slice kG yn iy,.int .i64 fJ,.int .i64 fK,.int .i64 yr,.bool l8];exact⟨wy.heap.size,wy.heap.size+1,rfl,rfl,h2.1,h2.2.1,h2.2.2.drew⟩
       ·go_simp
        refine hK.out _ _ (by first|exact aq.out _ (Below.aA wy _).drew|exact aq.out _ ((Below.aA wy _).alloc (by rw [c5.out];omega) _).drew) (fun hHeld=>?_);clear hK K;refine aR 16 fun K hK=>?_;go_simp;refine hK.out _ _ (by first|exact aq.out _ (Below.aA wy _).drew|exact aq.out _ ((Below.aA wy _).alloc (by rw [c5.out];omega) _).drew) (fun hHeld=>?_);clear hK K;refine aR 18 fun K hK=>?_;go_simp;refine hK.out _ _ (by first|exact aq.out _ (Below.aA wy _).drew|exact aq.out _ ((Below.aA wy _).alloc (by rw [c5.out];omega) _).drew) (fun hHeld=>?_);clear hK K;refine cO 19 fun K hK=>?_;go_simp;refine hK.out _ _ ?_;clear hK K hHeld;go_wp2_with fail
        go_meet;have h2:=xW wy 103 103 #[.slice kG yn iy,.int .i64 fJ,.int .i64 fK,.int .i64 yr,.bool l8] #[.slice lz xn xc,.int .i64 mN,.int .i64 l7,.int .i64 xr,.bool iW];exact⟨wy.heap.size+1,wy.heap.size,rfl,rfl,h2.2.1,h2.1,h2.2.2.drew⟩
     case rest=>
     obtain⟨aM,eS,rfl,rfl,jA,vX,hbc⟩:=hcut;obtain⟨au,rfl⟩:∃bk:World,bk=wc:=⟨_,rfl⟩;have Tr:=af (y3.out.below hbc);have jX:=af jA;have nu:=af vX;have Eu:=Tq.out.below hbc;have GL:=af (tL.out.below hbc);have abu:xn=X.lv.length:=Eu.n;subst abu;obtain⟨aif,aih,he,AG,hrd⟩:=Eu.row.sl;dsimp only at he AG hrd;injection he with ej jK fu;clear jK;subst ej;subst fu;have x0:au.cell? ⟨aM,0,none⟩=some (.slice lz X.lv.length xc):=jX.out.cell 0;have H0:=af (aY.Row.empty (Y:=bC) au);have hba:=Below.aA au (.cells #[] 101);have cP:=af hba;have rI:=af (hrd.below hba);have y4:=af AG;have abv:(au.alloc (.cells #[] 101)).cell? ⟨aM,0,none⟩=some (.slice lz X.lv.length xc):=(jX.out.below hba).cell 0;have GM:yn=Y.lv.length:=GL.out.n;have Tt:Hid ((⟨mN,l7,xr⟩:ax)=X.im∧iW=X.has):=af ⟨Eu.im,Eu.has⟩;have Tv:Hid ((⟨fJ,fK,yr⟩:ax)=Y.im∧l8=Y.has):=af ⟨GL.out.im,GL.out.has⟩;have Tw:=af Eu.row;have NH:=af Tn;have Tx:=af Tp;have GN:=af GM;clear hcs eX k4 dz e4 jA vX hbc Eu AG hrd hba y3 GM Tn Tp Tq tL
     go_wp2_with (first
      |(at_builtin;go_loud (refine bC.vN rfl (.tmp 52) (.tmp 54) rfl au.heap.size (.slice (some ⟨au.heap.size,0,none⟩) 0 0) [] rfl H0.out lz xc X.lv (by first|rfl|(simp;done)|(simp;rfl)) (fun h=>(y4.out.1 h).2) rI.out y4.out.2.1 (by have:=NH.out;rw [List.length_nil];omega) cP.out.size ?_)))
     intro v6 aK bO cB ez;try rw [List.nil_append]at bO
     have bF:=gF cB cP.out (cx H0.out)
     obtain⟨az,mc,_,Kp,_⟩:=bO.Ev (by
      rcases ez with h|h
      ·rw [h];intro e;cases e
      ·rw [h];intro e;cases e)
     subst Kp;have cH:=af bO;have Ty:=af (Tr.out.below bF);have Tz:=af (jX.out.below bF);have Cd:=af (nu.out.below bF);have NI:=af (GL.out.below bF);have TA:=af (Tw.out.below bF);have abw:Hid (au.heap.size≤aK.heap.size):=af bF.size;clear bO cB ez bF x0 abv H0 cP rI y4 Tr jX nu GL Tw;have aii:yn≤250:=by rw [GN.out];exact Tx.out
     go_wp2_with fail
     go_loopw [13,12] (fun i l w'=>∃(t az mc ml:Nat) (dZ:List ax),i= .int .i64 t∧t≤yn∧l= .slice (some ⟨az,0,none⟩) ml mc∧ml≤250+t∧Hid (dZ.length=ml)∧Hid (dZ=qR s X.lv (Y.lv.take t))∧bC.Row w' au.heap.size (.slice (some ⟨az,0,none⟩) ml mc) dZ∧Below aK.heap.size aK w') (fun i _ _=>yn-(RowKit.intOf i).toNat)
     case atStart=>exact⟨0,az,mc,X.lv.length,X.lv,rfl,Nat.zero_le _,rfl,by have:=NH.out;omega,af rfl,af rfl,cH.out,Below.refl _ _⟩
     case round=>
      clear cH;obtain⟨t,az,mc,ml,dZ,rfl,ht,rfl,hml,sC,hme,hrl,dA⟩:=hrel;obtain⟨g3,rfl⟩:∃bk:World,bk=wr:=⟨_,rfl⟩;have tM:=af hrl;have eu:=af dA;have y0:g3.cell? ⟨eS,0,none⟩=some (.slice kG yn iy):=(Cd.out.below dA).cell 0;clear hrl dA;by_cases bI:t<yn
      ·as_aux_lemma=>
       have aij:(t:Int)<(yn:Int):=by omega
       obtain⟨b,hb⟩:∃b,Y.lv[t]? =some b:=⟨_,List.getElem?_eq_getElem (by rw [←GN.out];exact bI)⟩;have Kq:=af (abj (side:=s) (x:=X.lv) hb);obtain⟨oX,aik,TB,NJ,Kr⟩:=(NI.out.below eu.out).row.at_ t b hb;dsimp only at TB;injection TB with hy1 Ce abx;subst hy1;subst abx;clear Ce;obtain⟨dx,iz,br⟩:=b
       have jM:Hid (∀wx,Below g3.heap.size g3 wx→wx.cell? ⟨eS,0,none⟩=some (.slice (some ⟨oX,0,none⟩) yn iy)∧wx.cell? ⟨oX,t*3,none⟩=some (.int .i64 dx)∧wx.cell? ⟨oX,t*3+1,none⟩=some (.int .i64 iz)∧wx.cell? ⟨oX,t*3+2,none⟩=some (.int .i64 br)):=af fun wx aP=>
        ⟨((Cd.out.below eu.out).below aP).cell 0,(aP.cell (p:=⟨oX,t*3,none⟩) NJ).trans (Kr 0 _ rfl),(aP.cell (p:=⟨oX,t*3+1,none⟩) NJ).trans (Kr 1 _ rfl),(aP.cell (p:=⟨oX,t*3+2,none⟩) NJ).trans (Kr 2 _ rfl)⟩
       have TC:Hid (∀wx (kk:Nat) (z:ax),Below g3.heap.size g3 wx→dZ[kk]? =some z→wx.cell? ⟨az,kk*3,none⟩=some (.int .i64 z.ag)):=af fun wx kk z aP hz=>by
        obtain⟨g,cap,he,_,hc⟩:=(tM.out.below aP).at_ kk z hz;injection he with ej jK fu;injection ej with ej;injection ej with ej;subst ej;exact hc 0 _ rfl
       clear Kr hb;go_wp2_with fail
       go_loopw [14] (fun i w'=>∃kk:Nat,i= .int .i64 kk∧kk≤ml∧Hid (xU s dZ ⟨dx,iz,br⟩=kk+((dZ.drop kk).takeWhile (fun a=>cV s a.ag dx)).length)∧Below g3.heap.size g3 w') (fun i _=>ml-(RowKit.intOf i).toNat)
       case atStart=>exact⟨0,rfl,Nat.zero_le _,af (by rw [List.drop_zero,Nat.zero_add];rfl),Below.refl _ _⟩
       case round=>
        clear y0;obtain⟨kk,rfl,hkk,hma,NK⟩:=hrel;obtain⟨wv,rfl⟩:∃bk:World,bk=wr:=⟨_,rfl⟩;have Cf:=af NK;obtain⟨y0,b0,b1,b2⟩:=jM.out wv NK;clear NK;obtain⟨tb,htb⟩:∃tb:Bool,(decide (kk<ml)&&cV s (dZ.getD kk oP).ag dx)=tb:=⟨_,rfl⟩;have Ew:=af htb;clear htb;go_upto_region 16 with(fail)
        go_cut [81] (fun u wx=>u= .bool tb∧Below wv.heap.size wv wx)
        case first=>
         by_cases fP:kk<ml
         ·have vY:(kk:Int)<(ml:Int):=by omega
          have hd:decide ((kk:Int)<(ml:Int))=true:=decide_eq_true vY;obtain⟨z,hz⟩:∃z,dZ[kk]? =some z:=⟨_,List.getElem?_eq_getElem (by rw [sC.out];exact fP)⟩;have lR:=af (Cf.out.trans ((Below.refl wv.heap.size wv).drew.mono Cf.out.size));have z0:=TC.out wv.drew kk z lR.out hz;have hc:=jM.out wv.drew lR.out;have om:Hid (cV s z.ag dx=tb):=af (by rw [←Ew.out,decide_eq_true fP,List.getD_eq_getElem?_getD,hz];simp);obtain⟨zp,aby,zr⟩:=z;dsimp only at z0 om;have sD:=af fun w=>Ex s zp dx w;rw [om.out]at sD;clear hz y0 b0 b1 b2;refine cF (S:=fun w'=>w'.cell? ⟨az,kk*3,none⟩=some (.int .i64 zp)∧w'.cell? ⟨eS,0,none⟩=some (.slice (some ⟨oX,0,none⟩) yn iy)∧w'.cell? ⟨oX,t*3,none⟩=some (.int .i64 dx)) (by kernel_rfl) ⟨z0,hc.1,hc.2.1⟩ (fun hHeld=>?_);refine ai 0 ?_;refine ai 1 ?_;refine ai 2 ?_;refine ai 3 ?_;refine ai 4 ?_;refine ai 5 ?_;refine ai 6 ?_;refine ai 7 ?_;refine ai 8 ?_;refine ai 9 ?_;refine ai 10 ?_;refine ai 11 ?_;refine ai 12 ?_;refine ai 13 ?_;refine ai 14 ?_;refine ai 15 ?_;refine ai 16 ?_;refine aR 17 fun K hK=>?_;go_simp;go_at_call 72
          refine(sD.out _).mono ?_;rintro e bG ⟨rfl,rfl⟩;refine hK.out _ _ ⟨z0,hc.1,hc.2.1⟩ (fun hHeld=>?_);clear hK K z0 hc;refine gx _ _ _ _ ?_;refine eB 18 ?_;refine wpAnyH_done (by kernel_rfl) ?_ _;clear hHeld;go_wp2_with fail
          go_meet;exact⟨rfl,(Below.refl wv.heap.size wv).drew⟩
         ·have vY:¬(kk:Int)<(ml:Int):=by omega
          have hd:decide ((kk:Int)<(ml:Int))=false:=decide_eq_false vY;have om:Hid (tb=false):=af (by rw [←Ew.out,decide_eq_false fP];rfl);clear y0 b0 b1 b2;refine cF (S:=fun _=>True) (by kernel_rfl) trivial (fun hHeld=>?_);refine ai 0 ?_;refine ai 1 ?_;refine ai 2 ?_;refine ai 3 ?_;refine ai 4 ?_;refine dS 5 ?_;refine dS 6 ?_;refine dS 7 ?_;refine dS 8 ?_;refine dS 9 ?_;refine dS 10 ?_;refine dS 11 ?_;refine dS 12 ?_;refine dS 13 ?_;refine dS 14 ?_;refine dS 15 ?_;refine dS 16 ?_;refine dS 17 ?_;refine gx _ _ _ _ ?_;refine eB 18 ?_;refine wpAnyH_done (by kernel_rfl) ?_ _;clear hHeld;go_wp2_with fail
          go_meet;exact⟨by rw [om.out],(Below.refl wv.heap.size wv).drew⟩
        case rest=>
        obtain⟨rfl,aP⟩:=hcut;have jf:=af (Cf.out.trans (aP.mono Cf.out.size));clear aP y0 b0 b1 b2;generalize wc=wx at*;cases tb with
        |true=>
         have fP:kk<ml:=by
          have:=Ew.out;simp only [Bool.and_eq_true,decide_eq_true_eq]at this;exact this.1
         have rA:Hid (xU s dZ ⟨dx,iz,br⟩=kk+1+((dZ.drop (kk+1)).takeWhile (fun a=>cV s a.ag dx)).length):=af (by
          have hz:dZ[kk]? =some (dZ[kk]'(by rw [sC.out];exact fP)):=List.getElem?_eq_getElem _;have h1:=Ew.out;rw [List.getD_eq_getElem?_getD,hz]at h1;simp only [Bool.and_eq_true]at h1;exact(Te hz hma.out).1 h1.2)
         go_wp2_with fail
         go_roundw
         case rel=>exact⟨kk+1,by go_num,by omega,rA,jf.out⟩
         case measure=>simp [RowKit.intOf];omega
        |false=>
         have rA:Hid (xU s dZ ⟨dx,iz,br⟩=kk):=af (by
          by_cases fP:kk<ml
          ·have hz:dZ[kk]? =some (dZ[kk]'(by rw [sC.out];exact fP)):=List.getElem?_eq_getElem _
           have h1:=Ew.out;rw [List.getD_eq_getElem?_getD,hz,decide_eq_true fP,Bool.true_and]at h1;exact(Te hz hma.out).2 h1
          ·have hkm:kk=dZ.length:=by have:=sC.out;omega
           have:=hma.out;rw [hkm,List.drop_length]at this;rw [this,hkm];rfl)
         obtain⟨hh,TD⟩:∃hh:Bool,(!B6 dZ kk ⟨dx,iz,br⟩)=hh:=⟨_,rfl⟩;have Ey:=af TD;clear TD Ew;obtain⟨y0,b0,b1,b2⟩:=jM.out wx jf.out;go_upto_region 18 with(fail)
         go_cut [101] (fun u wy=>u= .bool hh∧Below wx.heap.size wx wy)
         case first=>
          by_cases fP:kk<ml
          ·have hd:((kk:Int)==(ml:Int))=false:=by rw [beq_eq_false_iff_ne];omega
           have NL:¬(kk:Int)=(ml:Int):=by omega
           have vY:(kk:Int)<(ml:Int):=by omega
           obtain⟨z,hz⟩:∃z,dZ[kk]? =some z:=⟨_,List.getElem?_eq_getElem (by rw [sC.out];exact fP)⟩;have lR:=af (jf.out.trans ((Below.refl wx.heap.size wx).drew.mono jf.out.size));have z0:=TC.out wx.drew kk z lR.out hz;have hc:=jM.out wx.drew lR.out;have Ks:Hid ((z.ag !=dx)=hh):=af (by rw [←Ey.out];unfold B6;rw [hz];rfl);obtain⟨zp,aby,zr⟩:=z;dsimp only at z0 Ks;clear hz y0 b0 b1 b2;refine cF (S:=fun w'=>w'.cell? ⟨az,kk*3,none⟩=some (.int .i64 zp)∧w'.cell? ⟨eS,0,none⟩=some (.slice (some ⟨oX,0,none⟩) yn iy)∧w'.cell? ⟨oX,t*3,none⟩=some (.int .i64 dx)) (by kernel_rfl) ⟨z0,hc.1,hc.2.1⟩ (fun hHeld=>?_);refine ai 0 ?_;refine ai 1 ?_;refine ai 2 ?_;refine ai 3 ?_;refine ai 4 ?_;refine ai 5 ?_;refine ai 6 ?_;refine ai 7 ?_;refine ai 8 ?_;refine ai 9 ?_;refine ai 10 ?_;refine ai 11 ?_;refine ai 12 ?_;refine ai 13 ?_;refine ai 14 ?_;refine ai 15 ?_;refine ai 16 ?_;refine gx _ _ _ _ ?_;refine eB 17 ?_;refine wpAnyH_done (by kernel_rfl) ?_ _;clear hHeld;go_wp2_with fail
           go_meet;exact⟨by rw [Ks.out],(Below.refl wx.heap.size wx).drew⟩
          ·have hkm:kk=ml:=by omega
           have hd:((kk:Int)==(ml:Int))=true:=by rw [beq_iff_eq];omega
           have Ks:Hid (hh=true):=af (by rw [←Ey.out];unfold B6;rw [List.getElem?_eq_none (by rw [sC.out];omega)];rfl);clear hkm y0 b0 b1 b2;refine cF (S:=fun _=>True) (by kernel_rfl) trivial (fun hHeld=>?_);refine ai 0 ?_;refine ai 1 ?_;refine ai 2 ?_;refine ai 3 ?_;refine ai 4 ?_;refine dS 5 ?_;refine dS 6 ?_;refine dS 7 ?_;refine dS 8 ?_;refine dS 9 ?_;refine dS 10 ?_;refine dS 11 ?_;refine dS 12 ?_;refine dS 13 ?_;refine dS 14 ?_;refine dS 15 ?_;refine dS 16 ?_;refine gx _ _ _ _ ?_;refine eB 17 ?_;refine wpAnyH_done (by kernel_rfl) ?_ _;clear hHeld;go_wp2_with fail
           go_meet;exact⟨by rw [Ks.out],(Below.refl wx.heap.size wx).drew⟩
         case rest=>
         obtain⟨rfl,TE⟩:=hcut;have tN:=af (jf.out.trans (TE.mono jf.out.size));clear TE y0 b0 b1 b2;generalize wc=oY at*;have vO:=af (tM.out.below tN.out);cases hh with
         |false=>
          have Cg:Hid (dZ=qR s X.lv (Y.lv.take (t+1))):=af (by
           have h1:B6 dZ kk ⟨dx,iz,br⟩=true:=by have:=Ey.out;simpa using this
           rw [Kq.out,←hme.out];unfold qQ;rw [rA.out,if_pos h1])
          have aN:=af (eu.out.trans (tN.out.mono eu.out.size));go_wp2_with fail
          go_roundw
          case rel=>exact⟨t+1,az,mc,ml,dZ,by go_num,bI,rfl,by omega,sC,Cg,vO.out,aN.out⟩
          case measure=>simp [RowKit.intOf];omega
         |true=>
          have Cg:Hid (dZ.take kk++ [⟨dx,iz,br⟩]++dZ.drop kk=qR s X.lv (Y.lv.take (t+1))):=af (by
           have h1:¬B6 dZ kk ⟨dx,iz,br⟩=true:=by have:=Ey.out;simpa using this
           rw [Kq.out,←hme.out];unfold qQ;rw [rA.out,if_neg h1])
          have vZ:Hid ((dZ.take kk++ [(⟨dx,iz,br⟩:ax)]++dZ.drop kk).length=ml+1):=af (by simp only [List.length_append,List.length_take,List.length_drop,sC.out,List.length_cons,List.length_nil];omega);have NM:Hid (au.heap.size≤oY.heap.size):=af (Nat.le_trans abw.out (Nat.le_trans eu.out.size tN.out.size));go_upto_region 19 with(fail)
          have v7:ml≤mc:=by
           rcases vO.out.2 with⟨hv,_⟩|⟨c8,y5,Kt,hv,_,_,hh,_⟩
           ·injection hv with hv;cases hv
           ·injection hv with _ _ hv;rw [hv];have:=sC.out;omega
          have hkc:kk≤mc:=by omega
          have hkn:(kk:Int)≤(ml:Int):=by omega
          have jR:(0:Int)≤(kk:Int):=by omega
          obtain⟨off2,hoff⟩:∃off2,off2=(if mc=kk then 0 else kk*3):=⟨_,rfl⟩
          have TF:(if mc=kk then(some ⟨az,0,none⟩:Option Addr)else some ⟨az,kk*3,none⟩)=some ⟨az,off2,none⟩:=by
           rw [hoff];split<;>rfl
          have AH:=af hoff;clear hoff
          have NN:Hid (∀w',Below oY.drew.heap.size oY.drew w'→w'.cell? ⟨eS,0,none⟩=some (.slice (some ⟨oX,0,none⟩) yn iy)∧w'.cell? ⟨oX,t*3,none⟩=some (.int .i64 dx)∧w'.cell? ⟨oX,t*3+1,none⟩=some (.int .i64 iz)∧w'.cell? ⟨oX,t*3+2,none⟩=some (.int .i64 br)):=af fun w' hb=>
           jM.out w' ((tN.out.trans ((Below.bT oY 1).mono tN.out.size)).trans (hb.mono (tN.out.trans ((Below.bT oY 1).mono tN.out.size)).size))
          refine cF (S:=fun w'=>w'.cell? ⟨eS,0,none⟩=some (.slice (some ⟨oX,0,none⟩) yn iy)∧w'.cell? ⟨oX,t*3,none⟩=some (.int .i64 dx)∧w'.cell? ⟨oX,t*3+1,none⟩=some (.int .i64 iz)∧w'.cell? ⟨oX,t*3+2,none⟩=some (.int .i64 br)) (by kernel_rfl) (NN.out _ (Below.refl _ _)) (fun hHeld=>?_);have gA:Hid (bC.Row oY.drew au.heap.size (.slice (some ⟨az,0,none⟩) ml mc) dZ):=af (vO.out.below (Below.bT oY 1));have cr:Hid (Below oY.heap.size oY oY.drew):=af (Below.bT oY 1);have b5:=NN;clear NN;generalize oY.drew=wd at*;have dh:Hid ((dZ.take kk).length=kk):=af (by rw [List.length_take,sC.out];omega);have AI:Hid ((dZ.take kk++ [(⟨dx,iz,br⟩:ax)]).length=kk+1):=af (by rw [List.length_append,dh.out];rfl);have sF:Hid ((dZ.drop kk).length=ml-kk):=af (by rw [List.length_drop,sC.out])
          have y6:Hid (∀w1,Below wd.heap.size wd w1→bC.fF w1 (some ⟨az,off2,none⟩) (dZ.drop kk)):=af (by
           intro w1 NP;rw [AH.out];by_cases hcap:mc=kk
           ·rw [if_pos hcap]
            have h0:dZ.drop kk= []:=List.eq_nil_of_length_eq_zero (by rw [sF.out];omega);rw [h0];exact aY.fF.nil
           ·rw [if_neg hcap]
            intro j e hj;rw [List.getElem?_drop]at hj;obtain⟨b,off,h1,h2,h3⟩:=(gA.out.rd_some.below NP) (kk+j) e hj;injection h1 with h1;injection h1 with h1 h4;subst h1 h4;refine⟨az,kk*3,rfl,h2,?_⟩;rw [show kk*3+j*bC.m=0+(kk+j)*bC.m by rw [Nat.add_mul,Nat.zero_add];rfl];exact h3)
          have nK:Hid (Below wd.heap.size wd wd):=af (Below.refl _ _);refine ai 1 ?_;refine ai 2 ?_;refine ai 3 ?_;refine ai 5 ?_;refine ai 6 ?_;refine ai 7 ?_;refine ai 8 ?_;refine ai 9 ?_;refine ai 12 ?_;refine ai 13 ?_;refine ai 14 ?_;apply akY (C:=fun W GR gn GU _=>Hid (Below wd.heap.size wd W)∧Hid (bC.Row W wd.heap.size (.slice (some ⟨GR,0,none⟩) kk GU) (dZ.take kk))∧Hid (aj W gn 101 #[.int .i64 dx,.int .i64 iz,.int .i64 br]))
          case main=>
           intro aj9;refine jW 0 10 (fun K hK=>?_) fun K hK=>?_
           ·go_simp
            have hba:=Below.aA wd (.cells #[] 101);have aJ:=nK.out.trans (hba.mono nK.out.size);refine hK.out _ _ (b5.out _ aJ) (fun hHeld=>?_);clear hK K;have ot:bC.Row (wd.alloc (.cells #[] 101)) wd.heap.size (.slice (some ⟨wd.heap.size,0,none⟩) 0 0) []:=aY.Row.empty wd;have cQ:(wd.alloc (.cells #[] 101)).heap.size=wd.heap.size+1:=by simp
            obtain⟨ge,hge⟩:∃ge,wd.heap.size=ge:=⟨_,rfl⟩;have bB:Hid (wd.heap.size=ge):=af hge;rw [hge]at ot cQ⊢;clear hge;generalize wd.alloc (.cells #[] 101)=fy at*;have bH:=af (ot.base (show wd.heap.size≤ge by have h1:=bB.out;have h2:=nK.out.size;omega));have oZ:=af aJ;have GQ:=af cQ;clear hba aJ ot cQ;refine jW 4 10 (fun K hK=>?_) fun K hK=>?_
            ·refine bC.o3 (by rfl) (.tmp 102) (.tmp 105) (by rfl) wd.heap.size ge 0 0 kk [] rfl (by rfl) bH.out az 0 mc (dZ.take kk) dh.out (by rfl) ((gA.out.rd_some.below oZ.out).take kk) kk (by omega) (by omega) oZ.out.size ?_
             intro GR GU wf gm mO qq;try rw [List.nil_append]at gm
             have iX:=gF mO oZ.out (cx bH.out);have cn:=af gm;have qs:=af iX;have v8:=af (fe mO);refine hK.out _ _ (b5.out _ iX) (fun hHeld=>?_);clear hK K gm iX mO qq;try simp only [Act.put,List.setIfInBounds_toArray,List.set_cons_zero,List.set_cons_succ]
             refine aR 10 fun K hK=>?_;refine NC (by rfl) 111 (by rfl) (by rfl) ?_;have hba:=Below.aA wf (.cells #[.int .i64 dx,.int .i64 iz,.int .i64 br] 101);have aJ:=qs.out.trans (hba.mono qs.out.size);refine hK.out _ _ (b5.out _ aJ) (fun hHeld=>?_);clear hK K;try simp only [Act.put,List.setIfInBounds_toArray,List.set_cons_zero,List.set_cons_succ]
             have jk:aj (wf.alloc (.cells #[.int .i64 dx,.int .i64 iz,.int .i64 br] 101)) wf.heap.size 101 #[.int .i64 dx,.int .i64 iz,.int .i64 br]:=aj.new _ _ _;have cQ:(wf.alloc (.cells #[.int .i64 dx,.int .i64 iz,.int .i64 br] 101)).heap.size=wf.heap.size+1:=by simp
             obtain⟨gn,iM⟩:∃gn,wf.heap.size=gn:=⟨_,rfl⟩;have nw:Hid (wf.heap.size=gn):=af iM;rw [iM]at jk cQ⊢;clear iM;have AJ:=cn.out.below hba;generalize wf.alloc (.cells #[.int .i64 dx,.int .i64 iz,.int .i64 br] 101)=wc at*;have HN:=af jk;have nL:=af aJ;have Ch:=af cQ;clear hba aJ jk cQ;replace cn:=af AJ;clear AJ;exact aj9 wc GR gn GU ge ⟨nL,cn,HN⟩
            ·refine NC (by rfl) 111 (by rfl) (by rfl) ?_
             have hba:=Below.aA fy (.cells #[.int .i64 dx,.int .i64 iz,.int .i64 br] 101);have aJ:=oZ.out.trans (hba.mono oZ.out.size);refine hK.out _ _ (b5.out _ aJ) (fun hHeld=>?_);clear hK K;try simp only [Act.put,List.setIfInBounds_toArray,List.set_cons_zero,List.set_cons_succ]
             have jk:aj (fy.alloc (.cells #[.int .i64 dx,.int .i64 iz,.int .i64 br] 101)) fy.heap.size 101 #[.int .i64 dx,.int .i64 iz,.int .i64 br]:=aj.new _ _ _;have cQ:(fy.alloc (.cells #[.int .i64 dx,.int .i64 iz,.int .i64 br] 101)).heap.size=fy.heap.size+1:=by simp
             obtain⟨gn,iM⟩:∃gn,fy.heap.size=gn:=⟨_,rfl⟩;have nw:Hid (fy.heap.size=gn):=af iM;rw [iM]at jk cQ⊢;clear iM;have GY:=bH.out.below hba;generalize fy.alloc (.cells #[.int .i64 dx,.int .i64 iz,.int .i64 br] 101)=wc at*;have HN:=af jk;have nL:=af aJ;have Ch:=af cQ;clear hba aJ jk cQ;replace bH:=af GY;clear GY;refine aR 4 fun K hK=>?_;refine bC.o3 (by rfl) (.tmp 102) (.tmp 105) (by rfl) wd.heap.size ge 0 0 kk [] rfl (by rfl) bH.out az 0 mc (dZ.take kk) dh.out (by rfl) ((gA.out.rd_some.below nL.out).take kk) kk (by omega) (by omega) nL.out.size ?_;intro GR GU wf gm mO qq;try rw [List.nil_append]at gm
             have iX:=gF mO nL.out (cx bH.out);have cn:=af gm;have qs:=af iX;have v8:=af (fe mO);refine hK.out _ _ (b5.out _ iX) (fun hHeld=>?_);clear hK K gm iX mO qq;try simp only [Act.put,List.setIfInBounds_toArray,List.set_cons_zero,List.set_cons_succ]
             have l9:=HN.out.keeps v8.out (fun hy=>by have h0:some ge=some gn:=hy;injection h0 with h0;have h1:=bB.out;have h2:=GQ.out;have h3:=nw.out;omega);replace HN:=af l9;clear l9;exact aka (aj9 wf GR gn GU ge ⟨qs,cn,HN⟩)
           ·refine NC (by rfl) 111 (by rfl) (by rfl) ?_
            have hba:=Below.aA wd (.cells #[.int .i64 dx,.int .i64 iz,.int .i64 br] 101);have aJ:=nK.out.trans (hba.mono nK.out.size);refine hK.out _ _ (b5.out _ aJ) (fun hHeld=>?_);clear hK K;try simp only [Act.put,List.setIfInBounds_toArray,List.set_cons_zero,List.set_cons_succ]
            have jk:aj (wd.alloc (.cells #[.int .i64 dx,.int .i64 iz,.int .i64 br] 101)) wd.heap.size 101 #[.int .i64 dx,.int .i64 iz,.int .i64 br]:=aj.new _ _ _;have cQ:(wd.alloc (.cells #[.int .i64 dx,.int .i64 iz,.int .i64 br] 101)).heap.size=wd.heap.size+1:=by simp
            obtain⟨gn,iM⟩:∃gn,wd.heap.size=gn:=⟨_,rfl⟩;have nw:Hid (wd.heap.size=gn):=af iM;rw [iM]at jk cQ⊢;clear iM;generalize wd.alloc (.cells #[.int .i64 dx,.int .i64 iz,.int .i64 br] 101)=wc at*;have HN:=af jk;have nL:=af aJ;have Ch:=af cQ;clear hba aJ jk cQ;refine aR 0 fun K hK=>?_;go_simp;have hba:=Below.aA wc (.cells #[] 101);have aJ:=nL.out.trans (hba.mono nL.out.size);refine hK.out _ _ (b5.out _ aJ) (fun hHeld=>?_);clear hK K;have ot:bC.Row (wc.alloc (.cells #[] 101)) wc.heap.size (.slice (some ⟨wc.heap.size,0,none⟩) 0 0) []:=aY.Row.empty wc;have cQ:(wc.alloc (.cells #[] 101)).heap.size=wc.heap.size+1:=by simp
            obtain⟨ge,hge⟩:∃ge,wc.heap.size=ge:=⟨_,rfl⟩;have bB:Hid (wc.heap.size=ge):=af hge;rw [hge]at ot cQ⊢;clear hge;have kH:=HN.out.below hba;generalize wc.alloc (.cells #[] 101)=fy at*;have bH:=af (ot.base (show wd.heap.size≤ge by have h1:=bB.out;have h2:=nL.out.size;omega));have oZ:=af aJ;have GQ:=af cQ;clear hba aJ ot cQ;replace HN:=af kH;clear kH;refine aR 4 fun K hK=>?_;refine bC.o3 (by rfl) (.tmp 102) (.tmp 105) (by rfl) wd.heap.size ge 0 0 kk [] rfl (by rfl) bH.out az 0 mc (dZ.take kk) dh.out (by rfl) ((gA.out.rd_some.below oZ.out).take kk) kk (by omega) (by omega) oZ.out.size ?_;intro GR GU wf gm mO qq;try rw [List.nil_append]at gm
            have iX:=gF mO oZ.out (cx bH.out);have cn:=af gm;have qs:=af iX;have v8:=af (fe mO);refine hK.out _ _ (b5.out _ iX) (fun hHeld=>?_);clear hK K gm iX mO qq;try simp only [Act.put,List.setIfInBounds_toArray,List.set_cons_zero,List.set_cons_succ]
            have l9:=HN.out.keeps v8.out (fun hy=>by have h0:some ge=some gn:=hy;injection h0 with h0;have h1:=bB.out;have h2:=Ch.out;have h3:=nw.out;omega);replace HN:=af l9;clear l9;exact aka (aj9 wf GR gn GU ge ⟨qs,cn,HN⟩)
          case leaf=>
           intro wl GR gn GU ge ⟨ake,cn,HN⟩;refine aR 11 fun K hK=>?_;refine bC.o3 (by rfl) (.tmp 106) (.tmp 112) (by rfl) wd.heap.size GR GU kk 1 (dZ.take kk) dh.out (by rfl) cn.out gn 0 1 [(⟨dx,iz,br⟩:ax)] rfl (by rfl) (gL.rd HN.out.lt (aj.fU HN.out)) (kk+1) rfl (by omega) ake.out.size ?_;intro GV GX wg lA iE o4;have mP:=gF iE ake.out (cx cn.out);have cv:=af lA;have mQ:=af mP;refine hK.out _ _ (b5.out _ mP) (fun hHeld=>?_);clear hK K lA mP iE o4;try simp only [Act.put,List.setIfInBounds_toArray,List.set_cons_zero,List.set_cons_succ]
           refine aR 15 fun K hK=>?_;refine bC.o3 (by rfl) (.tmp 113) (.tmp 116) (by rfl) wd.heap.size GV GX (kk+1) (ml-kk) (dZ.take kk++ [(⟨dx,iz,br⟩:ax)]) AI.out (by rfl) cv.out az off2 (mc-kk) (dZ.drop kk) sF.out (by rfl) (y6.out _ mQ.out) (ml+1) (by omega) (by omega) mQ.out.size ?_;intro aO lS ou ov qt rJ;have lB:=gF qt mQ.out (cx cv.out);have we:=af ov;have sG:=af lB;refine hK.out _ _ (b5.out _ lB) (fun hHeld=>?_);clear hK K ov lB qt rJ;try simp only [Act.put,List.setIfInBounds_toArray,List.set_cons_zero,List.set_cons_succ]
           refine cO 16 fun K hK=>?_;go_simp;refine hK.out _ _ ?_;clear hK K hHeld;have nM:=af (we.out.base (Nat.le_trans NM.out cr.out.size));have aN:=af (eu.out.trans ((tN.out.trans ((cr.out.trans (sG.out.mono cr.out.size)).mono tN.out.size)).mono eu.out.size));go_wp2_with fail
           go_roundw
           case rel=>exact⟨t+1,aO,lS,ml+1,_,by go_num,bI,rfl,by omega,vZ,Cg,nM.out,aN.out⟩
           case measure=>simp [RowKit.intOf];omega
      ·skip
       have htn:t=yn:=by omega
       have Cg:Hid (dZ=qR s X.lv Y.lv):=af (by rw [hme.out,htn,GN.out,List.take_length]);have abz:ml≤500:=by omega
       have TG:=af (Ty.out.below eu.out);have TH:=af (Tz.out.below eu.out);have TI:=af (Cd.out.below eu.out);have TJ:=af (TA.out.below eu.out);have TK:Hid (vV w g3 ga bX aM eS qo qp au.heap.size (some ⟨g1,0,none⟩) (some ⟨g2,0,none⟩) c d n q (fI A V k++jV (k:Int) kE kF j) (.slice va vn vc) #[.slice lz X.lv.length xc,.int .i64 mN,.int .i64 l7,.int .i64 xr,.bool iW] #[.slice kG yn iy,.int .i64 fJ,.int .i64 fK,.int .i64 yr,.bool l8] (.slice lz X.lv.length xc) (.slice kG yn iy) (.slice (some ⟨az,0,none⟩) ml mc) X.lv Y.lv dZ):=af ⟨TG.out,TH.out,TI.out,TJ.out,(NI.out.below eu.out).row,tM.out⟩;clear TG Ty TH TI Tz Cd TJ TA NI tM hme;have abA:¬(t:Int)<(yn:Int):=by omega
       go_wp2_with fail
       clear y0 abA;go_loopw [15,7,2] (fun i v gS w'=>∃(t:Nat) (z:Int) (va:Option Addr) (vn vc:Nat),i= .int .i64 t∧t≤ml∧gS= .int .i64 z∧v= .slice va vn vc∧Hid (z=q+(fI A V k++jV (k:Int) kE kF j++(dZ.take t).flatMap (ji (k:Int) s X.lv Y.lv)).length)∧vV w w' ga bX aM eS qo qp au.heap.size (some ⟨g1,0,none⟩) (some ⟨g2,0,none⟩) c d n q (fI A V k++jV (k:Int) kE kF j++(dZ.take t).flatMap (ji (k:Int) s X.lv Y.lv)) (.slice va vn vc) #[.slice lz X.lv.length xc,.int .i64 mN,.int .i64 l7,.int .i64 xr,.bool iW] #[.slice kG yn iy,.int .i64 fJ,.int .i64 fK,.int .i64 yr,.bool l8] (.slice lz X.lv.length xc) (.slice kG yn iy) (.slice (some ⟨az,0,none⟩) ml mc) X.lv Y.lv dZ) (fun i _ _ _=>ml-(RowKit.intOf i).toNat)
       case atStart=>exact⟨0,z2,va,vn,vc,rfl,Nat.zero_le _,rfl,rfl,af (by rw [dG.out];simp),by have:=TK.out;simpa using this⟩
       case round=>
        clear TK dG;obtain⟨t,z,va,vn,vc,rfl,ht,rfl,rfl,hz,hL⟩:=hrel;obtain⟨wt,rfl⟩:∃bk:World,bk=wr:=⟨_,rfl⟩;have y7:=af hL;clear hL
        have qT:Hid ((fI A V k++jV (k:Int) kE kF j++(dZ.take t).flatMap (ji (k:Int) s X.lv Y.lv)).length+1≤1000000):=af (by
         have h1:=Cb.out;have h2:=abl (k:Int) AF.out Tk.out j;have h3:=Tf (k:Int) s X.lv Y.lv (dZ.take t);have h4:=List.length_take_le t dZ;have h5:k*(4*250+2)≤40*1002:=Nat.mul_le_mul (by omega) (Nat.le_refl _);simp only [List.length_append];omega)
        have tO:0≤z∧z≤2000000000:=by
         have h1:=hz.out;have h2:=qT.out;omega
        by_cases tP:t<ml
        ·skip
         have ail:(t:Int)<(ml:Int):=by omega
         obtain⟨ee,hee⟩:∃e,dZ[t]? =some e:=⟨_,List.getElem?_eq_getElem (by rw [sC.out];exact tP)⟩;have Ku:=af (abk (i:=(k:Int)) (side:=s) (x:=X.lv) (y:=Y.lv) hee);obtain⟨aim,ain,hle,TL,hlc⟩:=y7.out.rl.at_ t ee hee;injection hle with iR Am lN;injection iR with iR;injection iR with iR;clear Am;subst iR;obtain⟨y8,abB,abC⟩:=ee;obtain⟨⟨eg,eN,fr⟩,pO⟩:∃r,eR X.lv y8=r:=⟨_,rfl⟩;obtain⟨⟨aH,cu,gr⟩,NQ⟩:∃r,eR Y.lv y8=r:=⟨_,rfl⟩;have Ci:Hid (ji (k:Int) s X.lv Y.lv ⟨y8,abB,abC⟩=if(⟨eg,eN,fr⟩:ax)≠⟨aH,cu,gr⟩then [mM k s ⟨aH,cu,gr⟩ false]else []):=af (by unfold ji;rw [pO,NQ])
         have AK:Hid (∀wx,Below wt.heap.size wt wx→Calls Tryz.prog 73 #[.slice lz X.lv.length xc,.int .i64 y8] wx fun e w'=>e= .returned (.agg #[.int .i64 eg,.int .i64 eN,.int .i64 fr])∧Below wx.heap.size wx w'):=af fun wx aP=>by
          have:=TM (y7.out.rx.below aP).sl (by have:=NH.out;omega) y8
          rwa [pO]at this
         have jY:Hid (∀wx,Below wt.heap.size wt wx→Calls Tryz.prog 73 #[.slice kG yn iy,.int .i64 y8] wx fun e w'=>e= .returned (.agg #[.int .i64 aH,.int .i64 cu,.int .i64 gr])∧Below wx.heap.size wx w'):=af fun wx aP=>by
          have h1:=(y7.out.ND.below aP).sl;rw [GN.out]at h1;have:=TM h1 (by have:=Tx.out;omega) y8;rw [GN.out]
          rwa [NQ]at this
         have b5:Hid (∀wx,Below wt.heap.size wt wx→wx.cell? ⟨aM,0,none⟩=some (.slice lz X.lv.length xc)∧wx.cell? ⟨eS,0,none⟩=some (.slice kG yn iy)∧wx.cell? ⟨az,t*3,none⟩=some (.int .i64 y8)):=af fun wx aP=>
          ⟨(y7.out.cY.below aP).cell 0,(y7.out.vT.below aP).cell 0,(aP.cell (p:=⟨az,t*3,none⟩) TL).trans (hlc 0 _ rfl)⟩
         clear hlc hee pO NQ TL lN;go_upto_region 23 with(fail)
         go_cut [16,17] (fun u u2 wx=>∃aL aS,u= .pointer (some ⟨aL,0,none⟩)∧u2= .pointer (some ⟨aS,0,none⟩)∧aj wx aL 101 #[.int .i64 eg,.int .i64 eN,.int .i64 fr]∧aj wx aS 101 #[.int .i64 aH,.int .i64 cu,.int .i64 gr]∧Below wt.heap.size wt wx)
         case first=>
          as_aux_lemma=>
           have nK:Hid (Below wt.heap.size wt wt.drew):=af (Below.refl wt.heap.size wt).drew;refine cF (S:=fun w'=>w'.cell? ⟨aM,0,none⟩=some (.slice lz X.lv.length xc)∧w'.cell? ⟨eS,0,none⟩=some (.slice kG yn iy)∧w'.cell? ⟨az,t*3,none⟩=some (.int .i64 y8)) (by kernel_rfl) (b5.out _ nK.out) (fun hHeld=>?_);refine ai 0 ?_;refine ai 1 ?_;refine ai 2 ?_;refine ai 3 ?_;refine ai 4 ?_;refine ai 5 ?_;refine ai 6 ?_;refine ai 8 ?_;refine ai 9 ?_;refine ai 10 ?_;refine ai 11 ?_;refine ai 12 ?_;refine ai 13 ?_;refine ai 14 ?_;generalize wt.drew=wd at*;apply akd (C:=fun W aL aS=>Hid (Below wt.heap.size wt W)∧Hid (aj W aL 101 #[.int .i64 0,.int .i64 0,.int .i64 0])∧Hid (aj W aS 101 #[.int .i64 0,.int .i64 0,.int .i64 0])∧Hid (¬aL=aS)∧Hid (wt.heap.size≤aL)∧Hid (wt.heap.size≤aS))
           case main=>
            intro aj9;refine Tg 7 16 17 (fun K hK=>?_) (fun K hK=>?_) fun K hK=>?_
            ·go_simp
             go_at_call 73
             refine(AK.out _ nK.out).mono ?_;rintro e e1 ⟨rfl,bR⟩;have xZ:=af (nK.out.trans (bR.mono nK.out.size));refine hK.out _ _ (b5.out _ xZ.out) (fun hHeld=>?_);clear hK K bR;refine Tg 15 16 17 (fun K hK=>?_) (fun K hK=>?_) fun K hK=>?_
             ·go_simp
              go_at_call 73
              refine(jY.out _ xZ.out).mono ?_;rintro e e2 ⟨rfl,bR⟩;have Cj:=af (xZ.out.trans (bR.mono xZ.out.size));refine hK.out _ _ (b5.out _ Cj.out) (fun hHeld=>?_);clear hK K bR;refine jW 16 17 (fun K hK=>?_) fun K hK=>?_
              ·go_simp
               have hba:=Below.aA e2 (.cells #[.int .i64 0,.int .i64 0,.int .i64 0] 101);have Kv:=af (Cj.out.trans (hba.mono Cj.out.size));have Kw:Hid (aj (e2.alloc (.cells #[.int .i64 0,.int .i64 0,.int .i64 0] 101)) e2.heap.size 101 #[.int .i64 0,.int .i64 0,.int .i64 0]):=af (aj.new _ _ _);refine hK.out _ _ (b5.out _ Kv.out) (fun hHeld=>?_);obtain⟨aL,cR⟩:∃g,e2.heap.size=g:=⟨_,rfl⟩;have nN:Hid (wt.heap.size≤aL):=af (by rw [←cR];exact Cj.out.size);rw [cR]at Kw⊢;clear hK K hba cR;generalize e2.alloc (.cells #[.int .i64 0,.int .i64 0,.int .i64 0] 101)=bE at*;refine aR 17 fun K hK=>?_;go_simp;have hba:=Below.aA bE (.cells #[.int .i64 0,.int .i64 0,.int .i64 0] 101);have Ky:=af (Kv.out.trans (hba.mono Kv.out.size));have NR:Hid (aj (bE.alloc (.cells #[.int .i64 0,.int .i64 0,.int .i64 0] 101)) bE.heap.size 101 #[.int .i64 0,.int .i64 0,.int .i64 0]):=af (aj.new _ _ _);have Ez:=af (Kw.out.below hba);refine hK.out _ _ (b5.out _ Ky.out) (fun hHeld=>?_);obtain⟨aS,cR⟩:∃g,bE.heap.size=g:=⟨_,rfl⟩;have mR:Hid (wt.heap.size≤aS):=af (by rw [←cR];exact Kv.out.size);have gB:Hid (¬aL=aS):=af (by have:=Kw.out.lt;omega);rw [cR]at NR⊢;clear hK K hba cR Kw;generalize bE.alloc (.cells #[.int .i64 0,.int .i64 0,.int .i64 0] 101)=cw at*;exact aj9 cw aL aS ⟨Ky,Ez,NR,gB,nN,mR⟩
              ·go_simp
               have hba:=Below.aA e2 (.cells #[.int .i64 0,.int .i64 0,.int .i64 0] 101);have Kz:=af (Cj.out.trans (hba.mono Cj.out.size));have KA:Hid (aj (e2.alloc (.cells #[.int .i64 0,.int .i64 0,.int .i64 0] 101)) e2.heap.size 101 #[.int .i64 0,.int .i64 0,.int .i64 0]):=af (aj.new _ _ _);refine hK.out _ _ (b5.out _ Kz.out) (fun hHeld=>?_);obtain⟨aS,cR⟩:∃g,e2.heap.size=g:=⟨_,rfl⟩;have mR:Hid (wt.heap.size≤aS):=af (by rw [←cR];exact Cj.out.size);rw [cR]at KA⊢;clear hK K hba cR;generalize e2.alloc (.cells #[.int .i64 0,.int .i64 0,.int .i64 0] 101)=sH at*;refine aR 16 fun K hK=>?_;go_simp;have hba:=Below.aA sH (.cells #[.int .i64 0,.int .i64 0,.int .i64 0] 101);have KB:=af (Kz.out.trans (hba.mono Kz.out.size));have Ck:Hid (aj (sH.alloc (.cells #[.int .i64 0,.int .i64 0,.int .i64 0] 101)) sH.heap.size 101 #[.int .i64 0,.int .i64 0,.int .i64 0]):=af (aj.new _ _ _);have TN:=af (KA.out.below hba);refine hK.out _ _ (b5.out _ KB.out) (fun hHeld=>?_);obtain⟨aL,cR⟩:∃g,sH.heap.size=g:=⟨_,rfl⟩;have nN:Hid (wt.heap.size≤aL):=af (by rw [←cR];exact Kz.out.size);have gB:Hid (¬aL=aS):=af (by have:=KA.out.lt;omega);rw [cR]at Ck⊢;clear hK K hba cR KA;generalize sH.alloc (.cells #[.int .i64 0,.int .i64 0,.int .i64 0] 101)=qU at*;exact aka (aj9 qU aL aS ⟨KB,Ck,TN,gB,nN,mR⟩)
             ·go_simp
              have hba:=Below.aA e1 (.cells #[.int .i64 0,.int .i64 0,.int .i64 0] 101);have Cl:=af (xZ.out.trans (hba.mono xZ.out.size));have EC:Hid (aj (e1.alloc (.cells #[.int .i64 0,.int .i64 0,.int .i64 0] 101)) e1.heap.size 101 #[.int .i64 0,.int .i64 0,.int .i64 0]):=af (aj.new _ _ _);refine hK.out _ _ (b5.out _ Cl.out) (fun hHeld=>?_);obtain⟨aL,cR⟩:∃g,e1.heap.size=g:=⟨_,rfl⟩;have nN:Hid (wt.heap.size≤aL):=af (by rw [←cR];exact xZ.out.size);rw [cR]at EC⊢;clear hK K hba cR;generalize e1.alloc (.cells #[.int .i64 0,.int .i64 0,.int .i64 0] 101)=tQ at*;refine jW 15 17 (fun K hK=>?_) fun K hK=>?_
              ·go_simp
               go_at_call 73
               refine(jY.out _ Cl.out).mono ?_;rintro e G1 ⟨rfl,bR⟩;have KC:=af (Cl.out.trans (bR.mono Cl.out.size));have NU:=af (EC.out.below bR);refine hK.out _ _ (b5.out _ KC.out) (fun hHeld=>?_);clear hK K bR EC;refine aR 17 fun K hK=>?_;go_simp;have hba:=Below.aA G1 (.cells #[.int .i64 0,.int .i64 0,.int .i64 0] 101);have KD:=af (KC.out.trans (hba.mono KC.out.size));have NV:Hid (aj (G1.alloc (.cells #[.int .i64 0,.int .i64 0,.int .i64 0] 101)) G1.heap.size 101 #[.int .i64 0,.int .i64 0,.int .i64 0]):=af (aj.new _ _ _);have ED:=af (NU.out.below hba);refine hK.out _ _ (b5.out _ KD.out) (fun hHeld=>?_);obtain⟨aS,cR⟩:∃g,G1.heap.size=g:=⟨_,rfl⟩;have mR:Hid (wt.heap.size≤aS):=af (by rw [←cR];exact KC.out.size);have gB:Hid (¬aL=aS):=af (by have:=NU.out.lt;omega);rw [cR]at NV⊢;clear hK K hba cR NU;generalize G1.alloc (.cells #[.int .i64 0,.int .i64 0,.int .i64 0] 101)=Cm at*;exact aka (aj9 Cm aL aS ⟨KD,ED,NV,gB,nN,mR⟩)
              ·go_simp
               have hba:=Below.aA tQ (.cells #[.int .i64 0,.int .i64 0,.int .i64 0] 101);have KE:=af (Cl.out.trans (hba.mono Cl.out.size));have NY:Hid (aj (tQ.alloc (.cells #[.int .i64 0,.int .i64 0,.int .i64 0] 101)) tQ.heap.size 101 #[.int .i64 0,.int .i64 0,.int .i64 0]):=af (aj.new _ _ _);have TP:=af (EC.out.below hba);refine hK.out _ _ (b5.out _ KE.out) (fun hHeld=>?_);obtain⟨aS,cR⟩:∃g,tQ.heap.size=g:=⟨_,rfl⟩;have mR:Hid (wt.heap.size≤aS):=af (by rw [←cR];exact Cl.out.size);have gB:Hid (¬aL=aS):=af (by have:=EC.out.lt;omega);rw [cR]at NY⊢;clear hK K hba cR EC;generalize tQ.alloc (.cells #[.int .i64 0,.int .i64 0,.int .i64 0] 101)=aio at*;refine aR 15 fun K hK=>?_;go_simp;go_at_call 73
               refine(jY.out _ KE.out).mono ?_;rintro e Cn ⟨rfl,bR⟩;have KF:=af (KE.out.trans (bR.mono KE.out.size));have EF:=af (TP.out.below bR);have TQ:=af (NY.out.below bR);refine hK.out _ _ (b5.out _ KF.out) (fun hHeld=>?_);clear hK K bR TP NY;exact aka (aj9 Cn aL aS ⟨KF,EF,TQ,gB,nN,mR⟩)
             ·go_simp
              have hba:=Below.aA e1 (.cells #[.int .i64 0,.int .i64 0,.int .i64 0] 101);have Co:=af (xZ.out.trans (hba.mono xZ.out.size));have EH:Hid (aj (e1.alloc (.cells #[.int .i64 0,.int .i64 0,.int .i64 0] 101)) e1.heap.size 101 #[.int .i64 0,.int .i64 0,.int .i64 0]):=af (aj.new _ _ _);refine hK.out _ _ (b5.out _ Co.out) (fun hHeld=>?_);obtain⟨aS,cR⟩:∃g,e1.heap.size=g:=⟨_,rfl⟩;have mR:Hid (wt.heap.size≤aS):=af (by rw [←cR];exact xZ.out.size);rw [cR]at EH⊢;clear hK K hba cR;generalize e1.alloc (.cells #[.int .i64 0,.int .i64 0,.int .i64 0] 101)=G4 at*;refine jW 15 16 (fun K hK=>?_) fun K hK=>?_
              ·go_simp
               go_at_call 73
               refine(jY.out _ Co.out).mono ?_;rintro e G5 ⟨rfl,bR⟩;have KG:=af (Co.out.trans (bR.mono Co.out.size));have N0:=af (EH.out.below bR);refine hK.out _ _ (b5.out _ KG.out) (fun hHeld=>?_);clear hK K bR EH;refine aR 16 fun K hK=>?_;go_simp;have hba:=Below.aA G5 (.cells #[.int .i64 0,.int .i64 0,.int .i64 0] 101);have KH:=af (KG.out.trans (hba.mono KG.out.size));have Cp:Hid (aj (G5.alloc (.cells #[.int .i64 0,.int .i64 0,.int .i64 0] 101)) G5.heap.size 101 #[.int .i64 0,.int .i64 0,.int .i64 0]):=af (aj.new _ _ _);have TR:=af (N0.out.below hba);refine hK.out _ _ (b5.out _ KH.out) (fun hHeld=>?_);obtain⟨aL,cR⟩:∃g,G5.heap.size=g:=⟨_,rfl⟩;have nN:Hid (wt.heap.size≤aL):=af (by rw [←cR];exact KG.out.size);have gB:Hid (¬aL=aS):=af (by have:=N0.out.lt;omega);rw [cR]at Cp⊢;clear hK K hba cR N0;generalize G5.alloc (.cells #[.int .i64 0,.int .i64 0,.int .i64 0] 101)=Cq at*;exact aka (aj9 Cq aL aS ⟨KH,Cp,TR,gB,nN,mR⟩)
              ·go_simp
               have hba:=Below.aA G4 (.cells #[.int .i64 0,.int .i64 0,.int .i64 0] 101);have KI:=af (Co.out.trans (hba.mono Co.out.size));have N2:Hid (aj (G4.alloc (.cells #[.int .i64 0,.int .i64 0,.int .i64 0] 101)) G4.heap.size 101 #[.int .i64 0,.int .i64 0,.int .i64 0]):=af (aj.new _ _ _);have TS:=af (EH.out.below hba);refine hK.out _ _ (b5.out _ KI.out) (fun hHeld=>?_);obtain⟨aL,cR⟩:∃g,G4.heap.size=g:=⟨_,rfl⟩;have nN:Hid (wt.heap.size≤aL):=af (by rw [←cR];exact Co.out.size);have gB:Hid (¬aL=aS):=af (by have:=EH.out.lt;omega);rw [cR]at N2⊢;clear hK K hba cR EH;generalize G4.alloc (.cells #[.int .i64 0,.int .i64 0,.int .i64 0] 101)=aip at*;refine aR 15 fun K hK=>?_;go_simp;go_at_call 73
               refine(jY.out _ KI.out).mono ?_;rintro e e16 ⟨rfl,bR⟩;have KJ:=af (KI.out.trans (bR.mono KI.out.size));have EJ:=af (N2.out.below bR);have TT:=af (TS.out.below bR);refine hK.out _ _ (b5.out _ KJ.out) (fun hHeld=>?_);clear hK K bR N2 TS;exact aka (aj9 e16 aL aS ⟨KJ,EJ,TT,gB,nN,mR⟩)
            ·go_simp
             have hba:=Below.aA wd (.cells #[.int .i64 0,.int .i64 0,.int .i64 0] 101);have Cr:=af (nK.out.trans (hba.mono nK.out.size));have EL:Hid (aj (wd.alloc (.cells #[.int .i64 0,.int .i64 0,.int .i64 0] 101)) wd.heap.size 101 #[.int .i64 0,.int .i64 0,.int .i64 0]):=af (aj.new _ _ _);refine hK.out _ _ (b5.out _ Cr.out) (fun hHeld=>?_);obtain⟨aL,cR⟩:∃g,wd.heap.size=g:=⟨_,rfl⟩;have nN:Hid (wt.heap.size≤aL):=af (by rw [←cR];exact nK.out.size);rw [cR]at EL⊢;clear hK K hba cR;generalize wd.alloc (.cells #[.int .i64 0,.int .i64 0,.int .i64 0] 101)=e17 at*;refine jW 7 17 (fun K hK=>?_) fun K hK=>?_
             ·go_simp
              go_at_call 73
              refine(AK.out _ Cr.out).mono ?_;rintro e G8 ⟨rfl,bR⟩;have Cs:=af (Cr.out.trans (bR.mono Cr.out.size));have G9:=af (EL.out.below bR);refine hK.out _ _ (b5.out _ Cs.out) (fun hHeld=>?_);clear hK K bR EL;refine jW 15 17 (fun K hK=>?_) fun K hK=>?_
              ·go_simp
               go_at_call 73
               refine(jY.out _ Cs.out).mono ?_;rintro e e19 ⟨rfl,bR⟩;have KK:=af (Cs.out.trans (bR.mono Cs.out.size));have N4:=af (G9.out.below bR);refine hK.out _ _ (b5.out _ KK.out) (fun hHeld=>?_);clear hK K bR G9;refine aR 17 fun K hK=>?_;go_simp;have hba:=Below.aA e19 (.cells #[.int .i64 0,.int .i64 0,.int .i64 0] 101);have KL:=af (KK.out.trans (hba.mono KK.out.size));have N5:Hid (aj (e19.alloc (.cells #[.int .i64 0,.int .i64 0,.int .i64 0] 101)) e19.heap.size 101 #[.int .i64 0,.int .i64 0,.int .i64 0]):=af (aj.new _ _ _);have EM:=af (N4.out.below hba);refine hK.out _ _ (b5.out _ KL.out) (fun hHeld=>?_);obtain⟨aS,cR⟩:∃g,e19.heap.size=g:=⟨_,rfl⟩;have mR:Hid (wt.heap.size≤aS):=af (by rw [←cR];exact KK.out.size);have gB:Hid (¬aL=aS):=af (by have:=N4.out.lt;omega);rw [cR]at N5⊢;clear hK K hba cR N4;generalize e19.alloc (.cells #[.int .i64 0,.int .i64 0,.int .i64 0] 101)=Ct at*;exact aka (aj9 Ct aL aS ⟨KL,EM,N5,gB,nN,mR⟩)
              ·go_simp
               have hba:=Below.aA G8 (.cells #[.int .i64 0,.int .i64 0,.int .i64 0] 101);have KM:=af (Cs.out.trans (hba.mono Cs.out.size));have N7:Hid (aj (G8.alloc (.cells #[.int .i64 0,.int .i64 0,.int .i64 0] 101)) G8.heap.size 101 #[.int .i64 0,.int .i64 0,.int .i64 0]):=af (aj.new _ _ _);have TU:=af (G9.out.below hba);refine hK.out _ _ (b5.out _ KM.out) (fun hHeld=>?_);obtain⟨aS,cR⟩:∃g,G8.heap.size=g:=⟨_,rfl⟩;have mR:Hid (wt.heap.size≤aS):=af (by rw [←cR];exact Cs.out.size);have gB:Hid (¬aL=aS):=af (by have:=G9.out.lt;omega);rw [cR]at N7⊢;clear hK K hba cR G9;generalize G8.alloc (.cells #[.int .i64 0,.int .i64 0,.int .i64 0] 101)=aiq at*;refine aR 15 fun K hK=>?_;go_simp;go_at_call 73
               refine(jY.out _ KM.out).mono ?_;rintro e Cu ⟨rfl,bR⟩;have KN:=af (KM.out.trans (bR.mono KM.out.size));have EO:=af (TU.out.below bR);have TV:=af (N7.out.below bR);refine hK.out _ _ (b5.out _ KN.out) (fun hHeld=>?_);clear hK K bR TU N7;exact aka (aj9 Cu aL aS ⟨KN,EO,TV,gB,nN,mR⟩)
             ·go_simp
              have hba:=Below.aA e17 (.cells #[.int .i64 0,.int .i64 0,.int .i64 0] 101);have KO:=af (Cr.out.trans (hba.mono Cr.out.size));have N9:Hid (aj (e17.alloc (.cells #[.int .i64 0,.int .i64 0,.int .i64 0] 101)) e17.heap.size 101 #[.int .i64 0,.int .i64 0,.int .i64 0]):=af (aj.new _ _ _);have TW:=af (EL.out.below hba);refine hK.out _ _ (b5.out _ KO.out) (fun hHeld=>?_);obtain⟨aS,cR⟩:∃g,e17.heap.size=g:=⟨_,rfl⟩;have mR:Hid (wt.heap.size≤aS):=af (by rw [←cR];exact Cr.out.size);have gB:Hid (¬aL=aS):=af (by have:=EL.out.lt;omega);rw [cR]at N9⊢;clear hK K hba cR EL;generalize e17.alloc (.cells #[.int .i64 0,.int .i64 0,.int .i64 0] 101)=air at*;refine aR 7 fun K hK=>?_;go_simp;go_at_call 73
              refine(AK.out _ KO.out).mono ?_;rintro e ais ⟨rfl,bR⟩;have KP:=af (KO.out.trans (bR.mono KO.out.size));have TX:=af (TW.out.below bR);have TY:=af (N9.out.below bR);refine hK.out _ _ (b5.out _ KP.out) (fun hHeld=>?_);clear hK K bR TW N9;refine aR 15 fun K hK=>?_;go_simp;go_at_call 73
              refine(jY.out _ KP.out).mono ?_;rintro e Cv ⟨rfl,bR⟩;have KQ:=af (KP.out.trans (bR.mono KP.out.size));have EQ:=af (TX.out.below bR);have T1:=af (TY.out.below bR);refine hK.out _ _ (b5.out _ KQ.out) (fun hHeld=>?_);clear hK K bR TX TY;exact aka (aj9 Cv aL aS ⟨KQ,EQ,T1,gB,nN,mR⟩)
            ·go_simp
             have hba:=Below.aA wd (.cells #[.int .i64 0,.int .i64 0,.int .i64 0] 101);have Cw:=af (nK.out.trans (hba.mono nK.out.size));have ES:Hid (aj (wd.alloc (.cells #[.int .i64 0,.int .i64 0,.int .i64 0] 101)) wd.heap.size 101 #[.int .i64 0,.int .i64 0,.int .i64 0]):=af (aj.new _ _ _);refine hK.out _ _ (b5.out _ Cw.out) (fun hHeld=>?_);obtain⟨aS,cR⟩:∃g,wd.heap.size=g:=⟨_,rfl⟩;have mR:Hid (wt.heap.size≤aS):=af (by rw [←cR];exact nK.out.size);rw [cR]at ES⊢;clear hK K hba cR;generalize wd.alloc (.cells #[.int .i64 0,.int .i64 0,.int .i64 0] 101)=Hh at*;refine jW 7 16 (fun K hK=>?_) fun K hK=>?_
             ·go_simp
              go_at_call 73
              refine(AK.out _ Cw.out).mono ?_;rintro e Hj ⟨rfl,bR⟩;have Cx:=af (Cw.out.trans (bR.mono Cw.out.size));have Hl:=af (ES.out.below bR);refine hK.out _ _ (b5.out _ Cx.out) (fun hHeld=>?_);clear hK K bR ES;refine jW 15 16 (fun K hK=>?_) fun K hK=>?_
              ·go_simp
               go_at_call 73
               refine(jY.out _ Cx.out).mono ?_;rintro e Ho ⟨rfl,bR⟩;have KR:=af (Cx.out.trans (bR.mono Cx.out.size));have Ob:=af (Hl.out.below bR);refine hK.out _ _ (b5.out _ KR.out) (fun hHeld=>?_);clear hK K bR Hl;refine aR 16 fun K hK=>?_;go_simp;have hba:=Below.aA Ho (.cells #[.int .i64 0,.int .i64 0,.int .i64 0] 101);have KS:=af (KR.out.trans (hba.mono KR.out.size));have Cy:Hid (aj (Ho.alloc (.cells #[.int .i64 0,.int .i64 0,.int .i64 0] 101)) Ho.heap.size 101 #[.int .i64 0,.int .i64 0,.int .i64 0]):=af (aj.new _ _ _);have T2:=af (Ob.out.below hba);refine hK.out _ _ (b5.out _ KS.out) (fun hHeld=>?_);obtain⟨aL,cR⟩:∃g,Ho.heap.size=g:=⟨_,rfl⟩;have nN:Hid (wt.heap.size≤aL):=af (by rw [←cR];exact KR.out.size);have gB:Hid (¬aL=aS):=af (by have:=Ob.out.lt;omega);rw [cR]at Cy⊢;clear hK K hba cR Ob;generalize Ho.alloc (.cells #[.int .i64 0,.int .i64 0,.int .i64 0] 101)=Cz at*;exact aka (aj9 Cz aL aS ⟨KS,Cy,T2,gB,nN,mR⟩)
              ·go_simp
               have hba:=Below.aA Hj (.cells #[.int .i64 0,.int .i64 0,.int .i64 0] 101);have KT:=af (Cx.out.trans (hba.mono Cx.out.size));have Od:Hid (aj (Hj.alloc (.cells #[.int .i64 0,.int .i64 0,.int .i64 0] 101)) Hj.heap.size 101 #[.int .i64 0,.int .i64 0,.int .i64 0]):=af (aj.new _ _ _);have T3:=af (Hl.out.below hba);refine hK.out _ _ (b5.out _ KT.out) (fun hHeld=>?_);obtain⟨aL,cR⟩:∃g,Hj.heap.size=g:=⟨_,rfl⟩;have nN:Hid (wt.heap.size≤aL):=af (by rw [←cR];exact Cx.out.size);have gB:Hid (¬aL=aS):=af (by have:=Hl.out.lt;omega);rw [cR]at Od⊢;clear hK K hba cR Hl;generalize Hj.alloc (.cells #[.int .i64 0,.int .i64 0,.int .i64 0] 101)=ait at*;refine aR 15 fun K hK=>?_;go_simp;go_at_call 73
               refine(jY.out _ KT.out).mono ?_;rintro e CA ⟨rfl,bR⟩;have KU:=af (KT.out.trans (bR.mono KT.out.size));have EU:=af (Od.out.below bR);have T4:=af (T3.out.below bR);refine hK.out _ _ (b5.out _ KU.out) (fun hHeld=>?_);clear hK K bR Od T3;exact aka (aj9 CA aL aS ⟨KU,EU,T4,gB,nN,mR⟩)
             ·go_simp
              have hba:=Below.aA Hh (.cells #[.int .i64 0,.int .i64 0,.int .i64 0] 101);have KV:=af (Cw.out.trans (hba.mono Cw.out.size));have Og:Hid (aj (Hh.alloc (.cells #[.int .i64 0,.int .i64 0,.int .i64 0] 101)) Hh.heap.size 101 #[.int .i64 0,.int .i64 0,.int .i64 0]):=af (aj.new _ _ _);have T6:=af (ES.out.below hba);refine hK.out _ _ (b5.out _ KV.out) (fun hHeld=>?_);obtain⟨aL,cR⟩:∃g,Hh.heap.size=g:=⟨_,rfl⟩;have nN:Hid (wt.heap.size≤aL):=af (by rw [←cR];exact Cw.out.size);have gB:Hid (¬aL=aS):=af (by have:=ES.out.lt;omega);rw [cR]at Og⊢;clear hK K hba cR ES;generalize Hh.alloc (.cells #[.int .i64 0,.int .i64 0,.int .i64 0] 101)=aiu at*;refine aR 7 fun K hK=>?_;go_simp;go_at_call 73
              refine(AK.out _ KV.out).mono ?_;rintro e aiv ⟨rfl,bR⟩;have KW:=af (KV.out.trans (bR.mono KV.out.size));have T7:=af (Og.out.below bR);have T8:=af (T6.out.below bR);refine hK.out _ _ (b5.out _ KW.out) (fun hHeld=>?_);clear hK K bR Og T6;refine aR 15 fun K hK=>?_;go_simp;go_at_call 73
              refine(jY.out _ KW.out).mono ?_;rintro e CB ⟨rfl,bR⟩;have KX:=af (KW.out.trans (bR.mono KW.out.size));have EW:=af (T7.out.below bR);have T9:=af (T8.out.below bR);refine hK.out _ _ (b5.out _ KX.out) (fun hHeld=>?_);clear hK K bR T7 T8;exact aka (aj9 CB aL aS ⟨KX,EW,T9,gB,nN,mR⟩)
           case leaf=>
            intro W aL aS ⟨eu,akb,akf,gB,nN,mR⟩;have x0:W.cell? ⟨aL,0,none⟩=some (.int .i64 0):=akb.out.cell 0;have x1:W.cell? ⟨aL,1,none⟩=some (.int .i64 0):=akb.out.cell 1;have bl:W.cell? ⟨aL,2,none⟩=some (.int .i64 0):=akb.out.cell 2;have fx:∀o,W.frozen? ⟨aL,o,none⟩=false:=fun o=>akb.out.frozen o;refine aR 18 fun K hK=>?_;go_simp;have YR:=af (akb.out.cW (.int .i64 eg) (.int .i64 eN) (.int .i64 fr));have iQ:=af (akf.out.keeps (aD.cW W aL (.int .i64 eg) (.int .i64 eN) (.int .i64 fr)) (show¬aS=aL from fun e=>by have:=gB.out;omega));have iG:=af (eu.out.trans ((aD.cW W aL (.int .i64 eg) (.int .i64 eN) (.int .i64 fr)).below (B:=wt.heap.size) (fun k hk=>by have e:k=aL:=hk;rw [e];exact nN.out) eu.out.size));refine hK.out _ _ (b5.out _ iG.out) (fun hHeld=>?_);clear hK K x0 x1 bl fx akb akf eu;generalize ((W.setCell ⟨aL,0,none⟩ (.int .i64 eg)).setCell ⟨aL,1,none⟩ (.int .i64 eN)).setCell ⟨aL,2,none⟩ (.int .i64 fr)=akc at*;have y0:akc.cell? ⟨aS,0,none⟩=some (.int .i64 0):=iQ.out.cell 0;have y1:akc.cell? ⟨aS,1,none⟩=some (.int .i64 0):=iQ.out.cell 1;have dw:akc.cell? ⟨aS,2,none⟩=some (.int .i64 0):=iQ.out.cell 2;have mS:∀o,akc.frozen? ⟨aS,o,none⟩=false:=fun o=>iQ.out.frozen o;refine cO 19 fun K hK=>?_;go_simp;refine hK.out _ _ ?_;clear hK K hHeld y0 y1 dw mS;have mT:=af (YR.out.keeps (aD.cW akc aS (.int .i64 aH) (.int .i64 cu) (.int .i64 gr)) (show¬aL=aS from fun e=>by have:=gB.out;omega));have mU:=af (iQ.out.cW (.int .i64 aH) (.int .i64 cu) (.int .i64 gr));have fH:=af (iG.out.trans ((aD.cW akc aS (.int .i64 aH) (.int .i64 cu) (.int .i64 gr)).below (B:=wt.heap.size) (fun k hk=>by have e:k=aS:=hk;rw [e];exact mR.out) iG.out.size));go_wp2_with fail
            go_meet;exact⟨aL,aS,rfl,rfl,mT.out,mU.out,fH.out⟩
         case rest=>
         obtain⟨aL,aS,rfl,rfl,rK,AL,aP⟩:=hcut;have kI:=af (y7.out.below aP);generalize wc=fy at*;have k0:fy.cell? ⟨aL,0,none⟩=some (.int .i64 eg):=rK.cell 0;have k1:fy.cell? ⟨aL,1,none⟩=some (.int .i64 eN):=rK.cell 1;have k2:fy.cell? ⟨aL,2,none⟩=some (.int .i64 fr):=rK.cell 2;have m0:fy.cell? ⟨aS,0,none⟩=some (.int .i64 aH):=AL.cell 0;have m1:fy.cell? ⟨aS,1,none⟩=some (.int .i64 cu):=AL.cell 1;have m2:fy.cell? ⟨aS,2,none⟩=some (.int .i64 gr):=AL.cell 2;clear rK AL aP y7 AK jY b5;by_cases heq:(⟨eg,eN,fr⟩:ax)=⟨aH,cu,gr⟩
         ·as_aux_lemma=>
          have x2:Hid (z=q+(fI A V k++jV (k:Int) kE kF j++(dZ.take (t+1)).flatMap (ji (k:Int) s X.lv Y.lv)).length):=af (by rw [Ku.out,Ci.out,if_neg (fun h=>h heq),List.append_nil];exact hz.out);have tT:Hid (vV w fy ga bX aM eS qo qp au.heap.size (some ⟨g1,0,none⟩) (some ⟨g2,0,none⟩) c d n q (fI A V k++jV (k:Int) kE kF j++(dZ.take (t+1)).flatMap (ji (k:Int) s X.lv Y.lv)) (.slice va vn vc) #[.slice lz X.lv.length xc,.int .i64 mN,.int .i64 l7,.int .i64 xr,.bool iW] #[.slice kG yn iy,.int .i64 fJ,.int .i64 fK,.int .i64 yr,.bool l8] (.slice lz X.lv.length xc) (.slice kG yn iy) (.slice (some ⟨az,0,none⟩) ml mc) X.lv Y.lv dZ):=af (by rw [Ku.out,Ci.out,if_neg (fun h=>h heq),List.append_nil];exact kI.out);injection heq with h1 h2 h3;subst h1;subst h2;subst h3;clear kI hz;go_wp2_with fail
          go_roundw
          case rel=>exact⟨t+1,z,va,vn,vc,by go_num,tP,rfl,rfl,x2,tT.out⟩
          case measure=>simp [RowKit.intOf];omega
         ·skip
          have o5:Hid (¬(⟨eg,eN,fr⟩:ax)=⟨aH,cu,gr⟩):=af heq;go_upto_region 24 with(fail)
          go_cut [142] (fun u wx=>u= .bool true∧fy=wx)
          case first=>
           as_aux_lemma=>
            by_cases h1:eg=aH
            ·subst h1
             by_cases h2:eN=cu
             ·subst h2
              have h3:¬fr=gr:=fun h=>o5.out (by rw [h]);clear heq;go_wp2_with fail
              go_meet;exact⟨by first|rfl|(simp;done)|(simp [h3];done),rfl⟩
             ·clear heq
              go_wp2_with fail
              go_meet;exact⟨by first|rfl|(simp;done)|(simp [h2];done),rfl⟩
            ·clear heq
             go_wp2_with fail
             go_meet;exact⟨by first|rfl|(simp;done)|(simp [h1];done),rfl⟩
          case rest=>
          obtain⟨rfl,rfl⟩:=hcut;clear heq k0 k1 k2;obtain⟨sI,wh⟩:∃Hs:List aB,fI A V k++jV (k:Int) kE kF j++(dZ.take t).flatMap (ji (k:Int) s X.lv Y.lv)=Hs:=⟨_,rfl⟩;rw [wh]at kI hz qT;have AO:=af wh;clear wh;obtain⟨dM,hz1⟩:∃x:Int,z+1=x:=⟨_,rfl⟩;have tU:=af hz1;have Ua:IntKind.i64.wrap (z+1)=dM:=by rw [hz1];exact IntWalk.i64_in _ (by omega)
          clear hz1;have hba:=Below.aA fy (.cells #[.int .i64 dM,.int .i64 k,.int .i64 s,.int .i64 aH,.int .i64 cu,.int .i64 gr,.bool false] 86);have wj:Hid (aj (fy.alloc (.cells #[.int .i64 dM,.int .i64 k,.int .i64 s,.int .i64 aH,.int .i64 cu,.int .i64 gr,.bool false] 86)) fy.heap.size 86 (gb.cells ⟨dM,k,s,aH,cu,gr,false⟩).toArray):=af (aj.new _ _ _);have cP:=af hba;have AP:=af (kI.out.d.row.below hba);have hM:Hid (w.heap.size≤(fy.alloc (.cells #[.int .i64 dM,.int .i64 k,.int .i64 s,.int .i64 aH,.int .i64 cu,.int .i64 gr,.bool false] 86)).heap.size):=af (Nat.le_trans kI.out.d.aF.size hba.size);clear hba
          go_wp2_with (first
           |(at_builtin;go_loud (refine gb.push rfl (.tmp 145) (.tmp 156) rfl w.heap.size (.slice va vn vc) (jy q (sI)) rfl AP.out fy.heap.size ⟨dM,k,s,aH,cu,gr,false⟩ rfl wj.out.lt wj.out.fU (by rw [B7];exact qT.out) hM.out ?_)))
          intro v' o6 cS fW _;obtain⟨a5,cj,iA⟩:=cS.form;obtain⟨EY,AQ⟩:∃x,(jy q (sI)++ [(⟨dM,k,s,aH,cu,gr,false⟩:aB)]).length=x:=⟨_,rfl⟩;rw [AQ]at iA;clear AQ;subst iA
          have AU:(⟨dM,k,s,aH,cu,gr,false⟩:aB)={mM k s ⟨aH,cu,gr⟩ false with seq:=q+((sI).length:Int)+1}:=by
           have h1:=tU.out;have h2:=hz.out;rw [←h1,h2];rfl
          rw [AU]at cS;have tT:=af (kI.out.push (m:=mM k s ⟨aH,cu,gr⟩ false) cP.out cS fW);clear AU;have x2:Hid (dM=q+((sI)++ [mM k s ⟨aH,cu,gr⟩ false]).length):=af (by have h1:=tU.out;have h2:=hz.out;rw [List.length_append,List.length_singleton];omega);clear cS fW cP wj AP hM kI;have CD:Hid (dM=q+(fI A V k++jV (k:Int) kE kF j++(dZ.take (t+1)).flatMap (ji (k:Int) s X.lv Y.lv)).length):=af (by rw [Ku.out,Ci.out,if_pos o5.out,←List.append_assoc,AO.out];exact x2.out);have CF:Hid (vV w o6 ga bX aM eS qo qp au.heap.size (some ⟨g1,0,none⟩) (some ⟨g2,0,none⟩) c d n q (fI A V k++jV (k:Int) kE kF j++(dZ.take (t+1)).flatMap (ji (k:Int) s X.lv Y.lv)) (.slice a5 EY cj) #[.slice lz X.lv.length xc,.int .i64 mN,.int .i64 l7,.int .i64 xr,.bool iW] #[.slice kG yn iy,.int .i64 fJ,.int .i64 fK,.int .i64 yr,.bool l8] (.slice lz X.lv.length xc) (.slice kG yn iy) (.slice (some ⟨az,0,none⟩) ml mc) X.lv Y.lv dZ):=af (by rw [Ku.out,Ci.out,if_pos o5.out,←List.append_assoc,AO.out];exact tT.out);clear tT x2 hz;go_wp2_with fail
          go_roundw
          case rel=>exact⟨t+1,dM,a5,EY,cj,by go_num,tP,rfl,rfl,CD,CF.out⟩
          case measure=>simp [RowKit.intOf];omega
        ·skip
         have htl:t=ml:=by omega
         have Ub:Hid (fI A V k++jV (k:Int) kE kF j++(dZ.take t).flatMap (ji (k:Int) s X.lv Y.lv)=fI A V k++jV (k:Int) kE kF j++tI (k:Int) s X.lv Y.lv):=af (by unfold tI;rw [htl,←sC.out,List.take_length,Cg.out]);rw [Ub.out]at hz qT;have kI:Hid (vV w wt ga bX aM eS qo qp au.heap.size (some ⟨g1,0,none⟩) (some ⟨g2,0,none⟩) c d n q (fI A V k++jV (k:Int) kE kF j++tI (k:Int) s X.lv Y.lv) (.slice va vn vc) #[.slice lz X.lv.length xc,.int .i64 mN,.int .i64 l7,.int .i64 xr,.bool iW] #[.slice kG yn iy,.int .i64 fJ,.int .i64 fK,.int .i64 yr,.bool l8] (.slice lz X.lv.length xc) (.slice kG yn iy) (.slice (some ⟨az,0,none⟩) ml mc) X.lv Y.lv dZ):=af (by rw [←Ub.out];exact y7.out);clear htl y7;have x1:wt.cell? ⟨aM,1,none⟩=some (.int .i64 mN):=kI.out.cY.cell 1;have bl:wt.cell? ⟨aM,2,none⟩=some (.int .i64 l7):=kI.out.cY.cell 2;have dK:wt.cell? ⟨aM,3,none⟩=some (.int .i64 xr):=kI.out.cY.cell 3;have ew:wt.cell? ⟨aM,4,none⟩=some (.bool iW):=kI.out.cY.cell 4;have y1:wt.cell? ⟨eS,1,none⟩=some (.int .i64 fJ):=kI.out.vT.cell 1;have dw:wt.cell? ⟨eS,2,none⟩=some (.int .i64 fK):=kI.out.vT.cell 2;have mV:wt.cell? ⟨eS,3,none⟩=some (.int .i64 yr):=kI.out.vT.cell 3;have pP:wt.cell? ⟨eS,4,none⟩=some (.bool l8):=kI.out.vT.cell 4;have EZ:Hid (Az (k:Int) s X Y=if iW≠l8∨(⟨mN,l7,xr⟩:ax)≠⟨fJ,fK,yr⟩then [mM k s ⟨fJ,fK,yr⟩ true]else []):=af (by unfold Az;rw [Tt.out.1,Tt.out.2,Tv.out.1,Tv.out.2]);have E0:Hid (fI A V k++jV (k:Int) kE kF (j+1)=fI A V k++jV (k:Int) kE kF j++tI (k:Int) s X.lv Y.lv++Az (k:Int) s X Y):=af (by rw [NG.out];unfold uT;simp only [List.append_assoc]);obtain⟨cd,hcd⟩:∃b,decide (iW≠l8∨(⟨mN,l7,xr⟩:ax)≠⟨fJ,fK,yr⟩)=b:=⟨_,rfl⟩;have kS:=af hcd;clear hcd;go_upto_region 27 with(fail)
         go_cut [169] (fun u wx=>u= .bool cd∧wt=wx)
         case first=>
          as_aux_lemma=>
           by_cases y9:iW=l8
           ·subst y9
            by_cases h1:mN=fJ
            ·subst h1
             by_cases h2:l7=fK
             ·subst h2
              by_cases h3:xr=yr
              ·subst h3
               obtain rfl:cd=false:=by rw [←kS.out];exact decide_eq_false (by rintro(h|h);exact h rfl;exact h rfl)
               clear kS;go_wp2_with fail
               go_meet;exact⟨by first|rfl|(simp;done),rfl⟩
              ·obtain rfl:cd=true:=by rw [←kS.out];exact decide_eq_true (.inr fun h=>h3 (by injection h))
               clear kS;go_wp2_with fail
               go_meet;exact⟨by first|rfl|(simp;done)|(simp [h3];done),rfl⟩
             ·obtain rfl:cd=true:=by rw [←kS.out];exact decide_eq_true (.inr fun h=>h2 (by injection h))
              clear kS;go_wp2_with fail
              go_meet;exact⟨by first|rfl|(simp;done)|(simp [h2];done),rfl⟩
            ·obtain rfl:cd=true:=by rw [←kS.out];exact decide_eq_true (.inr fun h=>h1 (by injection h))
             clear kS;go_wp2_with fail
             go_meet;exact⟨by first|rfl|(simp;done)|(simp [h1];done),rfl⟩
           ·obtain rfl:cd=true:=by rw [←kS.out];exact decide_eq_true (.inl y9)
            have CG:(iW !=l8)=true:=by rw [bne_iff_ne];exact y9
            have Uc:=af y9;clear kS;cases iW with
            |false=>
             cases l8 with
             |false=>exact absurd rfl Uc.out
             |true=>
              clear y9 CG;go_wp2_with fail
              go_meet;exact⟨by first|rfl|(simp;done),rfl⟩
            |true=>
             cases l8 with
             |true=>exact absurd rfl Uc.out
             |false=>
              clear y9 CG;go_wp2_with fail
              go_meet;exact⟨by first|rfl|(simp;done),rfl⟩
         case rest=>
         obtain⟨rfl,rfl⟩:=hcut;clear x1 bl dK ew pP;cases cd with
         |false=>
          as_aux_lemma=>
           have AV:=af (of_decide_eq_false kS.out);have CD:Hid (z=q+(fI A V k++jV (k:Int) kE kF (j+1)).length):=af (by rw [E0.out,EZ.out,if_neg AV.out,List.append_nil];exact hz.out);have abP:Hid (fI A V k++jV (k:Int) kE kF (j+1)=fI A V k++jV (k:Int) kE kF j++tI (k:Int) s X.lv Y.lv):=af (by rw [E0.out,EZ.out,if_neg AV.out,List.append_nil]);have CF:Hid (vU w wt ga bX (some ⟨g1,0,none⟩) (some ⟨g2,0,none⟩) c d n q (fI A V k++jV (k:Int) kE kF (j+1)) (.slice va vn vc)):=af (by rw [abP.out];exact kI.out.d);clear kI hz abP kS y1 dw mV;go_wp2_with fail
           go_roundw
           case rel=>exact⟨j+1,s+1,z,va,vn,vc,by go_num,by have:=Cc.out;omega,by omega,rfl,rfl,CD,CF.out⟩
           case measure=>simp [RowKit.intOf];omega
         |true=>
          have AV:=af (of_decide_eq_true kS.out);clear kS;obtain⟨sI,wh⟩:∃Hs:List aB,fI A V k++jV (k:Int) kE kF j++tI (k:Int) s X.lv Y.lv=Hs:=⟨_,rfl⟩;rw [wh]at kI hz qT;have AO:=af wh;clear wh;obtain⟨dM,hz1⟩:∃x:Int,z+1=x:=⟨_,rfl⟩;have tU:=af hz1;have Ua:IntKind.i64.wrap (z+1)=dM:=by rw [hz1];exact IntWalk.i64_in _ (by omega)
          clear hz1;have hba:=Below.aA wt (.cells #[.int .i64 dM,.int .i64 k,.int .i64 s,.int .i64 fJ,.int .i64 fK,.int .i64 yr,.bool true] 86);have wj:Hid (aj (wt.alloc (.cells #[.int .i64 dM,.int .i64 k,.int .i64 s,.int .i64 fJ,.int .i64 fK,.int .i64 yr,.bool true] 86)) wt.heap.size 86 (gb.cells ⟨dM,k,s,fJ,fK,yr,true⟩).toArray):=af (aj.new _ _ _);have cP:=af hba;have AP:=af (kI.out.d.row.below hba);have hM:Hid (w.heap.size≤(wt.alloc (.cells #[.int .i64 dM,.int .i64 k,.int .i64 s,.int .i64 fJ,.int .i64 fK,.int .i64 yr,.bool true] 86)).heap.size):=af (Nat.le_trans kI.out.d.aF.size hba.size);clear hba
          go_wp2_with (first
           |(at_builtin;go_loud (refine gb.push rfl (.tmp 172) (.tmp 186) rfl w.heap.size (.slice va vn vc) (jy q (sI)) rfl AP.out wt.heap.size ⟨dM,k,s,fJ,fK,yr,true⟩ rfl wj.out.lt wj.out.fU (by rw [B7];exact qT.out) hM.out ?_)))
          intro v' o6 cS fW _;obtain⟨a5,cj,iA⟩:=cS.form;obtain⟨EY,AQ⟩:∃x,(jy q (sI)++ [(⟨dM,k,s,fJ,fK,yr,true⟩:aB)]).length=x:=⟨_,rfl⟩;rw [AQ]at iA;clear AQ;subst iA
          have AU:(⟨dM,k,s,fJ,fK,yr,true⟩:aB)={mM k s ⟨fJ,fK,yr⟩ true with seq:=q+((sI).length:Int)+1}:=by
           have h1:=tU.out;have h2:=hz.out;rw [←h1,h2];rfl
          rw [AU]at cS;have tT:=af (kI.out.push (m:=mM k s ⟨fJ,fK,yr⟩ true) cP.out cS fW);clear AU;have x2:Hid (dM=q+((sI)++ [mM k s ⟨fJ,fK,yr⟩ true]).length):=af (by have h1:=tU.out;have h2:=hz.out;rw [List.length_append,List.length_singleton];omega);clear cS fW cP wj AP hM kI;have CD:Hid (dM=q+(fI A V k++jV (k:Int) kE kF (j+1)).length):=af (by rw [E0.out,EZ.out,if_pos AV.out,AO.out];exact x2.out);have CF:=af tT.out.d;clear tT x2 hz;go_wp2_with fail
          go_roundw
          case rel=>exact⟨j+1,s+1,dM,a5,EY,cj,by go_num,by have:=Cc.out;omega,by omega,rfl,rfl,CD,by rw [E0.out,EZ.out,if_pos AV.out,AO.out];exact CF.out⟩
          case measure=>simp [RowKit.intOf];omega
    ·have Oi:j=2:=by omega
     have aiw:¬s≤2:=by omega
     clear hD;have abQ:Hid (vU w wy ga bX a b c d n q (fI A V (k+1)) (.slice va vn vc)):=af (by rw [Tj.out];have:=y3.out;rw [Oi]at this;exact this);have wk:Hid (z2=q+(fI A V (k+1)).length):=af (by rw [Tj.out];have:=dG.out;rw [Oi]at this;exact this);clear hs hj hj2 Oi;go_wp2_with fail
     go_roundw
     case rel=>exact⟨k+1,z2,va,vn,vc,by go_num,hlt,rfl,rfl,wk,abQ.out⟩
     case measure=>simp [RowKit.intOf];omega
  ·have hkn:k=n:=by omega
   have ec:Hid (gb.Row ak w.heap.size (.slice va vn vc) (jy q (fI A V n))):=af (by have:=GG.out.row;rwa [hkn]at this);have kJ:=af GG.out.aF;clear hkn;go_wp2_with fail
   go_ret;exact⟨_,rfl,ec.out,kJ.out⟩
end
end Go.Proofs.YtmaijkoopjocdaaGreat
