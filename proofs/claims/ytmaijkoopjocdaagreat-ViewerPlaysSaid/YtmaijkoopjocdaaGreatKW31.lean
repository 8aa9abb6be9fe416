import Derived.Test.YtmaijkoopjocdaaGreatKW24
set_option maxRecDepth 100000
set_option maxHeartbeats 64000000
namespace Go.Proofs.YtmaijkoopjocdaaGreat
open Go.RowKit Go.Lib
structure w5 (w wr:World) (ga bE:Nat) (a b:Option Addr) (c d n:Nat) (q:Int) (M:List aF) (v:Value):Prop where
 ba:av wr ga 54 #[.slice a n c]
 bb:av wr bE 54 #[.slice b n d]
 row:hH.Row wr ↑w v (kU q M)
 aJ:Below ↑w w wr
def lC (i:Int) (x y:aX×aX) (j:Nat):List aF:=if j=0 then []else if j=1 then wY i 1 x.1 y.1 else wZ i x y
theorem RY {A B:bG} {k:Nat} {x y:aX×aX} (hx:A[k]? =some x) (hy:B[k]? =some y):gA A B (k+1)=gA A B k++wZ (k:Int) x y:=by unfold gA;rw [List.range_succ,List.flatMap_append];simp [hx,hy]
theorem R7 {side:Int} {x y:List aB} {k:Nat} {b:aB} (h:y[k]? =some b):sk side x (y.take (k+1))=sj side (sk side x (y.take k)) b:=by unfold sk;rw [kH h,List.foldl_append];rfl
theorem R8 {i side:Int} {x y l:List aB} {k:Nat} {b:aB} (h:l[k]? =some b):(l.take (k+1)).flatMap (j0 i side x y)=(l.take k).flatMap (j0 i side x y)++j0 i side x y b:=by rw [kH h,List.flatMap_append];simp
theorem U2 {side:Int} {l:List aB} {k:Nat} {z b:aB} (hz:l[k]? =some z) (h:zE side l b=k+((l.drop k).takeWhile (fun a=>cT side a.ap b.ap)).length):
 (cT side z.ap b.ap=true->zE side l b=(k+1)+((l.drop (k+1)).takeWhile (fun a=>cT side a.ap b.ap)).length)∧(cT side z.ap b.ap=false->zE side l b=k):=by
 obtain⟨h1,h2⟩:=List.getElem?_eq_some_iff.1 hz;rw [h,List.drop_eq_getElem_cons h1,h2,List.takeWhile_cons];refine⟨fun hb=>?_,fun hb=>?_⟩
 ·rw [hb];simp only [if_true,List.length_cons];omega
 rw [hb];simp
theorem PB {w:World} {ops:Array Oper} {o:Oper} {a:Act} {K:Act->World->Prop} {Q:Exit->Act->World->Prop} {E:Prop} {f0 f1 f2:Int} (hgd:o.guard=none) (t:Nat)
 (ho:o.op= .buildSlice 100 1 #[(0,.tmp t)]) (hx:a.tmps[t]?.getD undef= .agg #[↑f0,↑f1,↑f2])
 (h:K (a.put o.dst (.slice ↑w.heap.size 1 1)) (w.alloc (.cells #[↑f0,↑f1,↑f2] 101))):
 if Region.wanted o (yielded ops a.tmps)=true then Oper.wp Tryz.prog o a w K Q else E:=by
 have hw:Region.wanted o (yielded ops a.tmps)=true:=by simp [Region.wanted,hgd]
 rw [if_pos hw];unfold Oper.wp execOp;simp only [ho];go_simp;exact h
structure x3 (w wr:World) (ga bE aL fc p4 p5 Gm:Nat) (a b:Option Addr) (c d n:Nat) (q:Int) (M:List aF) (v:Value) (D2 Gn:Array Value) (vx vy vl:Value) (Gp Gq Gr:List aB):Prop where
 d:w5 w wr ga bE a b c d n q M v
 cW:av wr aL 103 D2
 x2:av wr fc 103 Gn
 rx:bK.Row wr p4 vx Gp
 PD:bK.Row wr p5 vy Gq
 rl:bK.Row wr Gm vl Gr
theorem R9 (i:Int) {x y:aX×aX} (hx:x.1.lv.length<=250∧x.2.lv.length<=250) (hy:y.1.lv.length<=250∧y.2.lv.length<=250) (j:Nat):(lC i x y j).length<=1002:=by
 have h1:=Mn i 1 x.1 y.1;have h2:=Mn i 2 x.2 y.2;unfold lC wZ;split
 ·simp
 split
 ·omega
 rw [List.length_append];omega
theorem U3 (i side:Int) (x y:List aB):∀K:List aB,(K.flatMap (j0 i side x y)).length<=K.length
 | []=>cU
 |a::K=>by
  have:=U3 i side x y K;rw [List.flatMap_cons,List.length_append,List.length_cons];have h:(j0 i side x y a).length<=1:=by unfold j0;split<;>simp
  omega
theorem vL {P:Program} {ops:Array Oper} {Q:Exit->Act->World->Prop} {md:Region.Mode} {S:World->Prop} {f:Nat} {L L':Array Bool} {a:Act} {w:World} (H:iX P md ops Q S f L' a w) (h:L=L':=by kernel_rfl):iX P md ops Q S f L a w:=h▸H
theorem GR {G C:World->Nat->Nat->Prop} {p:Prop} (leaf:∀W a b,C W a b->G W a b) (main:(∀W a b,C W a b->G W a b)->p):p:=main leaf
theorem JM {G C:World->Nat->Prop} {p:Prop} (leaf:∀W a,C W a->G W a) (main:(∀W a,C W a->G W a)->p):p:=main leaf
theorem Se {G C:World->Nat->Nat->Nat->Nat->Prop} {p:Prop} (leaf:∀W a b c d,C W a b c d->G W a b c d) (main:(∀W a b c d,C W a b c d->G W a b c d)->p):p:=main leaf
theorem SF {P:Program} {ops:Array Oper} {Q:Exit->Act->World->Prop} {md:Region.Mode} {S:World->Prop} {i j k:Nat} {oi oj ok:Oper} {f:Nat} {L:Array Bool} {a:Act} {w:World} (C:ops[i]? =some oi) (B:ops[j]? =some oj) (hok:ops[k]? =some ok) (hr:Region.ready md ops L= [i,j,k])
 (h1:∀K':Act->World->Prop,Shut (∀a w,S w->(S w->iX P md ops Q S f (L.setIfInBounds i true) a w)->K' a w)->if Region.wanted oi (yielded ops a.tmps)=true then Oper.wp P oi a w K' Q else K' (a.put oi.dst undef) w)
 (h2:∀K':Act->World->Prop,Shut (∀a w,S w->(S w->iX P md ops Q S f (L.setIfInBounds j true) a w)->K' a w)->if Region.wanted oj (yielded ops a.tmps)=true then Oper.wp P oj a w K' Q else K' (a.put oj.dst undef) w)
 (h3:∀K':Act->World->Prop,Shut (∀a w,S w->(S w->iX P md ops Q S f (L.setIfInBounds k true) a w)->K' a w)->if Region.wanted ok (yielded ops a.tmps)=true then Oper.wp P ok a w K' Q else K' (a.put ok.dst undef) w):iX P md ops Q S (f+1) L a w:=by
 refine⟨fun h0=>(by rw [hr]at h0;cases h0),fun l hl=>?_⟩;rw [hr]at hl;have A:l=i∨l=j∨l=k:=by simpa using hl
 rcases A with rfl|rfl|rfl
 ·exact wpOp_step C fun K' hK=>h1 K' fun b u hS hW=>hK b u ⟨fun _=>hS,hW hS⟩
 ·exact wpOp_step B fun K' hK=>h2 K' fun b u hS hW=>hK b u ⟨fun _=>hS,hW hS⟩
 exact wpOp_step hok fun K' hK=>h3 K' fun b u hS hW=>hK b u ⟨fun _=>hS,hW hS⟩
theorem U4 {P:Program} {ops:Array Oper} {Q:Exit->Act->World->Prop} {md:Region.Mode} {S:World->Prop} (i j k:Nat) {oi oj ok:Oper} {f n:Nat} {L:Array Bool} {a:Act} {w:World} (h1:∀K':Act->World->Prop,Shut (∀a w,S w->(S w->iX P md ops Q S f (L.setIfInBounds i true) a w)->K' a w)->if Region.wanted oi (yielded ops a.tmps)=true then Oper.wp P oi a w K' Q else K' (a.put oi.dst undef) w) (h2:∀K':Act->World->Prop,Shut (∀a w,S w->(S w->iX P md ops Q S f (L.setIfInBounds j true) a w)->K' a w)->if Region.wanted oj (yielded ops a.tmps)=true then Oper.wp P oj a w K' Q else K' (a.put oj.dst undef) w) (h3:∀K':Act->World->Prop,Shut (∀a w,S w->(S w->iX P md ops Q S f (L.setIfInBounds k true) a w)->K' a w)->if Region.wanted ok (yielded ops a.tmps)=true then Oper.wp P ok a w K' Q else K' (a.put ok.dst undef) w) (hn:n=f+1:=by rfl) (B:ops[i]? =some oi:=by simp only [List.getElem?_toArray];rfl) (A:ops[j]? =some oj:=by simp only [List.getElem?_toArray];rfl) (hok:ops[k]? =some ok:=by simp only [List.getElem?_toArray];rfl) (hr:Region.ready md ops L= [i,j,k]:=by kernel_rfl):iX P md ops Q S n L a w:=by subst hn;exact SF B A hok hr h1 h2 h3
section
variable {w wr wr':World} {ga bE:Nat} {a b:Option Addr} {c d n:Nat} {q:Int} {M:List aF} {v v':Value}
theorem w5.below (h:w5 w wr ga bE a b c d n q M v) (hb:Below ↑wr wr wr'):w5 w wr' ga bE a b c d n q M v:=
 ⟨h.ba.below hb,h.bb.below hb,h.row.below hb,h.aJ.trans (hb.mono h.aJ.size)⟩
theorem w5.push {wb A:World} {m:aF} (h:w5 w wr ga bE a b c d n q M v) (hb:Below ↑wr wr wb) (hr:hH.Row A ↑w v' (kU q M++ [{m with seq:=q+M.length+1}])) (hg:wb.grownBy A v.ownBlock):
 w5 w A ga bE a b c d n q (M++ [m]) v'∧aK (fun g=>ck wr g hH.t) wr A:=by
 have hk:=fK hg;have h1:=h.below hb;have B:∀g,v.ownBlock=some g->ck wb g hH.t:=fun g hg=>eo h1.row g hg;refine⟨⟨h1.ba.keeps hk (fun e=>(B _ e).ne h1.ba.aE b9 rfl),h1.bb.keeps hk (fun e=>(B _ e).ne h1.bb.aE b9 rfl),by rw [TG];exact hr,h1.aJ.trans (hk.below (cS h1.row) h1.aJ.size)⟩,?_⟩;refine(Below.keeps hb).step hk fun g hg e=>eo h.row g e
section
variable {aL fc p4 p5 Gm:Nat} {D2 Gn:Array Value} {vx vy vl:Value} {Gp Gq Gr:List aB}
theorem x3.below (h:x3 w wr ga bE aL fc p4 p5 Gm a b c d n q M v D2 Gn vx vy vl Gp Gq Gr) (hb:Below ↑wr wr wr'):x3 w wr' ga bE aL fc p4 p5 Gm a b c d n q M v D2 Gn vx vy vl Gp Gq Gr:=
 ⟨h.d.below hb,h.cW.below hb,h.x2.below hb,h.rx.below hb,h.PD.below hb,h.rl.below hb⟩
theorem x3.push {wb A:World} {m:aF} (h:x3 w wr ga bE aL fc p4 p5 Gm a b c d n q M v D2 Gn vx vy vl Gp Gq Gr) (hb:Below ↑wr wr wb) (hr:hH.Row A ↑w v' (kU q M++ [{m with seq:=q+M.length+1}])) (hg:wb.grownBy A v.ownBlock):
 x3 w A ga bE aL fc p4 p5 Gm a b c d n q (M++ [m]) v' D2 Gn vx vy vl Gp Gq Gr:=by
 obtain⟨h1,hk⟩:=h.d.push hb hr hg;exact⟨h1,h.cW.keeps hk (fun e=>h.cW.aE.ne e b9 rfl),h.x2.keeps hk (fun e=>h.x2.aE.ne e b9 rfl),h.rx.keep hk (fun g hg e=>hg.ne e b9 rfl),h.PD.keep hk (fun g hg e=>hg.ne e b9 rfl),h.rl.keep hk (fun g hg e=>hg.ne e b9 rfl)⟩
end
theorem SI {p4 p5:Nat} {A V:bG} (ha:cg eJ bK w p4 (.slice a A.length c) A) (hb:cg eJ bK w p5 (.slice b V.length d) V) (hl:A.length=V.length) (hn:A.length<=40) (kA:fX A 250) (w7:fX V 250) (jW:0<=q) (hq1:q<=1000000000):
 Calls Tryz.prog 31 #[.agg #[.slice a A.length c],.agg #[.slice b V.length d],↑q] w fun e w'=>∃v,e= .returned v∧hH.Row w' ↑w v (qK A V q)∧Below ↑w w w':=by
 have hdf:qK A V q=kU q (gA A V A.length):=if_neg (by rw [hl];simp);have jf:Ei (∀k,k<=A.length->(gA A V k).length<=k*(4*250+2)):=af fun k hk=>PA kA w7 hl k hk;rw [hdf];obtain⟨n,jw⟩:=ai A.length;have s5:V.length=n:=by rw [<-hl];exact jw
 have zF:=af jw;have dQ:=af s5;rw [jw]at ha hn⊢;rw [s5]at hb⊢;have hn2:=Gs w 54 54 #[.slice a n c] #[.slice b n d];have IZ:=af hn2.1;have dc:=af hn2.2.1;have aG:=af hn2.2.2;have cO:=af ha;have dD:=af hb;have SK:=af kA;have SN:=af w7;have s1:=ak;have dW:=af s1;clear hn2 ha hb kA w7 s1 hl jw s5 hdf;go_enter Tryz.func31,Tryz.ntmps31;go_upto_region 1 with(fail);obtain⟨bE,fT⟩:=ai (w.heap.size+1);rw [fT]at dc⊢;obtain⟨ga,zG⟩:=ai w.heap.size;have D3:Ei (av _ ga 54 #[.slice a n c]):=af (by have:=IZ.o;rwa [zG]at this);rw [show(Value.pointer ↑w.heap.size)= .pointer ↑ga by rw [zG]];clear zG fT IZ;generalize (w.alloc (.cells #[.slice a n c] 54)).alloc (.cells #[.slice b n d] 54)=w1 at*;have c0:=D3.o.GC;have c1:=dc.o.GC;have U5:Ei (w5 w w1 ga bE a b c d n q [] (.slice none 0 0)):=af ⟨D3.o,dc.o,bl.Row.nil _ _,aG.o⟩;clear D3 dc aG;go_wp2_with fail;go_loopw [8,7,2] (fun i v iB w'=>∃(k:Nat) (z:Int) (va:Option Addr) (vn vc:Nat),i=↑k∧k<=n∧iB=↑z∧v= .slice va vn vc∧Ei (z=q+(gA A V k).length)∧w5 w w' ga bE a b c d n q (gA A V k) (.slice va vn vc)) (fun i _ _ _=>n-(RowKit.intOf i).toNat)
 case atStart=>exact⟨0,q,none,0,0,rfl,Nat.zero_le _,rfl,rfl,af (by simp [gA]),U5.o⟩
 clear c0 c1 U5;obtain⟨k,z,va,vn,vc,rfl,hk,rfl,rfl,hz,hD⟩:=hrel;obtain⟨ax,rfl⟩:=aj wr;have I0:=af hD;clear hD;have c0:=I0.o.ba.GC;by_cases hlt:k<n
 ·have hlt':(k:Int)<(n:Int):=by omega
  obtain⟨I,Mp⟩:=GB A k (by rw [zF.o];exact hlt);obtain⟨J,hyp⟩:=GB V k (by rw [dQ.o];exact hlt);have Rj:=af Mp;have Rk:=af hyp;have U6:=af (RY Mp hyp);have Cv:=af (SK.o _ (List.mem_of_getElem? Mp));have U7:=af (SN.o _ (List.mem_of_getElem? hyp));have D4:=af (jf.o k (by rw [zF.o];exact hk));clear Mp hyp;go_wp2_with fail;go_loopw [9,7,2] (fun i v iB w'=>∃(j:Nat) (s z:Int) (va:Option Addr) (vn vc:Nat),i=↑s∧s=(j:Int)+1∧j<=2∧iB=↑z∧v= .slice va vn vc∧Ei (z=q+(gA A V k++lC (k:Int) I J j).length)∧w5 w w' ga bE a b c d n q (gA A V k++lC (k:Int) I J j) (.slice va vn vc)) (fun i _ _ _=>4-(RowKit.intOf i).toNat)
  case atStart=>exact⟨0,1,z,va,vn,vc,rfl,rfl,Nat.zero_le _,rfl,rfl,af (by rw [hz.o];simp [lC]),by rw [show lC (k:Int) I J 0= []from rfl,List.append_nil];exact I0.o⟩
  clear c0 I0 hz;obtain⟨j,s,z2,va,vn,vc,rfl,hs,hj,rfl,rfl,eg,hD⟩:=hrel;obtain⟨wy,rfl⟩:=aj wr;have D5:=af hD;have I1:=af hs;have hs1:1<=s∧s<=3:=bh;by_cases hj2:j<2
  ·have alW:s<=2:=by omega
   clear hD hs;have PE:=Cv.o;have PF:=U7.o;obtain⟨g1,m6,D6,he,eZ,cD,hq1,hq2⟩:=(cO.o.below D5.o.aJ).get Rj.o;injection he with eb iU eS;clear iU;subst eb;subst eS;obtain⟨g2,oD,PG,he,fY,ng,Cw,w8⟩:=(dD.o.below D5.o.aJ).get Rk.o;injection he with eb iU eS;clear iU;subst eb;subst eS;obtain⟨⟨a1,n1,e1,⟨p1,q1,r1⟩,f1⟩,⟨b1,m1,h1,⟨t1,u1,v1⟩,x1⟩⟩:=D6;obtain⟨⟨a2,n2,e2,⟨p2,ic,r2⟩,f2⟩,⟨b2,m2,h2,⟨t2,u2,v2⟩,aZ⟩⟩:=PG;obtain⟨X,Y,x5,x6,U8,Ce,zH,I2,U9,hcs⟩:∃(X Y:aX) (x5 x6:eO),lC (k:Int) I J (j+1)=lC (k:Int) I J j++wY (k:Int) s X Y∧bV bK wy p4 x5 X∧bV bK wy p5 x6 Y∧X.lv.length<=250∧Y.lv.length<=250∧
    ((j=0∧x5=⟨a1,n1,e1,⟨p1,q1,r1⟩,f1⟩∧x6=⟨a2,n2,e2,⟨p2,ic,r2⟩,f2⟩)∨(j=1∧x5=⟨b1,m1,h1,⟨t1,u1,v1⟩,x1⟩∧x6=⟨b2,m2,h2,⟨t2,u2,v2⟩,aZ⟩)):=by
    have PI:j=0∨j=1:=bh;rcases PI with h0|h0
    ·exact⟨I.1,J.1,_,_,by rw [I1.o,h0];rfl,hq1,Cw,PE.1,PF.1,.inl ⟨h0,rfl,rfl⟩⟩
    exact⟨I.2,J.2,_,_,by rw [I1.o,h0];rfl,hq2,w8,PE.2,PF.2,.inr ⟨h0,rfl,rfl⟩⟩
   obtain⟨T,xn,xc,⟨qL,p6,xr⟩,kJ⟩:=x5;obtain⟨gB,yn,N,⟨L,M,yr⟩,jK⟩:=x6;have PJ:=af U8;have Va:=af Ce;have sq:=af zH;clear PE PF hq1 hq2 Cw w8 U8 Ce zH;go_upto_region 10 with(fail);go_cut [10,11] (fun u7 u8 wx=>∃aL fc,u7= .pointer (some ⟨aL,0,none⟩)∧u8= .pointer (some ⟨fc,0,none⟩)∧av wx aL 103 #[.slice T xn xc,↑qL,↑p6,↑xr,↑kJ]∧av wx fc 103 #[.slice gB yn N,↑L,↑M,↑yr,↑jK]∧Below ↑wy wy wx)
   case first=>
    have I3:wy.cell? ↑(g1,k*10+j*5)=some (.slice T xn xc)∧wy.cell? ↑(g1,k*10+j*5+1)=↑qL∧wy.cell? ↑(g1,k*10+j*5+2)=↑p6∧wy.cell? ↑(g1,k*10+j*5+3)=↑xr∧wy.cell? ↑(g1,k*10+j*5+4)=↑kJ:=by
     rcases hcs with⟨rfl,h,_⟩|⟨rfl,h,_⟩
     ·injection h with i1 i2 i3 i4 i5;injection i4 with i6 i7 i8;subst i1;subst i2;subst i3;subst i5;subst i6;subst i7;subst i8;exact⟨cD 0 _ rfl,cD 1 _ rfl,cD 2 _ rfl,cD 3 _ rfl,cD 4 _ rfl⟩
     injection h with i1 i2 i3 i4 i5;injection i4 with i6 i7 i8;subst i1;subst i2;subst i3;subst i5;subst i6;subst i7;subst i8;exact⟨cD 5 _ rfl,cD 6 _ rfl,cD 7 _ rfl,cD 8 _ rfl,cD 9 _ rfl⟩
    have I4:wy.cell? ↑(g2,k*10+j*5)=some (.slice gB yn N)∧wy.cell? ↑(g2,k*10+j*5+1)=↑L∧wy.cell? ↑(g2,k*10+j*5+2)=↑M∧wy.cell? ↑(g2,k*10+j*5+3)=↑yr∧wy.cell? ↑(g2,k*10+j*5+4)=↑jK:=by
     rcases hcs with⟨rfl,_,h⟩|⟨rfl,_,h⟩
     ·injection h with i1 i2 i3 i4 i5;injection i4 with i6 i7 i8;subst i1;subst i2;subst i3;subst i5;subst i6;subst i7;subst i8;exact⟨ng 0 _ rfl,ng 1 _ rfl,ng 2 _ rfl,ng 3 _ rfl,ng 4 _ rfl⟩
     injection h with i1 i2 i3 i4 i5;injection i4 with i6 i7 i8;subst i1;subst i2;subst i3;subst i5;subst i6;subst i7;subst i8;exact⟨ng 5 _ rfl,ng 6 _ rfl,ng 7 _ rfl,ng 8 _ rfl,ng 9 _ rfl⟩
    clear hcs cD ng;have y1:IntKind.i64.wrap (s-1)=(j:Int):=by rw [show s-1=(j:Int)by have:=I1.o;omega];exact IntWalk.i64_in _ bh
    have alX:(j:Int)<2:=bh;have aD:Ei (∀wx,Below ↑wy wy wx->(fun w'=>w'.cell? ↑ga=some (.slice ↑g1 n c)∧w'.cell? ↑bE=some (.slice ↑g2 n d)∧w'.cell? ↑(g1,k*10+j*5)=some (.slice T xn xc)∧w'.cell? ↑(g1,k*10+j*5+1)=↑qL∧w'.cell? ↑(g1,k*10+j*5+2)=↑p6∧w'.cell? ↑(g1,k*10+j*5+3)=↑xr∧w'.cell? ↑(g1,k*10+j*5+4)=↑kJ∧w'.cell? ↑(g2,k*10+j*5)=some (.slice gB yn N)∧w'.cell? ↑(g2,k*10+j*5+1)=↑L∧w'.cell? ↑(g2,k*10+j*5+2)=↑M∧w'.cell? ↑(g2,k*10+j*5+3)=↑yr∧w'.cell? ↑(g2,k*10+j*5+4)=↑jK) wx):=af fun wx hb=>by have e:∀(g o:Nat),g<wy.heap.size->wx.cell? ⟨g,o,none⟩=wy.cell? ⟨g,o,none⟩:=fun g o hg=>hb.cell (p:=⟨g,o,none⟩) hg;obtain⟨c0,c1,c2,c3,dH⟩:=I3;obtain⟨b8,fJ,gL,iC,kp⟩:=I4;exact⟨(D5.o.ba.below hb).cell 0,(D5.o.bb.below hb).cell 0,(e g1 _ eZ).trans c0,(e g1 _ eZ).trans c1,(e g1 _ eZ).trans c2,(e g1 _ eZ).trans c3,(e g1 _ eZ).trans dH,(e g2 _ fY).trans b8,(e g2 _ fY).trans fJ,(e g2 _ fY).trans gL,(e g2 _ fY).trans iC,(e g2 _ fY).trans kp⟩
    clear I3 I4;refine cP (S:=fun w'=>w'.cell? ↑ga=some (.slice ↑g1 n c)∧w'.cell? ↑bE=some (.slice ↑g2 n d)∧w'.cell? ⟨g1,k*10+j*5,none⟩=some (.slice T xn xc)∧w'.cell? ⟨g1,k*10+j*5+1,none⟩=↑qL∧w'.cell? ⟨g1,k*10+j*5+2,none⟩=↑p6∧w'.cell? ⟨g1,k*10+j*5+3,none⟩=↑xr∧w'.cell? ⟨g1,k*10+j*5+4,none⟩=↑kJ∧w'.cell? ⟨g2,k*10+j*5,none⟩=some (.slice gB yn N)∧w'.cell? ⟨g2,k*10+j*5+1,none⟩=↑L∧w'.cell? ⟨g2,k*10+j*5+2,none⟩=↑M∧w'.cell? ⟨g2,k*10+j*5+3,none⟩=↑yr∧w'.cell? ⟨g2,k*10+j*5+4,none⟩=↑jK) (aD.o _ (Below.refl _ _).drew) fun hHeld=>?_;refine eX [0,1,2,3,4,5,6,7,8,9,10,11,12,13,14,15] ?_;refine lZ 16 17 (fun K hK=>?_) fun K hK=>?_
    ·go_simp;refine hK.out _ _ (by first|exact aD.o _ (Below.aI wy _).drew|exact aD.o _ ((Below.aI wy _).alloc (by rw [dW.o];omega) _).drew) (fun hHeld=>?_);clear hK K;refine aU 17 fun K hK=>?_;go_simp;refine hK.out _ _ (by first|exact aD.o _ (Below.aI wy _).drew|exact aD.o _ ((Below.aI wy _).alloc (by rw [dW.o];omega) _).drew) (fun hHeld=>?_);clear hK K;refine aU 18 fun K hK=>?_;go_simp;refine hK.out _ _ (by first|exact aD.o _ (Below.aI wy _).drew|exact aD.o _ ((Below.aI wy _).alloc (by rw [dW.o];omega) _).drew) (fun hHeld=>?_);clear hK K;refine dY 19 fun K hK=>?_;go_simp;refine hK.out _ _ ?_;clear hK K hHeld;go_wp2_with fail;go_meet;have h2:=Gs wy 103 103 #[.slice T xn xc,↑qL,↑p6,↑xr,↑kJ] #[.slice gB yn N,↑L,↑M,↑yr,↑jK];exact⟨wy.heap.size,wy.heap.size+1,rfl,rfl,h2.1,h2.2.1,h2.2.2.drew⟩
    go_simp;refine hK.out _ _ (by first|exact aD.o _ (Below.aI wy _).drew|exact aD.o _ ((Below.aI wy _).alloc (by rw [dW.o];omega) _).drew) (fun hHeld=>?_);clear hK K;refine aU 16 fun K hK=>?_;go_simp;refine hK.out _ _ (by first|exact aD.o _ (Below.aI wy _).drew|exact aD.o _ ((Below.aI wy _).alloc (by rw [dW.o];omega) _).drew) (fun hHeld=>?_);clear hK K;refine aU 18 fun K hK=>?_;go_simp;refine hK.out _ _ (by first|exact aD.o _ (Below.aI wy _).drew|exact aD.o _ ((Below.aI wy _).alloc (by rw [dW.o];omega) _).drew) (fun hHeld=>?_);clear hK K;refine dY 19 fun K hK=>?_;go_simp;refine hK.out _ _ ?_;clear hK K hHeld;go_wp2_with fail;go_meet;have h2:=Gs wy 103 103 #[.slice gB yn N,↑L,↑M,↑yr,↑jK] #[.slice T xn xc,↑qL,↑p6,↑xr,↑kJ];exact⟨wy.heap.size+1,wy.heap.size,rfl,rfl,h2.2.1,h2.1,h2.2.2.drew⟩
   case rest=>
   obtain⟨aL,fc,rfl,rfl,fO,x7,hbc⟩:=hcut;obtain⟨aA,rfl⟩:=aj wc;have Vb:=af (D5.o.below hbc);have fy:=af fO;have p7:=af x7;have Gt:=Va.o.below hbc;have I5:=af (sq.o.below hbc);have q8:xn=X.lv.length:=Gt.n;subst q8;obtain⟨alY,alZ,he,w9,hrd⟩:=Gt.row.sl;dsimp only at he w9 hrd;injection he with eb iU eS;clear iU;subst eb;subst eS;have x0:=fy.o.GC;have H0:=af (bl.Row.empty (Y:=bK) aA);have hba:=Below.aI aA (.cells #[] 101);have cK:=af hba;have om:=af (hrd.below hba);have uv:=af w9;have Rn:(aA.alloc (.cells #[] 101)).cell? ↑aL=some (.slice T X.lv.length xc):=(fy.o.below hba).cell 0;have x8:yn=Y.lv.length:=I5.o.n;have Vc:Ei ((⟨qL,p6,xr⟩:aB)=X.im∧kJ=X.has):=af ⟨Gt.im,Gt.has⟩;have Vd:Ei ((⟨L,M,yr⟩:aB)=Y.im∧jK=Y.has):=af ⟨I5.o.im,I5.o.has⟩;have Ve:=af Gt.row;have Cx:=af I2;have Vf:=af U9;have I6:=af x8;clear hcs cD ng eZ fY fO x7 hbc Gt w9 hrd hba D5 x8 I2 U9 Va sq;go_wp2_with (first
    |(at_builtin;go_loud (refine bK.wV rfl (.tmp 52) (.tmp 54) rfl ↑aA (.slice (some ⟨aA.heap.size,0,none⟩) 0 0) [] rfl H0.o T xc X.lv (by first|rfl|(simp;done)|(simp;rfl)) (fun h=>(uv.o.1 h).2) om.o uv.o.2.1 (by have:=Cx.o;rw [List.length_nil];omega) cK.o.size ?_)))
   intro v6 aN bX cQ eG;try rw [List.nil_append]at bX
   have bI:=iJ cQ cK.o (cS H0.o);obtain⟨aH,mc,_,Gu,_⟩:=bX.Gv (by
    rcases eG with h|h
    ·rw [h];intro e;cases e
    rw [h];intro e;cases e)
   subst Gu;have cL:=af bX;have Vg:=af (Vb.o.below bI);have AU:=af (fy.o.below bI);have D7:=af (p7.o.below bI);have PK:=af (I5.o.below bI);have Vh:=af (Ve.o.below bI);have Rp:Ei (aA.heap.size<=aN.heap.size):=af bI.size;clear bX cQ eG bI x0 Rn H0 cK om uv Vb fy p7 I5 Ve;have Rq:yn<=250:=by rw [I6.o];exact Vf.o
   go_wp2_with fail;go_loopw [13,12] (fun i l w'=>∃(t aH mc ml:Nat) (D:List aB),i=↑t∧t<=yn∧l= .slice ↑aH ml mc∧ml<=250+t∧Ei (D.length=ml)∧Ei (D=sk s X.lv (Y.lv.take t))∧bK.Row w' ↑aA (.slice ↑aH ml mc) D∧Below ↑aN aN w') (fun i _ _=>yn-(RowKit.intOf i).toNat)
   case atStart=>exact⟨0,aH,mc,X.lv.length,X.lv,rfl,Nat.zero_le _,rfl,by have:=Cx.o;omega,af rfl,af rfl,cL.o,Below.refl _ _⟩
   clear cL;obtain⟨t,aH,mc,ml,D,rfl,ht,rfl,hml,uw,hme,hrl,ep⟩:=hrel;obtain⟨fU,rfl⟩:=aj wr;have nJ:=af hrl;have dO:=af ep;have y0:=(D7.o.below ep).GC;clear hrl ep;by_cases bT:t<yn
   ·as_aux_lemma=>
    have al0:(t:Int)<(yn:Int):=bh;obtain⟨b,hb⟩:=GB Y.lv t (by rw [<-I6.o];exact bT);have Mq:=af (R7 (side:=s) (x:=X.lv) hb);obtain⟨p8,al1,Vi,PL,Mr⟩:=(PK.o.below dO.o).row.at_ t b hb;dsimp only at Vi;injection Vi with hy1 x9 Rs;subst hy1;subst Rs;clear x9;obtain⟨ek,H,br⟩:=b;have kK:Ei (∀wx,Below ↑fU fU wx->wx.cell? ↑fc=some (.slice ↑p8 yn N)∧wx.cell? ↑(p8,t*3)=↑ek∧wx.cell? ↑(p8,t*3+1)=↑H∧wx.cell? ↑(p8,t*3+2)=↑br):=af fun wx U=>⟨((D7.o.below dO.o).below U).cell 0,(U.cell (p:=⟨p8,t*3,none⟩) PL).trans (Mr 0 _ rfl),(U.cell (p:=⟨p8,t*3+1,none⟩) PL).trans (Mr 1 _ rfl),(U.cell (p:=⟨p8,t*3+2,none⟩) PL).trans (Mr 2 _ rfl)⟩;have Vj:Ei (∀wx (kk:Nat) (z:aB),Below ↑fU fU wx->D[kk]? =some z->wx.cell? ⟨aH,kk*3,none⟩=some (.int .i64 z.ap)):=af fun wx kk z U hz=>by obtain⟨g,cap,he,_,hc⟩:=(nJ.o.below U).at_ kk z hz;injection he with eb iU eS;injection eb with eb;injection eb with eb;subst eb;exact hc 0 _ rfl
    clear Mr hb;go_wp2_with fail;go_loopw [14] (fun i w'=>∃kk:Nat,i=↑kk∧kk<=ml∧Ei (zE s D ⟨ek,H,br⟩=kk+((D.drop kk).takeWhile (fun a=>cT s a.ap ek)).length)∧Below ↑fU fU w') (fun i _=>ml-(RowKit.intOf i).toNat)
    case atStart=>exact⟨0,rfl,Nat.zero_le _,af (by rw [List.drop_zero,Nat.zero_add];rfl),Below.refl _ _⟩
    clear y0;obtain⟨kk,rfl,hkk,hma,AV⟩:=hrel;obtain⟨wv,rfl⟩:=aj wr;have Gw:=af AV;obtain⟨y0,b0,b1,b2⟩:=kK.o wv AV;clear AV;obtain⟨tb,htb⟩:=ai ((decide (kk<ml)&&cT s (D.getD kk jD).ap ek):Bool);have oI:=af htb;clear htb;go_upto_region 16 with(fail);go_cut [81] (fun u wx=>u=↑tb∧Below ↑wv wv wx)
    case first=>
     by_cases eR:kk<ml
     ·have ya:(kk:Int)<(ml:Int):=by omega
      have hd:decide ((kk:Int)<(ml:Int))=true:=decide_eq_true ya;obtain⟨z,hz⟩:=GB D kk (by rw [uw.o];exact eR);have mL:=af (Gw.o.trans ((Below.refl ↑wv wv).drew.mono Gw.o.size));have z0:=Vj.o wv.drew kk z mL.o hz;have hc:=kK.o wv.drew mL.o;have nc:Ei (cT s z.ap ek=tb):=af (by rw [<-oI.o,decide_eq_true eR,List.getD_eq_getElem?_getD,hz];simp);obtain⟨zp,RA,zr⟩:=z;dsimp only at z0 nc;have nK:=af fun w=>Gx s zp ek w;rw [nc.o]at nK;clear hz y0 b0 b1 b2;refine cP (S:=fun w'=>w'.cell? ⟨aH,kk*3,none⟩=↑zp∧w'.cell? ↑fc=some (.slice ↑p8 yn N)∧w'.cell? ⟨p8,t*3,none⟩=↑ek) ⟨z0,hc.1,hc.2.1⟩ fun hHeld=>?_;refine eX [0,1,2,3,4,5,6,7,8,9,10,11,12,13,14,15,16] ?_;refine aU 17 fun K hK=>?_;go_simp;go_at_call 72;refine(nK.o _).mono ?_;rintro e bW ⟨rfl,rfl⟩;refine hK.out _ _ ⟨z0,hc.1,hc.2.1⟩ (fun hHeld=>?_);clear hK K z0 hc;refine gu _ _ _ _ ?_;refine ej 18 ?_;refine gw ?_;clear hHeld;go_wp2_with fail;go_meet;exact⟨rfl,(Below.refl ↑wv wv).drew⟩
     have ya:¬(kk:Int)<(ml:Int):=bh;have hd:decide ((kk:Int)<(ml:Int))=false:=decide_eq_false ya;have nc:Ei (tb=false):=af (by rw [<-oI.o,decide_eq_false eR];rfl);clear y0 b0 b1 b2;refine cP (S:=fun _=>True) trivial fun hHeld=>?_;refine eX [0,1,2,3,4] ?_;refine c7 5 ?_;refine c7 6 ?_;refine c7 7 ?_;refine c7 8 ?_;refine c7 9 ?_;refine c7 10 ?_;refine c7 11 ?_;refine c7 12 ?_;refine c7 13 ?_;refine c7 14 ?_;refine c7 15 ?_;refine c7 16 ?_;refine c7 17 ?_;refine gu _ _ _ _ ?_;refine ej 18 ?_;refine gw ?_;clear hHeld;go_wp2_with fail;go_meet;exact⟨by rw [nc.o],(Below.refl ↑wv wv).drew⟩
    case rest=>
    obtain⟨rfl,U⟩:=hcut;have jX:=ag Gw U;clear U y0 b0 b1 b2;generalize wc=wx at*;cases tb with
    |true=>
     have eR:kk<ml:=by have:=oI.o;simp only [Bool.and_eq_true,decide_eq_true_eq]at this;exact this.1
     have s3:Ei (zE s D ⟨ek,H,br⟩=kk+1+((D.drop (kk+1)).takeWhile (fun a=>cT s a.ap ek)).length):=af (by have hz:D[kk]? =some (D[kk]'(by rw [uw.o];exact eR)):=List.getElem?_eq_getElem _;have h1:=oI.o;rw [List.getD_eq_getElem?_getD,hz]at h1;simp only [Bool.and_eq_true]at h1;exact(U2 hz hma.o).1 h1.2);go_wp2_with fail;go_roundw
     case rel=>exact⟨kk+1,dR,bh,s3,jX.o⟩
     exact Ej
    |false=>
     have s3:Ei (zE s D ⟨ek,H,br⟩=kk):=af (by
      by_cases eR:kk<ml
      ·have hz:D[kk]? =some (D[kk]'(by rw [uw.o];exact eR)):=List.getElem?_eq_getElem _;have h1:=oI.o;rw [List.getD_eq_getElem?_getD,hz,decide_eq_true eR,Bool.true_and]at h1;exact(U2 hz hma.o).2 h1
      have hkm:kk=D.length:=by have:=uw.o;omega
      have:=hma.o;rw [hkm,List.drop_length]at this;rw [this,hkm];rfl)
     obtain⟨hh,Vk⟩:=ai ((!DZ D kk ⟨ek,H,br⟩):Bool);have Gy:=af Vk;clear Vk oI;obtain⟨y0,b0,b1,b2⟩:=kK.o wx jX.o;go_upto_region 18 with(fail);go_cut [101] (fun u wy=>u=↑hh∧Below ↑wx wx wy)
     case first=>
      by_cases eR:kk<ml
      ·have hd:((kk:Int)==(ml:Int))=false:=by rw [beq_eq_false_iff_ne];omega
       have D8:¬(kk:Int)=(ml:Int):=bh;have ya:(kk:Int)<(ml:Int):=bh;obtain⟨z,hz⟩:=GB D kk (by rw [uw.o];exact eR);have mL:=af (jX.o.trans ((Below.refl ↑wx wx).drew.mono jX.o.size));have z0:=Vj.o wx.drew kk z mL.o hz;have hc:=kK.o wx.drew mL.o;have Ms:Ei ((z.ap !=ek)=hh):=af (by rw [<-Gy.o];unfold DZ;rw [hz];rfl);obtain⟨zp,RA,zr⟩:=z;dsimp only at z0 Ms;clear hz y0 b0 b1 b2;refine cP (S:=fun w'=>w'.cell? ⟨aH,kk*3,none⟩=↑zp∧w'.cell? ↑fc=some (.slice ↑p8 yn N)∧w'.cell? ⟨p8,t*3,none⟩=↑ek) ⟨z0,hc.1,hc.2.1⟩ fun hHeld=>?_;refine eX [0,1,2,3,4,5,6,7,8,9,10,11,12,13,14,15,16] ?_;refine gu _ _ _ _ ?_;refine ej 17 ?_;refine gw ?_;clear hHeld;go_wp2_with fail;go_meet;exact⟨by rw [Ms.o],(Below.refl ↑wx wx).drew⟩
      have hkm:kk=ml:=bh;have hd:((kk:Int)==(ml:Int))=true:=by rw [beq_iff_eq];omega
      have Ms:Ei (hh=true):=af (by rw [<-Gy.o];unfold DZ;rw [List.getElem?_eq_none (by rw [uw.o];omega)];rfl);clear hkm y0 b0 b1 b2;refine cP (S:=fun _=>True) trivial fun hHeld=>?_;refine eX [0,1,2,3,4] ?_;refine c7 5 ?_;refine c7 6 ?_;refine c7 7 ?_;refine c7 8 ?_;refine c7 9 ?_;refine c7 10 ?_;refine c7 11 ?_;refine c7 12 ?_;refine c7 13 ?_;refine c7 14 ?_;refine c7 15 ?_;refine c7 16 ?_;refine gu _ _ _ _ ?_;refine ej 17 ?_;refine gw ?_;clear hHeld;go_wp2_with fail;go_meet;exact⟨by rw [Ms.o],(Below.refl ↑wx wx).drew⟩
     case rest=>
     obtain⟨rfl,Vl⟩:=hcut;have AW:=ag jX Vl;clear Vl y0 b0 b1 b2;generalize wc=p9 at*;have xV:=af (nJ.o.below AW.o);cases hh with
     |false=>
      have I7:Ei (D=sk s X.lv (Y.lv.take (t+1))):=af (by
       have h1:DZ D kk ⟨ek,H,br⟩=true:=by have:=Gy.o;simpa using this
       rw [Mq.o,<-hme.o];unfold sj;rw [s3.o,if_pos h1])
      have aQ:=ah dO AW;go_wp2_with fail;go_roundw
      case rel=>exact⟨t+1,aH,mc,ml,D,dR,bT,rfl,bh,uw,I7,xV.o,aQ.o⟩
      exact Ej
     |true=>
      have I7:Ei (D.take kk++ [⟨ek,H,br⟩]++D.drop kk=sk s X.lv (Y.lv.take (t+1))):=af (by
       have h1:¬DZ D kk ⟨ek,H,br⟩=true:=by have:=Gy.o;simpa using this
       rw [Mq.o,<-hme.o];unfold sj;rw [s3.o,if_neg h1])
      have AX:Ei ((D.take kk++ [(⟨ek,H,br⟩:aB)]++D.drop kk).length=ml+1):=af (by simp only [List.length_append,List.length_take,List.length_drop,uw.o,List.length_cons,List.length_nil];omega);have RB:Ei (aA.heap.size<=p9.heap.size):=af (Nat.le_trans Rp.o (Nat.le_trans dO.o.size AW.o.size));go_upto_region 19 with(fail);have xa:ml<=mc:=by
       rcases xV.o.2 with⟨hv,_⟩|⟨cI,AY,Mt,hv,_,_,hh,_⟩
       ·injection hv with hv;cases hv
       injection hv with _ _ hv;rw [hv];have:=uw.o;omega
      have hkc:kk<=mc:=bh;have hkn:(kk:Int)<=(ml:Int):=bh;have iQ:(0:Int)<=(kk:Int):=bh;obtain⟨off2,hoff⟩:=aj (if mc=kk then 0 else kk*3);have Vm:(if mc=kk then(some ⟨aH,0,none⟩:Option Addr)else some ⟨aH,kk*3,none⟩)=some ⟨aH,off2,none⟩:=by rw [hoff];split<;>rfl
      have Cy:=af hoff;clear hoff;have PN:Ei (∀w',Below p9.drew.heap.size p9.drew w'->w'.cell? ↑fc=some (.slice ↑p8 yn N)∧w'.cell? ↑(p8,t*3)=↑ek∧w'.cell? ↑(p8,t*3+1)=↑H∧w'.cell? ↑(p8,t*3+2)=↑br):=af fun w' hb=>kK.o w' ((AW.o.trans ((Below.bO p9 1).mono AW.o.size)).trans (hb.mono (AW.o.trans ((Below.bO p9 1).mono AW.o.size)).size));refine cP (S:=fun w'=>w'.cell? ↑fc=some (.slice ↑p8 yn N)∧w'.cell? ⟨p8,t*3,none⟩=↑ek∧w'.cell? ⟨p8,t*3+1,none⟩=↑H∧w'.cell? ⟨p8,t*3+2,none⟩=↑br) (PN.o _ (Below.refl _ _)) fun hHeld=>?_;have gZ:Ei (bK.Row p9.drew ↑aA (.slice ↑aH ml mc) D):=af (xV.o.below (Below.bO p9 1));have b6:Ei (Below ↑p9 p9 p9.drew):=af (Below.bO p9 1);have G:=PN;clear PN;generalize p9.drew=wd at*;have dN:Ei ((D.take kk).length=kk):=af (by rw [List.length_take,uw.o];omega);have Gz:Ei ((D.take kk++ [(⟨ek,H,br⟩:aB)]).length=kk+1):=af (by rw [List.length_append,dN.o];rfl);have xb:Ei ((D.drop kk).length=ml-kk):=af (by rw [List.length_drop,uw.o]);have D9:Ei (∀w1,Below ↑wd wd w1->bK.fR w1 (some ⟨aH,off2,none⟩) (D.drop kk)):=af (by
       intro w1 PO;rw [Cy.o];by_cases hcap:mc=kk
       ·rw [if_pos hcap];have h0:D.drop kk= []:=List.eq_nil_of_length_eq_zero (by rw [xb.o];omega);rw [h0];exact bl.fR.nil
       rw [if_neg hcap];intro j e hj;rw [List.getElem?_drop]at hj;obtain⟨b,off,h1,h2,h3⟩:=(gZ.o.rd_some.below PO) (kk+j) e hj;injection h1 with h1;injection h1 with h1 h4;subst h1 h4;refine⟨aH,kk*3,rfl,h2,?_⟩;rw [show kk*3+j*bK.m=0+(kk+j)*bK.m by rw [Nat.add_mul,Nat.zero_add];rfl];exact h3)
      have oJ:Ei (Below ↑wd wd wd):=af (Below.refl _ _);refine eX [1,2,3,5,6,7,8,9,12,13,14] ?_;apply Se (C:=fun W AZ gn A0 _=>Ei (Below ↑wd wd W)∧Ei (bK.Row W ↑wd (.slice (some ⟨AZ,0,none⟩) kk A0) (D.take kk))∧Ei (av W gn 101 #[↑ek,↑H,↑br]))
      case main=>
       intro sr;refine lZ 0 10 (fun K hK=>?_) fun K hK=>?_
       ·go_simp;have hba:=Below.aI wd (.cells #[] 101);have f:=oJ.o.trans (hba.mono oJ.o.size);refine hK.out _ _ (G.o _ f) (fun hHeld=>?_);clear hK K;have pp:bK.Row (wd.alloc (.cells #[] 101)) ↑wd (.slice ↑wd.heap.size 0 0) []:=bl.Row.empty wd;have dm:(wd.alloc (.cells #[] 101)).heap.size=wd.heap.size+1:=cU;obtain⟨ge,hge⟩:=ai wd.heap.size;have bL:Ei (wd.heap.size=ge):=af hge;rw [hge]at pp dm⊢;clear hge;generalize wd.alloc (.cells #[] 101)=fV at*;have bR:=af (pp.base (show wd.heap.size<=ge by have h1:=bL.o;have h2:=oJ.o.size;omega));have qa:=af f;have I8:=af dm;clear hba f pp dm;refine lZ 4 10 (fun K hK=>?_) fun K hK=>?_
        ·refine bK.s9 dn (.tmp 102) (.tmp 105) dn wd.heap.size ge 0 0 kk [] rfl dn bR.o aH 0 mc (D.take kk) dN.o dn ((gZ.o.rd_some.below qa.o).take kk) kk bh bh qa.o.size ?_;intro AZ A0 wf fk nL rF;try rw [List.nil_append]at fk
         have jL:=iJ nL qa.o (cS bR.o);have b5:=af fk;have td:=af jL;have yb:=af (fK nL);refine hK.out _ _ (G.o _ jL) (fun hHeld=>?_);clear hK K fk jL nL rF;try simp only [Act.put,QJ,QK,QL]
         refine aU 10 fun K hK=>?_;refine PB dn 111 dn dn ?_;have hba:=Below.aI wf (.cells #[↑ek,↑H,↑br] 101);have f:=td.o.trans (hba.mono td.o.size);refine hK.out _ _ (G.o _ f) (fun hHeld=>?_);clear hK K;try simp only [Act.put,QJ,QK,QL]
         have j5:av (wf.alloc (.cells #[↑ek,↑H,↑br] 101)) ↑wf 101 #[↑ek,↑H,↑br]:=av.new _ _ _;have dm:(wf.alloc (.cells #[↑ek,↑H,↑br] 101)).heap.size=wf.heap.size+1:=cU;obtain⟨gn,jz⟩:=ai wf.heap.size;have oo:Ei (wf.heap.size=gn):=af jz;rw [jz]at j5 dm⊢;clear jz;have Cz:=b5.o.below hba;generalize wf.alloc (.cells #[↑ek,↑H,↑br] 101)=wc at*;have HN:=af j5;have pq:=af f;have Ea:=af dm;clear hba f j5 dm;replace b5:=af Cz;clear Cz;exact sr wc AZ gn A0 ge ⟨pq,b5,HN⟩
        refine PB dn 111 dn dn ?_;have hba:=Below.aI fV (.cells #[↑ek,↑H,↑br] 101);have f:=qa.o.trans (hba.mono qa.o.size);refine hK.out _ _ (G.o _ f) (fun hHeld=>?_);clear hK K;try simp only [Act.put,QJ,QK,QL]
        have j5:av (fV.alloc (.cells #[↑ek,↑H,↑br] 101)) ↑fV 101 #[↑ek,↑H,↑br]:=av.new _ _ _;have dm:(fV.alloc (.cells #[↑ek,↑H,↑br] 101)).heap.size=fV.heap.size+1:=cU;obtain⟨gn,jz⟩:=ai fV.heap.size;have oo:Ei (fV.heap.size=gn):=af jz;rw [jz]at j5 dm⊢;clear jz;have I9:=bR.o.below hba;generalize fV.alloc (.cells #[↑ek,↑H,↑br] 101)=wc at*;have HN:=af j5;have pq:=af f;have Ea:=af dm;clear hba f j5 dm;replace bR:=af I9;clear I9;refine aU 4 fun K hK=>?_;refine bK.s9 dn (.tmp 102) (.tmp 105) dn wd.heap.size ge 0 0 kk [] rfl dn bR.o aH 0 mc (D.take kk) dN.o dn ((gZ.o.rd_some.below pq.o).take kk) kk bh bh pq.o.size ?_;intro AZ A0 wf fk nL rF;try rw [List.nil_append]at fk
        have jL:=iJ nL pq.o (cS bR.o);have b5:=af fk;have td:=af jL;have yb:=af (fK nL);refine hK.out _ _ (G.o _ jL) (fun hHeld=>?_);clear hK K fk jL nL rF;try simp only [Act.put,QJ,QK,QL]
        have nM:=HN.o.keeps yb.o (fun hy=>by have h0:some ge=some gn:=hy;injection h0 with h0;have h1:=bL.o;have h2:=I8.o;have h3:=oo.o;omega);replace HN:=af nM;clear nM;exact vL (sr wf AZ gn A0 ge ⟨td,b5,HN⟩)
       refine PB dn 111 dn dn ?_;have hba:=Below.aI wd (.cells #[↑ek,↑H,↑br] 101);have f:=oJ.o.trans (hba.mono oJ.o.size);refine hK.out _ _ (G.o _ f) (fun hHeld=>?_);clear hK K;try simp only [Act.put,QJ,QK,QL]
       have j5:av (wd.alloc (.cells #[↑ek,↑H,↑br] 101)) ↑wd 101 #[↑ek,↑H,↑br]:=av.new _ _ _;have dm:(wd.alloc (.cells #[↑ek,↑H,↑br] 101)).heap.size=wd.heap.size+1:=cU;obtain⟨gn,jz⟩:=ai wd.heap.size;have oo:Ei (wd.heap.size=gn):=af jz;rw [jz]at j5 dm⊢;clear jz;generalize wd.alloc (.cells #[↑ek,↑H,↑br] 101)=wc at*;have HN:=af j5;have pq:=af f;have Ea:=af dm;clear hba f j5 dm;refine aU 0 fun K hK=>?_;go_simp;have hba:=Below.aI wc (.cells #[] 101);have f:=pq.o.trans (hba.mono pq.o.size);refine hK.out _ _ (G.o _ f) (fun hHeld=>?_);clear hK K;have pp:bK.Row (wc.alloc (.cells #[] 101)) ↑wc (.slice ↑wc.heap.size 0 0) []:=bl.Row.empty wc;have dm:(wc.alloc (.cells #[] 101)).heap.size=wc.heap.size+1:=cU;obtain⟨ge,hge⟩:=ai wc.heap.size;have bL:Ei (wc.heap.size=ge):=af hge;rw [hge]at pp dm⊢;clear hge;have lD:=HN.o.below hba;generalize wc.alloc (.cells #[] 101)=fV at*;have bR:=af (pp.base (show wd.heap.size<=ge by have h1:=bL.o;have h2:=pq.o.size;omega));have qa:=af f;have I8:=af dm;clear hba f pp dm;replace HN:=af lD;clear lD;refine aU 4 fun K hK=>?_;refine bK.s9 dn (.tmp 102) (.tmp 105) dn wd.heap.size ge 0 0 kk [] rfl dn bR.o aH 0 mc (D.take kk) dN.o dn ((gZ.o.rd_some.below qa.o).take kk) kk bh bh qa.o.size ?_;intro AZ A0 wf fk nL rF;try rw [List.nil_append]at fk
       have jL:=iJ nL qa.o (cS bR.o);have b5:=af fk;have td:=af jL;have yb:=af (fK nL);refine hK.out _ _ (G.o _ jL) (fun hHeld=>?_);clear hK K fk jL nL rF;try simp only [Act.put,QJ,QK,QL]
       have nM:=HN.o.keeps yb.o (fun hy=>by have h0:some ge=some gn:=hy;injection h0 with h0;have h1:=bL.o;have h2:=Ea.o;have h3:=oo.o;omega);replace HN:=af nM;clear nM;exact vL (sr wf AZ gn A0 ge ⟨td,b5,HN⟩)
      intro wl AZ gn A0 ge ⟨Vn,b5,HN⟩;refine aU 11 fun K hK=>?_;refine bK.s9 dn (.tmp 106) (.tmp 112) dn wd.heap.size AZ A0 kk 1 (D.take kk) dN.o dn b5.o gn 0 1 [(⟨ek,H,br⟩:aB)] rfl dn (iI.rd HN.o.lt (av.gH HN.o)) (kk+1) rfl bh Vn.o.size ?_;intro RC VP wg pu ju th;have tj:=iJ ju Vn.o (cS b5.o);have bU:=af pu;have tq:=af tj;refine hK.out _ _ (G.o _ tj) (fun hHeld=>?_);clear hK K pu tj ju th;try simp only [Act.put,QJ,QK,QL]
      refine aU 15 fun K hK=>?_;refine bK.s9 dn (.tmp 113) (.tmp 116) dn wd.heap.size RC VP (kk+1) (ml-kk) (D.take kk++ [(⟨ek,H,br⟩:aB)]) Gz.o dn bU.o aH off2 (mc-kk) (D.drop kk) xb.o dn (D9.o _ tq.o) (ml+1) bh bh tq.o.size ?_;intro aV nN qM ux yc yd;have qN:=iJ yc tq.o (cS bU.o);have Eb:=af ux;have zI:=af qN;refine hK.out _ _ (G.o _ qN) (fun hHeld=>?_);clear hK K ux qN yc yd;try simp only [Act.put,QJ,QK,QL]
      refine dY 16 fun K hK=>?_;go_simp;refine hK.out _ _ ?_;clear hK K hHeld;have rG:=af (Eb.o.base (Nat.le_trans RB.o b6.o.size));have aQ:=af (dO.o.trans ((AW.o.trans ((ah b6 zI).o.mono AW.o.size)).mono dO.o.size));go_wp2_with fail;go_roundw
      case rel=>exact⟨t+1,aV,nN,ml+1,_,dR,bT,rfl,bh,AX,I7,rG.o,aQ.o⟩
      exact Ej
   skip
   have htn:t=yn:=bh;have I7:Ei (D=sk s X.lv Y.lv):=af (by rw [hme.o,htn,I6.o,List.take_length]);have VQ:ml<=500:=bh;have Vo:=af (Vg.o.below dO.o);have Vp:=af (AU.o.below dO.o);have Vq:=af (D7.o.below dO.o);have Vr:=af (Vh.o.below dO.o);have Vs:Ei (x3 w fU ga bE aL fc p4 p5 ↑aA ↑g1 ↑g2 c d n q (gA A V k++lC (k:Int) I J j) (.slice va vn vc) #[.slice T X.lv.length xc,↑qL,↑p6,↑xr,↑kJ] #[.slice gB yn N,↑L,↑M,↑yr,↑jK] (.slice T X.lv.length xc) (.slice gB yn N) (.slice ↑aH ml mc) X.lv Y.lv D):=af ⟨Vo.o,Vp.o,Vq.o,Vr.o,(PK.o.below dO.o).row,nJ.o⟩;clear Vo Vg Vp Vq AU D7 Vr Vh PK nJ hme;have VR:¬(t:Int)<(yn:Int):=bh;go_wp2_with fail;clear y0 VR;go_loopw [15,7,2] (fun i v iB w'=>∃(t:Nat) (z:Int) (va:Option Addr) (vn vc:Nat),i=↑t∧t<=ml∧iB=↑z∧v= .slice va vn vc∧Ei (z=q+(gA A V k++lC (k:Int) I J j++(D.take t).flatMap (j0 (k:Int) s X.lv Y.lv)).length)∧x3 w w' ga bE aL fc p4 p5 ↑aA ↑g1 ↑g2 c d n q (gA A V k++lC (k:Int) I J j++(D.take t).flatMap (j0 (k:Int) s X.lv Y.lv)) (.slice va vn vc) #[.slice T X.lv.length xc,↑qL,↑p6,↑xr,↑kJ] #[.slice gB yn N,↑L,↑M,↑yr,↑jK] (.slice T X.lv.length xc) (.slice gB yn N) (.slice ↑aH ml mc) X.lv Y.lv D) (fun i _ _ _=>ml-(RowKit.intOf i).toNat)
   case atStart=>exact⟨0,z2,va,vn,vc,rfl,Nat.zero_le _,rfl,rfl,af (by rw [eg.o];simp),by have:=Vs.o;simpa using this⟩
   clear Vs eg;obtain⟨t,z,va,vn,vc,rfl,ht,rfl,rfl,hz,hL⟩:=hrel;obtain⟨wt,rfl⟩:=aj wr;have A1:=af hL;clear hL;have uy:Ei ((gA A V k++lC (k:Int) I J j++(D.take t).flatMap (j0 (k:Int) s X.lv Y.lv)).length+1<=1000000):=af (by have h1:=D4.o;have h2:=R9 (k:Int) Cv.o U7.o j;have h3:=U3 (k:Int) s X.lv Y.lv (D.take t);have h4:=List.length_take_le t D;have h5:k*(4*250+2)<=40*1002:=Nat.mul_le_mul bh (Nat.le_refl _);simp only [List.length_append];omega);have oF:0<=z∧z<=2000000000:=by have h1:=hz.o;have h2:=uy.o;omega
   by_cases vM:t<ml
   ·skip
    have al2:(t:Int)<(ml:Int):=bh;obtain⟨ee,hee⟩:=GB D t (by rw [uw.o];exact vM);have Mu:=af (R8 (i:=(k:Int)) (side:=s) (x:=X.lv) (y:=Y.lv) hee);obtain⟨al3,al4,hle,A2,hlc⟩:=A1.o.rl.at_ t ee hee;injection hle with jF Cf mI;injection jF with jF;injection jF with jF;clear Cf;subst jF;obtain⟨A3,VS,VT⟩:=ee;obtain⟨⟨qO,ye,fr⟩,qP⟩:=ai (fp X.lv A3);obtain⟨⟨aR,Z,gr⟩,PR⟩:=ai (fp Y.lv A3);have Ec:Ei (j0 (k:Int) s X.lv Y.lv ⟨A3,VS,VT⟩=if(⟨qO,ye,fr⟩:aB)≠⟨aR,Z,gr⟩then [ph k s ⟨aR,Z,gr⟩ false]else []):=af (by unfold j0;rw [qP,PR]);have CA:Ei (∀wx,Below ↑wt wt wx->Calls Tryz.prog 73 #[.slice T X.lv.length xc,↑A3] wx fun e w'=>e= .returned (.agg #[↑qO,↑ye,↑fr])∧Below wx.heap.size wx w'):=af fun wx U=>by have:=Vt (A1.o.rx.below U).sl (by have:=Cx.o;omega) A3;rwa [qP]at this
    have kv:Ei (∀wx,Below ↑wt wt wx->Calls Tryz.prog 73 #[.slice gB yn N,↑A3] wx fun e w'=>e= .returned (.agg #[↑aR,↑Z,↑gr])∧Below wx.heap.size wx w'):=af fun wx U=>by have h1:=(A1.o.PD.below U).sl;rw [I6.o]at h1;have:=Vt h1 (by have:=Vf.o;omega) A3;rw [I6.o];rwa [PR]at this
    have G:Ei (∀wx,Below ↑wt wt wx->wx.cell? ↑aL=some (.slice T X.lv.length xc)∧wx.cell? ↑fc=some (.slice gB yn N)∧wx.cell? ↑(aH,t*3)=↑A3):=af fun wx U=>⟨(A1.o.cW.below U).cell 0,(A1.o.x2.below U).cell 0,(U.cell (p:=⟨aH,t*3,none⟩) A2).trans (hlc 0 _ rfl)⟩;clear hlc hee qP PR A2 mI;go_upto_region 23 with(fail);go_cut [16,17] (fun u u2 wx=>∃cX cE,u= .pointer (some ⟨cX,0,none⟩)∧u2= .pointer (some ⟨cE,0,none⟩)∧av wx cX 101 #[↑qO,↑ye,↑fr]∧av wx cE 101 #[↑aR,↑Z,↑gr]∧Below ↑wt wt wx)
    case first=>
     as_aux_lemma=>
      have oJ:Ei (Below ↑wt wt wt.drew):=af (Below.refl ↑wt wt).drew;refine cP (S:=fun w'=>w'.cell? ↑aL=some (.slice T X.lv.length xc)∧w'.cell? ↑fc=some (.slice gB yn N)∧w'.cell? ⟨aH,t*3,none⟩=↑A3) (G.o _ oJ.o) fun hHeld=>?_;refine eX [0,1,2,3,4,5,6,8,9,10,11,12,13,14] ?_;generalize wt.drew=wd at*;apply GR (C:=fun W cX cE=>Ei (Below ↑wt wt W)∧Ei (av W cX 101 #[↑(),↑(),↑()])∧Ei (av W cE 101 #[↑(),↑(),↑()])∧Ei (¬cX=cE)∧Ei (wt.heap.size<=cX)∧Ei (wt.heap.size<=cE))
      case main=>
       intro sr;apply GR (C:=fun W cX cE=>Ei (Below ↑wt wt W)∧Ei (av W cX 101 #[↑(),↑(),↑()])∧Ei (av W cE 101 #[↑(),↑(),↑()])∧Ei (¬cX=cE)∧Ei (wt.heap.size<=cX)∧Ei (wt.heap.size<=cE))
       case main=>
        intro oz;apply JM (C:=fun W g=>Ei (Below ↑wt wt W)∧Ei (av W g 101 #[↑(),↑(),↑()])∧Ei (wt.heap.size<=g))
        case main=>
         intro yV;apply JM (C:=fun W g=>Ei (Below ↑wt wt W)∧Ei (av W g 101 #[↑(),↑(),↑()])∧Ei (wt.heap.size<=g))
         case main=>
          intro yY;refine U4 7 16 17 (fun K hK=>?_) (fun K hK=>?_) fun K hK=>?_
          ·go_simp;go_at_call 73;refine(CA.o _ oJ.o).mono ?_;rintro e e1 ⟨rfl,F⟩;have zJ:=ag oJ F;refine hK.out _ _ (G.o _ zJ.o) (fun hHeld=>?_);clear hK K F;refine U4 15 16 17 (fun K hK=>?_) (fun K hK=>?_) fun K hK=>?_
           ·go_simp;go_at_call 73;refine(kv.o _ zJ.o).mono ?_;rintro e e2 ⟨rfl,F⟩;have Ed:=ag zJ F;refine hK.out _ _ (G.o _ Ed.o) (fun hHeld=>?_);clear hK K F;refine lZ 16 17 (fun K hK=>?_) fun K hK=>?_
            ·go_simp;have hba:=Below.aI e2 (.cells #[↑(),↑(),↑()] 101);have Mv:=ag Ed hba;have Mw:Ei (av (e2.alloc (.cells #[↑(),↑(),↑()] 101)) ↑e2 101 #[↑(),↑(),↑()]):=af (av.new _ _ _);refine hK.out _ _ (G.o _ Mv.o) (fun hHeld=>?_);obtain⟨cX,E⟩:=ai e2.heap.size;have Q:Ei (wt.heap.size<=cX):=af (by rw [<-E];exact Ed.o.size);rw [E]at Mw⊢;clear hK K hba E;generalize e2.alloc (.cells #[↑(),↑(),↑()] 101)=bJ at*;exact yV bJ cX ⟨Mv,Mw,Q⟩
            go_simp;have hba:=Below.aI e2 (.cells #[↑(),↑(),↑()] 101);have Vu:=ag Ed hba;have Vv:Ei (av (e2.alloc (.cells #[↑(),↑(),↑()] 101)) ↑e2 101 #[↑(),↑(),↑()]):=af (av.new _ _ _);refine hK.out _ _ (G.o _ Vu.o) (fun hHeld=>?_);obtain⟨cE,E⟩:=ai e2.heap.size;have R:Ei (wt.heap.size<=cE):=af (by rw [<-E];exact Ed.o.size);rw [E]at Vv⊢;clear hK K hba E;generalize e2.alloc (.cells #[↑(),↑(),↑()] 101)=cV at*;exact yY cV cE ⟨Vu,Vv,R⟩
           ·go_simp;have hba:=Below.aI e1 (.cells #[↑(),↑(),↑()] 101);have Mx:=ag zJ hba;have oC:Ei (av (e1.alloc (.cells #[↑(),↑(),↑()] 101)) ↑e1 101 #[↑(),↑(),↑()]):=af (av.new _ _ _);refine hK.out _ _ (G.o _ Mx.o) (fun hHeld=>?_);obtain⟨cX,E⟩:=ai e1.heap.size;have Q:Ei (wt.heap.size<=cX):=af (by rw [<-E];exact zJ.o.size);rw [E]at oC⊢;clear hK K hba E;generalize e1.alloc (.cells #[↑(),↑(),↑()] 101)=su at*;refine lZ 15 17 (fun K hK=>?_) fun K hK=>?_
            ·go_simp;go_at_call 73;refine(kv.o _ Mx.o).mono ?_;rintro e vN ⟨rfl,F⟩;have Vw:=ag Mx F;have Vx:=af (oC.o.below F);refine hK.out _ _ (G.o _ Vw.o) (fun hHeld=>?_);clear hK K F oC;exact vL (yV vN cX ⟨Vw,Vx,Q⟩)
            go_simp;have hba:=Below.aI su (.cells #[↑(),↑(),↑()] 101);have Ee:=ag Mx hba;have JP:Ei (av (su.alloc (.cells #[↑(),↑(),↑()] 101)) ↑su 101 #[↑(),↑(),↑()]):=af (av.new _ _ _);have GA:=af (oC.o.below hba);refine hK.out _ _ (G.o _ Ee.o) (fun hHeld=>?_);obtain⟨cE,E⟩:=ai su.heap.size;have R:Ei (wt.heap.size<=cE):=af (by rw [<-E];exact Mx.o.size);have r:Ei (¬cX=cE):=af (by have:=oC.o.lt;omega);rw [E]at JP⊢;clear hK K hba E oC;generalize su.alloc (.cells #[↑(),↑(),↑()] 101)=vO at*;exact oz vO cX cE ⟨Ee,GA,JP,r,Q,R⟩
           go_simp;have hba:=Below.aI e1 (.cells #[↑(),↑(),↑()] 101);have Mz:=ag zJ hba;have oY:Ei (av (e1.alloc (.cells #[↑(),↑(),↑()] 101)) ↑e1 101 #[↑(),↑(),↑()]):=af (av.new _ _ _);refine hK.out _ _ (G.o _ Mz.o) (fun hHeld=>?_);obtain⟨cE,E⟩:=ai e1.heap.size;have R:Ei (wt.heap.size<=cE):=af (by rw [<-E];exact zJ.o.size);rw [E]at oY⊢;clear hK K hba E;generalize e1.alloc (.cells #[↑(),↑(),↑()] 101)=Ja at*;refine lZ 15 16 (fun K hK=>?_) fun K hK=>?_
           ·go_simp;go_at_call 73;refine(kv.o _ Mz.o).mono ?_;rintro e VU ⟨rfl,F⟩;have Vy:=ag Mz F;have Vz:=af (oY.o.below F);refine hK.out _ _ (G.o _ Vy.o) (fun hHeld=>?_);clear hK K F oY;exact vL (yY VU cE ⟨Vy,Vz,R⟩)
           go_simp;have hba:=Below.aI Ja (.cells #[↑(),↑(),↑()] 101);have MA:=ag Mz hba;have VA:Ei (av (Ja.alloc (.cells #[↑(),↑(),↑()] 101)) ↑Ja 101 #[↑(),↑(),↑()]):=af (av.new _ _ _);have PT:=af (oY.o.below hba);refine hK.out _ _ (G.o _ MA.o) (fun hHeld=>?_);obtain⟨cX,E⟩:=ai Ja.heap.size;have Q:Ei (wt.heap.size<=cX):=af (by rw [<-E];exact Mz.o.size);have r:Ei (¬cX=cE):=af (by have:=oY.o.lt;omega);rw [E]at VA⊢;clear hK K hba E oY;generalize Ja.alloc (.cells #[↑(),↑(),↑()] 101)=al5 at*;exact vL (oz al5 cX cE ⟨MA,VA,PT,r,Q,R⟩)
          ·go_simp;have hba:=Below.aI wd (.cells #[↑(),↑(),↑()] 101);have VB:=ag oJ hba;have ov:Ei (av (wd.alloc (.cells #[↑(),↑(),↑()] 101)) ↑wd 101 #[↑(),↑(),↑()]):=af (av.new _ _ _);refine hK.out _ _ (G.o _ VB.o) (fun hHeld=>?_);obtain⟨cX,E⟩:=ai wd.heap.size;have Q:Ei (wt.heap.size<=cX):=af (by rw [<-E];exact oJ.o.size);rw [E]at ov⊢;clear hK K hba E;generalize wd.alloc (.cells #[↑(),↑(),↑()] 101)=rm at*;refine lZ 7 17 (fun K hK=>?_) fun K hK=>?_
           ·go_simp;go_at_call 73;refine(CA.o _ VB.o).mono ?_;rintro e Jb ⟨rfl,F⟩;have Ef:=ag VB F;have rX:=af (ov.o.below F);refine hK.out _ _ (G.o _ Ef.o) (fun hHeld=>?_);clear hK K F ov;refine lZ 15 17 (fun K hK=>?_) fun K hK=>?_
            ·go_simp;go_at_call 73;refine(kv.o _ Ef.o).mono ?_;rintro e Jc ⟨rfl,F⟩;have MB:=ag Ef F;have aot:=af (rX.o.below F);refine hK.out _ _ (G.o _ MB.o) (fun hHeld=>?_);clear hK K F rX;exact vL (yV Jc cX ⟨MB,aot,Q⟩)
            go_simp;have hba:=Below.aI Jb (.cells #[↑(),↑(),↑()] 101);have VC:=ag Ef hba;have G7:Ei (av (Jb.alloc (.cells #[↑(),↑(),↑()] 101)) ↑Jb 101 #[↑(),↑(),↑()]):=af (av.new _ _ _);have VD:=af (rX.o.below hba);refine hK.out _ _ (G.o _ VC.o) (fun hHeld=>?_);obtain⟨cE,E⟩:=ai Jb.heap.size;have R:Ei (wt.heap.size<=cE):=af (by rw [<-E];exact Ef.o.size);have r:Ei (¬cX=cE):=af (by have:=rX.o.lt;omega);rw [E]at G7⊢;clear hK K hba E rX;generalize Jb.alloc (.cells #[↑(),↑(),↑()] 101)=VV at*;exact vL (oz VV cX cE ⟨VC,VD,G7,r,Q,R⟩)
           go_simp;have hba:=Below.aI rm (.cells #[↑(),↑(),↑()] 101);have MC:=ag VB hba;have VE:Ei (av (rm.alloc (.cells #[↑(),↑(),↑()] 101)) ↑rm 101 #[↑(),↑(),↑()]):=af (av.new _ _ _);have PV:=af (ov.o.below hba);refine hK.out _ _ (G.o _ MC.o) (fun hHeld=>?_);obtain⟨cE,E⟩:=ai rm.heap.size;have R:Ei (wt.heap.size<=cE):=af (by rw [<-E];exact VB.o.size);have r:Ei (¬cX=cE):=af (by have:=ov.o.lt;omega);rw [E]at VE⊢;clear hK K hba E ov;generalize rm.alloc (.cells #[↑(),↑(),↑()] 101)=al6 at*;refine aU 7 fun K hK=>?_;go_simp;go_at_call 73;refine(CA.o _ MC.o).mono ?_;rintro e e16 ⟨rfl,F⟩;have VF:=ag MC F;have Xh:=af (PV.o.below F);have Xo:=af (VE.o.below F);refine hK.out _ _ (G.o _ VF.o) (fun hHeld=>?_);clear hK K F PV VE;exact vL (oz e16 cX cE ⟨VF,Xh,Xo,r,Q,R⟩)
          go_simp;have hba:=Below.aI wd (.cells #[↑(),↑(),↑()] 101);have Eg:=ag oJ hba;have pM:Ei (av (wd.alloc (.cells #[↑(),↑(),↑()] 101)) ↑wd 101 #[↑(),↑(),↑()]):=af (av.new _ _ _);refine hK.out _ _ (G.o _ Eg.o) (fun hHeld=>?_);obtain⟨cE,E⟩:=ai wd.heap.size;have R:Ei (wt.heap.size<=cE):=af (by rw [<-E];exact oJ.o.size);rw [E]at pM⊢;clear hK K hba E;generalize wd.alloc (.cells #[↑(),↑(),↑()] 101)=e17 at*;refine lZ 7 16 (fun K hK=>?_) fun K hK=>?_
          ·go_simp;go_at_call 73;refine(CA.o _ Eg.o).mono ?_;rintro e Jd ⟨rfl,F⟩;have Eh:=ag Eg F;have sB:=af (pM.o.below F);refine hK.out _ _ (G.o _ Eh.o) (fun hHeld=>?_);clear hK K F pM;refine lZ 15 16 (fun K hK=>?_) fun K hK=>?_
           ·go_simp;go_at_call 73;refine(kv.o _ Eh.o).mono ?_;rintro e e19 ⟨rfl,F⟩;have MD:=ag Eh F;have aou:=af (sB.o.below F);refine hK.out _ _ (G.o _ MD.o) (fun hHeld=>?_);clear hK K F sB;exact vL (yY e19 cE ⟨MD,aou,R⟩)
           go_simp;have hba:=Below.aI Jd (.cells #[↑(),↑(),↑()] 101);have VG:=ag Eh hba;have Ho:Ei (av (Jd.alloc (.cells #[↑(),↑(),↑()] 101)) ↑Jd 101 #[↑(),↑(),↑()]):=af (av.new _ _ _);have VH:=af (sB.o.below hba);refine hK.out _ _ (G.o _ VG.o) (fun hHeld=>?_);obtain⟨cX,E⟩:=ai Jd.heap.size;have Q:Ei (wt.heap.size<=cX):=af (by rw [<-E];exact Eh.o.size);have r:Ei (¬cX=cE):=af (by have:=sB.o.lt;omega);rw [E]at Ho⊢;clear hK K hba E sB;generalize Jd.alloc (.cells #[↑(),↑(),↑()] 101)=Xp at*;exact vL (oz Xp cX cE ⟨VG,Ho,VH,r,Q,R⟩)
          go_simp;have hba:=Below.aI e17 (.cells #[↑(),↑(),↑()] 101);have ME:=ag Eg hba;have VI:Ei (av (e17.alloc (.cells #[↑(),↑(),↑()] 101)) ↑e17 101 #[↑(),↑(),↑()]):=af (av.new _ _ _);have PX:=af (pM.o.below hba);refine hK.out _ _ (G.o _ ME.o) (fun hHeld=>?_);obtain⟨cX,E⟩:=ai e17.heap.size;have Q:Ei (wt.heap.size<=cX):=af (by rw [<-E];exact Eg.o.size);have r:Ei (¬cX=cE):=af (by have:=pM.o.lt;omega);rw [E]at VI⊢;clear hK K hba E pM;generalize e17.alloc (.cells #[↑(),↑(),↑()] 101)=al7 at*;refine aU 7 fun K hK=>?_;go_simp;go_at_call 73;refine(CA.o _ ME.o).mono ?_;rintro e Xq ⟨rfl,F⟩;have VJ:=ag ME F;have Xr:=af (VI.o.below F);have Xs:=af (PX.o.below F);refine hK.out _ _ (G.o _ VJ.o) (fun hHeld=>?_);clear hK K F VI PX;exact vL (oz Xq cX cE ⟨VJ,Xr,Xs,r,Q,R⟩)
         intro wl cE ⟨Vn,pQ,R⟩;refine aU 16 fun K hK=>?_;go_simp;have hba:=Below.aI wl (.cells #[↑(),↑(),↑()] 101);have MF:=ag Vn hba;have VK:Ei (av (wl.alloc (.cells #[↑(),↑(),↑()] 101)) ↑wl 101 #[↑(),↑(),↑()]):=af (av.new _ _ _);have PY:=af (pQ.o.below hba);refine hK.out _ _ (G.o _ MF.o) (fun hHeld=>?_);obtain⟨cX,E⟩:=ai wl.heap.size;have Q:Ei (wt.heap.size<=cX):=af (by rw [<-E];exact Vn.o.size);have r:Ei (¬cX=cE):=af (by have:=pQ.o.lt;omega);rw [E]at VK⊢;clear hK K hba E pQ;generalize wl.alloc (.cells #[↑(),↑(),↑()] 101)=al8 at*;exact sr al8 cX cE ⟨MF,VK,PY,r,Q,R⟩
        intro wl cX ⟨Vn,pX,Q⟩;refine aU 17 fun K hK=>?_;go_simp;have hba:=Below.aI wl (.cells #[↑(),↑(),↑()] 101);have MG:=ag Vn hba;have VM:Ei (av (wl.alloc (.cells #[↑(),↑(),↑()] 101)) ↑wl 101 #[↑(),↑(),↑()]):=af (av.new _ _ _);have VL:=af (pX.o.below hba);refine hK.out _ _ (G.o _ MG.o) (fun hHeld=>?_);obtain⟨cE,E⟩:=ai wl.heap.size;have R:Ei (wt.heap.size<=cE):=af (by rw [<-E];exact Vn.o.size);have r:Ei (¬cX=cE):=af (by have:=pX.o.lt;omega);rw [E]at VM⊢;clear hK K hba E pX;generalize wl.alloc (.cells #[↑(),↑(),↑()] 101)=al9 at*;exact vL (sr al9 cX cE ⟨MG,VL,VM,r,Q,R⟩)
       intro wl cX cE ⟨Vn,pX,pQ,r,Q,R⟩;refine aU 15 fun K hK=>?_;go_simp;go_at_call 73;refine(kv.o _ Vn.o).mono ?_;rintro e Xt ⟨rfl,F⟩;have VN:=ag Vn F;have Xu:=af (pX.o.below F);have Xv:=af (pQ.o.below F);refine hK.out _ _ (G.o _ VN.o) (fun hHeld=>?_);clear hK K F pX pQ;exact vL (sr Xt cX cE ⟨VN,Xu,Xv,r,Q,R⟩)
      intro W cX cE ⟨dO,GF,VW,r,Q,R⟩;obtain⟨x0,x1,aZ⟩:=GF.o.gQ;have fx:∀o,W.frozen? ⟨cX,o,none⟩=false:=fun o=>GF.o.frozen o;refine aU 18 fun K hK=>?_;go_simp;have ML:=af (GF.o.vP ↑qO ↑ye ↑fr);have iw:=af (VW.o.keeps (aK.vP W cX ↑qO ↑ye ↑fr) (show¬cE=cX from fun e=>by have:=r.o;omega));have je:=af (dO.o.trans ((aK.vP W cX ↑qO ↑ye ↑fr).below (B:=wt.heap.size) (fun k hk=>by have e:k=cX:=hk;rw [e];exact Q.o) dO.o.size));refine hK.out _ _ (G.o _ je.o) (fun hHeld=>?_);clear hK K x0 x1 aZ fx GF VW dO;generalize ((W.setCell ↑cX ↑qO).setCell ⟨cX,1,none⟩ ↑ye).setCell ⟨cX,2,none⟩ ↑fr=GG at*;obtain⟨y0,y1,fI⟩:=iw.o.gQ;have Um:∀o,GG.frozen? ⟨cE,o,none⟩=false:=fun o=>iw.o.frozen o;refine dY 19 fun K hK=>?_;go_simp;refine hK.out _ _ ?_;clear hK K hHeld y0 y1 fI Um;have Un:=af (ML.o.keeps (aK.vP GG cE ↑aR ↑Z ↑gr) (show¬cX=cE from fun e=>by have:=r.o;omega));have Up:=af (iw.o.vP ↑aR ↑Z ↑gr);have fZ:=af (je.o.trans ((aK.vP GG cE ↑aR ↑Z ↑gr).below (B:=wt.heap.size) (fun k hk=>by have e:k=cE:=hk;rw [e];exact R.o) je.o.size));go_wp2_with fail;go_meet;exact⟨cX,cE,rfl,rfl,Un.o,Up.o,fZ.o⟩
    case rest=>
    obtain⟨cX,cE,rfl,rfl,tr,CB,U⟩:=hcut;have P:=af (A1.o.below U);generalize wc=fV at*;obtain⟨k0,k1,k2⟩:=tr.gQ;obtain⟨m0,m1,m2⟩:=CB.gQ;clear tr CB U A1 CA kv G;by_cases heq:(⟨qO,ye,fr⟩:aB)=⟨aR,Z,gr⟩
    ·as_aux_lemma=>
     have Ek:Ei (z=q+(gA A V k++lC (k:Int) I J j++(D.take (t+1)).flatMap (j0 (k:Int) s X.lv Y.lv)).length):=af (by rw [Mu.o,Ec.o,if_neg (fun h=>h heq),List.append_nil];exact hz.o);have zK:Ei (x3 w fV ga bE aL fc p4 p5 ↑aA ↑g1 ↑g2 c d n q (gA A V k++lC (k:Int) I J j++(D.take (t+1)).flatMap (j0 (k:Int) s X.lv Y.lv)) (.slice va vn vc) #[.slice T X.lv.length xc,↑qL,↑p6,↑xr,↑kJ] #[.slice gB yn N,↑L,↑M,↑yr,↑jK] (.slice T X.lv.length xc) (.slice gB yn N) (.slice ↑aH ml mc) X.lv Y.lv D):=af (by rw [Mu.o,Ec.o,if_neg (fun h=>h heq),List.append_nil];exact P.o);injection heq with h1 h2 h3;subst h1;subst h2;subst h3;clear P hz;go_wp2_with fail;go_roundw
     case rel=>exact⟨t+1,z,va,vn,vc,dR,vM,rfl,rfl,Ek,zK.o⟩
     exact Ej
    skip
    have rH:Ei (¬(⟨qO,ye,fr⟩:aB)=⟨aR,Z,gr⟩):=af heq;go_upto_region 24 with(fail);go_cut [142] (fun u wx=>u= .bool true∧fV=wx)
    case first=>
     as_aux_lemma=>
      by_cases h1:qO=aR
      ·subst h1;by_cases h2:ye=Z
       ·subst h2;have h3:¬fr=gr:=fun h=>rH.o (by rw [h]);clear heq;go_wp2_with fail;go_meet;exact⟨by first|rfl|(simp;done)|(simp [h3];done),rfl⟩
       clear heq;go_wp2_with fail;go_meet;exact⟨by first|rfl|(simp;done)|(simp [h2];done),rfl⟩
      clear heq;go_wp2_with fail;go_meet;exact⟨by first|rfl|(simp;done)|(simp [h1];done),rfl⟩
    case rest=>
    obtain⟨rfl,rfl⟩:=hcut;clear heq k0 k1 k2;obtain⟨A4,El⟩:=ai (gA A V k++lC (k:Int) I J j++(D.take t).flatMap (j0 (k:Int) s X.lv Y.lv):List aF);rw [El]at P hz uy;have Jj:=af El;clear El;obtain⟨O,hz1⟩:=ai (z+1:Int);have zL:=af hz1;have Uu:IntKind.i64.wrap (z+1)=O:=by rw [hz1];exact IntWalk.i64_in _ bh
    clear hz1;have hba:=Below.aI fV (.cells #[↑O,↑k,↑s,↑aR,↑Z,↑gr,.bool false] 86);have Em:Ei (av (fV.alloc (.cells #[↑O,↑k,↑s,↑aR,↑Z,↑gr,.bool false] 86)) ↑fV 86 (hH.cells ⟨O,k,s,aR,Z,gr,false⟩).toArray):=af (av.new _ _ _);have cK:=af hba;have Jk:=af (P.o.d.row.below hba);have iD:Ei (w.heap.size<=(fV.alloc (.cells #[↑O,↑k,↑s,↑aR,↑Z,↑gr,.bool false] 86)).heap.size):=af (Nat.le_trans P.o.d.aJ.size hba.size);clear hba;go_wp2_with (first
     |(at_builtin;go_loud (refine hH.push rfl (.tmp 145) (.tmp 156) rfl ↑w (.slice va vn vc) (kU q (A4)) rfl Jk.o ↑fV ⟨O,k,s,aR,Z,gr,false⟩ rfl Em.o.lt Em.o.gH (by rw [Gi];exact uy.o) iD.o ?_)))
    intro v' qQ dl gb _;obtain⟨a5,b8,hM⟩:=dl.form;obtain⟨MM,Jl⟩:=ai ((kU q (A4)++ [(⟨O,k,s,aR,Z,gr,false⟩:aF)]).length);rw [Jl]at hM;clear Jl;subst hM;have Jm:(⟨O,k,s,aR,Z,gr,false⟩:aF)={ph k s ⟨aR,Z,gr⟩ false with seq:=q+((A4).length:Int)+1}:=by have h1:=zL.o;have h2:=hz.o;rw [<-h1,h2];rfl
    rw [Jm]at dl;have zK:=af (P.o.push (m:=ph k s ⟨aR,Z,gr⟩ false) cK.o dl gb);clear Jm;have Ek:Ei (O=q+((A4)++ [ph k s ⟨aR,Z,gr⟩ false]).length):=af (by have h1:=zL.o;have h2:=hz.o;rw [List.length_append,List.length_singleton];omega);clear dl gb cK Em Jk iD P;have Jn:Ei (O=q+(gA A V k++lC (k:Int) I J j++(D.take (t+1)).flatMap (j0 (k:Int) s X.lv Y.lv)).length):=af (by rw [Mu.o,Ec.o,if_pos rH.o,<-List.append_assoc,Jj.o];exact Ek.o);have Jo:Ei (x3 w qQ ga bE aL fc p4 p5 ↑aA ↑g1 ↑g2 c d n q (gA A V k++lC (k:Int) I J j++(D.take (t+1)).flatMap (j0 (k:Int) s X.lv Y.lv)) (.slice a5 MM b8) #[.slice T X.lv.length xc,↑qL,↑p6,↑xr,↑kJ] #[.slice gB yn N,↑L,↑M,↑yr,↑jK] (.slice T X.lv.length xc) (.slice gB yn N) (.slice ↑aH ml mc) X.lv Y.lv D):=af (by rw [Mu.o,Ec.o,if_pos rH.o,<-List.append_assoc,Jj.o];exact zK.o);clear zK Ek hz;go_wp2_with fail;go_roundw
    case rel=>exact⟨t+1,O,a5,MM,b8,dR,vM,rfl,rfl,Jn,Jo.o⟩
    exact Ej
   skip
   have htl:t=ml:=bh;have VX:Ei (gA A V k++lC (k:Int) I J j++(D.take t).flatMap (j0 (k:Int) s X.lv Y.lv)=gA A V k++lC (k:Int) I J j++wX (k:Int) s X.lv Y.lv):=af (by unfold wX;rw [htl,<-uw.o,List.take_length,I7.o]);rw [VX.o]at hz uy;have P:Ei (x3 w wt ga bE aL fc p4 p5 ↑aA ↑g1 ↑g2 c d n q (gA A V k++lC (k:Int) I J j++wX (k:Int) s X.lv Y.lv) (.slice va vn vc) #[.slice T X.lv.length xc,↑qL,↑p6,↑xr,↑kJ] #[.slice gB yn N,↑L,↑M,↑yr,↑jK] (.slice T X.lv.length xc) (.slice gB yn N) (.slice ↑aH ml mc) X.lv Y.lv D):=af (by rw [<-VX.o];exact A1.o);clear htl A1;have x1:=P.o.cW.GD;have aZ:=P.o.cW.Je;have cl:=P.o.cW.Jf;have cw:=P.o.cW.Jg;have y1:=P.o.x2.GD;have fI:=P.o.x2.Je;have lF:=P.o.x2.Jf;have qb:=P.o.x2.Jg;have MN:Ei (Ct (k:Int) s X Y=if kJ≠jK∨(⟨qL,p6,xr⟩:aB)≠⟨L,M,yr⟩then [ph k s ⟨L,M,yr⟩ true]else []):=af (by unfold Ct;rw [Vc.o.1,Vc.o.2,Vd.o.1,Vd.o.2]);have MO:Ei (gA A V k++lC (k:Int) I J (j+1)=gA A V k++lC (k:Int) I J j++wX (k:Int) s X.lv Y.lv++Ct (k:Int) s X Y):=af (by rw [PJ.o];unfold wY;simp only [List.append_assoc]);obtain⟨cd,hcd⟩:∃b,decide (kJ≠jK∨(⟨qL,p6,xr⟩:aB)≠⟨L,M,yr⟩)=b:=⟨_,rfl⟩;have gW:=af hcd;clear hcd;go_upto_region 27 with(fail);go_cut [169] (fun u wx=>u=↑cd∧wt=wx)
   case first=>
    as_aux_lemma=>
     by_cases GH:kJ=jK
     ·subst GH;by_cases h1:qL=L
      ·subst h1;by_cases h2:p6=M
       ·subst h2;by_cases h3:xr=yr
        ·subst h3;obtain rfl:cd=false:=by rw [<-gW.o];exact decide_eq_false (by rintro(h|h);exact h rfl;exact h rfl)
         clear gW;go_wp2_with fail;go_meet;exact⟨by first|rfl|(simp;done),rfl⟩
        obtain rfl:cd=true:=by rw [<-gW.o];exact decide_eq_true (.inr fun h=>h3 (by injection h))
        clear gW;go_wp2_with fail;go_meet;exact⟨by first|rfl|(simp;done)|(simp [h3];done),rfl⟩
       obtain rfl:cd=true:=by rw [<-gW.o];exact decide_eq_true (.inr fun h=>h2 (by injection h))
       clear gW;go_wp2_with fail;go_meet;exact⟨by first|rfl|(simp;done)|(simp [h2];done),rfl⟩
      obtain rfl:cd=true:=by rw [<-gW.o];exact decide_eq_true (.inr fun h=>h1 (by injection h))
      clear gW;go_wp2_with fail;go_meet;exact⟨by first|rfl|(simp;done)|(simp [h1];done),rfl⟩
     obtain rfl:cd=true:=by rw [<-gW.o];exact decide_eq_true (.inl GH)
     have GI:(kJ !=jK)=true:=by rw [bne_iff_ne];exact GH
     have VY:=af GH;clear gW;cases kJ with
     |false=>
      cases jK with
      |false=>exact absurd rfl VY.o
      |true=>clear GH GI;go_wp2_with fail;go_meet;exact⟨by first|rfl|(simp;done),rfl⟩
     |true=>
      cases jK with
      |true=>exact absurd rfl VY.o
      |false=>clear GH GI;go_wp2_with fail;go_meet;exact⟨by first|rfl|(simp;done),rfl⟩
   case rest=>
   obtain⟨rfl,rfl⟩:=hcut;clear x1 aZ cl cw qb;cases cd with
   |false=>
    as_aux_lemma=>
     have Jp:=af (of_decide_eq_false gW.o);have Jn:Ei (z=q+(gA A V k++lC (k:Int) I J (j+1)).length):=af (by rw [MO.o,MN.o,if_neg Jp.o,List.append_nil];exact hz.o);have VZ:Ei (gA A V k++lC (k:Int) I J (j+1)=gA A V k++lC (k:Int) I J j++wX (k:Int) s X.lv Y.lv):=af (by rw [MO.o,MN.o,if_neg Jp.o,List.append_nil]);have Jo:Ei (w5 w wt ga bE ↑g1 ↑g2 c d n q (gA A V k++lC (k:Int) I J (j+1)) (.slice va vn vc)):=af (by rw [VZ.o];exact P.o.d);clear P hz VZ gW y1 fI lF;go_wp2_with fail;go_roundw
     case rel=>exact⟨j+1,s+1,z,va,vn,vc,dR,by have:=I1.o;omega,bh,rfl,rfl,Jn,Jo.o⟩
     exact Ej
   |true=>
    have Jp:=af (of_decide_eq_true gW.o);clear gW;obtain⟨A4,El⟩:=ai (gA A V k++lC (k:Int) I J j++wX (k:Int) s X.lv Y.lv:List aF);rw [El]at P hz uy;have Jj:=af El;clear El;obtain⟨O,hz1⟩:=ai (z+1:Int);have zL:=af hz1;have Uu:IntKind.i64.wrap (z+1)=O:=by rw [hz1];exact IntWalk.i64_in _ bh
    clear hz1;have hba:=Below.aI wt (.cells #[↑O,↑k,↑s,↑L,↑M,↑yr,.bool true] 86);have Em:Ei (av (wt.alloc (.cells #[↑O,↑k,↑s,↑L,↑M,↑yr,.bool true] 86)) ↑wt 86 (hH.cells ⟨O,k,s,L,M,yr,true⟩).toArray):=af (av.new _ _ _);have cK:=af hba;have Jk:=af (P.o.d.row.below hba);have iD:Ei (w.heap.size<=(wt.alloc (.cells #[↑O,↑k,↑s,↑L,↑M,↑yr,.bool true] 86)).heap.size):=af (Nat.le_trans P.o.d.aJ.size hba.size);clear hba;go_wp2_with (first
     |(at_builtin;go_loud (refine hH.push rfl (.tmp 172) (.tmp 186) rfl ↑w (.slice va vn vc) (kU q (A4)) rfl Jk.o ↑wt ⟨O,k,s,L,M,yr,true⟩ rfl Em.o.lt Em.o.gH (by rw [Gi];exact uy.o) iD.o ?_)))
    intro v' qQ dl gb _;obtain⟨a5,b8,hM⟩:=dl.form;obtain⟨MM,Jl⟩:=ai ((kU q (A4)++ [(⟨O,k,s,L,M,yr,true⟩:aF)]).length);rw [Jl]at hM;clear Jl;subst hM;have Jm:(⟨O,k,s,L,M,yr,true⟩:aF)={ph k s ⟨L,M,yr⟩ true with seq:=q+((A4).length:Int)+1}:=by have h1:=zL.o;have h2:=hz.o;rw [<-h1,h2];rfl
    rw [Jm]at dl;have zK:=af (P.o.push (m:=ph k s ⟨L,M,yr⟩ true) cK.o dl gb);clear Jm;have Ek:Ei (O=q+((A4)++ [ph k s ⟨L,M,yr⟩ true]).length):=af (by have h1:=zL.o;have h2:=hz.o;rw [List.length_append,List.length_singleton];omega);clear dl gb cK Em Jk iD P;have Jn:Ei (O=q+(gA A V k++lC (k:Int) I J (j+1)).length):=af (by rw [MO.o,MN.o,if_pos Jp.o,Jj.o];exact Ek.o);have Jo:=af zK.o.d;clear zK Ek hz;go_wp2_with fail;go_roundw
    case rel=>exact⟨j+1,s+1,O,a5,MM,b8,dR,by have:=I1.o;omega,bh,rfl,rfl,Jn,by rw [MO.o,MN.o,if_pos Jp.o,Jj.o];exact Jo.o⟩
    exact Ej
  have En:j=2:=bh;have amd:¬s<=2:=bh;clear hD;have UF:Ei (w5 w wy ga bE a b c d n q (gA A V (k+1)) (.slice va vn vc)):=af (by rw [U6.o];have:=D5.o;rw [En]at this;exact this);have yf:Ei (z2=q+(gA A V (k+1)).length):=af (by rw [U6.o];have:=eg.o;rw [En]at this;exact this);clear hs hj hj2 En;go_wp2_with fail;go_roundw
  case rel=>exact⟨k+1,z2,va,vn,vc,dR,hlt,rfl,rfl,yf,UF.o⟩
  exact Ej
 have hkn:k=n:=bh;have cY:Ei (hH.Row ax ↑w (.slice va vn vc) (kU q (gA A V n))):=af (by have:=I0.o.row;rwa [hkn]at this);have kL:=af I0.o.aJ;clear hkn;go_wp2_with fail;go_ret;exact⟨_,rfl,cY.o,kL.o⟩
end
end Go.Proofs.YtmaijkoopjocdaaGreat
