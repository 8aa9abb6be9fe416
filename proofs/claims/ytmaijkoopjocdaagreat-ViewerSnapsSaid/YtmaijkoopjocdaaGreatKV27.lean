import Derived.Test.YtmaijkoopjocdaaGreatKV26
set_option maxRecDepth 100000
set_option maxHeartbeats 64000000
namespace Go.Proofs.YtmaijkoopjocdaaGreat
open Go.RowKit Go.Lib
structure w5 (w wr:World) (ga bE:Nat) (a b:Option Addr) (c d n:Nat) (q:Int) (M:List aF) (v:Value):Prop where
 ba:av wr ga 54 #[.slice a n c]
 bb:av wr bE 54 #[.slice b n d]
 row:hH.Row wr w.heap.size v (kU q M)
 aJ:Below w.heap.size w wr
def lC (i:Int) (x y:aX×aX) (j:Nat):List aF:=if j=0 then []else if j=1 then wY i 1 x.1 y.1 else wZ i x y
theorem adQ {A B:bG} {k:Nat} {x y:aX×aX} (hx:A[k]? =some x) (hy:B[k]? =some y):gA A B (k+1)=gA A B k++wZ (k:Int) x y:=by
 unfold gA;rw [List.range_succ,List.flatMap_append];simp [hx,hy]
theorem adR {side:Int} {x y:List aB} {k:Nat} {b:aB} (h:y[k]? =some b):sk side x (y.take (k+1))=sj side (sk side x (y.take k)) b:=by
 unfold sk;rw [kH h,List.foldl_append];rfl
theorem adS {i side:Int} {x y l:List aB} {k:Nat} {b:aB} (h:l[k]? =some b):(l.take (k+1)).flatMap (j0 i side x y)=(l.take k).flatMap (j0 i side x y)++j0 i side x y b:=by
 rw [kH h,List.flatMap_append];simp
theorem U2 {side:Int} {l:List aB} {k:Nat} {z b:aB} (hz:l[k]? =some z) (h:zE side l b=k+((l.drop k).takeWhile (fun a=>cT side a.ap b.ap)).length):
 (cT side z.ap b.ap=true→zE side l b=(k+1)+((l.drop (k+1)).takeWhile (fun a=>cT side a.ap b.ap)).length)∧(cT side z.ap b.ap=false→zE side l b=k):=by
 obtain⟨h1,h2⟩:=List.getElem?_eq_some_iff.1 hz;rw [h,List.drop_eq_getElem_cons h1,h2,List.takeWhile_cons];refine⟨fun hb=>?_,fun hb=>?_⟩
 ·rw [hb]
  simp only [if_true,List.length_cons];omega
 ·rw [hb];simp
theorem PB {w:World} {ops:Array Oper} {o:Oper} {a:Act} {K:Act→World→Prop} {Q:Exit→Act→World→Prop} {E:Prop} {f0 f1 f2:Int} (hgd:o.guard=none) (t:Nat)
 (ho:o.op= .buildSlice 100 1 #[(0,.tmp t)]) (hx:a.tmps[t]?.getD undef= .agg #[↑f0,↑f1,↑f2])
 (h:K (a.put o.dst (.slice ↑w.heap.size 1 1)) (w.alloc (.cells #[↑f0,↑f1,↑f2] 101))):
 if Region.wanted o (yielded ops a.tmps)=true then Oper.wp Tryz.prog o a w K Q else E:=by
 have hw:Region.wanted o (yielded ops a.tmps)=true:=by simp [Region.wanted,hgd]
 rw [if_pos hw];unfold Oper.wp execOp;simp only [ho];go_simp;exact h
structure x3 (w wr:World) (ga bE aL fc p4 p5 Gm:Nat) (a b:Option Addr) (c d n:Nat) (q:Int) (M:List aF) (v:Value) (D2 Gn:Array Value) (vx vy vl:Value) (Gp Gq Gr:List aB):Prop where
 d:w5 w wr ga bE a b c d n q M v
 cW:av wr aL 103 D2
 x2:av wr fc 103 Gn
 rx:bK.Row wr p4 vx Gp
 PD:bK.Row wr p5 vy Gq
 rl:bK.Row wr Gm vl Gr
theorem adT (i:Int) {x y:aX×aX} (hx:x.1.lv.length≤250∧x.2.lv.length≤250) (hy:y.1.lv.length≤250∧y.2.lv.length≤250) (j:Nat):(lC i x y j).length≤1002:=by
 have h1:=Mn i 1 x.1 y.1;have h2:=Mn i 2 x.2 y.2;unfold lC wZ;split
 ·simp
 ·split
  ·omega
  ·rw [List.length_append];omega
theorem U3 (i side:Int) (x y:List aB):∀K:List aB,(K.flatMap (j0 i side x y)).length≤K.length
 | []=>by simp
 |a::K=>by
  have:=U3 i side x y K;rw [List.flatMap_cons,List.length_append,List.length_cons];have h:(j0 i side x y a).length≤1:=by unfold j0;split<;>simp
  omega
theorem vL {P:Program} {ops:Array Oper} {Q:Exit→Act→World→Prop} {md:Region.Mode} {S:World→Prop} {f:Nat} {L L':Array Bool} {a:Act} {w:World} (H:iX P md ops Q S f L' a w) (h:L=L':=by kernel_rfl):iX P md ops Q S f L a w:=h▸H
theorem adU {G C:World→Nat→Nat→Prop} {p:Prop} (leaf:∀W a b,C W a b→G W a b) (main:(∀W a b,C W a b→G W a b)→p):p:=main leaf
theorem aor {G C:World→Nat→Prop} {p:Prop} (leaf:∀W a,C W a→G W a) (main:(∀W a,C W a→G W a)→p):p:=main leaf
theorem adV {G C:World→Nat→Nat→Nat→Nat→Prop} {p:Prop} (leaf:∀W a b c d,C W a b c d→G W a b c d) (main:(∀W a b c d,C W a b c d→G W a b c d)→p):p:=main leaf
theorem adW {P:Program} {ops:Array Oper} {Q:Exit→Act→World→Prop} {md:Region.Mode} {S:World→Prop} {i j k:Nat} {oi oj ok:Oper} {f:Nat} {L:Array Bool} {a:Act} {w:World} (x4:ops[i]? =some oi) (w6:ops[j]? =some oj) (hok:ops[k]? =some ok) (hr:Region.ready md ops L= [i,j,k])
 (h1:∀K':Act→World→Prop,Shut (∀a w,S w→(S w→iX P md ops Q S f (L.setIfInBounds i true) a w)→K' a w)→if Region.wanted oi (yielded ops a.tmps)=true then Oper.wp P oi a w K' Q else K' (a.put oi.dst undef) w)
 (h2:∀K':Act→World→Prop,Shut (∀a w,S w→(S w→iX P md ops Q S f (L.setIfInBounds j true) a w)→K' a w)→if Region.wanted oj (yielded ops a.tmps)=true then Oper.wp P oj a w K' Q else K' (a.put oj.dst undef) w)
 (h3:∀K':Act→World→Prop,Shut (∀a w,S w→(S w→iX P md ops Q S f (L.setIfInBounds k true) a w)→K' a w)→if Region.wanted ok (yielded ops a.tmps)=true then Oper.wp P ok a w K' Q else K' (a.put ok.dst undef) w):iX P md ops Q S (f+1) L a w:=by
 refine⟨fun h0=>(by rw [hr]at h0;cases h0),fun l hl=>?_⟩;rw [hr]at hl;have Cf:l=i∨l=j∨l=k:=by simpa using hl
 rcases Cf with rfl|rfl|rfl
 ·exact wpOp_step x4 fun K' hK=>h1 K' fun b u hS hW=>hK b u ⟨fun _=>hS,hW hS⟩
 ·exact wpOp_step w6 fun K' hK=>h2 K' fun b u hS hW=>hK b u ⟨fun _=>hS,hW hS⟩
 ·exact wpOp_step hok fun K' hK=>h3 K' fun b u hS hW=>hK b u ⟨fun _=>hS,hW hS⟩
theorem U4 {P:Program} {ops:Array Oper} {Q:Exit→Act→World→Prop} {md:Region.Mode} {S:World→Prop} (i j k:Nat) {oi oj ok:Oper} {f n:Nat} {L:Array Bool} {a:Act} {w:World} (h1:∀K':Act→World→Prop,Shut (∀a w,S w→(S w→iX P md ops Q S f (L.setIfInBounds i true) a w)→K' a w)→if Region.wanted oi (yielded ops a.tmps)=true then Oper.wp P oi a w K' Q else K' (a.put oi.dst undef) w) (h2:∀K':Act→World→Prop,Shut (∀a w,S w→(S w→iX P md ops Q S f (L.setIfInBounds j true) a w)→K' a w)→if Region.wanted oj (yielded ops a.tmps)=true then Oper.wp P oj a w K' Q else K' (a.put oj.dst undef) w) (h3:∀K':Act→World→Prop,Shut (∀a w,S w→(S w→iX P md ops Q S f (L.setIfInBounds k true) a w)→K' a w)→if Region.wanted ok (yielded ops a.tmps)=true then Oper.wp P ok a w K' Q else K' (a.put ok.dst undef) w) (hn:n=f+1:=by rfl) (x4:ops[i]? =some oi:=by simp only [List.getElem?_toArray];rfl) (w6:ops[j]? =some oj:=by simp only [List.getElem?_toArray];rfl) (hok:ops[k]? =some ok:=by simp only [List.getElem?_toArray];rfl) (hr:Region.ready md ops L= [i,j,k]:=by kernel_rfl):iX P md ops Q S n L a w:=by
 subst hn;exact adW x4 w6 hok hr h1 h2 h3
section
variable {w wr wr':World} {ga bE:Nat} {a b:Option Addr} {c d n:Nat} {q:Int} {M:List aF} {v v':Value}
theorem w5.below (h:w5 w wr ga bE a b c d n q M v) (hb:Below wr.heap.size wr wr'):w5 w wr' ga bE a b c d n q M v:=
 ⟨h.ba.below hb,h.bb.below hb,h.row.below hb,h.aJ.trans (hb.mono h.aJ.size)⟩
theorem w5.push {wb aA:World} {m:aF} (h:w5 w wr ga bE a b c d n q M v) (hb:Below wr.heap.size wr wb) (hr:hH.Row aA w.heap.size v' (kU q M++ [{m with seq:=q+M.length+1}])) (hg:wb.grownBy aA v.ownBlock):
 w5 w aA ga bE a b c d n q (M++ [m]) v'∧aK (fun g=>ck wr g hH.t) wr aA:=by
 have hk:=fK hg;have h1:=h.below hb;have bT:∀g,v.ownBlock=some g→ck wb g hH.t:=fun g hg=>eo h1.row g hg;refine⟨⟨h1.ba.keeps hk (fun e=>(bT _ e).ne h1.ba.aE (by decide) rfl),h1.bb.keeps hk (fun e=>(bT _ e).ne h1.bb.aE (by decide) rfl),by rw [adx];exact hr,h1.aJ.trans (hk.below (cS h1.row) h1.aJ.size)⟩,?_⟩;refine(Below.keeps hb).step hk fun g hg e=>eo h.row g e
section
variable {aL fc p4 p5 Gm:Nat} {D2 Gn:Array Value} {vx vy vl:Value} {Gp Gq Gr:List aB}
theorem x3.below (h:x3 w wr ga bE aL fc p4 p5 Gm a b c d n q M v D2 Gn vx vy vl Gp Gq Gr) (hb:Below wr.heap.size wr wr'):x3 w wr' ga bE aL fc p4 p5 Gm a b c d n q M v D2 Gn vx vy vl Gp Gq Gr:=
 ⟨h.d.below hb,h.cW.below hb,h.x2.below hb,h.rx.below hb,h.PD.below hb,h.rl.below hb⟩
theorem x3.push {wb aA:World} {m:aF} (h:x3 w wr ga bE aL fc p4 p5 Gm a b c d n q M v D2 Gn vx vy vl Gp Gq Gr) (hb:Below wr.heap.size wr wb) (hr:hH.Row aA w.heap.size v' (kU q M++ [{m with seq:=q+M.length+1}])) (hg:wb.grownBy aA v.ownBlock):
 x3 w aA ga bE aL fc p4 p5 Gm a b c d n q (M++ [m]) v' D2 Gn vx vy vl Gp Gq Gr:=by
 obtain⟨h1,hk⟩:=h.d.push hb hr hg;exact⟨h1,h.cW.keeps hk (fun e=>h.cW.aE.ne e (by decide) rfl),h.x2.keeps hk (fun e=>h.x2.aE.ne e (by decide) rfl),h.rx.keep hk (fun g hg e=>hg.ne e (by decide) rfl),h.PD.keep hk (fun g hg e=>hg.ne e (by decide) rfl),h.rl.keep hk (fun g hg e=>hg.ne e (by decide) rfl)⟩
end
theorem adX {p4 p5:Nat} {A V:bG} (ha:cg eJ bK w p4 (.slice a A.length c) A) (hb:cg eJ bK w p5 (.slice b V.length d) V) (hl:A.length=V.length) (hn:A.length≤40) (kA:fX A 250) (w7:fX V 250) (jW:0≤q) (hq1:q≤1000000000):
 Calls Tryz.prog 31 #[.agg #[.slice a A.length c],.agg #[.slice b V.length d],↑q] w fun e w'=>∃v,e= .returned v∧hH.Row w' w.heap.size v (qK A V q)∧Below w.heap.size w w':=by
 have hdf:qK A V q=kU q (gA A V A.length):=if_neg (by rw [hl];simp);have jf:Hid (∀k,k≤A.length→(gA A V k).length≤k*(4*250+2)):=af fun k hk=>PA kA w7 hl k hk;rw [hdf];obtain⟨n,jw⟩:=ai A.length;have s5:V.length=n:=by rw [←hl];exact jw
 have zF:=af jw;have dQ:=af s5;rw [jw]at ha hn⊢;rw [s5]at hb⊢;have hn2:=Gs w 54 54 #[.slice a n c] #[.slice b n d];have IZ:=af hn2.1;have dc:=af hn2.2.1;have aG:=af hn2.2.2;have cO:=af ha;have dD:=af hb;have adY:=af kA;have adZ:=af w7;have s1:=ak;have dW:=af s1;clear hn2 ha hb kA w7 s1 hl jw s5 hdf;go_enter Tryz.func31,Tryz.ntmps31
 go_upto_region 1 with(fail)
 obtain⟨bE,fT⟩:=ai (w.heap.size+1);rw [fT]at dc⊢;obtain⟨ga,zG⟩:=ai w.heap.size;have D3:Hid (av _ ga 54 #[.slice a n c]):=af (by have:=IZ.out;rwa [zG]at this);rw [show(Value.pointer ↑w.heap.size)= .pointer ↑ga by rw [zG]];clear zG fT IZ;generalize (w.alloc (.cells #[.slice a n c] 54)).alloc (.cells #[.slice b n d] 54)=w1 at*;have c0:w1.cell? ↑ga=some (.slice a n c):=D3.out.cell 0;have c1:w1.cell? ↑bE=some (.slice b n d):=dc.out.cell 0;have U5:Hid (w5 w w1 ga bE a b c d n q [] (.slice none 0 0)):=af ⟨D3.out,dc.out,bl.Row.nil _ _,aG.out⟩;clear D3 dc aG;go_wp2_with fail
 go_loopw [8,7,2] (fun i v iB w'=>∃(k:Nat) (z:Int) (va:Option Addr) (vn vc:Nat),i=↑k∧k≤n∧iB=↑z∧v= .slice va vn vc∧Hid (z=q+(gA A V k).length)∧w5 w w' ga bE a b c d n q (gA A V k) (.slice va vn vc)) (fun i _ _ _=>n-(RowKit.intOf i).toNat)
 case atStart=>exact⟨0,q,none,0,0,rfl,Nat.zero_le _,rfl,rfl,af (by simp [gA]),U5.out⟩
 case round=>
  clear c0 c1 U5;obtain⟨k,z,va,vn,vc,rfl,hk,rfl,rfl,hz,hD⟩:=hrel;obtain⟨ax,rfl⟩:=aj wr;have I0:=af hD;clear hD;have c0:ax.cell? ↑ga=some (.slice a n c):=I0.out.ba.cell 0;by_cases hlt:k<n
  ·have hlt':(k:Int)<(n:Int):=by omega
   obtain⟨lX,Mp⟩:∃x,A[k]? =some x:=⟨_,List.getElem?_eq_getElem (by rw [zF.out];exact hlt)⟩;obtain⟨lY,hyp⟩:∃x,V[k]? =some x:=⟨_,List.getElem?_eq_getElem (by rw [dQ.out];exact hlt)⟩;have ad0:=af Mp;have ad1:=af hyp;have U6:=af (adQ Mp hyp);have Cv:=af (adY.out _ (List.mem_of_getElem? Mp));have U7:=af (adZ.out _ (List.mem_of_getElem? hyp));have D4:=af (jf.out k (by rw [zF.out];exact hk));clear Mp hyp;go_wp2_with fail
   go_loopw [9,7,2] (fun i v iB w'=>∃(j:Nat) (s z:Int) (va:Option Addr) (vn vc:Nat),i=↑s∧s=(j:Int)+1∧j≤2∧iB=↑z∧v= .slice va vn vc∧Hid (z=q+(gA A V k++lC (k:Int) lX lY j).length)∧w5 w w' ga bE a b c d n q (gA A V k++lC (k:Int) lX lY j) (.slice va vn vc)) (fun i _ _ _=>4-(RowKit.intOf i).toNat)
   case atStart=>exact⟨0,1,z,va,vn,vc,rfl,rfl,Nat.zero_le _,rfl,rfl,af (by rw [hz.out];simp [lC]),by rw [show lC (k:Int) lX lY 0= []from rfl,List.append_nil];exact I0.out⟩
   case round=>
    clear c0 I0 hz;obtain⟨j,s,z2,va,vn,vc,rfl,hs,hj,rfl,rfl,eg,hD⟩:=hrel;obtain⟨wy,rfl⟩:=aj wr;have D5:=af hD;have I1:=af hs;have hs1:1≤s∧s≤3:=by omega
    by_cases hj2:j<2
    ·have alW:s≤2:=by omega
     clear hD hs;have PE:=Cv.out;have PF:=U7.out;obtain⟨g1,m6,D6,he,eZ,cD,hq1,hq2⟩:=(cO.out.below D5.out.aJ).get ad0.out;injection he with eb iU eS;clear iU;subst eb;subst eS;obtain⟨g2,oD,PG,he,fY,ng,Cw,w8⟩:=(dD.out.below D5.out.aJ).get ad1.out;injection he with eb iU eS;clear iU;subst eb;subst eS;obtain⟨⟨a1,n1,e1,⟨p1,q1,r1⟩,f1⟩,⟨b1,m1,h1,⟨t1,u1,v1⟩,x1⟩⟩:=D6;obtain⟨⟨a2,n2,e2,⟨p2,ic,r2⟩,f2⟩,⟨b2,m2,h2,⟨t2,u2,v2⟩,aZ⟩⟩:=PG
     obtain⟨X,Y,x5,x6,U8,Ce,zH,I2,U9,hcs⟩:∃(X Y:aX) (x5 x6:eO),lC (k:Int) lX lY (j+1)=lC (k:Int) lX lY j++wY (k:Int) s X Y∧bV bK wy p4 x5 X∧bV bK wy p5 x6 Y∧X.lv.length≤250∧Y.lv.length≤250∧
      ((j=0∧x5=⟨a1,n1,e1,⟨p1,q1,r1⟩,f1⟩∧x6=⟨a2,n2,e2,⟨p2,ic,r2⟩,f2⟩)∨(j=1∧x5=⟨b1,m1,h1,⟨t1,u1,v1⟩,x1⟩∧x6=⟨b2,m2,h2,⟨t2,u2,v2⟩,aZ⟩)):=by
      have PI:j=0∨j=1:=by omega
      rcases PI with h0|h0
      ·exact⟨lX.1,lY.1,_,_,by rw [I1.out,h0];rfl,hq1,Cw,PE.1,PF.1,.inl ⟨h0,rfl,rfl⟩⟩
      ·exact⟨lX.2,lY.2,_,_,by rw [I1.out,h0];rfl,hq2,w8,PE.2,PF.2,.inr ⟨h0,rfl,rfl⟩⟩
     obtain⟨j3,xn,xc,⟨qL,p6,xr⟩,kJ⟩:=x5;obtain⟨gB,yn,fH,⟨gP,gQ,yr⟩,jK⟩:=x6;have PJ:=af U8;have Va:=af Ce;have sq:=af zH;clear PE PF hq1 hq2 Cw w8 U8 Ce zH;go_upto_region 10 with(fail)
     go_cut [10,11] (fun u7 u8 wx=>∃aL fc,u7= .pointer (some ⟨aL,0,none⟩)∧u8= .pointer (some ⟨fc,0,none⟩)∧av wx aL 103 #[.slice j3 xn xc,↑qL,↑p6,↑xr,↑kJ]∧av wx fc 103 #[.slice gB yn fH,↑gP,↑gQ,↑yr,↑jK]∧Below wy.heap.size wy wx)
     case first=>
      have I3:wy.cell? ⟨g1,k*10+j*5,none⟩=some (.slice j3 xn xc)∧wy.cell? ⟨g1,k*10+j*5+1,none⟩=some ↑qL∧wy.cell? ⟨g1,k*10+j*5+2,none⟩=some ↑p6∧wy.cell? ⟨g1,k*10+j*5+3,none⟩=some ↑xr∧wy.cell? ⟨g1,k*10+j*5+4,none⟩=some ↑kJ:=by
       rcases hcs with⟨rfl,h,_⟩|⟨rfl,h,_⟩
       ·injection h with i1 i2 i3 i4 i5
        injection i4 with i6 i7 i8;subst i1;subst i2;subst i3;subst i5;subst i6;subst i7;subst i8;exact⟨cD 0 _ rfl,cD 1 _ rfl,cD 2 _ rfl,cD 3 _ rfl,cD 4 _ rfl⟩
       ·injection h with i1 i2 i3 i4 i5
        injection i4 with i6 i7 i8;subst i1;subst i2;subst i3;subst i5;subst i6;subst i7;subst i8;exact⟨cD 5 _ rfl,cD 6 _ rfl,cD 7 _ rfl,cD 8 _ rfl,cD 9 _ rfl⟩
      have I4:wy.cell? ⟨g2,k*10+j*5,none⟩=some (.slice gB yn fH)∧wy.cell? ⟨g2,k*10+j*5+1,none⟩=some ↑gP∧wy.cell? ⟨g2,k*10+j*5+2,none⟩=some ↑gQ∧wy.cell? ⟨g2,k*10+j*5+3,none⟩=some ↑yr∧wy.cell? ⟨g2,k*10+j*5+4,none⟩=some ↑jK:=by
       rcases hcs with⟨rfl,_,h⟩|⟨rfl,_,h⟩
       ·injection h with i1 i2 i3 i4 i5
        injection i4 with i6 i7 i8;subst i1;subst i2;subst i3;subst i5;subst i6;subst i7;subst i8;exact⟨ng 0 _ rfl,ng 1 _ rfl,ng 2 _ rfl,ng 3 _ rfl,ng 4 _ rfl⟩
       ·injection h with i1 i2 i3 i4 i5
        injection i4 with i6 i7 i8;subst i1;subst i2;subst i3;subst i5;subst i6;subst i7;subst i8;exact⟨ng 5 _ rfl,ng 6 _ rfl,ng 7 _ rfl,ng 8 _ rfl,ng 9 _ rfl⟩
      clear hcs cD ng;have y1:IntKind.i64.wrap (s-1)=(j:Int):=by rw [show s-1=(j:Int)by have:=I1.out;omega];exact IntWalk.i64_in _ (by omega)
      have alX:(j:Int)<2:=by omega
      have aD:Hid (∀wx,Below wy.heap.size wy wx→(fun w'=>w'.cell? ↑ga=some (.slice ↑g1 n c)∧w'.cell? ↑bE=some (.slice ↑g2 n d)∧w'.cell? ⟨g1,k*10+j*5,none⟩=some (.slice j3 xn xc)∧w'.cell? ⟨g1,k*10+j*5+1,none⟩=some ↑qL∧w'.cell? ⟨g1,k*10+j*5+2,none⟩=some ↑p6∧w'.cell? ⟨g1,k*10+j*5+3,none⟩=some ↑xr∧w'.cell? ⟨g1,k*10+j*5+4,none⟩=some ↑kJ∧w'.cell? ⟨g2,k*10+j*5,none⟩=some (.slice gB yn fH)∧w'.cell? ⟨g2,k*10+j*5+1,none⟩=some ↑gP∧w'.cell? ⟨g2,k*10+j*5+2,none⟩=some ↑gQ∧w'.cell? ⟨g2,k*10+j*5+3,none⟩=some ↑yr∧w'.cell? ⟨g2,k*10+j*5+4,none⟩=some ↑jK) wx):=af fun wx hb=>by
       have e:∀(g o:Nat),g<wy.heap.size→wx.cell? ⟨g,o,none⟩=wy.cell? ⟨g,o,none⟩:=fun g o hg=>hb.cell (p:=⟨g,o,none⟩) hg;obtain⟨c0,c1,c2,c3,dH⟩:=I3;obtain⟨b8,fJ,gL,iC,kp⟩:=I4;exact⟨(D5.out.ba.below hb).cell 0,(D5.out.bb.below hb).cell 0,(e g1 _ eZ).trans c0,(e g1 _ eZ).trans c1,(e g1 _ eZ).trans c2,(e g1 _ eZ).trans c3,(e g1 _ eZ).trans dH,(e g2 _ fY).trans b8,(e g2 _ fY).trans fJ,(e g2 _ fY).trans gL,(e g2 _ fY).trans iC,(e g2 _ fY).trans kp⟩
      clear I3 I4;refine cP (S:=fun w'=>w'.cell? ↑ga=some (.slice ↑g1 n c)∧w'.cell? ↑bE=some (.slice ↑g2 n d)∧w'.cell? ⟨g1,k*10+j*5,none⟩=some (.slice j3 xn xc)∧w'.cell? ⟨g1,k*10+j*5+1,none⟩=some ↑qL∧w'.cell? ⟨g1,k*10+j*5+2,none⟩=some ↑p6∧w'.cell? ⟨g1,k*10+j*5+3,none⟩=some ↑xr∧w'.cell? ⟨g1,k*10+j*5+4,none⟩=some ↑kJ∧w'.cell? ⟨g2,k*10+j*5,none⟩=some (.slice gB yn fH)∧w'.cell? ⟨g2,k*10+j*5+1,none⟩=some ↑gP∧w'.cell? ⟨g2,k*10+j*5+2,none⟩=some ↑gQ∧w'.cell? ⟨g2,k*10+j*5+3,none⟩=some ↑yr∧w'.cell? ⟨g2,k*10+j*5+4,none⟩=some ↑jK) (aD.out _ (Below.refl _ _).drew) fun hHeld=>?_;refine au 0 ?_;refine au 1 ?_;refine au 2 ?_;refine au 3 ?_;refine au 4 ?_;refine au 5 ?_;refine au 6 ?_;refine au 7 ?_;refine au 8 ?_;refine au 9 ?_;refine au 10 ?_;refine au 11 ?_;refine au 12 ?_;refine au 13 ?_;refine au 14 ?_;refine au 15 ?_;refine lZ 16 17 (fun K hK=>?_) fun K hK=>?_
      ·go_simp
       refine hK.out _ _ (by first|exact aD.out _ (Below.aI wy _).drew|exact aD.out _ ((Below.aI wy _).alloc (by rw [dW.out];omega) _).drew) (fun hHeld=>?_);clear hK K;refine aU 17 fun K hK=>?_;go_simp;refine hK.out _ _ (by first|exact aD.out _ (Below.aI wy _).drew|exact aD.out _ ((Below.aI wy _).alloc (by rw [dW.out];omega) _).drew) (fun hHeld=>?_);clear hK K;refine aU 18 fun K hK=>?_;go_simp;refine hK.out _ _ (by first|exact aD.out _ (Below.aI wy _).drew|exact aD.out _ ((Below.aI wy _).alloc (by rw [dW.out];omega) _).drew) (fun hHeld=>?_);clear hK K;refine dY 19 fun K hK=>?_;go_simp;refine hK.out _ _ ?_;clear hK K hHeld;go_wp2_with fail
       go_meet;have h2:=Gs wy 103 103 #[.slice j3 xn xc,↑qL,↑p6,↑xr,↑kJ] #[.slice gB yn fH,↑gP,↑gQ,↑yr,↑jK];exact⟨wy.heap.size,wy.heap.size+1,rfl,rfl,h2.1,h2.2.1,h2.2.2.drew⟩
      ·go_simp
       refine hK.out _ _ (by first|exact aD.out _ (Below.aI wy _).drew|exact aD.out _ ((Below.aI wy _).alloc (by rw [dW.out];omega) _).drew) (fun hHeld=>?_);clear hK K;refine aU 16 fun K hK=>?_;go_simp;refine hK.out _ _ (by first|exact aD.out _ (Below.aI wy _).drew|exact aD.out _ ((Below.aI wy _).alloc (by rw [dW.out];omega) _).drew) (fun hHeld=>?_);clear hK K;refine aU 18 fun K hK=>?_;go_simp;refine hK.out _ _ (by first|exact aD.out _ (Below.aI wy _).drew|exact aD.out _ ((Below.aI wy _).alloc (by rw [dW.out];omega) _).drew) (fun hHeld=>?_);clear hK K;refine dY 19 fun K hK=>?_;go_simp;refine hK.out _ _ ?_;clear hK K hHeld;go_wp2_with fail
       go_meet;have h2:=Gs wy 103 103 #[.slice gB yn fH,↑gP,↑gQ,↑yr,↑jK] #[.slice j3 xn xc,↑qL,↑p6,↑xr,↑kJ];exact⟨wy.heap.size+1,wy.heap.size,rfl,rfl,h2.2.1,h2.1,h2.2.2.drew⟩
     case rest=>
     obtain⟨aL,fc,rfl,rfl,fO,x7,hbc⟩:=hcut;obtain⟨aA,rfl⟩:=aj wc;have Vb:=af (D5.out.below hbc);have fy:=af fO;have p7:=af x7;have Gt:=Va.out.below hbc;have I5:=af (sq.out.below hbc);have ad2:xn=X.lv.length:=Gt.n;subst ad2;obtain⟨alY,alZ,he,w9,hrd⟩:=Gt.row.sl;dsimp only at he w9 hrd;injection he with eb iU eS;clear iU;subst eb;subst eS;have x0:aA.cell? ↑aL=some (.slice j3 X.lv.length xc):=fy.out.cell 0;have H0:=af (bl.Row.empty (Y:=bK) aA);have hba:=Below.aI aA (.cells #[] 101);have cK:=af hba;have om:=af (hrd.below hba);have uv:=af w9;have ad3:(aA.alloc (.cells #[] 101)).cell? ↑aL=some (.slice j3 X.lv.length xc):=(fy.out.below hba).cell 0;have x8:yn=Y.lv.length:=I5.out.n;have Vc:Hid ((⟨qL,p6,xr⟩:aB)=X.im∧kJ=X.has):=af ⟨Gt.im,Gt.has⟩;have Vd:Hid ((⟨gP,gQ,yr⟩:aB)=Y.im∧jK=Y.has):=af ⟨I5.out.im,I5.out.has⟩;have Ve:=af Gt.row;have Cx:=af I2;have Vf:=af U9;have I6:=af x8;clear hcs cD ng eZ fY fO x7 hbc Gt w9 hrd hba D5 x8 I2 U9 Va sq
     go_wp2_with (first
      |(at_builtin;go_loud (refine bK.wV rfl (.tmp 52) (.tmp 54) rfl aA.heap.size (.slice (some ⟨aA.heap.size,0,none⟩) 0 0) [] rfl H0.out j3 xc X.lv (by first|rfl|(simp;done)|(simp;rfl)) (fun h=>(uv.out.1 h).2) om.out uv.out.2.1 (by have:=Cx.out;rw [List.length_nil];omega) cK.out.size ?_)))
     intro v6 aN bX cQ eG;try rw [List.nil_append]at bX
     have bI:=iJ cQ cK.out (cS H0.out)
     obtain⟨aH,mc,_,Gu,_⟩:=bX.Gv (by
      rcases eG with h|h
      ·rw [h];intro e;cases e
      ·rw [h];intro e;cases e)
     subst Gu;have cL:=af bX;have Vg:=af (Vb.out.below bI);have AU:=af (fy.out.below bI);have D7:=af (p7.out.below bI);have PK:=af (I5.out.below bI);have Vh:=af (Ve.out.below bI);have ad4:Hid (aA.heap.size≤aN.heap.size):=af bI.size;clear bX cQ eG bI x0 ad3 H0 cK om uv Vb fy p7 I5 Ve;have ad5:yn≤250:=by rw [I6.out];exact Vf.out
     go_wp2_with fail
     go_loopw [13,12] (fun i l w'=>∃(t aH mc ml:Nat) (e4:List aB),i=↑t∧t≤yn∧l= .slice ↑aH ml mc∧ml≤250+t∧Hid (e4.length=ml)∧Hid (e4=sk s X.lv (Y.lv.take t))∧bK.Row w' aA.heap.size (.slice ↑aH ml mc) e4∧Below aN.heap.size aN w') (fun i _ _=>yn-(RowKit.intOf i).toNat)
     case atStart=>exact⟨0,aH,mc,X.lv.length,X.lv,rfl,Nat.zero_le _,rfl,by have:=Cx.out;omega,af rfl,af rfl,cL.out,Below.refl _ _⟩
     case round=>
      clear cL;obtain⟨t,aH,mc,ml,e4,rfl,ht,rfl,hml,uw,hme,hrl,ep⟩:=hrel;obtain⟨fU,rfl⟩:=aj wr;have nJ:=af hrl;have dO:=af ep;have y0:fU.cell? ↑fc=some (.slice gB yn fH):=(D7.out.below ep).cell 0;clear hrl ep;by_cases bT:t<yn
      ·as_aux_lemma=>
       have al0:(t:Int)<(yn:Int):=by omega
       obtain⟨b,hb⟩:∃b,Y.lv[t]? =some b:=⟨_,List.getElem?_eq_getElem (by rw [←I6.out];exact bT)⟩;have Mq:=af (adR (side:=s) (x:=X.lv) hb);obtain⟨p8,al1,Vi,PL,Mr⟩:=(PK.out.below dO.out).row.at_ t b hb;dsimp only at Vi;injection Vi with hy1 x9 ad6;subst hy1;subst ad6;clear x9;obtain⟨ek,j4,br⟩:=b
       have kK:Hid (∀wx,Below fU.heap.size fU wx→wx.cell? ↑fc=some (.slice ↑p8 yn fH)∧wx.cell? ⟨p8,t*3,none⟩=some ↑ek∧wx.cell? ⟨p8,t*3+1,none⟩=some ↑j4∧wx.cell? ⟨p8,t*3+2,none⟩=some ↑br):=af fun wx aT=>
        ⟨((D7.out.below dO.out).below aT).cell 0,(aT.cell (p:=⟨p8,t*3,none⟩) PL).trans (Mr 0 _ rfl),(aT.cell (p:=⟨p8,t*3+1,none⟩) PL).trans (Mr 1 _ rfl),(aT.cell (p:=⟨p8,t*3+2,none⟩) PL).trans (Mr 2 _ rfl)⟩
       have Vj:Hid (∀wx (kk:Nat) (z:aB),Below fU.heap.size fU wx→e4[kk]? =some z→wx.cell? ⟨aH,kk*3,none⟩=some (.int .i64 z.ap)):=af fun wx kk z aT hz=>by
        obtain⟨g,cap,he,_,hc⟩:=(nJ.out.below aT).at_ kk z hz;injection he with eb iU eS;injection eb with eb;injection eb with eb;subst eb;exact hc 0 _ rfl
       clear Mr hb;go_wp2_with fail
       go_loopw [14] (fun i w'=>∃kk:Nat,i=↑kk∧kk≤ml∧Hid (zE s e4 ⟨ek,j4,br⟩=kk+((e4.drop kk).takeWhile (fun a=>cT s a.ap ek)).length)∧Below fU.heap.size fU w') (fun i _=>ml-(RowKit.intOf i).toNat)
       case atStart=>exact⟨0,rfl,Nat.zero_le _,af (by rw [List.drop_zero,Nat.zero_add];rfl),Below.refl _ _⟩
       case round=>
        clear y0;obtain⟨kk,rfl,hkk,hma,AV⟩:=hrel;obtain⟨wv,rfl⟩:=aj wr;have Gw:=af AV;obtain⟨y0,b0,b1,b2⟩:=kK.out wv AV;clear AV;obtain⟨tb,htb⟩:=ai ((decide (kk<ml)&&cT s (e4.getD kk jD).ap ek):Bool);have oI:=af htb;clear htb;go_upto_region 16 with(fail)
        go_cut [81] (fun u wx=>u=↑tb∧Below wv.heap.size wv wx)
        case first=>
         by_cases eR:kk<ml
         ·have ya:(kk:Int)<(ml:Int):=by omega
          have hd:decide ((kk:Int)<(ml:Int))=true:=decide_eq_true ya;obtain⟨z,hz⟩:∃z,e4[kk]? =some z:=⟨_,List.getElem?_eq_getElem (by rw [uw.out];exact eR)⟩;have mL:=af (Gw.out.trans ((Below.refl wv.heap.size wv).drew.mono Gw.out.size));have z0:=Vj.out wv.drew kk z mL.out hz;have hc:=kK.out wv.drew mL.out;have nc:Hid (cT s z.ap ek=tb):=af (by rw [←oI.out,decide_eq_true eR,List.getD_eq_getElem?_getD,hz];simp);obtain⟨zp,ad7,zr⟩:=z;dsimp only at z0 nc;have nK:=af fun w=>Gx s zp ek w;rw [nc.out]at nK;clear hz y0 b0 b1 b2;refine cP (S:=fun w'=>w'.cell? ⟨aH,kk*3,none⟩=some ↑zp∧w'.cell? ↑fc=some (.slice ↑p8 yn fH)∧w'.cell? ⟨p8,t*3,none⟩=some ↑ek) ⟨z0,hc.1,hc.2.1⟩ fun hHeld=>?_;refine au 0 ?_;refine au 1 ?_;refine au 2 ?_;refine au 3 ?_;refine au 4 ?_;refine au 5 ?_;refine au 6 ?_;refine au 7 ?_;refine au 8 ?_;refine au 9 ?_;refine au 10 ?_;refine au 11 ?_;refine au 12 ?_;refine au 13 ?_;refine au 14 ?_;refine au 15 ?_;refine au 16 ?_;refine aU 17 fun K hK=>?_;go_simp;go_at_call 72
          refine(nK.out _).mono ?_;rintro e bW ⟨rfl,rfl⟩;refine hK.out _ _ ⟨z0,hc.1,hc.2.1⟩ (fun hHeld=>?_);clear hK K z0 hc;refine gu _ _ _ _ ?_;refine ej 18 ?_;refine gw ?_;clear hHeld;go_wp2_with fail
          go_meet;exact⟨rfl,(Below.refl wv.heap.size wv).drew⟩
         ·have ya:¬(kk:Int)<(ml:Int):=by omega
          have hd:decide ((kk:Int)<(ml:Int))=false:=decide_eq_false ya;have nc:Hid (tb=false):=af (by rw [←oI.out,decide_eq_false eR];rfl);clear y0 b0 b1 b2;refine cP (S:=fun _=>True) trivial fun hHeld=>?_;refine au 0 ?_;refine au 1 ?_;refine au 2 ?_;refine au 3 ?_;refine au 4 ?_;refine c7 5 ?_;refine c7 6 ?_;refine c7 7 ?_;refine c7 8 ?_;refine c7 9 ?_;refine c7 10 ?_;refine c7 11 ?_;refine c7 12 ?_;refine c7 13 ?_;refine c7 14 ?_;refine c7 15 ?_;refine c7 16 ?_;refine c7 17 ?_;refine gu _ _ _ _ ?_;refine ej 18 ?_;refine gw ?_;clear hHeld;go_wp2_with fail
          go_meet;exact⟨by rw [nc.out],(Below.refl wv.heap.size wv).drew⟩
        case rest=>
        obtain⟨rfl,aT⟩:=hcut;have jX:=ag Gw aT;clear aT y0 b0 b1 b2;generalize wc=wx at*;cases tb with
        |true=>
         have eR:kk<ml:=by
          have:=oI.out;simp only [Bool.and_eq_true,decide_eq_true_eq]at this;exact this.1
         have s3:Hid (zE s e4 ⟨ek,j4,br⟩=kk+1+((e4.drop (kk+1)).takeWhile (fun a=>cT s a.ap ek)).length):=af (by
          have hz:e4[kk]? =some (e4[kk]'(by rw [uw.out];exact eR)):=List.getElem?_eq_getElem _;have h1:=oI.out;rw [List.getD_eq_getElem?_getD,hz]at h1;simp only [Bool.and_eq_true]at h1;exact(U2 hz hma.out).1 h1.2)
         go_wp2_with fail
         go_roundw
         case rel=>exact⟨kk+1,by go_num,by omega,s3,jX.out⟩
         case measure=>simp [RowKit.intOf];omega
        |false=>
         have s3:Hid (zE s e4 ⟨ek,j4,br⟩=kk):=af (by
          by_cases eR:kk<ml
          ·have hz:e4[kk]? =some (e4[kk]'(by rw [uw.out];exact eR)):=List.getElem?_eq_getElem _
           have h1:=oI.out;rw [List.getD_eq_getElem?_getD,hz,decide_eq_true eR,Bool.true_and]at h1;exact(U2 hz hma.out).2 h1
          ·have hkm:kk=e4.length:=by have:=uw.out;omega
           have:=hma.out;rw [hkm,List.drop_length]at this;rw [this,hkm];rfl)
         obtain⟨hh,Vk⟩:=ai ((!DZ e4 kk ⟨ek,j4,br⟩):Bool);have Gy:=af Vk;clear Vk oI;obtain⟨y0,b0,b1,b2⟩:=kK.out wx jX.out;go_upto_region 18 with(fail)
         go_cut [101] (fun u wy=>u=↑hh∧Below wx.heap.size wx wy)
         case first=>
          by_cases eR:kk<ml
          ·have hd:((kk:Int)==(ml:Int))=false:=by rw [beq_eq_false_iff_ne];omega
           have D8:¬(kk:Int)=(ml:Int):=by omega
           have ya:(kk:Int)<(ml:Int):=by omega
           obtain⟨z,hz⟩:∃z,e4[kk]? =some z:=⟨_,List.getElem?_eq_getElem (by rw [uw.out];exact eR)⟩;have mL:=af (jX.out.trans ((Below.refl wx.heap.size wx).drew.mono jX.out.size));have z0:=Vj.out wx.drew kk z mL.out hz;have hc:=kK.out wx.drew mL.out;have Ms:Hid ((z.ap !=ek)=hh):=af (by rw [←Gy.out];unfold DZ;rw [hz];rfl);obtain⟨zp,ad7,zr⟩:=z;dsimp only at z0 Ms;clear hz y0 b0 b1 b2;refine cP (S:=fun w'=>w'.cell? ⟨aH,kk*3,none⟩=some ↑zp∧w'.cell? ↑fc=some (.slice ↑p8 yn fH)∧w'.cell? ⟨p8,t*3,none⟩=some ↑ek) ⟨z0,hc.1,hc.2.1⟩ fun hHeld=>?_;refine au 0 ?_;refine au 1 ?_;refine au 2 ?_;refine au 3 ?_;refine au 4 ?_;refine au 5 ?_;refine au 6 ?_;refine au 7 ?_;refine au 8 ?_;refine au 9 ?_;refine au 10 ?_;refine au 11 ?_;refine au 12 ?_;refine au 13 ?_;refine au 14 ?_;refine au 15 ?_;refine au 16 ?_;refine gu _ _ _ _ ?_;refine ej 17 ?_;refine gw ?_;clear hHeld;go_wp2_with fail
           go_meet;exact⟨by rw [Ms.out],(Below.refl wx.heap.size wx).drew⟩
          ·have hkm:kk=ml:=by omega
           have hd:((kk:Int)==(ml:Int))=true:=by rw [beq_iff_eq];omega
           have Ms:Hid (hh=true):=af (by rw [←Gy.out];unfold DZ;rw [List.getElem?_eq_none (by rw [uw.out];omega)];rfl);clear hkm y0 b0 b1 b2;refine cP (S:=fun _=>True) trivial fun hHeld=>?_;refine au 0 ?_;refine au 1 ?_;refine au 2 ?_;refine au 3 ?_;refine au 4 ?_;refine c7 5 ?_;refine c7 6 ?_;refine c7 7 ?_;refine c7 8 ?_;refine c7 9 ?_;refine c7 10 ?_;refine c7 11 ?_;refine c7 12 ?_;refine c7 13 ?_;refine c7 14 ?_;refine c7 15 ?_;refine c7 16 ?_;refine gu _ _ _ _ ?_;refine ej 17 ?_;refine gw ?_;clear hHeld;go_wp2_with fail
           go_meet;exact⟨by rw [Ms.out],(Below.refl wx.heap.size wx).drew⟩
         case rest=>
         obtain⟨rfl,Vl⟩:=hcut;have AW:=ag jX Vl;clear Vl y0 b0 b1 b2;generalize wc=p9 at*;have xV:=af (nJ.out.below AW.out);cases hh with
         |false=>
          have I7:Hid (e4=sk s X.lv (Y.lv.take (t+1))):=af (by
           have h1:DZ e4 kk ⟨ek,j4,br⟩=true:=by have:=Gy.out;simpa using this
           rw [Mq.out,←hme.out];unfold sj;rw [s3.out,if_pos h1])
          have aQ:=ah dO AW;go_wp2_with fail
          go_roundw
          case rel=>exact⟨t+1,aH,mc,ml,e4,by go_num,bT,rfl,by omega,uw,I7,xV.out,aQ.out⟩
          case measure=>simp [RowKit.intOf];omega
         |true=>
          have I7:Hid (e4.take kk++ [⟨ek,j4,br⟩]++e4.drop kk=sk s X.lv (Y.lv.take (t+1))):=af (by
           have h1:¬DZ e4 kk ⟨ek,j4,br⟩=true:=by have:=Gy.out;simpa using this
           rw [Mq.out,←hme.out];unfold sj;rw [s3.out,if_neg h1])
          have AX:Hid ((e4.take kk++ [(⟨ek,j4,br⟩:aB)]++e4.drop kk).length=ml+1):=af (by simp only [List.length_append,List.length_take,List.length_drop,uw.out,List.length_cons,List.length_nil];omega);have ad8:Hid (aA.heap.size≤p9.heap.size):=af (Nat.le_trans ad4.out (Nat.le_trans dO.out.size AW.out.size));go_upto_region 19 with(fail)
          have xa:ml≤mc:=by
           rcases xV.out.2 with⟨hv,_⟩|⟨cI,AY,Mt,hv,_,_,hh,_⟩
           ·injection hv with hv;cases hv
           ·injection hv with _ _ hv;rw [hv];have:=uw.out;omega
          have hkc:kk≤mc:=by omega
          have hkn:(kk:Int)≤(ml:Int):=by omega
          have iQ:(0:Int)≤(kk:Int):=by omega
          obtain⟨off2,hoff⟩:=aj (if mc=kk then 0 else kk*3)
          have Vm:(if mc=kk then(some ⟨aH,0,none⟩:Option Addr)else some ⟨aH,kk*3,none⟩)=some ⟨aH,off2,none⟩:=by
           rw [hoff];split<;>rfl
          have Cy:=af hoff;clear hoff
          have PN:Hid (∀w',Below p9.drew.heap.size p9.drew w'→w'.cell? ↑fc=some (.slice ↑p8 yn fH)∧w'.cell? ⟨p8,t*3,none⟩=some ↑ek∧w'.cell? ⟨p8,t*3+1,none⟩=some ↑j4∧w'.cell? ⟨p8,t*3+2,none⟩=some ↑br):=af fun w' hb=>
           kK.out w' ((AW.out.trans ((Below.bO p9 1).mono AW.out.size)).trans (hb.mono (AW.out.trans ((Below.bO p9 1).mono AW.out.size)).size))
          refine cP (S:=fun w'=>w'.cell? ↑fc=some (.slice ↑p8 yn fH)∧w'.cell? ⟨p8,t*3,none⟩=some ↑ek∧w'.cell? ⟨p8,t*3+1,none⟩=some ↑j4∧w'.cell? ⟨p8,t*3+2,none⟩=some ↑br) (PN.out _ (Below.refl _ _)) fun hHeld=>?_;have gZ:Hid (bK.Row p9.drew aA.heap.size (.slice ↑aH ml mc) e4):=af (xV.out.below (Below.bO p9 1));have b6:Hid (Below p9.heap.size p9 p9.drew):=af (Below.bO p9 1);have c4:=PN;clear PN;generalize p9.drew=wd at*;have dN:Hid ((e4.take kk).length=kk):=af (by rw [List.length_take,uw.out];omega);have Gz:Hid ((e4.take kk++ [(⟨ek,j4,br⟩:aB)]).length=kk+1):=af (by rw [List.length_append,dN.out];rfl);have xb:Hid ((e4.drop kk).length=ml-kk):=af (by rw [List.length_drop,uw.out])
          have D9:Hid (∀w1,Below wd.heap.size wd w1→bK.fR w1 (some ⟨aH,off2,none⟩) (e4.drop kk)):=af (by
           intro w1 PO;rw [Cy.out];by_cases hcap:mc=kk
           ·rw [if_pos hcap]
            have h0:e4.drop kk= []:=List.eq_nil_of_length_eq_zero (by rw [xb.out];omega);rw [h0];exact bl.fR.nil
           ·rw [if_neg hcap]
            intro j e hj;rw [List.getElem?_drop]at hj;obtain⟨b,off,h1,h2,h3⟩:=(gZ.out.rd_some.below PO) (kk+j) e hj;injection h1 with h1;injection h1 with h1 h4;subst h1 h4;refine⟨aH,kk*3,rfl,h2,?_⟩;rw [show kk*3+j*bK.m=0+(kk+j)*bK.m by rw [Nat.add_mul,Nat.zero_add];rfl];exact h3)
          have oJ:Hid (Below wd.heap.size wd wd):=af (Below.refl _ _);refine au 1 ?_;refine au 2 ?_;refine au 3 ?_;refine au 5 ?_;refine au 6 ?_;refine au 7 ?_;refine au 8 ?_;refine au 9 ?_;refine au 12 ?_;refine au 13 ?_;refine au 14 ?_;apply adV (C:=fun W AZ gn A0 _=>Hid (Below wd.heap.size wd W)∧Hid (bK.Row W wd.heap.size (.slice (some ⟨AZ,0,none⟩) kk A0) (e4.take kk))∧Hid (av W gn 101 #[↑ek,↑j4,↑br]))
          case main=>
           intro sr;refine lZ 0 10 (fun K hK=>?_) fun K hK=>?_
           ·go_simp
            have hba:=Below.aI wd (.cells #[] 101);have aP:=oJ.out.trans (hba.mono oJ.out.size);refine hK.out _ _ (c4.out _ aP) (fun hHeld=>?_);clear hK K;have pp:bK.Row (wd.alloc (.cells #[] 101)) wd.heap.size (.slice ↑wd.heap.size 0 0) []:=bl.Row.empty wd;have dm:(wd.alloc (.cells #[] 101)).heap.size=wd.heap.size+1:=by simp
            obtain⟨ge,hge⟩:=ai wd.heap.size;have bL:Hid (wd.heap.size=ge):=af hge;rw [hge]at pp dm⊢;clear hge;generalize wd.alloc (.cells #[] 101)=fV at*;have bR:=af (pp.base (show wd.heap.size≤ge by have h1:=bL.out;have h2:=oJ.out.size;omega));have qa:=af aP;have I8:=af dm;clear hba aP pp dm;refine lZ 4 10 (fun K hK=>?_) fun K hK=>?_
            ·refine bK.s9 (by rfl) (.tmp 102) (.tmp 105) (by rfl) wd.heap.size ge 0 0 kk [] rfl (by rfl) bR.out aH 0 mc (e4.take kk) dN.out (by rfl) ((gZ.out.rd_some.below qa.out).take kk) kk (by omega) (by omega) qa.out.size ?_
             intro AZ A0 wf fk nL rF;try rw [List.nil_append]at fk
             have jL:=iJ nL qa.out (cS bR.out);have b5:=af fk;have td:=af jL;have yb:=af (fK nL);refine hK.out _ _ (c4.out _ jL) (fun hHeld=>?_);clear hK K fk jL nL rF;try simp only [Act.put,QJ,QK,QL]
             refine aU 10 fun K hK=>?_;refine PB (by rfl) 111 (by rfl) (by rfl) ?_;have hba:=Below.aI wf (.cells #[↑ek,↑j4,↑br] 101);have aP:=td.out.trans (hba.mono td.out.size);refine hK.out _ _ (c4.out _ aP) (fun hHeld=>?_);clear hK K;try simp only [Act.put,QJ,QK,QL]
             have j5:av (wf.alloc (.cells #[↑ek,↑j4,↑br] 101)) wf.heap.size 101 #[↑ek,↑j4,↑br]:=av.new _ _ _;have dm:(wf.alloc (.cells #[↑ek,↑j4,↑br] 101)).heap.size=wf.heap.size+1:=by simp
             obtain⟨gn,jz⟩:=ai wf.heap.size;have oo:Hid (wf.heap.size=gn):=af jz;rw [jz]at j5 dm⊢;clear jz;have Cz:=b5.out.below hba;generalize wf.alloc (.cells #[↑ek,↑j4,↑br] 101)=wc at*;have HN:=af j5;have pq:=af aP;have Ea:=af dm;clear hba aP j5 dm;replace b5:=af Cz;clear Cz;exact sr wc AZ gn A0 ge ⟨pq,b5,HN⟩
            ·refine PB (by rfl) 111 (by rfl) (by rfl) ?_
             have hba:=Below.aI fV (.cells #[↑ek,↑j4,↑br] 101);have aP:=qa.out.trans (hba.mono qa.out.size);refine hK.out _ _ (c4.out _ aP) (fun hHeld=>?_);clear hK K;try simp only [Act.put,QJ,QK,QL]
             have j5:av (fV.alloc (.cells #[↑ek,↑j4,↑br] 101)) fV.heap.size 101 #[↑ek,↑j4,↑br]:=av.new _ _ _;have dm:(fV.alloc (.cells #[↑ek,↑j4,↑br] 101)).heap.size=fV.heap.size+1:=by simp
             obtain⟨gn,jz⟩:=ai fV.heap.size;have oo:Hid (fV.heap.size=gn):=af jz;rw [jz]at j5 dm⊢;clear jz;have I9:=bR.out.below hba;generalize fV.alloc (.cells #[↑ek,↑j4,↑br] 101)=wc at*;have HN:=af j5;have pq:=af aP;have Ea:=af dm;clear hba aP j5 dm;replace bR:=af I9;clear I9;refine aU 4 fun K hK=>?_;refine bK.s9 (by rfl) (.tmp 102) (.tmp 105) (by rfl) wd.heap.size ge 0 0 kk [] rfl (by rfl) bR.out aH 0 mc (e4.take kk) dN.out (by rfl) ((gZ.out.rd_some.below pq.out).take kk) kk (by omega) (by omega) pq.out.size ?_;intro AZ A0 wf fk nL rF;try rw [List.nil_append]at fk
             have jL:=iJ nL pq.out (cS bR.out);have b5:=af fk;have td:=af jL;have yb:=af (fK nL);refine hK.out _ _ (c4.out _ jL) (fun hHeld=>?_);clear hK K fk jL nL rF;try simp only [Act.put,QJ,QK,QL]
             have nM:=HN.out.keeps yb.out (fun hy=>by have h0:some ge=some gn:=hy;injection h0 with h0;have h1:=bL.out;have h2:=I8.out;have h3:=oo.out;omega);replace HN:=af nM;clear nM;exact vL (sr wf AZ gn A0 ge ⟨td,b5,HN⟩)
           ·refine PB (by rfl) 111 (by rfl) (by rfl) ?_
            have hba:=Below.aI wd (.cells #[↑ek,↑j4,↑br] 101);have aP:=oJ.out.trans (hba.mono oJ.out.size);refine hK.out _ _ (c4.out _ aP) (fun hHeld=>?_);clear hK K;try simp only [Act.put,QJ,QK,QL]
            have j5:av (wd.alloc (.cells #[↑ek,↑j4,↑br] 101)) wd.heap.size 101 #[↑ek,↑j4,↑br]:=av.new _ _ _;have dm:(wd.alloc (.cells #[↑ek,↑j4,↑br] 101)).heap.size=wd.heap.size+1:=by simp
            obtain⟨gn,jz⟩:=ai wd.heap.size;have oo:Hid (wd.heap.size=gn):=af jz;rw [jz]at j5 dm⊢;clear jz;generalize wd.alloc (.cells #[↑ek,↑j4,↑br] 101)=wc at*;have HN:=af j5;have pq:=af aP;have Ea:=af dm;clear hba aP j5 dm;refine aU 0 fun K hK=>?_;go_simp;have hba:=Below.aI wc (.cells #[] 101);have aP:=pq.out.trans (hba.mono pq.out.size);refine hK.out _ _ (c4.out _ aP) (fun hHeld=>?_);clear hK K;have pp:bK.Row (wc.alloc (.cells #[] 101)) wc.heap.size (.slice ↑wc.heap.size 0 0) []:=bl.Row.empty wc;have dm:(wc.alloc (.cells #[] 101)).heap.size=wc.heap.size+1:=by simp
            obtain⟨ge,hge⟩:=ai wc.heap.size;have bL:Hid (wc.heap.size=ge):=af hge;rw [hge]at pp dm⊢;clear hge;have lD:=HN.out.below hba;generalize wc.alloc (.cells #[] 101)=fV at*;have bR:=af (pp.base (show wd.heap.size≤ge by have h1:=bL.out;have h2:=pq.out.size;omega));have qa:=af aP;have I8:=af dm;clear hba aP pp dm;replace HN:=af lD;clear lD;refine aU 4 fun K hK=>?_;refine bK.s9 (by rfl) (.tmp 102) (.tmp 105) (by rfl) wd.heap.size ge 0 0 kk [] rfl (by rfl) bR.out aH 0 mc (e4.take kk) dN.out (by rfl) ((gZ.out.rd_some.below qa.out).take kk) kk (by omega) (by omega) qa.out.size ?_;intro AZ A0 wf fk nL rF;try rw [List.nil_append]at fk
            have jL:=iJ nL qa.out (cS bR.out);have b5:=af fk;have td:=af jL;have yb:=af (fK nL);refine hK.out _ _ (c4.out _ jL) (fun hHeld=>?_);clear hK K fk jL nL rF;try simp only [Act.put,QJ,QK,QL]
            have nM:=HN.out.keeps yb.out (fun hy=>by have h0:some ge=some gn:=hy;injection h0 with h0;have h1:=bL.out;have h2:=Ea.out;have h3:=oo.out;omega);replace HN:=af nM;clear nM;exact vL (sr wf AZ gn A0 ge ⟨td,b5,HN⟩)
          case leaf=>
           intro wl AZ gn A0 ge ⟨Vn,b5,HN⟩;refine aU 11 fun K hK=>?_;refine bK.s9 (by rfl) (.tmp 106) (.tmp 112) (by rfl) wd.heap.size AZ A0 kk 1 (e4.take kk) dN.out (by rfl) b5.out gn 0 1 [(⟨ek,j4,br⟩:aB)] rfl (by rfl) (iI.rd HN.out.lt (av.gH HN.out)) (kk+1) rfl (by omega) Vn.out.size ?_;intro ad9 aea wg pu ju th;have tj:=iJ ju Vn.out (cS b5.out);have bU:=af pu;have tq:=af tj;refine hK.out _ _ (c4.out _ tj) (fun hHeld=>?_);clear hK K pu tj ju th;try simp only [Act.put,QJ,QK,QL]
           refine aU 15 fun K hK=>?_;refine bK.s9 (by rfl) (.tmp 113) (.tmp 116) (by rfl) wd.heap.size ad9 aea (kk+1) (ml-kk) (e4.take kk++ [(⟨ek,j4,br⟩:aB)]) Gz.out (by rfl) bU.out aH off2 (mc-kk) (e4.drop kk) xb.out (by rfl) (D9.out _ tq.out) (ml+1) (by omega) (by omega) tq.out.size ?_;intro aV nN qM ux yc yd;have qN:=iJ yc tq.out (cS bU.out);have Eb:=af ux;have zI:=af qN;refine hK.out _ _ (c4.out _ qN) (fun hHeld=>?_);clear hK K ux qN yc yd;try simp only [Act.put,QJ,QK,QL]
           refine dY 16 fun K hK=>?_;go_simp;refine hK.out _ _ ?_;clear hK K hHeld;have rG:=af (Eb.out.base (Nat.le_trans ad8.out b6.out.size));have aQ:=af (dO.out.trans ((AW.out.trans ((ah b6 zI).out.mono AW.out.size)).mono dO.out.size));go_wp2_with fail
           go_roundw
           case rel=>exact⟨t+1,aV,nN,ml+1,_,by go_num,bT,rfl,by omega,AX,I7,rG.out,aQ.out⟩
           case measure=>simp [RowKit.intOf];omega
      ·skip
       have htn:t=yn:=by omega
       have I7:Hid (e4=sk s X.lv Y.lv):=af (by rw [hme.out,htn,I6.out,List.take_length]);have aeb:ml≤500:=by omega
       have Vo:=af (Vg.out.below dO.out);have Vp:=af (AU.out.below dO.out);have Vq:=af (D7.out.below dO.out);have Vr:=af (Vh.out.below dO.out);have Vs:Hid (x3 w fU ga bE aL fc p4 p5 aA.heap.size ↑g1 ↑g2 c d n q (gA A V k++lC (k:Int) lX lY j) (.slice va vn vc) #[.slice j3 X.lv.length xc,↑qL,↑p6,↑xr,↑kJ] #[.slice gB yn fH,↑gP,↑gQ,↑yr,↑jK] (.slice j3 X.lv.length xc) (.slice gB yn fH) (.slice ↑aH ml mc) X.lv Y.lv e4):=af ⟨Vo.out,Vp.out,Vq.out,Vr.out,(PK.out.below dO.out).row,nJ.out⟩;clear Vo Vg Vp Vq AU D7 Vr Vh PK nJ hme;have aec:¬(t:Int)<(yn:Int):=by omega
       go_wp2_with fail
       clear y0 aec;go_loopw [15,7,2] (fun i v iB w'=>∃(t:Nat) (z:Int) (va:Option Addr) (vn vc:Nat),i=↑t∧t≤ml∧iB=↑z∧v= .slice va vn vc∧Hid (z=q+(gA A V k++lC (k:Int) lX lY j++(e4.take t).flatMap (j0 (k:Int) s X.lv Y.lv)).length)∧x3 w w' ga bE aL fc p4 p5 aA.heap.size ↑g1 ↑g2 c d n q (gA A V k++lC (k:Int) lX lY j++(e4.take t).flatMap (j0 (k:Int) s X.lv Y.lv)) (.slice va vn vc) #[.slice j3 X.lv.length xc,↑qL,↑p6,↑xr,↑kJ] #[.slice gB yn fH,↑gP,↑gQ,↑yr,↑jK] (.slice j3 X.lv.length xc) (.slice gB yn fH) (.slice ↑aH ml mc) X.lv Y.lv e4) (fun i _ _ _=>ml-(RowKit.intOf i).toNat)
       case atStart=>exact⟨0,z2,va,vn,vc,rfl,Nat.zero_le _,rfl,rfl,af (by rw [eg.out];simp),by have:=Vs.out;simpa using this⟩
       case round=>
        clear Vs eg;obtain⟨t,z,va,vn,vc,rfl,ht,rfl,rfl,hz,hL⟩:=hrel;obtain⟨wt,rfl⟩:=aj wr;have A1:=af hL;clear hL
        have uy:Hid ((gA A V k++lC (k:Int) lX lY j++(e4.take t).flatMap (j0 (k:Int) s X.lv Y.lv)).length+1≤1000000):=af (by
         have h1:=D4.out;have h2:=adT (k:Int) Cv.out U7.out j;have h3:=U3 (k:Int) s X.lv Y.lv (e4.take t);have h4:=List.length_take_le t e4;have h5:k*(4*250+2)≤40*1002:=Nat.mul_le_mul (by omega) (Nat.le_refl _);simp only [List.length_append];omega)
        have oF:0≤z∧z≤2000000000:=by
         have h1:=hz.out;have h2:=uy.out;omega
        by_cases vM:t<ml
        ·skip
         have al2:(t:Int)<(ml:Int):=by omega
         obtain⟨ee,hee⟩:∃e,e4[t]? =some e:=⟨_,List.getElem?_eq_getElem (by rw [uw.out];exact vM)⟩;have Mu:=af (adS (i:=(k:Int)) (side:=s) (x:=X.lv) (y:=Y.lv) hee);obtain⟨al3,al4,hle,A2,hlc⟩:=A1.out.rl.at_ t ee hee;injection hle with jF Cf mI;injection jF with jF;injection jF with jF;clear Cf;subst jF;obtain⟨A3,aed,aee⟩:=ee;obtain⟨⟨qO,ye,fr⟩,qP⟩:=ai (fp X.lv A3);obtain⟨⟨aR,dU,gr⟩,PR⟩:=ai (fp Y.lv A3);have Ec:Hid (j0 (k:Int) s X.lv Y.lv ⟨A3,aed,aee⟩=if(⟨qO,ye,fr⟩:aB)≠⟨aR,dU,gr⟩then [ph k s ⟨aR,dU,gr⟩ false]else []):=af (by unfold j0;rw [qP,PR])
         have CA:Hid (∀wx,Below wt.heap.size wt wx→Calls Tryz.prog 73 #[.slice j3 X.lv.length xc,↑A3] wx fun e w'=>e= .returned (.agg #[↑qO,↑ye,↑fr])∧Below wx.heap.size wx w'):=af fun wx aT=>by
          have:=Vt (A1.out.rx.below aT).sl (by have:=Cx.out;omega) A3
          rwa [qP]at this
         have kv:Hid (∀wx,Below wt.heap.size wt wx→Calls Tryz.prog 73 #[.slice gB yn fH,↑A3] wx fun e w'=>e= .returned (.agg #[↑aR,↑dU,↑gr])∧Below wx.heap.size wx w'):=af fun wx aT=>by
          have h1:=(A1.out.PD.below aT).sl;rw [I6.out]at h1;have:=Vt h1 (by have:=Vf.out;omega) A3;rw [I6.out]
          rwa [PR]at this
         have c4:Hid (∀wx,Below wt.heap.size wt wx→wx.cell? ↑aL=some (.slice j3 X.lv.length xc)∧wx.cell? ↑fc=some (.slice gB yn fH)∧wx.cell? ⟨aH,t*3,none⟩=some ↑A3):=af fun wx aT=>
          ⟨(A1.out.cW.below aT).cell 0,(A1.out.x2.below aT).cell 0,(aT.cell (p:=⟨aH,t*3,none⟩) A2).trans (hlc 0 _ rfl)⟩
         clear hlc hee qP PR A2 mI;go_upto_region 23 with(fail)
         go_cut [16,17] (fun u u2 wx=>∃cX cE,u= .pointer (some ⟨cX,0,none⟩)∧u2= .pointer (some ⟨cE,0,none⟩)∧av wx cX 101 #[↑qO,↑ye,↑fr]∧av wx cE 101 #[↑aR,↑dU,↑gr]∧Below wt.heap.size wt wx)
         case first=>
          as_aux_lemma=>
           have oJ:Hid (Below wt.heap.size wt wt.drew):=af (Below.refl wt.heap.size wt).drew;refine cP (S:=fun w'=>w'.cell? ↑aL=some (.slice j3 X.lv.length xc)∧w'.cell? ↑fc=some (.slice gB yn fH)∧w'.cell? ⟨aH,t*3,none⟩=some ↑A3) (c4.out _ oJ.out) fun hHeld=>?_;refine au 0 ?_;refine au 1 ?_;refine au 2 ?_;refine au 3 ?_;refine au 4 ?_;refine au 5 ?_;refine au 6 ?_;refine au 8 ?_;refine au 9 ?_;refine au 10 ?_;refine au 11 ?_;refine au 12 ?_;refine au 13 ?_;refine au 14 ?_;generalize wt.drew=wd at*;apply adU (C:=fun W cX cE=>Hid (Below wt.heap.size wt W)∧Hid (av W cX 101 #[.int .i64 0,.int .i64 0,.int .i64 0])∧Hid (av W cE 101 #[.int .i64 0,.int .i64 0,.int .i64 0])∧Hid (¬cX=cE)∧Hid (wt.heap.size≤cX)∧Hid (wt.heap.size≤cE))
           case main=>
            intro sr;apply adU (C:=fun W cX cE=>Hid (Below wt.heap.size wt W)∧Hid (av W cX 101 #[.int .i64 0,.int .i64 0,.int .i64 0])∧Hid (av W cE 101 #[.int .i64 0,.int .i64 0,.int .i64 0])∧Hid (¬cX=cE)∧Hid (wt.heap.size≤cX)∧Hid (wt.heap.size≤cE))
            case main=>
             intro aoh;apply aor (C:=fun W g=>Hid (Below wt.heap.size wt W)∧Hid (av W g 101 #[.int .i64 0,.int .i64 0,.int .i64 0])∧Hid (wt.heap.size≤g))
             case main=>
              intro aop;apply aor (C:=fun W g=>Hid (Below wt.heap.size wt W)∧Hid (av W g 101 #[.int .i64 0,.int .i64 0,.int .i64 0])∧Hid (wt.heap.size≤g))
              case main=>
               intro aoq;refine U4 7 16 17 (fun K hK=>?_) (fun K hK=>?_) fun K hK=>?_
               ·go_simp
                go_at_call 73
                refine(CA.out _ oJ.out).mono ?_;rintro e e1 ⟨rfl,cn⟩;have zJ:=ag oJ cn;refine hK.out _ _ (c4.out _ zJ.out) (fun hHeld=>?_);clear hK K cn;refine U4 15 16 17 (fun K hK=>?_) (fun K hK=>?_) fun K hK=>?_
                ·go_simp
                 go_at_call 73
                 refine(kv.out _ zJ.out).mono ?_;rintro e e2 ⟨rfl,cn⟩;have Ed:=ag zJ cn;refine hK.out _ _ (c4.out _ Ed.out) (fun hHeld=>?_);clear hK K cn;refine lZ 16 17 (fun K hK=>?_) fun K hK=>?_
                 ·go_simp
                  have hba:=Below.aI e2 (.cells #[.int .i64 0,.int .i64 0,.int .i64 0] 101);have Mv:=ag Ed hba;have Mw:Hid (av (e2.alloc (.cells #[.int .i64 0,.int .i64 0,.int .i64 0] 101)) e2.heap.size 101 #[.int .i64 0,.int .i64 0,.int .i64 0]):=af (av.new _ _ _);refine hK.out _ _ (c4.out _ Mv.out) (fun hHeld=>?_);obtain⟨cX,dy⟩:=ai e2.heap.size;have mM:Hid (wt.heap.size≤cX):=af (by rw [←dy];exact Ed.out.size);rw [dy]at Mw⊢;clear hK K hba dy;generalize e2.alloc (.cells #[.int .i64 0,.int .i64 0,.int .i64 0] 101)=bJ at*;exact aop bJ cX ⟨Mv,Mw,mM⟩
                 ·go_simp
                  have hba:=Below.aI e2 (.cells #[.int .i64 0,.int .i64 0,.int .i64 0] 101);have Vu:=ag Ed hba;have Vv:Hid (av (e2.alloc (.cells #[.int .i64 0,.int .i64 0,.int .i64 0] 101)) e2.heap.size 101 #[.int .i64 0,.int .i64 0,.int .i64 0]):=af (av.new _ _ _);refine hK.out _ _ (c4.out _ Vu.out) (fun hHeld=>?_);obtain⟨cE,dy⟩:=ai e2.heap.size;have mN:Hid (wt.heap.size≤cE):=af (by rw [←dy];exact Ed.out.size);rw [dy]at Vv⊢;clear hK K hba dy;generalize e2.alloc (.cells #[.int .i64 0,.int .i64 0,.int .i64 0] 101)=cV at*;exact aoq cV cE ⟨Vu,Vv,mN⟩
                ·go_simp
                 have hba:=Below.aI e1 (.cells #[.int .i64 0,.int .i64 0,.int .i64 0] 101);have Mx:=ag zJ hba;have aoi:Hid (av (e1.alloc (.cells #[.int .i64 0,.int .i64 0,.int .i64 0] 101)) e1.heap.size 101 #[.int .i64 0,.int .i64 0,.int .i64 0]):=af (av.new _ _ _);refine hK.out _ _ (c4.out _ Mx.out) (fun hHeld=>?_);obtain⟨cX,dy⟩:=ai e1.heap.size;have mM:Hid (wt.heap.size≤cX):=af (by rw [←dy];exact zJ.out.size);rw [dy]at aoi⊢;clear hK K hba dy;generalize e1.alloc (.cells #[.int .i64 0,.int .i64 0,.int .i64 0] 101)=su at*;refine lZ 15 17 (fun K hK=>?_) fun K hK=>?_
                 ·go_simp
                  go_at_call 73
                  refine(kv.out _ Mx.out).mono ?_;rintro e vN ⟨rfl,cn⟩;have Vw:=ag Mx cn;have Vx:=af (aoi.out.below cn);refine hK.out _ _ (c4.out _ Vw.out) (fun hHeld=>?_);clear hK K cn aoi;exact vL (aop vN cX ⟨Vw,Vx,mM⟩)
                 ·go_simp
                  have hba:=Below.aI su (.cells #[.int .i64 0,.int .i64 0,.int .i64 0] 101);have Ee:=ag Mx hba;have aos:Hid (av (su.alloc (.cells #[.int .i64 0,.int .i64 0,.int .i64 0] 101)) su.heap.size 101 #[.int .i64 0,.int .i64 0,.int .i64 0]):=af (av.new _ _ _);have GA:=af (aoi.out.below hba);refine hK.out _ _ (c4.out _ Ee.out) (fun hHeld=>?_);obtain⟨cE,dy⟩:=ai su.heap.size;have mN:Hid (wt.heap.size≤cE):=af (by rw [←dy];exact Mx.out.size);have j6:Hid (¬cX=cE):=af (by have:=aoi.out.lt;omega);rw [dy]at aos⊢;clear hK K hba dy aoi;generalize su.alloc (.cells #[.int .i64 0,.int .i64 0,.int .i64 0] 101)=vO at*;exact aoh vO cX cE ⟨Ee,GA,aos,j6,mM,mN⟩
                ·go_simp
                 have hba:=Below.aI e1 (.cells #[.int .i64 0,.int .i64 0,.int .i64 0] 101);have Mz:=ag zJ hba;have aoj:Hid (av (e1.alloc (.cells #[.int .i64 0,.int .i64 0,.int .i64 0] 101)) e1.heap.size 101 #[.int .i64 0,.int .i64 0,.int .i64 0]):=af (av.new _ _ _);refine hK.out _ _ (c4.out _ Mz.out) (fun hHeld=>?_);obtain⟨cE,dy⟩:=ai e1.heap.size;have mN:Hid (wt.heap.size≤cE):=af (by rw [←dy];exact zJ.out.size);rw [dy]at aoj⊢;clear hK K hba dy;generalize e1.alloc (.cells #[.int .i64 0,.int .i64 0,.int .i64 0] 101)=Ja at*;refine lZ 15 16 (fun K hK=>?_) fun K hK=>?_
                 ·go_simp
                  go_at_call 73
                  refine(kv.out _ Mz.out).mono ?_;rintro e aei ⟨rfl,cn⟩;have Vy:=ag Mz cn;have Vz:=af (aoj.out.below cn);refine hK.out _ _ (c4.out _ Vy.out) (fun hHeld=>?_);clear hK K cn aoj;exact vL (aoq aei cE ⟨Vy,Vz,mN⟩)
                 ·go_simp
                  have hba:=Below.aI Ja (.cells #[.int .i64 0,.int .i64 0,.int .i64 0] 101);have MA:=ag Mz hba;have VA:Hid (av (Ja.alloc (.cells #[.int .i64 0,.int .i64 0,.int .i64 0] 101)) Ja.heap.size 101 #[.int .i64 0,.int .i64 0,.int .i64 0]):=af (av.new _ _ _);have PT:=af (aoj.out.below hba);refine hK.out _ _ (c4.out _ MA.out) (fun hHeld=>?_);obtain⟨cX,dy⟩:=ai Ja.heap.size;have mM:Hid (wt.heap.size≤cX):=af (by rw [←dy];exact Mz.out.size);have j6:Hid (¬cX=cE):=af (by have:=aoj.out.lt;omega);rw [dy]at VA⊢;clear hK K hba dy aoj;generalize Ja.alloc (.cells #[.int .i64 0,.int .i64 0,.int .i64 0] 101)=al5 at*;exact vL (aoh al5 cX cE ⟨MA,VA,PT,j6,mM,mN⟩)
               ·go_simp
                have hba:=Below.aI wd (.cells #[.int .i64 0,.int .i64 0,.int .i64 0] 101);have VB:=ag oJ hba;have aek:Hid (av (wd.alloc (.cells #[.int .i64 0,.int .i64 0,.int .i64 0] 101)) wd.heap.size 101 #[.int .i64 0,.int .i64 0,.int .i64 0]):=af (av.new _ _ _);refine hK.out _ _ (c4.out _ VB.out) (fun hHeld=>?_);obtain⟨cX,dy⟩:=ai wd.heap.size;have mM:Hid (wt.heap.size≤cX):=af (by rw [←dy];exact oJ.out.size);rw [dy]at aek⊢;clear hK K hba dy;generalize wd.alloc (.cells #[.int .i64 0,.int .i64 0,.int .i64 0] 101)=aej at*;refine lZ 7 17 (fun K hK=>?_) fun K hK=>?_
                ·go_simp
                 go_at_call 73
                 refine(CA.out _ VB.out).mono ?_;rintro e Jb ⟨rfl,cn⟩;have Ef:=ag VB cn;have aon:=af (aek.out.below cn);refine hK.out _ _ (c4.out _ Ef.out) (fun hHeld=>?_);clear hK K cn aek;refine lZ 15 17 (fun K hK=>?_) fun K hK=>?_
                 ·go_simp
                  go_at_call 73
                  refine(kv.out _ Ef.out).mono ?_;rintro e Jc ⟨rfl,cn⟩;have MB:=ag Ef cn;have aot:=af (aon.out.below cn);refine hK.out _ _ (c4.out _ MB.out) (fun hHeld=>?_);clear hK K cn aon;exact vL (aop Jc cX ⟨MB,aot,mM⟩)
                 ·go_simp
                  have hba:=Below.aI Jb (.cells #[.int .i64 0,.int .i64 0,.int .i64 0] 101);have VC:=ag Ef hba;have aem:Hid (av (Jb.alloc (.cells #[.int .i64 0,.int .i64 0,.int .i64 0] 101)) Jb.heap.size 101 #[.int .i64 0,.int .i64 0,.int .i64 0]):=af (av.new _ _ _);have VD:=af (aon.out.below hba);refine hK.out _ _ (c4.out _ VC.out) (fun hHeld=>?_);obtain⟨cE,dy⟩:=ai Jb.heap.size;have mN:Hid (wt.heap.size≤cE):=af (by rw [←dy];exact Ef.out.size);have j6:Hid (¬cX=cE):=af (by have:=aon.out.lt;omega);rw [dy]at aem⊢;clear hK K hba dy aon;generalize Jb.alloc (.cells #[.int .i64 0,.int .i64 0,.int .i64 0] 101)=aen at*;exact vL (aoh aen cX cE ⟨VC,VD,aem,j6,mM,mN⟩)
                ·go_simp
                 have hba:=Below.aI aej (.cells #[.int .i64 0,.int .i64 0,.int .i64 0] 101);have MC:=ag VB hba;have VE:Hid (av (aej.alloc (.cells #[.int .i64 0,.int .i64 0,.int .i64 0] 101)) aej.heap.size 101 #[.int .i64 0,.int .i64 0,.int .i64 0]):=af (av.new _ _ _);have PV:=af (aek.out.below hba);refine hK.out _ _ (c4.out _ MC.out) (fun hHeld=>?_);obtain⟨cE,dy⟩:=ai aej.heap.size;have mN:Hid (wt.heap.size≤cE):=af (by rw [←dy];exact VB.out.size);have j6:Hid (¬cX=cE):=af (by have:=aek.out.lt;omega);rw [dy]at VE⊢;clear hK K hba dy aek;generalize aej.alloc (.cells #[.int .i64 0,.int .i64 0,.int .i64 0] 101)=al6 at*;refine aU 7 fun K hK=>?_;go_simp;go_at_call 73
                 refine(CA.out _ MC.out).mono ?_;rintro e e16 ⟨rfl,cn⟩;have VF:=ag MC cn;have aeo:=af (PV.out.below cn);have aep:=af (VE.out.below cn);refine hK.out _ _ (c4.out _ VF.out) (fun hHeld=>?_);clear hK K cn PV VE;exact vL (aoh e16 cX cE ⟨VF,aeo,aep,j6,mM,mN⟩)
               ·go_simp
                have hba:=Below.aI wd (.cells #[.int .i64 0,.int .i64 0,.int .i64 0] 101);have Eg:=ag oJ hba;have aok:Hid (av (wd.alloc (.cells #[.int .i64 0,.int .i64 0,.int .i64 0] 101)) wd.heap.size 101 #[.int .i64 0,.int .i64 0,.int .i64 0]):=af (av.new _ _ _);refine hK.out _ _ (c4.out _ Eg.out) (fun hHeld=>?_);obtain⟨cE,dy⟩:=ai wd.heap.size;have mN:Hid (wt.heap.size≤cE):=af (by rw [←dy];exact oJ.out.size);rw [dy]at aok⊢;clear hK K hba dy;generalize wd.alloc (.cells #[.int .i64 0,.int .i64 0,.int .i64 0] 101)=e17 at*;refine lZ 7 16 (fun K hK=>?_) fun K hK=>?_
                ·go_simp
                 go_at_call 73
                 refine(CA.out _ Eg.out).mono ?_;rintro e Jd ⟨rfl,cn⟩;have Eh:=ag Eg cn;have aoo:=af (aok.out.below cn);refine hK.out _ _ (c4.out _ Eh.out) (fun hHeld=>?_);clear hK K cn aok;refine lZ 15 16 (fun K hK=>?_) fun K hK=>?_
                 ·go_simp
                  go_at_call 73
                  refine(kv.out _ Eh.out).mono ?_;rintro e e19 ⟨rfl,cn⟩;have MD:=ag Eh cn;have aou:=af (aoo.out.below cn);refine hK.out _ _ (c4.out _ MD.out) (fun hHeld=>?_);clear hK K cn aoo;exact vL (aoq e19 cE ⟨MD,aou,mN⟩)
                 ·go_simp
                  have hba:=Below.aI Jd (.cells #[.int .i64 0,.int .i64 0,.int .i64 0] 101);have VG:=ag Eh hba;have aeq:Hid (av (Jd.alloc (.cells #[.int .i64 0,.int .i64 0,.int .i64 0] 101)) Jd.heap.size 101 #[.int .i64 0,.int .i64 0,.int .i64 0]):=af (av.new _ _ _);have VH:=af (aoo.out.below hba);refine hK.out _ _ (c4.out _ VG.out) (fun hHeld=>?_);obtain⟨cX,dy⟩:=ai Jd.heap.size;have mM:Hid (wt.heap.size≤cX):=af (by rw [←dy];exact Eh.out.size);have j6:Hid (¬cX=cE):=af (by have:=aoo.out.lt;omega);rw [dy]at aeq⊢;clear hK K hba dy aoo;generalize Jd.alloc (.cells #[.int .i64 0,.int .i64 0,.int .i64 0] 101)=aer at*;exact vL (aoh aer cX cE ⟨VG,aeq,VH,j6,mM,mN⟩)
                ·go_simp
                 have hba:=Below.aI e17 (.cells #[.int .i64 0,.int .i64 0,.int .i64 0] 101);have ME:=ag Eg hba;have VI:Hid (av (e17.alloc (.cells #[.int .i64 0,.int .i64 0,.int .i64 0] 101)) e17.heap.size 101 #[.int .i64 0,.int .i64 0,.int .i64 0]):=af (av.new _ _ _);have PX:=af (aok.out.below hba);refine hK.out _ _ (c4.out _ ME.out) (fun hHeld=>?_);obtain⟨cX,dy⟩:=ai e17.heap.size;have mM:Hid (wt.heap.size≤cX):=af (by rw [←dy];exact Eg.out.size);have j6:Hid (¬cX=cE):=af (by have:=aok.out.lt;omega);rw [dy]at VI⊢;clear hK K hba dy aok;generalize e17.alloc (.cells #[.int .i64 0,.int .i64 0,.int .i64 0] 101)=al7 at*;refine aU 7 fun K hK=>?_;go_simp;go_at_call 73
                 refine(CA.out _ ME.out).mono ?_;rintro e aes ⟨rfl,cn⟩;have VJ:=ag ME cn;have aet:=af (VI.out.below cn);have aeu:=af (PX.out.below cn);refine hK.out _ _ (c4.out _ VJ.out) (fun hHeld=>?_);clear hK K cn VI PX;exact vL (aoh aes cX cE ⟨VJ,aet,aeu,j6,mM,mN⟩)
              case leaf=>
               intro wl cE ⟨Vn,aol,mN⟩;refine aU 16 fun K hK=>?_;go_simp;have hba:=Below.aI wl (.cells #[.int .i64 0,.int .i64 0,.int .i64 0] 101);have MF:=ag Vn hba;have VK:Hid (av (wl.alloc (.cells #[.int .i64 0,.int .i64 0,.int .i64 0] 101)) wl.heap.size 101 #[.int .i64 0,.int .i64 0,.int .i64 0]):=af (av.new _ _ _);have PY:=af (aol.out.below hba);refine hK.out _ _ (c4.out _ MF.out) (fun hHeld=>?_);obtain⟨cX,dy⟩:=ai wl.heap.size;have mM:Hid (wt.heap.size≤cX):=af (by rw [←dy];exact Vn.out.size);have j6:Hid (¬cX=cE):=af (by have:=aol.out.lt;omega);rw [dy]at VK⊢;clear hK K hba dy aol;generalize wl.alloc (.cells #[.int .i64 0,.int .i64 0,.int .i64 0] 101)=al8 at*;exact sr al8 cX cE ⟨MF,VK,PY,j6,mM,mN⟩
             case leaf=>
              intro wl cX ⟨Vn,aom,mM⟩;refine aU 17 fun K hK=>?_;go_simp;have hba:=Below.aI wl (.cells #[.int .i64 0,.int .i64 0,.int .i64 0] 101);have MG:=ag Vn hba;have VM:Hid (av (wl.alloc (.cells #[.int .i64 0,.int .i64 0,.int .i64 0] 101)) wl.heap.size 101 #[.int .i64 0,.int .i64 0,.int .i64 0]):=af (av.new _ _ _);have VL:=af (aom.out.below hba);refine hK.out _ _ (c4.out _ MG.out) (fun hHeld=>?_);obtain⟨cE,dy⟩:=ai wl.heap.size;have mN:Hid (wt.heap.size≤cE):=af (by rw [←dy];exact Vn.out.size);have j6:Hid (¬cX=cE):=af (by have:=aom.out.lt;omega);rw [dy]at VM⊢;clear hK K hba dy aom;generalize wl.alloc (.cells #[.int .i64 0,.int .i64 0,.int .i64 0] 101)=al9 at*;exact vL (sr al9 cX cE ⟨MG,VL,VM,j6,mM,mN⟩)
            case leaf=>
             intro wl cX cE ⟨Vn,aom,aol,j6,mM,mN⟩;refine aU 15 fun K hK=>?_;go_simp;go_at_call 73
             refine(kv.out _ Vn.out).mono ?_;rintro e aev ⟨rfl,cn⟩;have VN:=ag Vn cn;have aew:=af (aom.out.below cn);have aex:=af (aol.out.below cn);refine hK.out _ _ (c4.out _ VN.out) (fun hHeld=>?_);clear hK K cn aom aol;exact vL (sr aev cX cE ⟨VN,aew,aex,j6,mM,mN⟩)
           case leaf=>
            intro W cX cE ⟨dO,GF,VW,j6,mM,mN⟩;obtain⟨x0,x1,aZ⟩:=GF.out.amv;have fx:∀o,W.frozen? ⟨cX,o,none⟩=false:=fun o=>GF.out.frozen o;refine aU 18 fun K hK=>?_;go_simp;have ML:=af (GF.out.vP ↑qO ↑ye ↑fr);have iw:=af (VW.out.keeps (aK.vP W cX ↑qO ↑ye ↑fr) (show¬cE=cX from fun e=>by have:=j6.out;omega));have je:=af (dO.out.trans ((aK.vP W cX ↑qO ↑ye ↑fr).below (B:=wt.heap.size) (fun k hk=>by have e:k=cX:=hk;rw [e];exact mM.out) dO.out.size));refine hK.out _ _ (c4.out _ je.out) (fun hHeld=>?_);clear hK K x0 x1 aZ fx GF VW dO;generalize ((W.setCell ↑cX ↑qO).setCell ⟨cX,1,none⟩ ↑ye).setCell ⟨cX,2,none⟩ ↑fr=GG at*;obtain⟨y0,y1,fI⟩:=iw.out.amv;have aeG:∀o,GG.frozen? ⟨cE,o,none⟩=false:=fun o=>iw.out.frozen o;refine dY 19 fun K hK=>?_;go_simp;refine hK.out _ _ ?_;clear hK K hHeld y0 y1 fI aeG;have aeH:=af (ML.out.keeps (aK.vP GG cE ↑aR ↑dU ↑gr) (show¬cX=cE from fun e=>by have:=j6.out;omega));have aeI:=af (iw.out.vP ↑aR ↑dU ↑gr);have fZ:=af (je.out.trans ((aK.vP GG cE ↑aR ↑dU ↑gr).below (B:=wt.heap.size) (fun k hk=>by have e:k=cE:=hk;rw [e];exact mN.out) je.out.size));go_wp2_with fail
            go_meet;exact⟨cX,cE,rfl,rfl,aeH.out,aeI.out,fZ.out⟩
         case rest=>
         obtain⟨cX,cE,rfl,rfl,tr,CB,aT⟩:=hcut;have nO:=af (A1.out.below aT);generalize wc=fV at*;obtain⟨k0,k1,k2⟩:=tr.amv;obtain⟨m0,m1,m2⟩:=CB.amv;clear tr CB aT A1 CA kv c4;by_cases heq:(⟨qO,ye,fr⟩:aB)=⟨aR,dU,gr⟩
         ·as_aux_lemma=>
          have Ek:Hid (z=q+(gA A V k++lC (k:Int) lX lY j++(e4.take (t+1)).flatMap (j0 (k:Int) s X.lv Y.lv)).length):=af (by rw [Mu.out,Ec.out,if_neg (fun h=>h heq),List.append_nil];exact hz.out);have zK:Hid (x3 w fV ga bE aL fc p4 p5 aA.heap.size ↑g1 ↑g2 c d n q (gA A V k++lC (k:Int) lX lY j++(e4.take (t+1)).flatMap (j0 (k:Int) s X.lv Y.lv)) (.slice va vn vc) #[.slice j3 X.lv.length xc,↑qL,↑p6,↑xr,↑kJ] #[.slice gB yn fH,↑gP,↑gQ,↑yr,↑jK] (.slice j3 X.lv.length xc) (.slice gB yn fH) (.slice ↑aH ml mc) X.lv Y.lv e4):=af (by rw [Mu.out,Ec.out,if_neg (fun h=>h heq),List.append_nil];exact nO.out);injection heq with h1 h2 h3;subst h1;subst h2;subst h3;clear nO hz;go_wp2_with fail
          go_roundw
          case rel=>exact⟨t+1,z,va,vn,vc,by go_num,vM,rfl,rfl,Ek,zK.out⟩
          case measure=>simp [RowKit.intOf];omega
         ·skip
          have rH:Hid (¬(⟨qO,ye,fr⟩:aB)=⟨aR,dU,gr⟩):=af heq;go_upto_region 24 with(fail)
          go_cut [142] (fun u wx=>u= .bool true∧fV=wx)
          case first=>
           as_aux_lemma=>
            by_cases h1:qO=aR
            ·subst h1
             by_cases h2:ye=dU
             ·subst h2
              have h3:¬fr=gr:=fun h=>rH.out (by rw [h]);clear heq;go_wp2_with fail
              go_meet;exact⟨by first|rfl|(simp;done)|(simp [h3];done),rfl⟩
             ·clear heq
              go_wp2_with fail
              go_meet;exact⟨by first|rfl|(simp;done)|(simp [h2];done),rfl⟩
            ·clear heq
             go_wp2_with fail
             go_meet;exact⟨by first|rfl|(simp;done)|(simp [h1];done),rfl⟩
          case rest=>
          obtain⟨rfl,rfl⟩:=hcut;clear heq k0 k1 k2;obtain⟨A4,El⟩:=ai (gA A V k++lC (k:Int) lX lY j++(e4.take t).flatMap (j0 (k:Int) s X.lv Y.lv):List aF);rw [El]at nO hz uy;have Jj:=af El;clear El;obtain⟨fw,hz1⟩:=ai (z+1:Int);have zL:=af hz1;have aeJ:IntKind.i64.wrap (z+1)=fw:=by rw [hz1];exact IntWalk.i64_in _ (by omega)
          clear hz1;have hba:=Below.aI fV (.cells #[↑fw,↑k,↑s,↑aR,↑dU,↑gr,.bool false] 86);have Em:Hid (av (fV.alloc (.cells #[↑fw,↑k,↑s,↑aR,↑dU,↑gr,.bool false] 86)) fV.heap.size 86 (hH.cells ⟨fw,k,s,aR,dU,gr,false⟩).toArray):=af (av.new _ _ _);have cK:=af hba;have Jk:=af (nO.out.d.row.below hba);have iD:Hid (w.heap.size≤(fV.alloc (.cells #[↑fw,↑k,↑s,↑aR,↑dU,↑gr,.bool false] 86)).heap.size):=af (Nat.le_trans nO.out.d.aJ.size hba.size);clear hba
          go_wp2_with (first
           |(at_builtin;go_loud (refine hH.push rfl (.tmp 145) (.tmp 156) rfl w.heap.size (.slice va vn vc) (kU q (A4)) rfl Jk.out fV.heap.size ⟨fw,k,s,aR,dU,gr,false⟩ rfl Em.out.lt Em.out.gH (by rw [Gi];exact uy.out) iD.out ?_)))
          intro v' qQ dl gb _;obtain⟨a5,b8,hM⟩:=dl.form;obtain⟨MM,Jl⟩:=ai ((kU q (A4)++ [(⟨fw,k,s,aR,dU,gr,false⟩:aF)]).length);rw [Jl]at hM;clear Jl;subst hM
          have Jm:(⟨fw,k,s,aR,dU,gr,false⟩:aF)={ph k s ⟨aR,dU,gr⟩ false with seq:=q+((A4).length:Int)+1}:=by
           have h1:=zL.out;have h2:=hz.out;rw [←h1,h2];rfl
          rw [Jm]at dl;have zK:=af (nO.out.push (m:=ph k s ⟨aR,dU,gr⟩ false) cK.out dl gb);clear Jm;have Ek:Hid (fw=q+((A4)++ [ph k s ⟨aR,dU,gr⟩ false]).length):=af (by have h1:=zL.out;have h2:=hz.out;rw [List.length_append,List.length_singleton];omega);clear dl gb cK Em Jk iD nO;have Jn:Hid (fw=q+(gA A V k++lC (k:Int) lX lY j++(e4.take (t+1)).flatMap (j0 (k:Int) s X.lv Y.lv)).length):=af (by rw [Mu.out,Ec.out,if_pos rH.out,←List.append_assoc,Jj.out];exact Ek.out);have Jo:Hid (x3 w qQ ga bE aL fc p4 p5 aA.heap.size ↑g1 ↑g2 c d n q (gA A V k++lC (k:Int) lX lY j++(e4.take (t+1)).flatMap (j0 (k:Int) s X.lv Y.lv)) (.slice a5 MM b8) #[.slice j3 X.lv.length xc,↑qL,↑p6,↑xr,↑kJ] #[.slice gB yn fH,↑gP,↑gQ,↑yr,↑jK] (.slice j3 X.lv.length xc) (.slice gB yn fH) (.slice ↑aH ml mc) X.lv Y.lv e4):=af (by rw [Mu.out,Ec.out,if_pos rH.out,←List.append_assoc,Jj.out];exact zK.out);clear zK Ek hz;go_wp2_with fail
          go_roundw
          case rel=>exact⟨t+1,fw,a5,MM,b8,by go_num,vM,rfl,rfl,Jn,Jo.out⟩
          case measure=>simp [RowKit.intOf];omega
        ·skip
         have htl:t=ml:=by omega
         have VX:Hid (gA A V k++lC (k:Int) lX lY j++(e4.take t).flatMap (j0 (k:Int) s X.lv Y.lv)=gA A V k++lC (k:Int) lX lY j++wX (k:Int) s X.lv Y.lv):=af (by unfold wX;rw [htl,←uw.out,List.take_length,I7.out]);rw [VX.out]at hz uy;have nO:Hid (x3 w wt ga bE aL fc p4 p5 aA.heap.size ↑g1 ↑g2 c d n q (gA A V k++lC (k:Int) lX lY j++wX (k:Int) s X.lv Y.lv) (.slice va vn vc) #[.slice j3 X.lv.length xc,↑qL,↑p6,↑xr,↑kJ] #[.slice gB yn fH,↑gP,↑gQ,↑yr,↑jK] (.slice j3 X.lv.length xc) (.slice gB yn fH) (.slice ↑aH ml mc) X.lv Y.lv e4):=af (by rw [←VX.out];exact A1.out);clear htl A1;have x1:wt.cell? ⟨aL,1,none⟩=some ↑qL:=nO.out.cW.cell 1;have aZ:wt.cell? ⟨aL,2,none⟩=some ↑p6:=nO.out.cW.cell 2;have cl:wt.cell? ⟨aL,3,none⟩=some ↑xr:=nO.out.cW.cell 3;have cw:wt.cell? ⟨aL,4,none⟩=some ↑kJ:=nO.out.cW.cell 4;have y1:wt.cell? ⟨fc,1,none⟩=some ↑gP:=nO.out.x2.cell 1;have fI:wt.cell? ⟨fc,2,none⟩=some ↑gQ:=nO.out.x2.cell 2;have lF:wt.cell? ⟨fc,3,none⟩=some ↑yr:=nO.out.x2.cell 3;have qb:wt.cell? ⟨fc,4,none⟩=some ↑jK:=nO.out.x2.cell 4;have MN:Hid (Ct (k:Int) s X Y=if kJ≠jK∨(⟨qL,p6,xr⟩:aB)≠⟨gP,gQ,yr⟩then [ph k s ⟨gP,gQ,yr⟩ true]else []):=af (by unfold Ct;rw [Vc.out.1,Vc.out.2,Vd.out.1,Vd.out.2]);have MO:Hid (gA A V k++lC (k:Int) lX lY (j+1)=gA A V k++lC (k:Int) lX lY j++wX (k:Int) s X.lv Y.lv++Ct (k:Int) s X Y):=af (by rw [PJ.out];unfold wY;simp only [List.append_assoc]);obtain⟨cd,hcd⟩:∃b,decide (kJ≠jK∨(⟨qL,p6,xr⟩:aB)≠⟨gP,gQ,yr⟩)=b:=⟨_,rfl⟩;have gW:=af hcd;clear hcd;go_upto_region 27 with(fail)
         go_cut [169] (fun u wx=>u=↑cd∧wt=wx)
         case first=>
          as_aux_lemma=>
           by_cases GH:kJ=jK
           ·subst GH
            by_cases h1:qL=gP
            ·subst h1
             by_cases h2:p6=gQ
             ·subst h2
              by_cases h3:xr=yr
              ·subst h3
               obtain rfl:cd=false:=by rw [←gW.out];exact decide_eq_false (by rintro(h|h);exact h rfl;exact h rfl)
               clear gW;go_wp2_with fail
               go_meet;exact⟨by first|rfl|(simp;done),rfl⟩
              ·obtain rfl:cd=true:=by rw [←gW.out];exact decide_eq_true (.inr fun h=>h3 (by injection h))
               clear gW;go_wp2_with fail
               go_meet;exact⟨by first|rfl|(simp;done)|(simp [h3];done),rfl⟩
             ·obtain rfl:cd=true:=by rw [←gW.out];exact decide_eq_true (.inr fun h=>h2 (by injection h))
              clear gW;go_wp2_with fail
              go_meet;exact⟨by first|rfl|(simp;done)|(simp [h2];done),rfl⟩
            ·obtain rfl:cd=true:=by rw [←gW.out];exact decide_eq_true (.inr fun h=>h1 (by injection h))
             clear gW;go_wp2_with fail
             go_meet;exact⟨by first|rfl|(simp;done)|(simp [h1];done),rfl⟩
           ·obtain rfl:cd=true:=by rw [←gW.out];exact decide_eq_true (.inl GH)
            have GI:(kJ !=jK)=true:=by rw [bne_iff_ne];exact GH
            have VY:=af GH;clear gW;cases kJ with
            |false=>
             cases jK with
             |false=>exact absurd rfl VY.out
             |true=>
              clear GH GI;go_wp2_with fail
              go_meet;exact⟨by first|rfl|(simp;done),rfl⟩
            |true=>
             cases jK with
             |true=>exact absurd rfl VY.out
             |false=>
              clear GH GI;go_wp2_with fail
              go_meet;exact⟨by first|rfl|(simp;done),rfl⟩
         case rest=>
         obtain⟨rfl,rfl⟩:=hcut;clear x1 aZ cl cw qb;cases cd with
         |false=>
          as_aux_lemma=>
           have Jp:=af (of_decide_eq_false gW.out);have Jn:Hid (z=q+(gA A V k++lC (k:Int) lX lY (j+1)).length):=af (by rw [MO.out,MN.out,if_neg Jp.out,List.append_nil];exact hz.out);have VZ:Hid (gA A V k++lC (k:Int) lX lY (j+1)=gA A V k++lC (k:Int) lX lY j++wX (k:Int) s X.lv Y.lv):=af (by rw [MO.out,MN.out,if_neg Jp.out,List.append_nil]);have Jo:Hid (w5 w wt ga bE ↑g1 ↑g2 c d n q (gA A V k++lC (k:Int) lX lY (j+1)) (.slice va vn vc)):=af (by rw [VZ.out];exact nO.out.d);clear nO hz VZ gW y1 fI lF;go_wp2_with fail
           go_roundw
           case rel=>exact⟨j+1,s+1,z,va,vn,vc,by go_num,by have:=I1.out;omega,by omega,rfl,rfl,Jn,Jo.out⟩
           case measure=>simp [RowKit.intOf];omega
         |true=>
          have Jp:=af (of_decide_eq_true gW.out);clear gW;obtain⟨A4,El⟩:=ai (gA A V k++lC (k:Int) lX lY j++wX (k:Int) s X.lv Y.lv:List aF);rw [El]at nO hz uy;have Jj:=af El;clear El;obtain⟨fw,hz1⟩:=ai (z+1:Int);have zL:=af hz1;have aeJ:IntKind.i64.wrap (z+1)=fw:=by rw [hz1];exact IntWalk.i64_in _ (by omega)
          clear hz1;have hba:=Below.aI wt (.cells #[↑fw,↑k,↑s,↑gP,↑gQ,↑yr,.bool true] 86);have Em:Hid (av (wt.alloc (.cells #[↑fw,↑k,↑s,↑gP,↑gQ,↑yr,.bool true] 86)) wt.heap.size 86 (hH.cells ⟨fw,k,s,gP,gQ,yr,true⟩).toArray):=af (av.new _ _ _);have cK:=af hba;have Jk:=af (nO.out.d.row.below hba);have iD:Hid (w.heap.size≤(wt.alloc (.cells #[↑fw,↑k,↑s,↑gP,↑gQ,↑yr,.bool true] 86)).heap.size):=af (Nat.le_trans nO.out.d.aJ.size hba.size);clear hba
          go_wp2_with (first
           |(at_builtin;go_loud (refine hH.push rfl (.tmp 172) (.tmp 186) rfl w.heap.size (.slice va vn vc) (kU q (A4)) rfl Jk.out wt.heap.size ⟨fw,k,s,gP,gQ,yr,true⟩ rfl Em.out.lt Em.out.gH (by rw [Gi];exact uy.out) iD.out ?_)))
          intro v' qQ dl gb _;obtain⟨a5,b8,hM⟩:=dl.form;obtain⟨MM,Jl⟩:=ai ((kU q (A4)++ [(⟨fw,k,s,gP,gQ,yr,true⟩:aF)]).length);rw [Jl]at hM;clear Jl;subst hM
          have Jm:(⟨fw,k,s,gP,gQ,yr,true⟩:aF)={ph k s ⟨gP,gQ,yr⟩ true with seq:=q+((A4).length:Int)+1}:=by
           have h1:=zL.out;have h2:=hz.out;rw [←h1,h2];rfl
          rw [Jm]at dl;have zK:=af (nO.out.push (m:=ph k s ⟨gP,gQ,yr⟩ true) cK.out dl gb);clear Jm;have Ek:Hid (fw=q+((A4)++ [ph k s ⟨gP,gQ,yr⟩ true]).length):=af (by have h1:=zL.out;have h2:=hz.out;rw [List.length_append,List.length_singleton];omega);clear dl gb cK Em Jk iD nO;have Jn:Hid (fw=q+(gA A V k++lC (k:Int) lX lY (j+1)).length):=af (by rw [MO.out,MN.out,if_pos Jp.out,Jj.out];exact Ek.out);have Jo:=af zK.out.d;clear zK Ek hz;go_wp2_with fail
          go_roundw
          case rel=>exact⟨j+1,s+1,fw,a5,MM,b8,by go_num,by have:=I1.out;omega,by omega,rfl,rfl,Jn,by rw [MO.out,MN.out,if_pos Jp.out,Jj.out];exact Jo.out⟩
          case measure=>simp [RowKit.intOf];omega
    ·have En:j=2:=by omega
     have amd:¬s≤2:=by omega
     clear hD;have aeK:Hid (w5 w wy ga bE a b c d n q (gA A V (k+1)) (.slice va vn vc)):=af (by rw [U6.out];have:=D5.out;rw [En]at this;exact this);have yf:Hid (z2=q+(gA A V (k+1)).length):=af (by rw [U6.out];have:=eg.out;rw [En]at this;exact this);clear hs hj hj2 En;go_wp2_with fail
     go_roundw
     case rel=>exact⟨k+1,z2,va,vn,vc,by go_num,hlt,rfl,rfl,yf,aeK.out⟩
     case measure=>simp [RowKit.intOf];omega
  ·have hkn:k=n:=by omega
   have cY:Hid (hH.Row ax w.heap.size (.slice va vn vc) (kU q (gA A V n))):=af (by have:=I0.out.row;rwa [hkn]at this);have kL:=af I0.out.aJ;clear hkn;go_wp2_with fail
   go_ret;exact⟨_,rfl,cY.out,kL.out⟩
end
end Go.Proofs.YtmaijkoopjocdaaGreat
