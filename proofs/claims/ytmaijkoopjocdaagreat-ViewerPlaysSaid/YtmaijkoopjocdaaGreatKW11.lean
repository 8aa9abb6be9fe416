import Derived.Test.YtmaijkoopjocdaaGreatKW10
set_option maxRecDepth 100000
set_option maxHeartbeats 64000000
namespace Go.Proofs.YtmaijkoopjocdaaGreat
open Go.RowKit Go.Lib
theorem Qu:(Tryz.prog.info? 86).map (fun i=>(i.zero,i.size,i.bytes))=some (some (.agg #[↑(),↑(),↑(),↑(),↑(),↑(),.bool false]),7,56):=hH.info
theorem M9 {w:World} {g gs o os:Nat} {cur:Array Value} (hb:av w g 86 cur) (A B sn sc:Nat) (L:List aF) (hn:L.length=Nat.min sn A)
 (hsrc:∀j v,(L.flatMap aF.cells)[j]? =some v->w.cell? ⟨gs,os+j,none⟩=some v) (hfit:o+(L.flatMap aF.cells).length<=cur.size) (ty:TypeId):
 (Builtin.copy_ #[82,82] ty #[.slice (some ⟨g,o,none⟩) A B,.slice (some ⟨gs,os,none⟩) sn sc]).run Tryz.prog w= .ok ↑L.length (w.setRow g (cur.toList.take o++L.flatMap aF.cells++cur.toList.drop (o+(L.flatMap aF.cells).length)).toArray):=by
 have hl:=run_loadCells_list (P:=Tryz.prog) w ⟨gs,os,none⟩ (L.flatMap aF.cells) (fun j v hj=>by rw [vE];exact hsrc j v hj);have hst:=run_storeCells_at Tryz.prog g o 86 (L.flatMap aF.cells) 0 cur w hb (by simpa using hfit) (hH.kI L);rw [mK aF.cells 7 (fun _=>rfl)]at hl;obtain⟨i0,hi,C,hz1,D⟩:=info_parts Qu;have hu:Tryz.prog.underlying 82=some (.slice 86):=Tryz.underlying82;simp only [Nat.add_zero]at hst;simp [Builtin.copy_,run_underlying hu,Builtin.lenOf,Builtin.firstCells,sizeOf,typeInfo,hi,hz1,<-hn,hl,hst,goInt]
theorem WO {w:World} {aM g:Nat} {xs cur:Array Value} (hv:av w aM 86 xs) (hg:av w g 86 cur) (hne:aM≠g) (h0:cur.size≠0) (o vn vc ln lc:Nat):
 (callFunc 85 #[.slice ↑aM vn vc,.slice (some ⟨g,o,none⟩) ln lc]).run Tryz.prog w= .ok (.value (.bool false)) w:=by
 obtain⟨i0,hi,A,hz1,B⟩:=info_parts Qu;have hz:∀w:World,(Go.sizeOf 86).run Tryz.prog w= .ok 7 w:=fun w=>by simp [sizeOf,typeInfo,hi,hz1]
 rw [run_callFunc_extern Tryz.func85 eP eP eP (e:=Extern.SlicesOverlaps.overlaps #[82,82] #[4]) eP,
  Lib.run_overlaps_apart w 82 4 86 Tryz.underlying82 7 hz ⟨aM,0,none⟩ ⟨g,o,none⟩ vn vc ln lc hne 86 86 xs.size cur.size ?_ ?_ h0 (hv.frozen 0) (hv.frozen _)]
 ·rfl
 ·have dF:w.heap[aM]? =some (.cells xs 86 (0,0)):=hv;simp [World.shape?,dF]
 have hg':w.heap[g]? =some (.cells cur 86 (0,0)):=hg;simp [World.shape?,hg']
theorem WQ {R:List aF} {i:Nat} (hi:i<=R.length):(R.flatMap aF.cells).take (i*7)=(R.take i).flatMap aF.cells:=by
 have e:R=R.take i++R.drop i:=(List.take_append_drop i R).symm;have hl:((R.take i).flatMap aF.cells).length=i*7:=by rw [mK aF.cells 7 (fun _=>rfl),List.length_take,Nat.min_eq_left hi]
 conv=>lhs;rw [e,List.flatMap_append]
 rw [List.take_append_of_le_length bh,List.take_of_length_le bh]
theorem WR (R:List aF) (i:Nat):((R.drop i).flatMap aF.cells).length=(R.length-i)*7:=by rw [mK aF.cells 7 (fun _=>rfl),List.length_drop]
theorem WS {R:List aF} {i:Nat} (hi:i<=R.length) (j:Nat):((R.drop i).flatMap aF.cells)[j]? =(R.flatMap aF.cells)[i*7+j]? :=by
 have e:R=R.take i++R.drop i:=(List.take_append_drop i R).symm;have hl:((R.take i).flatMap aF.cells).length=i*7:=by rw [mK aF.cells 7 (fun _=>rfl),List.length_take,Nat.min_eq_left hi]
 conv=>rhs;rw [e,List.flatMap_append]
 rw [List.getElem?_append_right bh,hl,Nat.add_sub_cancel_left]
theorem afk {w:World} {B g aM n c i:Nat} {cur:Array Value} {R:List aF} {x:aF} (hb:av w g 86 cur) (hn:R.length=n) (hc:cur.size=c*7) (ht:cur.toList.take (n*7)=R.flatMap aF.cells) (b:B<=g) (M:c<=maxLen)
 (hi:i<n) (hroom:n+1<=c) (hv:av w aM 86 x.cells.toArray) (hne:aM≠g) (hl:n<=900000):
 Calls Tryz.prog 41 #[.slice ↑g n c,↑i,.slice ↑aM 1 1] w fun e w'=>e= .returned (.slice ↑g (n+1) c)∧hH.Row w' B (.slice ↑g (n+1) c) (R.take i++ [x]++R.drop i)∧aK (fun k=>k=g) w w':=by
 have hcl:cur.toList.length=c*7:=by rw [Array.length_toList,hc]
 have hdl:=WR R i;rw [hn]at hdl;have hX:([x].flatMap aF.cells).length=7:=rfl;have hD:(R.drop i).length=n-i:=by rw [List.length_drop,hn]
 have J:cur.size≠0:=bh;have hov:=fun(o vn vc ln lc:Nat)=>WO hv.drew hb.drew hne J o vn vc ln lc;have L:=fun(o vn vc ln lc:Nat)=>WO hv hb hne J o vn vc ln lc;have hget:∀j v,((R.drop i).flatMap aF.cells)[j]? =some v->w.cell? ⟨g,i*7+j,none⟩=some v:=by
  intro j v hj;rw [hb.cell,<-Array.getElem?_toList];rw [WS bh,<-ht,List.getElem?_take]at hj;split at hj
  ·exact hj
  cases hj
 have F:=fun(ty:TypeId) (E sc:Nat)=>M9 (w:=w.drew) (g:=g) (gs:=g) (o:=(i+1)*7) (os:=i*7) hb.drew (n-i) E (n+1-i) sc (R.drop i) (by rw [hD];simp only [Nat.min_def];split<;>omega) hget (by rw [hdl];omega) ty;have hb1:av (w.drew.setRow g (cur.toList.take ((i+1)*7)++(R.drop i).flatMap aF.cells++cur.toList.drop ((i+1)*7+((R.drop i).flatMap aF.cells).length)).toArray) g 86 (cur.toList.take ((i+1)*7)++(R.drop i).flatMap aF.cells++cur.toList.drop ((i+1)*7+((R.drop i).flatMap aF.cells).length)).toArray:=hb.drew.row _;have I:aK (fun k=>k=g) w (w.drew.setRow g (cur.toList.take ((i+1)*7)++(R.drop i).flatMap aF.cells++cur.toList.drop ((i+1)*7+((R.drop i).flatMap aF.cells).length)).toArray):=(Below.keeps (Below.bO w 1)).trans (zC _ _ _);have G:=WL (P:=(R.take i).flatMap aF.cells) (X:= [x].flatMap aF.cells) (D:=(R.drop i).flatMap aF.cells) (cur:=cur.toList) (a:=i*7) (by rw [<-WQ bh,<-ht,List.take_take,Nat.min_eq_left bh]) (by rw [hX,hdl,hcl];omega);rw [hX,show i*7+7=(i+1)*7 by omega]at G;generalize O:cur.toList.take ((i+1)*7)++(R.drop i).flatMap aF.cells++cur.toList.drop ((i+1)*7+((R.drop i).flatMap aF.cells).length)=A at*;have m:A.length=c*7:=by rw [<-O,List.length_append,List.length_append,List.length_take,List.length_drop,hdl,hcl];omega
 clear O;generalize hw1:w.drew.setRow g A.toArray=w1 at*;have hv1:av w1 aM 86 x.cells.toArray:=hv.keeps I hne;have C:=fun(ty:TypeId) (E sc:Nat)=>M9 (w:=w1) (g:=g) (gs:=aM) (o:=i*7) (os:=0) hb1 (n+1-i) E 1 sc [x] (by simp only [Nat.min_def,List.length_singleton];split<;>omega) (fun j v hj=>by
  rw [Nat.zero_add,hv1.cell]
  simpa using hj) (by rw [hX,List.size_toArray,m];omega) ty
 rw [List.toList_toArray]at C;have hb2:=hb1.row (A.take (i*7)++ [x].flatMap aF.cells++A.drop (i*7+([x].flatMap aF.cells).length)).toArray;have hk2:=I.trans (zC w1 g (A.take (i*7)++ [x].flatMap aF.cells++A.drop (i*7+([x].flatMap aF.cells).length)).toArray);have e2:i*7+([x].flatMap aF.cells).length=(i+1)*7:=by rw [hX];omega
 rw [e2,G]at hb2 hk2;replace C:=fun ty E sc=>by have h:=C ty E sc;rw [e2,G]at h;exact h
 generalize N:(R.take i).flatMap aF.cells++ [x].flatMap aF.cells++(R.drop i).flatMap aF.cells++cur.toList.drop ((i+1)*7+((R.drop i).flatMap aF.cells).length)=d at*;generalize l:w1.setRow g d.toArray=w2 at*;have Q:=af N;have U:=af F;have T:=af C;have Y:=af hb2;have Z:=af hk2;have V:=af L;have hw:=M;unfold maxLen at hw;have q1:¬(c=i):=bh;have r:¬(c=i+1):=bh;have y1:IntKind.i64.wrap ((n:Int)+1)=(n:Int)+1:=IntWalk.i64_in _ bh;have p:IntKind.i64.wrap ((i:Int)+1)=(i:Int)+1:=IntWalk.i64_in _ bh;have q:(0:Int)<=(i:Int)+1:=bh;have z2:i<=n:=bh;have z3:i<=n+1:=bh;have z4:(i:Int)<=(n:Int)+1:=bh;clear l N F C hb2 hk2 hov L hb1 I hv1 hget G;have W:=V.o;go_enter Tryz.func41,Tryz.ntmps41;go_wp2_with (simp only [W]);have F:=U.o;refine cP (S:=fun _=>True) True.intro fun hHeld=>?_;refine eX [0,1,2,3,4,5,6,7] ?_;refine dY 8 fun K hK=>?_;go_simp;refine hK.out _ _ ?_;clear hK K F hHeld;have C:=T.o;go_wp2_with fail;go_ret;refine⟨cF,?_,Z.o⟩;have hlen:(R.take i++ [x]++R.drop i).length=n+1:=by rw [List.length_append,List.length_append,List.length_take,List.length_drop,List.length_singleton,hn];omega
 have hfl:(R.take i++ [x]++R.drop i).flatMap aF.cells=(R.take i).flatMap aF.cells++ [x].flatMap aF.cells++(R.drop i).flatMap aF.cells:=by rw [List.flatMap_append,List.flatMap_append]
 have H:((R.take i).flatMap aF.cells++ [x].flatMap aF.cells++(R.drop i).flatMap aF.cells).length=(n+1)*7:=by rw [<-hfl,mK aF.cells 7 (fun _=>rfl),hlen]
 refine⟨by show((R.take i++ [x]++R.drop i).flatMap aF.cells).length=_;rw [hfl,H,hlen];rfl,.inr ⟨g,c,_,by rw [hlen],b,Y.o,by rw [hlen];exact hroom,M,?_,?_⟩⟩
 ·rw [<-Q.o,List.size_toArray,List.length_append,H,List.length_drop,hdl,hcl];show _=c*7;omega
 show List.take ((R.take i++ [x]++R.drop i).length*7) _=(R.take i++ [x]++R.drop i).flatMap aF.cells;rw [hlen,hfl,List.toList_toArray,<-Q.o,List.take_append_of_le_length (by rw [H];exact Nat.le_refl _),List.take_of_length_le (by rw [H];exact Nat.le_refl _)]
theorem afl {w:World} {B g aM n i:Nat} {cur:Array Value} {R:List aF} {x:aF} (hb:av w g 86 cur) (hn:R.length=n) (hc:cur.size=n*7) (ht:cur.toList.take (n*7)=R.flatMap aF.cells) (hB:B<=w.heap.size)
 (hi:i<n) (hv:av w aM 86 x.cells.toArray) (hl:n<=900000):
 Calls Tryz.prog 41 #[.slice ↑g n n,↑i,.slice ↑aM 1 1] w fun e w'=>∃c',e= .returned (.slice ↑w.heap.size (n+1) c')∧hH.Row w' B (.slice ↑w.heap.size (n+1) c') (R.take i++ [x]++R.drop i)∧aK (fun _=>False) w w':=by
 have hcl:cur.toList.length=n*7:=by rw [Array.length_toList,hc]
 have hdl:=WR R i;rw [hn]at hdl;have hX:([x].flatMap aF.cells).length=7:=rfl;have hD:(R.drop i).length=n-i:=by rw [List.length_drop,hn]
 have T:((R.take i).flatMap aF.cells).length=i*7:=by rw [mK aF.cells 7 (fun _=>rfl),List.length_take];omega
 have U:∀(j:Nat) (v:Value),(R.flatMap aF.cells)[j]? =some v->w.cell? ↑(g,j)=some v:=by
  intro j v hj;rw [hb.cell,<-Array.getElem?_toList];rw [<-ht,List.getElem?_take]at hj;split at hj
  ·exact hj
  cases hj
 obtain⟨i0,q,V,hz1,O⟩:=info_parts Qu;obtain⟨k,hk⟩:=ai (n+1-i:Nat);have hik:i+k=n+1:=bh;have hold:(Builtin.firstCells i0.size i (.slice ↑g i n)).run Tryz.prog w.drew= .ok ((R.take i).flatMap aF.cells).toArray w.drew:=by
  have h:=run_loadCells_list (P:=Tryz.prog) w.drew ⟨g,0,none⟩ ((R.take i).flatMap aF.cells) (fun j v hj=>by
   rw [vE,Nat.zero_add];have hj2:j<i*7:=by have:=dM hj;omega
   rw [<-WQ bh,List.getElem?_take,if_pos hj2]at hj;exact U j v hj)
  rw [T]at h;rw [hz1]
  simpa [Builtin.firstCells]using h
 have hap:=fun ty=>Lib.run_append_grow_zeros (P:=Tryz.prog) w 82 3 ty 86 i0 _ .i64 .i64 Tryz.underlying82 Tryz.underlying3 q V ↑g i n ((R.take i).flatMap aF.cells) hold k bh (by rw [hz1];omega) bh bh (by rw [O];omega) (by rw [O,hik];exact growslice_fits bh bh);rw [hik]at hap;have t:=grownCap_ge w (n+1) n 86;have b:=grownCap_le_maxLen w (n+1) n 86 (by unfold maxLen;omega);generalize grownCap w (n+1) n 86=c' at*;obtain⟨A,H⟩:=ai (((R.take i).flatMap aF.cells).toArray++Builtin.zeroCells (Value.agg #[↑(),↑(),↑(),↑(),↑(),↑(),.bool false]).cells k++Builtin.zeroCells (Value.agg #[↑(),↑(),↑(),↑(),↑(),↑(),.bool false]).cells (c'-(n+1)));rw [H]at hap;have hs0:A.size=c'*7:=by rw [<-H,Array.size_append,Array.size_append,List.size_toArray,T];simp [Builtin.zeroCells,Value.cells];omega
 have M:A.toList.length=c'*7:=by rw [Array.length_toList,hs0]
 have c:A.toList.take (i*7)=(R.take i).flatMap aF.cells:=by rw [<-H,Array.toList_append,Array.toList_append,List.toList_toArray,List.append_assoc,List.take_append_of_le_length bh,List.take_of_length_le bh]
 clear H hold q V hz1 O;have hb1:av (w.drew.alloc (.cells A 86)) ↑w 86 A:=av.new w.drew _ _;have F:Below ↑w w (w.drew.alloc (.cells A 86)):=(Below.bO w 1).trans (Below.aI w.drew _);generalize hw1:w.drew.alloc (.cells A 86)=w1 at*;have hv1:=hv.below F;have W:=hb.below F;have L:=fun(ty:TypeId) (G sc:Nat)=>M9 (w:=w1) (g:=w.heap.size) (gs:=aM) (o:=i*7) (os:=0) hb1 k G 1 sc [x] (by simp only [Nat.min_def,List.length_singleton];split<;>omega) (fun j v hj=>by
  rw [Nat.zero_add,hv1.cell]
  simpa using hj) (by rw [hX,hs0];omega) ty
 have hb2:=hb1.row (A.toList.take (i*7)++ [x].flatMap aF.cells++A.toList.drop (i*7+([x].flatMap aF.cells).length)).toArray;have hk2:aK (fun k=>k=w.heap.size) w1 (w1.setRow ↑w (A.toList.take (i*7)++ [x].flatMap aF.cells++A.toList.drop (i*7+([x].flatMap aF.cells).length)).toArray):=zC _ _ _;have I:=WM (P:=(R.take i).flatMap aF.cells) (X:= [x].flatMap aF.cells) (D:=(R.drop i).flatMap aF.cells) (cur:=A.toList) (a:=i*7) c (by rw [hX,hdl,M];omega);generalize l:A.toList.take (i*7)++ [x].flatMap aF.cells++A.toList.drop (i*7+([x].flatMap aF.cells).length)=E at*;have zD:E.length=c'*7:=by rw [<-l,List.length_append,List.length_append,List.length_take,List.length_drop,hX,M];omega
 clear l;generalize vH:w1.setRow ↑w E.toArray=w2 at*;have hne:¬g=w.heap.size:=Nat.ne_of_lt hb.lt;have Y:av w2 g 86 cur:=W.keeps hk2 hne;have N:Below ↑w w w2:=F.trans (hk2.below (fun g hg=>by(have hg':g=w.heap.size:=hg);omega) F.size);have C:=fun(ty:TypeId) (G sc:Nat)=>M9 (w:=w2.drew) (g:=w.heap.size) (gs:=g) (o:=(i+1)*7) (os:=i*7) hb2.drew (n-i) G (n-i) sc (R.drop i) (by rw [hD];simp only [Nat.min_def];split<;>omega) (fun j v hj=>by rw [WS bh]at hj;have h:=U _ v hj;rw [hb.cell]at h;rw [Y.drew.cell];exact h) (by rw [hdl,List.size_toArray,zD];omega) ty;rw [List.toList_toArray]at C;have hb3:=hb2.drew.row (E.take ((i+1)*7)++(R.drop i).flatMap aF.cells++E.drop ((i+1)*7+((R.drop i).flatMap aF.cells).length)).toArray;have Q:=zC w2.drew ↑w (E.take ((i+1)*7)++(R.drop i).flatMap aF.cells++E.drop ((i+1)*7+((R.drop i).flatMap aF.cells).length)).toArray;rw [hX,show i*7+7=(i+1)*7 by omega]at I;rw [I]at hb3 Q;replace C:=fun ty G sc=>by have h:=C ty G sc;rw [I]at h;exact h
 generalize d:(R.take i).flatMap aF.cells++ [x].flatMap aF.cells++(R.drop i).flatMap aF.cells++A.toList.drop ((i+1)*7+((R.drop i).flatMap aF.cells).length)=m at*;have Z:Below ↑w w (w2.drew.setRow ↑w m.toArray):=N.drew.trans (Q.below (fun g hg=>by(have hg':g=w.heap.size:=hg);omega) N.size);generalize s:w2.drew.setRow ↑w m.toArray=w3 at*;have p:=af d;have lO:=af hap;have r:=af L;have u:=af C;have y:=af hb3;have f:=af Z;have z:=af (Eq.refl ↑w);have hw:=b;unfold maxLen at hw;have q1:¬(c'=i):=bh;have ic:¬(c'=i+1):=bh;have uD:¬(n=i):=bh;have y1:IntKind.i64.wrap ((n:Int)+1)=(n:Int)+1:=IntWalk.i64_in _ bh;have fI:IntKind.i64.wrap ((i:Int)+1)=(i:Int)+1:=IntWalk.i64_in _ bh;have lF:IntKind.i64.wrap ((n:Int)+1-(i:Int))=(k:Int):=by rw [show(n:Int)+1-(i:Int)=(k:Int)by omega];exact IntWalk.i64_in _ bh
 have fw:(0:Int)<=(i:Int)+1:=bh;have z2:i<=n:=bh;have z3:i<=n+1:=bh;have z4:(i:Int)<=(n:Int)+1:=bh;clear hw1 vH s d hap L C hb3 Z hb1 F hv1 W hb2 hk2 I Y N Q c;go_enter Tryz.func41,Tryz.ntmps41;go_upto_region 9 with(fail);have L:=r.o;go_wp2_with (first
  |(at_builtin;refine Lib.wpList_append_run _ rfl _ _ _ _ rfl _ _ rfl rfl _ _ (lO.o _) ?_))
 clear L;have C:=u.o;refine cP (S:=fun _=>True) True.intro fun hHeld=>?_;refine eX [0,1,2,3,4,5,6,7] ?_;refine dY 8 fun K hK=>?_;go_simp;refine hK.out _ _ ?_;clear hK K C hHeld;go_wp2_with fail;go_ret;refine⟨c',cF,?_,(Below.keeps f.o)⟩;have hlen:(R.take i++ [x]++R.drop i).length=n+1:=by rw [List.length_append,List.length_append,List.length_take,List.length_drop,List.length_singleton,hn];omega
 have hfl:(R.take i++ [x]++R.drop i).flatMap aF.cells=(R.take i).flatMap aF.cells++ [x].flatMap aF.cells++(R.drop i).flatMap aF.cells:=by rw [List.flatMap_append,List.flatMap_append]
 have J:((R.take i).flatMap aF.cells++ [x].flatMap aF.cells++(R.drop i).flatMap aF.cells).length=(n+1)*7:=by rw [<-hfl,mK aF.cells 7 (fun _=>rfl),hlen]
 refine⟨by show((R.take i++ [x]++R.drop i).flatMap aF.cells).length=_;rw [hfl,J,hlen];rfl,.inr ⟨w.heap.size,c',_,by rw [hlen],hB,y.o,by rw [hlen];exact t,b,?_,?_⟩⟩
 ·rw [<-p.o,List.size_toArray,List.length_append,J,List.length_drop,hdl,M];show _=c'*7;omega
 show List.take ((R.take i++ [x]++R.drop i).length*7) _=(R.take i++ [x]++R.drop i).flatMap aF.cells;rw [hlen,hfl,List.toList_toArray,<-p.o,List.take_append_of_le_length (by rw [J];exact Nat.le_refl _),List.take_of_length_le (by rw [J];exact Nat.le_refl _)]
def jC (side:Int) (prev:Option Int):List aB->Bool
 | []=>true
 |x::t=>decide (1<=x.aq∧1<=x.count)&&(match prev with|none=>true|some p=>cT side p x.ap)&&jC side (some x.ap) t
theorem Dp (side:Int):∀(x:aB) (t:List aB),yz side (x::t)=(decide (1<=x.aq∧1<=x.count)&&jC side (some x.ap) t)
 |x,[]=>by simp [yz,jC]
 |x,y::t=>by show(decide (1<=x.aq∧1<=x.count)&&cT side x.ap y.ap&&yz side (y::t))=_;rw [Dp side y t];show _=(decide (1<=x.aq∧1<=x.count)&&(decide (1<=y.aq∧1<=y.count)&&cT side x.ap y.ap&&jC side (some y.ap) t));cases decide (1<=x.aq∧1<=x.count)<;>cases decide (1<=y.aq∧1<=y.count)<;>cases cT side x.ap y.ap<;>rfl
theorem Za (side:Int):∀(L:List aB),yz side L=jC side none L
 | []=>rfl
 |x::t=>by rw [Dp];show _=(decide (1<=x.aq∧1<=x.count)&&true&&jC side (some x.ap) t);rw [Bool.and_true]
def qt (L:List aB) (k:Nat):Option Int:=if k=0 then none else(L[k-1]?).map aB.ap
theorem Zc {side:Int} {L:List aB} {k:Nat} {x:aB} (hx:L[k]? =some x):jC side (qt L k) (L.drop k)=(decide (1<=x.aq∧1<=x.count)&&(match qt L k with|none=>true|some p=>cT side p x.ap)&&jC side (qt L (k+1)) (L.drop (k+1))):=by
 obtain⟨h1,h2⟩:=lB hx;rw [List.drop_eq_getElem_cons h1,h2];have e:qt L (k+1)=some x.ap:=by unfold qt;rw [if_neg bh,Nat.add_sub_cancel,hx];rfl
 rw [e];rfl
section
variable {w w':World}
theorem Dq {B:Nat} {sh:eO} {d:aX} (h:bV bS w B sh d) (side:Int) (hl:d.lv.length<=800000):
 Calls Tryz.prog 128 #[↑side,.agg #[.slice sh.a sh.n sh.c,↑sh.im.ap,↑sh.im.aq,↑sh.im.count,↑sh.has]] w fun e w'=>e= .returned (.bool (ji side d))∧Below ↑w w w':=by
 obtain⟨L,⟨ip,G5,zW⟩,hs⟩:=d;obtain⟨sa,sn,sc,⟨jp,F,G⟩,I⟩:=sh;obtain⟨h1,h2,h3,h4⟩:=h;dsimp only at h1 h2 h3 h4 hl⊢;injection h3 with e1 e2 bJ;subst h1;subst h4;subst e1;subst e2;subst bJ;have t:Ei (ji side ⟨L,⟨jp,F,G⟩,I⟩=(jC side none L&&decide (L.length<=255)&&(if I=true then decide (1<=F∧1<=G)else decide ((⟨jp,F,G⟩:aB)=jD)))):=af (by unfold ji;rw [Za]);obtain⟨bi,C⟩:∃bi,(if I=true then decide (1<=F∧1<=G)else decide ((⟨jp,F,G⟩:aB)=jD))=bi:=⟨_,rfl⟩;rw [t.o,C];have P:=af C;clear C;have hba:=Below.aI w (.cells #[.slice sa L.length sc,↑jp,↑F,↑G,↑I] 49);have p:Ei (av (w.alloc (.cells #[.slice sa L.length sc,↑jp,↑F,↑G,↑I] 49)) ↑w 49 #[.slice sa L.length sc,↑jp,↑F,↑G,↑I]):=af (av.new _ _ _);have l:=af hba;have bM:=af (h2.below hba);clear hba h2 t;go_enter Tryz.func128,Tryz.ntmps128;go_upto_region 1 with(fail);obtain⟨g,hg⟩:=ai w.heap.size;rw [hg]at p⊢;clear hg;generalize w.alloc (.cells #[.slice sa L.length sc,↑jp,↑F,↑G,↑I] 49)=w1 at*;have c0:=p.o.GC;go_wp2_with fail;go_loopw [10] (fun i w'=>∃k:Nat,i=↑k∧k<=L.length∧jC side none L=jC side (qt L k) (L.drop k)∧Below ↑w1 w1 w') (fun i _=>L.length-(RowKit.intOf i).toNat)
 case atStart=>exact⟨0,rfl,Nat.zero_le _,rfl,Below.refl _ _⟩
 clear c0;obtain⟨k,rfl,hk,f,hb⟩:=hrel;obtain⟨ax,rfl⟩:=aj wr;have J:=af f;have T:=af hb;have X:=af (p.o.below hb);have O:=af (bM.o.below hb);clear f hb;by_cases hlt:k<L.length
 ·have hlt':(k:Int)<(L.length:Int):=by omega
  obtain⟨x,hx⟩:=GB L k hlt;have U:=af (Zc (side:=side) hx);obtain⟨bE,cap,he,_,cD⟩:=O.o.at_ k x hx;injection he with eb _ eS;subst eb;subst eS;obtain⟨x0,x1,W,_⟩:=DD O.o hx;have bz:=af hx;clear cD hx;obtain⟨aL,z⟩:=ai ax.heap.size;go_upto_region 4 with(fail);have R:Below ↑ax ax (ax.alloc (.cells #[↑x.ap,↑x.aq,↑x.count] 47)):=Below.aI _ _;have Y:av (ax.alloc (.cells #[↑x.ap,↑x.aq,↑x.count] 47)) ↑ax 47 #[↑x.ap,↑x.aq,↑x.count]:=av.new _ _ _;rw [z]at Y;have M:Ei (Below ↑w w (ax.alloc (.cells #[↑x.ap,↑x.aq,↑x.count] 47))):=af (l.o.trans ((ag T R).o.mono l.o.size));have V:=ag T R;have mJ:=af (X.o.below R);have k7:=af (O.o.below R);have fy:=af Y;clear R Y z x0 x1 W X O T;generalize ax.alloc (.cells #[↑x.ap,↑x.aq,↑x.count] 47)=A at*;obtain⟨x0,x1,W⟩:=fy.o.gQ;have g0:=mJ.o.GC;by_cases hq:x.aq<1
  ·have s:decide (x.aq<1)=true:=decide_eq_true hq;have Q:Ei (jC side none L=false):=af (by rw [J.o,U.o,decide_eq_false (bh:¬(1<=x.aq∧1<=x.count)),Bool.false_and,Bool.false_and]);clear hq;go_quiet (fail);have m:=M.o.trans ((Below.bO A nq).mono M.o.size);go_wp2_with fail;go_ret;exact⟨by rw [Q.o];try rfl,m⟩
  have s:decide (x.aq<1)=false:=decide_eq_false hq;by_cases hc:x.count<1
  ·have hcd:decide (x.count<1)=true:=decide_eq_true hc;have Q:Ei (jC side none L=false):=af (by rw [J.o,U.o,decide_eq_false (bh:¬(1<=x.aq∧1<=x.count)),Bool.false_and,Bool.false_and]);clear hq hc;go_quiet (fail);have m:=M.o.trans ((Below.bO A nq).mono M.o.size);go_wp2_with fail;go_ret;exact⟨by rw [Q.o];try rfl,m⟩
  have hcd:decide (x.count<1)=false:=decide_eq_false hc;have u:Ei (decide (1<=x.aq∧1<=x.count)=true):=af (decide_eq_true bh);clear hq hc;by_cases r:k=0
  ·have R2:¬(0:Int)<(k:Int):=by omega
   have HN:Ei (jC side none L=jC side (qt L (k+1)) (L.drop (k+1))):=af (by rw [J.o,U.o,u.o,show qt L k=none from if_pos r];rfl);go_quiet (fail);have q:=af (V.o.trans ((Below.bO A nq).mono V.o.size));go_wp2_with fail;go_roundw
   case rel=>exact⟨k+1,dR,hlt,HN.o,q.o⟩
   exact Ej
  have R2:(0:Int)<(k:Int):=bh;have mO:decide (0<k)=true:=decide_eq_true bh;obtain⟨j,hj⟩:∃j:Nat,k=j+1:=⟨k-1,bh⟩;have y1:IntKind.i64.wrap (j:Int)=(j:Int):=IntWalk.i64_in _ bh;have lF:(0:Int)<=(j:Int):=bh;have fI:(k:Int)-1=(j:Int):=bh;have hjl:(j:Int)<(L.length:Int):=bh;obtain⟨y,hy⟩:=GB L j bh;obtain⟨jh,_,_,_⟩:=DD k7.o hy;have sD:qt L k=some y.ap:=by unfold qt;rw [if_neg r,hj,Nat.add_sub_cancel,hy];rfl
  have Z:Ei (jC side none L=(cT side y.ap x.ap&&jC side (qt L (k+1)) (L.drop (k+1)))):=af (by rw [J.o,U.o,u.o,sD];rfl);have hS:A.cell? ↑aL=↑x.ap∧A.cell? ↑(aL,1)=↑x.aq∧A.cell? ↑(aL,2)=↑x.count∧A.cell? ↑g=some (.slice ↑bE L.length sc)∧A.cell? ↑(bE,j*3)=↑y.ap:=⟨x0,x1,W,g0,jh⟩;have nK:=af (Wz side y.ap x.ap A.drew);obtain⟨xg,g7⟩:=ai (cT side y.ap x.ap);rw [g7]at nK Z;clear hj hy sD r x0 x1 W g0 jh g7 U J;refine cP (S:=fun A=>A.cell? ↑aL=↑x.ap∧A.cell? ⟨aL,1,none⟩=↑x.aq∧A.cell? ⟨aL,2,none⟩=↑x.count∧A.cell? ↑g=some (.slice ↑bE L.length sc)∧A.cell? ⟨bE,j*3,none⟩=↑y.ap) hS fun hHeld=>?_;refine eX [0,1,2,3,4,5,6,7,8,9,10,11,12,13,14,15,16,17,18,19,20,21] ?_;refine aU 22 fun K hK=>?_;go_simp;refine nK.o.mono ?_;rintro e aN ⟨rfl,rfl⟩;refine hK.out _ _ hHeld (fun hHeld=>?_);clear hK K;refine eX [23,24] ?_;refine dY 25 fun K hK=>?_;go_simp;refine hK.out _ _ ?_;clear hK K hHeld hS;have q:=af (V.o.trans ((Below.bO A 1).mono V.o.size));have dO:=af (M.o.trans ((Below.bO A 1).mono M.o.size));cases xg with
  |true=>
   have HN:Ei (jC side none L=jC side (qt L (k+1)) (L.drop (k+1))):=af (by rw [Z.o,Bool.true_and]);go_wp2_with fail;go_roundw
   case rel=>exact⟨k+1,dR,hlt,HN.o,q.o⟩
   exact Ej
  |false=>have Q:Ei (jC side none L=false):=af (by rw [Z.o,Bool.false_and]);go_wp2_with fail;go_ret;exact⟨by rw [Q.o];try rfl,dO.o⟩
 have v:k=L.length:=bh;have E:Ei (jC side none L=true):=af (by rw [J.o,v,List.drop_length];rfl);have N:=ah l T;obtain⟨g0,g1,g2,aV,c5⟩:=X.o.gP;obtain⟨b1,hb1⟩:=ai (decide (L.length<=255));have ajz:decide ((L.length:Int)<=255)=b1:=by rw [<-hb1];exact decide_eq_decide.2 bh
 have D:=af hb1;clear v hb1 J X O T;cases I with
 |true=>
  have C:=P.o;rw [if_pos rfl]at C;clear g1;by_cases hq:1<=F
  ·have s:decide (1<=F)=true:=decide_eq_true hq;obtain⟨b2,hb2⟩:=ai (decide (1<=G));have H:Ei (bi=b2):=af (by rw [<-C,<-hb2];exact decide_eq_decide.2 bh);clear C hq;cases b1 with
   |true=>go_wp2_with fail;go_ret;exact⟨by first|(rw [E.o,D.o,H.o,hb2];rfl)|simp [E.o,D.o,H.o],N.o⟩
   |false=>go_wp2_with fail;go_ret;exact⟨by first|(rw [E.o,D.o,H.o];rfl)|simp [E.o,D.o,H.o],N.o⟩
  have s:decide (1<=F)=false:=decide_eq_false hq;have H:Ei (bi=false):=af (by rw [<-C];exact decide_eq_false bh);clear C hq;cases b1 with
  |true=>go_wp2_with fail;go_ret;exact⟨by first|(rw [E.o,D.o,H.o];rfl)|simp [E.o,D.o,H.o],N.o⟩
  |false=>go_wp2_with fail;go_ret;exact⟨by first|(rw [E.o,D.o,H.o];rfl)|simp [E.o,D.o,H.o],N.o⟩
 |false=>
  have C:=P.o;rw [if_neg cU]at C;cases b1 with
  |false=>clear C;go_wp2_with fail;go_ret;exact⟨by first|(rw [E.o,D.o];rfl)|simp [E.o,D.o],N.o⟩
  |true=>
   have b:=af C;clear C;go_wp2_with fail;all_goals go_ret
   all_goals refine⟨?_,N.o⟩
   all_goals first
    |(rw [E.o,D.o,<-b.o];simp_all [jD];done)
    |(simp [E.o,D.o,<-b.o,jD];done)
    |(simp [E.o,D.o,<-b.o,jD, *];done)
end
def mV (p:aX×aX):Bool:=ji 1 p.1&&ji 2 p.2
theorem ajA (V:bG):ql V=(V.all mV&&decide (V.length<=255)):=rfl
theorem Zb {V:bG} {k:Nat} {x:aX×aX} (hx:V[k]? =some x):(V.drop k).all mV=(mV x&&(V.drop (k+1)).all mV):=by obtain⟨h1,h2⟩:=lB hx;rw [List.drop_eq_getElem_cons h1,h2,List.all_cons]
section
variable {w w':World}
theorem ajB {B:Nat} {a:Option Addr} {c:Nat} {V:bG} (h:cg ey bS w B (.slice a V.length c) V) (hl:V.length<=800000) (hK:fX V 800000):
 Calls Tryz.prog 94 #[.agg #[.slice a V.length c]] w fun e w'=>e= .returned (.bool (ql V))∧Below ↑w w w':=by
 rw [ajA];have hba:=Below.aI w (.cells #[.slice a V.length c] 43);have R:Ei (av (w.alloc (.cells #[.slice a V.length c] 43)) ↑w 43 #[.slice a V.length c]):=af (av.new _ _ _);have N:=af hba;have bM:=af (h.below hba);have e7:=af hK;clear hba h hK;go_enter Tryz.func94,Tryz.ntmps94;go_upto_region 1 with(fail);obtain⟨g,hg⟩:=ai w.heap.size;rw [hg]at R⊢;clear hg;generalize w.alloc (.cells #[.slice a V.length c] 43)=w1 at*;have c0:=R.o.GC;go_wp2_with fail;go_loopw [8] (fun i w'=>∃k:Nat,i=↑k∧k<=V.length∧V.all mV=(V.drop k).all mV∧Below ↑w1 w1 w') (fun i _=>V.length-(RowKit.intOf i).toNat)
 case atStart=>exact⟨0,rfl,Nat.zero_le _,rfl,Below.refl _ _⟩
 clear c0;obtain⟨k,rfl,hk,fk,hb⟩:=hrel;obtain⟨ax,rfl⟩:=aj wr;have J:=af fk;have I:=af hb;have r:=af (R.o.below hb);have L:=af (bM.o.below hb);clear fk hb;by_cases hlt:k<V.length
 ·have hlt':(k:Int)<(V.length:Int):=by omega
  obtain⟨x,hx⟩:=GB V k hlt;have b:=af (Zb hx);obtain⟨bE,cap,p,he,_,A,hs1,n⟩:=L.o.get hx;injection he with eb _ eS;subst eb;subst eS;obtain⟨d1,d2⟩:=x;have y:=e7.o (d1,d2) (List.mem_of_getElem? hx);obtain⟨⟨a1,n1,e1,⟨p1,q1,r1⟩,f1⟩,⟨a2,n2,e2,⟨p2,K,r2⟩,f2⟩⟩:=p;have x0:ax.cell? ↑(bE,k*10)=some (.slice a1 n1 e1):=A 0 _ rfl;have x1:ax.cell? ↑(bE,k*10+1)=↑p1:=A 1 _ rfl;have O:ax.cell? ↑(bE,k*10+2)=↑q1:=A 2 _ rfl;have U:ax.cell? ↑(bE,k*10+3)=↑r1:=A 3 _ rfl;have W:ax.cell? ↑(bE,k*10+4)=↑f1:=A 4 _ rfl;have X:ax.cell? ↑(bE,k*10+5)=some (.slice a2 n2 e2):=A 5 _ rfl;have S:ax.cell? ↑(bE,k*10+6)=↑p2:=A 6 _ rfl;have Z:ax.cell? ↑(bE,k*10+7)=↑K:=A 7 _ rfl;have j:ax.cell? ↑(bE,k*10+8)=↑r2:=A 8 _ rfl;have q:ax.cell? ↑(bE,k*10+9)=↑f2:=A 9 _ rfl;have z:=af hs1;have v:=af n;have nj:=af y;clear A hx hs1 n y;obtain⟨aL,fO⟩:=ai ax.heap.size;go_upto_region 4 with(fail);have H:=Below.aI ax (.cells #[.slice a1 n1 e1,↑p1,↑q1,↑r1,↑f1,.slice a2 n2 e2,↑p2,↑K,↑r2,↑f2] 50);have M:av (ax.alloc (.cells #[.slice a1 n1 e1,↑p1,↑q1,↑r1,↑f1,.slice a2 n2 e2,↑p2,↑K,↑r2,↑f2] 50)) ↑ax 50 #[.slice a1 n1 e1,↑p1,↑q1,↑r1,↑f1,.slice a2 n2 e2,↑p2,↑K,↑r2,↑f2]:=av.new _ _ _;rw [fO]at M;have u:=af (N.o.trans ((ag I H).o.mono N.o.size));have s:=ag I H;have D:=af (z.o.below H);have E:=af (v.o.below H);have Y:=af M;clear H M fO x0 x1 O U W X S Z j q r L I z v;generalize ax.alloc (.cells #[.slice a1 n1 e1,↑p1,↑q1,↑r1,↑f1,.slice a2 n2 e2,↑p2,↑K,↑r2,↑f2] 50)=aA at*;obtain⟨x0,x1,O,U,W⟩:=Y.o.gP;have l:=af (Dq D.o 1 nj.o.1);obtain⟨b1,hb1⟩:=ai (ji 1 d1);obtain⟨b2,hb2⟩:=ai (ji 2 d2);have T:Ei (mV (d1,d2)=(b1&&b2)):=af (by unfold mV;rw [<-hb1,<-hb2]);have aS:=af hb2;rw [hb1]at l;clear hb1 hb2;go_wp2_with fail;refine l.o.mono ?_;rintro e aN ⟨rfl,G⟩;have F:=af (E.o.below G);have C:=af (Y.o.below G);have Q:=ag u G;have t:=ag s G;clear G l x0 x1 O U W D E Y s u;cases b1 with
  |false=>have P:Ei (V.all mV=false):=af (by rw [J.o,b.o,T.o,Bool.false_and,Bool.false_and]);go_wp2_with fail;go_ret;exact⟨by rw [P.o];try rfl,Q.o⟩
  |true=>
   have X:=C.o.Jh;have S:=C.o.Ji;have Z:=C.o.My;have j:=C.o.MH;have q:=C.o.MI;have m:=af (Dq F.o 2 nj.o.2);rw [aS.o]at m;go_wp2_with fail;refine m.o.mono ?_;rintro e bf ⟨rfl,d⟩;have dP:=ag Q d;have HG:=ag t d;clear d m X S Z j q F C t Q;cases b2 with
   |false=>have P:Ei (V.all mV=false):=af (by rw [J.o,b.o,T.o,Bool.true_and,Bool.false_and]);go_wp2_with fail;go_ret;exact⟨by rw [P.o];try rfl,dP.o⟩
   |true=>
    have HN:Ei (V.all mV=(V.drop (k+1)).all mV):=af (by rw [J.o,b.o,T.o,Bool.true_and,Bool.true_and]);go_wp2_with fail;go_roundw
    case rel=>exact⟨k+1,dR,hlt,HN.o,HG.o⟩
    exact Ej
 have f:k=V.length:=bh;have kx:Ei (V.all mV=true):=af (by rw [J.o,f,List.drop_length];rfl);have cH:=ah N I;have g0:=r.o.GC;obtain⟨b1,hb1⟩:=ai (decide (V.length<=255));have ajz:decide ((V.length:Int)<=255)=b1:=by rw [<-hb1];exact decide_eq_decide.2 bh
 have bA:=af hb1;clear f hb1 J r L I;go_wp2_with fail;go_ret;exact⟨by rw [kx.o,Bool.true_and,bA.o];try rfl,cH.o⟩
end
end Go.Proofs.YtmaijkoopjocdaaGreat
