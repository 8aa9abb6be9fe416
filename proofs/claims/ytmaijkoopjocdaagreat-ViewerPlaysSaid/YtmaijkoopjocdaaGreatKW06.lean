import Derived.Test.YtmaijkoopjocdaaGreatKW04
set_option maxRecDepth 100000
set_option maxHeartbeats 64000000
namespace Go.Proofs.YtmaijkoopjocdaaGreat
open Go.RowKit Go.Lib
def DJ (a:Option Addr) (n c:Nat):Prop:=(a=none->n=0∧c=0)∧(∀ad,a=some ad->0<c->∃b off,ad=⟨b,off,none⟩)∧n<=c
section
variable {α:Type} {Y:bl α} {w w':World} {B:Nat} {v:Value} {L:List α} {F:Nat->Prop}
def bl.eT (Y:bl α) (w:World) (v:Value) (L:List α):Prop:=∃a c,v= .slice a L.length c∧DJ a L.length c∧Y.fR w a L
theorem bl.Row.sl (h:Y.Row w B v L):Y.eT w v L:=by
 obtain⟨a,c,hv,hac,hrd⟩:=h.rd;refine⟨a,c,hv,⟨fun ha=>?_,fun ad ha _=>?_,?_⟩,hrd⟩
 ·refine⟨?_,hac ha⟩;rcases h.2 with⟨h1,h2⟩|⟨g,cap,cur,h1,_⟩
  ·exact h2
  rw [hv,ha]at h1;injection h1 with h1;cases h1
 ·rcases h.2 with⟨h1,h2⟩|⟨g,cap,cur,h1,_⟩
  ·rw [hv,ha]at h1;injection h1 with h1;cases h1
  rw [hv,ha]at h1;injection h1 with h1;injection h1 with h1;exact⟨g,0,h1⟩
 rcases h.2 with⟨h1,h2⟩|⟨g,cap,cur,h1,_,_,h3,_⟩
 ·omega
 rw [hv]at h1;injection h1 with _ _ h1;rw [h1];exact h3
theorem bl.eT.below (h:Y.eT w v L) (hb:Below ↑w w w'):Y.eT w' v L:=by obtain⟨a,c,h1,h2,h3⟩:=h;exact⟨a,c,h1,h2,h3.below hb⟩
theorem bl.eT.nil:Y.eT w (.slice none 0 0) []:=⟨none,0,rfl,⟨fun _=>⟨rfl,rfl⟩,fun _ h _=>(by cases h),Nat.le_refl 0⟩,bl.fR.nil⟩
theorem bl.eT.get {k:Nat} {x:α} (h:Y.eT w v L) (hk:L[k]? =some x):∃b off c,v= .slice (some ⟨b,off,none⟩) L.length c∧b<w.heap.size∧iI w b (off+k*Y.m) (Y.cells x):=by obtain⟨a,c,h1,_,h3⟩:=h;obtain⟨b,off,rfl,h4,h5⟩:=h3 k x hk;exact⟨b,off,c,h1,h4,h5⟩
end
theorem T7 {w:World} {v:Value} {L:List Int} (h:cZ.eT w v L) (hl:L.length<=900000):
 Calls Tryz.prog 117 #[v] w fun e w'=>∃v',e= .returned v'∧cZ.Row w' ↑w v' L∧Below ↑w w w':=by
 obtain⟨a,c,rfl,ho,hrd⟩:=h;cases a with
 |none=>obtain⟨h0,rfl⟩:=ho.1 rfl;obtain rfl:L= []:=List.length_eq_zero_iff.1 h0;have D:∀(w:World) (a:Option Addr) (n c:Nat),(binOp .eql 37 (.slice a n c) (.slice none 0 0)).run Tryz.prog w= .ok (.bool a.isNone) w:=fun w a n c=>Lib.run_eql_slice_nil w _ _ a n c 0 0 Tryz.underlying37;go_enter Tryz.func117,Tryz.ntmps117;go_wp2_with fail;go_ret;exact⟨_,rfl,bl.Row.nil _ _,Below.refl _ _⟩
 |some ad=>
  have I:=af ho.2.1;have H0:=af (bl.Row.empty (Y:=cZ) w);have A:=af (Below.aI w (.cells #[] 5));have F:=af (hrd.below A.o);have G:=af hl;clear hrd ho hl;have D:∀(w:World) (a:Option Addr) (n c:Nat),(binOp .eql 37 (.slice a n c) (.slice none 0 0)).run Tryz.prog w= .ok (.bool a.isNone) w:=fun w a n c=>Lib.run_eql_slice_nil w _ _ a n c 0 0 Tryz.underlying37;go_enter Tryz.func117,Tryz.ntmps117;go_wp2_with (first
   |(at_builtin;go_loud (refine cZ.wV rfl (.tmp 5) (.tmp 6) rfl ↑w (.slice (some ⟨w.heap.size,0,none⟩) 0 0) [] rfl H0.o (some ad) c L rfl (fun h=>by cases h) F.o I.o (by have:=G.o;simp;omega) A.o.size ?_)))
  intro v' K B C J;have H:=af B;have E:=af (iJ C A.o (cS H0.o));clear B C J;go_wp2_with fail;go_ret;exact⟨_,rfl,H.o,E.o⟩
theorem Qy {w:World} {v:Value} {L:List aB} (h:bS.eT w v L) (hl:L.length<=900000):
 Calls Tryz.prog 88 #[v] w fun e w'=>∃v',e= .returned v'∧bS.Row w' ↑w v' L∧Below ↑w w w':=by
 obtain⟨a,c,rfl,ho,hrd⟩:=h;cases a with
 |none=>obtain⟨h0,rfl⟩:=ho.1 rfl;obtain rfl:L= []:=List.length_eq_zero_iff.1 h0;have D:∀(w:World) (a:Option Addr) (n c:Nat),(binOp .eql 45 (.slice a n c) (.slice none 0 0)).run Tryz.prog w= .ok (.bool a.isNone) w:=fun w a n c=>Lib.run_eql_slice_nil w _ _ a n c 0 0 Tryz.underlying45;go_enter Tryz.func88,Tryz.ntmps88;go_wp2_with fail;go_ret;exact⟨_,rfl,bl.Row.nil _ _,Below.refl _ _⟩
 |some ad=>
  have I:=af ho.2.1;have H0:=af (bl.Row.empty (Y:=bS) w);have A:=af (Below.aI w (.cells #[] 47));have F:=af (hrd.below A.o);have G:=af hl;clear hrd ho hl;have D:∀(w:World) (a:Option Addr) (n c:Nat),(binOp .eql 45 (.slice a n c) (.slice none 0 0)).run Tryz.prog w= .ok (.bool a.isNone) w:=fun w a n c=>Lib.run_eql_slice_nil w _ _ a n c 0 0 Tryz.underlying45;go_enter Tryz.func88,Tryz.ntmps88;go_wp2_with (first
   |(at_builtin;go_loud (refine bS.wV rfl (.tmp 5) (.tmp 6) rfl ↑w (.slice (some ⟨w.heap.size,0,none⟩) 0 0) [] rfl H0.o (some ad) c L rfl (fun h=>by cases h) F.o I.o (by have:=G.o;simp;omega) A.o.size ?_)))
  intro v' K B C J;have H:=af B;have E:=af (iJ C A.o (cS H0.o));clear B C J;go_wp2_with fail;go_ret;exact⟨_,rfl,H.o,E.o⟩
theorem Qz {w:World} {v:Value} {L:List bB} (h:ey.eT w v L) (hl:L.length<=900000):
 Calls Tryz.prog 87 #[v] w fun e w'=>∃v',e= .returned v'∧ey.Row w' ↑w v' L∧Below ↑w w w':=by
 obtain⟨a,c,rfl,ho,hrd⟩:=h;cases a with
 |none=>obtain⟨h0,rfl⟩:=ho.1 rfl;obtain rfl:L= []:=List.length_eq_zero_iff.1 h0;have D:∀(w:World) (a:Option Addr) (n c:Nat),(binOp .eql 41 (.slice a n c) (.slice none 0 0)).run Tryz.prog w= .ok (.bool a.isNone) w:=fun w a n c=>Lib.run_eql_slice_nil w _ _ a n c 0 0 Tryz.underlying41;go_enter Tryz.func87,Tryz.ntmps87;go_wp2_with fail;go_ret;exact⟨_,rfl,bl.Row.nil _ _,Below.refl _ _⟩
 |some ad=>
  have I:=af ho.2.1;have H0:=af (bl.Row.empty (Y:=ey) w);have A:=af (Below.aI w (.cells #[] 50));have F:=af (hrd.below A.o);have G:=af hl;clear hrd ho hl;have D:∀(w:World) (a:Option Addr) (n c:Nat),(binOp .eql 41 (.slice a n c) (.slice none 0 0)).run Tryz.prog w= .ok (.bool a.isNone) w:=fun w a n c=>Lib.run_eql_slice_nil w _ _ a n c 0 0 Tryz.underlying41;go_enter Tryz.func87,Tryz.ntmps87;go_wp2_with (first
   |(at_builtin;go_loud (refine ey.wV rfl (.tmp 5) (.tmp 6) rfl ↑w (.slice (some ⟨w.heap.size,0,none⟩) 0 0) [] rfl H0.o (some ad) c L rfl (fun h=>by cases h) F.o I.o (by have:=G.o;simp;omega) A.o.size ?_)))
  intro v' K B C J;have H:=af B;have E:=af (iJ C A.o (cS H0.o));clear B C J;go_wp2_with fail;go_ret;exact⟨_,rfl,H.o,E.o⟩
theorem T8 {w:World} {v:Value} {L:List aF} (h:hH.eT w v L) (hl:L.length<=900000):
 Calls Tryz.prog 84 #[v] w fun e w'=>∃v',e= .returned v'∧hH.Row w' ↑w v' L∧Below ↑w w w':=by
 obtain⟨a,c,rfl,ho,hrd⟩:=h;cases a with
 |none=>obtain⟨h0,rfl⟩:=ho.1 rfl;obtain rfl:L= []:=List.length_eq_zero_iff.1 h0;have D:∀(w:World) (a:Option Addr) (n c:Nat),(binOp .eql 82 (.slice a n c) (.slice none 0 0)).run Tryz.prog w= .ok (.bool a.isNone) w:=fun w a n c=>Lib.run_eql_slice_nil w _ _ a n c 0 0 Tryz.underlying82;go_enter Tryz.func84,Tryz.ntmps84;go_wp2_with fail;go_ret;exact⟨_,rfl,bl.Row.nil _ _,Below.refl _ _⟩
 |some ad=>
  have I:=af ho.2.1;have H0:=af (bl.Row.empty (Y:=hH) w);have A:=af (Below.aI w (.cells #[] 86));have F:=af (hrd.below A.o);have G:=af hl;clear hrd ho hl;have D:∀(w:World) (a:Option Addr) (n c:Nat),(binOp .eql 82 (.slice a n c) (.slice none 0 0)).run Tryz.prog w= .ok (.bool a.isNone) w:=fun w a n c=>Lib.run_eql_slice_nil w _ _ a n c 0 0 Tryz.underlying82;go_enter Tryz.func84,Tryz.ntmps84;go_wp2_with (first
   |(at_builtin;go_loud (refine hH.wV rfl (.tmp 5) (.tmp 6) rfl ↑w (.slice (some ⟨w.heap.size,0,none⟩) 0 0) [] rfl H0.o (some ad) c L rfl (fun h=>by cases h) F.o I.o (by have:=G.o;simp;omega) A.o.size ?_)))
  intro v' K B C J;have H:=af B;have E:=af (iJ C A.o (cS H0.o));clear B C J;go_wp2_with fail;go_ret;exact⟨_,rfl,H.o,E.o⟩
theorem IU:(Tryz.prog.info? 47).map (fun i=>(i.zero,i.size,i.bytes))=some (some (.agg #[↑(),↑(),↑()]),3,24):=bS.info
theorem M8 {w:World} {g gs o os:Nat} {cur:Array Value} (hb:av w g 47 cur) (A B sn sc:Nat) (L:List aB) (hn:L.length=Nat.min sn A)
 (hsrc:∀j v,(L.flatMap aB.cells)[j]? =some v->w.cell? ⟨gs,os+j,none⟩=some v) (hfit:o+(L.flatMap aB.cells).length<=cur.size) (ty:TypeId):
 (Builtin.copy_ #[45,45] ty #[.slice (some ⟨g,o,none⟩) A B,.slice (some ⟨gs,os,none⟩) sn sc]).run Tryz.prog w= .ok ↑L.length (w.setRow g (cur.toList.take o++L.flatMap aB.cells++cur.toList.drop (o+(L.flatMap aB.cells).length)).toArray):=by
 have hl:=run_loadCells_list (P:=Tryz.prog) w ⟨gs,os,none⟩ (L.flatMap aB.cells) (fun j v hj=>by rw [vE];exact hsrc j v hj);have hst:=run_storeCells_at Tryz.prog g o 47 (L.flatMap aB.cells) 0 cur w hb (by simpa using hfit) (bS.kI L);rw [mK aB.cells 3 (fun _=>rfl)]at hl;obtain⟨i0,hi,C,hz1,D⟩:=info_parts IU;have hu:Tryz.prog.underlying 45=some (.slice 47):=Tryz.underlying45;simp only [Nat.add_zero]at hst;simp [Builtin.copy_,run_underlying hu,Builtin.lenOf,Builtin.firstCells,sizeOf,typeInfo,hi,hz1,<-hn,hl,hst,goInt]
theorem WN {w:World} {aM g:Nat} {xs cur:Array Value} (hv:av w aM 47 xs) (hg:av w g 47 cur) (hne:aM≠g) (h0:cur.size≠0) (o vn vc ln lc:Nat):
 (callFunc 142 #[.slice ↑aM vn vc,.slice (some ⟨g,o,none⟩) ln lc]).run Tryz.prog w= .ok (.value (.bool false)) w:=by
 obtain⟨i0,hi,A,hz1,B⟩:=info_parts IU;have hz:∀w:World,(Go.sizeOf 47).run Tryz.prog w= .ok 3 w:=fun w=>by simp [sizeOf,typeInfo,hi,hz1]
 rw [run_callFunc_extern Tryz.func142 eP eP eP (e:=Extern.SlicesOverlaps.overlaps #[45,45] #[4]) eP,
  Lib.run_overlaps_apart w 45 4 47 Tryz.underlying45 3 hz ⟨aM,0,none⟩ ⟨g,o,none⟩ vn vc ln lc hne 47 47 xs.size cur.size ?_ ?_ h0 (hv.frozen 0) (hv.frozen _)]
 ·rfl
 ·have dF:w.heap[aM]? =some (.cells xs 47 (0,0)):=hv;simp [World.shape?,dF]
 have hg':w.heap[g]? =some (.cells cur 47 (0,0)):=hg;simp [World.shape?,hg']
theorem Pt {R:List aB} {i:Nat} (hi:i<=R.length):(R.flatMap aB.cells).take (i*3)=(R.take i).flatMap aB.cells:=by
 have e:R=R.take i++R.drop i:=(List.take_append_drop i R).symm;have hl:((R.take i).flatMap aB.cells).length=i*3:=by rw [mK aB.cells 3 (fun _=>rfl),List.length_take,Nat.min_eq_left hi]
 conv=>lhs;rw [e,List.flatMap_append]
 rw [List.take_append_of_le_length bh,List.take_of_length_le bh]
theorem Pr (R:List aB) (i:Nat):((R.drop i).flatMap aB.cells).length=(R.length-i)*3:=by rw [mK aB.cells 3 (fun _=>rfl),List.length_drop]
theorem Ps {R:List aB} {i:Nat} (hi:i<=R.length) (j:Nat):((R.drop i).flatMap aB.cells)[j]? =(R.flatMap aB.cells)[i*3+j]? :=by
 have e:R=R.take i++R.drop i:=(List.take_append_drop i R).symm;have hl:((R.take i).flatMap aB.cells).length=i*3:=by rw [mK aB.cells 3 (fun _=>rfl),List.length_take,Nat.min_eq_left hi]
 conv=>rhs;rw [e,List.flatMap_append]
 rw [List.getElem?_append_right bh,hl,Nat.add_sub_cancel_left]
theorem afg {w:World} {B g aM n c i:Nat} {cur:Array Value} {R:List aB} {x:aB} (hb:av w g 47 cur) (hn:R.length=n) (hc:cur.size=c*3) (ht:cur.toList.take (n*3)=R.flatMap aB.cells) (b:B<=g) (M:c<=maxLen)
 (hi:i<n) (hroom:n+1<=c) (hv:av w aM 47 x.cells.toArray) (hne:aM≠g) (hl:n<=900000):
 Calls Tryz.prog 124 #[.slice ↑g n c,↑i,.slice ↑aM 1 1] w fun e w'=>e= .returned (.slice ↑g (n+1) c)∧bS.Row w' B (.slice ↑g (n+1) c) (R.take i++ [x]++R.drop i)∧aK (fun k=>k=g) w w':=by
 have hcl:cur.toList.length=c*3:=by rw [Array.length_toList,hc]
 have hdl:=Pr R i;rw [hn]at hdl;have hX:([x].flatMap aB.cells).length=3:=rfl;have hD:(R.drop i).length=n-i:=by rw [List.length_drop,hn]
 have J:cur.size≠0:=bh;have hov:=fun(o vn vc ln lc:Nat)=>WN hv.drew hb.drew hne J o vn vc ln lc;have L:=fun(o vn vc ln lc:Nat)=>WN hv hb hne J o vn vc ln lc;have hget:∀j v,((R.drop i).flatMap aB.cells)[j]? =some v->w.cell? ⟨g,i*3+j,none⟩=some v:=by
  intro j v hj;rw [hb.cell,<-Array.getElem?_toList];rw [Ps bh,<-ht,List.getElem?_take]at hj;split at hj
  ·exact hj
  cases hj
 have F:=fun(ty:TypeId) (E sc:Nat)=>M8 (w:=w.drew) (g:=g) (gs:=g) (o:=(i+1)*3) (os:=i*3) hb.drew (n-i) E (n+1-i) sc (R.drop i) (by rw [hD];simp only [Nat.min_def];split<;>omega) hget (by rw [hdl];omega) ty;have hb1:av (w.drew.setRow g (cur.toList.take ((i+1)*3)++(R.drop i).flatMap aB.cells++cur.toList.drop ((i+1)*3+((R.drop i).flatMap aB.cells).length)).toArray) g 47 (cur.toList.take ((i+1)*3)++(R.drop i).flatMap aB.cells++cur.toList.drop ((i+1)*3+((R.drop i).flatMap aB.cells).length)).toArray:=hb.drew.row _;have I:aK (fun k=>k=g) w (w.drew.setRow g (cur.toList.take ((i+1)*3)++(R.drop i).flatMap aB.cells++cur.toList.drop ((i+1)*3+((R.drop i).flatMap aB.cells).length)).toArray):=(Below.keeps (Below.bO w 1)).trans (zC _ _ _);have G:=WL (P:=(R.take i).flatMap aB.cells) (X:= [x].flatMap aB.cells) (D:=(R.drop i).flatMap aB.cells) (cur:=cur.toList) (a:=i*3) (by rw [<-Pt bh,<-ht,List.take_take,Nat.min_eq_left bh]) (by rw [hX,hdl,hcl];omega);rw [hX,show i*3+3=(i+1)*3 by omega]at G;generalize O:cur.toList.take ((i+1)*3)++(R.drop i).flatMap aB.cells++cur.toList.drop ((i+1)*3+((R.drop i).flatMap aB.cells).length)=A at*;have m:A.length=c*3:=by rw [<-O,List.length_append,List.length_append,List.length_take,List.length_drop,hdl,hcl];omega
 clear O;generalize hw1:w.drew.setRow g A.toArray=w1 at*;have hv1:av w1 aM 47 x.cells.toArray:=hv.keeps I hne;have C:=fun(ty:TypeId) (E sc:Nat)=>M8 (w:=w1) (g:=g) (gs:=aM) (o:=i*3) (os:=0) hb1 (n+1-i) E 1 sc [x] (by simp only [Nat.min_def,List.length_singleton];split<;>omega) (fun j v hj=>by
  rw [Nat.zero_add,hv1.cell]
  simpa using hj) (by rw [hX,List.size_toArray,m];omega) ty
 rw [List.toList_toArray]at C;have hb2:=hb1.row (A.take (i*3)++ [x].flatMap aB.cells++A.drop (i*3+([x].flatMap aB.cells).length)).toArray;have hk2:=I.trans (zC w1 g (A.take (i*3)++ [x].flatMap aB.cells++A.drop (i*3+([x].flatMap aB.cells).length)).toArray);have e2:i*3+([x].flatMap aB.cells).length=(i+1)*3:=by rw [hX];omega
 rw [e2,G]at hb2 hk2;replace C:=fun ty E sc=>by have h:=C ty E sc;rw [e2,G]at h;exact h
 generalize N:(R.take i).flatMap aB.cells++ [x].flatMap aB.cells++(R.drop i).flatMap aB.cells++cur.toList.drop ((i+1)*3+((R.drop i).flatMap aB.cells).length)=d at*;generalize l:w1.setRow g d.toArray=w2 at*;have Q:=af N;have U:=af F;have T:=af C;have Y:=af hb2;have Z:=af hk2;have V:=af L;have hw:=M;unfold maxLen at hw;have q1:¬(c=i):=bh;have r:¬(c=i+1):=bh;have y1:IntKind.i64.wrap ((n:Int)+1)=(n:Int)+1:=IntWalk.i64_in _ bh;have p:IntKind.i64.wrap ((i:Int)+1)=(i:Int)+1:=IntWalk.i64_in _ bh;have q:(0:Int)<=(i:Int)+1:=bh;have z2:i<=n:=bh;have z3:i<=n+1:=bh;have z4:(i:Int)<=(n:Int)+1:=bh;clear l N F C hb2 hk2 hov L hb1 I hv1 hget G;have W:=V.o;go_enter Tryz.func124,Tryz.ntmps124;go_wp2_with (simp only [W]);have F:=U.o;refine cP (S:=fun _=>True) True.intro fun hHeld=>?_;refine eX [0,1,2,3,4,5,6,7] ?_;refine dY 8 fun K hK=>?_;go_simp;refine hK.out _ _ ?_;clear hK K F hHeld;have C:=T.o;go_wp2_with fail;go_ret;refine⟨cF,?_,Z.o⟩;have hlen:(R.take i++ [x]++R.drop i).length=n+1:=by rw [List.length_append,List.length_append,List.length_take,List.length_drop,List.length_singleton,hn];omega
 have hfl:(R.take i++ [x]++R.drop i).flatMap aB.cells=(R.take i).flatMap aB.cells++ [x].flatMap aB.cells++(R.drop i).flatMap aB.cells:=by rw [List.flatMap_append,List.flatMap_append]
 have H:((R.take i).flatMap aB.cells++ [x].flatMap aB.cells++(R.drop i).flatMap aB.cells).length=(n+1)*3:=by rw [<-hfl,mK aB.cells 3 (fun _=>rfl),hlen]
 refine⟨by show((R.take i++ [x]++R.drop i).flatMap aB.cells).length=_;rw [hfl,H,hlen];rfl,.inr ⟨g,c,_,by rw [hlen],b,Y.o,by rw [hlen];exact hroom,M,?_,?_⟩⟩
 ·rw [<-Q.o,List.size_toArray,List.length_append,H,List.length_drop,hdl,hcl];show _=c*3;omega
 show List.take ((R.take i++ [x]++R.drop i).length*3) _=(R.take i++ [x]++R.drop i).flatMap aB.cells;rw [hlen,hfl,List.toList_toArray,<-Q.o,List.take_append_of_le_length (by rw [H];exact Nat.le_refl _),List.take_of_length_le (by rw [H];exact Nat.le_refl _)]
theorem afh {w:World} {B g aM n i:Nat} {cur:Array Value} {R:List aB} {x:aB} (hb:av w g 47 cur) (hn:R.length=n) (hc:cur.size=n*3) (ht:cur.toList.take (n*3)=R.flatMap aB.cells) (hB:B<=w.heap.size)
 (hi:i<n) (hv:av w aM 47 x.cells.toArray) (hl:n<=900000):
 Calls Tryz.prog 124 #[.slice ↑g n n,↑i,.slice ↑aM 1 1] w fun e w'=>∃c',e= .returned (.slice ↑w.heap.size (n+1) c')∧bS.Row w' B (.slice ↑w.heap.size (n+1) c') (R.take i++ [x]++R.drop i)∧aK (fun _=>False) w w':=by
 have hcl:cur.toList.length=n*3:=by rw [Array.length_toList,hc]
 have hdl:=Pr R i;rw [hn]at hdl;have hX:([x].flatMap aB.cells).length=3:=rfl;have hD:(R.drop i).length=n-i:=by rw [List.length_drop,hn]
 have T:((R.take i).flatMap aB.cells).length=i*3:=by rw [mK aB.cells 3 (fun _=>rfl),List.length_take];omega
 have U:∀(j:Nat) (v:Value),(R.flatMap aB.cells)[j]? =some v->w.cell? ↑(g,j)=some v:=by
  intro j v hj;rw [hb.cell,<-Array.getElem?_toList];rw [<-ht,List.getElem?_take]at hj;split at hj
  ·exact hj
  cases hj
 obtain⟨i0,q,V,hz1,O⟩:=info_parts IU;obtain⟨k,hk⟩:=ai (n+1-i:Nat);have hik:i+k=n+1:=bh;have hold:(Builtin.firstCells i0.size i (.slice ↑g i n)).run Tryz.prog w.drew= .ok ((R.take i).flatMap aB.cells).toArray w.drew:=by
  have h:=run_loadCells_list (P:=Tryz.prog) w.drew ⟨g,0,none⟩ ((R.take i).flatMap aB.cells) (fun j v hj=>by
   rw [vE,Nat.zero_add];have hj2:j<i*3:=by have:=dM hj;omega
   rw [<-Pt bh,List.getElem?_take,if_pos hj2]at hj;exact U j v hj)
  rw [T]at h;rw [hz1]
  simpa [Builtin.firstCells]using h
 have hap:=fun ty=>Lib.run_append_grow_zeros (P:=Tryz.prog) w 45 3 ty 47 i0 _ .i64 .i64 Tryz.underlying45 Tryz.underlying3 q V ↑g i n ((R.take i).flatMap aB.cells) hold k bh (by rw [hz1];omega) bh bh (by rw [O];omega) (by rw [O,hik];exact growslice_fits bh bh);rw [hik]at hap;have t:=grownCap_ge w (n+1) n 47;have b:=grownCap_le_maxLen w (n+1) n 47 (by unfold maxLen;omega);generalize grownCap w (n+1) n 47=c' at*;obtain⟨A,H⟩:=ai (((R.take i).flatMap aB.cells).toArray++Builtin.zeroCells (Value.agg #[↑(),↑(),↑()]).cells k++Builtin.zeroCells (Value.agg #[↑(),↑(),↑()]).cells (c'-(n+1)));rw [H]at hap;have hs0:A.size=c'*3:=by rw [<-H,Array.size_append,Array.size_append,List.size_toArray,T];simp [Builtin.zeroCells,Value.cells];omega
 have M:A.toList.length=c'*3:=by rw [Array.length_toList,hs0]
 have c:A.toList.take (i*3)=(R.take i).flatMap aB.cells:=by rw [<-H,Array.toList_append,Array.toList_append,List.toList_toArray,List.append_assoc,List.take_append_of_le_length bh,List.take_of_length_le bh]
 clear H hold q V hz1 O;have hb1:av (w.drew.alloc (.cells A 47)) ↑w 47 A:=av.new w.drew _ _;have F:Below ↑w w (w.drew.alloc (.cells A 47)):=(Below.bO w 1).trans (Below.aI w.drew _);generalize hw1:w.drew.alloc (.cells A 47)=w1 at*;have hv1:=hv.below F;have W:=hb.below F;have L:=fun(ty:TypeId) (G sc:Nat)=>M8 (w:=w1) (g:=w.heap.size) (gs:=aM) (o:=i*3) (os:=0) hb1 k G 1 sc [x] (by simp only [Nat.min_def,List.length_singleton];split<;>omega) (fun j v hj=>by
  rw [Nat.zero_add,hv1.cell]
  simpa using hj) (by rw [hX,hs0];omega) ty
 have hb2:=hb1.row (A.toList.take (i*3)++ [x].flatMap aB.cells++A.toList.drop (i*3+([x].flatMap aB.cells).length)).toArray;have hk2:aK (fun k=>k=w.heap.size) w1 (w1.setRow ↑w (A.toList.take (i*3)++ [x].flatMap aB.cells++A.toList.drop (i*3+([x].flatMap aB.cells).length)).toArray):=zC _ _ _;have I:=WM (P:=(R.take i).flatMap aB.cells) (X:= [x].flatMap aB.cells) (D:=(R.drop i).flatMap aB.cells) (cur:=A.toList) (a:=i*3) c (by rw [hX,hdl,M];omega);generalize l:A.toList.take (i*3)++ [x].flatMap aB.cells++A.toList.drop (i*3+([x].flatMap aB.cells).length)=E at*;have zD:E.length=c'*3:=by rw [<-l,List.length_append,List.length_append,List.length_take,List.length_drop,hX,M];omega
 clear l;generalize vH:w1.setRow ↑w E.toArray=w2 at*;have hne:¬g=w.heap.size:=Nat.ne_of_lt hb.lt;have Y:av w2 g 47 cur:=W.keeps hk2 hne;have N:Below ↑w w w2:=F.trans (hk2.below (fun g hg=>by(have hg':g=w.heap.size:=hg);omega) F.size);have C:=fun(ty:TypeId) (G sc:Nat)=>M8 (w:=w2.drew) (g:=w.heap.size) (gs:=g) (o:=(i+1)*3) (os:=i*3) hb2.drew (n-i) G (n-i) sc (R.drop i) (by rw [hD];simp only [Nat.min_def];split<;>omega) (fun j v hj=>by rw [Ps bh]at hj;have h:=U _ v hj;rw [hb.cell]at h;rw [Y.drew.cell];exact h) (by rw [hdl,List.size_toArray,zD];omega) ty;rw [List.toList_toArray]at C;have hb3:=hb2.drew.row (E.take ((i+1)*3)++(R.drop i).flatMap aB.cells++E.drop ((i+1)*3+((R.drop i).flatMap aB.cells).length)).toArray;have Q:=zC w2.drew ↑w (E.take ((i+1)*3)++(R.drop i).flatMap aB.cells++E.drop ((i+1)*3+((R.drop i).flatMap aB.cells).length)).toArray;rw [hX,show i*3+3=(i+1)*3 by omega]at I;rw [I]at hb3 Q;replace C:=fun ty G sc=>by have h:=C ty G sc;rw [I]at h;exact h
 generalize d:(R.take i).flatMap aB.cells++ [x].flatMap aB.cells++(R.drop i).flatMap aB.cells++A.toList.drop ((i+1)*3+((R.drop i).flatMap aB.cells).length)=m at*;have Z:Below ↑w w (w2.drew.setRow ↑w m.toArray):=N.drew.trans (Q.below (fun g hg=>by(have hg':g=w.heap.size:=hg);omega) N.size);generalize s:w2.drew.setRow ↑w m.toArray=w3 at*;have p:=af d;have lO:=af hap;have r:=af L;have u:=af C;have y:=af hb3;have f:=af Z;have z:=af (Eq.refl ↑w);have hw:=b;unfold maxLen at hw;have q1:¬(c'=i):=bh;have ic:¬(c'=i+1):=bh;have uD:¬(n=i):=bh;have y1:IntKind.i64.wrap ((n:Int)+1)=(n:Int)+1:=IntWalk.i64_in _ bh;have fI:IntKind.i64.wrap ((i:Int)+1)=(i:Int)+1:=IntWalk.i64_in _ bh;have lF:IntKind.i64.wrap ((n:Int)+1-(i:Int))=(k:Int):=by rw [show(n:Int)+1-(i:Int)=(k:Int)by omega];exact IntWalk.i64_in _ bh
 have fw:(0:Int)<=(i:Int)+1:=bh;have z2:i<=n:=bh;have z3:i<=n+1:=bh;have z4:(i:Int)<=(n:Int)+1:=bh;clear hw1 vH s d hap L C hb3 Z hb1 F hv1 W hb2 hk2 I Y N Q c;go_enter Tryz.func124,Tryz.ntmps124;go_upto_region 9 with(fail);have L:=r.o;go_wp2_with (first
  |(at_builtin;refine Lib.wpList_append_run _ rfl _ _ _ _ rfl _ _ rfl rfl _ _ (lO.o _) ?_))
 clear L;have C:=u.o;refine cP (S:=fun _=>True) True.intro fun hHeld=>?_;refine eX [0,1,2,3,4,5,6,7] ?_;refine dY 8 fun K hK=>?_;go_simp;refine hK.out _ _ ?_;clear hK K C hHeld;go_wp2_with fail;go_ret;refine⟨c',cF,?_,(Below.keeps f.o)⟩;have hlen:(R.take i++ [x]++R.drop i).length=n+1:=by rw [List.length_append,List.length_append,List.length_take,List.length_drop,List.length_singleton,hn];omega
 have hfl:(R.take i++ [x]++R.drop i).flatMap aB.cells=(R.take i).flatMap aB.cells++ [x].flatMap aB.cells++(R.drop i).flatMap aB.cells:=by rw [List.flatMap_append,List.flatMap_append]
 have J:((R.take i).flatMap aB.cells++ [x].flatMap aB.cells++(R.drop i).flatMap aB.cells).length=(n+1)*3:=by rw [<-hfl,mK aB.cells 3 (fun _=>rfl),hlen]
 refine⟨by show((R.take i++ [x]++R.drop i).flatMap aB.cells).length=_;rw [hfl,J,hlen];rfl,.inr ⟨w.heap.size,c',_,by rw [hlen],hB,y.o,by rw [hlen];exact t,b,?_,?_⟩⟩
 ·rw [<-p.o,List.size_toArray,List.length_append,J,List.length_drop,hdl,M];show _=c'*3;omega
 show List.take ((R.take i++ [x]++R.drop i).length*3) _=(R.take i++ [x]++R.drop i).flatMap aB.cells;rw [hlen,hfl,List.toList_toArray,<-p.o,List.take_append_of_le_length (by rw [J];exact Nat.le_refl _),List.take_of_length_le (by rw [J];exact Nat.le_refl _)]
theorem TE {w:World} {g os i m c sc:Nat} {cur:Array Value} (hb:av w g 47 cur) (L:List aB) (hL:L.length=m) (hroom:i+m<=c)
 (hsrc:∀j v,(L.flatMap aB.cells)[j]? =some v->w.cell? ⟨g,os+j,none⟩=some v) (hfit:i*3+(L.flatMap aB.cells).length<=cur.size) (ty:TypeId):
 (Builtin.append_ #[45,45] ty #[.slice ↑g i c,.slice (some ⟨g,os,none⟩) m sc]).run Tryz.prog w= .ok (.slice ↑g (i+m) c) (w.setRow g (cur.toList.take (i*3)++L.flatMap aB.cells++cur.toList.drop (i*3+(L.flatMap aB.cells).length)).toArray):=by
 have hl:=run_loadCells_list (P:=Tryz.prog) w ⟨g,os,none⟩ (L.flatMap aB.cells) (fun j v hj=>by rw [vE];exact hsrc j v hj);have hst:=run_storeCells_at Tryz.prog g (i*3) 47 (L.flatMap aB.cells) 0 cur w hb (by simpa using hfit) (bS.kI L);rw [mK aB.cells 3 (fun _=>rfl),hL]at hl;obtain⟨i0,hi,A,hz1,B⟩:=info_parts IU;have hu:Tryz.prog.underlying 45=some (.slice 47):=Tryz.underlying45;have ha:(⟨g,0,none⟩:Addr).add (i*3)=⟨g,i*3,none⟩:=by rw [vE,Nat.zero_add]
 simp only [Nat.add_zero]at hst;simp [Builtin.append_,run_underlying hu,Builtin.lenOf,Builtin.firstCells,sizeOf,typeInfo,hi,hz1,hroom,hl,ha,hst]
theorem TF {w:World} {g o c:Nat} {cur:Array Value} (hb:av w g 47 cur) (hfit:o+3<=cur.size) (ty:TypeId):
 (Builtin.clear_ #[45] ty #[.slice (some ⟨g,o,none⟩) 1 c]).run Tryz.prog w= .ok (.tuple #[]) (w.setRow g (cur.toList.take o++ [Value.int .i64 0,Value.int .i64 0,Value.int .i64 0]++cur.toList.drop (o+3)).toArray):=by
 obtain⟨i0,hi,D,hz1,E⟩:=info_parts IU;have hu:Tryz.prog.underlying 45=some (.slice 47):=Tryz.underlying45;have hst:=run_storeCells_at Tryz.prog g o 47 [Value.int .i64 0,Value.int .i64 0,Value.int .i64 0] 0 cur w hb (by simpa using hfit) (by intro v hv;simp only [List.mem_cons,List.not_mem_nil,or_false,or_self]at hv;rw [hv];rfl);simp only [Nat.add_zero]at hst;have A:(Builtin.zeroCells (Value.agg #[↑(),↑(),↑()]).cells 1).toList= [Value.int .i64 0,Value.int .i64 0,Value.int .i64 0]:=by simp [Builtin.zeroCells,Value.cells,List.range_succ]
 have B:(zeroValue 47).run Tryz.prog w= .ok (.agg #[↑(),↑(),↑()]) w:=by simp [zeroValue,typeInfo,hi,D]
 have C:(storeCells ⟨g,o,none⟩ [Value.int .i64 0,Value.int .i64 0,Value.int .i64 0]).run Tryz.prog w= .ok () (w.setRow g (cur.toList.take o++ [Value.int .i64 0,Value.int .i64 0,Value.int .i64 0]++cur.toList.drop (o+3)).toArray):=hst;simp only [Builtin.clear_,Sem.run_bind,run_underlying hu,Result.andThen_ok,List.getElem?_toArray,List.getElem?_cons_zero,B,A,C];rfl
theorem Pq {w:World} {B:Nat} {s:Value} {R:List aB} {i:Nat} (h:bS.Row w B s R) (hi:i<R.length) (hl:R.length<=900000):
 Calls Tryz.prog 121 #[s,↑i,↑((i:Int)+1)] w fun e w'=>∃v',e= .returned v'∧bS.Row w' B v' (R.eraseIdx i)∧aK (fun g=>s.ownBlock=some g) w w'∧v'.ownBlock=s.ownBlock:=by
 rcases h.2 with⟨hs,h0⟩|⟨g,c,cur,hs,Z,hb0,hnc,O,hcs,M⟩
 ·omega
 subst hs;have hb:av w g 47 cur:=hb0;obtain⟨n,hn⟩:=ai R.length;have hc:cur.size=c*3:=hcs;have ht:cur.toList.take (n*3)=R.flatMap aB.cells:=by rw [<-hn];exact M
 rw [hn]at hi hl hnc;have hcl:cur.toList.length=c*3:=by rw [Array.length_toList,hc]
 have hdl:=Pr R (i+1);rw [hn]at hdl;have hD:(R.drop (i+1)).length=n-(i+1):=by rw [List.length_drop,hn]
 have J:∀(j:Nat) (v:Value),(R.flatMap aB.cells)[j]? =some v->w.cell? ↑(g,j)=some v:=by
  intro j v hj;rw [hb.cell,<-Array.getElem?_toList];rw [<-ht,List.getElem?_take]at hj;split at hj
  ·exact hj
  cases hj
 have hap:=fun(ty:TypeId) (os sc:Nat) (hos:os=(i+1)*3∨n=i+1)=>TE (w:=w.drew) (g:=g) (os:=os) (i:=i) (m:=n-(i+1)) (c:=c) (sc:=sc) hb.drew (R.drop (i+1)) hD bh (fun j v hj=>by
  rcases hos with rfl|hos
  ·rw [Ps bh]at hj;exact J _ v hj
  have h1:=dM hj;rw [hdl]at h1;omega) (by rw [hdl,hc];omega) ty
 have hb1:=hb.drew.row (cur.toList.take (i*3)++(R.drop (i+1)).flatMap aB.cells++cur.toList.drop (i*3+((R.drop (i+1)).flatMap aB.cells).length)).toArray;have L:aK (fun k=>k=g) w (w.drew.setRow g (cur.toList.take (i*3)++(R.drop (i+1)).flatMap aB.cells++cur.toList.drop (i*3+((R.drop (i+1)).flatMap aB.cells).length)).toArray):=(Below.keeps (Below.bO w 1)).trans (zC _ _ _);have hP:cur.toList.take (i*3)=(R.take i).flatMap aB.cells:=by rw [<-Pt bh,<-ht,List.take_take,Nat.min_eq_left bh]
 rw [show i+(n-(i+1))=n-1 by omega]at hap;generalize H:cur.toList.take (i*3)++(R.drop (i+1)).flatMap aB.cells++cur.toList.drop (i*3+((R.drop (i+1)).flatMap aB.cells).length)=A at*;have T:A.length=c*3:=by rw [<-H,List.length_append,List.length_append,List.length_take,List.length_drop,hdl,hcl];omega
 have C:((R.take i).flatMap aB.cells++(R.drop (i+1)).flatMap aB.cells).length=(n-1)*3:=by rw [List.length_append,mK aB.cells 3 (fun _=>rfl),List.length_take,hdl,hn];omega
 have N:A.take ((n-1)*3)=(R.take i).flatMap aB.cells++(R.drop (i+1)).flatMap aB.cells:=by rw [<-H,hP,List.take_append_of_le_length (by rw [C];exact Nat.le_refl _),List.take_of_length_le (by rw [C];exact Nat.le_refl _)]
 generalize hw1:w.drew.setRow g A.toArray=w1 at*;have D:=fun(ty:TypeId) (sc:Nat)=>TF (w:=w1) (g:=g) (o:=(n-1)*3) (c:=sc) hb1 (by rw [List.size_toArray,T];omega) ty;rw [List.toList_toArray]at D;have hb2:=hb1.row (A.take ((n-1)*3)++ [Value.int .i64 0,Value.int .i64 0,Value.int .i64 0]++A.drop ((n-1)*3+3)).toArray;have hk2:=L.trans (zC w1 g (A.take ((n-1)*3)++ [Value.int .i64 0,Value.int .i64 0,Value.int .i64 0]++A.drop ((n-1)*3+3)).toArray);generalize G:A.take ((n-1)*3)++ [Value.int .i64 0,Value.int .i64 0,Value.int .i64 0]++A.drop ((n-1)*3+3)=I at*;have E:I.length=c*3:=by rw [<-G,List.length_append,List.length_append,List.length_take,List.length_drop,T];simp;omega
 have Q:I.take ((n-1)*3)=(R.take i).flatMap aB.cells++(R.drop (i+1)).flatMap aB.cells:=by rw [<-G,N,List.append_assoc,List.take_append_of_le_length (by rw [C];exact Nat.le_refl _),List.take_of_length_le (by rw [C];exact Nat.le_refl _)]
 generalize b:w1.setRow g I.toArray=w2 at*;have W:=af hap;have V:=af D;have U:=af hb2;have Y:=af hk2;have X:=af Q;have HN:=af hn;unfold maxLen at O;have q1:¬(c=n-1):=bh;have r:(0:Int)<=(i:Int)+1:=bh;have z2:i<=n:=bh;have z3:i<=c:=bh;have z4:i+1<=n:=bh;have z5:(i:Int)+1<=(n:Int):=bh;have l:(i:Int)<=(i:Int)+1:=bh;have p:n-1<=n:=bh;have d:n<=c:=hnc;have z9:n-(n-1)=1:=bh;have y1:((i:Int)==(i:Int)+1)=false:=by rw [beq_eq_false_iff_ne];omega
 obtain⟨os,hos,q⟩:∃os,(os=(i+1)*3∨n=i+1)∧(if c=i+1 then some (⟨g,0,none⟩:Addr)else some ⟨g,(i+1)*3,none⟩)=some ⟨g,os,none⟩:=by
  by_cases P:c=i+1
  ·exact⟨0,.inr bh,if_pos P⟩
  exact⟨(i+1)*3,.inl rfl,if_neg P⟩
 have F:=af hos;clear hos;clear h hb0 hb hcs M hc ht J hap D hb1 hb2 L hk2 hP H G N Q hw1 b hdl hD hcl C hn;rw [HN.o];go_enter Tryz.func121,Tryz.ntmps121;go_wp2_with fail;refine cP (S:=fun _=>True) True.intro fun hHeld=>?_;refine eX [0,1,2,3,4,5] ?_;refine aU 6 fun K hK=>?_;refine step_eq dn (.tmp 22) (.tmp 25) 45 45 dn _ _ dn dn (W.o _ _ _ F.o) ?_;refine hK.out _ _ True.intro (fun hHeld=>?_);clear hK K;refine dY 7 fun K hK=>?_;go_simp;refine hK.out _ _ ?_;clear hK K hHeld;have D:=V.o;go_wp2_with fail;go_ret;have hlen:(R.eraseIdx i).length=n-1:=by rw [List.length_eraseIdx,HN.o,if_pos hi]
 have hfl:(R.eraseIdx i).flatMap aB.cells=(R.take i).flatMap aB.cells++(R.drop (i+1)).flatMap aB.cells:=by rw [List.eraseIdx_eq_take_drop_succ,List.flatMap_append]
 refine⟨_,rfl,⟨by rw [hlen];show((R.eraseIdx i).flatMap aB.cells).length=(n-1)*3;rw [mK aB.cells 3 (fun _=>rfl),hlen],.inr ⟨g,c,_,by rw [hlen];rfl,Z,U.o,by rw [hlen];omega,by unfold maxLen;exact O,?_,?_⟩⟩,Y.o.more (fun k hk=>by rw [hk];rfl),rfl⟩
 ·rw [List.size_toArray,E];rfl
 show List.take ((R.eraseIdx i).length*3) _=(R.eraseIdx i).flatMap aB.cells;rw [hlen,hfl,List.toList_toArray,X.o]
end Go.Proofs.YtmaijkoopjocdaaGreat
