import Derived.Test.YtmaijkoopjocdaaGreatKT06
set_option maxRecDepth 100000
set_option maxHeartbeats 64000000
namespace Go.Proofs.YtmaijkoopjocdaaGreat
open Go.RowKit
theorem OS:(Tryz.prog.info? 86).map (fun i=>(i.zero,i.size,i.bytes))=some (some (.agg #[.int .i64 0,.int .i64 0,.int .i64 0,.int .i64 0,.int .i64 0,.int .i64 0,.bool false]),7,56):=gb.info
theorem Li {w:World} {g gs o os:Nat} {cur:Array Value} (hb:aj w g 86 cur) (pY jo sn sc:Nat) (L:List aB) (hn:L.length=Nat.min sn pY)
 (hsrc:∀j v,(L.flatMap aB.cells)[j]? =some v→w.cell? ⟨gs,os+j,none⟩=some v) (hfit:o+(L.flatMap aB.cells).length≤cur.size) (ty:TypeId):
 (Builtin.copy_ #[82,82] ty #[.slice (some ⟨g,o,none⟩) pY jo,.slice (some ⟨gs,os,none⟩) sn sc]).run Tryz.prog w= .ok (.int .i64 L.length) (w.setRow g (cur.toList.take o++L.flatMap aB.cells++cur.toList.drop (o+(L.flatMap aB.cells).length)).toArray):=by
 have hl:=run_loadCells_list (P:=Tryz.prog) w ⟨gs,os,none⟩ (L.flatMap aB.cells) (fun j v hj=>by rw [tE];exact hsrc j v hj);have hst:=run_storeCells_at Tryz.prog g o 86 (L.flatMap aB.cells) 0 cur w hb (by simpa using hfit) (gb.jL L);rw [lQ aB.cells 7 (fun _=>rfl)]at hl;obtain⟨i0,hi,cQ,hz1,dG⟩:=info_parts OS;have hu:Tryz.prog.underlying 82=some (.slice 86):=Tryz.underlying82;simp only [Nat.add_zero]at hst;simp [Builtin.copy_,run_underlying hu,Builtin.lenOf,Builtin.firstCells,sizeOf,typeInfo,hi,hz1,←hn,hl,hst,goInt]
theorem UZ {w:World} {aG g:Nat} {xs cur:Array Value} (hv:aj w aG 86 xs) (hg:aj w g 86 cur) (hne:aG≠g) (h0:cur.size≠0) (o vn vc ln lc:Nat):
 (callFunc 85 #[.slice (some ⟨aG,0,none⟩) vn vc,.slice (some ⟨g,o,none⟩) ln lc]).run Tryz.prog w= .ok (.value (.bool false)) w:=by
 obtain⟨i0,hi,cQ,hz1,dG⟩:=info_parts OS;have hz:∀w:World,(Go.sizeOf 86).run Tryz.prog w= .ok 7 w:=fun w=>by simp [sizeOf,typeInfo,hi,hz1]
 rw [run_callFunc_extern Tryz.func85 (by kernel_rfl) (by kernel_rfl) (by kernel_rfl) (e:=Extern.SlicesOverlaps.overlaps #[82,82] #[4]) (by kernel_rfl),
  Lib.run_overlaps_apart w 82 4 86 Tryz.underlying82 7 hz ⟨aG,0,none⟩ ⟨g,o,none⟩ vn vc ln lc hne 86 86 xs.size cur.size ?_ ?_ h0 (hv.frozen 0) (hv.frozen _)]
 ·rfl
 ·have dl:w.heap[aG]? =some (.cells xs 86 (0,0)):=hv
  simp [World.shape?,dl]
 ·have hg':w.heap[g]? =some (.cells cur 86 (0,0)):=hg
  simp [World.shape?,hg']
theorem U0 {R:List aB} {i:Nat} (hi:i≤R.length):(R.flatMap aB.cells).take (i*7)=(R.take i).flatMap aB.cells:=by
 have e:R=R.take i++R.drop i:=(List.take_append_drop i R).symm;have hl:((R.take i).flatMap aB.cells).length=i*7:=by rw [lQ aB.cells 7 (fun _=>rfl),List.length_take,Nat.min_eq_left hi]
 conv=>lhs;rw [e,List.flatMap_append]
 rw [List.take_append_of_le_length (by omega),List.take_of_length_le (by omega)]
theorem U1 (R:List aB) (i:Nat):((R.drop i).flatMap aB.cells).length=(R.length-i)*7:=by rw [lQ aB.cells 7 (fun _=>rfl),List.length_drop]
theorem U2 {R:List aB} {i:Nat} (hi:i≤R.length) (j:Nat):((R.drop i).flatMap aB.cells)[j]? =(R.flatMap aB.cells)[i*7+j]? :=by
 have e:R=R.take i++R.drop i:=(List.take_append_drop i R).symm;have hl:((R.take i).flatMap aB.cells).length=i*7:=by rw [lQ aB.cells 7 (fun _=>rfl),List.length_take,Nat.min_eq_left hi]
 conv=>rhs;rw [e,List.flatMap_append]
 rw [List.getElem?_append_right (by omega),hl,Nat.add_sub_cancel_left]
theorem acz {w:World} {B g aG n c i:Nat} {cur:Array Value} {R:List aB} {x:aB} (hb:aj w g 86 cur) (hn:R.length=n) (hc:cur.size=c*7) (ht:cur.toList.take (n*7)=R.flatMap aB.cells) (tF:B≤g) (iK:c≤maxLen)
 (hi:i<n) (hroom:n+1≤c) (hv:aj w aG 86 x.cells.toArray) (hne:aG≠g) (hl:n≤900000):
 Calls Tryz.prog 41 #[.slice (some ⟨g,0,none⟩) n c,.int .i64 i,.slice (some ⟨aG,0,none⟩) 1 1] w fun e w'=>e= .returned (.slice (some ⟨g,0,none⟩) (n+1) c)∧gb.Row w' B (.slice (some ⟨g,0,none⟩) (n+1) c) (R.take i++ [x]++R.drop i)∧aD (fun k=>k=g) w w':=by
 have hcl:cur.toList.length=c*7:=by rw [Array.length_toList,hc]
 have hdl:=U1 R i;rw [hn]at hdl;have hX:([x].flatMap aB.cells).length=7:=rfl;have hD:(R.drop i).length=n-i:=by rw [List.length_drop,hn]
 have HU:cur.size≠0:=by omega
 have hov:=fun(o vn vc ln lc:Nat)=>UZ hv.drew hb.drew hne HU o vn vc ln lc;have HV:=fun(o vn vc ln lc:Nat)=>UZ hv hb hne HU o vn vc ln lc
 have hget:∀j v,((R.drop i).flatMap aB.cells)[j]? =some v→w.cell? ⟨g,i*7+j,none⟩=some v:=by
  intro j v hj;rw [hb.cell,←Array.getElem?_toList];rw [U2 (by omega),←ht,List.getElem?_take]at hj;split at hj
  ·exact hj
  ·cases hj
 have zl:=fun(ty:TypeId) (jo sc:Nat)=>Li (w:=w.drew) (g:=g) (gs:=g) (o:=(i+1)*7) (os:=i*7) hb.drew (n-i) jo (n+1-i) sc (R.drop i) (by rw [hD];simp only [Nat.min_def];split<;>omega) hget (by rw [hdl];omega) ty;have hb1:aj (w.drew.setRow g (cur.toList.take ((i+1)*7)++(R.drop i).flatMap aB.cells++cur.toList.drop ((i+1)*7+((R.drop i).flatMap aB.cells).length)).toArray) g 86 (cur.toList.take ((i+1)*7)++(R.drop i).flatMap aB.cells++cur.toList.drop ((i+1)*7+((R.drop i).flatMap aB.cells).length)).toArray:=hb.drew.row _;have cJ:aD (fun k=>k=g) w (w.drew.setRow g (cur.toList.take ((i+1)*7)++(R.drop i).flatMap aB.cells++cur.toList.drop ((i+1)*7+((R.drop i).flatMap aB.cells).length)).toArray):=(Below.keeps (Below.bT w 1)).trans (xS _ _ _)
 have hN:=UW (P:=(R.take i).flatMap aB.cells) (X:= [x].flatMap aB.cells) (D:=(R.drop i).flatMap aB.cells) (cur:=cur.toList) (a:=i*7) (by
  rw [←U0 (by omega),←ht,List.take_take,Nat.min_eq_left (by omega)]) (by rw [hX,hdl,hcl];omega)
 rw [hX,show i*7+7=(i+1)*7 by omega]at hN;generalize rF:cur.toList.take ((i+1)*7)++(R.drop i).flatMap aB.cells++cur.toList.drop ((i+1)*7+((R.drop i).flatMap aB.cells).length)=hJ at*
 have xT:hJ.length=c*7:=by
  rw [←rF,List.length_append,List.length_append,List.length_take,List.length_drop,hdl,hcl];omega
 clear rF;generalize hw1:w.drew.setRow g hJ.toArray=w1 at*;have hv1:aj w1 aG 86 x.cells.toArray:=hv.keeps cJ hne
 have mY:=fun(ty:TypeId) (jo sc:Nat)=>Li (w:=w1) (g:=g) (gs:=aG) (o:=i*7) (os:=0) hb1 (n+1-i) jo 1 sc [x] (by simp only [Nat.min_def,List.length_singleton];split<;>omega) (fun j v hj=>by
  rw [Nat.zero_add,hv1.cell]
  simpa using hj) (by rw [hX,List.size_toArray,xT];omega) ty
 rw [List.toList_toArray]at mY;have hb2:=hb1.row (hJ.take (i*7)++ [x].flatMap aB.cells++hJ.drop (i*7+([x].flatMap aB.cells).length)).toArray;have hk2:=cJ.trans (xS w1 g (hJ.take (i*7)++ [x].flatMap aB.cells++hJ.drop (i*7+([x].flatMap aB.cells).length)).toArray);have e2:i*7+([x].flatMap aB.cells).length=(i+1)*7:=by rw [hX];omega
 rw [e2,hN]at hb2 hk2
 replace mY:=fun ty jo sc=>by
  have h:=mY ty jo sc;rw [e2,hN]at h;exact h
 generalize rG:(R.take i).flatMap aB.cells++ [x].flatMap aB.cells++(R.drop i).flatMap aB.cells++cur.toList.drop ((i+1)*7+((R.drop i).flatMap aB.cells).length)=tG at*;generalize tH:w1.setRow g tG.toArray=w2 at*;have wF:=af rG;have OL:=af zl;have CS:=af mY;have aT:=af hb2;have rH:=af hk2;have OM:=af HV;have hw:=iK;unfold maxLen at hw;have q1:¬(c=i):=by omega
 have e5:¬(c=i+1):=by omega
 have y1:IntKind.i64.wrap ((n:Int)+1)=(n:Int)+1:=IntWalk.i64_in _ (by omega);have dw:IntKind.i64.wrap ((i:Int)+1)=(i:Int)+1:=IntWalk.i64_in _ (by omega);have dM:(0:Int)≤(i:Int)+1:=by omega
 have z2:i≤n:=by omega
 have z3:i≤n+1:=by omega
 have z4:(i:Int)≤(n:Int)+1:=by omega
 clear tH rG zl mY hb2 hk2 hov HV hb1 cJ hv1 hget hN;have OO:=OM.out;go_enter Tryz.func41,Tryz.ntmps41
 go_wp2_with (simp only [OO])
 have zl:=OL.out;refine cF (S:=fun _=>True) (by kernel_rfl) True.intro (fun hHeld=>?_);refine ai 0 ?_;refine ai 1 ?_;refine ai 2 ?_;refine ai 3 ?_;refine ai 4 ?_;refine ai 5 ?_;refine ai 6 ?_;refine ai 7 ?_;refine cO 8 fun K hK=>?_;go_simp;refine hK.out _ _ ?_;clear hK K zl hHeld;have mY:=CS.out;go_wp2_with fail
 go_ret;refine⟨by trivial,?_,rH.out⟩
 have hlen:(R.take i++ [x]++R.drop i).length=n+1:=by
  rw [List.length_append,List.length_append,List.length_take,List.length_drop,List.length_singleton,hn];omega
 have hfl:(R.take i++ [x]++R.drop i).flatMap aB.cells=(R.take i).flatMap aB.cells++ [x].flatMap aB.cells++(R.drop i).flatMap aB.cells:=by rw [List.flatMap_append,List.flatMap_append]
 have lN:((R.take i).flatMap aB.cells++ [x].flatMap aB.cells++(R.drop i).flatMap aB.cells).length=(n+1)*7:=by
  rw [←hfl,lQ aB.cells 7 (fun _=>rfl),hlen]
 refine⟨by show((R.take i++ [x]++R.drop i).flatMap aB.cells).length=_;rw [hfl,lN,hlen];rfl,.inr ⟨g,c,_,by rw [hlen],tF,aT.out,by rw [hlen];exact hroom,iK,?_,?_⟩⟩
 ·rw [←wF.out,List.size_toArray,List.length_append,lN,List.length_drop,hdl,hcl]
  show _=c*7;omega
 ·show List.take ((R.take i++ [x]++R.drop i).length*7) _=(R.take i++ [x]++R.drop i).flatMap aB.cells
  rw [hlen,hfl,List.toList_toArray,←wF.out,List.take_append_of_le_length (by rw [lN];exact Nat.le_refl _),List.take_of_length_le (by rw [lN];exact Nat.le_refl _)]
theorem acA {w:World} {B g aG n i:Nat} {cur:Array Value} {R:List aB} {x:aB} (hb:aj w g 86 cur) (hn:R.length=n) (hc:cur.size=n*7) (ht:cur.toList.take (n*7)=R.flatMap aB.cells) (hB:B≤w.heap.size)
 (hi:i<n) (hv:aj w aG 86 x.cells.toArray) (hl:n≤900000):
 Calls Tryz.prog 41 #[.slice (some ⟨g,0,none⟩) n n,.int .i64 i,.slice (some ⟨aG,0,none⟩) 1 1] w fun e w'=>∃c',e= .returned (.slice (some ⟨w.heap.size,0,none⟩) (n+1) c')∧gb.Row w' B (.slice (some ⟨w.heap.size,0,none⟩) (n+1) c') (R.take i++ [x]++R.drop i)∧aD (fun _=>False) w w':=by
 have hcl:cur.toList.length=n*7:=by rw [Array.length_toList,hc]
 have hdl:=U1 R i;rw [hn]at hdl;have hX:([x].flatMap aB.cells).length=7:=rfl;have hD:(R.drop i).length=n-i:=by rw [List.length_drop,hn]
 have A4:((R.take i).flatMap aB.cells).length=i*7:=by rw [lQ aB.cells 7 (fun _=>rfl),List.length_take];omega
 have Ay:∀(j:Nat) (v:Value),(R.flatMap aB.cells)[j]? =some v→w.cell? ⟨g,j,none⟩=some v:=by
  intro j v hj;rw [hb.cell,←Array.getElem?_toList];rw [←ht,List.getElem?_take]at hj;split at hj
  ·exact hj
  ·cases hj
 obtain⟨i0,ya,cQ,hz1,dG⟩:=info_parts OS;obtain⟨k,hk⟩:∃k:Nat,n+1-i=k:=⟨_,rfl⟩;have hik:i+k=n+1:=by omega
 have hold:(Builtin.firstCells i0.size i (.slice (some ⟨g,0,none⟩) i n)).run Tryz.prog w.drew= .ok ((R.take i).flatMap aB.cells).toArray w.drew:=by
  have h:=run_loadCells_list (P:=Tryz.prog) w.drew ⟨g,0,none⟩ ((R.take i).flatMap aB.cells) (fun j v hj=>by
   rw [tE,Nat.zero_add];have hj2:j<i*7:=by have:=dc hj;omega
   rw [←U0 (by omega),List.getElem?_take,if_pos hj2]at hj;exact Ay j v hj)
  rw [A4]at h;rw [hz1]
  simpa [Builtin.firstCells]using h
 have hap:=fun ty=>Lib.run_append_grow_zeros (P:=Tryz.prog) w 82 3 ty 86 i0 _ .i64 .i64 Tryz.underlying82 Tryz.underlying3 ya cQ (some ⟨g,0,none⟩) i n ((R.take i).flatMap aB.cells) hold k (by omega) (by rw [hz1];omega) (by omega) (by omega) (by rw [dG];omega) (by rw [dG,hik];exact growslice_fits (by omega) (by omega));rw [hik]at hap;have OP:=grownCap_ge w (n+1) n 86;have iK:=grownCap_le_maxLen w (n+1) n 86 (by unfold maxLen;omega);generalize grownCap w (n+1) n 86=c' at*;obtain⟨iD,zm⟩:∃iD,((R.take i).flatMap aB.cells).toArray++Builtin.zeroCells (Value.agg #[.int .i64 0,.int .i64 0,.int .i64 0,.int .i64 0,.int .i64 0,.int .i64 0,.bool false]).cells k++Builtin.zeroCells (Value.agg #[.int .i64 0,.int .i64 0,.int .i64 0,.int .i64 0,.int .i64 0,.int .i64 0,.bool false]).cells (c'-(n+1))=iD:=⟨_,rfl⟩;rw [zm]at hap
 have hs0:iD.size=c'*7:=by
  rw [←zm,Array.size_append,Array.size_append,List.size_toArray,A4];simp [Builtin.zeroCells,Value.cells];omega
 have CT:iD.toList.length=c'*7:=by rw [Array.length_toList,hs0]
 have ju:iD.toList.take (i*7)=(R.take i).flatMap aB.cells:=by
  rw [←zm,Array.toList_append,Array.toList_append,List.toList_toArray,List.append_assoc,List.take_append_of_le_length (by omega),List.take_of_length_le (by omega)]
 clear zm hold ya cQ hz1 dG;have hb1:aj (w.drew.alloc (.cells iD 86)) w.heap.size 86 iD:=aj.new w.drew _ _;have cJ:Below w.heap.size w (w.drew.alloc (.cells iD 86)):=(Below.bT w 1).trans (Below.aA w.drew _);generalize hw1:w.drew.alloc (.cells iD 86)=w1 at*;have hv1:=hv.below cJ;have dz:=hb.below cJ
 have mY:=fun(ty:TypeId) (jo sc:Nat)=>Li (w:=w1) (g:=w.heap.size) (gs:=aG) (o:=i*7) (os:=0) hb1 k jo 1 sc [x] (by simp only [Nat.min_def,List.length_singleton];split<;>omega) (fun j v hj=>by
  rw [Nat.zero_add,hv1.cell]
  simpa using hj) (by rw [hX,hs0];omega) ty
 have hb2:=hb1.row (iD.toList.take (i*7)++ [x].flatMap aB.cells++iD.toList.drop (i*7+([x].flatMap aB.cells).length)).toArray;have hk2:aD (fun k=>k=w.heap.size) w1 (w1.setRow w.heap.size (iD.toList.take (i*7)++ [x].flatMap aB.cells++iD.toList.drop (i*7+([x].flatMap aB.cells).length)).toArray):=xS _ _ _;have hN:=UX (P:=(R.take i).flatMap aB.cells) (X:= [x].flatMap aB.cells) (D:=(R.drop i).flatMap aB.cells) (cur:=iD.toList) (a:=i*7) ju (by rw [hX,hdl,CT];omega);generalize rF:iD.toList.take (i*7)++ [x].flatMap aB.cells++iD.toList.drop (i*7+([x].flatMap aB.cells).length)=hJ at*
 have xT:hJ.length=c'*7:=by
  rw [←rF,List.length_append,List.length_append,List.length_take,List.length_drop,hX,CT];omega
 clear rF;generalize tH:w1.setRow w.heap.size hJ.toArray=w2 at*;have hne:¬g=w.heap.size:=Nat.ne_of_lt hb.lt;have e4:aj w2 g 86 cur:=dz.keeps hk2 hne;have CU:Below w.heap.size w w2:=cJ.trans (hk2.below (fun g hg=>by(have hg':g=w.heap.size:=hg);omega) cJ.size)
 have rO:=fun(ty:TypeId) (jo sc:Nat)=>Li (w:=w2.drew) (g:=w.heap.size) (gs:=g) (o:=(i+1)*7) (os:=i*7) hb2.drew (n-i) jo (n-i) sc (R.drop i) (by rw [hD];simp only [Nat.min_def];split<;>omega) (fun j v hj=>by
  rw [U2 (by omega)]at hj;have h:=Ay _ v hj;rw [hb.cell]at h;rw [e4.drew.cell];exact h) (by rw [hdl,List.size_toArray,xT];omega) ty
 rw [List.toList_toArray]at rO;have hb3:=hb2.drew.row (hJ.take ((i+1)*7)++(R.drop i).flatMap aB.cells++hJ.drop ((i+1)*7+((R.drop i).flatMap aB.cells).length)).toArray;have nI:=xS w2.drew w.heap.size (hJ.take ((i+1)*7)++(R.drop i).flatMap aB.cells++hJ.drop ((i+1)*7+((R.drop i).flatMap aB.cells).length)).toArray;rw [hX,show i*7+7=(i+1)*7 by omega]at hN;rw [hN]at hb3 nI
 replace rO:=fun ty jo sc=>by
  have h:=rO ty jo sc;rw [hN]at h;exact h
 generalize rG:(R.take i).flatMap aB.cells++ [x].flatMap aB.cells++(R.drop i).flatMap aB.cells++iD.toList.drop ((i+1)*7+((R.drop i).flatMap aB.cells).length)=tG at*;have iX:Below w.heap.size w (w2.drew.setRow w.heap.size tG.toArray):=CU.drew.trans (nI.below (fun g hg=>by(have hg':g=w.heap.size:=hg);omega) CU.size);generalize HW:w2.drew.setRow w.heap.size tG.toArray=w3 at*;have wF:=af rG;have kR:=af hap;have CS:=af mY;have OQ:=af rO;have aN:=af hb3;have c7:=af iX;have acB:=af (Eq.refl w.heap.size);have hw:=iK;unfold maxLen at hw;have q1:¬(c'=i):=by omega
 have e5:¬(c'=i+1):=by omega
 have um:¬(n=i):=by omega
 have y1:IntKind.i64.wrap ((n:Int)+1)=(n:Int)+1:=IntWalk.i64_in _ (by omega);have dw:IntKind.i64.wrap ((i:Int)+1)=(i:Int)+1:=IntWalk.i64_in _ (by omega);have mV:IntKind.i64.wrap ((n:Int)+1-(i:Int))=(k:Int):=by rw [show(n:Int)+1-(i:Int)=(k:Int)by omega];exact IntWalk.i64_in _ (by omega)
 have dM:(0:Int)≤(i:Int)+1:=by omega
 have z2:i≤n:=by omega
 have z3:i≤n+1:=by omega
 have z4:(i:Int)≤(n:Int)+1:=by omega
 clear hw1 tH HW rG hap mY rO hb3 iX hb1 cJ hv1 dz hb2 hk2 hN e4 CU nI ju;go_enter Tryz.func41,Tryz.ntmps41
 go_upto_region 9 with(fail)
 have mY:=CS.out
 go_wp2_with (first
  |(at_builtin;refine Lib.wpList_append_run _ rfl _ _ _ _ rfl _ _ rfl rfl _ _ (kR.out _) ?_))
 clear mY;have rO:=OQ.out;refine cF (S:=fun _=>True) (by kernel_rfl) True.intro (fun hHeld=>?_);refine ai 0 ?_;refine ai 1 ?_;refine ai 2 ?_;refine ai 3 ?_;refine ai 4 ?_;refine ai 5 ?_;refine ai 6 ?_;refine ai 7 ?_;refine cO 8 fun K hK=>?_;go_simp;refine hK.out _ _ ?_;clear hK K rO hHeld;go_wp2_with fail
 go_ret;refine⟨c',by trivial,?_,(Below.keeps c7.out)⟩
 have hlen:(R.take i++ [x]++R.drop i).length=n+1:=by
  rw [List.length_append,List.length_append,List.length_take,List.length_drop,List.length_singleton,hn];omega
 have hfl:(R.take i++ [x]++R.drop i).flatMap aB.cells=(R.take i).flatMap aB.cells++ [x].flatMap aB.cells++(R.drop i).flatMap aB.cells:=by rw [List.flatMap_append,List.flatMap_append]
 have lN:((R.take i).flatMap aB.cells++ [x].flatMap aB.cells++(R.drop i).flatMap aB.cells).length=(n+1)*7:=by
  rw [←hfl,lQ aB.cells 7 (fun _=>rfl),hlen]
 refine⟨by show((R.take i++ [x]++R.drop i).flatMap aB.cells).length=_;rw [hfl,lN,hlen];rfl,.inr ⟨w.heap.size,c',_,by rw [hlen],hB,aN.out,by rw [hlen];exact OP,iK,?_,?_⟩⟩
 ·rw [←wF.out,List.size_toArray,List.length_append,lN,List.length_drop,hdl,CT]
  show _=c'*7;omega
 ·show List.take ((R.take i++ [x]++R.drop i).length*7) _=(R.take i++ [x]++R.drop i).flatMap aB.cells
  rw [hlen,hfl,List.toList_toArray,←wF.out,List.take_append_of_le_length (by rw [lN];exact Nat.le_refl _),List.take_of_length_le (by rw [lN];exact Nat.le_refl _)]
theorem acw {w:World} {B aG:Nat} {s:Value} {R:List aB} {x:aB} (h:gb.Row w B s R) (hv:aj w aG 86 x.cells.toArray) (hB:B≤w.heap.size) (hl:R.length≤900000):
 Calls Tryz.prog 41 #[s,.int .i64 R.length,.slice (some ⟨aG,0,none⟩) 1 1] w fun e w'=>∃v',e= .returned v'∧gb.Row w' B v' (R++ [x])∧aD (fun g=>s.ownBlock=some g) w w'∧(v'.ownBlock=s.ownBlock∨v'.ownBlock=some w.heap.size):=by
 have dL:=af h;have dm:=af hv;rcases h.2 with⟨hs,h0⟩|⟨g,c,cur,hs,tF,hb,hnc,iK,hcs,jh⟩
 ·subst hs
  rw [h0];clear h hv;go_enter Tryz.func41,Tryz.ntmps41
  go_wp2_with (first
   |(at_builtin;go_loud (refine gb.push rfl (.tmp 23) (.tmp 24) rfl B (.slice none 0 0) R rfl dL.out aG x rfl dm.out.lt dm.out.fU (by omega) hB ?_)))
  intro v' aK bO cB ez;have cM:=af bO;have cv:=af (fe cB);have e6:=af ez;clear bO cB ez;go_wp2_with fail
  go_ret;exact⟨_,rfl,cM.out,cv.out.more (fun k hk=>hk.symm▸rfl),e6.out⟩
 ·subst hs
  unfold maxLen at iK;have q1:R.length≤c:=hnc;obtain⟨n,hn⟩:∃n,R.length=n:=⟨_,rfl⟩;rw [hn]at q1 hl⊢;have HN:=af hn;replace dL:Hid (gb.Row w B (.slice (some ⟨g,0,none⟩) n c) R):=af (by rw [←hn];exact dL.out);clear h hv tF hb hnc hcs jh hn;go_enter Tryz.func41,Tryz.ntmps41
  go_wp2_with (first
   |(at_builtin;go_loud (refine gb.push rfl (.tmp 23) (.tmp 24) rfl B (.slice (some ⟨g,0,none⟩) n c) R rfl dL.out aG x rfl dm.out.lt dm.out.fU (by rw [HN.out];omega) hB ?_)))
  all_goals (
   intro v' aK bO cB ez;have cM:=af bO;have cv:=af (fe cB);have e6:=af ez;clear bO cB ez;go_wp2_with fail
   go_ret;exact⟨_,rfl,cM.out,cv.out,e6.out⟩)
theorem acy {w:World} {B aG:Nat} {s:Value} {R:List aB} {x:aB} {i:Nat} (h:gb.Row w B s R) (hi:i≤R.length) (hv:aj w aG 86 x.cells.toArray) (hne:s.ownBlock≠some aG) (hB:B≤w.heap.size) (hl:R.length≤900000):
 Calls Tryz.prog 41 #[s,.int .i64 i,.slice (some ⟨aG,0,none⟩) 1 1] w fun e w'=>∃v',e= .returned v'∧gb.Row w' B v' (R.take i++ [x]++R.drop i)∧aD (fun g=>s.ownBlock=some g) w w'∧(v'.ownBlock=s.ownBlock∨v'.ownBlock=some w.heap.size):=by
 by_cases hin:i=R.length
 ·subst hin
  refine(acw h hv hB hl).mono ?_;rintro e w' ⟨v',h1,h2,h3,h4⟩;exact⟨v',h1,by rw [List.take_length,List.drop_length,List.append_nil];exact h2,h3,h4⟩
 ·have HT:i<R.length:=by omega
  rcases h.2 with⟨hs,h0⟩|⟨g,c,cur,hs,tF,hb,hnc,iK,hcs,jh⟩
  ·omega
  ·subst hs
   have eZ:aG≠g:=by rintro rfl;exact hne rfl
   by_cases hroom:R.length+1≤c
   ·refine(acz hb rfl hcs jh tF iK HT hroom hv eZ hl).mono ?_
    rintro e w' ⟨h1,h2,h3⟩;exact⟨_,h1,h2,h3.more fun k hk=>by rw [hk];rfl,.inl rfl⟩
   ·obtain rfl:c=R.length:=by omega
    refine(acA hb rfl hcs jh hB HT hv hl).mono ?_;rintro e w' ⟨c',h1,h2,h3⟩;exact⟨_,h1,h2,h3.more fun _ h=>h.elim,.inr rfl⟩
end Go.Proofs.YtmaijkoopjocdaaGreat
namespace Go.Proofs.YtmaijkoopjocdaaGreat
open Go.RowKit Go.Lib
theorem Ke {w:World} {v:Value} {L:List Int} (h:e9.e8 w v L) (hl:L.length≤900000) (n:Int):
 Calls Tryz.prog 46 #[v,.int .i64 n] w fun e w'=>∃v',e= .returned v'∧e9.Row w' w.heap.size v' (L++ [n % 256])∧Below w.heap.size w w':=by
 obtain⟨a,c,rfl,ho,hrd⟩:=h;have dX:=af ho;have H0:=af (aY.Row.empty (Y:=e9) w);have aE:=af (Below.aA w (.cells #[] 5));have cM:=af (hrd.below aE.out);have cX:=af hl;have SB:IntKind.u8.wrap n=n % 256:=IntKind.wrap_u8 n;clear hrd ho hl;go_enter Tryz.func46,Tryz.ntmps46
 go_wp2_with (first
  |(at_builtin;go_loud (refine e9.vN rfl (.tmp 5) (.tmp 6) rfl w.heap.size (.slice (some ⟨w.heap.size,0,none⟩) 0 0) [] rfl H0.out a c L rfl (fun h=>(dX.out.1 h).2) cM.out dX.out.2.1 (by have:=cX.out;simp;omega) aE.out.size ?_)))
 intro v' aK bO cB ez;obtain⟨a',c',rfl⟩:=bO.form;have bF:=gF cB aE.out (cx H0.out);have hba:=Below.aA aK (.cells #[.int .u8 (n % 256)] 5);have cH:=af (bO.below hba);have cC:=af (bF.trans (hba.mono bF.size));have dN:Hid (aj (aK.alloc (.cells #[.int .u8 (n % 256)] 5)) aK.heap.size 5 (Ef (n % 256)).toArray):=af (aj.new _ _ _);clear bO cB ez bF hba H0 aE cM
 go_wp2_with (first
  |(at_builtin;go_loud (refine e9.push rfl (.tmp 7) (.tmp 10) rfl w.heap.size _ L rfl cH.out aK.heap.size (n % 256) rfl dN.out.lt dN.out.fU (by have:=cX.out;omega) cC.out.size ?_)))
 intro v' bw l5 dY B2;have qL:=af l5;have fw:=af (gF dY cC.out (cx cH.out));clear l5 dY B2 cH dN cC;go_wp2_with fail
 go_ret;exact⟨_,rfl,qL.out,fw.out⟩
theorem aaA (n:Int):IntKind.u64.wrap n=n % 18446744073709551616:=IntKind.wrap_u64 n
theorem aaB (u:Int) (j:Nat):u / 2^(8*j) % 256=uR u j % 256:=by
 unfold uR;rw [Int.pow_mul];rfl
theorem Kf {w:World} {v:Value} {L:List Int} (h:e9.e8 w v L) (hl:L.length≤900000) (n:Int):
 Calls Tryz.prog 47 #[v,.int .i64 n] w fun e w'=>∃v',e= .returned v'∧e9.Row w' w.heap.size v' (L++lu (n % 18446744073709551616) 8)∧Below w.heap.size w w':=by
 obtain⟨a,c,rfl,ho,hrd⟩:=h;have dX:=af ho;have H0:=af (aY.Row.empty (Y:=e9) w);have aE:=af (Below.aA w (.cells #[] 5));have cM:=af (hrd.below aE.out);have cX:=af hl;obtain⟨u,hu⟩:∃u,n % 18446744073709551616=u:=⟨_,rfl⟩;have aaC:=aaA n;rw [hu]at aaC⊢;clear hrd ho hl hu;go_enter Tryz.func47,Tryz.ntmps47
 go_wp2_with (first
  |(at_builtin;go_loud (refine e9.vN rfl (.tmp 7) (.tmp 8) rfl w.heap.size (.slice (some ⟨w.heap.size,0,none⟩) 0 0) [] rfl H0.out a c L rfl (fun h=>(dX.out.1 h).2) cM.out dX.out.2.1 (by have:=cX.out;simp;omega) aE.out.size ?_)))
 intro v' aK bO cB ez;have cH:=af bO;have cC:=af (gF cB aE.out (cx H0.out));clear bO cB ez H0 aE cM;go_wp2_with fail
 go_loopw [5,6] (fun y i w'=>∃j:Nat,i= .int .u64 (8*(j:Int))∧j≤8∧e9.Row w' w.heap.size y (L++lu u j)∧Below w.heap.size w w') (fun _ i _=>64-(RowKit.intOf i).toNat)
 case atStart=>exact⟨0,rfl,Nat.zero_le _,by rw [show lu u 0= []from rfl,List.append_nil];exact cH.out,cC.out⟩
 case round=>
  clear cH cC;obtain⟨j,rfl,hj,hr,hb⟩:=hrel;obtain⟨ak,rfl⟩:∃bk:World,bk=wr:=⟨_,rfl⟩;obtain⟨a1,c1,hv⟩:=hr.form;obtain⟨m,hm⟩:∃m,(L++lu u j).length=m:=⟨_,rfl⟩;rw [hm]at hv;subst hv;have ie:=af hm;clear hm;by_cases hlt:j<8
  ·have hlt':8*(j:Int)<64:=by omega
   have bK:Hid (lu u (j+1)=lu u j++ [uR u j % 256]):=af (SC u j);have iI:Hid ((L++lu u j).length≤900008):=af (by rw [List.length_append,yY];have:=cX.out;omega);have aq:Hid (uR u (j+1)=uR u j / 256):=af (aaD u j);have SB:=aaB u j;have aib:(8*(j:Int)+8) % 18446744073709551616=8*(j:Int)+8:=by omega
   obtain⟨M,og⟩:∃M,L++lu u j=M:=⟨_,rfl⟩;rw [og]at hr iI;have cA:=af og;clear og;have sA:=af hr;have nJ:=af hb;generalize uR u j % 256=x at*;have hba:=Below.aA ak (.cells #[.int .u8 x] 5);have iH:=af (hr.below hba);have cC:=af (hb.trans (hba.mono hb.size));have dN:Hid (aj (ak.alloc (.cells #[.int .u8 x] 5)) ak.heap.size 5 (Ef x).toArray):=af (aj.new _ _ _);clear hr hb hba
   go_wp2_with (first
    |(at_builtin;go_loud (refine e9.push rfl (.tmp 14) (.tmp 20) rfl w.heap.size (.slice a1 m c1) M rfl iH.out ak.heap.size x rfl dN.out.lt dN.out.fU (by have:=iI.out;omega) cC.out.size ?_)))
   intro v' aK bO cB ez;have cH:=af bO;have fw:=af (gF cB cC.out (cx iH.out));clear bO cB ez;go_wp2_with fail
   go_roundw
   case rel=>exact⟨j+1,by go_num,hlt,by rw [bK.out,←List.append_assoc,cA.out];exact cH.out,fw.out⟩
   case measure=>simp [RowKit.intOf];omega
  ·obtain rfl:j=8:=by omega
   have sA:=af hr;have nJ:=af hb;clear hr hb;go_wp2_with fail
   go_ret;exact⟨_,rfl,sA.out,nJ.out⟩
def Wy (s:cg):Int:=if s.bad=true then 10 else 0
structure q4 (W w:World) (pr:Nat) (s:cg):Prop where
 box:∃(a:Option Addr) (c:Nat) (X:List Int) (p:Nat),aj w pr 176 #[.slice a X.length c,.int .i64 p,.int .i64 (Wy s)]∧Ea a X.length c∧X.length≤c∧e9.fF w a X∧(∀b off,a=some ⟨b,off,none⟩→X≠ []→b<W.heap.size)∧p≤X.length∧s.bs=X.drop p∧X.length≤900000
 base:W.heap.size≤pr
 aF:Below W.heap.size W w
 ok:s.ok
section
variable {W w w':World} {pr:Nat} {s:cg}
theorem q4.keep {F:Nat→Prop} (h:q4 W w pr s) (hk:aD F w w') (hp:¬F pr) (hF:∀k,F k→W.heap.size≤k):q4 W w' pr s:=by
 obtain⟨⟨a,c,X,p,h1,h2,h3,h4,h5,hr⟩,h6,h7,h8⟩:=h;exact⟨⟨a,c,X,p,h1.keeps hk hp,h2,h3,LV h4 hk fun b off e hx hf=>by have:=hF b hf;have:=h5 b off e hx;omega,h5,hr⟩,h6,h7.trans (hk.below hF h7.size),h8⟩
theorem q4.below (h:q4 W w pr s) (hb:Below w.heap.size w w'):q4 W w' pr s:=
 h.keep (F:=fun _=>False) (Below.keeps hb) (fun h=>h) (fun _ h=>h.elim)
end
end Go.Proofs.YtmaijkoopjocdaaGreat
