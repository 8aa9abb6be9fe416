import Derived.Test.YtmaijkoopjocdaaGreatKT06
set_option maxRecDepth 100000
set_option maxHeartbeats 64000000
namespace Go.Proofs.YtmaijkoopjocdaaGreat
open Go.RowKit
theorem GA:(Tryz.prog.info? 47).map (fun i=>(i.zero,i.size,i.bytes))=some (some (.agg #[.int .i64 0,.int .i64 0,.int .i64 0]),3,24):=bL.info
theorem Lh {w:World} {g gs o os:Nat} {cur:Array Value} (hb:aj w g 47 cur) (pY jo sn sc:Nat) (L:List ax) (hn:L.length=Nat.min sn pY)
 (hsrc:∀j v,(L.flatMap ax.cells)[j]? =some v→w.cell? ⟨gs,os+j,none⟩=some v) (hfit:o+(L.flatMap ax.cells).length≤cur.size) (ty:TypeId):
 (Builtin.copy_ #[45,45] ty #[.slice (some ⟨g,o,none⟩) pY jo,.slice (some ⟨gs,os,none⟩) sn sc]).run Tryz.prog w= .ok (.int .i64 L.length) (w.setRow g (cur.toList.take o++L.flatMap ax.cells++cur.toList.drop (o+(L.flatMap ax.cells).length)).toArray):=by
 have hl:=run_loadCells_list (P:=Tryz.prog) w ⟨gs,os,none⟩ (L.flatMap ax.cells) (fun j v hj=>by rw [tE];exact hsrc j v hj);have hst:=run_storeCells_at Tryz.prog g o 47 (L.flatMap ax.cells) 0 cur w hb (by simpa using hfit) (bL.jL L);rw [lQ ax.cells 3 (fun _=>rfl)]at hl;obtain⟨i0,hi,cQ,hz1,dG⟩:=info_parts GA;have hu:Tryz.prog.underlying 45=some (.slice 47):=Tryz.underlying45;simp only [Nat.add_zero]at hst;simp [Builtin.copy_,run_underlying hu,Builtin.lenOf,Builtin.firstCells,sizeOf,typeInfo,hi,hz1,←hn,hl,hst,goInt]
theorem UY {w:World} {aG g:Nat} {xs cur:Array Value} (hv:aj w aG 47 xs) (hg:aj w g 47 cur) (hne:aG≠g) (h0:cur.size≠0) (o vn vc ln lc:Nat):
 (callFunc 142 #[.slice (some ⟨aG,0,none⟩) vn vc,.slice (some ⟨g,o,none⟩) ln lc]).run Tryz.prog w= .ok (.value (.bool false)) w:=by
 obtain⟨i0,hi,cQ,hz1,dG⟩:=info_parts GA;have hz:∀w:World,(Go.sizeOf 47).run Tryz.prog w= .ok 3 w:=fun w=>by simp [sizeOf,typeInfo,hi,hz1]
 rw [run_callFunc_extern Tryz.func142 (by kernel_rfl) (by kernel_rfl) (by kernel_rfl) (e:=Extern.SlicesOverlaps.overlaps #[45,45] #[4]) (by kernel_rfl),
  Lib.run_overlaps_apart w 45 4 47 Tryz.underlying45 3 hz ⟨aG,0,none⟩ ⟨g,o,none⟩ vn vc ln lc hne 47 47 xs.size cur.size ?_ ?_ h0 (hv.frozen 0) (hv.frozen _)]
 ·rfl
 ·have dl:w.heap[aG]? =some (.cells xs 47 (0,0)):=hv
  simp [World.shape?,dl]
 ·have hg':w.heap[g]? =some (.cells cur 47 (0,0)):=hg
  simp [World.shape?,hg']
theorem Nu {R:List ax} {i:Nat} (hi:i≤R.length):(R.flatMap ax.cells).take (i*3)=(R.take i).flatMap ax.cells:=by
 have e:R=R.take i++R.drop i:=(List.take_append_drop i R).symm;have hl:((R.take i).flatMap ax.cells).length=i*3:=by rw [lQ ax.cells 3 (fun _=>rfl),List.length_take,Nat.min_eq_left hi]
 conv=>lhs;rw [e,List.flatMap_append]
 rw [List.take_append_of_le_length (by omega),List.take_of_length_le (by omega)]
theorem Ns (R:List ax) (i:Nat):((R.drop i).flatMap ax.cells).length=(R.length-i)*3:=by rw [lQ ax.cells 3 (fun _=>rfl),List.length_drop]
theorem Nt {R:List ax} {i:Nat} (hi:i≤R.length) (j:Nat):((R.drop i).flatMap ax.cells)[j]? =(R.flatMap ax.cells)[i*3+j]? :=by
 have e:R=R.take i++R.drop i:=(List.take_append_drop i R).symm;have hl:((R.take i).flatMap ax.cells).length=i*3:=by rw [lQ ax.cells 3 (fun _=>rfl),List.length_take,Nat.min_eq_left hi]
 conv=>rhs;rw [e,List.flatMap_append]
 rw [List.getElem?_append_right (by omega),hl,Nat.add_sub_cancel_left]
theorem acu {w:World} {B g aG n c i:Nat} {cur:Array Value} {R:List ax} {x:ax} (hb:aj w g 47 cur) (hn:R.length=n) (hc:cur.size=c*3) (ht:cur.toList.take (n*3)=R.flatMap ax.cells) (tF:B≤g) (iK:c≤maxLen)
 (hi:i<n) (hroom:n+1≤c) (hv:aj w aG 47 x.cells.toArray) (hne:aG≠g) (hl:n≤900000):
 Calls Tryz.prog 124 #[.slice (some ⟨g,0,none⟩) n c,.int .i64 i,.slice (some ⟨aG,0,none⟩) 1 1] w fun e w'=>e= .returned (.slice (some ⟨g,0,none⟩) (n+1) c)∧bL.Row w' B (.slice (some ⟨g,0,none⟩) (n+1) c) (R.take i++ [x]++R.drop i)∧aD (fun k=>k=g) w w':=by
 have hcl:cur.toList.length=c*3:=by rw [Array.length_toList,hc]
 have hdl:=Ns R i;rw [hn]at hdl;have hX:([x].flatMap ax.cells).length=3:=rfl;have hD:(R.drop i).length=n-i:=by rw [List.length_drop,hn]
 have HU:cur.size≠0:=by omega
 have hov:=fun(o vn vc ln lc:Nat)=>UY hv.drew hb.drew hne HU o vn vc ln lc;have HV:=fun(o vn vc ln lc:Nat)=>UY hv hb hne HU o vn vc ln lc
 have hget:∀j v,((R.drop i).flatMap ax.cells)[j]? =some v→w.cell? ⟨g,i*3+j,none⟩=some v:=by
  intro j v hj;rw [hb.cell,←Array.getElem?_toList];rw [Nt (by omega),←ht,List.getElem?_take]at hj;split at hj
  ·exact hj
  ·cases hj
 have zl:=fun(ty:TypeId) (jo sc:Nat)=>Lh (w:=w.drew) (g:=g) (gs:=g) (o:=(i+1)*3) (os:=i*3) hb.drew (n-i) jo (n+1-i) sc (R.drop i) (by rw [hD];simp only [Nat.min_def];split<;>omega) hget (by rw [hdl];omega) ty;have hb1:aj (w.drew.setRow g (cur.toList.take ((i+1)*3)++(R.drop i).flatMap ax.cells++cur.toList.drop ((i+1)*3+((R.drop i).flatMap ax.cells).length)).toArray) g 47 (cur.toList.take ((i+1)*3)++(R.drop i).flatMap ax.cells++cur.toList.drop ((i+1)*3+((R.drop i).flatMap ax.cells).length)).toArray:=hb.drew.row _;have cJ:aD (fun k=>k=g) w (w.drew.setRow g (cur.toList.take ((i+1)*3)++(R.drop i).flatMap ax.cells++cur.toList.drop ((i+1)*3+((R.drop i).flatMap ax.cells).length)).toArray):=(Below.keeps (Below.bT w 1)).trans (xS _ _ _)
 have hN:=UW (P:=(R.take i).flatMap ax.cells) (X:= [x].flatMap ax.cells) (D:=(R.drop i).flatMap ax.cells) (cur:=cur.toList) (a:=i*3) (by
  rw [←Nu (by omega),←ht,List.take_take,Nat.min_eq_left (by omega)]) (by rw [hX,hdl,hcl];omega)
 rw [hX,show i*3+3=(i+1)*3 by omega]at hN;generalize rF:cur.toList.take ((i+1)*3)++(R.drop i).flatMap ax.cells++cur.toList.drop ((i+1)*3+((R.drop i).flatMap ax.cells).length)=hJ at*
 have xT:hJ.length=c*3:=by
  rw [←rF,List.length_append,List.length_append,List.length_take,List.length_drop,hdl,hcl];omega
 clear rF;generalize hw1:w.drew.setRow g hJ.toArray=w1 at*;have hv1:aj w1 aG 47 x.cells.toArray:=hv.keeps cJ hne
 have mY:=fun(ty:TypeId) (jo sc:Nat)=>Lh (w:=w1) (g:=g) (gs:=aG) (o:=i*3) (os:=0) hb1 (n+1-i) jo 1 sc [x] (by simp only [Nat.min_def,List.length_singleton];split<;>omega) (fun j v hj=>by
  rw [Nat.zero_add,hv1.cell]
  simpa using hj) (by rw [hX,List.size_toArray,xT];omega) ty
 rw [List.toList_toArray]at mY;have hb2:=hb1.row (hJ.take (i*3)++ [x].flatMap ax.cells++hJ.drop (i*3+([x].flatMap ax.cells).length)).toArray;have hk2:=cJ.trans (xS w1 g (hJ.take (i*3)++ [x].flatMap ax.cells++hJ.drop (i*3+([x].flatMap ax.cells).length)).toArray);have e2:i*3+([x].flatMap ax.cells).length=(i+1)*3:=by rw [hX];omega
 rw [e2,hN]at hb2 hk2
 replace mY:=fun ty jo sc=>by
  have h:=mY ty jo sc;rw [e2,hN]at h;exact h
 generalize rG:(R.take i).flatMap ax.cells++ [x].flatMap ax.cells++(R.drop i).flatMap ax.cells++cur.toList.drop ((i+1)*3+((R.drop i).flatMap ax.cells).length)=tG at*;generalize tH:w1.setRow g tG.toArray=w2 at*;have wF:=af rG;have OL:=af zl;have CS:=af mY;have aT:=af hb2;have rH:=af hk2;have OM:=af HV;have hw:=iK;unfold maxLen at hw;have q1:¬(c=i):=by omega
 have e5:¬(c=i+1):=by omega
 have y1:IntKind.i64.wrap ((n:Int)+1)=(n:Int)+1:=IntWalk.i64_in _ (by omega);have dw:IntKind.i64.wrap ((i:Int)+1)=(i:Int)+1:=IntWalk.i64_in _ (by omega);have dM:(0:Int)≤(i:Int)+1:=by omega
 have z2:i≤n:=by omega
 have z3:i≤n+1:=by omega
 have z4:(i:Int)≤(n:Int)+1:=by omega
 clear tH rG zl mY hb2 hk2 hov HV hb1 cJ hv1 hget hN;have OO:=OM.out;go_enter Tryz.func124,Tryz.ntmps124
 go_wp2_with (simp only [OO])
 have zl:=OL.out;refine cF (S:=fun _=>True) (by kernel_rfl) True.intro (fun hHeld=>?_);refine ai 0 ?_;refine ai 1 ?_;refine ai 2 ?_;refine ai 3 ?_;refine ai 4 ?_;refine ai 5 ?_;refine ai 6 ?_;refine ai 7 ?_;refine cO 8 fun K hK=>?_;go_simp;refine hK.out _ _ ?_;clear hK K zl hHeld;have mY:=CS.out;go_wp2_with fail
 go_ret;refine⟨by trivial,?_,rH.out⟩
 have hlen:(R.take i++ [x]++R.drop i).length=n+1:=by
  rw [List.length_append,List.length_append,List.length_take,List.length_drop,List.length_singleton,hn];omega
 have hfl:(R.take i++ [x]++R.drop i).flatMap ax.cells=(R.take i).flatMap ax.cells++ [x].flatMap ax.cells++(R.drop i).flatMap ax.cells:=by rw [List.flatMap_append,List.flatMap_append]
 have lN:((R.take i).flatMap ax.cells++ [x].flatMap ax.cells++(R.drop i).flatMap ax.cells).length=(n+1)*3:=by
  rw [←hfl,lQ ax.cells 3 (fun _=>rfl),hlen]
 refine⟨by show((R.take i++ [x]++R.drop i).flatMap ax.cells).length=_;rw [hfl,lN,hlen];rfl,.inr ⟨g,c,_,by rw [hlen],tF,aT.out,by rw [hlen];exact hroom,iK,?_,?_⟩⟩
 ·rw [←wF.out,List.size_toArray,List.length_append,lN,List.length_drop,hdl,hcl]
  show _=c*3;omega
 ·show List.take ((R.take i++ [x]++R.drop i).length*3) _=(R.take i++ [x]++R.drop i).flatMap ax.cells
  rw [hlen,hfl,List.toList_toArray,←wF.out,List.take_append_of_le_length (by rw [lN];exact Nat.le_refl _),List.take_of_length_le (by rw [lN];exact Nat.le_refl _)]
theorem acv {w:World} {B g aG n i:Nat} {cur:Array Value} {R:List ax} {x:ax} (hb:aj w g 47 cur) (hn:R.length=n) (hc:cur.size=n*3) (ht:cur.toList.take (n*3)=R.flatMap ax.cells) (hB:B≤w.heap.size)
 (hi:i<n) (hv:aj w aG 47 x.cells.toArray) (hl:n≤900000):
 Calls Tryz.prog 124 #[.slice (some ⟨g,0,none⟩) n n,.int .i64 i,.slice (some ⟨aG,0,none⟩) 1 1] w fun e w'=>∃c',e= .returned (.slice (some ⟨w.heap.size,0,none⟩) (n+1) c')∧bL.Row w' B (.slice (some ⟨w.heap.size,0,none⟩) (n+1) c') (R.take i++ [x]++R.drop i)∧aD (fun _=>False) w w':=by
 have hcl:cur.toList.length=n*3:=by rw [Array.length_toList,hc]
 have hdl:=Ns R i;rw [hn]at hdl;have hX:([x].flatMap ax.cells).length=3:=rfl;have hD:(R.drop i).length=n-i:=by rw [List.length_drop,hn]
 have A4:((R.take i).flatMap ax.cells).length=i*3:=by rw [lQ ax.cells 3 (fun _=>rfl),List.length_take];omega
 have Ay:∀(j:Nat) (v:Value),(R.flatMap ax.cells)[j]? =some v→w.cell? ⟨g,j,none⟩=some v:=by
  intro j v hj;rw [hb.cell,←Array.getElem?_toList];rw [←ht,List.getElem?_take]at hj;split at hj
  ·exact hj
  ·cases hj
 obtain⟨i0,ya,cQ,hz1,dG⟩:=info_parts GA;obtain⟨k,hk⟩:∃k:Nat,n+1-i=k:=⟨_,rfl⟩;have hik:i+k=n+1:=by omega
 have hold:(Builtin.firstCells i0.size i (.slice (some ⟨g,0,none⟩) i n)).run Tryz.prog w.drew= .ok ((R.take i).flatMap ax.cells).toArray w.drew:=by
  have h:=run_loadCells_list (P:=Tryz.prog) w.drew ⟨g,0,none⟩ ((R.take i).flatMap ax.cells) (fun j v hj=>by
   rw [tE,Nat.zero_add];have hj2:j<i*3:=by have:=dc hj;omega
   rw [←Nu (by omega),List.getElem?_take,if_pos hj2]at hj;exact Ay j v hj)
  rw [A4]at h;rw [hz1]
  simpa [Builtin.firstCells]using h
 have hap:=fun ty=>Lib.run_append_grow_zeros (P:=Tryz.prog) w 45 3 ty 47 i0 _ .i64 .i64 Tryz.underlying45 Tryz.underlying3 ya cQ (some ⟨g,0,none⟩) i n ((R.take i).flatMap ax.cells) hold k (by omega) (by rw [hz1];omega) (by omega) (by omega) (by rw [dG];omega) (by rw [dG,hik];exact growslice_fits (by omega) (by omega));rw [hik]at hap;have OP:=grownCap_ge w (n+1) n 47;have iK:=grownCap_le_maxLen w (n+1) n 47 (by unfold maxLen;omega);generalize grownCap w (n+1) n 47=c' at*;obtain⟨iD,zm⟩:∃iD,((R.take i).flatMap ax.cells).toArray++Builtin.zeroCells (Value.agg #[.int .i64 0,.int .i64 0,.int .i64 0]).cells k++Builtin.zeroCells (Value.agg #[.int .i64 0,.int .i64 0,.int .i64 0]).cells (c'-(n+1))=iD:=⟨_,rfl⟩;rw [zm]at hap
 have hs0:iD.size=c'*3:=by
  rw [←zm,Array.size_append,Array.size_append,List.size_toArray,A4];simp [Builtin.zeroCells,Value.cells];omega
 have CT:iD.toList.length=c'*3:=by rw [Array.length_toList,hs0]
 have ju:iD.toList.take (i*3)=(R.take i).flatMap ax.cells:=by
  rw [←zm,Array.toList_append,Array.toList_append,List.toList_toArray,List.append_assoc,List.take_append_of_le_length (by omega),List.take_of_length_le (by omega)]
 clear zm hold ya cQ hz1 dG;have hb1:aj (w.drew.alloc (.cells iD 47)) w.heap.size 47 iD:=aj.new w.drew _ _;have cJ:Below w.heap.size w (w.drew.alloc (.cells iD 47)):=(Below.bT w 1).trans (Below.aA w.drew _);generalize hw1:w.drew.alloc (.cells iD 47)=w1 at*;have hv1:=hv.below cJ;have dz:=hb.below cJ
 have mY:=fun(ty:TypeId) (jo sc:Nat)=>Lh (w:=w1) (g:=w.heap.size) (gs:=aG) (o:=i*3) (os:=0) hb1 k jo 1 sc [x] (by simp only [Nat.min_def,List.length_singleton];split<;>omega) (fun j v hj=>by
  rw [Nat.zero_add,hv1.cell]
  simpa using hj) (by rw [hX,hs0];omega) ty
 have hb2:=hb1.row (iD.toList.take (i*3)++ [x].flatMap ax.cells++iD.toList.drop (i*3+([x].flatMap ax.cells).length)).toArray;have hk2:aD (fun k=>k=w.heap.size) w1 (w1.setRow w.heap.size (iD.toList.take (i*3)++ [x].flatMap ax.cells++iD.toList.drop (i*3+([x].flatMap ax.cells).length)).toArray):=xS _ _ _;have hN:=UX (P:=(R.take i).flatMap ax.cells) (X:= [x].flatMap ax.cells) (D:=(R.drop i).flatMap ax.cells) (cur:=iD.toList) (a:=i*3) ju (by rw [hX,hdl,CT];omega);generalize rF:iD.toList.take (i*3)++ [x].flatMap ax.cells++iD.toList.drop (i*3+([x].flatMap ax.cells).length)=hJ at*
 have xT:hJ.length=c'*3:=by
  rw [←rF,List.length_append,List.length_append,List.length_take,List.length_drop,hX,CT];omega
 clear rF;generalize tH:w1.setRow w.heap.size hJ.toArray=w2 at*;have hne:¬g=w.heap.size:=Nat.ne_of_lt hb.lt;have e4:aj w2 g 47 cur:=dz.keeps hk2 hne;have CU:Below w.heap.size w w2:=cJ.trans (hk2.below (fun g hg=>by(have hg':g=w.heap.size:=hg);omega) cJ.size)
 have rO:=fun(ty:TypeId) (jo sc:Nat)=>Lh (w:=w2.drew) (g:=w.heap.size) (gs:=g) (o:=(i+1)*3) (os:=i*3) hb2.drew (n-i) jo (n-i) sc (R.drop i) (by rw [hD];simp only [Nat.min_def];split<;>omega) (fun j v hj=>by
  rw [Nt (by omega)]at hj;have h:=Ay _ v hj;rw [hb.cell]at h;rw [e4.drew.cell];exact h) (by rw [hdl,List.size_toArray,xT];omega) ty
 rw [List.toList_toArray]at rO;have hb3:=hb2.drew.row (hJ.take ((i+1)*3)++(R.drop i).flatMap ax.cells++hJ.drop ((i+1)*3+((R.drop i).flatMap ax.cells).length)).toArray;have nI:=xS w2.drew w.heap.size (hJ.take ((i+1)*3)++(R.drop i).flatMap ax.cells++hJ.drop ((i+1)*3+((R.drop i).flatMap ax.cells).length)).toArray;rw [hX,show i*3+3=(i+1)*3 by omega]at hN;rw [hN]at hb3 nI
 replace rO:=fun ty jo sc=>by
  have h:=rO ty jo sc;rw [hN]at h;exact h
 generalize rG:(R.take i).flatMap ax.cells++ [x].flatMap ax.cells++(R.drop i).flatMap ax.cells++iD.toList.drop ((i+1)*3+((R.drop i).flatMap ax.cells).length)=tG at*;have iX:Below w.heap.size w (w2.drew.setRow w.heap.size tG.toArray):=CU.drew.trans (nI.below (fun g hg=>by(have hg':g=w.heap.size:=hg);omega) CU.size);generalize HW:w2.drew.setRow w.heap.size tG.toArray=w3 at*;have wF:=af rG;have kR:=af hap;have CS:=af mY;have OQ:=af rO;have aN:=af hb3;have c7:=af iX;have acB:=af (Eq.refl w.heap.size);have hw:=iK;unfold maxLen at hw;have q1:¬(c'=i):=by omega
 have e5:¬(c'=i+1):=by omega
 have um:¬(n=i):=by omega
 have y1:IntKind.i64.wrap ((n:Int)+1)=(n:Int)+1:=IntWalk.i64_in _ (by omega);have dw:IntKind.i64.wrap ((i:Int)+1)=(i:Int)+1:=IntWalk.i64_in _ (by omega);have mV:IntKind.i64.wrap ((n:Int)+1-(i:Int))=(k:Int):=by rw [show(n:Int)+1-(i:Int)=(k:Int)by omega];exact IntWalk.i64_in _ (by omega)
 have dM:(0:Int)≤(i:Int)+1:=by omega
 have z2:i≤n:=by omega
 have z3:i≤n+1:=by omega
 have z4:(i:Int)≤(n:Int)+1:=by omega
 clear hw1 tH HW rG hap mY rO hb3 iX hb1 cJ hv1 dz hb2 hk2 hN e4 CU nI ju;go_enter Tryz.func124,Tryz.ntmps124
 go_upto_region 9 with(fail)
 have mY:=CS.out
 go_wp2_with (first
  |(at_builtin;refine Lib.wpList_append_run _ rfl _ _ _ _ rfl _ _ rfl rfl _ _ (kR.out _) ?_))
 clear mY;have rO:=OQ.out;refine cF (S:=fun _=>True) (by kernel_rfl) True.intro (fun hHeld=>?_);refine ai 0 ?_;refine ai 1 ?_;refine ai 2 ?_;refine ai 3 ?_;refine ai 4 ?_;refine ai 5 ?_;refine ai 6 ?_;refine ai 7 ?_;refine cO 8 fun K hK=>?_;go_simp;refine hK.out _ _ ?_;clear hK K rO hHeld;go_wp2_with fail
 go_ret;refine⟨c',by trivial,?_,(Below.keeps c7.out)⟩
 have hlen:(R.take i++ [x]++R.drop i).length=n+1:=by
  rw [List.length_append,List.length_append,List.length_take,List.length_drop,List.length_singleton,hn];omega
 have hfl:(R.take i++ [x]++R.drop i).flatMap ax.cells=(R.take i).flatMap ax.cells++ [x].flatMap ax.cells++(R.drop i).flatMap ax.cells:=by rw [List.flatMap_append,List.flatMap_append]
 have lN:((R.take i).flatMap ax.cells++ [x].flatMap ax.cells++(R.drop i).flatMap ax.cells).length=(n+1)*3:=by
  rw [←hfl,lQ ax.cells 3 (fun _=>rfl),hlen]
 refine⟨by show((R.take i++ [x]++R.drop i).flatMap ax.cells).length=_;rw [hfl,lN,hlen];rfl,.inr ⟨w.heap.size,c',_,by rw [hlen],hB,aN.out,by rw [hlen];exact OP,iK,?_,?_⟩⟩
 ·rw [←wF.out,List.size_toArray,List.length_append,lN,List.length_drop,hdl,CT]
  show _=c'*3;omega
 ·show List.take ((R.take i++ [x]++R.drop i).length*3) _=(R.take i++ [x]++R.drop i).flatMap ax.cells
  rw [hlen,hfl,List.toList_toArray,←wF.out,List.take_append_of_le_length (by rw [lN];exact Nat.le_refl _),List.take_of_length_le (by rw [lN];exact Nat.le_refl _)]
theorem acs {w:World} {B aG:Nat} {s:Value} {R:List ax} {x:ax} (h:bL.Row w B s R) (hv:aj w aG 47 x.cells.toArray) (hB:B≤w.heap.size) (hl:R.length≤900000):
 Calls Tryz.prog 124 #[s,.int .i64 R.length,.slice (some ⟨aG,0,none⟩) 1 1] w fun e w'=>∃v',e= .returned v'∧bL.Row w' B v' (R++ [x])∧aD (fun g=>s.ownBlock=some g) w w'∧(v'.ownBlock=s.ownBlock∨v'.ownBlock=some w.heap.size):=by
 have dL:=af h;have dm:=af hv;rcases h.2 with⟨hs,h0⟩|⟨g,c,cur,hs,tF,hb,hnc,iK,hcs,jh⟩
 ·subst hs
  rw [h0];clear h hv;go_enter Tryz.func124,Tryz.ntmps124
  go_wp2_with (first
   |(at_builtin;go_loud (refine bL.push rfl (.tmp 23) (.tmp 24) rfl B (.slice none 0 0) R rfl dL.out aG x rfl dm.out.lt dm.out.fU (by omega) hB ?_)))
  intro v' aK bO cB ez;have cM:=af bO;have cv:=af (fe cB);have e6:=af ez;clear bO cB ez;go_wp2_with fail
  go_ret;exact⟨_,rfl,cM.out,cv.out.more (fun k hk=>hk.symm▸rfl),e6.out⟩
 ·subst hs
  unfold maxLen at iK;have q1:R.length≤c:=hnc;obtain⟨n,hn⟩:∃n,R.length=n:=⟨_,rfl⟩;rw [hn]at q1 hl⊢;have HN:=af hn;replace dL:Hid (bL.Row w B (.slice (some ⟨g,0,none⟩) n c) R):=af (by rw [←hn];exact dL.out);clear h hv tF hb hnc hcs jh hn;go_enter Tryz.func124,Tryz.ntmps124
  go_wp2_with (first
   |(at_builtin;go_loud (refine bL.push rfl (.tmp 23) (.tmp 24) rfl B (.slice (some ⟨g,0,none⟩) n c) R rfl dL.out aG x rfl dm.out.lt dm.out.fU (by rw [HN.out];omega) hB ?_)))
  all_goals (
   intro v' aK bO cB ez;have cM:=af bO;have cv:=af (fe cB);have e6:=af ez;clear bO cB ez;go_wp2_with fail
   go_ret;exact⟨_,rfl,cM.out,cv.out,e6.out⟩)
theorem Sc {w:World} {B aG:Nat} {s:Value} {R:List ax} {x:ax} {i:Nat} (h:bL.Row w B s R) (hi:i≤R.length) (hv:aj w aG 47 x.cells.toArray) (hne:s.ownBlock≠some aG) (hB:B≤w.heap.size) (hl:R.length≤900000):
 Calls Tryz.prog 124 #[s,.int .i64 i,.slice (some ⟨aG,0,none⟩) 1 1] w fun e w'=>∃v',e= .returned v'∧bL.Row w' B v' (R.take i++ [x]++R.drop i)∧aD (fun g=>s.ownBlock=some g) w w'∧(v'.ownBlock=s.ownBlock∨v'.ownBlock=some w.heap.size):=by
 by_cases hin:i=R.length
 ·subst hin
  refine(acs h hv hB hl).mono ?_;rintro e w' ⟨v',h1,h2,h3,h4⟩;exact⟨v',h1,by rw [List.take_length,List.drop_length,List.append_nil];exact h2,h3,h4⟩
 ·have HT:i<R.length:=by omega
  rcases h.2 with⟨hs,h0⟩|⟨g,c,cur,hs,tF,hb,hnc,iK,hcs,jh⟩
  ·omega
  ·subst hs
   have eZ:aG≠g:=by rintro rfl;exact hne rfl
   by_cases hroom:R.length+1≤c
   ·refine(acu hb rfl hcs jh tF iK HT hroom hv eZ hl).mono ?_
    rintro e w' ⟨h1,h2,h3⟩;exact⟨_,h1,h2,h3.more fun k hk=>by rw [hk];rfl,.inl rfl⟩
   ·obtain rfl:c=R.length:=by omega
    refine(acv hb rfl hcs jh hB HT hv hl).mono ?_;rintro e w' ⟨c',h1,h2,h3⟩;exact⟨_,h1,h2,h3.more fun _ h=>h.elim,.inr rfl⟩
theorem aaP {w:World} {g os i m c sc:Nat} {cur:Array Value} (hb:aj w g 47 cur) (L:List ax) (hL:L.length=m) (hroom:i+m≤c)
 (hsrc:∀j v,(L.flatMap ax.cells)[j]? =some v→w.cell? ⟨g,os+j,none⟩=some v) (hfit:i*3+(L.flatMap ax.cells).length≤cur.size) (ty:TypeId):
 (Builtin.append_ #[45,45] ty #[.slice (some ⟨g,0,none⟩) i c,.slice (some ⟨g,os,none⟩) m sc]).run Tryz.prog w= .ok (.slice (some ⟨g,0,none⟩) (i+m) c) (w.setRow g (cur.toList.take (i*3)++L.flatMap ax.cells++cur.toList.drop (i*3+(L.flatMap ax.cells).length)).toArray):=by
 have hl:=run_loadCells_list (P:=Tryz.prog) w ⟨g,os,none⟩ (L.flatMap ax.cells) (fun j v hj=>by rw [tE];exact hsrc j v hj);have hst:=run_storeCells_at Tryz.prog g (i*3) 47 (L.flatMap ax.cells) 0 cur w hb (by simpa using hfit) (bL.jL L);rw [lQ ax.cells 3 (fun _=>rfl),hL]at hl;obtain⟨i0,hi,cQ,hz1,dG⟩:=info_parts GA;have hu:Tryz.prog.underlying 45=some (.slice 47):=Tryz.underlying45;have ha:(⟨g,0,none⟩:Addr).add (i*3)=⟨g,i*3,none⟩:=by rw [tE,Nat.zero_add]
 simp only [Nat.add_zero]at hst;simp [Builtin.append_,run_underlying hu,Builtin.lenOf,Builtin.firstCells,sizeOf,typeInfo,hi,hz1,hroom,hl,ha,hst]
theorem aaQ {w:World} {g o c:Nat} {cur:Array Value} (hb:aj w g 47 cur) (hfit:o+3≤cur.size) (ty:TypeId):
 (Builtin.clear_ #[45] ty #[.slice (some ⟨g,o,none⟩) 1 c]).run Tryz.prog w= .ok (.tuple #[]) (w.setRow g (cur.toList.take o++ [Value.int .i64 0,Value.int .i64 0,Value.int .i64 0]++cur.toList.drop (o+3)).toArray):=by
 obtain⟨i0,hi,cQ,hz1,dG⟩:=info_parts GA;have hu:Tryz.prog.underlying 45=some (.slice 47):=Tryz.underlying45
 have hst:=run_storeCells_at Tryz.prog g o 47 [Value.int .i64 0,Value.int .i64 0,Value.int .i64 0] 0 cur w hb (by simpa using hfit) (by
  intro v hv;simp only [List.mem_cons,List.not_mem_nil,or_false,or_self]at hv;rw [hv];rfl)
 simp only [Nat.add_zero]at hst
 have aaR:(Builtin.zeroCells (Value.agg #[.int .i64 0,.int .i64 0,.int .i64 0]).cells 1).toList= [Value.int .i64 0,Value.int .i64 0,Value.int .i64 0]:=by
  simp [Builtin.zeroCells,Value.cells,List.range_succ]
 have aaS:(zeroValue 47).run Tryz.prog w= .ok (.agg #[.int .i64 0,.int .i64 0,.int .i64 0]) w:=by simp [zeroValue,typeInfo,hi,cQ]
 have aaT:(storeCells ⟨g,o,none⟩ [Value.int .i64 0,Value.int .i64 0,Value.int .i64 0]).run Tryz.prog w= .ok () (w.setRow g (cur.toList.take o++ [Value.int .i64 0,Value.int .i64 0,Value.int .i64 0]++cur.toList.drop (o+3)).toArray):=hst;simp only [Builtin.clear_,Sem.run_bind,run_underlying hu,Result.andThen_ok,List.getElem?_toArray,List.getElem?_cons_zero,aaS,aaR,aaT];rfl
theorem Z0 {w:World} {B:Nat} {s:Value} {R:List ax} {i:Nat} (h:bL.Row w B s R) (hi:i<R.length) (hl:R.length≤900000):
 Calls Tryz.prog 121 #[s,.int .i64 i,.int .i64 ((i:Int)+1)] w fun e w'=>∃v',e= .returned v'∧bL.Row w' B v' (R.eraseIdx i)∧aD (fun g=>s.ownBlock=some g) w w'∧v'.ownBlock=s.ownBlock:=by
 rcases h.2 with⟨hs,h0⟩|⟨g,c,cur,hs,tF,hb0,hnc,iK,hcs,jh⟩
 ·omega
 subst hs;have hb:aj w g 47 cur:=hb0;obtain⟨n,hn⟩:∃n,R.length=n:=⟨_,rfl⟩;have hc:cur.size=c*3:=hcs;have ht:cur.toList.take (n*3)=R.flatMap ax.cells:=by rw [←hn];exact jh
 rw [hn]at hi hl hnc;have hcl:cur.toList.length=c*3:=by rw [Array.length_toList,hc]
 have hdl:=Ns R (i+1);rw [hn]at hdl;have hD:(R.drop (i+1)).length=n-(i+1):=by rw [List.length_drop,hn]
 have Ay:∀(j:Nat) (v:Value),(R.flatMap ax.cells)[j]? =some v→w.cell? ⟨g,j,none⟩=some v:=by
  intro j v hj;rw [hb.cell,←Array.getElem?_toList];rw [←ht,List.getElem?_take]at hj;split at hj
  ·exact hj
  ·cases hj
 have hap:=fun(ty:TypeId) (os sc:Nat) (hos:os=(i+1)*3∨n=i+1)=>aaP (w:=w.drew) (g:=g) (os:=os) (i:=i) (m:=n-(i+1)) (c:=c) (sc:=sc) hb.drew (R.drop (i+1)) hD (by omega) (fun j v hj=>by
  rcases hos with rfl|hos
  ·rw [Nt (by omega)]at hj
   exact Ay _ v hj
  ·have h1:=dc hj
   rw [hdl]at h1;omega) (by rw [hdl,hc];omega) ty
 have hb1:=hb.drew.row (cur.toList.take (i*3)++(R.drop (i+1)).flatMap ax.cells++cur.toList.drop (i*3+((R.drop (i+1)).flatMap ax.cells).length)).toArray;have cJ:aD (fun k=>k=g) w (w.drew.setRow g (cur.toList.take (i*3)++(R.drop (i+1)).flatMap ax.cells++cur.toList.drop (i*3+((R.drop (i+1)).flatMap ax.cells).length)).toArray):=(Below.keeps (Below.bT w 1)).trans (xS _ _ _)
 have hP:cur.toList.take (i*3)=(R.take i).flatMap ax.cells:=by
  rw [←Nu (by omega),←ht,List.take_take,Nat.min_eq_left (by omega)]
 rw [show i+(n-(i+1))=n-1 by omega]at hap;generalize rF:cur.toList.take (i*3)++(R.drop (i+1)).flatMap ax.cells++cur.toList.drop (i*3+((R.drop (i+1)).flatMap ax.cells).length)=hJ at*
 have xT:hJ.length=c*3:=by
  rw [←rF,List.length_append,List.length_append,List.length_take,List.length_drop,hdl,hcl];omega
 have GB:((R.take i).flatMap ax.cells++(R.drop (i+1)).flatMap ax.cells).length=(n-1)*3:=by
  rw [List.length_append,lQ ax.cells 3 (fun _=>rfl),List.length_take,hdl,hn];omega
 have jw:hJ.take ((n-1)*3)=(R.take i).flatMap ax.cells++(R.drop (i+1)).flatMap ax.cells:=by
  rw [←rF,hP,List.take_append_of_le_length (by rw [GB];exact Nat.le_refl _),List.take_of_length_le (by rw [GB];exact Nat.le_refl _)]
 generalize hw1:w.drew.setRow g hJ.toArray=w1 at*;have Km:=fun(ty:TypeId) (sc:Nat)=>aaQ (w:=w1) (g:=g) (o:=(n-1)*3) (c:=sc) hb1 (by rw [List.size_toArray,xT];omega) ty;rw [List.toList_toArray]at Km;have hb2:=hb1.row (hJ.take ((n-1)*3)++ [Value.int .i64 0,Value.int .i64 0,Value.int .i64 0]++hJ.drop ((n-1)*3+3)).toArray;have hk2:=cJ.trans (xS w1 g (hJ.take ((n-1)*3)++ [Value.int .i64 0,Value.int .i64 0,Value.int .i64 0]++hJ.drop ((n-1)*3+3)).toArray);generalize rG:hJ.take ((n-1)*3)++ [Value.int .i64 0,Value.int .i64 0,Value.int .i64 0]++hJ.drop ((n-1)*3+3)=tG at*
 have aaU:tG.length=c*3:=by
  rw [←rG,List.length_append,List.length_append,List.length_take,List.length_drop,xT];simp;omega
 have oW:tG.take ((n-1)*3)=(R.take i).flatMap ax.cells++(R.drop (i+1)).flatMap ax.cells:=by
  rw [←rG,jw,List.append_assoc,List.take_append_of_le_length (by rw [GB];exact Nat.le_refl _),List.take_of_length_le (by rw [GB];exact Nat.le_refl _)]
 generalize tH:w1.setRow g tG.toArray=w2 at*;have kR:=af hap;have jt:=af Km;have aT:=af hb2;have rH:=af hk2;have om:=af oW;have HN:=af hn;unfold maxLen at iK;have q1:¬(c=n-1):=by omega
 have dM:(0:Int)≤(i:Int)+1:=by omega
 have z2:i≤n:=by omega
 have z3:i≤c:=by omega
 have z4:i+1≤n:=by omega
 have z5:(i:Int)+1≤(n:Int):=by omega
 have Eh:(i:Int)≤(i:Int)+1:=by omega
 have Ei:n-1≤n:=by omega
 have y2:n≤c:=hnc;have z9:n-(n-1)=1:=by omega
 have y1:((i:Int)==(i:Int)+1)=false:=by rw [beq_eq_false_iff_ne];omega
 obtain⟨os,hos,GC⟩:∃os,(os=(i+1)*3∨n=i+1)∧(if c=i+1 then some (⟨g,0,none⟩:Addr)else some ⟨g,(i+1)*3,none⟩)=some ⟨g,os,none⟩:=by
  by_cases jS:c=i+1
  ·exact⟨0,.inr (by omega),if_pos jS⟩
  ·exact⟨(i+1)*3,.inl rfl,if_neg jS⟩
 have aaV:=af hos;clear hos;clear h hb0 hb hcs jh hc ht Ay hap Km hb1 hb2 cJ hk2 hP rF rG jw oW hw1 tH hdl hD hcl GB hn;rw [HN.out];go_enter Tryz.func121,Tryz.ntmps121
 go_wp2_with fail
 refine cF (S:=fun _=>True) (by kernel_rfl) True.intro (fun hHeld=>?_);refine ai 0 ?_;refine ai 1 ?_;refine ai 2 ?_;refine ai 3 ?_;refine ai 4 ?_;refine ai 5 ?_;refine aR 6 fun K hK=>?_;refine step_eq (by rfl) (.tmp 22) (.tmp 25) 45 45 (by rfl) _ _ (by rfl) (by rfl) (kR.out _ _ _ aaV.out) ?_;refine hK.out _ _ True.intro (fun hHeld=>?_);clear hK K;refine cO 7 fun K hK=>?_;go_simp;refine hK.out _ _ ?_;clear hK K hHeld;have Km:=jt.out;go_wp2_with fail
 go_ret;have hlen:(R.eraseIdx i).length=n-1:=by rw [List.length_eraseIdx,HN.out,if_pos hi]
 have hfl:(R.eraseIdx i).flatMap ax.cells=(R.take i).flatMap ax.cells++(R.drop (i+1)).flatMap ax.cells:=by rw [List.eraseIdx_eq_take_drop_succ,List.flatMap_append]
 refine⟨_,rfl,⟨by rw [hlen];show((R.eraseIdx i).flatMap ax.cells).length=(n-1)*3;rw [lQ ax.cells 3 (fun _=>rfl),hlen],.inr ⟨g,c,_,by rw [hlen];rfl,tF,aT.out,by rw [hlen];omega,by unfold maxLen;exact iK,?_,?_⟩⟩,rH.out.more (fun k hk=>by rw [hk];rfl),rfl⟩
 ·rw [List.size_toArray,aaU];rfl
 ·show List.take ((R.eraseIdx i).length*3) _=(R.eraseIdx i).flatMap ax.cells
  rw [hlen,hfl,List.toList_toArray,om.out]
end Go.Proofs.YtmaijkoopjocdaaGreat
