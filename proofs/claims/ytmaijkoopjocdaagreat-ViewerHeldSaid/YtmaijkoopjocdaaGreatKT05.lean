import Derived.Test.YtmaijkoopjocdaaGreatKT04
set_option maxRecDepth 100000
set_option maxHeartbeats 64000000
namespace Go.Proofs.YtmaijkoopjocdaaGreat
open Go.RowKit Go.Lib
def nD (x:Int):Prop:= -1000000000000000≤x∧x≤1000000000000000
theorem agw {l b:List Int} {k:Nat} {x y:Int} (h1:l[k]? =some x) (h2:b[k]? =some y):g6 (l.take (k+1)) (b.take (k+1))=g6 (l.take k) (b.take k)++ [x-y]:=by
 have e1:=dc h1;have e2:=dc h2;rw [lp h1,lp h2];unfold g6;rw [List.zipWith_append (by rw [List.length_take,List.length_take];omega)];rfl
theorem DP {w:World} {v u:Value} {l b:List Int} (h:eJ.e8 w v l) (hu:eJ.e8 w u b) (er:b.length=l.length) (hl:l.length≤250) (hx:∀x∈l,nD x) (hy:∀y∈b,nD y):
 Calls Tryz.prog 158 #[v,u] w fun e w'=>∃v',e= .returned v'∧eJ.Row w' w.heap.size v' (g6 l b)∧Below w.heap.size w w':=by
 have aq:=af h;have z6:=af hu;have bA:=af hx;have zE:=af hy;have cX:=af hl;obtain⟨a,c,rfl,_,_⟩:=h;obtain⟨a2,c2,rfl,_,_⟩:=hu;obtain⟨n,hn⟩:∃n,l.length=n:=⟨_,rfl⟩;rw [er]at z6⊢;rw [hn]at aq z6 er⊢;have hnb:n≤250:=by omega
 have HN:=af hn;have dN:=af er;clear hx hy hn hl er;go_enter Tryz.func158,Tryz.ntmps158
 go_wp2_with fail
 go_loopw [5,6] (fun v i w'=>∃(k:Nat),i= .int .i64 k∧k≤n∧eJ.Row w' w.heap.size v (g6 (l.take k) (b.take k))∧Below w.heap.size w w') (fun _ i _=>n-(RowKit.intOf i).toNat)
 case atStart=>exact⟨0,rfl,Nat.zero_le _,aY.Row.nil _ _,Below.refl _ _⟩
 case round=>
  obtain⟨k,rfl,hk,hrow,hb⟩:=hrel;obtain⟨ak,rfl⟩:∃bk:World,bk=wr:=⟨_,rfl⟩;by_cases hlt:k<n
  ·have hlt':(k:Int)<(n:Int):=by omega
   obtain⟨x,gN⟩:∃x,l[k]? =some x:=⟨_,List.getElem?_eq_getElem (by rw [HN.out];exact hlt)⟩;obtain⟨y,xh⟩:∃y,b[k]? =some y:=⟨_,List.getElem?_eq_getElem (by rw [dN.out];exact hlt)⟩;obtain⟨b1,off,rfl,_⟩:=pT (aq.out.below hb) gN;obtain⟨b2,off2,rfl,_⟩:=pT (z6.out.below hb) xh
   have mH:Hid (∀wv,Below w.heap.size w wv→wv.cell? ⟨b1,off+k,none⟩=some (.int .i64 x)):=af fun wv hb=>by
    obtain⟨b3,A0,he,h3⟩:=pT (aq.out.below hb) gN;injection he with he;injection he with e1 e2;rw [e1,e2];exact h3
   have sN:Hid (∀wv,Below w.heap.size w wv→wv.cell? ⟨b2,off2+k,none⟩=some (.int .i64 y)):=af fun wv hb=>by
    obtain⟨b3,A0,he,h3⟩:=pT (z6.out.below hb) xh;injection he with he;injection he with e1 e2;rw [e1,e2];exact h3
   obtain⟨hx0,hx1⟩:=bA.out x (List.mem_of_getElem? gN);obtain⟨hy0,hy1⟩:=zE.out y (List.mem_of_getElem? xh);have bK:=af (agw gN xh);have iI:Hid ((g6 (l.take k) (b.take k)).length≤250):=af (by unfold g6;rw [List.length_zipWith,List.length_take];have:=cX.out;omega);generalize g6 (l.take k) (b.take k)=M at*;obtain⟨a1,c1,hv⟩:=hrow.form;obtain⟨m,hm⟩:∃m,M.length=m:=⟨_,rfl⟩;rw [hm]at hv;subst hv;have cA:=af hm;have aE:=af hb;have ec:=af hrow;have y1:IntKind.i64.wrap (x-y)=x-y:=IntWalk.i64_in _ (by omega);have Rg:=af y1;clear hrow hb gN xh hm y1;go_wp2_with fail
   refine cF (S:=fun w'=>w'.cell? ⟨b1,off+k,none⟩=some (.int .i64 x)∧w'.cell? ⟨b2,off2+k,none⟩=some (.int .i64 y)) (by kernel_rfl) ⟨mH.out _ aE.out.drew,sN.out _ aE.out.drew⟩ (fun hHeld=>?_);refine ai 0 ?_;refine ai 1 ?_;refine ai 2 ?_;refine ai 3 ?_;refine ai 4 ?_;refine ai 5 ?_;refine ai 6 ?_;refine ai 7 ?_;refine ai 8 ?_;refine ai 9 ?_;refine aR 10 fun K hK=>?_;go_simp;rw [Rg.out];have hba:Below ak.heap.size ak (ak.alloc (.cells #[.int .i64 (x-y)] 2)).drew:=(Below.aA ak (.cells #[.int .i64 (x-y)] 2)).drew;have gv:=ec.out.below hba;have hb2:=aE.out.trans (hba.mono aE.out.size);have jk:aj (ak.alloc (.cells #[.int .i64 (x-y)] 2)) ak.heap.size 2 (kC (x-y)).toArray:=aj.new _ _ _;have gR:=jk.below (Below.refl _ _).drew;refine hK.out _ _ ⟨mH.out _ hb2,sN.out _ hb2⟩ (fun hHeld=>?_);clear hK K;clear jk;generalize (ak.alloc (.cells #[.int .i64 (x-y)] 2)).drew=w2 at*;refine aR 11 fun K hK=>?_;refine eJ.step rfl (.tmp 13) (.tmp 23) rfl w.heap.size _ M rfl gv ak.heap.size (x-y) rfl gR.lt gR.fU (by have:=iI.out;omega) hb2.size ?_;intro v' aK bO cB ez;have bF:=gF cB hb2 (cx gv);refine hK.out _ _ ⟨mH.out _ bF,sN.out _ bF⟩ (fun hHeld=>?_);clear hK K;refine gx _ _ _ _ ?_;refine eB 12 ?_;refine wpAnyH_done (by kernel_rfl) ?_ _;have cH:=af bO;have fw:=af bF;clear bO cB ez hHeld bF gv hb2 gR hba;go_wp2_with fail
   go_roundw
   case rel=>exact⟨k+1,by go_num,hlt,by rw [bK.out];exact cH.out,fw.out⟩
   case measure=>simp [RowKit.intOf];omega
  ·have hkn:k=n:=by omega
   rw [hkn,show l.take n=l by rw [←HN.out,List.take_length],show b.take n=b by rw [←dN.out,List.take_length]]at hrow;have cM:=af hrow;have aE:=af hb;clear hkn hrow hb;go_wp2_with fail
   go_ret;exact⟨_,rfl,cM.out,aE.out⟩
theorem agx {l b:List Int} {k:Nat} {x y:Int} (h1:l[k]? =some x) (h2:b[k]? =some y):nZ (l.take (k+1)) (b.take (k+1))=nZ (l.take k) (b.take k)++ [x+y]:=by
 have e1:=dc h1;have e2:=dc h2;rw [lp h1,lp h2];unfold nZ;rw [List.zipWith_append (by rw [List.length_take,List.length_take];omega)];rfl
theorem DQ {w:World} {v u:Value} {l b:List Int} (h:eJ.e8 w v l) (hu:eJ.e8 w u b) (er:b.length=l.length) (hl:l.length≤250) (hx:∀x∈l,nD x) (hy:∀y∈b,nD y):
 Calls Tryz.prog 156 #[v,u] w fun e w'=>∃v',e= .returned v'∧eJ.Row w' w.heap.size v' (nZ l b)∧Below w.heap.size w w':=by
 have aq:=af h;have z6:=af hu;have bA:=af hx;have zE:=af hy;have cX:=af hl;obtain⟨a,c,rfl,_,_⟩:=h;obtain⟨a2,c2,rfl,_,_⟩:=hu;obtain⟨n,hn⟩:∃n,l.length=n:=⟨_,rfl⟩;rw [er]at z6⊢;rw [hn]at aq z6 er⊢;have hnb:n≤250:=by omega
 have HN:=af hn;have dN:=af er;clear hx hy hn hl er;go_enter Tryz.func156,Tryz.ntmps156
 go_wp2_with fail
 go_loopw [5,6] (fun v i w'=>∃(k:Nat),i= .int .i64 k∧k≤n∧eJ.Row w' w.heap.size v (nZ (l.take k) (b.take k))∧Below w.heap.size w w') (fun _ i _=>n-(RowKit.intOf i).toNat)
 case atStart=>exact⟨0,rfl,Nat.zero_le _,aY.Row.nil _ _,Below.refl _ _⟩
 case round=>
  obtain⟨k,rfl,hk,hrow,hb⟩:=hrel;obtain⟨ak,rfl⟩:∃bk:World,bk=wr:=⟨_,rfl⟩;by_cases hlt:k<n
  ·have hlt':(k:Int)<(n:Int):=by omega
   obtain⟨x,gN⟩:∃x,l[k]? =some x:=⟨_,List.getElem?_eq_getElem (by rw [HN.out];exact hlt)⟩;obtain⟨y,xh⟩:∃y,b[k]? =some y:=⟨_,List.getElem?_eq_getElem (by rw [dN.out];exact hlt)⟩;obtain⟨b1,off,rfl,_⟩:=pT (aq.out.below hb) gN;obtain⟨b2,off2,rfl,_⟩:=pT (z6.out.below hb) xh
   have mH:Hid (∀wv,Below w.heap.size w wv→wv.cell? ⟨b1,off+k,none⟩=some (.int .i64 x)):=af fun wv hb=>by
    obtain⟨b3,A0,he,h3⟩:=pT (aq.out.below hb) gN;injection he with he;injection he with e1 e2;rw [e1,e2];exact h3
   have sN:Hid (∀wv,Below w.heap.size w wv→wv.cell? ⟨b2,off2+k,none⟩=some (.int .i64 y)):=af fun wv hb=>by
    obtain⟨b3,A0,he,h3⟩:=pT (z6.out.below hb) xh;injection he with he;injection he with e1 e2;rw [e1,e2];exact h3
   obtain⟨hx0,hx1⟩:=bA.out x (List.mem_of_getElem? gN);obtain⟨hy0,hy1⟩:=zE.out y (List.mem_of_getElem? xh);have bK:=af (agx gN xh);have iI:Hid ((nZ (l.take k) (b.take k)).length≤250):=af (by unfold nZ;rw [List.length_zipWith,List.length_take];have:=cX.out;omega);generalize nZ (l.take k) (b.take k)=M at*;obtain⟨a1,c1,hv⟩:=hrow.form;obtain⟨m,hm⟩:∃m,M.length=m:=⟨_,rfl⟩;rw [hm]at hv;subst hv;have cA:=af hm;have aE:=af hb;have ec:=af hrow;have y1:IntKind.i64.wrap (x+y)=x+y:=IntWalk.i64_in _ (by omega);have Rg:=af y1;clear hrow hb gN xh hm y1;go_wp2_with fail
   refine cF (S:=fun w'=>w'.cell? ⟨b1,off+k,none⟩=some (.int .i64 x)∧w'.cell? ⟨b2,off2+k,none⟩=some (.int .i64 y)) (by kernel_rfl) ⟨mH.out _ aE.out.drew,sN.out _ aE.out.drew⟩ (fun hHeld=>?_);refine ai 0 ?_;refine ai 1 ?_;refine ai 2 ?_;refine ai 3 ?_;refine ai 4 ?_;refine ai 5 ?_;refine ai 6 ?_;refine ai 7 ?_;refine ai 8 ?_;refine ai 9 ?_;refine aR 10 fun K hK=>?_;go_simp;rw [Rg.out];have hba:Below ak.heap.size ak (ak.alloc (.cells #[.int .i64 (x+y)] 2)).drew:=(Below.aA ak (.cells #[.int .i64 (x+y)] 2)).drew;have gv:=ec.out.below hba;have hb2:=aE.out.trans (hba.mono aE.out.size);have jk:aj (ak.alloc (.cells #[.int .i64 (x+y)] 2)) ak.heap.size 2 (kC (x+y)).toArray:=aj.new _ _ _;have gR:=jk.below (Below.refl _ _).drew;refine hK.out _ _ ⟨mH.out _ hb2,sN.out _ hb2⟩ (fun hHeld=>?_);clear hK K;clear jk;generalize (ak.alloc (.cells #[.int .i64 (x+y)] 2)).drew=w2 at*;refine aR 11 fun K hK=>?_;refine eJ.step rfl (.tmp 13) (.tmp 23) rfl w.heap.size _ M rfl gv ak.heap.size (x+y) rfl gR.lt gR.fU (by have:=iI.out;omega) hb2.size ?_;intro v' aK bO cB ez;have bF:=gF cB hb2 (cx gv);refine hK.out _ _ ⟨mH.out _ bF,sN.out _ bF⟩ (fun hHeld=>?_);clear hK K;refine gx _ _ _ _ ?_;refine eB 12 ?_;refine wpAnyH_done (by kernel_rfl) ?_ _;have cH:=af bO;have fw:=af bF;clear bO cB ez hHeld bF gv hb2 gR hba;go_wp2_with fail
   go_roundw
   case rel=>exact⟨k+1,by go_num,hlt,by rw [bK.out];exact cH.out,fw.out⟩
   case measure=>simp [RowKit.intOf];omega
  ·have hkn:k=n:=by omega
   rw [hkn,show l.take n=l by rw [←HN.out,List.take_length],show b.take n=b by rw [←dN.out,List.take_length]]at hrow;have cM:=af hrow;have aE:=af hb;clear hkn hrow hb;go_wp2_with fail
   go_ret;exact⟨_,rfl,cM.out,aE.out⟩
theorem Q9 {w:World} {v:Value} {l:List Int} (h:eJ.e8 w v l) (hl:l.length≤250) (hx:∀x∈l,1≤x∧x≤1000000) (q:Int):
 Calls Tryz.prog 154 #[v,.int .i64 q] w fun e w'=>e= .returned (.bool (decide (0≤q∧q≤l.sum)))∧w=w':=by
 have aq:=af h;have bA:=af hx
 have FV:Hid (∀k,(l.take k).sum≤250000000∧0≤(l.take k).sum):=af fun k=>by
  have h1:=zY (l:=l.take k) (b:=1000000) fun x fN=>(hx x (List.mem_of_mem_take fN)).2;have h2:=DN (l:=l.take k) fun x fN=>by have:=(hx x (List.mem_of_mem_take fN)).1;omega
  have h3:((l.take k).length:Int)≤250:=by rw [List.length_take];omega
  exact⟨by omega,h2⟩
 obtain⟨a,c,rfl,_,_⟩:=h;obtain⟨n,hn⟩:∃n,l.length=n:=⟨_,rfl⟩;rw [hn]at aq hl⊢;have HN:=af hn;have hnb:(n:Int)≤250:=by omega
 clear hx hn;by_cases hq:q<0
 ·have cM:Hid (decide (0≤q∧q≤l.sum)=false):=af (decide_eq_false (by omega))
  rw [cM.out];go_enter Tryz.func154,Tryz.ntmps154
  go_wp2_with fail
  go_ret;exact⟨by trivial,by trivial⟩
 ·go_enter Tryz.func154,Tryz.ntmps154
  go_wp2_with fail
  go_loopw [5,6] (fun t i w'=>∃(k:Nat) (z:Int),z=(l.take k).sum∧t= .int .i64 z∧i= .int .i64 k∧k≤n∧w=w') (fun _ i _=>n-(RowKit.intOf i).toNat)
  case atStart=>exact⟨0,0,by simp,rfl,rfl,Nat.zero_le _,rfl⟩
  case round=>
   obtain⟨k,z,hz,rfl,rfl,hk,rfl⟩:=hrel;obtain⟨hz1,cQ⟩:=FV.out k;rw [←hz]at cQ hz1;by_cases hlt:k<n
   ·have hlt':(k:Int)<(n:Int):=by omega
    obtain⟨x,gN⟩:∃x,l[k]? =some x:=⟨_,List.getElem?_eq_getElem (by rw [HN.out];exact hlt)⟩;obtain⟨b,off,rfl,c0⟩:=pT aq.out gN;obtain⟨hx0,hx1⟩:=bA.out x (List.mem_of_getElem? gN);have d0:¬x<1:=by omega
    have d1:¬1000000<x:=by omega
    have bH:Hid (z+x=(l.take (k+1)).sum):=af (by rw [lp gN,Q7,hz]);clear gN hz;go_wp2_with fail
    go_roundw
    case rel=>exact⟨k+1,_,bH.out,by go_num,by go_num,hlt,by trivial⟩
    case measure=>simp [RowKit.intOf];omega
   ·have hkn:k=n:=by omega
    rw [hkn,←HN.out,List.take_length]at hz;have dI:=af hz;clear hz hkn;go_wp2_with fail
    go_ret;refine⟨?_,by trivial⟩;rw [←dI.out];have:(0≤q∧q≤z)↔q≤z:=⟨fun h=>h.2,fun h=>⟨by omega,h⟩⟩;simp only [this];rfl
theorem af9 {w:World} {v:Value} {l:List Int} (h:eJ.e8 w v l) (hl:l.length≤250) (hx:∀x∈l,0≤x∧x≤1000000):
 Calls Tryz.prog 160 #[v] w fun e w'=>e= .returned (.tuple #[.int .i64 l.sum,.bool true])∧w=w':=by
 have aq:=af h;have bA:=af hx
 have FV:Hid (∀k,(l.take k).sum≤250000000∧0≤(l.take k).sum):=af fun k=>by
  have h1:=zY (l:=l.take k) (b:=1000000) fun x fN=>(hx x (List.mem_of_mem_take fN)).2;have h2:=DN (l:=l.take k) fun x fN=>(hx x (List.mem_of_mem_take fN)).1;have h3:((l.take k).length:Int)≤250:=by rw [List.length_take];omega
  exact⟨by omega,h2⟩
 obtain⟨a,c,rfl,_,_⟩:=h;obtain⟨n,hn⟩:∃n,l.length=n:=⟨_,rfl⟩;rw [hn]at aq hl⊢;have HN:=af hn;have hnb:(n:Int)≤250:=by omega
 clear hx hn;go_enter Tryz.func160,Tryz.ntmps160
 go_wp2_with fail
 go_loopw [4,5,6] (fun hi t i w'=>∃(k:Nat) (z:Int),z=(l.take k).sum∧hi= .int .i64 0∧t= .int .u64 z∧i= .int .i64 k∧k≤n∧w=w') (fun _ _ i _=>n-(RowKit.intOf i).toNat)
 case atStart=>exact⟨0,0,by simp,rfl,rfl,rfl,Nat.zero_le _,rfl⟩
 case round=>
  obtain⟨k,z,hz,rfl,rfl,rfl,hk,rfl⟩:=hrel;obtain⟨hz1,cQ⟩:=FV.out k;rw [←hz]at cQ hz1;by_cases hlt:k<n
  ·have hlt':(k:Int)<(n:Int):=by omega
   obtain⟨x,gN⟩:∃x,l[k]? =some x:=⟨_,List.getElem?_eq_getElem (by rw [HN.out];exact hlt)⟩;obtain⟨b,off,rfl,c0⟩:=pT aq.out gN;obtain⟨hx0,hx1⟩:=bA.out x (List.mem_of_getElem? gN);have d0:¬x<0:=by omega
   have y0:x % 18446744073709551616=x:=by omega
   have y1:(z+x) % 18446744073709551616=z+x:=by omega
   have d1:¬z+x<z:=by omega
   have bH:Hid (z+x=(l.take (k+1)).sum):=af (by rw [lp gN,Q7,hz]);clear gN hz;go_wp2_with fail
   go_roundw
   case rel=>exact⟨k+1,_,bH.out,rfl,by go_num,by go_num,hlt,by trivial⟩
   case measure=>simp [RowKit.intOf];omega
  ·have hkn:k=n:=by omega
   rw [hkn,←HN.out,List.take_length]at hz;have dI:=af hz;have d1:z≤9223372036854775807:=by omega
   clear hz hkn;go_wp2_with fail
   go_ret2
   exact⟨by rw [←dI.out];rfl,by trivial⟩
theorem add_div {X Y c:Int} (hc:0<c):(X+Y) / c=X / c+Y / c+(if c≤X % c+Y % c then 1 else 0)∧(X+Y) % c=X % c+Y % c-(if c≤X % c+Y % c then c else 0):=by
 have h1:=Int.mul_ediv_add_emod X c;have h2:=Int.mul_ediv_add_emod Y c;have h3:=Int.emod_nonneg X (Int.ne_of_gt hc);have h4:=Int.emod_nonneg Y (Int.ne_of_gt hc);have h5:=Int.emod_lt_of_pos X hc;have h6:=Int.emod_lt_of_pos Y hc;have e:X+Y=c*(X / c+Y / c)+(X % c+Y % c):=by rw [Int.mul_add];omega
 split
 ·rename_i h
  have e2:X+Y=(X % c+Y % c-c)+c*(X / c+Y / c+1):=by rw [e,Int.mul_add c _ 1,Int.mul_one];omega
  constructor
  ·rw [e2,Int.add_mul_ediv_left _ _ (Int.ne_of_gt hc),Int.ediv_eq_zero_of_lt (by omega) (by omega)];omega
  ·rw [e2,Int.add_mul_emod_self_left,Int.emod_eq_of_lt (by omega) (by omega)]
 ·rename_i h
  have e2:X+Y=(X % c+Y % c)+c*(X / c+Y / c):=by omega
  constructor
  ·rw [e2,Int.add_mul_ediv_left _ _ (Int.ne_of_gt hc),Int.ediv_eq_zero_of_lt (by omega) (by omega)];omega
  ·rw [e2,Int.add_mul_emod_self_left,Int.emod_eq_of_lt (by omega) (by omega)];omega
theorem Yl (b:Int) (j:Nat):b / 2^j=2*(b / 2^(j+1))+b / 2^j % 2:=by
 have:b / 2^(j+1)=b / 2^j / 2:=by rw [Int.pow_succ,Int.ediv_ediv_of_nonneg (by exact Int.le_of_lt (Int.pow_pos (by omega)))]
 rw [this];omega
def py (a b c:Int) (j:Nat):Int:=a*(b / 2^j) / c
def pz (a b c:Int) (j:Nat):Int:=a*(b / 2^j) % c
theorem agr (a b c:Int) (j:Nat) (hc:0<c):a*(2*(b / 2^(j+1))) / c=(if c≤2*pz a b c (j+1)then 2*py a b c (j+1)+1 else 2*py a b c (j+1))∧
 a*(2*(b / 2^(j+1))) % c=(if c≤2*pz a b c (j+1)then 2*pz a b c (j+1)-c else 2*pz a b c (j+1)):=by
 have h:=add_div (X:=a*(b / 2^(j+1))) (Y:=a*(b / 2^(j+1))) hc;rw [←Int.two_mul,show 2*(a*(b / 2^(j+1)))=a*(2*(b / 2^(j+1)))by rw [Int.mul_left_comm]]at h;unfold py pz;obtain⟨h1,h2⟩:=h;rw [h1,h2];constructor<;>(split<;>split<;>omega)
theorem ags (a b c:Int) (j:Nat) (h:b / 2^j % 2=0):py a b c j=a*(2*(b / 2^(j+1))) / c∧pz a b c j=a*(2*(b / 2^(j+1))) % c:=by
 unfold py pz;rw [Yl b j,h,Int.add_zero];exact⟨rfl,rfl⟩
theorem agt (a b c:Int) (j:Nat) (hc:0<c) (h:b / 2^j % 2=1):py a b c j=(if c≤a*(2*(b / 2^(j+1))) % c+a % c then a*(2*(b / 2^(j+1))) / c+a / c+1 else a*(2*(b / 2^(j+1))) / c+a / c)∧
 pz a b c j=(if c≤a*(2*(b / 2^(j+1))) % c+a % c then a*(2*(b / 2^(j+1))) % c+a % c-c else a*(2*(b / 2^(j+1))) % c+a % c):=by
 have e:=add_div (X:=a*(2*(b / 2^(j+1)))) (Y:=a) hc;unfold py pz;rw [Yl b j,h,Int.mul_add,Int.mul_one,e.1,e.2];constructor<;>(split<;>omega)
theorem agu {a b c:Int} (j:Nat) (ha:0≤a∧a≤1000000000) (hb:0≤b∧b≤1000000000) (hc:1≤c):0≤py a b c j∧py a b c j≤1000000000000000000∧0≤pz a b c j∧pz a b c j<c:=by
 have hp:(0:Int)<2^j:=Int.pow_pos (by omega);have h1:0≤b / 2^j:=Int.ediv_nonneg hb.1 (Int.le_of_lt hp);have h2:b / 2^j≤b:=Int.ediv_le_self _ hb.1;have h3:0≤a*(b / 2^j):=Int.mul_nonneg ha.1 h1;have h4:a*(b / 2^j)≤1000000000*1000000000:=Int.le_trans (Int.mul_le_mul_of_nonneg_right ha.2 h1) (Int.mul_le_mul_of_nonneg_left (by omega) (by omega));have h5:py a b c j≤a*(b / 2^j):=Int.ediv_le_self _ h3;exact⟨Int.ediv_nonneg h3 (by omega),by omega,Int.emod_nonneg _ (by omega),Int.emod_lt_of_pos _ (by omega)⟩
theorem X1 (a b c:Int) (w:World) (ha:0≤a∧a≤1000000000) (hb:0≤b∧b≤1000000000) (hc:1≤c∧c≤1000000000):
 Calls Tryz.prog 159 #[.int .i64 a,.int .i64 b,.int .i64 c] w fun e w'=>e= .returned (.tuple #[.int .i64 (a*b / c),.bool true])∧w=w':=by
 have lR:=af fun j=>agu j ha hb hc.1;obtain⟨ha0,wO⟩:=ha;obtain⟨hb0,hb1⟩:=hb;obtain⟨hc0,ajq⟩:=hc;have d0:¬a<0:=by omega
 have d1:¬b<0:=by omega
 have d2:¬c<1:=by omega
 have y0:a % 18446744073709551616=a:=by omega
 have y1:c % 18446744073709551616=c:=by omega
 have d3:¬c=0:=by omega
 go_enter Tryz.func159,Tryz.ntmps159
 go_wp2_with fail
 go_loopw [8,9,13] (fun q r i w'=>∃(j:Nat) (x y t:Int),x=py a b c j∧y=pz a b c j∧t+1=j∧q= .int .u64 x∧r= .int .u64 y∧i= .int .i64 t∧j≤63∧w=w') (fun _ _ i _=>(RowKit.intOf i+1).toNat)
 case atStart=>
  have h0:b / 2^63=0:=Int.ediv_eq_zero_of_lt hb0 (by omega);exact⟨63,0,0,62,by unfold py;rw [h0];simp,by unfold pz;rw [h0];simp,rfl,rfl,rfl,rfl,by omega,rfl⟩
 case round=>
  obtain⟨j,x,y,t,hx,hy,ht,rfl,rfl,rfl,hj,rfl⟩:=hrel;obtain⟨hx0,hx1,hy0,hy1⟩:=lR.out j;rw [←hx]at hx0 hx1;rw [←hy]at hy0 hy1;by_cases hz:j=0
  ·subst hz
   have jw:t= -1:=by omega
   subst jw;have bH:Hid (a*b / c=x):=af (by rw [hx];unfold py;rw [Int.pow_zero,Int.ediv_one]);clear hx hy lR;have e1:x≤9223372036854775807:=by omega
   go_wp2_with fail
   go_ret2
   exact⟨by rw [bH.out];rfl,by trivial⟩
  ·obtain⟨m,rfl⟩:∃m,j=m+1:=⟨j-1,by omega⟩
   have jw:t=(m:Int):=by omega
   subst jw;have hm:m≤62:=by omega
   have cy:=af (agr a b c m (by omega));have h0:=ags a b c m;have h1:=agt a b c m (by omega);have aT:=lR.out m;obtain⟨X,hX⟩:∃X,a*(2*(b / 2^(m+1))) / c=X:=⟨_,rfl⟩;obtain⟨Y,hY⟩:∃Y,a*(2*(b / 2^(m+1))) % c=Y:=⟨_,rfl⟩;rw [←hx,←hy,hX,hY]at cy;rw [hX,hY]at h0 h1;have e1:¬9223372036854775808≤x:=by omega
   have e2:2*x % 18446744073709551616=2*x:=by omega
   have bE:2*y % 18446744073709551616=2*y:=by omega
   have cw:(m:Int) % 18446744073709551616=(m:Int):=by omega
   have Bu:=af h0;have Bv:=af h1;have bu:=af aT;clear hx hy hX hY lR h0 h1 aT;have hu0:0≤a / c:=Int.ediv_nonneg ha0 (by omega);have hu1:a / c≤1000000000:=Int.le_trans (Int.ediv_le_self _ ha0) wO;have hv0:0≤a % c:=Int.emod_nonneg _ (by omega);have hv1:a % c<c:=Int.emod_lt_of_pos _ (by omega);have L7:0≤b / 2^m:=Int.ediv_nonneg hb0 (Int.le_of_lt (Int.pow_pos (by omega)));have ajr:b / 2^m≤1000000000:=Int.le_trans (Int.ediv_le_self _ hb0) hb1;have q1:bits .and .i64 (b / 2^m) 1=b / 2^m % 2:=bits_mask .i64 62 (by decide) (fun n h0 h1=>IntWalk.i64_in n (by omega)) 1 (by decide) _ L7 (by omega);by_cases hd:c≤2*y
   ·rw [if_pos hd,if_pos hd]at cy
    obtain⟨Jq,Jr⟩:=cy.out;rw [Jq,Jr]at Bu Bv;clear cy Jq Jr;by_cases kf:b / 2^m % 2=1
    ·have Rf:(b / 2^m % 2==1)=true:=by rw [kf];rfl
     obtain⟨g1,g2⟩:=Bv.out kf;clear kf Bu Bv;by_cases hk:c≤2*y-c+a % c
     ·rw [if_pos hk]at g1 g2
      have bA:Hid (2*x+1+a / c+1=py a b c m):=af g1.symm;have xg:Hid (2*y-c+a % c-c=pz a b c m):=af g2.symm;clear g1 g2;go_wp2_with fail
      go_roundw
      case rel=>exact⟨m,_,_,_,bA.out,xg.out,by omega,by go_num,by go_num,rfl,by omega,by trivial⟩
      case measure=>simp [RowKit.intOf]
     ·rw [if_neg hk]at g1 g2
      have bA:Hid (2*x+1+a / c=py a b c m):=af g1.symm;have xg:Hid (2*y-c+a % c=pz a b c m):=af g2.symm;clear g1 g2;go_wp2_with fail
      go_roundw
      case rel=>exact⟨m,_,_,_,bA.out,xg.out,by omega,by go_num,by go_num,rfl,by omega,by trivial⟩
      case measure=>simp [RowKit.intOf]
    ·have Rf:(b / 2^m % 2==1)=false:=by rw [beq_eq_false_iff_ne];exact kf
     obtain⟨g1,g2⟩:=Bu.out (by omega);have bA:Hid (2*x+1=py a b c m):=af g1.symm;have xg:Hid (2*y-c=pz a b c m):=af g2.symm;clear kf Bu Bv g1 g2;go_wp2_with fail
     go_roundw
     case rel=>exact⟨m,_,_,_,bA.out,xg.out,by omega,by go_num,by go_num,rfl,by omega,by trivial⟩
     case measure=>simp [RowKit.intOf]
   ·rw [if_neg hd,if_neg hd]at cy
    obtain⟨Jq,Jr⟩:=cy.out;rw [Jq,Jr]at Bu Bv;clear cy Jq Jr;by_cases kf:b / 2^m % 2=1
    ·have Rf:(b / 2^m % 2==1)=true:=by rw [kf];rfl
     obtain⟨g1,g2⟩:=Bv.out kf;clear kf Bu Bv;by_cases hk:c≤2*y+a % c
     ·rw [if_pos hk]at g1 g2
      have bA:Hid (2*x+a / c+1=py a b c m):=af g1.symm;have xg:Hid (2*y+a % c-c=pz a b c m):=af g2.symm;clear g1 g2;go_wp2_with fail
      go_roundw
      case rel=>exact⟨m,_,_,_,bA.out,xg.out,by omega,by go_num,by go_num,rfl,by omega,by trivial⟩
      case measure=>simp [RowKit.intOf]
     ·rw [if_neg hk]at g1 g2
      have bA:Hid (2*x+a / c=py a b c m):=af g1.symm;have xg:Hid (2*y+a % c=pz a b c m):=af g2.symm;clear g1 g2;go_wp2_with fail
      go_roundw
      case rel=>exact⟨m,_,_,_,bA.out,xg.out,by omega,by go_num,by go_num,rfl,by omega,by trivial⟩
      case measure=>simp [RowKit.intOf]
    ·have Rf:(b / 2^m % 2==1)=false:=by rw [beq_eq_false_iff_ne];exact kf
     obtain⟨g1,g2⟩:=Bu.out (by omega);have bA:Hid (2*x=py a b c m):=af g1.symm;have xg:Hid (2*y=pz a b c m):=af g2.symm;clear kf Bu Bv g1 g2;go_wp2_with fail
     go_roundw
     case rel=>exact⟨m,_,_,_,bA.out,xg.out,by omega,by go_num,by go_num,rfl,by omega,by trivial⟩
     case measure=>simp [RowKit.intOf]
structure vA (l:List Int) (q:Int):Prop where
 len:l.length≤250
 each:∀x∈l,0≤x∧x≤1000000
 q0:0≤q
 q1:q≤250000000
 all:l.sum≤0∨q≤l.sum
theorem vA.part {l:List Int} {q least:Int} (h:vA l q) (hl:1≤least):∀x∈l,0≤kQ least q l.sum x∧kQ least q l.sum x≤x:=
 fun x hx=>af8 hl (h.each x hx).1 h.q0 h.all
theorem vA.parts {l:List Int} {q least:Int} (h:vA l q) (hl:1≤least):∀y∈m6 l least q,0≤y∧y≤1000000:=by
 intro y hy;unfold m6 at hy;obtain⟨x,hx,rfl⟩:=List.mem_map.1 hy;have:=h.part hl x hx;have:=(h.each x hx).2;omega
theorem vA.rest {l:List Int} {q least:Int} (h:vA l q) (hl:1≤least):∀y∈g6 l (m6 l least q),0≤y∧y≤1000000:=by
 intro y hy;obtain⟨k,hk,rfl⟩:=List.getElem_of_mem hy;have hk2:k<l.length:=by rwa [rZ _ _ (Jl l least q)]at hk
 have e:(g6 l (m6 l least q))[k]? =some (l[k]-kQ least q l.sum l[k]):=XZ (List.getElem?_eq_getElem hk2) (by unfold m6;rw [List.getElem?_map,List.getElem?_eq_getElem hk2];rfl);rw [List.getElem?_eq_getElem hk]at e;injection e with e;rw [e];have:=h.part hl _ (List.getElem_mem hk2);have:=h.each _ (List.getElem_mem hk2);omega
theorem vA.X0 {l:List Int} {q least:Int} (h:vA l q) (hl:1≤least) (k:Nat):0≤(m6 (l.take k) least q).sum∧((l.take k).map (kQ least q l.sum)).sum≤250000000∧0≤((l.take k).map (kQ least q l.sum)).sum:=by
 have h1:∀y∈(l.take k).map (kQ least q l.sum),0≤y∧y≤1000000:=fun y hy=>by
  obtain⟨x,hx,rfl⟩:=List.mem_map.1 hy;have:=h.part hl x (List.mem_of_mem_take hx);have:=(h.each x (List.mem_of_mem_take hx)).2;omega
 have h2:=zY (b:=1000000) fun y hy=>(h1 y hy).2;have h3:=DN fun y hy=>(h1 y hy).1;rw [List.length_map,List.length_take]at h2;have:=h.len;refine⟨?_,by omega,h3⟩;have h4:0≤(l.take k).sum:=DN fun x hx=>(h.each x (List.mem_of_mem_take hx)).1
 exact DN fun y hy=>by
  unfold m6 at hy;obtain⟨x,hx,rfl⟩:=List.mem_map.1 hy;unfold kQ;by_cases hz:0<(l.take k).sum
  ·rw [if_pos hz]
   have:0≤x*q / (l.take k).sum:=Int.ediv_nonneg (Int.mul_nonneg (h.each x (List.mem_of_mem_take hx)).1 h.q0) (by omega);split<;>omega
  ·rw [if_neg hz];split<;>omega
theorem FU {w:World} {v:Value} {l:List Int} (h:eJ.e8 w v l) {least q:Int} (hB:vA l q) (hl:1≤least):
 Calls Tryz.prog 157 #[v,.int .i64 least,.int .i64 q] w fun e w'=>∃v',e= .returned v'∧eJ.Row w' w.heap.size v' (vB l least q)∧Below w.heap.size w w':=by
 have aq:=af h;have dy:=af (hB.part hl);have eV:=af (hB.parts hl);have pq:=af (hB.rest hl);have FV:=af (hB.X0 hl);have bA:=af hB.each;have nJ:=af hB;have Mr:=af (af9 h hB.len hB.each);have hs0:0≤l.sum:=DN fun x hx=>(hB.each x hx).1
 have hs1:l.sum≤250000000:=by
  have:=zY (b:=1000000) fun x hx=>(hB.each x hx).2;have:=hB.len;omega
 have mG:=hB.q0;have hq1:=hB.q1;have jP:=af hB.len;obtain⟨a,c,rfl,_,_⟩:=h;obtain⟨n,hn⟩:∃n,l.length=n:=⟨_,rfl⟩;obtain⟨S,hS⟩:∃S,l.sum=S:=⟨_,rfl⟩;unfold vB m6 at*;simp only [hS]at dy eV pq FV hs0 hs1 Mr⊢;rw [hn]at aq Mr⊢;have hnb:(n:Int)≤250:=by have:=jP.out;omega
 have HN:=af hn;obtain⟨R,nX⟩:∃R,nZ (l.map (kQ least q S)) (jF (g6 l (l.map (kQ least q S))) (q-(l.map (kQ least q S)).sum))=R:=⟨_,rfl⟩;rw [nX];have oI:=af nX;clear hn hS hB nX;go_enter Tryz.func157,Tryz.ntmps157
 go_wp2_with fail
 refine Mr.out.mono ?_;rintro e w2 ⟨rfl,rfl⟩;clear Mr;go_wp2_with fail
 go_loopw [9,10,11] (fun v y i w'=>∃(k:Nat) (z:Int),z=q-((l.take k).map (kQ least q S)).sum∧y= .int .i64 z∧i= .int .i64 k∧k≤n∧eJ.Row w' w.heap.size v ((l.take k).map (kQ least q S))∧Below w.heap.size w w') (fun _ _ i _=>n-(RowKit.intOf i).toNat)
 case atStart=>exact⟨0,q,by simp,rfl,rfl,Nat.zero_le _,aY.Row.nil _ _,Below.refl _ _⟩
 case round=>
  obtain⟨k,z,hz,rfl,rfl,hk,hrow,hb⟩:=hrel;obtain⟨ak,rfl⟩:∃bk:World,bk=wr:=⟨_,rfl⟩;have tO:=(FV.out k).2;have cQ: -250000000≤z:=by omega
  have hz1:z≤250000000:=by omega
  clear tO;by_cases hlt:k<n
  ·have hlt':(k:Int)<(n:Int):=by omega
   obtain⟨x,gN⟩:∃x,l[k]? =some x:=⟨_,List.getElem?_eq_getElem (by rw [HN.out];exact hlt)⟩;obtain⟨b,off,rfl,c0⟩:=pT (aq.out.below hb) gN;obtain⟨hx0,hx1⟩:=bA.out x (List.mem_of_getElem? gN);obtain⟨su,IW⟩:=dy.out x (List.mem_of_getElem? gN);obtain⟨P,hP⟩:∃P,kQ least q S x=P:=⟨_,rfl⟩;rw [hP]at su IW;have bK:Hid ((l.take (k+1)).map (kQ least q S)=(l.take k).map (kQ least q S)++ [P]):=af (by rw [lp gN,List.map_append,←hP];rfl);have bH:Hid (z-P=q-((l.take (k+1)).map (kQ least q S)).sum):=af (by rw [bK.out,Q7,hz];omega);have iI:Hid (((l.take k).map (kQ least q S)).length≤250):=af (by rw [List.length_map,List.length_take];have:=jP.out;omega);generalize (l.take k).map (kQ least q S)=M at*;obtain⟨a1,c1,hv⟩:=hrow.form;obtain⟨m,hm⟩:∃m,M.length=m:=⟨_,rfl⟩;rw [hm]at hv;subst hv;have cA:=af hm;have aE:=af hb;have ec:=af hrow;have yC:=af hP;clear hrow hb hz gN hm hP;by_cases hS:0<S
   ·have aU:=af (X1 x q S ak (by omega) (by omega) (by omega))
    unfold kQ at yC;rw [if_pos hS]at yC;go_wp2_with fail
    refine aU.out.mono ?_;rintro e w2 ⟨rfl,rfl⟩;clear aU;obtain⟨t,ht⟩:∃t,x*q / S=t:=⟨_,rfl⟩;rw [ht]at yC⊢;clear ht;by_cases htl:t<least
    ·rw [if_pos htl]at yC
     obtain rfl:=yC.out;have hba:=Below.aA ak (.cells #[.int .i64 0] 2);have iH:=af (ec.out.below hba);have cC:=af (aE.out.trans (hba.mono aE.out.size));have dN:Hid (aj (ak.alloc (.cells #[.int .i64 0] 2)) ak.heap.size 2 (kC 0).toArray):=af (aj.new _ _ _);clear hba
     go_wp2_with (first
      |(at_builtin;go_loud (refine eJ.push rfl (.tmp 40) (.tmp 42) rfl w.heap.size (.slice a1 m c1) M rfl iH.out ak.heap.size 0 rfl dN.out.lt dN.out.fU (by have:=iI.out;omega) cC.out.size ?_)))
     intro v' aK bO cB ez;have cH:=af bO;have fw:=af (gF cB cC.out (cx iH.out));clear bO cB ez;go_wp2_with fail
     go_roundw
     case rel=>exact⟨k+1,_,bH.out,by go_num,by go_num,hlt,by rw [bK.out];exact cH.out,fw.out⟩
     case measure=>simp [RowKit.intOf];omega
    ·rw [if_neg htl]at yC
     obtain rfl:=yC.out;have hba:=Below.aA ak (.cells #[.int .i64 t] 2);have iH:=af (ec.out.below hba);have cC:=af (aE.out.trans (hba.mono aE.out.size));have dN:Hid (aj (ak.alloc (.cells #[.int .i64 t] 2)) ak.heap.size 2 (kC t).toArray):=af (aj.new _ _ _);clear hba
     go_wp2_with (first
      |(at_builtin;go_loud (refine eJ.push rfl (.tmp 40) (.tmp 42) rfl w.heap.size (.slice a1 m c1) M rfl iH.out ak.heap.size t rfl dN.out.lt dN.out.fU (by have:=iI.out;omega) cC.out.size ?_)))
     intro v' aK bO cB ez;have cH:=af bO;have fw:=af (gF cB cC.out (cx iH.out));clear bO cB ez;go_wp2_with fail
     go_roundw
     case rel=>exact⟨k+1,_,bH.out,by go_num,by go_num,hlt,by rw [bK.out];exact cH.out,fw.out⟩
     case measure=>simp [RowKit.intOf];omega
   ·unfold kQ at yC
    rw [if_neg hS,if_pos (by omega)]at yC;have htl:(0:Int)<least:=by omega
    obtain rfl:=yC.out;have hba:=Below.aA ak (.cells #[.int .i64 0] 2);have iH:=af (ec.out.below hba);have cC:=af (aE.out.trans (hba.mono aE.out.size));have dN:Hid (aj (ak.alloc (.cells #[.int .i64 0] 2)) ak.heap.size 2 (kC 0).toArray):=af (aj.new _ _ _);clear hba
    go_wp2_with (first
     |(at_builtin;go_loud (refine eJ.push rfl (.tmp 40) (.tmp 42) rfl w.heap.size (.slice a1 m c1) M rfl iH.out ak.heap.size 0 rfl dN.out.lt dN.out.fU (by have:=iI.out;omega) cC.out.size ?_)))
    intro v' aK bO cB ez;have cH:=af bO;have fw:=af (gF cB cC.out (cx iH.out));clear bO cB ez;go_wp2_with fail
    go_roundw
    case rel=>exact⟨k+1,_,bH.out,by go_num,by go_num,hlt,by rw [bK.out];exact cH.out,fw.out⟩
    case measure=>simp [RowKit.intOf];omega
  ·have hkn:k=n:=by omega
   rw [hkn,←HN.out,List.take_length]at hrow;rw [hkn,←HN.out,List.take_length]at hz;have cM:=af hrow;have aE:=af hb;have Jm:(l.map (kQ least q S)).length=l.length:=by rw [List.length_map]
   have ia:=af Jm;have aU:=af (DP (aq.out.below hb) hrow.sl Jm jP.out (fun x hx=>by have:=bA.out x hx;unfold nD;omega) (fun y hy=>by have:=eV.out y hy;unfold nD;omega));have dI:=af hz;generalize l.map (kQ least q S)=M at*;obtain⟨a1,c1,hv⟩:=hrow.form;rw [ia.out,HN.out]at hv;subst hv;clear hkn hrow hb hz Jm;go_wp2_with fail
   refine aU.out.mono ?_;rintro e w2 ⟨v2,rfl,gv,hb2⟩;have hrl:(g6 l M).length≤250:=by rw [rZ _ _ ia.out];exact jP.out
   have sN:=af (Q8 gv.sl hrl pq.out z (by omega) (by omega));have aT:=af (aE.out.trans (hb2.mono aE.out.size));have jx:=af (cM.out.below hb2);have tM:Hid ((jF (g6 l M) z).length=M.length):=af (by rw [r0,rZ _ _ ia.out,ia.out])
   have zV:Hid (∀y∈jF (g6 l M) z,nD y):=af fun y hy=>by
    obtain⟨j,hj,rfl⟩:=List.getElem_of_mem hy;have hj2:j<(g6 l M).length:=by rwa [r0]at hj
    have e:=Ms (q:=z) (List.getElem?_eq_getElem hj2);rw [List.getElem?_eq_getElem hj]at e;injection e with e;rw [e];have h1:=pq.out _ (List.getElem_mem hj2);have h2:=Mt (l:=(g6 l M).take j) (q:=z) (b:=250000000) (fun y hy=>(pq.out y (List.mem_of_mem_take hy)).1) (by omega) (by omega) (by omega);have h3:=X2 (b:=250000000) h1.1 h2.1 h2.2;unfold nD;omega
   clear gv hb2 aU hrl;go_wp2_with fail
   refine sN.out.mono ?_;rintro e w3 ⟨v3,rfl,j4,hb3⟩;have X3:=af (DQ (jx.out.below hb3).sl j4.sl tM.out (by rw [ia.out];exact jP.out) (fun y hy=>by have:=eV.out y hy;unfold nD;omega) zV.out);have aN:=af (aT.out.trans (hb3.mono aT.out.size));clear j4 hb3 sN;go_wp2_with fail
   refine X3.out.mono ?_;rintro e av ⟨v4,rfl,hO,hb4⟩;have fL:=af (hO.base aN.out.size);have bM:=af (aN.out.trans (hb4.mono aN.out.size));clear hO hb4 X3;go_wp2_with fail
   go_ret;exact⟨_,rfl,by rw [←oI.out,←dI.out];exact fL.out,bM.out⟩
end Go.Proofs.YtmaijkoopjocdaaGreat
