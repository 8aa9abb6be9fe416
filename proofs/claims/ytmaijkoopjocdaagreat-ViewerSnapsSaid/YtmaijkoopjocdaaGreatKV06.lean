import Derived.Test.YtmaijkoopjocdaaGreatKV02
import Derived.IntWalk
set_option maxRecDepth 100000
set_option maxHeartbeats 64000000
namespace Go.Proofs.YtmaijkoopjocdaaGreat
open Go.RowKit Go.Lib
theorem aff {w:World} {B aM:Nat} {s:Value} {R:List aB} {x:aB} (h:bS.Row w B s R) (hv:av w aM 47 x.cells.toArray) (hB:B≤w.heap.size) (hl:R.length≤900000):
 Calls Tryz.prog 124 #[s,↑R.length,.slice ↑aM 1 1] w fun e w'=>∃v',e= .returned v'∧bS.Row w' B v' (R++ [x])∧aK (fun g=>s.ownBlock=some g) w w'∧(v'.ownBlock=s.ownBlock∨v'.ownBlock=some w.heap.size):=by
 have en:=af h;have dD:=af hv;rcases h.2 with⟨hs,h0⟩|⟨g,c,cur,hs,vF,hb,hnc,jy,hcs,jZ⟩
 ·subst hs
  rw [h0];clear h hv;go_enter Tryz.func124,Tryz.ntmps124
  go_wp2_with (first
   |(at_builtin;go_loud (refine bS.push rfl (.tmp 23) (.tmp 24) rfl B (.slice none 0 0) R rfl en.out aM x rfl dD.out.lt dD.out.gH (by omega) hB ?_)))
  intro v' aN bX cQ eG;have bM:=af bX;have bU:=af (fK cQ);have e9:=af eG;clear bX cQ eG;go_wp2_with fail
  go_ret;exact⟨_,rfl,bM.out,bU.out.more (fun k hk=>hk.symm▸rfl),e9.out⟩
 ·subst hs
  unfold maxLen at jy;have q1:R.length≤c:=hnc;obtain⟨n,hn⟩:=ai R.length;rw [hn]at q1 hl⊢;have HN:=af hn;replace en:Hid (bS.Row w B (.slice ↑g n c) R):=af (by rw [←hn];exact en.out);clear h hv vF hb hnc hcs jZ hn;go_enter Tryz.func124,Tryz.ntmps124
  go_wp2_with (first
   |(at_builtin;go_loud (refine bS.push rfl (.tmp 23) (.tmp 24) rfl B (.slice ↑g n c) R rfl en.out aM x rfl dD.out.lt dD.out.gH (by rw [HN.out];omega) hB ?_)))
  all_goals (
   intro v' aN bX cQ eG;have bM:=af bX;have bU:=af (fK cQ);have e9:=af eG;clear bX cQ eG;go_wp2_with fail
   go_ret;exact⟨_,rfl,bM.out,bU.out,e9.out⟩)
theorem T2 {w:World} {B aM:Nat} {s:Value} {R:List aB} {x:aB} {i:Nat} (h:bS.Row w B s R) (hi:i≤R.length) (hv:av w aM 47 x.cells.toArray) (hne:s.ownBlock≠some aM) (hB:B≤w.heap.size) (hl:R.length≤900000):
 Calls Tryz.prog 124 #[s,↑i,.slice ↑aM 1 1] w fun e w'=>∃v',e= .returned v'∧bS.Row w' B v' (R.take i++ [x]++R.drop i)∧aK (fun g=>s.ownBlock=some g) w w'∧(v'.ownBlock=s.ownBlock∨v'.ownBlock=some w.heap.size):=by
 by_cases hin:i=R.length
 ·subst hin
  refine(aff h hv hB hl).mono ?_;rintro e w' ⟨v',h1,h2,h3,h4⟩;exact⟨v',h1,by rw [List.take_length,List.drop_length,List.append_nil];exact h2,h3,h4⟩
 ·have JP:i<R.length:=by omega
  rcases h.2 with⟨hs,h0⟩|⟨g,c,cur,hs,vF,hb,hnc,jy,hcs,jZ⟩
  ·omega
  ·subst hs
   have fC:aM≠g:=by rintro rfl;exact hne rfl
   by_cases hroom:R.length+1≤c
   ·refine(afg hb rfl hcs jZ vF jy JP hroom hv fC hl).mono ?_
    rintro e w' ⟨h1,h2,h3⟩;exact⟨_,h1,h2,h3.more fun k hk=>by rw [hk];rfl,.inl rfl⟩
   ·obtain rfl:c=R.length:=by omega
    refine(afh hb rfl hcs jZ hB JP hv hl).mono ?_;rintro e w' ⟨c',h1,h2,h3⟩;exact⟨_,h1,h2,h3.more fun _ h=>h.elim,.inr rfl⟩
theorem adq {w:World} {g os i m c sc:Nat} {cur:Array Value} (hb:av w g 47 cur) (L:List aB) (hL:L.length=m) (hroom:i+m≤c)
 (hsrc:∀j v,(L.flatMap aB.cells)[j]? =some v→w.cell? ⟨g,os+j,none⟩=some v) (hfit:i*3+(L.flatMap aB.cells).length≤cur.size) (ty:TypeId):
 (Builtin.append_ #[45,45] ty #[.slice ↑g i c,.slice (some ⟨g,os,none⟩) m sc]).run Tryz.prog w= .ok (.slice ↑g (i+m) c) (w.setRow g (cur.toList.take (i*3)++L.flatMap aB.cells++cur.toList.drop (i*3+(L.flatMap aB.cells).length)).toArray):=by
 have hl:=run_loadCells_list (P:=Tryz.prog) w ⟨g,os,none⟩ (L.flatMap aB.cells) (fun j v hj=>by rw [vE];exact hsrc j v hj);have hst:=run_storeCells_at Tryz.prog g (i*3) 47 (L.flatMap aB.cells) 0 cur w hb (by simpa using hfit) (bS.kI L);rw [mK aB.cells 3 (fun _=>rfl),hL]at hl;obtain⟨i0,hi,dm,hz1,eg⟩:=info_parts IU;have hu:Tryz.prog.underlying 45=some (.slice 47):=Tryz.underlying45;have ha:(⟨g,0,none⟩:Addr).add (i*3)=⟨g,i*3,none⟩:=by rw [vE,Nat.zero_add]
 simp only [Nat.add_zero]at hst;simp [Builtin.append_,run_underlying hu,Builtin.lenOf,Builtin.firstCells,sizeOf,typeInfo,hi,hz1,hroom,hl,ha,hst]
theorem adr {w:World} {g o c:Nat} {cur:Array Value} (hb:av w g 47 cur) (hfit:o+3≤cur.size) (ty:TypeId):
 (Builtin.clear_ #[45] ty #[.slice (some ⟨g,o,none⟩) 1 c]).run Tryz.prog w= .ok (.tuple #[]) (w.setRow g (cur.toList.take o++ [Value.int .i64 0,Value.int .i64 0,Value.int .i64 0]++cur.toList.drop (o+3)).toArray):=by
 obtain⟨i0,hi,dm,hz1,eg⟩:=info_parts IU;have hu:Tryz.prog.underlying 45=some (.slice 47):=Tryz.underlying45
 have hst:=run_storeCells_at Tryz.prog g o 47 [Value.int .i64 0,Value.int .i64 0,Value.int .i64 0] 0 cur w hb (by simpa using hfit) (by
  intro v hv;simp only [List.mem_cons,List.not_mem_nil,or_false,or_self]at hv;rw [hv];rfl)
 simp only [Nat.add_zero]at hst
 have ads:(Builtin.zeroCells (Value.agg #[.int .i64 0,.int .i64 0,.int .i64 0]).cells 1).toList= [Value.int .i64 0,Value.int .i64 0,Value.int .i64 0]:=by
  simp [Builtin.zeroCells,Value.cells,List.range_succ]
 have adt:(zeroValue 47).run Tryz.prog w= .ok (.agg #[.int .i64 0,.int .i64 0,.int .i64 0]) w:=by simp [zeroValue,typeInfo,hi,dm]
 have adu:(storeCells ⟨g,o,none⟩ [Value.int .i64 0,Value.int .i64 0,Value.int .i64 0]).run Tryz.prog w= .ok () (w.setRow g (cur.toList.take o++ [Value.int .i64 0,Value.int .i64 0,Value.int .i64 0]++cur.toList.drop (o+3)).toArray):=hst;simp only [Builtin.clear_,Sem.run_bind,run_underlying hu,Result.andThen_ok,List.getElem?_toArray,List.getElem?_cons_zero,adt,ads,adu];rfl
theorem acB {w:World} {B:Nat} {s:Value} {R:List aB} {i:Nat} (h:bS.Row w B s R) (hi:i<R.length) (hl:R.length≤900000):
 Calls Tryz.prog 121 #[s,↑i,.int .i64 ((i:Int)+1)] w fun e w'=>∃v',e= .returned v'∧bS.Row w' B v' (R.eraseIdx i)∧aK (fun g=>s.ownBlock=some g) w w'∧v'.ownBlock=s.ownBlock:=by
 rcases h.2 with⟨hs,h0⟩|⟨g,c,cur,hs,vF,hb0,hnc,jy,hcs,jZ⟩
 ·omega
 subst hs;have hb:av w g 47 cur:=hb0;obtain⟨n,hn⟩:=ai R.length;have hc:cur.size=c*3:=hcs;have ht:cur.toList.take (n*3)=R.flatMap aB.cells:=by rw [←hn];exact jZ
 rw [hn]at hi hl hnc;have hcl:cur.toList.length=c*3:=by rw [Array.length_toList,hc]
 have hdl:=Pr R (i+1);rw [hn]at hdl;have hD:(R.drop (i+1)).length=n-(i+1):=by rw [List.length_drop,hn]
 have Cs:∀(j:Nat) (v:Value),(R.flatMap aB.cells)[j]? =some v→w.cell? ⟨g,j,none⟩=some v:=by
  intro j v hj;rw [hb.cell,←Array.getElem?_toList];rw [←ht,List.getElem?_take]at hj;split at hj
  ·exact hj
  ·cases hj
 have hap:=fun(ty:TypeId) (os sc:Nat) (hos:os=(i+1)*3∨n=i+1)=>adq (w:=w.drew) (g:=g) (os:=os) (i:=i) (m:=n-(i+1)) (c:=c) (sc:=sc) hb.drew (R.drop (i+1)) hD (by omega) (fun j v hj=>by
  rcases hos with rfl|hos
  ·rw [Ps (by omega)]at hj
   exact Cs _ v hj
  ·have h1:=dM hj
   rw [hdl]at h1;omega) (by rw [hdl,hc];omega) ty
 have hb1:=hb.drew.row (cur.toList.take (i*3)++(R.drop (i+1)).flatMap aB.cells++cur.toList.drop (i*3+((R.drop (i+1)).flatMap aB.cells).length)).toArray;have cN:aK (fun k=>k=g) w (w.drew.setRow g (cur.toList.take (i*3)++(R.drop (i+1)).flatMap aB.cells++cur.toList.drop (i*3+((R.drop (i+1)).flatMap aB.cells).length)).toArray):=(Below.keeps (Below.bO w 1)).trans (zC _ _ _)
 have hP:cur.toList.take (i*3)=(R.take i).flatMap aB.cells:=by
  rw [←Pt (by omega),←ht,List.take_take,Nat.min_eq_left (by omega)]
 rw [show i+(n-(i+1))=n-1 by omega]at hap;generalize si:cur.toList.take (i*3)++(R.drop (i+1)).flatMap aB.cells++cur.toList.drop (i*3+((R.drop (i+1)).flatMap aB.cells).length)=iW at*
 have zD:iW.length=c*3:=by
  rw [←si,List.length_append,List.length_append,List.length_take,List.length_drop,hdl,hcl];omega
 have IV:((R.take i).flatMap aB.cells++(R.drop (i+1)).flatMap aB.cells).length=(n-1)*3:=by
  rw [List.length_append,mK aB.cells 3 (fun _=>rfl),List.length_take,hdl,hn];omega
 have jm:iW.take ((n-1)*3)=(R.take i).flatMap aB.cells++(R.drop (i+1)).flatMap aB.cells:=by
  rw [←si,hP,List.take_append_of_le_length (by rw [IV];exact Nat.le_refl _),List.take_of_length_le (by rw [IV];exact Nat.le_refl _)]
 generalize hw1:w.drew.setRow g iW.toArray=w1 at*;have Mm:=fun(ty:TypeId) (sc:Nat)=>adr (w:=w1) (g:=g) (o:=(n-1)*3) (c:=sc) hb1 (by rw [List.size_toArray,zD];omega) ty;rw [List.toList_toArray]at Mm;have hb2:=hb1.row (iW.take ((n-1)*3)++ [Value.int .i64 0,Value.int .i64 0,Value.int .i64 0]++iW.drop ((n-1)*3+3)).toArray;have hk2:=cN.trans (zC w1 g (iW.take ((n-1)*3)++ [Value.int .i64 0,Value.int .i64 0,Value.int .i64 0]++iW.drop ((n-1)*3+3)).toArray);generalize s7:iW.take ((n-1)*3)++ [Value.int .i64 0,Value.int .i64 0,Value.int .i64 0]++iW.drop ((n-1)*3+3)=vG at*
 have adv:vG.length=c*3:=by
  rw [←s7,List.length_append,List.length_append,List.length_take,List.length_drop,zD];simp;omega
 have nI:vG.take ((n-1)*3)=(R.take i).flatMap aB.cells++(R.drop (i+1)).flatMap aB.cells:=by
  rw [←s7,jm,List.append_assoc,List.take_append_of_le_length (by rw [IV];exact Nat.le_refl _),List.take_of_length_le (by rw [IV];exact Nat.le_refl _)]
 generalize vH:w1.setRow g vG.toArray=w2 at*;have lO:=af hap;have kj:=af Mm;have aS:=af hb2;have s8:=af hk2;have nc:=af nI;have HN:=af hn;unfold maxLen at jy;have q1:¬(c=n-1):=by omega
 have fw:(0:Int)≤(i:Int)+1:=by omega
 have z2:i≤n:=by omega
 have z3:i≤c:=by omega
 have z4:i+1≤n:=by omega
 have z5:(i:Int)+1≤(n:Int):=by omega
 have Gg:(i:Int)≤(i:Int)+1:=by omega
 have Gh:n-1≤n:=by omega
 have AO:n≤c:=hnc;have z9:n-(n-1)=1:=by omega
 have y1:((i:Int)==(i:Int)+1)=false:=by rw [beq_eq_false_iff_ne];omega
 obtain⟨os,hos,IW⟩:∃os,(os=(i+1)*3∨n=i+1)∧(if c=i+1 then some (⟨g,0,none⟩:Addr)else some ⟨g,(i+1)*3,none⟩)=some ⟨g,os,none⟩:=by
  by_cases n9:c=i+1
  ·exact⟨0,.inr (by omega),if_pos n9⟩
  ·exact⟨(i+1)*3,.inl rfl,if_neg n9⟩
 have adw:=af hos;clear hos;clear h hb0 hb hcs jZ hc ht Cs hap Mm hb1 hb2 cN hk2 hP si s7 jm nI hw1 vH hdl hD hcl IV hn;rw [HN.out];go_enter Tryz.func121,Tryz.ntmps121
 go_wp2_with fail
 refine cP (S:=fun _=>True) True.intro fun hHeld=>?_;refine au 0 ?_;refine au 1 ?_;refine au 2 ?_;refine au 3 ?_;refine au 4 ?_;refine au 5 ?_;refine aU 6 fun K hK=>?_;refine step_eq (by rfl) (.tmp 22) (.tmp 25) 45 45 (by rfl) _ _ (by rfl) (by rfl) (lO.out _ _ _ adw.out) ?_;refine hK.out _ _ True.intro (fun hHeld=>?_);clear hK K;refine dY 7 fun K hK=>?_;go_simp;refine hK.out _ _ ?_;clear hK K hHeld;have Mm:=kj.out;go_wp2_with fail
 go_ret;have hlen:(R.eraseIdx i).length=n-1:=by rw [List.length_eraseIdx,HN.out,if_pos hi]
 have hfl:(R.eraseIdx i).flatMap aB.cells=(R.take i).flatMap aB.cells++(R.drop (i+1)).flatMap aB.cells:=by rw [List.eraseIdx_eq_take_drop_succ,List.flatMap_append]
 refine⟨_,rfl,⟨by rw [hlen];show((R.eraseIdx i).flatMap aB.cells).length=(n-1)*3;rw [mK aB.cells 3 (fun _=>rfl),hlen],.inr ⟨g,c,_,by rw [hlen];rfl,vF,aS.out,by rw [hlen];omega,by unfold maxLen;exact jy,?_,?_⟩⟩,s8.out.more (fun k hk=>by rw [hk];rfl),rfl⟩
 ·rw [List.size_toArray,adv];rfl
 ·show List.take ((R.eraseIdx i).length*3) _=(R.eraseIdx i).flatMap aB.cells
  rw [hlen,hfl,List.toList_toArray,nc.out]
theorem Wz (side x y:Int) (w:World):
 Calls Tryz.prog 123 #[↑side,↑x,↑y] w fun e w'=>e= .returned (.bool (cT side x y))∧w=w':=by
 by_cases h:side=1
 ·subst h
  go_enter Tryz.func123,Tryz.ntmps123
  go_wp2_with fail
  go_ret;exact⟨by rfl,by trivial⟩
 ·have hv:cT side x y=decide (x<y):=if_neg h
  rw [hv];have h1:(side==1)=false:=by rw [beq_eq_false_iff_ne];exact h
  go_enter Tryz.func123,Tryz.ntmps123
  go_wp2_with fail
  go_ret;exact⟨by trivial,by trivial⟩
theorem WA (side x y:Int) (w:World):
 Calls Tryz.prog 72 #[↑side,↑x,↑y] w fun e w'=>e= .returned (.bool (cT side x y))∧w=w':=by
 unfold cT;by_cases h:side=1
 ·subst h
  go_enter Tryz.func72,Tryz.ntmps72
  go_wp2_with fail
  go_ret;exact⟨by trivial,by trivial⟩
 ·have hb:(side==1)=false:=by rw [beq_eq_false_iff_ne];exact h
  rw [if_neg h];go_enter Tryz.func72,Tryz.ntmps72
  go_wp2_with fail
  go_ret;exact⟨by trivial,by trivial⟩
def aB.agg (x:aB):Value:= .agg #[.int .i64 x.ap,.int .i64 x.aq,.int .i64 x.count]
def aF.agg (m:aF):Value:= .agg #[.int .i64 m.seq,.int .i64 m.inst,.int .i64 m.side,.int .i64 m.ap,.int .i64 m.aq,.int .i64 m.count,.bool m.imp]
theorem afb (x:aB) (ay:Nat) (p:Int) (w:World) (hg:ay<w.heap.size) (hc:w.cell? ⟨ay,3,none⟩=some ↑p):
 Calls Tryz.prog 120 #[x.agg,.pointer ↑ay] w fun e w'=>e= .returned (.bool (x.ap==p))∧Below w.heap.size w w':=by
 unfold aB.agg;have vZ:(w.alloc (.cells #[↑x.ap,↑x.aq,↑x.count] 47)).cell? ⟨ay,3,none⟩=some ↑p:=((Below.aI w _).cell (p:=⟨ay,3,none⟩) hg).trans hc;have aG:=af (Below.aI w (.cells #[↑x.ap,↑x.aq,↑x.count] 47));clear hc;go_enter Tryz.func120,Tryz.ntmps120
 go_wp2_with fail
 go_ret;exact⟨by trivial,aG.out⟩
theorem afc (x:aB) (ay:Nat) (sd p:Int) (w:World) (hg:ay<w.heap.size) (vZ:w.cell? ⟨ay,2,none⟩=some ↑sd) (hc:w.cell? ⟨ay,3,none⟩=some ↑p):
 Calls Tryz.prog 122 #[x.agg,.pointer ↑ay] w fun e w'=>e= .returned (.bool (cT sd p x.ap))∧Below w.heap.size w w':=by
 unfold aB.agg;have D8:(w.alloc (.cells #[↑x.ap,↑x.aq,↑x.count] 47)).cell? ⟨ay,2,none⟩=some ↑sd:=((Below.aI w _).cell (p:=⟨ay,2,none⟩) hg).trans vZ;have WB:(w.alloc (.cells #[↑x.ap,↑x.aq,↑x.count] 47)).cell? ⟨ay,3,none⟩=some ↑p:=((Below.aI w _).cell (p:=⟨ay,3,none⟩) hg).trans hc;have aG:=af (Below.aI w (.cells #[↑x.ap,↑x.aq,↑x.count] 47));clear hc vZ;go_enter Tryz.func122,Tryz.ntmps122
 go_wp2_with fail
 refine(Wz sd p x.ap _).mono ?_;rintro e w1 ⟨rfl,rfl⟩;go_wp2_with fail
 go_ret;exact⟨by trivial,aG.out⟩
def n8 {α:Type} (f:α→Bool) (L:List α):Int:=match L.findIdx? f with|some k=>k|none=> -1
theorem WC {α:Type} {f:α→Bool} {L:List α} {k:Nat} {x:α} (hx:L[k]? =some x) (h:∀(j:Nat) (y:α),j<k→L[j]? =some y→f y=false) (hf:f x=true):n8 f L=k:=by
 have:L.findIdx? f=some k:=by
  rw [List.findIdx?_eq_some_iff_getElem];obtain⟨h1,h2⟩:=lB hx;exact⟨h1,by rw [h2];exact hf,fun j hj=>by have:=h j _ hj (List.getElem?_eq_getElem (by omega));simpa using this⟩
 unfold n8;rw [this]
theorem WD {α:Type} {f:α→Bool} {L:List α} (h:∀(j:Nat) (y:α),L[j]? =some y→f y=false):n8 f L= -1:=by
 have:L.findIdx? f=none:=by
  rw [List.findIdx?_eq_none_iff];intro x hx;obtain⟨j,hj⟩:=List.mem_iff_getElem?.1 hx;exact h j x hj
 unfold n8;rw [this]
theorem Ir {w:World} {v:Value} {L:List aB} (h:bS.eT w v L) (hl:L.length≤900000) (ay:Nat) (p:Int) (hg:ay<w.heap.size) (hc:w.cell? ⟨ay,3,none⟩=some ↑p):
 Calls Tryz.prog 119 #[v,.func (Fn.func 120) #[] #[.pointer ↑ay]] w fun e w'=>e= .returned (.int .i64 (n8 (fun y=>y.ap==p) L))∧Below w.heap.size w w':=by
 have aD:=af h;obtain⟨a,c,rfl,_,_⟩:=h;have bU:=af hg;have bg:=af hc;clear hg hc;go_enter Tryz.func119,Tryz.ntmps119
 go_wp2_with fail
 go_loopw [8] (fun i w'=>∃k:Nat,i=↑k∧k≤L.length∧(∀j y,j<k→L[j]? =some y→(fun y=>y.ap==p) y=false)∧Below w.heap.size w w') (fun i _=>L.length-(RowKit.intOf i).toNat)
 case atStart=>exact⟨0,rfl,Nat.zero_le _,fun j y hj=>absurd hj (by omega),Below.refl _ _⟩
 case round=>
  obtain⟨k,rfl,hk,hall,hb⟩:=hrel;obtain⟨ax,rfl⟩:=aj wr;have cO:=af hall;have aG:=af hb;have tr:ay<ax.heap.size:=Nat.lt_of_lt_of_le bU.out hb.size;have rq:ax.cell? ⟨ay,3,none⟩=some ↑p:=(hb.cell (p:=⟨ay,3,none⟩) bU.out).trans bg.out;have hsl:=aD.out.below hb;clear hall hb;by_cases hlt:k<L.length
  ·have hlt':(k:Int)<(L.length:Int):=by omega
   obtain⟨x,hx⟩:∃x,L[k]? =some x:=⟨_,List.getElem?_eq_getElem hlt⟩;obtain⟨b,off,c',he,_,hcs⟩:=hsl.get hx;injection he with he _ eS;subst he;subst eS;have c0:ax.cell? ⟨b,off+k*3,none⟩=some ↑x.ap:=hcs 0 _ rfl;have c1:ax.cell? ⟨b,off+k*3+1,none⟩=some ↑x.aq:=hcs 1 _ rfl;have c2:ax.cell? ⟨b,off+k*3+2,none⟩=some ↑x.count:=hcs 2 _ rfl;have kj:=af (afb x ay p _ tr rq);have bz:=af hx;unfold aB.agg at kj;clear hcs hx hsl rq tr;go_wp2_with fail
   refine kj.out.mono ?_;rintro e w1 ⟨rfl,hb1⟩;have bA:=ag aG hb1;clear hb1 kj c0 c1 c2;by_cases ht:(fun y=>y.ap==p) x=true
   ·have nI:=ht
    dsimp only at nI;have dD:=af (WC bz.out cO.out ht);clear ht;go_wp2_with fail
    go_ret;exact⟨by rw [dD.out];try rfl,bA.out⟩
   ·have jm:(fun y=>y.ap==p) x=false:=by simpa using ht
    have nI:=jm;dsimp only at nI;have bP:=af jm;clear ht jm;go_wp2_with fail
    go_roundw
    case rel=>
     refine⟨k+1,by go_num,hlt,fun j y hj hy=>?_,bA.out⟩;rcases Nat.lt_or_ge j k with h1|h1
     ·exact cO.out j y h1 hy
     ·have:j=k:=by omega
      subst this;have h2:=bz.out;rw [hy]at h2;injection h2 with h2;rw [h2];exact bP.out
    case measure=>simp [RowKit.intOf];omega
  ·have dD:Hid (n8 (fun y=>y.ap==p) L= -1):=af (WD fun j y hy=>cO.out j y (by have:=dM hy;omega) hy)
   clear hsl rq tr;go_wp2_with fail
   go_ret;exact⟨by rw [dD.out];try rfl,aG.out⟩
theorem T1 {w:World} {v:Value} {L:List aB} (h:bS.eT w v L) (hl:L.length≤900000) (ay:Nat) (sd p:Int) (hg:ay<w.heap.size) (vZ:w.cell? ⟨ay,2,none⟩=some ↑sd) (hc:w.cell? ⟨ay,3,none⟩=some ↑p):
 Calls Tryz.prog 119 #[v,.func (Fn.func 122) #[] #[.pointer ↑ay]] w fun e w'=>e= .returned (.int .i64 (n8 (fun y=>cT sd p y.ap) L))∧Below w.heap.size w w':=by
 have aD:=af h;obtain⟨a,c,rfl,_,_⟩:=h;have bU:=af hg;have bg:=af hc;have qV:=af vZ;clear hg hc vZ;go_enter Tryz.func119,Tryz.ntmps119
 go_wp2_with fail
 go_loopw [8] (fun i w'=>∃k:Nat,i=↑k∧k≤L.length∧(∀j y,j<k→L[j]? =some y→(fun y=>cT sd p y.ap) y=false)∧Below w.heap.size w w') (fun i _=>L.length-(RowKit.intOf i).toNat)
 case atStart=>exact⟨0,rfl,Nat.zero_le _,fun j y hj=>absurd hj (by omega),Below.refl _ _⟩
 case round=>
  obtain⟨k,rfl,hk,hall,hb⟩:=hrel;obtain⟨ax,rfl⟩:=aj wr;have cO:=af hall;have aG:=af hb;have tr:ay<ax.heap.size:=Nat.lt_of_lt_of_le bU.out hb.size;have rq:ax.cell? ⟨ay,3,none⟩=some ↑p:=(hb.cell (p:=⟨ay,3,none⟩) bU.out).trans bg.out;have vZ:ax.cell? ⟨ay,2,none⟩=some ↑sd:=(hb.cell (p:=⟨ay,2,none⟩) bU.out).trans qV.out;have hsl:=aD.out.below hb;clear hall hb;by_cases hlt:k<L.length
  ·have hlt':(k:Int)<(L.length:Int):=by omega
   obtain⟨x,hx⟩:∃x,L[k]? =some x:=⟨_,List.getElem?_eq_getElem hlt⟩;obtain⟨b,off,c',he,_,hcs⟩:=hsl.get hx;injection he with he _ eS;subst he;subst eS;have c0:ax.cell? ⟨b,off+k*3,none⟩=some ↑x.ap:=hcs 0 _ rfl;have c1:ax.cell? ⟨b,off+k*3+1,none⟩=some ↑x.aq:=hcs 1 _ rfl;have c2:ax.cell? ⟨b,off+k*3+2,none⟩=some ↑x.count:=hcs 2 _ rfl;have kj:=af (afc x ay sd p _ tr vZ rq);have bz:=af hx;unfold aB.agg at kj;clear hcs hx hsl rq vZ tr;go_wp2_with fail
   refine kj.out.mono ?_;rintro e w1 ⟨rfl,hb1⟩;have bA:=ag aG hb1;clear hb1 kj c0 c1 c2;by_cases ht:(fun y=>cT sd p y.ap) x=true
   ·have nI:=ht
    dsimp only at nI;have dD:=af (WC bz.out cO.out ht);clear ht;go_wp2_with fail
    go_ret;exact⟨by rw [dD.out];try rfl,bA.out⟩
   ·have jm:(fun y=>cT sd p y.ap) x=false:=by simpa using ht
    have nI:=jm;dsimp only at nI;have bP:=af jm;clear ht jm;go_wp2_with fail
    go_roundw
    case rel=>
     refine⟨k+1,by go_num,hlt,fun j y hj hy=>?_,bA.out⟩;rcases Nat.lt_or_ge j k with h1|h1
     ·exact cO.out j y h1 hy
     ·have:j=k:=by omega
      subst this;have h2:=bz.out;rw [hy]at h2;injection h2 with h2;rw [h2];exact bP.out
    case measure=>simp [RowKit.intOf];omega
  ·have dD:Hid (n8 (fun y=>cT sd p y.ap) L= -1):=af (WD fun j y hy=>cO.out j y (by have:=dM hy;omega) hy)
   clear hsl rq vZ tr;go_wp2_with fail
   go_ret;exact⟨by rw [dD.out];try rfl,aG.out⟩
def eO.own (s:eO):Option Nat:=(Value.slice s.a s.n s.c).ownBlock
def bB.sh (p:bB) (s:Nat):eO:=if s=0 then p.s else p.t
def Iz (P:List bB) (t:Nat):Prop:=∀(j j' s s':Nat) (p p':bB) (g:Nat),P[j]? =some p→P[j']? =some p'→s<2→s'<2→2*j+s<t→2*j'+s'<t→2*j+s≠2*j'+s'→(p.sh s).own=some g→(p'.sh s').own≠some g
def F5 (w:World) (B:Nat) (v:Value) (V:bG):Prop:=
 ∃P:List bB,ey.Row w B v P∧P.length=V.length∧(∀(j:Nat) (p:bB) (x:aX×aX),P[j]? =some p→V[j]? =some x→bV bS w B p.s x.1∧bV bS w B p.t x.2)∧Iz P (2*V.length)
theorem F5.fh {w:World} {B:Nat} {v:Value} {V:bG} (h:F5 w B v V):cg ey bS w B v V:=by
 obtain⟨P,h1,h2,h3,_⟩:=h;exact⟨P,h1,h2,h3⟩
structure qG (W w:World) (aM gr:Nat) (v:Value) (V:bG) (n k:Nat):Prop where
 box:av w aM 43 #[v]
 res:av w gr 43 #[.slice none 0 0]
 row:∃P:List bB,ey.Row w W.heap.size v P∧P.length=V.length∧(∀(j:Nat) (p:bB) (x:aX×aX),P[j]? =some p→V[j]? =some x→bV bS w (if j<n∨j=n∧0<k then W.heap.size else 0) p.s x.1∧bV bS w (if j<n∨j=n∧1<k then W.heap.size else 0) p.t x.2)∧Iz P (2*n+k)
 aJ:Below W.heap.size W w
 alR:W.heap.size≤aM
 O9:W.heap.size≤gr
section
variable {W w w':World} {aM gr:Nat} {v:Value} {V:bG} {n k:Nat}
theorem qG.form (h:qG W w aM gr v V n k):∃a c,v= .slice a V.length c:=by
 obtain⟨P,h1,h2,_⟩:=h.row;obtain⟨a,c,e⟩:=h1.form;exact⟨a,c,by rw [e,h2]⟩
theorem qG.next (h:qG W w aM gr v V n 2):qG W w aM gr v V (n+1) 0:=by
 obtain⟨h1,h2,⟨P,h3,h4,h5,h9⟩,h6,h7,h8⟩:=h;refine⟨h1,h2,⟨P,h3,h4,fun j p x hp hx=>?_,by rw [show 2*(n+1)+0=2*n+2 by omega];exact h9⟩,h6,h7,h8⟩;have:=h5 j p x hp hx;have e1:(j<n∨j=n∧0<2)=(j<n+1∨j=n+1∧0<0):=by simp;omega
 have e2:(j<n∨j=n∧1<2)=(j<n+1∨j=n+1∧1<0):=by simp;omega
 simp only [e1,e2]at this;exact this
theorem qG.below (h:qG W w aM gr v V n k) (hb:Below w.heap.size w w'):qG W w' aM gr v V n k:=by
 obtain⟨h1,h2,⟨P,h3,h4,h5,h9⟩,h6,h7,h8⟩:=h;exact⟨h1.below hb,h2.below hb,⟨P,h3.below hb,h4,fun j p x hp hx=>⟨(h5 j p x hp hx).1.below hb,(h5 j p x hp hx).2.below hb⟩,h9⟩,h6.trans (hb.mono h6.size),h7,h8⟩
theorem bl.Row.cC {α:Type} {Y:bl α} {B:Nat} {u:Value} {L:List α} (h:Y.Row w B u L) {g:Nat} {t:TypeId} (ht:ck w g t) (hne:Y.t≠t) (i:Nat) (x:Value):Y.Row (w.setCell ⟨g,i,none⟩ x) B u L:=
 zv h (ct w g i x) fun k hk e=>(eo h k hk).ne ht hne e
theorem bV.cC {Y:bl aB} {B:Nat} {s:eO} {d:aX} (h:bV Y w B s d) {g:Nat} {t:TypeId} (ht:ck w g t) (hne:Y.t≠t) (i:Nat) (x:Value):bV Y (w.setCell ⟨g,i,none⟩ x) B s d:=⟨h.n,h.row.cC ht hne i x,h.im,h.has⟩
theorem qG.store {w0:World} {go cap:Nat} {x:aX×aX} {a1:Option Addr} {c1:Nat} (h0:qG W w0 aM gr (.slice ↑go V.length cap) V n k) (hb:Below w0.heap.size w0 w) (hx:V[n]? =some x) (hk:k<2)
 (AH:bS.Row w w0.heap.size (.slice a1 (if k=0 then x.1 else x.2).lv.length c1) (if k=0 then x.1 else x.2).lv):
 qG W (w.setCell ⟨go,n*10+k*5,none⟩ (.slice a1 (if k=0 then x.1 else x.2).lv.length c1)) aM gr (.slice ↑go V.length cap) V n (k+1):=by
 have hr:=AH.base (B':=W.heap.size) h0.aJ.size;obtain⟨g1,g2,⟨P,aV,c5,bt,h9⟩,qH,h7,h8⟩:=h0
 have hfr:∀(j s:Nat) (q:bB) (g:Nat),P[j]? =some q→s<2→(q.sh s).own=some g→g<w0.heap.size:=by
  intro j s q g hq hs hg;have hjl:=dM hq;obtain⟨y,hy⟩:∃y,V[j]? =some y:=⟨_,List.getElem?_eq_getElem (by omega)⟩;have:=bt j q y hq hy;unfold bB.sh at hg;split at hg
  ·exact ki this.1.row g (by have e:=this.1.n;unfold eO.own at hg;exact hg)
  ·exact ki this.2.row g (by unfold eO.own at hg;exact hg)
 have hnf:∀g,(Value.slice a1 (if k=0 then x.1 else x.2).lv.length c1).ownBlock=some g→w0.heap.size≤g:=cS AH;have h1:=g1.below hb;have h2:=g2.below hb;have h3:=aV.below hb;have h4:=c5;have h5:∀(j:Nat) (p:bB) (x:aX×aX),P[j]? =some p→V[j]? =some x→bV bS w (if j<n∨j=n∧0<k then W.heap.size else 0) p.s x.1∧bV bS w (if j<n∨j=n∧1<k then W.heap.size else 0) p.t x.2:=fun j p x hp hx=>⟨(bt j p x hp hx).1.below hb,(bt j p x hp hx).2.below hb⟩;have h6:=qH.trans (hb.mono qH.size);clear g1 g2 aV c5 bt qH;have hn:=dM hx;obtain⟨p,hp⟩:∃p,P[n]? =some p:=⟨_,List.getElem?_eq_getElem (by omega)⟩;have rm:ck w go ey.t:=eo h3 go rfl;have og:W.heap.size≤go:=cS h3 go rfl;have rz:=h5 n p x hp hx;have hb1:=h1.cC (p:=⟨go,n*10+k*5,none⟩) (h1.aE.ne rm (by decide)) (.slice a1 (if k=0 then x.1 else x.2).lv.length c1);have hb2:=h2.cC (p:=⟨go,n*10+k*5,none⟩) (h2.aE.ne rm (by decide)) (.slice a1 (if k=0 then x.1 else x.2).lv.length c1);have eU:=h6.setCell (p:=⟨go,n*10+k*5,none⟩) og (.slice a1 (if k=0 then x.1 else x.2).lv.length c1)
 have DQ:∀(j:Nat) (q q':bB),(P.set n q)[j]? =some q'→(j=n∧q'=q)∨(j≠n∧P[j]? =some q'):=by
  intro j q q' h;rw [List.getElem?_set]at h;split at h
  ·rename_i e
   split at h
   ·injection h with h;exact .inl ⟨e.symm,h.symm⟩
   ·cases h
  ·rename_i e;exact .inr ⟨fun e'=>e e'.symm,h⟩
 have hap:∀(p':bB),(p'.sh k).own=(Value.slice a1 (if k=0 then x.1 else x.2).lv.length c1).ownBlock→(∀s,s<2→s≠k→p'.sh s=p.sh s)→Iz (P.set n p') (2*n+(k+1)):=by
  intro p' e1 e2 j j' s s' q q' g hq xW hs hs' ht ht' hne hg hg'
  have hold:∀(j s:Nat) (q:bB) (g:Nat),(P.set n p')[j]? =some q→s<2→(q.sh s).own=some g→(j=n∧s=k)∨(∃q0,P[j]? =some q0∧(q0.sh s).own=some g):=by
   intro j s q g hq hs hg;rcases DQ j _ q hq with⟨rfl,rfl⟩|⟨_,hq⟩
   ·by_cases lW:s=k
    ·exact .inl ⟨rfl,lW⟩
    ·exact .inr ⟨p,hp,by rw [←e2 s hs lW];exact hg⟩
   ·exact .inr ⟨q,hq,hg⟩
  rcases hold j s q g hq hs hg with⟨rfl,rfl⟩|⟨q0,Pb,a2⟩
  ·rcases hold j' s' q' g xW hs' hg' with⟨rfl,rfl⟩|⟨q1,b1,b2⟩
   ·exact hne rfl
   ·rcases DQ j _ q hq with⟨_,rfl⟩|⟨hx,_⟩
    ·have:=hnf g (by rw [←e1];exact hg);have:=hfr j' s' q1 g b1 hs' b2;omega
    ·exact hx rfl
  ·rcases hold j' s' q' g xW hs' hg' with⟨rfl,rfl⟩|⟨q1,b1,b2⟩
   ·rcases DQ j' _ q' xW with⟨_,rfl⟩|⟨hx,_⟩
    ·have:=hnf g (by rw [←e1];exact hg');have:=hfr j s q0 g Pb hs a2;omega
    ·exact hx rfl
   ·by_cases pX:2*j+s<2*n+k
    ·by_cases ac3:2*j'+s'<2*n+k
     ·exact h9 j j' s s' q0 q1 g Pb b1 hs hs' pX ac3 hne a2 b2
     ·have bJ:j'=n∧s'=k:=by omega
      obtain⟨rfl,rfl⟩:=bJ;rcases DQ j' _ q' xW with⟨_,rfl⟩|⟨hx,_⟩
      ·have:=hnf g (by rw [←e1];exact hg');have:=hfr j s q0 g Pb hs a2;omega
      ·exact hx rfl
    ·have bJ:j=n∧s=k:=by omega
     obtain⟨rfl,rfl⟩:=bJ;rcases DQ j _ q hq with⟨_,rfl⟩|⟨hx,_⟩
     ·have:=hnf g (by rw [←e1];exact hg);have:=hfr j' s' q1 g b1 hs' b2;omega
     ·exact hx rfl
 rcases(show k=0∨k=1 by omega)with rfl|rfl
 ·simp only [if_true]at hap
  simp only [if_true]at hr hb1 hb2 eU⊢;rw [show n*10+0*5=n*10+0 by omega]at hb1 hb2 eU⊢;have hst:=h3.aW (e':=⟨⟨a1,x.1.lv.length,c1,p.s.im,p.s.has⟩,p.t⟩) (k:=0) (u:= .slice a1 x.1.lv.length c1) hp (by decide) rfl;refine⟨hb1,hb2,⟨_,hst,by rw [List.length_set];exact h4,fun j q y hq hy=>?_,hap _ rfl (fun s hs lW=>by unfold bB.sh;rw [if_neg lW,if_neg lW])⟩,eU,h7,h8⟩;have ha:∀{B s d},bV bS w B s d→bV bS (w.setCell ⟨go,n*10+0,none⟩ (.slice a1 x.1.lv.length c1)) B s d:=fun h=>h.cC rm (by decide) _ _;rcases DQ j _ q hq with⟨rfl,rfl⟩|⟨hne,hq⟩
  ·rw [hx]at hy;injection hy with hy;subst hy
   have Ul:=rz.2;rw [if_neg (by omega)]at Ul;rw [if_pos (by omega),if_neg (by omega)];exact⟨⟨rfl,hr.cC rm (by decide) _ _,rz.1.im,rz.1.has⟩,ha Ul⟩
  ·have hh:=h5 j q y hq hy
   have e1:(j<n∨j=n∧0<0)=(j<n∨j=n∧0<0+1):=by simp;omega
   have e2:(j<n∨j=n∧1<0)=(j<n∨j=n∧1<0+1):=by simp
   simp only [←e1,←e2];exact⟨ha hh.1,ha hh.2⟩
 ·simp only [show¬((1:Nat)=0)by decide,if_false]at hap
  simp only [show¬((1:Nat)=0)by decide,if_false]at hr hb1 hb2 eU⊢;rw [show n*10+1*5=n*10+5 by omega]at hb1 hb2 eU⊢;have hst:=h3.aW (e':=⟨p.s,⟨a1,x.2.lv.length,c1,p.t.im,p.t.has⟩⟩) (k:=5) (u:= .slice a1 x.2.lv.length c1) hp (by decide) rfl;refine⟨hb1,hb2,⟨_,hst,by rw [List.length_set];exact h4,fun j q y hq hy=>?_,hap _ rfl (fun s hs lW=>by unfold bB.sh;rw [if_pos (by omega),if_pos (by omega)])⟩,eU,h7,h8⟩;have ha:∀{B s d},bV bS w B s d→bV bS (w.setCell ⟨go,n*10+5,none⟩ (.slice a1 x.2.lv.length c1)) B s d:=fun h=>h.cC rm (by decide) _ _;rcases DQ j _ q hq with⟨rfl,rfl⟩|⟨hne,hq⟩
  ·rw [hx]at hy;injection hy with hy;subst hy
   have Um:=rz.1;rw [if_pos (by omega)]at Um;rw [if_pos (by omega),if_pos (by omega)];exact⟨ha Um,rfl,hr.cC rm (by decide) _ _,rz.2.im,rz.2.has⟩
  ·have hh:=h5 j q y hq hy
   have e1:(j<n∨j=n∧0<1)=(j<n∨j=n∧0<1+1):=by simp
   have e2:(j<n∨j=n∧1<1)=(j<n∨j=n∧1<1+1):=by simp;omega
   simp only [←e1,←e2];exact⟨ha hh.1,ha hh.2⟩
theorem qG.fz {go cap:Nat} (h:qG W w aM gr (.slice ↑go V.length cap) V n k) (hn:n<V.length) (o:Nat):w.frozen? ⟨go,o,none⟩=false:=by
 obtain⟨h1,h2,⟨P,h3,h4,h5,_⟩,h6,h7,h8⟩:=h;obtain⟨g',cap',cur,cV,_,hbk⟩:=h3.Cd (by intro h0;rw [h0]at h4;simp at h4;omega);injection cV with cV;injection cV with cV;injection cV with cV;subst cV;exact hbk.frozen _
theorem qG.side {x:aX×aX} (h:qG W w aM gr v V n k) (hx:V[n]? =some x) (hk:k<2):∃go cap a1 c1,v= .slice (some ⟨go,0,none⟩) V.length cap∧w.cell? ⟨go,n*10+k*5,none⟩=some (.slice a1 (if k=0 then x.1 else x.2).lv.length c1)∧bS.eT w (.slice a1 (if k=0 then x.1 else x.2).lv.length c1) (if k=0 then x.1 else x.2).lv∧w.frozen? ⟨go,n*10+k*5,none⟩=false:=by
 obtain⟨h1,h2,⟨P,h3,h4,h5,_⟩,h6,h7,h8⟩:=h;have hn:=dM hx;obtain⟨p,hp⟩:∃p,P[n]? =some p:=⟨_,List.getElem?_eq_getElem (by omega)⟩;obtain⟨go,cap,e1,e2,bJ⟩:=h3.at_ n p hp;obtain⟨g',cap',cur,cV,_,hbk⟩:=h3.Cd (by intro h0;rw [h0]at hp;simp at hp);have ju:g'=go:=by rw [e1]at cV;injection cV with cV;injection cV with cV;injection cV with cV;exact cV.symm
 subst ju;have hs:=h5 n p x hp hx;rcases(show k=0∨k=1 by omega)with rfl|rfl
 ·refine⟨g',cap,p.s.a,p.s.c,by rw [e1,h4],?_,?_,hbk.frozen _⟩
  ·have:=bJ 0 _ rfl
   rw [if_pos rfl,←hs.1.n,show n*10+0*5=n*ey.m+0 from rfl];exact this
  ·rw [if_pos rfl]
   have:=hs.1.row.sl;rw [hs.1.n]at this;exact this
 ·refine⟨g',cap,p.t.a,p.t.c,by rw [e1,h4],?_,?_,hbk.frozen _⟩
  ·have:=bJ 5 _ rfl
   rw [if_neg (by decide),←hs.2.n,show n*10+1*5=n*ey.m+5 from rfl];exact this
  ·rw [if_neg (by decide)]
   have:=hs.2.row.sl;rw [hs.2.n]at this;exact this
theorem Dz {w:World} {B:Nat} {v:Value} {V:bG} (h:cg ey bS w B v V) (hl:V.length≤255) {K:Nat} (hK:fX V K) (n5:K≤900000):
 Calls Tryz.prog 42 #[.agg #[v]] w fun e w'=>∃v',e= .returned (.agg #[v'])∧F5 w' w.heap.size v' V∧Below w.heap.size w w':=by
 obtain⟨a,c,rfl⟩:=h.form;have hz:=ak;have hb1:=(Below.aI w (.cells #[.slice a V.length c] 43)).trans ((Below.aI (w.alloc (.cells #[.slice a V.length c] 43)) (.cells #[.slice none 0 0] 43)).mono (by simp));have eZ:av ((w.alloc (.cells #[.slice a V.length c] 43)).alloc (.cells #[.slice none 0 0] 43)) w.heap.size 43 #[.slice a V.length c]:=(av.new w _ _).alloc _;have fY:av ((w.alloc (.cells #[.slice a V.length c] 43)).alloc (.cells #[.slice none 0 0] 43)) (w.heap.size+1) 43 #[.slice none 0 0]:=by rw [←hz w (.cells #[.slice a V.length c] 43)];exact av.new _ _ _
 obtain⟨P,hP,gK,g8⟩:=h.below hb1;have bA:=af hb1;have cm:=af eZ;have dG:=af fY;have e6:=af g8;have gq:=af gK;have lg:=af hK;have kj:=af (acV hP.sl (by omega));clear h hz hb1 eZ fY g8 hP gK hK;go_enter Tryz.func42,Tryz.ntmps42
 go_upto_region 1 with(fail)
 obtain⟨w1,hw1⟩:=ai ((w.alloc (.cells #[.slice a V.length c] 43)).alloc (.cells #[.slice none 0 0] 43));obtain⟨aM,fC⟩:=ai w.heap.size;obtain⟨gr,fe⟩:=ai (w.heap.size+1);rw [hw1]at bA cm dG kj e6⊢;rw [fe]at dG;rw [fC]at cm;rw [fe,fC];have fQ:Hid (aM≠gr):=af (by omega);have zo:Hid (w.heap.size≤aM):=af (by omega);have jT:Hid (w.heap.size≤gr):=af (by omega);clear hw1 fC fe;have b0:w1.cell? ↑aM=some (.slice a V.length c):=cm.out.cell 0;go_wp2_with fail
 refine kj.out.mono ?_;rintro e w2 ⟨v',rfl,hr,hb⟩;obtain⟨a2,c2,hv⟩:=hr.form;rw [gq.out]at hv;subst hv;have fY:=cm.out.below hb
 have hc0:qG w (w2.setCell ↑aM (.slice a2 V.length c2)) aM gr (.slice a2 V.length c2) V 0 0:=by
  refine⟨by have:=fY.aW 0 (.slice a2 V.length c2);exact this,(dG.out.below hb).cC (p:=⟨aM,0,none⟩) (Ne.symm fQ.out) _,⟨P,?_,gq.out,fun j p x hp hx=>?_,fun j j' s s' p p' g _ _ _ _ h _=>absurd h (by omega)⟩,(ag bA hb).out.setCell (p:=⟨aM,0,none⟩) zo.out _,zo.out,jT.out⟩
  ·exact(hr.base bA.out.size).cC fY.aE (by decide) 0 _
  ·have hs:=e6.out j p x hp hx
   rw [if_neg (by omega),if_neg (by omega)];exact⟨((hs.1.below hb).base (Nat.zero_le _)).cC fY.aE (by decide) 0 _,((hs.2.below hb).base (Nat.zero_le _)).cC fY.aE (by decide) 0 _⟩
 have Pc:=af hc0;have b2:w2.cell? ↑aM=some (.slice a V.length c):=fY.cell 0;have ac4:w2.frozen? ↑aM=false:=fY.frozen 0;clear hr hb fY hc0 kj b0 e6 cm dG bA;go_upto_region 2 with(fail)
 clear b2 ac4;generalize w2.setCell ↑aM (.slice a2 V.length c2)=w3 at*;have b3:w3.cell? ↑aM=some (.slice a2 V.length c2):=Pc.out.box.cell 0;go_wp2_with fail
 go_loopw [12] (fun i w'=>∃n:Nat,i=↑n∧n≤V.length∧qG w w' aM gr (.slice a2 V.length c2) V n 0) (fun i _=>V.length-(RowKit.intOf i).toNat)
 case atStart=>exact⟨0,rfl,Nat.zero_le _,Pc.out⟩
 case round=>
  clear Pc b3;obtain⟨n,rfl,hn,hC⟩:=hrel;obtain⟨ax,rfl⟩:=aj wr;have Mj:=af hC;clear hC;by_cases hlt:n<V.length
  ·have hlt':(n:Int)<(V.length:Int):=by omega
   obtain⟨x,hx⟩:∃x,V[n]? =some x:=⟨_,List.getElem?_eq_getElem hlt⟩;have bz:=af hx;clear hx;go_wp2_with fail
   go_loopw [15] (fun i w'=>∃k:Nat,i=↑k∧k≤2∧qG w w' aM gr (.slice a2 V.length c2) V n k) (fun i _=>2-(RowKit.intOf i).toNat)
   case atStart=>exact⟨0,rfl,Nat.zero_le _,Mj.out⟩
   case round=>
    clear Mj;obtain⟨k,rfl,hk,hC⟩:=hrel;obtain⟨wy,rfl⟩:=aj wr;have IG:=af hC;by_cases hk2:k<2
    ·have alS:(k:Int)<2:=by omega
     obtain⟨go,cap,a1,c1,he,hcs,hsl,hfz⟩:=hC.side bz.out hk2;injection he with he _ iU;subst he;subst iU
     have hKx:(if k=0 then x.1 else x.2).lv.length≤K:=by
      have:=lg.out x (List.mem_of_getElem? bz.out);split
      ·exact this.1
      ·exact this.2
     have hS:wy.cell? ↑aM=some (.slice ↑go V.length c2)∧wy.cell? ⟨go,n*10+k*5,none⟩=some (.slice a1 (if k=0 then x.1 else x.2).lv.length c1):=⟨hC.box.cell 0,hcs⟩;have Pd:=af (acU (hsl.below (Below.bO wy 1)) (by omega));have aD:=af hS;obtain⟨L,hL⟩:=ai ((if k=0 then x.1 else x.2).lv);rw [hL]at hS Pd hsl hcs;have iu:=af hL;rw [hL]at aD;clear hL hcs hsl hfz hC hKx;go_upto_region 8 with(fail)
     refine cP (S:=fun w'=>w'.cell? ↑aM=some (.slice ↑go V.length c2)∧w'.cell? ⟨go,n*10+k*5,none⟩=some (.slice a1 L.length c1)) hS fun hHeld=>?_;refine au 0 ?_;refine au 1 ?_;refine au 2 ?_;refine au 3 ?_;refine au 4 ?_;refine au 5 ?_;refine au 6 ?_;refine au 7 ?_;refine au 8 ?_;refine au 9 ?_;refine au 10 ?_;refine au 11 ?_;refine au 13 ?_;refine aU 12 fun K hK=>?_;go_simp;refine Pd.out.mono ?_;rintro e az ⟨v',rfl,hr,hb⟩;obtain⟨a3,c3,rfl⟩:=hr.form;have hb4:=(Below.bO wy 1).trans (hb.mono (Nat.le_refl _));have Pe:=af (IG.out.below hb4);have vA:=af (show bS.Row az wy.heap.size (.slice a3 L.length c3) L from hr);have bN:=af hb4;have Un:=IG
     have qI:az.cell? ↑aM=some (.slice ↑go V.length c2)∧az.cell? ⟨go,n*10+k*5,none⟩=some (.slice a1 L.length c1):=by
      refine⟨Pe.out.box.cell 0,?_⟩;have ac5:go<wy.heap.size:=ki IG.out.row.choose_spec.1 go rfl;exact(hb4.cell (p:=⟨go,n*10+k*5,none⟩) ac5).trans aD.out.2
     refine hK.out _ _ qI (fun hHeld=>?_);clear hK K hr hb hb4 hS qI Pd IG aD;refine au 14 ?_;refine au 15 ?_;refine dY 16 fun K hK=>?_;have ac6:az.frozen? ⟨go,n*10+k*5,none⟩=false:=Pe.out.fz hlt _;go_simp;refine hK.out _ _ ?_;rw [←iu.out]at vA hHeld⊢;have AI:=af (Un.out.store bN.out bz.out hk2 vA.out);clear hK K hHeld ac6 Pe vA Un bN;go_wp2_with fail
     go_roundw
     case rel=>exact⟨k+1,by go_num,by omega,AI.out⟩
     case measure=>simp [RowKit.intOf];omega
    ·obtain rfl:k=2:=by omega
     have ac7:=af hC.next;clear hC IG;go_wp2_with fail
     go_roundw
     case rel=>exact⟨n+1,by go_num,hlt,ac7.out⟩
     case measure=>simp [RowKit.intOf];omega
  ·obtain rfl:n=V.length:=by omega
   have hC:=Mj.out;have c0:ax.cell? ↑aM=some (.slice a2 V.length c2):=hC.box.cell 0;have cu:ax.cell? ↑gr=some (.slice none 0 0):=hC.res.cell 0;have fz:ax.frozen? ↑gr=false:=hC.res.frozen 0;have hz:av (ax.setCell ↑gr (.slice a2 V.length c2)) gr 43 #[.slice a2 V.length c2]:=hC.res.aW 0 _;have hbz:=hC.aJ.setCell (p:=⟨gr,0,none⟩) jT.out (.slice a2 V.length c2)
   have fj:F5 (ax.setCell ↑gr (.slice a2 V.length c2)) w.heap.size (.slice a2 V.length c2) V:=by
    obtain⟨P,h3,h4,h5,h9⟩:=hC.row;refine⟨P,h3.cC hC.res.aE (by decide) 0 _,h4,fun j p x hp hx=>?_,h9⟩;have hs:=h5 j p x hp hx;have hj:=dM hx;rw [if_pos (.inl hj),if_pos (.inl hj)]at hs;exact⟨hs.1.cC hC.res.aE (by decide) 0 _,hs.2.cC hC.res.aE (by decide) 0 _⟩
   have ec:=af hz;have fZ:=af hbz;have e5:=af fj;clear hC hz hbz fj Mj;go_wp2_with fail
   clear c0 cu fz;generalize ax.setCell ↑gr (.slice a2 V.length c2)=wf at*;have k0:wf.cell? ↑gr=some (.slice a2 V.length c2):=ec.out.cell 0;refine bodyPost_ret (v:= .agg #[.slice a2 V.length c2]) (by simp [results,Tryz.results42,go_sem,k0]) rfl ⟨_,rfl,e5.out,fZ.out⟩
end
end Go.Proofs.YtmaijkoopjocdaaGreat
