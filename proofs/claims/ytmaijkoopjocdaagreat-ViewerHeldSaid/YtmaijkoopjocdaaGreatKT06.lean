import Derived.Test.YtmaijkoopjocdaaGreatKT05
import Derived.Shelf.Spec.SlicesInsert
import Derived.Lib.AppendZerosOnto
import Derived.Laws.CopyRow
import Derived.Deep.RegionLaw
set_option maxRecDepth 100000
set_option maxHeartbeats 64000000
namespace Go.Proofs.YtmaijkoopjocdaaGreat
open Go.RowKit Go.Lib
theorem FW {l:List Int} {q:Int} (hl:l.length≤250) (hx:∀x∈l,1≤x∧x≤1000000):xe l q=decide (0≤q∧q≤l.sum):=by
 unfold xe;rw [decide_eq_decide];exact⟨fun h=>⟨h.2.1,h.2.2.2⟩,fun h=>⟨hl,h.1,hx,h.2⟩⟩
theorem aga {w:World} {v:Value} {l:List Int} (h:eJ.e8 w v l) (hl:l.length≤250) (hx:∀x∈l,1≤x∧x≤1000000) (q:Int):
 Calls Tryz.prog 150 #[v,.int .i64 q] w fun e w'=>∃v',e= .returned v'∧eJ.Row w' w.heap.size v' (DR l q)∧Below w.heap.size w w':=by
 have aU:=af (Q9 h hl hx q);rw [←FW hl hx]at aU;have zO:=zY (b:=1000000) fun x fN=>(hx x fN).2;by_cases hr:xe l q=true
 ·have hd:=hr
  rw [FW hl hx,decide_eq_true_eq]at hd;have cn:=af (Q8 h hl (fun x fN=>⟨by have:=(hx x fN).1;omega,(hx x fN).2⟩) q (by omega) (by omega));have bH:Hid (DR l q=jF l q):=af (if_pos hr);rw [hr]at aU;rw [bH.out];clear hx hd hr;go_enter Tryz.func150,Tryz.ntmps150
  go_wp2_with fail
  refine aU.out.mono ?_;rintro e w2 ⟨rfl,rfl⟩;clear aU;go_wp2_with fail
  refine cn.out.mono ?_;rintro e w3 ⟨v',rfl,j4,hb3⟩;have nM:=af j4;have aN:=af hb3;clear j4 hb3 cn;go_wp2_with fail
  go_ret;exact⟨_,rfl,nM.out,aN.out⟩
 ·have gv:xe l q=false:=by rw [Bool.not_eq_true]at hr;exact hr
  have bH:Hid (DR l q= []):=af (if_neg hr);rw [gv]at aU;rw [bH.out];clear hx hr gv;go_enter Tryz.func150,Tryz.ntmps150
  go_wp2_with fail
  refine aU.out.mono ?_;rintro e w2 ⟨rfl,rfl⟩;clear aU;go_wp2_with fail
  go_ret;exact⟨_,rfl,aY.Row.nil _ _,Below.refl _ _⟩
theorem X4 {l b:List Int} {q k:Int} (hl:l.length≤250) (er:b.length=l.length) (hx:∀x∈l,1≤x∧x≤1000000) (hb:∀(j:Nat) (x y:Int),l[j]? =some x→b[j]? =some y→0≤y∧y≤x) (hs:b.sum=k) (h0:k≤q) (h1:q≤l.sum) (hk:0≤k):
 vA (g6 l b) (q-k)∧∀x∈g6 l b,nD x:=by
 have zO:=zY (b:=1000000) fun x fN=>(hx x fN).2
 have he:∀x∈g6 l b,0≤x∧x≤1000000:=fun x fN=>by
  obtain⟨j,hj,rfl⟩:=List.getElem_of_mem fN;have hj2:j<l.length:=by rwa [rZ _ _ er]at hj
  have e:=XZ (List.getElem?_eq_getElem hj2) (List.getElem?_eq_getElem (show j<b.length by omega));rw [List.getElem?_eq_getElem hj]at e;injection e with e;rw [e];have:=hb j _ _ (List.getElem?_eq_getElem hj2) (List.getElem?_eq_getElem (show j<b.length by omega));have:=hx _ (List.getElem_mem hj2);omega
 refine⟨⟨by rw [rZ _ _ er];exact hl,he,by omega,by omega,.inr ?_⟩,fun x fN=>by have:=he x fN;unfold nD;omega⟩;rw [X5 l b er,hs];omega
theorem FX {l:List Int} {q least:Int} (h:vA l q) (hl:1≤least):∀y∈vB l least q,nD y:=by
 intro y hy;obtain⟨j,hj,rfl⟩:=List.getElem_of_mem hy;have hj2:j<l.length:=by rwa [zZ]at hj
 have X6:j<(g6 l (m6 l least q)).length:=by rw [rZ _ _ (Jl l least q)];exact hj2
 have e1:(m6 l least q)[j]? =some (kQ least q l.sum l[j]):=by unfold m6;rw [List.getElem?_map,List.getElem?_eq_getElem hj2];rfl
 have e2:=Ms (q:=q-(m6 l least q).sum) (List.getElem?_eq_getElem X6);have e:=agb e1 e2;rw [show(nZ (m6 l least q) (jF (g6 l (m6 l least q)) (q-(m6 l least q).sum)))=vB l least q from rfl,List.getElem?_eq_getElem hj]at e;injection e with e;rw [e];have h1:=h.rest hl _ (List.getElem_mem X6);have h3:=h.part hl _ (List.getElem_mem hj2);have h4:=h.each _ (List.getElem_mem hj2);have h5:=(h.X0 hl l.length).2;rw [List.take_length]at h5;have h6:(m6 l least q).sum=(l.map (kQ least q l.sum)).sum:=rfl;have q0:=h.q0;have q1:=h.q1;have h2:=Mt (l:=(g6 l (m6 l least q)).take j) (q:=q-(m6 l least q).sum) (b:=250000000) (fun y hy=>(h.rest hl y (List.mem_of_mem_take hy)).1) (by omega) (by omega) (by omega);have h7:=X2 (b:=250000000) h1.1 h2.1 h2.2;unfold nD;omega
theorem agc {w:World} {v:Value} {l:List Int} (h:eJ.e8 w v l) (hl:l.length≤250) (hx:∀x∈l,1≤x∧x≤1000000) (part least q:Int) (hp:0≤part∧part≤100) (hle:1≤least):
 Calls Tryz.prog 152 #[v,.int .i64 part,.int .i64 least,.int .i64 q] w fun e w'=>∃v',e= .returned v'∧eJ.Row w' w.heap.size v' (DS l part least q)∧Below w.heap.size w w':=by
 have aU:=af (Q9 h hl hx q);rw [←FW hl hx]at aU;have zO:=zY (b:=1000000) fun x fN=>(hx x fN).2;have bA:=af hx;have d0:¬part<0:=by omega
 have d1:¬100<part:=by omega
 have d2:¬least<1:=by omega
 by_cases hr:xe l q=true
 ·have hd:=hr
  rw [FW hl hx,decide_eq_true_eq]at hd;have bH:Hid (DS l part least q=nZ (jF l (q*part / 100)) (vB (g6 l (jF l (q*part / 100))) least (q-q*part / 100))):=af (if_pos ⟨hr,hp.1,hp.2,hle⟩);rw [hr]at aU;have pS:=af (fun w=>X1 q part 100 w (by omega) (by omega) (by omega));have jR:0≤q*part / 100:=Int.ediv_nonneg (Int.mul_nonneg hd.1 hp.1) (by omega);have cJ:q*part / 100≤q:=Int.ediv_le_of_le_mul (by omega) (Int.mul_le_mul_of_nonneg_left hp.2 hd.1);obtain⟨k,hk⟩:∃k,q*part / 100=k:=⟨_,rfl⟩;simp only [hk]at pS bH jR cJ;have cn:=af (fun w h=>Q8 (w:=w) (v:=v) (l:=l) h hl (fun x fN=>⟨by have:=(hx x fN).1;omega,(hx x fN).2⟩) k (by omega) (by omega));have hfe:=(Ra (l:=l) (q:=k) (fun x fN=>by have:=(hx x fN).1;omega) jR);have X7:(jF l k).sum=k:=by have:=hfe.2.2 (by omega);omega
  have CG:∀(j:Nat) (x y:Int),l[j]? =some x→(jF l k)[j]? =some y→0≤y∧y≤x:=fun j x y h1 h2=>by
   rw [Ms h1]at h2;injection h2 with h2;have h3:=(Ra (l:=l.take j) (q:=k) (fun x fN=>by have:=(hx x (List.mem_of_mem_take fN)).1;omega) jR).2.1;have h4:=(hx x (List.mem_of_getElem? h1)).1;rw [←h2];exact⟨agd (by omega) h3,(X8 _ _).1⟩
  have fM:=X4 (q:=q) (k:=k) hl (r0 l k) hx CG X7 cJ hd.2 jR
  have Bd:∀y∈jF l k,nD y:=fun y hy=>by
   obtain⟨j,hj,rfl⟩:=List.getElem_of_mem hy;have hj2:j<l.length:=by rwa [r0]at hj
   have:=CG j _ _ (List.getElem?_eq_getElem hj2) (List.getElem?_eq_getElem hj);have:=hx _ (List.getElem_mem hj2);unfold nD;omega
  have X9:=af Bd;have bD:=af fM;have aq:=af h;have cX:=af hl;rw [bH.out];have qT:Hid (∀x∈l,nD x):=af fun x fN=>by have:=hx x fN;unfold nD;omega
  clear hx hr hfe X7 CG fM Bd h;go_enter Tryz.func152,Tryz.ntmps152
  go_wp2_with fail
  refine aU.out.mono ?_;rintro e w2 ⟨rfl,rfl⟩;have Ba:=pS.out w;clear aU;go_wp2_with fail
  refine Ba.mono ?_;rintro e w2 ⟨rfl,rfl⟩;clear Ba pS hk;have Ya:=cn.out w aq.out;go_wp2_with fail
  refine Ya.mono ?_;rintro e w3 ⟨v3,rfl,j4,hb3⟩;have nM:=af j4;have aN:=af hb3;have tM:=DP (aq.out.below hb3) j4.sl (r0 l k) hl qT.out X9.out;clear Ya cn j4 hb3;go_wp2_with fail
  refine tM.mono ?_;rintro e av ⟨v4,rfl,hO,hb4⟩;have fL:=af (nM.out.below hb4);have bM:=af (aN.out.trans (hb4.mono aN.out.size));have eu:=FU hO.sl bD.out.1 hle;clear tM hO hb4;go_wp2_with fail
  refine eu.mono ?_;rintro e au ⟨v5,rfl,cS,di⟩;have cD:=af (bM.out.trans (di.mono bM.out.size));have nJ:=DQ (fL.out.below di).sl cS.sl (by rw [zZ,rZ _ _ (r0 l k),r0]) (by rw [r0];exact hl) X9.out (FX bD.out.1 hle);clear eu cS di;go_wp2_with fail
  refine nJ.mono ?_;rintro e aK ⟨v6,rfl,bO,bF⟩;have cH:=af (bO.base cD.out.size);have cC:=af (cD.out.trans (bF.mono cD.out.size));clear nJ bO bF;go_wp2_with fail
  go_ret;exact⟨_,rfl,cH.out,cC.out⟩
 ·have gv:xe l q=false:=by rw [Bool.not_eq_true]at hr;exact hr
  have bH:Hid (DS l part least q= []):=af (if_neg fun hh=>hr hh.1);rw [gv]at aU;rw [bH.out];clear hx hr gv;go_enter Tryz.func152,Tryz.ntmps152
  go_wp2_with fail
  refine aU.out.mono ?_;rintro e w2 ⟨rfl,rfl⟩;clear aU;go_wp2_with fail
  go_ret;exact⟨_,rfl,aY.Row.nil _ _,Below.refl _ _⟩
theorem Yb (w:World) (n:Nat) (hn:n≤100000):eJ.Row (w.alloc (.cells ((List.replicate n 0).flatMap kC).toArray 2)) w.heap.size (.slice (some ⟨w.heap.size,0,none⟩) n n) (List.replicate n 0):=by
 unfold aY.Row;rw [List.length_replicate];have hfl:((List.replicate n (0:Int)).flatMap kC).length=n*1:=by rw [lQ kC 1 (fun _=>rfl),List.length_replicate]
 exact⟨hfl,.inr ⟨w.heap.size,n,_,rfl,Nat.le_refl _,aj.new w _ _,Nat.le_refl _,by unfold maxLen;omega,by rw [List.size_toArray,hfl];rfl,by rw [List.take_of_length_le (by rw [hfl];show n*1≤n*1;exact Nat.le_refl _)];rfl⟩⟩
theorem age (n:Nat):madeCells (Value.int .i64 0).cells (n*1)=((List.replicate n (0:Int)).flatMap kC).toArray:=by
 apply Array.toList_inj.1;apply List.ext_getElem?;intro j;by_cases hj:j<n*1
 ·have h:=LN kC 1 (fun _=>rfl) (List.replicate n (0:Int)) j 0 (by simp;omega) (by omega)
  rw [show j*1+0=j by omega,List.getElem_replicate]at h;show _=((List.replicate n (0:Int)).flatMap kC)[j]?;rw [h];simp only [madeCells,Array.toList_map,Array.toList_range,List.getElem?_map,List.getElem?_range hj,Option.map_some];have hr:j % 1=0:=Nat.mod_one j;show some ((#[Value.int .i64 0])[j % 1]!)=_;rw [hr];rfl
 ·have h1:(madeCells (Value.int .i64 0).cells (n*1)).toList.length=n*1:=by rw [Array.length_toList,size_madeCells]
  rw [List.getElem?_eq_none (by omega),List.getElem?_eq_none (by
   show((List.replicate n (0:Int)).flatMap kC).length≤j;rw [lQ kC 1 (fun _=>rfl)];simp;omega)]
theorem agf:(Tryz.prog.info? 2).map (fun i=>(i.zero,i.size,i.bytes))=some (some (.int .i64 0),1,8):=by kernel_rfl
theorem Yc (n:Nat):(List.replicate n (0:Int)).sum=0:=by
 induction n with
 |zero=>rfl
 |succ n ih=>rw [List.replicate_succ,List.sum_cons,ih];rfl
theorem Yd:∀(n t:Nat) (k:Int),t<n→((List.replicate n (0:Int)).set t k).sum=k
 |n+1,0,k,_=>by rw [List.replicate_succ,List.set_cons_zero,List.sum_cons,Yc];omega
 |n+1,t+1,k,h=>by rw [List.replicate_succ,List.set_cons_succ,List.sum_cons,Yd n t k (by omega)];omega
theorem agh {most q x:Int} (h1:0≤most) (h2:0≤q) (h3:0≤x):0≤ri most q x∧ri most q x≤x∧ri most q x≤q:=by
 unfold ri;by_cases hq:q<most
 ·rw [if_pos hq];split<;>omega
 ·rw [if_neg hq];split<;>omega
theorem agi {w:World} {v:Value} {l:List Int} (h:eJ.e8 w v l) (hl:l.length≤250) (hx:∀x∈l,1≤x∧x≤1000000) (top most least q:Int) (ht:top= -1∨∃t:Nat,top=t∧t<l.length) (hm:0≤most∧most≤1000000000) (hle:1≤least):
 Calls Tryz.prog 151 #[v,.int .i64 top,.int .i64 most,.int .i64 least,.int .i64 q] w fun e w'=>∃v',e= .returned v'∧eJ.Row w' w.heap.size v' (DT l top most least q)∧Below w.heap.size w w':=by
 have aU:=af (Q9 h hl hx q);rw [←FW hl hx]at aU;have zO:=zY (b:=1000000) fun x fN=>(hx x fN).2;have hm0:=hm.1;have Jk:=hm.2;have d0:¬most<0:=by omega
 have d2:¬least<1:=by omega
 obtain⟨i0,hi,cQ,hz1,dG⟩:=info_parts agf;have hmk:=fun w=>run_makeSlice (P:=Tryz.prog) w 23 2 i0 _ Tryz.underlying23 hi cQ .i64 .i64 l.length l.length (by omega) (by omega) (by rw [hz1];omega) (by rw [dG];omega) (by omega);rw [hz1,Int.toNat_natCast,age]at hmk;have Cb:=af hmk;have hnb:(l.length:Int)≤250:=by omega
 by_cases hr:xe l q=true
 ·have hd:=hr
  rw [FW hl hx,decide_eq_true_eq]at hd;obtain⟨mG,hq1⟩:=hd;have hq2:q≤250000000:=by omega
  have bH:Hid (DT l top most least q=nZ (yD l top most q) (vB (g6 l (yD l top most q)) least (FY l top most q))):=af (if_pos ⟨hr,hle,hm.1⟩);rw [hr]at aU;rw [bH.out];have aq:=af h;have cX:=af hl;have qT:Hid (∀x∈l,nD x):=af fun x fN=>by have:=hx x fN;unfold nD;omega
  have vk:Hid (∀(F:List Int) (k:Int),F.length=l.length→F.sum=k→(∀(j:Nat) (x y:Int),l[j]? =some x→F[j]? =some y→0≤y∧y≤x)→k≤q→0≤k→(vA (g6 l F) (q-k)∧∀x∈g6 l F,nD x)∧∀y∈F,nD y):=af fun F k h1 h2 h3 h4 h5=>
   ⟨X4 hl h1 hx h3 h2 h4 hq1 h5,fun y hy=>by
    obtain⟨j,hj,rfl⟩:=List.getElem_of_mem hy;have hj2:j<l.length:=by omega
    have:=h3 j _ _ (List.getElem?_eq_getElem hj2) (List.getElem?_eq_getElem hj);have:=hx _ (List.getElem_mem hj2);unfold nD;omega⟩
  have bA:=af hx;obtain⟨a,c,rfl,_,_⟩:=h;obtain⟨n,hn⟩:∃n,l.length=n:=⟨_,rfl⟩;have HN:=af hn;rw [hn]at Cb aU aq hnb hl ht⊢;clear hx hi cQ hz1 dG hmk hr hn;have hmk:=Cb.out w;rcases ht with rfl|⟨t,rfl,htn⟩
  ·have cn:Hid (yD l (-1) most q=List.replicate n 0∧FY l (-1) most q=q-0):=af (by unfold yD FY;rw [if_neg (by omega),if_neg (by omega),HN.out];exact⟨rfl,by omega⟩)
   rw [cn.out.1,cn.out.2]
   have hby:=vk.out (List.replicate n 0) 0 (by rw [List.length_replicate,HN.out]) (Yc n) (fun j x y h1 h2=>by
    rw [List.getElem?_replicate]at h2;split at h2
    ·injection h2 with h2;have:=bA.out x (List.mem_of_getElem? h1);omega
    ·cases h2) mG (by omega)
   have fM:=af hby;clear hby;have xf:=af (Yb w n (by omega));have e3:=af (Below.aA w (.cells ((List.replicate n (0:Int)).flatMap kC).toArray 2));have vP:q-0=q:=by omega
   have iY:Hid ((List.replicate n (0:Int)).length=l.length):=af (by rw [List.length_replicate,HN.out]);rw [vP]at fM⊢;obtain⟨R,nX⟩:∃R,nZ (List.replicate n 0) (vB (g6 l (List.replicate n 0)) least q)=R:=⟨_,rfl⟩;rw [nX];have oI:=af nX;clear nX;clear cn vk vP;go_enter Tryz.func151,Tryz.ntmps151
   go_wp2_with fail
   refine aU.out.mono ?_;rintro e w2 ⟨rfl,rfl⟩;clear aU;go_upto_region 4 with(fail)
   generalize List.replicate n (0:Int)=F at*;obtain⟨g0,nt⟩:∃g,w.heap.size=g:=⟨_,rfl⟩;have vt:=af nt;rw [nt]at xf⊢;clear nt hmk;generalize w.alloc (.cells (F.flatMap kC).toArray 2)=w1 at*;go_wp2_with fail
   have hrl:=DP (aq.out.below e3.out) xf.out.sl iY.out (by rw [HN.out];exact hl) qT.out fM.out.2;refine hrl.mono ?_;rintro e av ⟨v4,rfl,hO,hb4⟩;have fL:=af (xf.out.below hb4);have bM:=af (e3.out.trans (hb4.mono e3.out.size));have eu:=FU hO.sl fM.out.1.1 hle;clear hrl hO hb4;go_wp2_with fail
   refine eu.mono ?_;rintro e au ⟨v5,rfl,cS,di⟩;have cD:=af (bM.out.trans (di.mono bM.out.size));have nJ:=DQ (fL.out.below di).sl cS.sl (by rw [zZ,rZ _ _ iY.out,iY.out]) (by rw [iY.out,HN.out];exact hl) fM.out.2 (FX fM.out.1.1 hle);clear eu cS di;go_wp2_with fail
   refine nJ.mono ?_;rintro e aK ⟨v6,rfl,bO,bF⟩;have cH:=af (bO.base cD.out.size);have cC:=af (cD.out.trans (bF.mono cD.out.size));clear nJ bO bF;go_wp2_with fail
   go_ret;exact⟨_,rfl,by rw [←oI.out];exact cH.out,cC.out⟩
  ·obtain⟨x,gN⟩:∃x,l[t]? =some x:=⟨_,List.getElem?_eq_getElem (by rw [HN.out];exact htn)⟩
   obtain⟨hx0,hx1⟩:=bA.out x (List.mem_of_getElem? gN);have hk:=agh (most:=most) (q:=q) (x:=x) hm0 mG (by omega)
   have cn:Hid (yD l t most q=(List.replicate n 0).set t (ri most q x)∧FY l t most q=q-ri most q x):=af (by
    unfold yD FY;rw [if_pos ⟨by omega,by rw [HN.out];omega⟩,if_pos ⟨by omega,by rw [HN.out];omega⟩,HN.out,Int.toNat_natCast,zD gN];exact⟨rfl,rfl⟩)
   rw [cn.out.1,cn.out.2]
   have hby:=vk.out ((List.replicate n 0).set t (ri most q x)) (ri most q x) (by rw [List.length_set,List.length_replicate,HN.out]) (Yd n t _ htn) (fun j z y h1 h2=>by
    have hz:=bA.out z (List.mem_of_getElem? h1);by_cases hjt:t=j
    ·subst hjt
     rw [List.getElem?_set_self (by rw [List.length_replicate];exact htn)]at h2;injection h2 with h2;rw [gN]at h1;injection h1 with h1;omega
    ·rw [List.getElem?_set_ne hjt,List.getElem?_replicate]at h2
     split at h2
     ·injection h2 with h2;omega
     ·cases h2) hk.2.2 hk.1
   have fM:=af hby;clear hby;have xf:=af (Yb w n (by omega));have e3:=af (Below.aA w (.cells ((List.replicate n (0:Int)).flatMap kC).toArray 2));have iY:Hid (((List.replicate n (0:Int)).set t (ri most q x)).length=l.length):=af (by rw [List.length_set,List.length_replicate,HN.out]);obtain⟨R,nX⟩:∃R,nZ ((List.replicate n 0).set t (ri most q x)) (vB (g6 l ((List.replicate n 0).set t (ri most q x))) least (q-ri most q x))=R:=⟨_,rfl⟩;rw [nX];have oI:=af nX;clear nX;have Ye:(t:Int)<(n:Int):=by omega
   have Yf:(List.replicate n (0:Int))[t]? =some 0:=by rw [List.getElem?_replicate,if_pos htn]
   have z1:=af Yf;obtain⟨b1,off,rfl,_⟩:=pT aq.out gN;have agj:=af gN;clear cn vk Yf gN;go_enter Tryz.func151,Tryz.ntmps151
   go_wp2_with fail
   refine aU.out.mono ?_;rintro e w2 ⟨rfl,rfl⟩;clear aU;go_upto_region 4 with(fail)
   have Ca:(w.alloc (.cells ((List.replicate n (0:Int)).flatMap kC).toArray 2)).cell? ⟨b1,off+t,none⟩=some (.int .i64 x):=by
    obtain⟨b3,A0,he,h3⟩:=pT (aq.out.below e3.out) agj.out;injection he with he;injection he with e1 e2;rw [e1,e2];exact h3
   obtain⟨g0,nt⟩:∃g,w.heap.size=g:=⟨_,rfl⟩;have vt:=af nt;have AJ:=xf.out;have er:=AJ.2;rw [nt]at xf⊢
   have c0:(w.alloc (.cells ((List.replicate n (0:Int)).flatMap kC).toArray 2)).cell? ⟨g0,t,none⟩=some (.int .i64 0):=by
    obtain⟨b3,A0,he,h3⟩:=pT (xf.out.sl) z1.out;injection he with he;injection he with e1 e2;rw [show t=A0+t by omega,e1];exact h3
   have fz:∀o,(w.alloc (.cells ((List.replicate n (0:Int)).flatMap kC).toArray 2)).frozen? ⟨g0,o,none⟩=false:=fun o=>by
    have:=(aj.new w 2 ((List.replicate n (0:Int)).flatMap kC).toArray).frozen o
    rwa [vt.out]at this
   clear nt hmk AJ er;generalize w.alloc (.cells ((List.replicate n (0:Int)).flatMap kC).toArray 2)=w1 at*;have dh:Hid (ri most q x=if x<(if q<most then q else most)then x else if q<most then q else most):=af rfl;generalize ri most q x=K at*;by_cases Yg:q<most
   ·rw [if_pos Yg]at dh
    by_cases fN:x<q
    ·rw [if_pos fN]at dh
     have hk2:=dh.out.symm;clear dh;subst hk2
     have jY:Hid (eJ.Row (w1.setCell ⟨g0,t,none⟩ (.int .i64 x)) g0 (.slice (some ⟨g0,0,none⟩) n n) ((List.replicate n (0:Int)).set t x)):=af (by
      have:=xf.out.aQ (k:=0) (u:= .int .i64 x) (e':=x) z1.out (by show 0<1;omega) rfl
      rwa [show t*eJ.m+0=t by show t*1+0=t;omega]at this)
     have aT:Hid (Below w.heap.size w (w1.setCell ⟨g0,t,none⟩ (.int .i64 x))):=af (e3.out.setCell (p:=⟨g0,t,none⟩) (by show w.heap.size≤g0;rw [vt.out];exact Nat.le_refl _) _);clear z1;go_upto_region 11 with(fail)
     generalize (List.replicate n (0:Int)).set t x=F at*;generalize w1.setCell ⟨g0,t,none⟩ (.int .i64 x)=w3 at*;go_wp2_with fail
     have hrl:=DP (aq.out.below aT.out) jY.out.sl iY.out (by rw [HN.out];exact hl) qT.out fM.out.2;refine hrl.mono ?_;rintro e av ⟨v4,rfl,hO,hb4⟩;have fL:=af (jY.out.below hb4);have bM:=af (aT.out.trans (hb4.mono aT.out.size));have eu:=FU hO.sl fM.out.1.1 hle;clear hrl hO hb4;go_wp2_with fail
     refine eu.mono ?_;rintro e au ⟨v5,rfl,cS,di⟩;have cD:=af (bM.out.trans (di.mono bM.out.size));have nJ:=DQ (fL.out.below di).sl cS.sl (by rw [zZ,rZ _ _ iY.out,iY.out]) (by rw [iY.out,HN.out];exact hl) fM.out.2 (FX fM.out.1.1 hle);clear eu cS di;go_wp2_with fail
     refine nJ.mono ?_;rintro e aK ⟨v6,rfl,bO,bF⟩;have cH:=af (bO.base cD.out.size);have cC:=af (cD.out.trans (bF.mono cD.out.size));clear nJ bO bF;go_wp2_with fail
     go_ret;exact⟨_,rfl,by rw [←oI.out];exact cH.out,cC.out⟩
    ·rw [if_neg fN]at dh
     have hk2:=dh.out.symm;clear dh;subst hk2
     have jY:Hid (eJ.Row (w1.setCell ⟨g0,t,none⟩ (.int .i64 q)) g0 (.slice (some ⟨g0,0,none⟩) n n) ((List.replicate n (0:Int)).set t q)):=af (by
      have:=xf.out.aQ (k:=0) (u:= .int .i64 q) (e':=q) z1.out (by show 0<1;omega) rfl
      rwa [show t*eJ.m+0=t by show t*1+0=t;omega]at this)
     have aT:Hid (Below w.heap.size w (w1.setCell ⟨g0,t,none⟩ (.int .i64 q))):=af (e3.out.setCell (p:=⟨g0,t,none⟩) (by show w.heap.size≤g0;rw [vt.out];exact Nat.le_refl _) _);clear z1;rw [Int.sub_self]at fM oI;go_upto_region 11 with(fail)
     generalize (List.replicate n (0:Int)).set t q=F at*;generalize w1.setCell ⟨g0,t,none⟩ (.int .i64 q)=w3 at*;go_wp2_with fail
     have hrl:=DP (aq.out.below aT.out) jY.out.sl iY.out (by rw [HN.out];exact hl) qT.out fM.out.2;refine hrl.mono ?_;rintro e av ⟨v4,rfl,hO,hb4⟩;have fL:=af (jY.out.below hb4);have bM:=af (aT.out.trans (hb4.mono aT.out.size));have eu:=FU hO.sl fM.out.1.1 hle;clear hrl hO hb4;go_wp2_with fail
     refine eu.mono ?_;rintro e au ⟨v5,rfl,cS,di⟩;have cD:=af (bM.out.trans (di.mono bM.out.size));have nJ:=DQ (fL.out.below di).sl cS.sl (by rw [zZ,rZ _ _ iY.out,iY.out]) (by rw [iY.out,HN.out];exact hl) fM.out.2 (FX fM.out.1.1 hle);clear eu cS di;go_wp2_with fail
     refine nJ.mono ?_;rintro e aK ⟨v6,rfl,bO,bF⟩;have cH:=af (bO.base cD.out.size);have cC:=af (cD.out.trans (bF.mono cD.out.size));clear nJ bO bF;go_wp2_with fail
     go_ret;exact⟨_,rfl,by rw [←oI.out];exact cH.out,cC.out⟩
   ·rw [if_neg Yg]at dh
    by_cases fN:x<most
    ·rw [if_pos fN]at dh
     have hk2:=dh.out.symm;clear dh;subst hk2
     have jY:Hid (eJ.Row (w1.setCell ⟨g0,t,none⟩ (.int .i64 x)) g0 (.slice (some ⟨g0,0,none⟩) n n) ((List.replicate n (0:Int)).set t x)):=af (by
      have:=xf.out.aQ (k:=0) (u:= .int .i64 x) (e':=x) z1.out (by show 0<1;omega) rfl
      rwa [show t*eJ.m+0=t by show t*1+0=t;omega]at this)
     have aT:Hid (Below w.heap.size w (w1.setCell ⟨g0,t,none⟩ (.int .i64 x))):=af (e3.out.setCell (p:=⟨g0,t,none⟩) (by show w.heap.size≤g0;rw [vt.out];exact Nat.le_refl _) _);clear z1;go_upto_region 11 with(fail)
     generalize (List.replicate n (0:Int)).set t x=F at*;generalize w1.setCell ⟨g0,t,none⟩ (.int .i64 x)=w3 at*;go_wp2_with fail
     have hrl:=DP (aq.out.below aT.out) jY.out.sl iY.out (by rw [HN.out];exact hl) qT.out fM.out.2;refine hrl.mono ?_;rintro e av ⟨v4,rfl,hO,hb4⟩;have fL:=af (jY.out.below hb4);have bM:=af (aT.out.trans (hb4.mono aT.out.size));have eu:=FU hO.sl fM.out.1.1 hle;clear hrl hO hb4;go_wp2_with fail
     refine eu.mono ?_;rintro e au ⟨v5,rfl,cS,di⟩;have cD:=af (bM.out.trans (di.mono bM.out.size));have nJ:=DQ (fL.out.below di).sl cS.sl (by rw [zZ,rZ _ _ iY.out,iY.out]) (by rw [iY.out,HN.out];exact hl) fM.out.2 (FX fM.out.1.1 hle);clear eu cS di;go_wp2_with fail
     refine nJ.mono ?_;rintro e aK ⟨v6,rfl,bO,bF⟩;have cH:=af (bO.base cD.out.size);have cC:=af (cD.out.trans (bF.mono cD.out.size));clear nJ bO bF;go_wp2_with fail
     go_ret;exact⟨_,rfl,by rw [←oI.out];exact cH.out,cC.out⟩
    ·rw [if_neg fN]at dh
     have hk2:=dh.out.symm;clear dh;subst hk2
     have jY:Hid (eJ.Row (w1.setCell ⟨g0,t,none⟩ (.int .i64 most)) g0 (.slice (some ⟨g0,0,none⟩) n n) ((List.replicate n (0:Int)).set t most)):=af (by
      have:=xf.out.aQ (k:=0) (u:= .int .i64 most) (e':=most) z1.out (by show 0<1;omega) rfl
      rwa [show t*eJ.m+0=t by show t*1+0=t;omega]at this)
     have aT:Hid (Below w.heap.size w (w1.setCell ⟨g0,t,none⟩ (.int .i64 most))):=af (e3.out.setCell (p:=⟨g0,t,none⟩) (by show w.heap.size≤g0;rw [vt.out];exact Nat.le_refl _) _);clear z1;go_upto_region 11 with(fail)
     generalize (List.replicate n (0:Int)).set t most=F at*;generalize w1.setCell ⟨g0,t,none⟩ (.int .i64 most)=w3 at*;go_wp2_with fail
     have hrl:=DP (aq.out.below aT.out) jY.out.sl iY.out (by rw [HN.out];exact hl) qT.out fM.out.2;refine hrl.mono ?_;rintro e av ⟨v4,rfl,hO,hb4⟩;have fL:=af (jY.out.below hb4);have bM:=af (aT.out.trans (hb4.mono aT.out.size));have eu:=FU hO.sl fM.out.1.1 hle;clear hrl hO hb4;go_wp2_with fail
     refine eu.mono ?_;rintro e au ⟨v5,rfl,cS,di⟩;have cD:=af (bM.out.trans (di.mono bM.out.size));have nJ:=DQ (fL.out.below di).sl cS.sl (by rw [zZ,rZ _ _ iY.out,iY.out]) (by rw [iY.out,HN.out];exact hl) fM.out.2 (FX fM.out.1.1 hle);clear eu cS di;go_wp2_with fail
     refine nJ.mono ?_;rintro e aK ⟨v6,rfl,bO,bF⟩;have cH:=af (bO.base cD.out.size);have cC:=af (cD.out.trans (bF.mono cD.out.size));clear nJ bO bF;go_wp2_with fail
     go_ret;exact⟨_,rfl,by rw [←oI.out];exact cH.out,cC.out⟩
 ·have gv:xe l q=false:=by rw [Bool.not_eq_true]at hr;exact hr
  have bH:Hid (DT l top most least q= []):=af (if_neg fun hh=>hr hh.1);rw [gv]at aU;rw [bH.out];clear hx hr gv hmk;go_enter Tryz.func151,Tryz.ntmps151
  go_wp2_with fail
  refine aU.out.mono ?_;rintro e w2 ⟨rfl,rfl⟩;clear aU;go_wp2_with fail
  go_ret;exact⟨_,rfl,aY.Row.nil _ _,Below.refl _ _⟩
end Go.Proofs.YtmaijkoopjocdaaGreat
namespace Go.Proofs.YtmaijkoopjocdaaGreat
open Go.RowKit
structure ay where
 id:Int
 side:Int
 ag:Int
 ah:Int
 top:Bool
deriving DecidableEq
def ay.cells (x:ay):List Value:= [.int .i64 x.id,.int .i64 x.side,.int .i64 x.ag,.int .i64 x.ah,.bool x.top]
def PJ:ay:=⟨0,0,0,0,false⟩
theorem ay.jL (x:ay):∀u∈x.cells,u.oneCell'=true:=by
 intro u hu;simp only [ay.cells,List.mem_cons,List.not_mem_nil,or_false]at hu;rcases hu with rfl|rfl|rfl|rfl|rfl<;>rfl
def yp (s:Int):Bool:=s==1||s==2
theorem adV {s:Int} (hs:s=1∨s=2):yp s=true:=by unfold yp;rcases hs with rfl|rfl<;>rfl
def oz (L:List ay) (id ah:Int):List ay×Int:=
 match L.find? (fun o=>o.id==id)with
 |none=>(L,26)
 |some o=>if ah<1∨o.ah<ah then(L,24)else if o.ah=ah then(L.filter (fun x=>decide (x.id≠id)),0)else(L.map (fun x=>if x.id=id then {x with ah:=x.ah-ah}else x),0)
theorem Wh {L:List ay} {id ah:Int} (h:L.find? (fun o=>o.id==id)=none):oz L id ah=(L,26):=by unfold oz;rw [h]
theorem LQ {L:List ay} {id ah:Int} {o:ay} (h:L.find? (fun o=>o.id==id)=some o):oz L id ah=if ah<1∨o.ah<ah then(L,24)else if o.ah=ah then(L.filter (fun x=>decide (x.id≠id)),0)else(L.map (fun x=>if x.id=id then {x with ah:=x.ah-ah}else x),0):=by unfold oz;rw [h]
def lf (side:Int) (o:ay):ay:=if o.side=side then {o with top:=false}else o
def lV (L:List ay) (side ag:Int):Bool:=L.all (fun o=> !(decide (o.side=side)&& !cV side ag o.ag))
def lM (side ag:Int) (o:ay):Bool:=decide (o.side<side)||(decide (o.side=side)&& !cV side ag o.ag)
def m5 (L:List ay) (side ag:Int):Nat:=(L.takeWhile (lM side ag)).length
def lW (L:List ay) (id side ag ah:Int):List ay×Int:=
 if yp side=false then(L,21)else if ah<1∨1000000<ah then(L,24)else if(L.find? (fun o=>o.id==id)).isSome=true then(L,25)else if 250≤L.length then(L,13)else
 ((if lV L side ag=true then L.map (lf side)else L).take (m5 L side ag)++ [⟨id,side,ag,ah,lV L side ag⟩]++(if lV L side ag=true then L.map (lf side)else L).drop (m5 L side ag),0)
def tV (L:List ay) (id:Int):ay×Bool:=match L.find? (fun o=>o.id==id)with|some o=>(o,true)|none=>(PJ,false)
def wB (L:List ay) (side ag:Int):List ay:=L.filter (fun o=>decide (o.side=side∧o.ag=ag))
def oH (o:ay):List ax→List ax
 | []=> [⟨o.ag,o.ah,1⟩]
 |l::ls=>if l.ag=o.ag then⟨o.ag,o.ah+l.ah,1+l.count⟩::ls else⟨o.ag,o.ah,1⟩::l::ls
def iO (L:List ay):List ax:=L.foldr oH []
def p6 (L:List ay) (side:Int):List ay:=L.filter (fun o=>decide (o.side=side))
def j9 (L:List ay) (side:Int):List ax:=iO (p6 L side)
def ja (L:List ay) (side:Int):ax×Bool:=match j9 L side with| []=>(oP,false)|l::_=>(l,true)
theorem UW {α:Type} {P X D cur:List α} {a:Nat} (hP:cur.take a=P) (ha:a+X.length+D.length≤cur.length):
 ((cur.take (a+X.length)++D++cur.drop (a+X.length+D.length)).take a++X++(cur.take (a+X.length)++D++cur.drop (a+X.length+D.length)).drop (a+X.length))=P++X++D++cur.drop (a+X.length+D.length):=by
 have h1:(cur.take (a+X.length)).length=a+X.length:=by rw [List.length_take];omega
 have e1:(cur.take (a+X.length)++D++cur.drop (a+X.length+D.length)).take a=P:=by
  rw [List.append_assoc,List.take_append_of_le_length (by omega),List.take_take,Nat.min_eq_left (by omega),hP]
 have e2:(cur.take (a+X.length)++D++cur.drop (a+X.length+D.length)).drop (a+X.length)=D++cur.drop (a+X.length+D.length):=by
  rw [List.append_assoc,List.drop_append,List.drop_eq_nil_of_le (by omega),h1,Nat.sub_self,List.nil_append];rfl
 rw [e1,e2];simp
theorem UX {α:Type} {P X D cur:List α} {a:Nat} (hP:cur.take a=P) (ha:a+X.length+D.length≤cur.length):
 ((cur.take a++X++cur.drop (a+X.length)).take (a+X.length)++D++(cur.take a++X++cur.drop (a+X.length)).drop (a+X.length+D.length))=P++X++D++cur.drop (a+X.length+D.length):=by
 have h1:(cur.take a++X).length=a+X.length:=by rw [List.length_append,List.length_take];omega
 have e1:(cur.take a++X++cur.drop (a+X.length)).take (a+X.length)=P++X:=by
  rw [List.take_append_of_le_length (by omega),List.take_of_length_le (by omega),hP]
 have e2:(cur.take a++X++cur.drop (a+X.length)).drop (a+X.length+D.length)=cur.drop (a+X.length+D.length):=by
  rw [List.drop_append,List.drop_eq_nil_of_le (by omega),List.nil_append,h1,List.drop_drop]
  congr 1;omega
 rw [e1,e2]
theorem xS (w:World) (g:Nat) (cs:Array Value):aD (fun k=>k=g) w (w.setRow g cs):=⟨rfl,rfl,rfl,by simp,fun k _ h=>setRow_other w g k cs h⟩
theorem aj.row {w:World} {g:Nat} {t:TypeId} {cs:Array Value} (h:aj w g t cs) (cs':Array Value):aj (w.setRow g cs') g t cs':=setRow_heap w g cs cs' t (0,0) h
theorem step_eq {w:World} {ops:Array Oper} {o:Oper} {a:Act} {K:Act→World→Prop} {Q:Exit→Act→World→Prop} {E:Prop} (hgd:o.guard=none) (s x:Operand) (t t':TypeId)
 (ho:o.op= .call {callee:= .builtin .append,args:=#[s,x],argTypes:=#[t,t']}) (u v:Value) (hs:a.eval s=u) (hx:a.eval x=v) {v':Value} {w':World}
 (hr:(Builtin.append_ #[t,t'] o.type #[u,v]).run Tryz.prog w= .ok v' w') (h:K (a.put o.dst v') w'):if Region.wanted o (yielded ops a.tmps)=true then Oper.wp Tryz.prog o a w K Q else E:=by
 have hw:Region.wanted o (yielded ops a.tmps)=true:=by simp [Region.wanted,hgd]
 rw [if_pos hw];unfold Oper.wp execOp;simp only [ho,resolve,invoke,builtin,Sem.run_bind,Sem.run_pure,Result.andThen_ok,List.map_toArray,List.map_cons,List.map_nil,hs,hx,hr];exact h
end Go.Proofs.YtmaijkoopjocdaaGreat
