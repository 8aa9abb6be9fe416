import Derived.Test.YtmaijkoopjocdaaGreatKV18
import Derived.Test.YtmaijkoopjocdaaGreatKV20
set_option maxRecDepth 100000
set_option maxHeartbeats 64000000
namespace Go.Proofs.YtmaijkoopjocdaaGreat
open Go.RowKit Go.Lib
theorem Z9 (w:World) (n:Nat) (hn:n≤100000):e8.Row (w.alloc (.cells ((List.replicate n 0).flatMap lA).toArray 2)) w.heap.size (.slice ↑w.heap.size n n) (List.replicate n 0):=by
 unfold bl.Row;rw [List.length_replicate];have hfl:((List.replicate n (0:Int)).flatMap lA).length=n*1:=by rw [mK lA 1 (fun _=>rfl),List.length_replicate]
 exact⟨hfl,.inr ⟨w.heap.size,n,_,rfl,Nat.le_refl _,av.new w _ _,Nat.le_refl _,by unfold maxLen;omega,by rw [List.size_toArray,hfl];rfl,by rw [List.take_of_length_le (by rw [hfl];show n*1≤n*1;exact Nat.le_refl _)];rfl⟩⟩
theorem ai9 (n:Nat):madeCells (Value.int .i64 0).cells (n*1)=((List.replicate n (0:Int)).flatMap lA).toArray:=by
 apply Array.toList_inj.1;apply List.ext_getElem?;intro j;by_cases hj:j<n*1
 ·have h:=NA lA 1 (fun _=>rfl) (List.replicate n (0:Int)) j 0 (by simp;omega) (by omega)
  rw [show j*1+0=j by omega,List.getElem_replicate]at h;show _=((List.replicate n (0:Int)).flatMap lA)[j]?;rw [h];simp only [madeCells,Array.toList_map,Array.toList_range,List.getElem?_map,List.getElem?_range hj,Option.map_some];have hr:j % 1=0:=Nat.mod_one j;show some ((#[Value.int .i64 0])[j % 1]!)=_;rw [hr];rfl
 ·have h1:(madeCells (Value.int .i64 0).cells (n*1)).toList.length=n*1:=by rw [Array.length_toList,size_madeCells]
  rw [List.getElem?_eq_none (by omega),List.getElem?_eq_none (by
   show((List.replicate n (0:Int)).flatMap lA).length≤j;rw [mK lA 1 (fun _=>rfl)];simp;omega)]
theorem aja:(Tryz.prog.info? 2).map (fun i=>(i.zero,i.size,i.bytes))=some (some (.int .i64 0),1,8):=by kernel_rfl
theorem aac (n:Nat):(List.replicate n (0:Int)).sum=0:=by
 induction n with
 |zero=>rfl
 |succ n ih=>rw [List.replicate_succ,List.sum_cons,ih];rfl
theorem aad:∀(n t:Nat) (k:Int),t<n→((List.replicate n (0:Int)).set t k).sum=k
 |n+1,0,k,_=>by rw [List.replicate_succ,List.set_cons_zero,List.sum_cons,aac];omega
 |n+1,t+1,k,h=>by rw [List.replicate_succ,List.set_cons_succ,List.sum_cons,aad n t k (by omega)];omega
theorem ajb {most q x:Int} (h1:0≤most) (h2:0≤q) (h3:0≤x):0≤sQ most q x∧sQ most q x≤x∧sQ most q x≤q:=by
 unfold sQ;by_cases hq:q<most
 ·rw [if_pos hq];split<;>omega
 ·rw [if_neg hq];split<;>omega
theorem ajc {w:World} {v:Value} {l:List Int} (h:e8.eT w v l) (hl:l.length≤250) (hx:∀x∈l,1≤x∧x≤1000000) (top most least q:Int) (ht:top= -1∨∃t:Nat,top=t∧t<l.length) (hm:0≤most∧most≤1000000000) (hle:1≤least):
 Calls Tryz.prog 151 #[v,↑top,↑most,↑least,↑q] w fun e w'=>∃v',e= .returned v'∧e8.Row w' w.heap.size v' (FD l top most least q)∧Below w.heap.size w w':=by
 have bg:=af (SC h hl hx q);rw [←HS hl hx]at bg;have mX:=BR (b:=1000000) fun x gx=>(hx x gx).2;have hm0:=hm.1;have La:=hm.2;have d0:¬most<0:=by omega
 have d2:¬least<1:=by omega
 obtain⟨i0,hi,dm,hz1,eg⟩:=info_parts aja;have hmk:=fun w=>run_makeSlice (P:=Tryz.prog) w 23 2 i0 _ Tryz.underlying23 hi dm .i64 .i64 l.length l.length (by omega) (by omega) (by rw [hz1];omega) (by rw [eg];omega) (by omega);rw [hz1,Int.toNat_natCast,ai9]at hmk;have D4:=af hmk;have hnb:(l.length:Int)≤250:=by omega
 by_cases hr:yX l q=true
 ·have hd:=hr
  rw [HS hl hx,decide_eq_true_eq]at hd;obtain⟨jW,hq1⟩:=hd;have hq2:q≤250000000:=by omega
  have bR:Hid (FD l top most least q=oV (Al l top most q) (xG (iN l (Al l top most q)) least (HU l top most q))):=af (if_pos ⟨hr,hle,hm.1⟩);rw [hr]at bg;rw [bR.out];have aD:=af h;have c6:=af hl;have uy:Hid (∀x∈l,ox x):=af fun x gx=>by have:=hx x gx;unfold ox;omega
  have xu:Hid (∀(F:List Int) (k:Int),F.length=l.length→F.sum=k→(∀(j:Nat) (x y:Int),l[j]? =some x→F[j]? =some y→0≤y∧y≤x)→k≤q→0≤k→(xF (iN l F) (q-k)∧∀x∈iN l F,ox x)∧∀y∈F,ox y):=af fun F k h1 h2 h3 h4 h5=>
   ⟨Z2 hl h1 hx h3 h2 h4 hq1 h5,fun y hy=>by
    obtain⟨j,hj,rfl⟩:=List.getElem_of_mem hy;have hj2:j<l.length:=by omega
    have:=h3 j _ _ (List.getElem?_eq_getElem hj2) (List.getElem?_eq_getElem hj);have:=hx _ (List.getElem_mem hj2);unfold ox;omega⟩
  have bz:=af hx;obtain⟨a,c,rfl,_,_⟩:=h;obtain⟨n,hn⟩:=ai l.length;have HN:=af hn;rw [hn]at D4 bg aD hnb hl ht⊢;clear hx hi dm hz1 eg hmk hr hn;have hmk:=D4.out w;rcases ht with rfl|⟨t,rfl,htn⟩
  ·have b5:Hid (Al l (-1) most q=List.replicate n 0∧HU l (-1) most q=q-0):=af (by unfold Al HU;rw [if_neg (by omega),if_neg (by omega),HN.out];exact⟨rfl,by omega⟩)
   rw [b5.out.1,b5.out.2]
   have hby:=xu.out (List.replicate n 0) 0 (by rw [List.length_replicate,HN.out]) (aac n) (fun j x y h1 h2=>by
    rw [List.getElem?_replicate]at h2;split at h2
    ·injection h2 with h2;have:=bz.out x (List.mem_of_getElem? h1);omega
    ·cases h2) jW (by omega)
   have fB:=af hby;clear hby;have yY:=af (Z9 w n (by omega));have fE:=af (Below.aI w (.cells ((List.replicate n (0:Int)).flatMap lA).toArray 2));have xW:q-0=q:=by omega
   have jM:Hid ((List.replicate n (0:Int)).length=l.length):=af (by rw [List.length_replicate,HN.out]);rw [xW]at fB⊢;obtain⟨R,oT⟩:=ai (oV (List.replicate n 0) (xG (iN l (List.replicate n 0)) least q));rw [oT];have nW:=af oT;clear oT;clear b5 xu xW;go_enter Tryz.func151,Tryz.ntmps151
   go_wp2_with fail
   refine bg.out.mono ?_;rintro e w2 ⟨rfl,rfl⟩;clear bg;go_upto_region 4 with(fail)
   generalize List.replicate n (0:Int)=F at*;obtain⟨g0,og⟩:=ai w.heap.size;have C3:=af og;rw [og]at yY⊢;clear og hmk;generalize w.alloc (.cells (F.flatMap lA).toArray 2)=w1 at*;go_wp2_with fail
   have hrl:=Fz (aD.out.below fE.out) yY.out.sl jM.out (by rw [HN.out];exact hl) uy.out fB.out.2;refine hrl.mono ?_;rintro e az ⟨v4,rfl,gJ,hb4⟩;have fM:=af (yY.out.below hb4);have bN:=ag fE hb4;have dO:=HQ gJ.sl fB.out.1.1 hle;clear hrl gJ hb4;go_wp2_with fail
   refine dO.mono ?_;rintro e aA ⟨v5,rfl,dl,cx⟩;have bY:=ag bN cx;have oG:=FA (fM.out.below cx).sl dl.sl (by rw [BS,tQ _ _ jM.out,jM.out]) (by rw [jM.out,HN.out];exact hl) fB.out.2 (HT fB.out.1.1 hle);clear dO dl cx;go_wp2_with fail
   refine oG.mono ?_;rintro e aN ⟨v6,rfl,bX,bI⟩;have cL:=af (bX.base bY.out.size);have b7:=ag bY bI;clear oG bX bI;go_wp2_with fail
   go_ret;exact⟨_,rfl,by rw [←nW.out];exact cL.out,b7.out⟩
  ·obtain⟨x,ij⟩:∃x,l[t]? =some x:=⟨_,List.getElem?_eq_getElem (by rw [HN.out];exact htn)⟩
   obtain⟨hx0,hx1⟩:=bz.out x (List.mem_of_getElem? ij);have hk:=ajb (most:=most) (q:=q) (x:=x) hm0 jW (by omega)
   have b5:Hid (Al l t most q=(List.replicate n 0).set t (sQ most q x)∧HU l t most q=q-sQ most q x):=af (by
    unfold Al HU;rw [if_pos ⟨by omega,by rw [HN.out];omega⟩,if_pos ⟨by omega,by rw [HN.out];omega⟩,HN.out,Int.toNat_natCast,Bu ij];exact⟨rfl,rfl⟩)
   rw [b5.out.1,b5.out.2]
   have hby:=xu.out ((List.replicate n 0).set t (sQ most q x)) (sQ most q x) (by rw [List.length_set,List.length_replicate,HN.out]) (aad n t _ htn) (fun j z y h1 h2=>by
    have hz:=bz.out z (List.mem_of_getElem? h1);by_cases hjt:t=j
    ·subst hjt
     rw [List.getElem?_set_self (by rw [List.length_replicate];exact htn)]at h2;injection h2 with h2;rw [ij]at h1;injection h1 with h1;omega
    ·rw [List.getElem?_set_ne hjt,List.getElem?_replicate]at h2
     split at h2
     ·injection h2 with h2;omega
     ·cases h2) hk.2.2 hk.1
   have fB:=af hby;clear hby;have yY:=af (Z9 w n (by omega));have fE:=af (Below.aI w (.cells ((List.replicate n (0:Int)).flatMap lA).toArray 2));have jM:Hid (((List.replicate n (0:Int)).set t (sQ most q x)).length=l.length):=af (by rw [List.length_set,List.length_replicate,HN.out]);obtain⟨R,oT⟩:=ai (oV ((List.replicate n 0).set t (sQ most q x)) (xG (iN l ((List.replicate n 0).set t (sQ most q x))) least (q-sQ most q x)));rw [oT];have nW:=af oT;clear oT;have ano:(t:Int)<(n:Int):=by omega
   have aae:(List.replicate n (0:Int))[t]? =some 0:=by rw [List.getElem?_replicate,if_pos htn]
   have BT:=af aae;obtain⟨b1,off,rfl,_⟩:=qU aD.out ij;have ajd:=af ij;clear b5 xu aae ij;go_enter Tryz.func151,Tryz.ntmps151
   go_wp2_with fail
   refine bg.out.mono ?_;rintro e w2 ⟨rfl,rfl⟩;clear bg;go_upto_region 4 with(fail)
   have D2:(w.alloc (.cells ((List.replicate n (0:Int)).flatMap lA).toArray 2)).cell? ⟨b1,off+t,none⟩=some ↑x:=by
    obtain⟨b3,CI,he,h3⟩:=qU (aD.out.below fE.out) ajd.out;injection he with he;injection he with e1 e2;rw [e1,e2];exact h3
   obtain⟨g0,og⟩:=ai w.heap.size;have C3:=af og;have Cz:=yY.out;have eU:=Cz.2;rw [og]at yY⊢
   have c0:(w.alloc (.cells ((List.replicate n (0:Int)).flatMap lA).toArray 2)).cell? ⟨g0,t,none⟩=some (.int .i64 0):=by
    obtain⟨b3,CI,he,h3⟩:=qU (yY.out.sl) BT.out;injection he with he;injection he with e1 e2;rw [show t=CI+t by omega,e1];exact h3
   have fz:∀o,(w.alloc (.cells ((List.replicate n (0:Int)).flatMap lA).toArray 2)).frozen? ⟨g0,o,none⟩=false:=fun o=>by
    have:=(av.new w 2 ((List.replicate n (0:Int)).flatMap lA).toArray).frozen o
    rwa [C3.out]at this
   clear og hmk Cz eU;generalize w.alloc (.cells ((List.replicate n (0:Int)).flatMap lA).toArray 2)=w1 at*;have dN:Hid (sQ most q x=if x<(if q<most then q else most)then x else if q<most then q else most):=af rfl;generalize sQ most q x=K at*;by_cases aaf:q<most
   ·rw [if_pos aaf]at dN
    by_cases gx:x<q
    ·rw [if_pos gx]at dN
     have hk2:=dN.out.symm;clear dN;subst hk2
     have kv:Hid (e8.Row (w1.setCell ⟨g0,t,none⟩ ↑x) g0 (.slice ↑g0 n n) ((List.replicate n (0:Int)).set t x)):=af (by
      have:=yY.out.aW (k:=0) (u:=↑x) (e':=x) BT.out (by show 0<1;omega) rfl
      rwa [show t*e8.m+0=t by show t*1+0=t;omega]at this)
     have aS:Hid (Below w.heap.size w (w1.setCell ⟨g0,t,none⟩ ↑x)):=af (fE.out.setCell (p:=⟨g0,t,none⟩) (by show w.heap.size≤g0;rw [C3.out];exact Nat.le_refl _) _);clear BT;go_upto_region 11 with(fail)
     generalize (List.replicate n (0:Int)).set t x=F at*;generalize w1.setCell ⟨g0,t,none⟩ ↑x=w3 at*;go_wp2_with fail
     have hrl:=Fz (aD.out.below aS.out) kv.out.sl jM.out (by rw [HN.out];exact hl) uy.out fB.out.2;refine hrl.mono ?_;rintro e az ⟨v4,rfl,gJ,hb4⟩;have fM:=af (kv.out.below hb4);have bN:=ag aS hb4;have dO:=HQ gJ.sl fB.out.1.1 hle;clear hrl gJ hb4;go_wp2_with fail
     refine dO.mono ?_;rintro e aA ⟨v5,rfl,dl,cx⟩;have bY:=ag bN cx;have oG:=FA (fM.out.below cx).sl dl.sl (by rw [BS,tQ _ _ jM.out,jM.out]) (by rw [jM.out,HN.out];exact hl) fB.out.2 (HT fB.out.1.1 hle);clear dO dl cx;go_wp2_with fail
     refine oG.mono ?_;rintro e aN ⟨v6,rfl,bX,bI⟩;have cL:=af (bX.base bY.out.size);have b7:=ag bY bI;clear oG bX bI;go_wp2_with fail
     go_ret;exact⟨_,rfl,by rw [←nW.out];exact cL.out,b7.out⟩
    ·rw [if_neg gx]at dN
     have hk2:=dN.out.symm;clear dN;subst hk2
     have kv:Hid (e8.Row (w1.setCell ⟨g0,t,none⟩ ↑q) g0 (.slice ↑g0 n n) ((List.replicate n (0:Int)).set t q)):=af (by
      have:=yY.out.aW (k:=0) (u:=↑q) (e':=q) BT.out (by show 0<1;omega) rfl
      rwa [show t*e8.m+0=t by show t*1+0=t;omega]at this)
     have aS:Hid (Below w.heap.size w (w1.setCell ⟨g0,t,none⟩ ↑q)):=af (fE.out.setCell (p:=⟨g0,t,none⟩) (by show w.heap.size≤g0;rw [C3.out];exact Nat.le_refl _) _);clear BT;rw [Int.sub_self]at fB nW;go_upto_region 11 with(fail)
     generalize (List.replicate n (0:Int)).set t q=F at*;generalize w1.setCell ⟨g0,t,none⟩ ↑q=w3 at*;go_wp2_with fail
     have hrl:=Fz (aD.out.below aS.out) kv.out.sl jM.out (by rw [HN.out];exact hl) uy.out fB.out.2;refine hrl.mono ?_;rintro e az ⟨v4,rfl,gJ,hb4⟩;have fM:=af (kv.out.below hb4);have bN:=ag aS hb4;have dO:=HQ gJ.sl fB.out.1.1 hle;clear hrl gJ hb4;go_wp2_with fail
     refine dO.mono ?_;rintro e aA ⟨v5,rfl,dl,cx⟩;have bY:=ag bN cx;have oG:=FA (fM.out.below cx).sl dl.sl (by rw [BS,tQ _ _ jM.out,jM.out]) (by rw [jM.out,HN.out];exact hl) fB.out.2 (HT fB.out.1.1 hle);clear dO dl cx;go_wp2_with fail
     refine oG.mono ?_;rintro e aN ⟨v6,rfl,bX,bI⟩;have cL:=af (bX.base bY.out.size);have b7:=ag bY bI;clear oG bX bI;go_wp2_with fail
     go_ret;exact⟨_,rfl,by rw [←nW.out];exact cL.out,b7.out⟩
   ·rw [if_neg aaf]at dN
    by_cases gx:x<most
    ·rw [if_pos gx]at dN
     have hk2:=dN.out.symm;clear dN;subst hk2
     have kv:Hid (e8.Row (w1.setCell ⟨g0,t,none⟩ ↑x) g0 (.slice ↑g0 n n) ((List.replicate n (0:Int)).set t x)):=af (by
      have:=yY.out.aW (k:=0) (u:=↑x) (e':=x) BT.out (by show 0<1;omega) rfl
      rwa [show t*e8.m+0=t by show t*1+0=t;omega]at this)
     have aS:Hid (Below w.heap.size w (w1.setCell ⟨g0,t,none⟩ ↑x)):=af (fE.out.setCell (p:=⟨g0,t,none⟩) (by show w.heap.size≤g0;rw [C3.out];exact Nat.le_refl _) _);clear BT;go_upto_region 11 with(fail)
     generalize (List.replicate n (0:Int)).set t x=F at*;generalize w1.setCell ⟨g0,t,none⟩ ↑x=w3 at*;go_wp2_with fail
     have hrl:=Fz (aD.out.below aS.out) kv.out.sl jM.out (by rw [HN.out];exact hl) uy.out fB.out.2;refine hrl.mono ?_;rintro e az ⟨v4,rfl,gJ,hb4⟩;have fM:=af (kv.out.below hb4);have bN:=ag aS hb4;have dO:=HQ gJ.sl fB.out.1.1 hle;clear hrl gJ hb4;go_wp2_with fail
     refine dO.mono ?_;rintro e aA ⟨v5,rfl,dl,cx⟩;have bY:=ag bN cx;have oG:=FA (fM.out.below cx).sl dl.sl (by rw [BS,tQ _ _ jM.out,jM.out]) (by rw [jM.out,HN.out];exact hl) fB.out.2 (HT fB.out.1.1 hle);clear dO dl cx;go_wp2_with fail
     refine oG.mono ?_;rintro e aN ⟨v6,rfl,bX,bI⟩;have cL:=af (bX.base bY.out.size);have b7:=ag bY bI;clear oG bX bI;go_wp2_with fail
     go_ret;exact⟨_,rfl,by rw [←nW.out];exact cL.out,b7.out⟩
    ·rw [if_neg gx]at dN
     have hk2:=dN.out.symm;clear dN;subst hk2
     have kv:Hid (e8.Row (w1.setCell ⟨g0,t,none⟩ ↑most) g0 (.slice ↑g0 n n) ((List.replicate n (0:Int)).set t most)):=af (by
      have:=yY.out.aW (k:=0) (u:=↑most) (e':=most) BT.out (by show 0<1;omega) rfl
      rwa [show t*e8.m+0=t by show t*1+0=t;omega]at this)
     have aS:Hid (Below w.heap.size w (w1.setCell ⟨g0,t,none⟩ ↑most)):=af (fE.out.setCell (p:=⟨g0,t,none⟩) (by show w.heap.size≤g0;rw [C3.out];exact Nat.le_refl _) _);clear BT;go_upto_region 11 with(fail)
     generalize (List.replicate n (0:Int)).set t most=F at*;generalize w1.setCell ⟨g0,t,none⟩ ↑most=w3 at*;go_wp2_with fail
     have hrl:=Fz (aD.out.below aS.out) kv.out.sl jM.out (by rw [HN.out];exact hl) uy.out fB.out.2;refine hrl.mono ?_;rintro e az ⟨v4,rfl,gJ,hb4⟩;have fM:=af (kv.out.below hb4);have bN:=ag aS hb4;have dO:=HQ gJ.sl fB.out.1.1 hle;clear hrl gJ hb4;go_wp2_with fail
     refine dO.mono ?_;rintro e aA ⟨v5,rfl,dl,cx⟩;have bY:=ag bN cx;have oG:=FA (fM.out.below cx).sl dl.sl (by rw [BS,tQ _ _ jM.out,jM.out]) (by rw [jM.out,HN.out];exact hl) fB.out.2 (HT fB.out.1.1 hle);clear dO dl cx;go_wp2_with fail
     refine oG.mono ?_;rintro e aN ⟨v6,rfl,bX,bI⟩;have cL:=af (bX.base bY.out.size);have b7:=ag bY bI;clear oG bX bI;go_wp2_with fail
     go_ret;exact⟨_,rfl,by rw [←nW.out];exact cL.out,b7.out⟩
 ·have gv:yX l q=false:=by rw [Bool.not_eq_true]at hr;exact hr
  have bR:Hid (FD l top most least q= []):=af (if_neg fun hh=>hr hh.1);rw [gv]at bg;rw [bR.out];clear hx hr gv hmk;go_enter Tryz.func151,Tryz.ntmps151
  go_wp2_with fail
  refine bg.out.mono ?_;rintro e w2 ⟨rfl,rfl⟩;clear bg;go_wp2_with fail
  go_ret;exact⟨_,rfl,bl.Row.nil _ _,Below.refl _ _⟩
theorem afi {w:World} {B aM:Nat} {s:Value} {R:List aF} {x:aF} (h:hH.Row w B s R) (hv:av w aM 86 x.cells.toArray) (hB:B≤w.heap.size) (hl:R.length≤900000):
 Calls Tryz.prog 41 #[s,↑R.length,.slice ↑aM 1 1] w fun e w'=>∃v',e= .returned v'∧hH.Row w' B v' (R++ [x])∧aK (fun g=>s.ownBlock=some g) w w'∧(v'.ownBlock=s.ownBlock∨v'.ownBlock=some w.heap.size):=by
 have en:=af h;have dD:=af hv;rcases h.2 with⟨hs,h0⟩|⟨g,c,cur,hs,vF,hb,hnc,jy,hcs,jZ⟩
 ·subst hs
  rw [h0];clear h hv;go_enter Tryz.func41,Tryz.ntmps41
  go_wp2_with (first
   |(at_builtin;go_loud (refine hH.push rfl (.tmp 23) (.tmp 24) rfl B (.slice none 0 0) R rfl en.out aM x rfl dD.out.lt dD.out.gH (by omega) hB ?_)))
  intro v' aN bX cQ eG;have bM:=af bX;have bU:=af (fK cQ);have e9:=af eG;clear bX cQ eG;go_wp2_with fail
  go_ret;exact⟨_,rfl,bM.out,bU.out.more (fun k hk=>hk.symm▸rfl),e9.out⟩
 ·subst hs
  unfold maxLen at jy;have q1:R.length≤c:=hnc;obtain⟨n,hn⟩:=ai R.length;rw [hn]at q1 hl⊢;have HN:=af hn;replace en:Hid (hH.Row w B (.slice ↑g n c) R):=af (by rw [←hn];exact en.out);clear h hv vF hb hnc hcs jZ hn;go_enter Tryz.func41,Tryz.ntmps41
  go_wp2_with (first
   |(at_builtin;go_loud (refine hH.push rfl (.tmp 23) (.tmp 24) rfl B (.slice ↑g n c) R rfl en.out aM x rfl dD.out.lt dD.out.gH (by rw [HN.out];omega) hB ?_)))
  all_goals (
   intro v' aN bX cQ eG;have bM:=af bX;have bU:=af (fK cQ);have e9:=af eG;clear bX cQ eG;go_wp2_with fail
   go_ret;exact⟨_,rfl,bM.out,bU.out,e9.out⟩)
theorem afj {w:World} {B aM:Nat} {s:Value} {R:List aF} {x:aF} {i:Nat} (h:hH.Row w B s R) (hi:i≤R.length) (hv:av w aM 86 x.cells.toArray) (hne:s.ownBlock≠some aM) (hB:B≤w.heap.size) (hl:R.length≤900000):
 Calls Tryz.prog 41 #[s,↑i,.slice ↑aM 1 1] w fun e w'=>∃v',e= .returned v'∧hH.Row w' B v' (R.take i++ [x]++R.drop i)∧aK (fun g=>s.ownBlock=some g) w w'∧(v'.ownBlock=s.ownBlock∨v'.ownBlock=some w.heap.size):=by
 by_cases hin:i=R.length
 ·subst hin
  refine(afi h hv hB hl).mono ?_;rintro e w' ⟨v',h1,h2,h3,h4⟩;exact⟨v',h1,by rw [List.take_length,List.drop_length,List.append_nil];exact h2,h3,h4⟩
 ·have JP:i<R.length:=by omega
  rcases h.2 with⟨hs,h0⟩|⟨g,c,cur,hs,vF,hb,hnc,jy,hcs,jZ⟩
  ·omega
  ·subst hs
   have fC:aM≠g:=by rintro rfl;exact hne rfl
   by_cases hroom:R.length+1≤c
   ·refine(afk hb rfl hcs jZ vF jy JP hroom hv fC hl).mono ?_
    rintro e w' ⟨h1,h2,h3⟩;exact⟨_,h1,h2,h3.more fun k hk=>by rw [hk];rfl,.inl rfl⟩
   ·obtain rfl:c=R.length:=by omega
    refine(afl hb rfl hcs jZ hB JP hv hl).mono ?_;rintro e w' ⟨c',h1,h2,h3⟩;exact⟨_,h1,h2,h3.more fun _ h=>h.elim,.inr rfl⟩
theorem akL {W w:World} {pv n:Nat} {hv:Value} {s:ig} (h:fA W w pv n hv s) {cc:Nat} (hk:pL n cc s) (lf:sG s.H) (oK:cc≤500000) {v:Value} {b:List Int} (hsl:cZ.eT w v b) (hl:b.length≤900000) (hok:∀z∈b,isByte z) {q ii sd p t c:Int} {im:Bool} (hd:pg b=some ⟨q,ii,sd,p,t,c,im⟩) (hq:¬q<1) (hf:n6 n ⟨q,ii,sd,p,t,c,im⟩=0) (ho:q≤s.seq∨kP q s.H=true):
 Calls Tryz.prog 11 #[.pointer ↑pv,v] w fun e w'=>e= .returned (.int .i64 (33))∧∃dF,fA W w' pv n dF s∧aK (wo pv hv) w w'∧∀g,dF.ownBlock=some g→hv.ownBlock=some g∨w.heap.size≤g:=by
 have hdec:=DV hsl hl hok;rw [hd]at hdec;unfold Cp at hdec;simp only [Option.getD_some,Option.isSome_some,if_true]at hdec;unfold aF.cells at hdec;dsimp only at hdec;have hmo:=(FQ hok hd).1;have uW:=af hmo;have oy:=af hdec;have H0:=af h;have dJ:=af hk;have B1:=af lf;have hlv:=hk.len;have b5:=af hf;have e9:=af ho;clear ho;clear hf hdec h hk hsl hl hok hd hmo lf;go_enter Tryz.func11,Tryz.ntmps11
 go_wp2_with fail
 refine oy.out.mono ?_;rintro e w1 ⟨rfl,hb⟩;have bA:=af hb;obtain⟨ay,dL⟩:=ai w1.heap.size;go_upto_region 2 with(fail)
 have hba:=Below.aI w1 (.cells #[↑q,↑ii,↑sd,↑p,↑t,↑c,↑im] 86);have fT:av (w1.alloc (.cells #[↑q,↑ii,↑sd,↑p,↑t,↑c,↑im] 86)) w1.heap.size 86 #[↑q,↑ii,↑sd,↑p,↑t,↑c,↑im]:=av.new w1 _ _;rw [dL]at fT;have dc:=af fT;have bL:Hid (w.heap.size≤ay):=af (by rw [←dL];exact hb.size);have aS:=af (hb.trans (hba.mono hb.size));clear hb hba fT dL bA oy;generalize w1.alloc (.cells #[↑q,↑ii,↑sd,↑p,↑t,↑c,↑im] 86)=w2 at*;have ot:=af (H0.out.below aS.out);obtain⟨a2,c2,aT,_⟩:=H0.out.below aS.out |>.box;have jA:=af aT;obtain⟨m0,m1,m2,eN,ea,eY,dV⟩:=dc.out.amz;have k0:w2.cell? ↑pv=some ↑n:=aT.cell 0;clear aT;have hq2:decide (q<1)=false:=decide_eq_false (by omega);have eu:=xQ n ⟨q,ii,sd,p,t,c,im⟩ w2.drew;unfold aF.agg at eu;dsimp only at eu;obtain⟨fv,kV⟩:=ai (n6 n ⟨q,ii,sd,p,t,c,im⟩);rw [kV]at eu;have vh:=af eu;have B2:=af kV;clear eu kV;go_upto_region 4 with(fail)
 have hS:w2.cell? ↑ay=some ↑q∧w2.cell? ⟨ay,1,none⟩=some ↑ii∧w2.cell? ⟨ay,2,none⟩=some ↑sd∧w2.cell? ⟨ay,3,none⟩=some ↑p∧w2.cell? ⟨ay,4,none⟩=some ↑t∧w2.cell? ⟨ay,5,none⟩=some ↑c∧w2.cell? ⟨ay,6,none⟩=some ↑im∧w2.cell? ↑pv=some ↑n:=⟨m0,m1,m2,eN,ea,eY,dV,k0⟩;refine cP (S:=fun w2=>w2.cell? ↑ay=some ↑q∧w2.cell? ⟨ay,1,none⟩=some ↑ii∧w2.cell? ⟨ay,2,none⟩=some ↑sd∧w2.cell? ⟨ay,3,none⟩=some ↑p∧w2.cell? ⟨ay,4,none⟩=some ↑t∧w2.cell? ⟨ay,5,none⟩=some ↑c∧w2.cell? ⟨ay,6,none⟩=some ↑im∧w2.cell? ↑pv=some ↑n) hS fun hHeld=>?_;refine au 0 ?_;refine au 1 ?_;refine au 2 ?_;refine au 3 ?_;refine au 4 ?_;refine au 5 ?_;refine au 6 ?_;refine au 7 ?_;refine au 8 ?_;refine aU 9 fun K hK=>?_;go_simp;refine vh.out.mono ?_;rintro e w3 ⟨rfl,hb⟩;have hb3:=(Below.bO w2 1).trans hb;have mb:=af (ot.out.below hb3);have aQ:=ag aS hb3;have eD:=af (dc.out.below hb3);have gV:=af (jA.out.below hb3);refine hK.out _ _ ⟨eD.out.cell 0,eD.out.cell 1,eD.out.cell 2,eD.out.cell 3,eD.out.cell 4,eD.out.cell 5,eD.out.cell 6,gV.out.cell 0⟩ (fun hHeld=>?_);clear hK K hb hb3 hS vh ot aS dc jA m0 m1 m2 eN ea eY dV k0;refine au 10 ?_;refine dY 11 fun K hK=>?_;go_simp;refine hK.out _ _ ?_;clear hK K hHeld hq2;have iH:fv=0:=by rw [←B2.out];exact b5.out
 subst iH;obtain⟨jO,ch,gU⟩:=mb.out.held.form;subst gU;have sN:=Oj (mb.out.below (Below.bO w3 1)).held.sl B1.out (by have:=dJ.out.hl;omega) q;have zl:=af sN;have hS:w3.cell? ⟨pv,3,none⟩=some (.slice jO s.H.length ch)∧w3.cell? ↑ay=some ↑q:=⟨gV.out.cell 3,eD.out.cell 0⟩;clear sN;go_upto_region 6 with(fail)
 go_cut [7,8] (fun u v wx=>u= .int .i64 (r5 q s.H)∧v= .bool (kP q s.H)∧Below w3.heap.size w3 wx)
 case first=>
  refine cP (S:=fun w3=>w3.cell? ⟨pv,3,none⟩=some (.slice jO s.H.length ch)∧w3.cell? ↑ay=some ↑q) hS fun hHeld=>?_;refine au 0 ?_;refine au 1 ?_;refine au 2 ?_;refine au 3 ?_;refine au 4 ?_;refine au 5 ?_;refine aU 6 fun K hK=>?_;go_simp;refine zl.out.mono ?_;rintro e az ⟨rfl,hb⟩;have hb4:=(Below.bO w3 1).trans hb;have bN:=af hb4;have qI:az.cell? ⟨pv,3,none⟩=some (.slice jO s.H.length ch)∧az.cell? ↑ay=some ↑q:=⟨(gV.out.below hb4).cell 3,(eD.out.below hb4).cell 0⟩;refine hK.out _ _ qI (fun hHeld=>?_);clear hK K hb hb4;refine au 7 ?_;refine au 8 ?_;refine au 9 ?_;refine aU 10 fun K hK=>?_;go_simp;refine hK.out _ _ qI (fun hHeld=>?_);clear hK K;refine dY 11 fun K hK=>?_;go_simp;refine hK.out _ _ ?_;clear hK K;go_wp2_with fail
  go_meet;exact⟨rfl,rfl,bN.out⟩
 case rest=>
 obtain⟨rfl,rfl,hb4⟩:=hcut;obtain⟨az,rfl⟩:=aj wc;have tI:=af (mb.out.below hb4);have bY:=ag aQ hb4;have wP:=af (eD.out.below hb4);have lN:=af (gV.out.below hb4);have m0:az.cell? ↑ay=some ↑q:=wP.out.cell 0;have k2:az.cell? ⟨pv,2,none⟩=some ↑s.seq:=lN.out.cell 2;obtain⟨hh,tV⟩:=ai (kP q s.H);obtain⟨fS,nG⟩:=ai (r5 q s.H);rw [tV,nG];have FR:=af tV;have l9:=af nG;clear hS zl mb aQ eD gV hb4 tV nG;by_cases hle:q≤s.seq
 ·have FT:decide (q≤s.seq)=true:=decide_eq_true hle
  go_wp2_with fail
  go_quiet (fail)
  go_wp2_with fail
  go_ret;have bQ:=Below.bO az nq;exact⟨by trivial,_,tI.out.below bQ,Below.keeps (ag bY bQ).out,fun g hg=> .inl hg⟩
 ·have FT:decide (q≤s.seq)=false:=decide_eq_false hle
  obtain rfl:hh=true:=by rcases e9.out with h|h;exact absurd h hle;rw [←FR.out];exact h
  clear hle;go_wp2_with fail
  go_quiet (fail)
  go_wp2_with fail
  go_ret;have bQ:=Below.bO az nq;exact⟨by trivial,_,tI.out.below bQ,Below.keeps (ag bY bQ).out,fun g hg=> .inl hg⟩
def pP (L:List aC):Int:=match L.findIdx? (fun o=>o.top)with|none=> -1|some i=>i
def Ba (p:Prod) (L:List aC) (q:Int):List Int:=
 if p.rule=1 then FB (L.map aC.aq) q else if p.rule=2 then FD (L.map aC.aq) (pP L) p.top p.least q else FC (L.map aC.aq) p.part p.least q
theorem JE (p:Prod) (L:List aC) (q:Int):(Ba p L q).length≤L.length:=by
 unfold Ba;have h:(L.map aC.aq).length=L.length:=List.length_map ..;split
 ·rw [←h];exact aje _ _
 ·split
  ·rw [←h];exact ajf _ _ _ _ _
  ·rw [←h];exact ajg _ _ _ _
theorem ajh (L:List aC):pP L= -1∨∃t:Nat,pP L=t∧t<L.length:=by
 unfold pP;cases h:L.findIdx? (fun o=>o.top)with
 |none=>exact .inl rfl
 |some i=>exact .inr ⟨i,rfl,by
  obtain⟨h1,_⟩:=List.findIdx?_eq_some_iff_findIdx_eq.1 h;exact h1⟩
theorem aag {L:List aC} (h:L.findIdx? (fun o=>o.top)=none):pP L= -1:=by unfold pP;rw [h]
theorem SE {L:List aC} {i:Nat} (h:L.findIdx? (fun o=>o.top)=some i):pP L=i:=by unfold pP;rw [h]
theorem aji (L:List aC) (o:aC):pP (L++ [o])=if o.top=true∧pP L<0 then(L.length:Int)else pP L:=by
 cases h:L.findIdx? (fun o=>o.top)with
 |some i=>
  rw [SE h,if_neg (by omega)];exact SE (by rw [List.findIdx?_append,h];rfl)
 |none=>
  rw [aag h];cases hb:o.top with
  |true=>
   rw [if_pos ⟨rfl,by decide⟩];exact SE (by rw [List.findIdx?_append,h];simp [List.findIdx?_cons,hb])
  |false=>
   rw [if_neg (by simp)];exact aag (by rw [List.findIdx?_append,h];simp [List.findIdx?_cons,hb])
theorem ajj {p:Prod} (h:cR p=0):1≤p.rule∧p.rule≤3∧0≤p.top∧p.top≤1000000∧1≤p.least∧p.least≤1000∧0≤p.part∧p.part≤100:=by
 unfold cR at h;split at h<;>try cases h
 split at h<;>try cases h
 split at h<;>try cases h
 split at h<;>try cases h
 split at h<;>try cases h
 split at h
 ·cases h
 ·rename_i h1
  split at h
  ·cases h
  ·rename_i h2
   unfold lS at h1;unfold g9 at h2;omega
theorem aeZ {w:World} {p:Prod} {v:Value} {L:List aC} (h:gI.eT w v L) (hz:cR p=0) (hl:L.length≤250) (hx:∀o∈L,1≤o.aq∧o.aq≤1000000) (q:Int):
 Calls Tryz.prog 148 #[p.agg,v,↑q] w fun e w'=>∃v',e= .returned v'∧e8.Row w' w.heap.size v' (Ba p L q)∧Below w.heap.size w w':=by
 unfold Prod.agg Prod.cells;have fE:Hid (Below w.heap.size w (w.alloc (.cells #[.string p.code,.slice p.ma p.months.length p.mc,↑p.tick,↑p.low,↑p.high,↑p.wide,↑p.rule,↑p.top,↑p.least,↑p.part,.slice p.sa p.settle.length p.sc] 25))):=af (Below.aI _ _);have jX:Hid (av (w.alloc (.cells #[.string p.code,.slice p.ma p.months.length p.mc,↑p.tick,↑p.low,↑p.high,↑p.wide,↑p.rule,↑p.top,↑p.least,↑p.part,.slice p.sa p.settle.length p.sc] 25)) w.heap.size 25 p.cells):=af (av.new _ _ _);have aD:=af (h.below fE.out);have bz:=af hx;have yp:=af (ajj hz);obtain⟨a,c,rfl,_,_⟩:=h;obtain⟨n,hn⟩:=ai L.length
 have SF:Hid (∀x∈L.map aC.aq,1≤x∧x≤1000000):=af fun x gx=>by
  obtain⟨o,ho,rfl⟩:=List.mem_map.1 gx;exact hx o ho
 have Bh:Hid ((L.map aC.aq).length=n):=af (by rw [List.length_map];exact hn);have HV:Hid (pP L= -1∨∃t:Nat,pP L=t∧t<(L.map aC.aq).length):=af (by rw [List.length_map];exact ajh L);rw [hn]at aD hl⊢;have hnb:(n:Int)≤250:=by omega
 have HN:=af hn;clear hx hz hn;go_enter Tryz.func148,Tryz.ntmps148
 go_upto_region 1 with(fail)
 obtain⟨g0,og⟩:=ai w.heap.size;have C3:=af og;rw [og]at jX⊢;clear og;unfold Prod.cells at jX;generalize (w.alloc (.cells #[.string p.code,.slice p.ma p.months.length p.mc,↑p.tick,↑p.low,↑p.high,↑p.wide,↑p.rule,↑p.top,↑p.least,↑p.part,.slice p.sa p.settle.length p.sc] 25))=w1 at*;have iD:=af fE.out.size;go_wp2_with fail
 go_loopw [7,8,9] (fun v t i w'=>∃(k:Nat) (z:Int),z=pP (L.take k)∧t=↑z∧i=↑k∧k≤n∧e8.Row w' w1.heap.size v ((L.take k).map aC.aq)∧Below w1.heap.size w1 w') (fun _ _ i _=>n-(RowKit.intOf i).toNat)
 case atStart=>exact⟨0,-1,rfl,rfl,rfl,Nat.zero_le _,bl.Row.nil _ _,Below.refl _ _⟩
 case round=>
  obtain⟨k,z,hz,rfl,rfl,hk,hrow,hb⟩:=hrel;obtain⟨ax,rfl⟩:=aj wr;by_cases hlt:k<n
  ·have hlt':(k:Int)<(n:Int):=by omega
   obtain⟨o,hok⟩:∃o,L[k]? =some o:=⟨_,List.getElem?_eq_getElem (by rw [HN.out];exact hlt)⟩;obtain⟨b,off,c',he,_,hc⟩:=(aD.out.below hb).get hok;injection he with he hne eS;clear hne;subst he;subst eS;obtain⟨f0,f1,f2,f3,f4⟩:=o;have c3:ax.cell? ⟨b,off+k*5+3,none⟩=some ↑f3:=hc 3 _ rfl
   have ajk:Hid (∀wv,Below w1.heap.size w1 wv→wv.cell? ⟨b,off+k*5+4,none⟩=some ↑f4):=af fun wv hb=>by
    obtain⟨b',off',anp,he,_,hc⟩:=(aD.out.below hb).get hok;injection he with he;injection he with he;injection he with e1 e2;subst e1;subst e2;exact hc 4 _ rfl
   have bP:Hid ((L.take (k+1)).map aC.aq=(L.take k).map aC.aq++ [f3]):=af (by rw [kH hok,List.map_append];rfl);have Ld:Hid (pP (L.take (k+1))=if f4=true∧z<0 then(k:Int)else z):=af (by rw [kH hok,aji,←hz,List.length_take,HN.out,Nat.min_eq_left (Nat.le_of_lt hlt)]);have jf:Hid (((L.take k).map aC.aq).length≤250):=af (by rw [List.length_map,List.length_take];omega);generalize (L.take k).map aC.aq=M at*;obtain⟨a1,c1,hv⟩:=hrow.form;obtain⟨m,hm⟩:=ai M.length;rw [hm]at hv;subst hv;have cM:=af hm;have aG:=af hb;have hba:=Below.aI ax (.cells #[↑f3] 2);have iz:=af (hrow.below hba);have b7:=af (hb.trans (hba.mono hb.size));have c8:Hid (av (ax.alloc (.cells #[↑f3] 2)) ax.heap.size 2 (lA f3).toArray):=af (av.new _ _ _);clear hrow hb hz hok hm hc hba
   go_wp2_with (first
    |(at_builtin;go_loud (refine e8.push rfl (.tmp 16) (.tmp 22) rfl w1.heap.size (.slice a1 m c1) M rfl iz.out ax.heap.size f3 rfl c8.out.lt c8.out.gH (by have:=jf.out;omega) b7.out.size ?_)))
   intro v' aN bX cQ eG;have cL:=af bX;have dP:=af (iJ cQ b7.out (cS iz.out));clear bX cQ eG c3 c8 iz b7;have dH:=ajk.out _ dP.out;cases f4 with
   |true=>
    by_cases hzl:z<0
    ·have uX:Hid ((k:Int)=pP (L.take (k+1))):=af (by rw [Ld.out,if_pos ⟨rfl,hzl⟩])
     go_wp2_with fail
     go_roundw
     case rel=>exact⟨k+1,_,uX.out,rfl,by go_num,hlt,by rw [bP.out];exact cL.out,dP.out⟩
     case measure=>simp [RowKit.intOf];omega
    ·have uX:Hid (z=pP (L.take (k+1))):=af (by rw [Ld.out,if_neg (fun hh=>hzl hh.2)])
     go_wp2_with fail
     go_roundw
     case rel=>exact⟨k+1,_,uX.out,rfl,by go_num,hlt,by rw [bP.out];exact cL.out,dP.out⟩
     case measure=>simp [RowKit.intOf];omega
   |false=>
    have uX:Hid (z=pP (L.take (k+1))):=af (by rw [Ld.out,if_neg (fun hh=>by cases hh.1)]);go_wp2_with fail
    go_roundw
    case rel=>exact⟨k+1,_,uX.out,rfl,by go_num,hlt,by rw [bP.out];exact cL.out,dP.out⟩
    case measure=>simp [RowKit.intOf];omega
  ·have hkn:k=n:=by omega
   rw [hkn,←HN.out,List.take_length]at hrow hz;have aG:=ag fE hb;have aT:=jX.out.below hb;have bw:ax.cell? ⟨g0,6,none⟩=some ↑p.rule:=aT.cell 6;have bn:ax.cell? ⟨g0,7,none⟩=some ↑p.top:=aT.cell 7;have bC:ax.cell? ⟨g0,8,none⟩=some ↑p.least:=aT.cell 8;have bD:ax.cell? ⟨g0,9,none⟩=some ↑p.part:=aT.cell 9;have hsl:=hrow.sl;have BL:(L.map aC.aq).length≤250:=by rw [Bh.out];exact hl
   obtain⟨k1,k2,di,jc,lq,jY,aah,yq⟩:=yp.out;have Ho:=af (ai5 hsl BL SF.out q);have Le:=af (ajc hsl BL SF.out (pP L) p.top p.least q HV.out ⟨di,by omega⟩ lq);have h12:=af (ai7 hsl BL SF.out p.part p.least q ⟨aah,yq⟩ lq);have uX:Hid (pP L=z):=af hz.symm;rw [uX.out]at Le;have l7:Hid (Ba p L q=if p.rule=1 then FB (L.map aC.aq) q else if p.rule=2 then FD (L.map aC.aq) z p.top p.least q else FC (L.map aC.aq) p.part p.least q):=af (by rw [←uX.out];rfl);obtain⟨R,oT⟩:=ai (Ba p L q);rw [oT]at l7;have nW:=af oT;obtain⟨Lf,aai⟩:=ai p.rule;rw [aai]at l7 bw k1 k2;clear hkn hrow hb hz aT hsl BL oT aai di jc lq jY aah yq;have hcs:Lf=1∨Lf=2∨Lf=3:=by omega
   clear k1 k2;rcases hcs with rfl|rfl|rfl
   ·rw [if_pos rfl]at l7
    go_wp2_with fail
    refine Ho.out.mono ?_;rintro e aA ⟨v5,rfl,dl,cx⟩;have k7:=af (dl.base aG.out.size);have bY:=ag aG cx;clear dl cx Ho Le h12;go_wp2_with fail
    go_ret;exact⟨_,rfl,by rw [nW.out,l7.out];exact k7.out,bY.out⟩
   ·rw [if_neg (by omega),if_pos rfl]at l7
    go_wp2_with fail
    refine Le.out.mono ?_;rintro e aA ⟨v5,rfl,dl,cx⟩;have k7:=af (dl.base aG.out.size);have bY:=ag aG cx;clear dl cx Ho Le h12;go_wp2_with fail
    go_ret;exact⟨_,rfl,by rw [nW.out,l7.out];exact k7.out,bY.out⟩
   ·rw [if_neg (by omega),if_neg (by omega)]at l7
    go_wp2_with fail
    refine h12.out.mono ?_;rintro e aA ⟨v5,rfl,dl,cx⟩;have k7:=af (dl.base aG.out.size);have bY:=ag aG cx;clear dl cx Ho Le h12;go_wp2_with fail
    go_ret;exact⟨_,rfl,by rw [nW.out,l7.out];exact k7.out,bY.out⟩
structure pG where
 id:Int
 inst:Int
 side:Int
 ap:Int
 aq:Int
 left:Int
def pG.cells (x:pG):List Value:= [.int .i64 x.id,.int .i64 x.inst,.int .i64 x.side,.int .i64 x.ap,.int .i64 x.aq,.int .i64 x.left]
def ago:pG:=⟨0,0,0,0,0,0⟩
theorem pG.kI (x:pG):∀u∈x.cells,u.oneCell'=true:=by
 intro u hu;simp only [pG.cells,List.mem_cons,List.not_mem_nil,or_false]at hu;rcases hu with rfl|rfl|rfl|rfl|rfl|rfl<;>rfl
def qg:bl pG:=⟨pG.cells,6,fun _=>rfl,pG.kI,by omega,208,204,.agg ago.cells.toArray,48,Tryz.underlying204,by kernel_rfl,by rfl,by omega⟩
def pz (L:List aC) (z:List (aC×Int)):List aC:=z.foldl (fun L x=>if 0<x.2 then(pF L x.1.id x.2).1 else L) L
def GU (inst side ap:Int) (x:aC×Int):List pG:=if 0<x.2 then [⟨x.1.id,inst,side,ap,x.2,IntKind.i64.wrap (x.1.aq-x.2)⟩]else []
def vU (inst side ap:Int) (z:List (aC×Int)):List pG:=z.flatMap (GU inst side ap)
def sx (p:Prod) (L:List aC) (side ap q:Int):List (aC×Int):=(yo L side ap).zip (Ba p (yo L side ap) q)
def ou (p:Prod) (S:List (List aC)) (inst:Nat) (side ap q:Int):List (List aC)×List pG:=
 (S.set inst (pz (S.getD inst []) (sx p (S.getD inst []) side ap q)),vU inst side ap (sx p (S.getD inst []) side ap q))
theorem ae1 (L:List aC) (z:List (aC×Int)) (x:aC×Int):pz L (z++ [x])=if 0<x.2 then(pF (pz L z) x.1.id x.2).1 else pz L z:=by
 unfold pz;rw [List.foldl_append];rfl
theorem ae2 (i s p:Int) (z:List (aC×Int)) (x:aC×Int):vU i s p (z++ [x])=vU i s p z++GU i s p x:=by
 unfold vU;rw [List.flatMap_append];simp
theorem j8.pz {L:List aC} (h:j8 L) (z:List (aC×Int)):j8 (pz L z):=by
 unfold Go.Proofs.YtmaijkoopjocdaaGreat.pz
 induction z generalizing L with
 |nil=>exact h
 |cons x t ih=>
  rw [List.foldl_cons];refine ih ?_;split
  ·exact h.fill _ _
  ·exact h
theorem MX (i s p:Int) (z:List (aC×Int)):(vU i s p z).length≤z.length:=by
 unfold vU
 induction z with
 |nil=>exact Nat.le_refl _
 |cons x t ih=>
  rw [List.flatMap_cons,List.length_append,List.length_cons];have:(GU i s p x).length≤1:=by unfold GU;split<;>simp
  omega
theorem MT {L:List aC} (h:j8 L) (side ap:Int):(yo L side ap).length≤250∧∀o∈yo L side ap,1≤o.aq∧o.aq≤1000000:=
 ⟨Nat.le_trans (List.length_filter_le ..) h.len,fun o ho=>h.aq o (List.mem_filter.1 ho).1⟩
theorem MV {p:Prod} {L:List aC} (side ap q:Int):(sx p L side ap q).length=(Ba p (yo L side ap) q).length:=by
 unfold sx;rw [List.length_zip];exact Nat.min_eq_right (JE p _ q)
end Go.Proofs.YtmaijkoopjocdaaGreat
