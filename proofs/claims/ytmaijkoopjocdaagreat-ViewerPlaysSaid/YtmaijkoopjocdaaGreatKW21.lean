import Derived.Test.YtmaijkoopjocdaaGreatKW20
import Derived.Test.YtmaijkoopjocdaaGreatKW17
set_option maxRecDepth 100000
set_option maxHeartbeats 64000000
namespace Go.Proofs.YtmaijkoopjocdaaGreat
open Go.RowKit Go.Lib
theorem HS {l:List Int} {q:Int} (hl:l.length<=250) (hx:∀x∈l,1<=x∧x<=1000000):yX l q=decide (0<=q∧q<=l.sum):=by unfold yX;rw [decide_eq_decide];exact⟨fun h=>⟨h.2.1,h.2.2.2⟩,fun h=>⟨hl,h.1,hx,h.2⟩⟩
theorem ai5 {w:World} {v:Value} {l:List Int} (h:e8.eT w v l) (hl:l.length<=250) (hx:∀x∈l,1<=x∧x<=1000000) (q:Int):
 Calls Tryz.prog 150 #[v,↑q] w fun e w'=>∃v',e= .returned v'∧e8.Row w' ↑w v' (FB l q)∧Below ↑w w w':=by
 have A:=af (SC h hl hx q);rw [<-HS hl hx]at A;have I:=BR (b:=1000000) fun x B=>(hx x B).2;by_cases hr:yX l q=true
 ·have hd:=hr;rw [HS hl hx,decide_eq_true_eq]at hd;have D:=af (SB h hl (fun x B=>⟨by have:=(hx x B).1;omega,(hx x B).2⟩) q bh bh);have C:Ei (FB l q=kC l q):=af (if_pos hr);rw [hr]at A;rw [C.o];clear hx hd hr;go_enter Tryz.func150,Tryz.ntmps150;go_wp2_with fail;refine A.o.mono ?_;rintro e w2 ⟨rfl,rfl⟩;clear A;go_wp2_with fail;refine D.o.mono ?_;rintro e w3 ⟨v',rfl,F,hb3⟩;have H:=af F;have G:=af hb3;clear F hb3 D;go_wp2_with fail;go_ret;exact⟨_,rfl,H.o,G.o⟩
 have E:yX l q=false:=by rw [Bool.not_eq_true]at hr;exact hr
 have C:Ei (FB l q= []):=af (if_neg hr);rw [E]at A;rw [C.o];clear hx hr E;go_enter Tryz.func150,Tryz.ntmps150;go_wp2_with fail;refine A.o.mono ?_;rintro e w2 ⟨rfl,rfl⟩;clear A;go_wp2_with fail;go_ret;exact⟨_,rfl,bl.Row.nil _ _,Below.refl _ _⟩
theorem Z2 {l b:List Int} {q k:Int} (hl:l.length<=250) (B:b.length=l.length) (hx:∀x∈l,1<=x∧x<=1000000) (hb:∀(j:Nat) (x y:Int),l[j]? =some x->b[j]? =some y->0<=y∧y<=x) (hs:b.sum=k) (h0:k<=q) (h1:q<=l.sum) (hk:0<=k):
 xF (iN l b) (q-k)∧∀x∈iN l b,ox x:=by
 have C:=BR (b:=1000000) fun x A=>(hx x A).2;have he:∀x∈iN l b,0<=x∧x<=1000000:=fun x A=>by
  obtain⟨j,hj,rfl⟩:=List.getElem_of_mem A;have hj2:j<l.length:=by rwa [tQ _ _ B]at hj
  have e:=ZX (List.getElem?_eq_getElem hj2) (List.getElem?_eq_getElem (bh:j<b.length));rw [List.getElem?_eq_getElem hj]at e;injection e with e;rw [e];have:=hb j _ _ (List.getElem?_eq_getElem hj2) (List.getElem?_eq_getElem (bh:j<b.length));have:=hx _ (List.getElem_mem hj2);omega
 refine⟨⟨by rw [tQ _ _ B];exact hl,he,bh,bh,.inr ?_⟩,fun x A=>by have:=he x A;unfold ox;omega⟩;rw [Z3 l b B,hs];omega
theorem HT {l:List Int} {q least:Int} (h:xF l q) (hl:1<=least):∀y∈xG l least q,ox y:=by
 intro y hy;obtain⟨j,hj,rfl⟩:=List.getElem_of_mem hy;have hj2:j<l.length:=by rwa [BS]at hj
 have A:j<(iN l (nY l least q)).length:=by rw [tQ _ _ (Lb l least q)];exact hj2
 have e1:(nY l least q)[j]? =some (lM least q l.sum l[j]):=by unfold nY;rw [List.getElem?_map,List.getElem?_eq_getElem hj2];rfl
 have e2:=Oa (q:=q-(nY l least q).sum) (List.getElem?_eq_getElem A);have e:=ai6 e1 e2;rw [show(oV (nY l least q) (kC (iN l (nY l least q)) (q-(nY l least q).sum)))=xG l least q from rfl,List.getElem?_eq_getElem hj]at e;injection e with e;rw [e];have h1:=h.rest hl _ (List.getElem_mem A);have h3:=h.part hl _ (List.getElem_mem hj2);have h4:=h.each _ (List.getElem_mem hj2);have h5:=(h.ZY hl l.length).2;rw [List.take_length]at h5;have h6:(nY l least q).sum=(l.map (lM least q l.sum)).sum:=rfl;have q0:=h.q0;have q1:=h.q1;have h2:=Ob (l:=(iN l (nY l least q)).take j) (q:=q-(nY l least q).sum) (b:=250000000) (fun y hy=>(h.rest hl y (List.mem_of_mem_take hy)).1) bh bh bh;have h7:=Z0 (b:=250000000) h1.1 h2.1 h2.2;unfold ox;omega
theorem ai7 {w:World} {v:Value} {l:List Int} (h:e8.eT w v l) (hl:l.length<=250) (hx:∀x∈l,1<=x∧x<=1000000) (part least q:Int) (hp:0<=part∧part<=100) (hle:1<=least):
 Calls Tryz.prog 152 #[v,↑part,↑least,↑q] w fun e w'=>∃v',e= .returned v'∧e8.Row w' ↑w v' (FC l part least q)∧Below ↑w w w':=by
 have B:=af (SC h hl hx q);rw [<-HS hl hx]at B;have n:=BR (b:=1000000) fun x A=>(hx x A).2;have f:=af hx;have d0:¬part<0:=bh;have d1:¬100<part:=bh;have d2:¬least<1:=bh;by_cases hr:yX l q=true
 ·have hd:=hr;rw [HS hl hx,decide_eq_true_eq]at hd;have C:Ei (FC l part least q=oV (kC l (q*part / 100)) (xG (iN l (kC l (q*part / 100))) least (q-q*part / 100))):=af (if_pos ⟨hr,hp.1,hp.2,hle⟩);rw [hr]at B;have H:=af (fun w=>ZZ q part 100 w bh bh bh);have D:0<=q*part / 100:=Int.ediv_nonneg (Int.mul_nonneg hd.1 hp.1) bh;have T:q*part / 100<=q:=Int.ediv_le_of_le_mul bh (Int.mul_le_mul_of_nonneg_left hp.2 hd.1);obtain⟨k,hk⟩:=ai (q*part / 100);simp only [hk]at H C D T;have N:=af (fun w h=>SB (w:=w) (v:=v) (l:=l) h hl (fun x A=>⟨by have:=(hx x A).1;omega,(hx x A).2⟩) k bh bh);have hfe:=(SD (l:=l) (q:=k) (fun x A=>by have:=(hx x A).1;omega) D);have J:(kC l k).sum=k:=by have:=hfe.2.2 bh;omega
  have E:∀(j:Nat) (x y:Int),l[j]? =some x->(kC l k)[j]? =some y->0<=y∧y<=x:=fun j x y h1 h2=>by rw [Oa h1]at h2;injection h2 with h2;have h3:=(SD (l:=l.take j) (q:=k) (fun x A=>by have:=(hx x (List.mem_of_mem_take A)).1;omega) D).2.1;have h4:=(hx x (List.mem_of_getElem? h1)).1;rw [<-h2];exact⟨ai8 bh h3,(Z6 _ _).1⟩
  have W:=Z2 (q:=q) (k:=k) hl (tT l k) hx E J T hd.2 D;have I:∀y∈kC l k,ox y:=fun y hy=>by
   obtain⟨j,hj,rfl⟩:=List.getElem_of_mem hy;have hj2:j<l.length:=by rwa [tT]at hj
   have:=E j _ _ (List.getElem?_eq_getElem hj2) (List.getElem?_eq_getElem hj);have:=hx _ (List.getElem_mem hj2);unfold ox;omega
  have K:=af I;have O:=af W;have M:=af h;have i:=af hl;rw [C.o];have t:Ei (∀x∈l,ox x):=af fun x A=>by have:=hx x A;unfold ox;omega
  clear hx hr hfe J E W I h;go_enter Tryz.func152,Tryz.ntmps152;go_wp2_with fail;refine B.o.mono ?_;rintro e w2 ⟨rfl,rfl⟩;have c:=H.o w;clear B;go_wp2_with fail;refine c.mono ?_;rintro e w2 ⟨rfl,rfl⟩;clear c H hk;have L:=N.o w M.o;go_wp2_with fail;refine L.mono ?_;rintro e w3 ⟨v3,rfl,G,hb3⟩;have s:=af G;have d:=af hb3;have Z:=Fz (M.o.below hb3) G.sl (tT l k) hl t.o K.o;clear L N G hb3;go_wp2_with fail;refine Z.mono ?_;rintro e a ⟨v4,rfl,X,hb4⟩;have r:=af (s.o.below hb4);have m:=ag d hb4;have U:=HQ X.sl O.o.1 hle;clear Z X hb4;go_wp2_with fail;refine U.mono ?_;rintro e u ⟨v5,rfl,V,F⟩;have R:=ag m F;have S:=FA (r.o.below F).sl V.sl (by rw [BS,tQ _ _ (tT l k),tT]) (by rw [tT];exact hl) K.o (HT O.o.1 hle);clear U V F;go_wp2_with fail;refine S.mono ?_;rintro e z ⟨v6,rfl,Q,P⟩;have p:=af (Q.base R.o.size);have g:=ag R P;clear S Q P;go_wp2_with fail;go_ret;exact⟨_,rfl,p.o,g.o⟩
 have Y:yX l q=false:=by rw [Bool.not_eq_true]at hr;exact hr
 have C:Ei (FC l part least q= []):=af (if_neg fun hh=>hr hh.1);rw [Y]at B;rw [C.o];clear hx hr Y;go_enter Tryz.func152,Tryz.ntmps152;go_wp2_with fail;refine B.o.mono ?_;rintro e w2 ⟨rfl,rfl⟩;clear B;go_wp2_with fail;go_ret;exact⟨_,rfl,bl.Row.nil _ _,Below.refl _ _⟩
theorem Z9 (w:World) (n:Nat) (hn:n<=100000):e8.Row (w.alloc (.cells ((List.replicate n 0).flatMap lA).toArray 2)) ↑w (.slice ↑w.heap.size n n) (List.replicate n 0):=by
 unfold bl.Row;rw [List.length_replicate];have hfl:((List.replicate n (0:Int)).flatMap lA).length=n*1:=by rw [mK lA 1 (fun _=>rfl),List.length_replicate]
 exact⟨hfl,.inr ⟨w.heap.size,n,_,rfl,Nat.le_refl _,av.new w _ _,Nat.le_refl _,by unfold maxLen;omega,by rw [List.size_toArray,hfl];rfl,by rw [List.take_of_length_le (by rw [hfl];show n*1<=n*1;exact Nat.le_refl _)];rfl⟩⟩
theorem ai9 (n:Nat):madeCells (Value.int .i64 0).cells (n*1)=((List.replicate n (0:Int)).flatMap lA).toArray:=by
 apply Array.toList_inj.1;apply List.ext_getElem?;intro j;by_cases hj:j<n*1
 ·have h:=NA lA 1 (fun _=>rfl) (List.replicate n (0:Int)) j 0 (by simp;omega) bh;rw [show j*1+0=j by omega,List.getElem_replicate]at h;show _=((List.replicate n (0:Int)).flatMap lA)[j]?;rw [h];simp only [madeCells,Array.toList_map,Array.toList_range,List.getElem?_map,List.getElem?_range hj,Option.map_some];have hr:j % 1=0:=Nat.mod_one j;show some ((#[Value.int .i64 0])[j % 1]!)=_;rw [hr];rfl
 have h1:(madeCells (Value.int .i64 0).cells (n*1)).toList.length=n*1:=by rw [Array.length_toList,size_madeCells]
 rw [List.getElem?_eq_none bh,List.getElem?_eq_none (by show((List.replicate n (0:Int)).flatMap lA).length<=j;rw [mK lA 1 (fun _=>rfl)];simp;omega)]
theorem aja:(Tryz.prog.info? 2).map (fun i=>(i.zero,i.size,i.bytes))=some (some ↑(),1,8):=eP
theorem Cu (n:Nat):(List.replicate n (0:Int)).sum=0:=by
 induction n with
 |zero=>rfl
 |succ n ih=>rw [List.replicate_succ,List.sum_cons,ih];rfl
theorem CO:∀(n t:Nat) (k:Int),t<n->((List.replicate n (0:Int)).set t k).sum=k
 |n+1,0,k,_=>by rw [List.replicate_succ,List.set_cons_zero,List.sum_cons,Cu];omega
 |n+1,t+1,k,h=>by rw [List.replicate_succ,List.set_cons_succ,List.sum_cons,CO n t k bh];omega
theorem ajb {most q x:Int} (h1:0<=most) (h2:0<=q) (h3:0<=x):0<=sQ most q x∧sQ most q x<=x∧sQ most q x<=q:=by
 unfold sQ;by_cases hq:q<most
 ·rw [if_pos hq];split<;>omega
 rw [if_neg hq];split<;>omega
theorem ajc {w:World} {v:Value} {l:List Int} (h:e8.eT w v l) (hl:l.length<=250) (hx:∀x∈l,1<=x∧x<=1000000) (top most least q:Int) (ht:top= -1∨∃t:Nat,top=t∧t<l.length) (hm:0<=most∧most<=1000000000) (hle:1<=least):
 Calls Tryz.prog 151 #[v,↑top,↑most,↑least,↑q] w fun e w'=>∃v',e= .returned v'∧e8.Row w' ↑w v' (FD l top most least q)∧Below ↑w w w':=by
 have T:=af (SC h hl hx q);rw [<-HS hl hx]at T;have mX:=BR (b:=1000000) fun x Z=>(hx x Z).2;have hm0:=hm.1;have La:=hm.2;have d0:¬most<0:=bh;have d2:¬least<1:=bh;obtain⟨i0,hi,dm,hz1,eg⟩:=info_parts aja;have hmk:=fun w=>run_makeSlice (P:=Tryz.prog) w 23 2 i0 _ Tryz.underlying23 hi dm .i64 .i64 l.length l.length bh bh (by rw [hz1];omega) (by rw [eg];omega) bh;rw [hz1,Int.toNat_natCast,ai9]at hmk;have D4:=af hmk;have hnb:(l.length:Int)<=250:=bh;by_cases hr:yX l q=true
 ·have hd:=hr;rw [HS hl hx,decide_eq_true_eq]at hd;obtain⟨jW,hq1⟩:=hd;have hq2:q<=250000000:=bh;have bR:Ei (FD l top most least q=oV (Al l top most q) (xG (iN l (Al l top most q)) least (HU l top most q))):=af (if_pos ⟨hr,hle,hm.1⟩);rw [hr]at T;rw [bR.o];have S:=af h;have c6:=af hl;have uy:Ei (∀x∈l,ox x):=af fun x Z=>by have:=hx x Z;unfold ox;omega
  have xu:Ei (∀(F:List Int) (k:Int),F.length=l.length->F.sum=k->(∀(j:Nat) (x y:Int),l[j]? =some x->F[j]? =some y->0<=y∧y<=x)->k<=q->0<=k->(xF (iN l F) (q-k)∧∀x∈iN l F,ox x)∧∀y∈F,ox y):=af fun F k h1 h2 h3 h4 h5=>⟨Z2 hl h1 hx h3 h2 h4 hq1 h5,fun y hy=>by obtain⟨j,hj,rfl⟩:=List.getElem_of_mem hy;have hj2:j<l.length:=bh;have:=h3 j _ _ (List.getElem?_eq_getElem hj2) (List.getElem?_eq_getElem hj);have:=hx _ (List.getElem_mem hj2);unfold ox;omega⟩;have bz:=af hx;obtain⟨a,c,rfl,_,_⟩:=h;obtain⟨n,hn⟩:=ai l.length;have HN:=af hn;rw [hn]at D4 T S hnb hl ht⊢;clear hx hi dm hz1 eg hmk hr hn;have hmk:=D4.o w;rcases ht with rfl|⟨t,rfl,htn⟩
  ·have g:Ei (Al l (-1) most q=List.replicate n 0∧HU l (-1) most q=q-0):=af (by unfold Al HU;rw [if_neg bh,if_neg bh,HN.o];exact⟨rfl,bh⟩);rw [g.o.1,g.o.2];have hby:=xu.o (List.replicate n 0) 0 (by rw [List.length_replicate,HN.o]) (Cu n) (fun j x y h1 h2=>by
    rw [List.getElem?_replicate]at h2;split at h2
    ·injection h2 with h2;have:=bz.o x (List.mem_of_getElem? h1);omega
    cases h2) jW bh
   have A:=af hby;clear hby;have Q:=af (Z9 w n bh);have d:=af (Below.aI w (.cells ((List.replicate n (0:Int)).flatMap lA).toArray 2));have xW:q-0=q:=bh;have B:Ei ((List.replicate n (0:Int)).length=l.length):=af (by rw [List.length_replicate,HN.o]);rw [xW]at A⊢;obtain⟨R,s⟩:=ai (oV (List.replicate n 0) (xG (iN l (List.replicate n 0)) least q));rw [s];have r:=af s;clear s;clear g xu xW;go_enter Tryz.func151,Tryz.ntmps151;go_wp2_with fail;refine T.o.mono ?_;rintro e w2 ⟨rfl,rfl⟩;clear T;go_upto_region 4 with(fail);generalize List.replicate n (0:Int)=F at*;obtain⟨g0,f⟩:=ai w.heap.size;have i:=af f;rw [f]at Q⊢;clear f hmk;generalize w.alloc (.cells (F.flatMap lA).toArray 2)=w1 at*;go_wp2_with fail;have hrl:=Fz (S.o.below d.o) Q.o.sl B.o (by rw [HN.o];exact hl) uy.o A.o.2;refine hrl.mono ?_;rintro e az ⟨v4,rfl,L,hb4⟩;have Y:=af (Q.o.below hb4);have W:=ag d hb4;have I:=HQ L.sl A.o.1.1 hle;clear hrl L hb4;go_wp2_with fail;refine I.mono ?_;rintro e aA ⟨v5,rfl,J,C⟩;have G:=ag W C;have M:=FA (Y.o.below C).sl J.sl (by rw [BS,tQ _ _ B.o,B.o]) (by rw [B.o,HN.o];exact hl) A.o.2 (HT A.o.1.1 hle);clear I J C;go_wp2_with fail;refine M.mono ?_;rintro e aN ⟨v6,rfl,E,D⟩;have X:=af (E.base G.o.size);have V:=ag G D;clear M E D;go_wp2_with fail;go_ret;exact⟨_,rfl,by rw [<-r.o];exact X.o,V.o⟩
  obtain⟨x,ij⟩:=GB l t (by rw [HN.o];exact htn);obtain⟨hx0,hx1⟩:=bz.o x (List.mem_of_getElem? ij);have hk:=ajb (most:=most) (q:=q) (x:=x) hm0 jW bh;have g:Ei (Al l t most q=(List.replicate n 0).set t (sQ most q x)∧HU l t most q=q-sQ most q x):=af (by unfold Al HU;rw [if_pos ⟨bh,by rw [HN.o];omega⟩,if_pos ⟨bh,by rw [HN.o];omega⟩,HN.o,Int.toNat_natCast,Bu ij];exact⟨rfl,rfl⟩);rw [g.o.1,g.o.2];have hby:=xu.o ((List.replicate n 0).set t (sQ most q x)) (sQ most q x) (by rw [List.length_set,List.length_replicate,HN.o]) (CO n t _ htn) (fun j z y h1 h2=>by
   have hz:=bz.o z (List.mem_of_getElem? h1);by_cases hjt:t=j
   ·subst hjt;rw [List.getElem?_set_self (by rw [List.length_replicate];exact htn)]at h2;injection h2 with h2;rw [ij]at h1;injection h1 with h1;omega
   rw [List.getElem?_set_ne hjt,List.getElem?_replicate]at h2;split at h2
   ·injection h2 with h2;omega
   cases h2) hk.2.2 hk.1
  have A:=af hby;clear hby;have Q:=af (Z9 w n bh);have d:=af (Below.aI w (.cells ((List.replicate n (0:Int)).flatMap lA).toArray 2));have B:Ei (((List.replicate n (0:Int)).set t (sQ most q x)).length=l.length):=af (by rw [List.length_set,List.length_replicate,HN.o]);obtain⟨R,s⟩:=ai (oV ((List.replicate n 0).set t (sQ most q x)) (xG (iN l ((List.replicate n 0).set t (sQ most q x))) least (q-sQ most q x)));rw [s];have r:=af s;clear s;have ano:(t:Int)<(n:Int):=bh;have C1:(List.replicate n (0:Int))[t]? =some 0:=by rw [List.getElem?_replicate,if_pos htn]
  have U:=af C1;obtain⟨b1,off,rfl,_⟩:=qU S.o ij;have ajd:=af ij;clear g xu C1 ij;go_enter Tryz.func151,Tryz.ntmps151;go_wp2_with fail;refine T.o.mono ?_;rintro e w2 ⟨rfl,rfl⟩;clear T;go_upto_region 4 with(fail);have D2:(w.alloc (.cells ((List.replicate n (0:Int)).flatMap lA).toArray 2)).cell? ↑(b1,off+t)=↑x:=by obtain⟨b3,CI,he,h3⟩:=qU (S.o.below d.o) ajd.o;injection he with he;injection he with e1 e2;rw [e1,e2];exact h3
  obtain⟨g0,f⟩:=ai w.heap.size;have i:=af f;have Cz:=Q.o;have eU:=Cz.2;rw [f]at Q⊢;have c0:(w.alloc (.cells ((List.replicate n (0:Int)).flatMap lA).toArray 2)).cell? ↑(g0,t)=↑():=by obtain⟨b3,CI,he,h3⟩:=qU (Q.o.sl) U.o;injection he with he;injection he with e1 e2;rw [show t=CI+t by omega,e1];exact h3
  have fz:∀o,(w.alloc (.cells ((List.replicate n (0:Int)).flatMap lA).toArray 2)).frozen? ⟨g0,o,none⟩=false:=fun o=>by have:=(av.new w 2 ((List.replicate n (0:Int)).flatMap lA).toArray).frozen o;rwa [i.o]at this
  clear f hmk Cz eU;generalize w.alloc (.cells ((List.replicate n (0:Int)).flatMap lA).toArray 2)=w1 at*;have H:Ei (sQ most q x=if x<(if q<most then q else most)then x else if q<most then q else most):=af rfl;generalize sQ most q x=K at*;by_cases C2:q<most
  ·rw [if_pos C2]at H;by_cases Z:x<q
   ·rw [if_pos Z]at H;have hk2:=H.o.symm;clear H;subst hk2;have O:Ei (e8.Row (w1.setCell ↑(g0,t) ↑x) g0 (.slice ↑g0 n n) ((List.replicate n (0:Int)).set t x)):=af (by
     have:=Q.o.aW (k:=0) (u:=↑x) (e':=x) U.o (by show 0<1;omega) rfl;rwa [show t*e8.m+0=t by show t*1+0=t;omega]at this)
    have N:Ei (Below ↑w w (w1.setCell ↑(g0,t) ↑x)):=af (d.o.setCell (p:=⟨g0,t,none⟩) (by show w.heap.size<=g0;rw [i.o];exact Nat.le_refl _) _);clear U;go_upto_region 11 with(fail);generalize (List.replicate n (0:Int)).set t x=F at*;generalize w1.setCell ⟨g0,t,none⟩ ↑x=w3 at*;go_wp2_with fail;have hrl:=Fz (S.o.below N.o) O.o.sl B.o (by rw [HN.o];exact hl) uy.o A.o.2;refine hrl.mono ?_;rintro e az ⟨v4,rfl,L,hb4⟩;have Y:=af (O.o.below hb4);have W:=ag N hb4;have I:=HQ L.sl A.o.1.1 hle;clear hrl L hb4;go_wp2_with fail;refine I.mono ?_;rintro e aA ⟨v5,rfl,J,C⟩;have G:=ag W C;have M:=FA (Y.o.below C).sl J.sl (by rw [BS,tQ _ _ B.o,B.o]) (by rw [B.o,HN.o];exact hl) A.o.2 (HT A.o.1.1 hle);clear I J C;go_wp2_with fail;refine M.mono ?_;rintro e aN ⟨v6,rfl,E,D⟩;have X:=af (E.base G.o.size);have V:=ag G D;clear M E D;go_wp2_with fail;go_ret;exact⟨_,rfl,by rw [<-r.o];exact X.o,V.o⟩
   rw [if_neg Z]at H;have hk2:=H.o.symm;clear H;subst hk2;have O:Ei (e8.Row (w1.setCell ↑(g0,t) ↑q) g0 (.slice ↑g0 n n) ((List.replicate n (0:Int)).set t q)):=af (by have:=Q.o.aW (k:=0) (u:=↑q) (e':=q) U.o (by show 0<1;omega) rfl;rwa [show t*e8.m+0=t by show t*1+0=t;omega]at this);have N:Ei (Below ↑w w (w1.setCell ↑(g0,t) ↑q)):=af (d.o.setCell (p:=⟨g0,t,none⟩) (by show w.heap.size<=g0;rw [i.o];exact Nat.le_refl _) _);clear U;rw [Int.sub_self]at A r;go_upto_region 11 with(fail);generalize (List.replicate n (0:Int)).set t q=F at*;generalize w1.setCell ⟨g0,t,none⟩ ↑q=w3 at*;go_wp2_with fail;have hrl:=Fz (S.o.below N.o) O.o.sl B.o (by rw [HN.o];exact hl) uy.o A.o.2;refine hrl.mono ?_;rintro e az ⟨v4,rfl,L,hb4⟩;have Y:=af (O.o.below hb4);have W:=ag N hb4;have I:=HQ L.sl A.o.1.1 hle;clear hrl L hb4;go_wp2_with fail;refine I.mono ?_;rintro e aA ⟨v5,rfl,J,C⟩;have G:=ag W C;have M:=FA (Y.o.below C).sl J.sl (by rw [BS,tQ _ _ B.o,B.o]) (by rw [B.o,HN.o];exact hl) A.o.2 (HT A.o.1.1 hle);clear I J C;go_wp2_with fail;refine M.mono ?_;rintro e aN ⟨v6,rfl,E,D⟩;have X:=af (E.base G.o.size);have V:=ag G D;clear M E D;go_wp2_with fail;go_ret;exact⟨_,rfl,by rw [<-r.o];exact X.o,V.o⟩
  rw [if_neg C2]at H;by_cases Z:x<most
  ·rw [if_pos Z]at H;have hk2:=H.o.symm;clear H;subst hk2;have O:Ei (e8.Row (w1.setCell ↑(g0,t) ↑x) g0 (.slice ↑g0 n n) ((List.replicate n (0:Int)).set t x)):=af (by
    have:=Q.o.aW (k:=0) (u:=↑x) (e':=x) U.o (by show 0<1;omega) rfl;rwa [show t*e8.m+0=t by show t*1+0=t;omega]at this)
   have N:Ei (Below ↑w w (w1.setCell ↑(g0,t) ↑x)):=af (d.o.setCell (p:=⟨g0,t,none⟩) (by show w.heap.size<=g0;rw [i.o];exact Nat.le_refl _) _);clear U;go_upto_region 11 with(fail);generalize (List.replicate n (0:Int)).set t x=F at*;generalize w1.setCell ⟨g0,t,none⟩ ↑x=w3 at*;go_wp2_with fail;have hrl:=Fz (S.o.below N.o) O.o.sl B.o (by rw [HN.o];exact hl) uy.o A.o.2;refine hrl.mono ?_;rintro e az ⟨v4,rfl,L,hb4⟩;have Y:=af (O.o.below hb4);have W:=ag N hb4;have I:=HQ L.sl A.o.1.1 hle;clear hrl L hb4;go_wp2_with fail;refine I.mono ?_;rintro e aA ⟨v5,rfl,J,C⟩;have G:=ag W C;have M:=FA (Y.o.below C).sl J.sl (by rw [BS,tQ _ _ B.o,B.o]) (by rw [B.o,HN.o];exact hl) A.o.2 (HT A.o.1.1 hle);clear I J C;go_wp2_with fail;refine M.mono ?_;rintro e aN ⟨v6,rfl,E,D⟩;have X:=af (E.base G.o.size);have V:=ag G D;clear M E D;go_wp2_with fail;go_ret;exact⟨_,rfl,by rw [<-r.o];exact X.o,V.o⟩
  rw [if_neg Z]at H;have hk2:=H.o.symm;clear H;subst hk2;have O:Ei (e8.Row (w1.setCell ↑(g0,t) ↑most) g0 (.slice ↑g0 n n) ((List.replicate n (0:Int)).set t most)):=af (by have:=Q.o.aW (k:=0) (u:=↑most) (e':=most) U.o (by show 0<1;omega) rfl;rwa [show t*e8.m+0=t by show t*1+0=t;omega]at this);have N:Ei (Below ↑w w (w1.setCell ↑(g0,t) ↑most)):=af (d.o.setCell (p:=⟨g0,t,none⟩) (by show w.heap.size<=g0;rw [i.o];exact Nat.le_refl _) _);clear U;go_upto_region 11 with(fail);generalize (List.replicate n (0:Int)).set t most=F at*;generalize w1.setCell ⟨g0,t,none⟩ ↑most=w3 at*;go_wp2_with fail;have hrl:=Fz (S.o.below N.o) O.o.sl B.o (by rw [HN.o];exact hl) uy.o A.o.2;refine hrl.mono ?_;rintro e az ⟨v4,rfl,L,hb4⟩;have Y:=af (O.o.below hb4);have W:=ag N hb4;have I:=HQ L.sl A.o.1.1 hle;clear hrl L hb4;go_wp2_with fail;refine I.mono ?_;rintro e aA ⟨v5,rfl,J,C⟩;have G:=ag W C;have M:=FA (Y.o.below C).sl J.sl (by rw [BS,tQ _ _ B.o,B.o]) (by rw [B.o,HN.o];exact hl) A.o.2 (HT A.o.1.1 hle);clear I J C;go_wp2_with fail;refine M.mono ?_;rintro e aN ⟨v6,rfl,E,D⟩;have X:=af (E.base G.o.size);have V:=ag G D;clear M E D;go_wp2_with fail;go_ret;exact⟨_,rfl,by rw [<-r.o];exact X.o,V.o⟩
 have gv:yX l q=false:=by rw [Bool.not_eq_true]at hr;exact hr
 have bR:Ei (FD l top most least q= []):=af (if_neg fun hh=>hr hh.1);rw [gv]at T;rw [bR.o];clear hx hr gv hmk;go_enter Tryz.func151,Tryz.ntmps151;go_wp2_with fail;refine T.o.mono ?_;rintro e w2 ⟨rfl,rfl⟩;clear T;go_wp2_with fail;go_ret;exact⟨_,rfl,bl.Row.nil _ _,Below.refl _ _⟩
theorem PC.oQ {w:World} {g:Nat} {p:Prod} (hb:av w g 25 p.cells):PC w g p:=by have h:∀i,w.cell? ⟨g,i,none⟩=p.cells[i]? :=fun i=>hb.cell i;exact⟨h 0,h 1,h 2,h 3,h 4,h 5,h 6,h 7,h 8,h 9,h 10⟩
theorem YP {p:Prod} {inst:Int} (h1:0<=inst) (h2:inst<countP p) (h:(gf p inst).2.2=false):∃i:Nat,gf p inst=((i:Int),(i:Int),false)∧i<p.months.length:=by
 unfold gf at h⊢;rw [if_neg bh]at h⊢;by_cases h3:inst<p.months.length
 ·rw [if_pos h3];exact⟨inst.toNat,by rw [Int.toNat_of_nonneg h1],bh⟩
 rw [if_neg h3]at h;cases h
theorem ajV:∀n,n<=6->∀k,k<22->n+k<nR n->k=k4 n (Bl n k)+(J8 n k-(Bl n k+1)):=b9
def JN (p:Prod) (near cC:Int):Prop:=0<=near∧near<cC∧cC<p.months.length
instance (p:Prod) (near cC:Int):Decidable (JN p near cC):=by unfold JN;infer_instance
def rO (p:Prod) (near cC:Int):Int×Bool:=
 if cR p=0∧JN p near cC then((p.months.length:Int)+(k4 p.months.length near.toNat:Nat)+(cC-near-1),true)else(0,false)
theorem ajW {p:Prod} (hz:cR p=0) {k:Nat} (hk:(k:Int)<countP p) (hn:p.months.length<=k) {near cC:Int} {i j:Int} {b:Bool} (A:gf p (k:Int)=(i,j,b)) (h:i=near∧j=cC):rO p near cC=((k:Int),true):=by
 have hl:=pI hz;have hc:=yt hz;have hcb:=yN p.months.length hl.2;obtain⟨m,rfl⟩:∃m,k=p.months.length+m:=⟨k-p.months.length,bh⟩;have hin:=ajV p.months.length hl.2 m bh bh;have hbd:=Y6 p.months.length hl.2 m bh bh;unfold gf at A;rw [if_neg bh,if_neg bh,show(((p.months.length+m:Nat):Int)-(p.months.length:Int)).toNat=m by omega]at A;injection A with h1 h2;injection h2 with h2 _;obtain⟨rfl,rfl⟩:=h;rw [<-h1,<-h2];unfold rO;rw [if_pos ⟨hz,by unfold JN;omega⟩,Int.toNat_natCast]
 congr 1
 omega
theorem ajX {p:Prod} {near cC:Int} (hz:cR p=0) (h:∀k:Nat,p.months.length<=k->(k:Int)<countP p->¬((gf p (k:Int)).1=near∧(gf p (k:Int)).2.1=cC)):rO p near cC=(0,false):=by refine if_neg fun hh=>?_;obtain⟨_,h0,h1,h2⟩:=hh;obtain⟨i,rfl⟩:∃i:Nat,near=(i:Int):=⟨near.toNat,bh⟩;obtain⟨j,rfl⟩:∃j:Nat,cC=(j:Int):=⟨cC.toNat,bh⟩;have hl:=pI hz;have hc:=yt hz;have he:=M6 p.months.length hl.2;have hs:=JO p.months.length i;have hm:=M7 p.months.length (bh:i+1<=p.months.length);have A:=Y7 (p:=p) (k:=k4 p.months.length i+(j-(i+1))) rfl hz (i:=i) (j:=j) bh bh rfl;refine h (p.months.length+(k4 p.months.length i+(j-(i+1)))) bh bh ?_;rw [show((p.months.length+(k4 p.months.length i+(j-(i+1))):Nat):Int)=(p.months.length:Int)+((k4 p.months.length i+(j-(i+1)):Nat):Int)by omega,A];exact⟨rfl,rfl⟩
theorem ahW (p:Prod) (near cC:Int) (w:World) (hp:gM w p):
 Calls Tryz.prog 132 #[p.agg,↑near,↑cC] w fun e w'=>e= .returned (.tuple #[.int .i64 (rO p near cC).1,.bool (rO p near cC).2])∧Below ↑w w w':=by
 have hs0:=St.new hp;unfold Prod.cells at hs0;have A:=af hs0;have G:=af fun ax (h:gM ax p)=>KA p ax h;have hml:=hp.Cg;unfold Prod.agg Prod.cells at G⊢;clear hp hs0;by_cases hz:cR p=0
 ·have R:=af fun(k:Int) ax (h:gM ax p)=>Hv p k ax h;unfold Prod.agg Prod.cells at R;have P:=af fun(k:Nat) (h1:(k:Int)<countP p) (h2:p.months.length<=k) (i j:Int) (b:Bool) h3 h4=>ajW (near:=near) (cC:=cC) (i:=i) (j:=j) (b:=b) hz h1 h2 h3 h4;have T:=af (ajX (near:=near) (cC:=cC) hz);have hcb:=BA p;have V:(p.months.length:Int)<=countP p:=by have:=yN p.months.length (pI hz).2;rw [yt hz];omega
  obtain⟨c,hc⟩:∃c:Nat,countP p=(c:Int):=⟨(countP p).toNat,bh⟩;rw [hc]at G P T hcb V;clear hc hz;generalize rO p near cC=v at*;obtain⟨b0,b1,b2,b3,b4,bk,E,bn,B,C,D⟩:=A.o.pc;go_enter Tryz.func132,Tryz.ntmps132;go_wp2_with fail;clear b0 b1 b2 b3 b4 bk E bn B C D;go_loopw [8] (fun i w'=>∃k:Nat,i=↑k∧p.months.length<=k∧k<=c∧St w w' p∧Ei (∀j:Nat,p.months.length<=j->j<k->¬((gf p (j:Int)).1=near∧(gf p (j:Int)).2.1=cC))) (fun i _=>c-(RowKit.intOf i).toNat)
  case atStart=>exact⟨p.months.length,rfl,Nat.le_refl _,bh,A.o,af fun j h1 h2=>bh⟩
  clear A;obtain⟨k,rfl,hkn,hk,hS,L⟩:=hrel;obtain⟨ax,rfl⟩:=aj wr;have A:=af hS;clear hS;obtain⟨b0,b1,b2,b3,b4,bk,E,bn,B,C,D⟩:=A.o.pc;go_wp2_with fail;refine(G.o _ A.o.pv).mono ?_;rintro e w1 ⟨rfl,hb1⟩;have F:=af (A.o.next hb1);clear hb1 b0 b1 b2 b3 b4 bk E bn B C D;by_cases hkc:k<c
  ·have I:(k:Int)<(c:Int):=by omega
   have M:=R.o (k:Int) _ F.o.pv;obtain⟨l0,l1,l2,hl⟩:∃l0 l1 l2,gf p (k:Int)=(l0,l1,l2):=⟨_,_,_,rfl⟩;rw [hl]at M;have Q:=af hl;have H:=af fun h4=>P.o k I hkn l0 l1 l2 hl h4;clear hl;obtain⟨b0,b1,b2,b3,b4,bk,E,bn,B,C,D⟩:=F.o.pc;go_wp2_with fail;refine M.mono ?_;rintro e w2 ⟨rfl,hb2⟩;have K:=af (F.o.next hb2);clear M hb2 b0 b1 b2 b3 b4 bk E bn B C D;by_cases h1:l0=near
   ·by_cases h2:l1=cC
    ·have hv:=H.o ⟨h1,h2⟩;subst hv;have e1:(l0==near)=true:=by rw [beq_iff_eq];exact h1
     have e2:(l1==cC)=true:=by rw [beq_iff_eq];exact h2
     clear H h1 h2;go_wp2_with fail;go_ret2;exact⟨dn,K.o.aJ⟩
    have e1:(l0==near)=true:=by rw [beq_iff_eq];exact h1
    have e2:(l1==cC)=false:=by rw [beq_eq_false_iff_ne];exact h2
    have J:Ei (¬(l0=near∧l1=cC)):=af fun h=>h2 h.2;clear H h1 h2;go_wp2_with fail;go_roundw
    case rel=>exact⟨k+1,dR,bh,bh,K.o,af fun j O hj2=>by
     by_cases N:j<k
     ·exact L.o j O N
     obtain rfl:j=k:=bh;rw [Q.o];exact J.o⟩
    exact Ej
   have e1:(l0==near)=false:=by rw [beq_eq_false_iff_ne];exact h1
   have J:Ei (¬(l0=near∧l1=cC)):=af fun h=>h1 h.1;clear H h1;go_wp2_with fail;go_roundw
   case rel=>exact⟨k+1,dR,bh,bh,K.o,af fun j O hj2=>by
    by_cases N:j<k
    ·exact L.o j O N
    obtain rfl:j=k:=bh;rw [Q.o];exact J.o⟩
   exact Ej
  obtain rfl:k=c:=bh;have hv:=T.o fun j h1 h2=>L.o j h1 bh;subst hv;go_wp2_with fail;go_ret2;exact⟨dn,F.o.aJ⟩
 have U:Ei (rO p near cC=(0,false)):=af (if_neg fun h=>hz h.1);rw [U.o];rw [KB hz]at G;clear hz;obtain⟨b0,b1,b2,b3,b4,bk,E,bn,B,C,D⟩:=A.o.pc;go_enter Tryz.func132,Tryz.ntmps132;go_wp2_with fail;clear b0 b1 b2 b3 b4 bk E bn B C D;go_loopw [8] (fun i w'=>i=↑p.months.length∧St w w' p) (fun _ _=>0)
 case atStart=>exact⟨rfl,A.o⟩
 clear A;obtain⟨rfl,hS⟩:=hrel;obtain⟨ax,rfl⟩:=aj wr;have A:=af hS;clear hS;obtain⟨b0,b1,b2,b3,b4,bk,E,bn,B,C,D⟩:=A.o.pc;go_wp2_with fail;refine(G.o _ A.o.pv).mono ?_;rintro e w1 ⟨rfl,hb1⟩;have F:=af (A.o.next hb1);clear hb1 b0 b1 b2 b3 b4 bk E bn B C D;go_wp2_with fail;go_ret2;exact⟨dn,F.o.aJ⟩
end Go.Proofs.YtmaijkoopjocdaaGreat
