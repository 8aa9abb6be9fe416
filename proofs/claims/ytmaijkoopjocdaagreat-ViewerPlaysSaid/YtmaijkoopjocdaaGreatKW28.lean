import Derived.Test.YtmaijkoopjocdaaGreatKW25
import Derived.Test.YtmaijkoopjocdaaGreatKW27
set_option maxRecDepth 100000
set_option maxHeartbeats 64000000
namespace Go.Proofs.YtmaijkoopjocdaaGreat
open Go.RowKit Go.Lib
section
variable {W w w':World} {pw:Nat} {L:List aC}
theorem Wg (h:g4 W w pw L) (hl:L.length<=250) (hn:(L.map aC.id).Nodup) (hq:∀o∈L,1<=o.aq∧o.aq<=1000000) (id aq:Int):
 Calls Tryz.prog 108 #[.pointer ↑pw,↑id,↑aq] w fun e w'=>e= .returned (.int .i64 (pF L id aq).2)∧g4 W w' pw (pF L id aq).1∧aK (fun g=>g=pw) w w':=by
 cases hf:L.find? (fun o=>o.id==id)with
 |none=>rw [Ya hf];exact(ahL h hl id aq hf).mono fun _ _ ⟨h1,h2⟩=>⟨h1,h2▸h,h2▸aK.refl _ _⟩
 |some o=>
  by_cases hb:aq<1∨o.aq<aq
  ·rw [NC hf,if_pos hb];exact(ahM h hl id aq hf hb).mono fun _ _ ⟨h1,h2⟩=>⟨h1,h2▸h,h2▸aK.refl _ _⟩
  have hc:(pF L id aq).2=0:=by rw [NC hf,if_neg hb];split<;>rfl
  rw [hc];exact ahN h hl hn id aq hf bh (hq o (List.mem_of_find?_eq_some hf)).2 _ rfl
theorem g4.aE (h:g4 W w pw L):ck w pw 181:=by obtain⟨⟨a,c,h1,_⟩,_⟩:=h;exact h1.aE
theorem ahU (h:g4 W w pw L) (hl:L.length<=250) (id side ap aq:Int):
 Calls Tryz.prog 139 #[.pointer ↑pw,↑id,↑side,↑ap,↑aq] w fun e w'=>e= .returned (.int .i64 (mT L id side ap aq).2)∧g4 W w' pw (mT L id side ap aq).1∧aK (fun g=>g=pw) w w':=by
 cases hb:z8 side with
 |false=>rw [ahz hb];exact(ahB w pw id side ap aq hb).mono fun _ _ ⟨h1,h2⟩=>⟨h1,h2▸h,h2▸aK.refl _ _⟩
 |true=>
  have hs:side=1∨side=2:=by
   unfold z8 at hb
   simpa using hb
  by_cases hq:aq<1∨1000000<aq
  ·rw [ahA hb hq];exact(ahC w pw id side ap aq hs hq).mono fun _ _ ⟨h1,h2⟩=>⟨h1,h2▸h,h2▸aK.refl _ _⟩
  have A:1<=aq∧aq<=1000000:=bh;cases ht:(L.find? (fun o=>o.id==id)).isSome with
  |true=>rw [show mT L id side ap aq=(L,25)by unfold mT;rw [hb,if_neg cU,if_neg hq,if_pos ht]];exact(ahD h hl id side ap aq hs A ht).mono fun _ _ ⟨h1,h2⟩=>⟨h1,h2▸h,h2▸aK.refl _ _⟩
  |false=>
   by_cases hf:250<=L.length
   ·rw [show mT L id side ap aq=(L,13)by unfold mT;rw [hb,if_neg cU,if_neg hq,ht,if_neg cU,if_pos hf]];exact(ahE h bh id side ap aq hs A ht).mono fun _ _ ⟨h1,h2⟩=>⟨h1,h2▸h,h2▸aK.refl _ _⟩
   have he:mT L id side ap aq=((if mS L side ap=true then L.map (mg side)else L).take (nU L side ap)++ [⟨id,side,ap,aq,mS L side ap⟩]++(if mS L side ap=true then L.map (mg side)else L).drop (nU L side ap),0):=by unfold mT;rw [hb,if_neg cU,if_neg hq,ht,if_neg cU,if_neg hf]
   rw [he];exact ahF h bh id side ap aq hs A ht _ rfl
end
def Lr (x:Nat):List Value:= [.pointer (some ⟨x,0,none⟩)]
theorem aj5 (x:Nat):∀u∈Lr x,u.oneCell'=true:=by intro u hu;simp only [Lr,List.mem_cons,List.not_mem_nil,or_false]at hu;rw [hu];rfl
def Dm:bl Nat:=⟨Lr,1,fun _=>rfl,aj5,bh,134,127,.pointer none,8,Tryz.underlying127,eP,dn,bh⟩
def ve (p:Prod) (v:Value):Array Value:=#[.string p.code,.slice p.ma p.months.length p.mc,.int .i64 p.tick,.int .i64 p.low,.int .i64 p.high,.int .i64 p.wide,.int .i64 p.rule,.int .i64 p.top,.int .i64 p.least,.int .i64 p.part,.slice p.sa p.settle.length p.sc,v]
structure eH (W w:World) (ps:Nat) (p:Prod) (Q:List Nat) (S:List (List aC)):Prop where
 box:∃a c,av w ps 129 (ve p (.slice a Q.length c))∧Dm.Row w ↑W (.slice a Q.length c) Q
 len:Q.length=S.length
 nd:Q.Nodup
 Et:∀(i pb:Nat) (L:List aC),Q[i]? =some pb->S[i]? =some L->g4 W w pb L
 pv:gM W p
 base:W.heap.size<=ps
 aJ:Below ↑W W w
section
variable {W w w':World} {ps pb:Nat} {p:Prod} {Q:List Nat} {S:List (List aC)} {L L':List aC}
theorem g4.keep {F:Nat->Prop} (h:g4 W w pb L) (hk:aK F w w') (hp:¬F pb) (hr:∀g,ck w g gI.t->¬F g) (hF:∀g,F g->W.heap.size<=g):g4 W w' pb L:=by obtain⟨⟨a,c,h1,h2⟩,h3,h4⟩:=h;exact⟨⟨a,c,h1.keeps hk hp,h2.keep hk hr⟩,h3,h4.trans (hk.below hF h4.size)⟩
theorem g4.Hg {jJ:World} (h:g4 W w pb L) (hb:Below ↑jJ jJ W):g4 jJ w pb L:=by obtain⟨⟨a,c,h1,h2⟩,h3,h4⟩:=h;exact⟨⟨a,c,h1,h2.base hb.size⟩,Nat.le_trans hb.size h3,hb.trans (h4.mono hb.size)⟩
theorem eH.aE (h:eH W w ps p Q S):ck w ps 129:=by obtain⟨a,c,h1,_⟩:=h.box;exact h1.aE
theorem eH.get (h:eH W w ps p Q S) {i:Nat} (hi:i<S.length):∃pb L,Q[i]? =some pb∧S[i]? =some L∧g4 W w pb L:=by
 have hq:i<Q.length:=by rw [h.len];exact hi
 exact⟨_,_,List.getElem?_eq_getElem hq,List.getElem?_eq_getElem hi,h.Et i _ _ (List.getElem?_eq_getElem hq) (List.getElem?_eq_getElem hi)⟩
theorem eH.py (h:eH W w ps p Q S) {g:Nat} (hg:g∈Q):ck w g 181∧W.heap.size<=g:=by
 obtain⟨i,hi,he⟩:=List.getElem_of_mem hg;have hs:i<S.length:=by rw [<-h.len];exact hi
 have:=h.Et i g _ (by rw [List.getElem?_eq_getElem hi,he]) (List.getElem?_eq_getElem hs);exact⟨this.aE,this.base⟩
theorem eH.aj6 {F:Nat->Prop} (h:eH W w ps p Q S) (hk:aK F w w') (hF:∀g,F g->ck w g 181∧g ∉ Q∧W.heap.size<=g):eH W w' ps p Q S:=by obtain⟨a,c,h1,h2⟩:=h.box;refine⟨⟨a,c,h1.keeps hk (fun e=>(hF _ e).1.ne h1.aE b9 rfl),h2.keep hk (fun g hg e=>hg.ne (hF _ e).1 b9 rfl)⟩,h.len,h.nd,fun i pb L hq hs=>?_,h.pv,h.base,h.aJ.trans (hk.below (fun g e=>(hF g e).2.2) h.aJ.size)⟩;exact(h.Et i pb L hq hs).keep hk (fun e=>(hF _ e).2.1 (List.mem_of_getElem? hq)) (fun g hg e=>hg.ne (hF _ e).1 b9 rfl) (fun g e=>(hF g e).2.2)
theorem eH.below (h:eH W w ps p Q S) (hb:Below ↑w w w'):eH W w' ps p Q S:=
 h.aj6 (F:=fun _=>False) (Below.keeps hb) (fun _ e=>e.elim)
theorem eH.Qe (h:eH W w ps p Q S) {i:Nat} (hq:Q[i]? =some pb) (hk:aK (fun g=>g=pb) w w') (hr:g4 W w' pb L'):eH W w' ps p Q (S.set i L'):=by
 obtain⟨a,c,h1,h2⟩:=h.box;have ht:=h.py (List.mem_of_getElem? hq);refine⟨⟨a,c,h1.keeps hk (fun e=>h1.aE.ne ht.1 b9 e),h2.keep hk (fun g hg e=>hg.ne ht.1 b9 e)⟩,by rw [List.length_set];exact h.len,h.nd,fun j g K hj hs=>?_,h.pv,h.base,h.aJ.trans (hk.below (fun g e=>by have e2:g=pb:=e;rw [e2];exact ht.2) h.aJ.size)⟩;by_cases hij:i=j
 ·subst hij;rw [hq]at hj;injection hj with hj;subst hj;rw [List.getElem?_set_self (by have:=dM hq;rw [<-h.len];exact this)]at hs;injection hs with hs;subst hs;exact hr
 rw [List.getElem?_set_ne hij]at hs;refine(h.Et j g K hj hs).keep hk (fun e=>?_) (fun g hg e=>hg.ne ht.1 b9 e) (fun g e=>by have e2:g=pb:=e;rw [e2];exact ht.2);have e2:g=pb:=e;subst e2;obtain⟨h3,h4⟩:=lB hq;obtain⟨h5,h6⟩:=lB hj;exact hij ((List.getElem_inj h.nd).1 (h4.trans h6.symm))
end
section
variable {W w w':World} {ps pb:Nat} {p:Prod} {Q:List Nat} {S:List (List aC)} {L L':List aC}
theorem eH.push {wb A:World} {a:Option Addr} {c B:Nat} {v':Value} (h:eH W w ps p Q S) (N:av w ps 129 (ve p (.slice a Q.length c))) (hb:Below ↑w w wb) (hn:w.heap.size<=B) (J:g4 W wb B L)
 (hrow:Dm.Row wb ↑W (.slice a Q.length c) Q) (hr:Dm.Row A ↑W v' (Q++ [B])) (hg:wb.grownBy A (Value.slice a Q.length c).ownBlock):
 eH W (A.setCell ⟨ps,11,none⟩ v') ps p (Q++ [B]) (S++ [L])∧A.cell? ⟨ps,11,none⟩=some (.slice a Q.length c)∧A.frozen? ⟨ps,11,none⟩=false∧av (A.setCell ⟨ps,11,none⟩ v') ps 129 (ve p v'):=by
 have hk:=fK hg;have F:∀g,(Value.slice a Q.length c).ownBlock=some g->ck wb g Dm.t:=eo hrow;have H:=cS hrow;have G:=N.below hb;have C:=G.keeps hk (fun e=>(F _ e).ne G.aE b9 rfl);have I:=ct A ps 11 v';have E:=C.aW 11 v';have hrb:∀{g:Nat} {K:List aC},g4 W wb g K->g4 W (A.setCell ↑(ps,11) v') g K:=fun {g K} h1=>by have h5:=h1.keep hk (fun e=>(F _ e).ne h1.aE b9 rfl) (fun g hg e=>(F _ e).ne hg b9 rfl) H;exact h5.keep I (fun e=>h5.aE.ne C.aE b9 e) (fun g hg e=>hg.ne C.aE b9 e) (fun g e=>by have e2:g=ps:=e;rw [e2];exact h.base)
 obtain⟨a',c',dF⟩:=hr.form;subst dF;have M:=((h.aJ.trans (hb.mono h.aJ.size)).trans (hk.below H (Nat.le_trans h.aJ.size hb.size))).setCell (p:=⟨ps,11,none⟩) h.base (.slice a' (Q++ [B]).length c');have D:av (A.setCell ↑(ps,11) (.slice a' (Q++ [B]).length c')) ps 129 (ve p (.slice a' (Q++ [B]).length c')):=by unfold ve at E⊢;simp only [List.setIfInBounds_toArray,List.set_cons_zero,List.set_cons_succ]at E;exact E
 refine⟨⟨⟨a',c',?_,hr.keep I (fun g hg e=>hg.ne C.aE b9 e)⟩,by rw [List.length_append,List.length_append,h.len];rfl,?_,fun i g K hq hs=>?_,h.pv,h.base,M⟩,C.cell 11,C.frozen 11,D⟩
 ·exact D
 ·rw [List.nodup_append];refine⟨h.nd,cU,fun x hx y hy=>?_⟩;rw [List.mem_singleton]at hy;subst hy;rintro rfl;have:=(h.py hx).1.lt;omega
 by_cases hi:i<Q.length
 ·rw [List.getElem?_append_left hi]at hq;rw [List.getElem?_append_left (by rw [<-h.len];exact hi)]at hs;exact hrb ((h.Et i g K hq hs).below hb)
 rw [List.getElem?_append_right bh]at hq;rw [List.getElem?_append_right (by rw [<-h.len];omega),<-h.len]at hs;have O:i-Q.length=0:=by have:=dM hq;simp at this;omega
 rw [O]at hq hs;injection hq with hq;injection hs with hs;subst hq;subst hs;exact hrb J
theorem aj7 (h:g4 W w pb L):
 Calls Tryz.prog 109 #[.pointer ↑pb] w fun e w'=>∃A,e= .returned (.pointer (some ⟨A,0,none⟩))∧g4 W w' A L∧w.heap.size<=A∧Below ↑w w w':=by
 obtain⟨a,c,hb,hr⟩:=h.box;have k0:=hb.GC;have H:=af h;have B:=af hr;clear h hb hr;go_enter Tryz.func109,Tryz.ntmps109;go_wp2_with fail;go_ret;have hba:=Below.aI w (.cells #[.slice a L.length c] 181);exact⟨_,rfl,⟨⟨a,c,av.new _ _ _,B.o.below hba⟩,H.o.aJ.size,H.o.aJ.trans (hba.mono H.o.aJ.size)⟩,Nat.le_refl _,hba⟩
theorem agz (p:Prod) (w:World) (hp:gM w p):
 Calls Tryz.prog 57 #[p.agg] w fun e w'=>∃ps Q,e= .returned (.pointer (some ⟨ps,0,none⟩))∧eH w w' ps p Q (List.replicate (countP p).toNat []):=by
 obtain⟨n,hn,q⟩:=HX p;have HN:=af hn;rw [hn,Int.toNat_natCast];have hz:=ak;have hb1:=Below.aI w (.cells p.cells 25);have hb2:=hb1.trans ((Below.aI (w.alloc (.cells p.cells 25)) (.cells (ve p (.slice none 0 0)) 129)).mono hb1.size);have J:Ei (eH w ((w.alloc (.cells p.cells 25)).alloc (.cells (ve p (.slice none 0 0)) 129)) (w.heap.size+1) p [] (List.replicate 0 [])):=af
  ⟨⟨none,0,by have:=av.new (w.alloc (.cells p.cells 25)) 129 (ve p (.slice none 0 0));rwa [hz]at this,bl.Row.nil _ _⟩,rfl,List.nodup_nil,fun i pb L h=>by simp at h,hp,bh,hb2⟩
 have M:Ei (av ((w.alloc (.cells p.cells 25)).alloc (.cells (ve p (.slice none 0 0)) 129)) ↑w 25 p.cells):=af ((av.new w _ _).alloc _);have s:=af hp;clear hz hb1 hb2 hp hn;unfold Prod.agg Prod.cells ve at*;go_enter Tryz.func57,Tryz.ntmps57;go_upto_region 2 with(fail);obtain⟨ps,hps⟩:=ai (w.heap.size+1);rw [hps]at J⊢;obtain⟨aR,R⟩:=ai w.heap.size;rw [R]at M;rw [show(Value.pointer ↑w.heap.size)= .pointer ↑aR by rw [R]];clear hps R;generalize (w.alloc (.cells _ 25)).alloc (.cells _ 129)=w1 at*;go_wp2_with fail;go_loopw [4] (fun i w'=>∃(k:Nat) (Q:List Nat),i=↑k∧k<=n∧eH w w' ps p Q (List.replicate k [])∧av w' aR 25 p.cells) (fun i _=>n-(RowKit.intOf i).toNat)
 case atStart=>exact⟨0,[],rfl,Nat.zero_le _,J.o,M.o⟩
 clear J M;obtain⟨k,Q,rfl,hk,hS,hG⟩:=hrel;obtain⟨ax,rfl⟩:=aj wr;have T:=af hS;have d:=af hG;have U:Q.length=k:=by rw [hS.len,List.length_replicate]
 have H:=KA p ax (s.o.below hS.aJ);unfold Prod.agg Prod.cells at H;rw [HN.o]at H;have I:=af H;have B:=af U;clear hS H U;obtain⟨b0,b1,b2,b3,b4,bk,b,bn,Y,Z,S⟩:=hG.rT;clear hG;by_cases hlt:k<n
 ·have hlt':(k:Int)<(n:Int):=by omega
  go_wp2_with fail;refine I.o.mono ?_;rintro e w2 ⟨rfl,hb2⟩;have A:=af (T.o.below hb2);have G:=af (d.o.below hb2);obtain⟨a,c,E,hrow⟩:=A.o.box;rw [B.o]at E hrow;have r:=E.MK;have hba:=Below.aI w2 (.cells #[.slice none 0 0] 181);have D:=hba.trans ((Below.aI (w2.alloc (.cells #[.slice none 0 0] 181)) (.cells #[.pointer ↑w2.heap.size] 134)).mono hba.size);have hz:(w2.alloc (.cells #[.slice none 0 0] 181)).heap.size=w2.heap.size+1:=cU;have N:Ei (av ((w2.alloc (.cells #[.slice none 0 0] 181)).alloc (.cells #[.pointer ↑w2.heap.size] 134)) (w2.heap.size+1) 134 (Lr ↑w2).toArray):=af (by have:=av.new (w2.alloc (.cells #[.slice none 0 0] 181)) 134 #[.pointer ↑w2.heap.size];rw [hz]at this;exact this);have l:Ei (g4 w ((w2.alloc (.cells #[.slice none 0 0] 181)).alloc (.cells #[.pointer ↑w2.heap.size] 134)) ↑w2 []):=af
   ⟨⟨none,0,(av.new w2 _ _).alloc _,bl.Row.nil _ _⟩,A.o.aJ.size,A.o.aJ.trans (D.mono A.o.aJ.size)⟩
  have F:=af (hrow.below D);have j:=af E;have C:=af D;clear hb2 E hrow hba D hz I b0 b1 b2 b3 b4 bk b bn Y Z S T d;go_wp2_with (first
   |(at_builtin;go_loud (refine Dm.push rfl (.tmp 18) (.tmp 21) rfl ↑w (.slice a k c) Q rfl F.o (w2.heap.size+1) w2.heap.size rfl N.o.lt N.o.gH (by rw [B.o];omega) (Nat.le_trans A.o.aJ.size C.o.size) ?_)))
  intro v' X O P _;obtain⟨a5,K,g⟩:=O.form;rw [List.length_append,List.length_singleton,B.o]at g;subst g;have W:=A.o.push (v':= .slice a5 (k+1) K) (by rw [B.o];exact j.o) C.o (Nat.le_refl _) l.o (by rw [B.o];exact F.o) O (by rw [B.o];exact P);rw [B.o]at W;obtain⟨h1,u,z5,_⟩:=W;have m:Ei (eH w (X.setCell ↑(ps,11) (.slice a5 (k+1) K)) ps p (Q++ [w2.heap.size]) (List.replicate (k+1) [])):=af (by rw [List.replicate_succ'];exact h1);have V:=((G.o.below C.o).keeps (fK P) (fun e=>(eo F.o _ e).ne (G.o.below C.o).aE b9 rfl)).keeps (ct X ps 11 (.slice a5 (k+1) K)) (fun e=>(G.o.aE).ne A.o.aE b9 e);have t:=af V;clear h1 O P V N l F j C A G r;go_wp2_with fail;go_roundw
  case rel=>exact⟨k+1,_,dR,hlt,m.o,t.o⟩
  exact Ej
 have hkn:k=n:=bh;subst hkn;go_wp2_with fail;refine I.o.mono ?_;rintro e w2 ⟨rfl,hb2⟩;have A:=af (T.o.below hb2);clear hb2 I b0 b1 b2 b3 b4 bk b bn Y Z S;go_wp2_with fail;go_ret;exact⟨ps,Q,rfl,A.o⟩
end
section
variable {W w w':World} {ps pb:Nat} {p:Prod} {Q:List Nat} {S:List (List aC)} {L L':List aC}
def tot (S:List (List aC)):Nat:=(S.map List.length).sum
theorem aj8 {k:Nat} (h:S[k]? =some L):tot (S.take (k+1))=tot (S.take k)+L.length:=by unfold tot;rw [kH h,List.map_append,List.sum_append];simp
theorem Cs (k:Nat):tot (S.take k)<=tot S:=by
 unfold tot
 conv=>{rhs;rw [<-List.take_append_drop k S]}
 rw [List.map_append,List.sum_append];omega
theorem Lu {B g n cap k x:Nat} (h:Dm.Row w B (.slice ↑g n cap) Q) (hx:Q[k]? =some x):w.cell? ↑(g,k)=some (.pointer ↑x):=by
 obtain⟨g1,C,e1,_,hc⟩:=h.at_ k x hx;have h1:g1=g:=by injection e1 with e1;injection e1 with e1;injection e1 with e1;exact e1.symm
 subst h1;have A:iI w g1 (k*1) [.pointer ↑x]:=hc;have:=A 0 _ rfl;rwa [Nat.mul_one,Nat.add_zero]at this
theorem eH.ptr (h:eH W w ps p Q S) {k x:Nat} (hx:Q[k]? =some x):∃g c,av w ps 129 (ve p (.slice (some ⟨g,0,none⟩) Q.length c))∧Dm.Row w ↑W (.slice (some ⟨g,0,none⟩) Q.length c) Q∧w.cell? ⟨g,k,none⟩=some (.pointer ↑x):=by obtain⟨a,c,h1,h2⟩:=h.box;obtain⟨g,cap,e,_,_⟩:=h2.at_ k x hx;injection e with e1 _ bJ;subst e1;subst bJ;exact⟨g,c,h1,h2,Lu h2 hx⟩
theorem Ub (h:eH W w ps p Q S) (hl:S.length<=100) (ht:tot S<=100000):
 Calls Tryz.prog 105 #[.pointer ↑ps] w fun e w'=>e= .returned (.int .i64 (tot S))∧w=w':=by
 obtain⟨a,c,B,_⟩:=h.box;have H:=af h;have E:=af ht;obtain⟨n,hn⟩:=ai Q.length;have C:S.length=n:=by rw [<-h.len];exact hn
 rw [hn]at B;have I:=B.MK;have F:=af C;have M:=af hn;rw [C]at hl;clear B h ht C hn;go_enter Tryz.func105,Tryz.ntmps105;go_wp2_with fail;go_loopw [4,3] (fun i y w'=>∃k t:Nat,i=↑k∧y=↑t∧k<=n∧t=tot (S.take k)∧w=w') (fun i _ _=>n-(RowKit.intOf i).toNat)
 case atStart=>exact⟨0,0,rfl,rfl,Nat.zero_le _,rfl,rfl⟩
 obtain⟨k,t,rfl,rfl,hk,hte,rfl⟩:=hrel;have D:=af hte;have htb:t<=100000:=by have:=Cs (S:=S) k;have:=E.o;omega
 clear hte;by_cases hlt:k<n
 ·have hlt':(k:Int)<(n:Int):=by omega
  obtain⟨x,L,hq,hs,hrb⟩:=H.o.get (by rw [F.o];exact hlt);obtain⟨g,c1,hb1,K,q0⟩:=H.o.ptr hq;obtain⟨a2,c2,hb2,_⟩:=hrb.box;have A:w.cell? ↑(ps,11)=some (.slice ↑g n c1):=by have:=hb1.cell 11;rw [M.o]at this;exact this
  have he:a=some ⟨g,0,none⟩∧c=c1:=by rw [I]at A;injection A with e;injection e with e1 _ bJ;exact⟨e1,bJ⟩
  obtain⟨rfl,rfl⟩:=he;have y0:=hb2.GC;have hst:=aj8 hs;have J:=af hst;have hlb:t+L.length<=100000:=by have:=Cs (S:=S) (k+1);have:=E.o;have:=D.o;omega
  clear hq hs hrb hb1 K hb2 A hst;go_wp2_with fail;go_roundw
  case rel=>exact⟨k+1,t+L.length,dR,dR,hlt,by rw [J.o,D.o],cF⟩
  exact Ej
 have hkn:k=n:=bh;have G:Ei (t=tot S):=af (by rw [D.o,hkn,<-F.o,List.take_length]);clear hkn;go_wp2_with fail;go_ret;exact⟨by rw [G.o];try rfl,cF⟩
theorem Pf (h:eH W w ps p Q S) (hl:S.length<=100):
 Calls Tryz.prog 68 #[.pointer ↑ps] w fun e w'=>∃A B,e= .returned (.pointer (some ⟨A,0,none⟩))∧eH W w' A p B S∧(∀g∈B,w.heap.size<=g)∧w.heap.size<=A∧Below ↑w w w':=by
 obtain⟨a,c,V,hrow⟩:=h.box;obtain⟨n,hn⟩:=ai Q.length;have q4:S.length=n:=by rw [<-h.len];exact hn
 rw [hn]at V hrow;have jX:=af V;have X:=af hrow;have H:=af h;clear hrow;have hba:=Below.aI w (.cells (ve p (.slice none 0 0)) 129);have U:Ei (eH W (w.alloc (.cells (ve p (.slice none 0 0)) 129)) ↑w p [] (S.take 0)):=af
  ⟨⟨none,0,av.new _ _ _,bl.Row.nil _ _⟩,by rw [List.take_zero];rfl,List.nodup_nil,fun i pb L h=>by simp at h,h.pv,h.aJ.size,h.aJ.trans (hba.mono h.aJ.size)⟩
 have v:=af hba;have oP:=af q4;have rH:=af hn;rw [q4]at hl;obtain⟨b0,b1,b2,b3,b4,bk,bw,bn,bC,bD,bu⟩:=V.rT;clear hba h V q4 hn;unfold ve at U v;go_enter Tryz.func68,Tryz.ntmps68;go_upto_region 2 with(fail);obtain⟨A,nG⟩:=ai w.heap.size;have l9:=af nG;rw [nG]at U⊢;clear nG b0 b1 b2 b3 b4 bk bw bn bC bD bu;have I:Ei ((w.alloc (.cells #[.string p.code,.slice p.ma p.months.length p.mc,↑p.tick,↑p.low,↑p.high,↑p.wide,↑p.rule,↑p.top,↑p.least,↑p.part,.slice p.sa p.settle.length p.sc,.slice none 0 0] 129)).cell? ↑(A,11)=some (.slice none 0 0)):=af (by rw [<-l9.o];exact(av.new w 129 #[.string p.code,.slice p.ma p.months.length p.mc,↑p.tick,↑p.low,↑p.high,↑p.wide,↑p.rule,↑p.top,↑p.least,↑p.part,.slice p.sa p.settle.length p.sc,.slice none 0 0]).cell 11);generalize w.alloc (.cells _ 129)=w1 at*;go_wp2_with fail;go_loopw [4] (fun i w'=>∃(k:Nat) (B:List Nat),i=↑k∧k<=n∧eH W w' A p B (S.take k)∧(∃a2 c2,w'.cell? ⟨A,11,none⟩=some (.slice a2 k c2)∧∀g,(Value.slice a2 k c2).ownBlock=some g->w.heap.size<=g)∧(∀g∈B,w.heap.size<=g)∧Below ↑w w w') (fun i _=>n-(RowKit.intOf i).toNat)
 case atStart=>exact⟨0,[],rfl,Nat.zero_le _,U.o,⟨none,0,I.o,fun g hg=>(by cases hg)⟩,fun g hg=>(by cases hg),v.o⟩
 clear U I v;obtain⟨k,B,rfl,hk,hS,⟨a2,c2,vZ,J⟩,M,hB⟩:=hrel;obtain⟨ax,rfl⟩:=aj wr;have F:=af hS;have N:=af (H.o.below hB);have qV:=af vZ;have N8:=af J;have o8:=af M;have C:=af hB;have dS:=(jX.o.below hB).MK;clear hS M hB vZ J;by_cases hlt:k<n
 ·have hlt':(k:Int)<(n:Int):=by omega
  obtain⟨x,L,hq,hs,hrb⟩:=N.o.get (by rw [oP.o];exact hlt);obtain⟨g,m6,e,dr,_⟩:=X.o.at_ k x hq;rw [rH.o]at e;injection e with e1 _ bJ;subst e1;subst bJ;have hb1:=jX.o.below C.o;have mh:=X.o.below C.o;have tr:g<w.heap.size:=ki X.o g rfl;have mM:=af tr;have ie:=af hq;have q0:ax.cell? ↑(g,k)=some (.pointer ↑x):=Lu mh hq;have dN:Ei (S.take (k+1)=S.take k++ [L]):=af (kH hs);have j:B.length=k:=by rw [F.o.len,List.length_take,oP.o];omega
  have G:=af j;obtain⟨r,s,Y,d⟩:=F.o.box;rw [j]at Y d;have he:a2=r∧c2=s:=by have:=Y.cell 11;rw [qV.o]at this;injection this with e;injection e with e1 _ bJ;exact⟨e1,bJ⟩
  obtain⟨rfl,rfl⟩:=he;have je:=af Y;have lU:=af d;have bg:=af (aj7 (hrb.below (Below.bO ax 1)));have q:Ei (∀wx,Below ↑ax ax wx->(fun w'=>w'.cell? ↑(A,11)=some (.slice a2 k c2)∧w'.cell? ↑(ps,11)=some (.slice ↑g n c)∧w'.cell? ↑(g,k)=some (.pointer ↑x)) wx):=af fun wx hb=>by have h1:=(je.o.below hb).cell 11;have h2:=(hb1.below hb).cell 11;have h3:=Lu (mh.below hb) hq;exact⟨h1,h2,h3⟩
  clear j Y d hrb hs hb1 mh hq dr tr;go_upto_region 5 with(fail);refine cP (S:=fun w'=>w'.cell? ⟨A,11,none⟩=some (.slice a2 k c2)∧w'.cell? ⟨ps,11,none⟩=some (.slice ↑g n c)∧w'.cell? ⟨g,k,none⟩=some (.pointer ↑x)) (q.o _ (Below.refl _ _).drew) fun hHeld=>?_;refine eX [0,1,2,3,4,5,6,7,8,9,10,11] ?_;refine aU 12 fun K hK=>?_;go_simp;refine bg.o.mono ?_;rintro e w3 ⟨pm,rfl,O,P,hb3⟩;have b:=(Below.bO ax 1).trans hb3;refine hK.out _ _ (q.o _ b) (fun hHeld=>?_);clear hK K;have hba:=Below.aI w3 (.cells #[.pointer ↑pm] 134);have hb4:=b.trans (hba.mono b.size);have y:Ei (av (w3.alloc (.cells #[.pointer ↑pm] 134)) ↑w3 134 (Lr pm).toArray):=af (av.new _ _ _);have E:=af hb4;have R:=af (O.below hba);have T:Ei (ax.heap.size<=pm):=af P;refine aU 13 fun K hK=>?_;go_simp;refine hK.out _ _ (q.o _ hb4) (fun hHeld=>?_);clear hK K O P hb3 b hba hb4 bg;have l:=af (lU.o.below E.o);refine aU 14 fun K hK=>?_;refine Dm.step dn (.tmp 24) (.tmp 33) dn W.heap.size (.slice a2 k c2) B dn l.o ↑w3 pm dn y.o.lt y.o.gH (by rw [G.o];omega) (Nat.le_trans F.o.aJ.size E.o.size) ?_;intro v' m z f Nm;obtain⟨a5,D,hM⟩:=z.form;rw [List.length_append,List.length_singleton,G.o]at hM;subst hM;have Lt:=F.o.push (v':= .slice a5 (k+1) D) (by rw [G.o];exact je.o) E.o T.o R.o (by rw [G.o];exact l.o) z (by rw [G.o];exact f);rw [G.o,<-dN.o]at Lt;obtain⟨h1,lq,z5,bI⟩:=Lt;have G6:=af h1;have sw:=fK f;have Z:Below ↑w w m:=(ah C E).o.trans (sw.below N8.o (Nat.le_trans C.o.size E.o.size));have JU:=jX.o.below Z;have bX:=X.o.below Z;have t:Ei (∀g,(Value.slice a5 (k+1) D).ownBlock=some g->w.heap.size<=g):=af fun g hg=>by
   rcases Nm with h|h
   ·exact N8.o g (by rw [<-h];exact hg)
   rw [hg]at h;injection h with h;rw [h];exact Nat.le_trans C.o.size E.o.size
  have bY:Ei (Below ↑w w (m.setCell ↑(A,11) (.slice a5 (k+1) D))):=af (Z.setCell (p:=⟨A,11,none⟩) (Nat.le_of_eq l9.o) _);have AI:Ei ((m.setCell ↑(A,11) (.slice a5 (k+1) D)).cell? ↑(A,11)=some (.slice a5 (k+1) D)):=af (bI.cell 11);have u:Ei (∀g∈B++ [pm],w.heap.size<=g):=af fun g hg=>by
   rcases List.mem_append.1 hg with h|h
   ·exact o8.o g h
   rw [List.mem_singleton]at h;rw [h];exact Nat.le_trans C.o.size T.o
  refine hK.out _ _ ⟨lq,JU.cell 11,Lu bX ie.o⟩ (fun hHeld=>?_);clear hK K Z JU bX z f Nm sw h1 bI;refine eX [15,16] ?_;refine dY 17 fun K hK=>?_;go_simp;refine hK.out _ _ ?_;clear hK K hHeld lq z5 dS q0 y R l je lU F N;go_wp2_with fail;go_roundw
  case rel=>exact⟨k+1,_,dR,hlt,G6.o,⟨a5,D,AI.o,t.o⟩,u.o,bY.o⟩
  exact Ej
 have hkn:k=n:=bh;subst hkn;have J5:Ei (eH W ax A p B S):=af (by have:=F.o;rwa [<-oP.o,List.take_length]at this);go_wp2_with fail;go_ret;exact⟨A,B,rfl,J5.o,o8.o,Nat.le_of_eq l9.o,C.o⟩
end
end Go.Proofs.YtmaijkoopjocdaaGreat
