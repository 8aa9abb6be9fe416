import Derived.Test.YtmaijkoopjocdaaGreatKW07
set_option maxRecDepth 100000
set_option maxHeartbeats 64000000
namespace Go.Proofs.YtmaijkoopjocdaaGreat
open Go.RowKit Go.Lib
structure aC where
 id:Int
 side:Int
 ap:Int
 aq:Int
 top:Bool
deriving DecidableEq
def aC.cells (x:aC):List Value:= [.int .i64 x.id,.int .i64 x.side,.int .i64 x.ap,.int .i64 x.aq,.bool x.top]
def Q9:aC:=⟨0,0,0,0,false⟩
theorem aC.kI (x:aC):∀u∈x.cells,u.oneCell'=true:=by intro u hu;simp only [aC.cells,List.mem_cons,List.not_mem_nil,or_false]at hu;rcases hu with rfl|rfl|rfl|rfl|rfl<;>rfl
def z8 (s:Int):Bool:=s==1||s==2
theorem agA {s:Int} (hs:s=1∨s=2):z8 s=true:=by unfold z8;rcases hs with rfl|rfl<;>rfl
def pF (L:List aC) (id aq:Int):List aC×Int:=
 match L.find? (fun o=>o.id==id)with
 |none=>(L,26)
 |some o=>if aq<1∨o.aq<aq then(L,24)else if o.aq=aq then(L.filter (fun x=>decide (x.id≠id)),0)else(L.map (fun x=>if x.id=id then {x with aq:=x.aq-aq}else x),0)
theorem Ya {L:List aC} {id aq:Int} (h:L.find? (fun o=>o.id==id)=none):pF L id aq=(L,26):=by unfold pF;rw [h]
theorem NC {L:List aC} {id aq:Int} {o:aC} (h:L.find? (fun o=>o.id==id)=some o):pF L id aq=if aq<1∨o.aq<aq then(L,24)else if o.aq=aq then(L.filter (fun x=>decide (x.id≠id)),0)else(L.map (fun x=>if x.id=id then {x with aq:=x.aq-aq}else x),0):=by unfold pF;rw [h]
def mg (side:Int) (o:aC):aC:=if o.side=side then {o with top:=false}else o
def mS (L:List aC) (side ap:Int):Bool:=L.all (fun o=> !(decide (o.side=side)&& !cT side ap o.ap))
def mD (side ap:Int) (o:aC):Bool:=decide (o.side<side)||(decide (o.side=side)&& !cT side ap o.ap)
def nU (L:List aC) (side ap:Int):Nat:=(L.takeWhile (mD side ap)).length
def mT (L:List aC) (id side ap aq:Int):List aC×Int:=
 if z8 side=false then(L,21)else if aq<1∨1000000<aq then(L,24)else if(L.find? (fun o=>o.id==id)).isSome=true then(L,25)else if 250<=L.length then(L,13)else
 ((if mS L side ap=true then L.map (mg side)else L).take (nU L side ap)++ [⟨id,side,ap,aq,mS L side ap⟩]++(if mS L side ap=true then L.map (mg side)else L).drop (nU L side ap),0)
def vQ (L:List aC) (id:Int):aC×Bool:=match L.find? (fun o=>o.id==id)with|some o=>(o,true)|none=>(Q9,false)
def yo (L:List aC) (side ap:Int):List aC:=L.filter (fun o=>decide (o.side=side∧o.ap=ap))
def pN (o:aC):List aB->List aB
 | []=> [⟨o.ap,o.aq,1⟩]
 |l::ls=>if l.ap=o.ap then⟨o.ap,o.aq+l.aq,1+l.count⟩::ls else⟨o.ap,o.aq,1⟩::l::ls
def jB (L:List aC):List aB:=L.foldr pN []
def q5 (L:List aC) (side:Int):List aC:=L.filter (fun o=>decide (o.side=side))
def k6 (L:List aC) (side:Int):List aB:=jB (q5 L side)
def jS (L:List aC) (side:Int):aB×Bool:=match k6 L side with| []=>(jD,false)|l::_=>(l,true)
def eO.own (s:eO):Option Nat:=(Value.slice s.a s.n s.c).ownBlock
def bB.sh (p:bB) (s:Nat):eO:=if s=0 then p.s else p.t
def Iz (P:List bB) (t:Nat):Prop:=∀(j j' s s':Nat) (p p':bB) (g:Nat),P[j]? =some p->P[j']? =some p'->s<2->s'<2->2*j+s<t->2*j'+s'<t->2*j+s≠2*j'+s'->(p.sh s).own=some g->(p'.sh s').own≠some g
def F5 (w:World) (B:Nat) (v:Value) (V:bG):Prop:=
 ∃P:List bB,ey.Row w B v P∧P.length=V.length∧(∀(j:Nat) (p:bB) (x:aX×aX),P[j]? =some p->V[j]? =some x->bV bS w B p.s x.1∧bV bS w B p.t x.2)∧Iz P (2*V.length)
theorem F5.fh {w:World} {B:Nat} {v:Value} {V:bG} (h:F5 w B v V):cg ey bS w B v V:=by obtain⟨P,h1,h2,h3,_⟩:=h;exact⟨P,h1,h2,h3⟩
structure qG (W w:World) (aM gr:Nat) (v:Value) (V:bG) (n k:Nat):Prop where
 box:av w aM 43 #[v]
 res:av w gr 43 #[.slice none 0 0]
 row:∃P:List bB,ey.Row w ↑W v P∧P.length=V.length∧(∀(j:Nat) (p:bB) (x:aX×aX),P[j]? =some p->V[j]? =some x->bV bS w (if j<n∨j=n∧0<k then W.heap.size else 0) p.s x.1∧bV bS w (if j<n∨j=n∧1<k then W.heap.size else 0) p.t x.2)∧Iz P (2*n+k)
 aJ:Below ↑W W w
 alR:W.heap.size<=aM
 O9:W.heap.size<=gr
section
variable {W w w':World} {aM gr:Nat} {v:Value} {V:bG} {n k:Nat}
theorem qG.form (h:qG W w aM gr v V n k):∃a c,v= .slice a V.length c:=by obtain⟨P,h1,h2,_⟩:=h.row;obtain⟨a,c,e⟩:=h1.form;exact⟨a,c,by rw [e,h2]⟩
theorem qG.next (h:qG W w aM gr v V n 2):qG W w aM gr v V (n+1) 0:=by
 obtain⟨h1,h2,⟨P,h3,h4,h5,h9⟩,h6,h7,h8⟩:=h;refine⟨h1,h2,⟨P,h3,h4,fun j p x hp hx=>?_,by rw [show 2*(n+1)+0=2*n+2 by omega];exact h9⟩,h6,h7,h8⟩;have:=h5 j p x hp hx;have e1:(j<n∨j=n∧0<2)=(j<n+1∨j=n+1∧0<0):=by simp;omega
 have e2:(j<n∨j=n∧1<2)=(j<n+1∨j=n+1∧1<0):=by simp;omega
 simp only [e1,e2]at this;exact this
theorem qG.below (h:qG W w aM gr v V n k) (hb:Below ↑w w w'):qG W w' aM gr v V n k:=by obtain⟨h1,h2,⟨P,h3,h4,h5,h9⟩,h6,h7,h8⟩:=h;exact⟨h1.below hb,h2.below hb,⟨P,h3.below hb,h4,fun j p x hp hx=>⟨(h5 j p x hp hx).1.below hb,(h5 j p x hp hx).2.below hb⟩,h9⟩,h6.trans (hb.mono h6.size),h7,h8⟩
theorem bl.Row.cC {α:Type} {Y:bl α} {B:Nat} {u:Value} {L:List α} (h:Y.Row w B u L) {g:Nat} {t:TypeId} (ht:ck w g t) (hne:Y.t≠t) (i:Nat) (x:Value):Y.Row (w.setCell ↑(g,i) x) B u L:=
 zv h (ct w g i x) fun k hk e=>(eo h k hk).ne ht hne e
theorem bV.cC {Y:bl aB} {B:Nat} {s:eO} {d:aX} (h:bV Y w B s d) {g:Nat} {t:TypeId} (ht:ck w g t) (hne:Y.t≠t) (i:Nat) (x:Value):bV Y (w.setCell ↑(g,i) x) B s d:=⟨h.n,h.row.cC ht hne i x,h.im,h.has⟩
theorem qG.store {w0:World} {go cap:Nat} {x:aX×aX} {a1:Option Addr} {c1:Nat} (h0:qG W w0 aM gr (.slice ↑go V.length cap) V n k) (hb:Below ↑w0 w0 w) (hx:V[n]? =some x) (hk:k<2)
 (K:bS.Row w ↑w0 (.slice a1 (if k=0 then x.1 else x.2).lv.length c1) (if k=0 then x.1 else x.2).lv):
 qG W (w.setCell ⟨go,n*10+k*5,none⟩ (.slice a1 (if k=0 then x.1 else x.2).lv.length c1)) aM gr (.slice ↑go V.length cap) V n (k+1):=by
 have hr:=K.base (B':=W.heap.size) h0.aJ.size;obtain⟨g1,g2,⟨P,aV,c5,bt,h9⟩,J,h7,h8⟩:=h0;have hfr:∀(j s:Nat) (q:bB) (g:Nat),P[j]? =some q->s<2->(q.sh s).own=some g->g<w0.heap.size:=by
  intro j s q g hq hs hg;have hjl:=dM hq;obtain⟨y,hy⟩:=GB V j bh;have:=bt j q y hq hy;unfold bB.sh at hg;split at hg
  ·exact ki this.1.row g (by have e:=this.1.n;unfold eO.own at hg;exact hg)
  exact ki this.2.row g (by unfold eO.own at hg;exact hg)
 have hnf:∀g,(Value.slice a1 (if k=0 then x.1 else x.2).lv.length c1).ownBlock=some g->w0.heap.size<=g:=cS K;have h1:=g1.below hb;have h2:=g2.below hb;have h3:=aV.below hb;have h4:=c5;have h5:∀(j:Nat) (p:bB) (x:aX×aX),P[j]? =some p->V[j]? =some x->bV bS w (if j<n∨j=n∧0<k then W.heap.size else 0) p.s x.1∧bV bS w (if j<n∨j=n∧1<k then W.heap.size else 0) p.t x.2:=fun j p x hp hx=>⟨(bt j p x hp hx).1.below hb,(bt j p x hp hx).2.below hb⟩;have h6:=J.trans (hb.mono J.size);clear g1 g2 aV c5 bt J;have hn:=dM hx;obtain⟨p,hp⟩:=GB P n bh;have E:ck w go ey.t:=eo h3 go rfl;have N:W.heap.size<=go:=cS h3 go rfl;have F:=h5 n p x hp hx;have hb1:=h1.cC (p:=⟨go,n*10+k*5,none⟩) (h1.aE.ne E b9) (.slice a1 (if k=0 then x.1 else x.2).lv.length c1);have hb2:=h2.cC (p:=⟨go,n*10+k*5,none⟩) (h2.aE.ne E b9) (.slice a1 (if k=0 then x.1 else x.2).lv.length c1);have C:=h6.setCell (p:=⟨go,n*10+k*5,none⟩) N (.slice a1 (if k=0 then x.1 else x.2).lv.length c1);have A:∀(j:Nat) (q q':bB),(P.set n q)[j]? =some q'->(j=n∧q'=q)∨(j≠n∧P[j]? =some q'):=by
  intro j q q' h;rw [List.getElem?_set]at h;split at h
  ·rename_i e;split at h
   ·injection h with h;exact .inl ⟨e.symm,h.symm⟩
   cases h
  rename_i e;exact .inr ⟨fun e'=>e e'.symm,h⟩
 have hap:∀(p':bB),(p'.sh k).own=(Value.slice a1 (if k=0 then x.1 else x.2).lv.length c1).ownBlock->(∀s,s<2->s≠k->p'.sh s=p.sh s)->Iz (P.set n p') (2*n+(k+1)):=by
  intro p' e1 e2 j j' s s' q q' g hq G hs hs' ht ht' hne hg hg';have hold:∀(j s:Nat) (q:bB) (g:Nat),(P.set n p')[j]? =some q->s<2->(q.sh s).own=some g->(j=n∧s=k)∨(∃q0,P[j]? =some q0∧(q0.sh s).own=some g):=by
   intro j s q g hq hs hg;rcases A j _ q hq with⟨rfl,rfl⟩|⟨_,hq⟩
   ·by_cases D:s=k
    ·exact .inl ⟨rfl,D⟩
    exact .inr ⟨p,hp,by rw [<-e2 s hs D];exact hg⟩
   exact .inr ⟨q,hq,hg⟩
  rcases hold j s q g hq hs hg with⟨rfl,rfl⟩|⟨q0,H,a2⟩
  ·rcases hold j' s' q' g G hs' hg' with⟨rfl,rfl⟩|⟨q1,b1,b2⟩
   ·exact hne rfl
   rcases A j _ q hq with⟨_,rfl⟩|⟨hx,_⟩
   ·have:=hnf g (by rw [<-e1];exact hg);have:=hfr j' s' q1 g b1 hs' b2;omega
   exact hx rfl
  rcases hold j' s' q' g G hs' hg' with⟨rfl,rfl⟩|⟨q1,b1,b2⟩
  ·rcases A j' _ q' G with⟨_,rfl⟩|⟨hx,_⟩
   ·have:=hnf g (by rw [<-e1];exact hg');have:=hfr j s q0 g H hs a2;omega
   exact hx rfl
  by_cases O:2*j+s<2*n+k
  ·by_cases I:2*j'+s'<2*n+k
   ·exact h9 j j' s s' q0 q1 g H b1 hs hs' O I hne a2 b2
   have bJ:j'=n∧s'=k:=bh;obtain⟨rfl,rfl⟩:=bJ;rcases A j' _ q' G with⟨_,rfl⟩|⟨hx,_⟩
   ·have:=hnf g (by rw [<-e1];exact hg');have:=hfr j s q0 g H hs a2;omega
   exact hx rfl
  have bJ:j=n∧s=k:=bh;obtain⟨rfl,rfl⟩:=bJ;rcases A j _ q hq with⟨_,rfl⟩|⟨hx,_⟩
  ·have:=hnf g (by rw [<-e1];exact hg);have:=hfr j' s' q1 g b1 hs' b2;omega
  exact hx rfl
 rcases(bh:k=0∨k=1)with rfl|rfl
 ·simp only [if_true]at hap;simp only [if_true]at hr hb1 hb2 C⊢;rw [show n*10+0*5=n*10+0 by omega]at hb1 hb2 C⊢;have hst:=h3.aW (e':=⟨⟨a1,x.1.lv.length,c1,p.s.im,p.s.has⟩,p.t⟩) (k:=0) (u:= .slice a1 x.1.lv.length c1) hp b9 rfl;refine⟨hb1,hb2,⟨_,hst,by rw [List.length_set];exact h4,fun j q y hq hy=>?_,hap _ rfl (fun s hs D=>by unfold bB.sh;rw [if_neg D,if_neg D])⟩,C,h7,h8⟩;have ha:∀{B s d},bV bS w B s d->bV bS (w.setCell ↑(go,n*10+0) (.slice a1 x.1.lv.length c1)) B s d:=fun h=>h.cC E b9 _ _;rcases A j _ q hq with⟨rfl,rfl⟩|⟨hne,hq⟩
  ·rw [hx]at hy;injection hy with hy;subst hy;have L:=F.2;rw [if_neg bh]at L;rw [if_pos bh,if_neg bh];exact⟨⟨rfl,hr.cC E b9 _ _,F.1.im,F.1.has⟩,ha L⟩
  have hh:=h5 j q y hq hy;have e1:(j<n∨j=n∧0<0)=(j<n∨j=n∧0<0+1):=by simp;omega
  have e2:(j<n∨j=n∧1<0)=(j<n∨j=n∧1<0+1):=cU;simp only [<-e1,<-e2];exact⟨ha hh.1,ha hh.2⟩
 simp only [show¬((1:Nat)=0)by decide,if_false]at hap;simp only [show¬((1:Nat)=0)by decide,if_false]at hr hb1 hb2 C⊢;rw [show n*10+1*5=n*10+5 by omega]at hb1 hb2 C⊢;have hst:=h3.aW (e':=⟨p.s,⟨a1,x.2.lv.length,c1,p.t.im,p.t.has⟩⟩) (k:=5) (u:= .slice a1 x.2.lv.length c1) hp b9 rfl;refine⟨hb1,hb2,⟨_,hst,by rw [List.length_set];exact h4,fun j q y hq hy=>?_,hap _ rfl (fun s hs D=>by unfold bB.sh;rw [if_pos bh,if_pos bh])⟩,C,h7,h8⟩;have ha:∀{B s d},bV bS w B s d->bV bS (w.setCell ↑(go,n*10+5) (.slice a1 x.2.lv.length c1)) B s d:=fun h=>h.cC E b9 _ _;rcases A j _ q hq with⟨rfl,rfl⟩|⟨hne,hq⟩
 ·rw [hx]at hy;injection hy with hy;subst hy;have M:=F.1;rw [if_pos bh]at M;rw [if_pos bh,if_pos bh];exact⟨ha M,rfl,hr.cC E b9 _ _,F.2.im,F.2.has⟩
 have hh:=h5 j q y hq hy;have e1:(j<n∨j=n∧0<1)=(j<n∨j=n∧0<1+1):=cU;have e2:(j<n∨j=n∧1<1)=(j<n∨j=n∧1<1+1):=by simp;omega
 simp only [<-e1,<-e2];exact⟨ha hh.1,ha hh.2⟩
theorem qG.fz {go cap:Nat} (h:qG W w aM gr (.slice ↑go V.length cap) V n k) (hn:n<V.length) (o:Nat):w.frozen? ↑(go,o)=false:=by obtain⟨h1,h2,⟨P,h3,h4,h5,_⟩,h6,h7,h8⟩:=h;obtain⟨g',cap',cur,A,_,hbk⟩:=h3.Cd (by intro h0;rw [h0]at h4;simp at h4;omega);injection A with A;injection A with A;injection A with A;subst A;exact hbk.frozen _
theorem qG.side {x:aX×aX} (h:qG W w aM gr v V n k) (hx:V[n]? =some x) (hk:k<2):∃go cap a1 c1,v= .slice (some ⟨go,0,none⟩) V.length cap∧w.cell? ⟨go,n*10+k*5,none⟩=some (.slice a1 (if k=0 then x.1 else x.2).lv.length c1)∧bS.eT w (.slice a1 (if k=0 then x.1 else x.2).lv.length c1) (if k=0 then x.1 else x.2).lv∧w.frozen? ⟨go,n*10+k*5,none⟩=false:=by
 obtain⟨h1,h2,⟨P,h3,h4,h5,_⟩,h6,h7,h8⟩:=h;have hn:=dM hx;obtain⟨p,hp⟩:=GB P n bh;obtain⟨go,cap,e1,e2,bJ⟩:=h3.at_ n p hp;obtain⟨g',cap',cur,A,_,hbk⟩:=h3.Cd (by intro h0;rw [h0]at hp;simp at hp);have B:g'=go:=by rw [e1]at A;injection A with A;injection A with A;injection A with A;exact A.symm
 subst B;have hs:=h5 n p x hp hx;rcases(bh:k=0∨k=1)with rfl|rfl
 ·refine⟨g',cap,p.s.a,p.s.c,by rw [e1,h4],?_,?_,hbk.frozen _⟩
  ·have:=bJ 0 _ rfl;rw [if_pos rfl,<-hs.1.n,show n*10+0*5=n*ey.m+0 from rfl];exact this
  rw [if_pos rfl];have:=hs.1.row.sl;rw [hs.1.n]at this;exact this
 refine⟨g',cap,p.t.a,p.t.c,by rw [e1,h4],?_,?_,hbk.frozen _⟩
 ·have:=bJ 5 _ rfl;rw [if_neg b9,<-hs.2.n,show n*10+1*5=n*ey.m+5 from rfl];exact this
 rw [if_neg b9];have:=hs.2.row.sl;rw [hs.2.n]at this;exact this
theorem Dz {w:World} {B:Nat} {v:Value} {V:bG} (h:cg ey bS w B v V) (hl:V.length<=255) {K:Nat} (hK:fX V K) (n5:K<=900000):
 Calls Tryz.prog 42 #[.agg #[v]] w fun e w'=>∃v',e= .returned (.agg #[v'])∧F5 w' ↑w v' V∧Below ↑w w w':=by
 obtain⟨a,c,rfl⟩:=h.form;have hz:=ak;have hb1:=(Below.aI w (.cells #[.slice a V.length c] 43)).trans ((Below.aI (w.alloc (.cells #[.slice a V.length c] 43)) (.cells #[.slice none 0 0] 43)).mono cU);have m:av ((w.alloc (.cells #[.slice a V.length c] 43)).alloc (.cells #[.slice none 0 0] 43)) ↑w 43 #[.slice a V.length c]:=(av.new w _ _).alloc _;have A:av ((w.alloc (.cells #[.slice a V.length c] 43)).alloc (.cells #[.slice none 0 0] 43)) (w.heap.size+1) 43 #[.slice none 0 0]:=by rw [<-hz w (.cells #[.slice a V.length c] 43)];exact av.new _ _ _
 obtain⟨P,hP,t,r⟩:=h.below hb1;have G:=af hb1;have D:=af m;have H:=af A;have W:=af r;have u:=af t;have lg:=af hK;have Z:=af (Qz hP.sl bh);clear h hz hb1 m A r hP t hK;go_enter Tryz.func42,Tryz.ntmps42;go_upto_region 1 with(fail);obtain⟨w1,hw1⟩:=ai ((w.alloc (.cells #[.slice a V.length c] 43)).alloc (.cells #[.slice none 0 0] 43));obtain⟨aM,X⟩:=ai w.heap.size;obtain⟨gr,Y⟩:=ai (w.heap.size+1);rw [hw1]at G D H Z W⊢;rw [Y]at H;rw [X]at D;rw [Y,X];have fQ:Ei (aM≠gr):=af bh;have f:Ei (w.heap.size<=aM):=af bh;have y:Ei (w.heap.size<=gr):=af bh;clear hw1 X Y;have b0:=D.o.GC;go_wp2_with fail;refine Z.o.mono ?_;rintro e w2 ⟨v',rfl,hr,hb⟩;obtain⟨a2,c2,hv⟩:=hr.form;rw [u.o]at hv;subst hv;have A:=D.o.below hb;have hc0:qG w (w2.setCell ↑aM (.slice a2 V.length c2)) aM gr (.slice a2 V.length c2) V 0 0:=by
  refine⟨by have:=A.aW 0 (.slice a2 V.length c2);exact this,(H.o.below hb).cC (p:=⟨aM,0,none⟩) (Ne.symm fQ.o) _,⟨P,?_,u.o,fun j p x hp hx=>?_,fun j j' s s' p p' g _ _ _ _ h _=>absurd h bh⟩,(ag G hb).o.setCell (p:=⟨aM,0,none⟩) f.o _,f.o,y.o⟩
  ·exact(hr.base G.o.size).cC A.aE b9 0 _
  have hs:=W.o j p x hp hx;rw [if_neg bh,if_neg bh];exact⟨((hs.1.below hb).base (Nat.zero_le _)).cC A.aE b9 0 _,((hs.2.below hb).base (Nat.zero_le _)).cC A.aE b9 0 _⟩
 have I:=af hc0;have b2:=A.GC;have O:w2.frozen? ↑aM=false:=A.frozen 0;clear hr hb A hc0 Z b0 W D H G;go_upto_region 2 with(fail);clear b2 O;generalize w2.setCell ↑aM (.slice a2 V.length c2)=w3 at*;have b3:=I.o.box.GC;go_wp2_with fail;go_loopw [12] (fun i w'=>∃n:Nat,i=↑n∧n<=V.length∧qG w w' aM gr (.slice a2 V.length c2) V n 0) (fun i _=>V.length-(RowKit.intOf i).toNat)
 case atStart=>exact⟨0,rfl,Nat.zero_le _,I.o⟩
 clear I b3;obtain⟨n,rfl,hn,hC⟩:=hrel;obtain⟨ax,rfl⟩:=aj wr;have E:=af hC;clear hC;by_cases hlt:n<V.length
 ·have hlt':(n:Int)<(V.length:Int):=by omega
  obtain⟨x,hx⟩:=GB V n hlt;have U:=af hx;clear hx;go_wp2_with fail;go_loopw [15] (fun i w'=>∃k:Nat,i=↑k∧k<=2∧qG w w' aM gr (.slice a2 V.length c2) V n k) (fun i _=>2-(RowKit.intOf i).toNat)
  case atStart=>exact⟨0,rfl,Nat.zero_le _,E.o⟩
  clear E;obtain⟨k,rfl,hk,hC⟩:=hrel;obtain⟨wy,rfl⟩:=aj wr;have C:=af hC;by_cases hk2:k<2
  ·have alS:(k:Int)<2:=by omega
   obtain⟨go,cap,a1,c1,he,hcs,hsl,hfz⟩:=hC.side U.o hk2;injection he with he _ iU;subst he;subst iU;have hKx:(if k=0 then x.1 else x.2).lv.length<=K:=by
    have:=lg.o x (List.mem_of_getElem? U.o);split
    ·exact this.1
    exact this.2
   have hS:wy.cell? ↑aM=some (.slice ↑go V.length c2)∧wy.cell? ↑(go,n*10+k*5)=some (.slice a1 (if k=0 then x.1 else x.2).lv.length c1):=⟨hC.box.cell 0,hcs⟩;have J:=af (Qy (hsl.below (Below.bO wy 1)) bh);have N:=af hS;obtain⟨L,hL⟩:=ai ((if k=0 then x.1 else x.2).lv);rw [hL]at hS J hsl hcs;have iu:=af hL;rw [hL]at N;clear hL hcs hsl hfz hC hKx;go_upto_region 8 with(fail);refine cP (S:=fun w'=>w'.cell? ↑aM=some (.slice ↑go V.length c2)∧w'.cell? ⟨go,n*10+k*5,none⟩=some (.slice a1 L.length c1)) hS fun hHeld=>?_;refine eX [0,1,2,3,4,5,6,7,8,9,10,11,13] ?_;refine aU 12 fun K hK=>?_;go_simp;refine J.o.mono ?_;rintro e F ⟨v',rfl,hr,hb⟩;obtain⟨a3,c3,rfl⟩:=hr.form;have hb4:=(Below.bO wy 1).trans (hb.mono (Nat.le_refl _));have M:=af (C.o.below hb4);have b:=af (show bS.Row F ↑wy (.slice a3 L.length c3) L from hr);have l:=af hb4;have d:=C;have z:F.cell? ↑aM=some (.slice ↑go V.length c2)∧F.cell? ↑(go,n*10+k*5)=some (.slice a1 L.length c1):=by refine⟨M.o.box.cell 0,?_⟩;have Q:go<wy.heap.size:=ki C.o.row.choose_spec.1 go rfl;exact(hb4.cell (p:=⟨go,n*10+k*5,none⟩) Q).trans N.o.2
   refine hK.out _ _ z (fun hHeld=>?_);clear hK K hr hb hb4 hS z J C N;refine eX [14,15] ?_;refine dY 16 fun K hK=>?_;have R:F.frozen? ↑(go,n*10+k*5)=false:=M.o.fz hlt _;go_simp;refine hK.out _ _ ?_;rw [<-iu.o]at b hHeld⊢;have AI:=af (d.o.store l.o U.o hk2 b.o);clear hK K hHeld R M b d l;go_wp2_with fail;go_roundw
   case rel=>exact⟨k+1,dR,bh,AI.o⟩
   exact Ej
  obtain rfl:k=2:=bh;have T:=af hC.next;clear hC C;go_wp2_with fail;go_roundw
  case rel=>exact⟨n+1,dR,hlt,T.o⟩
  exact Ej
 obtain rfl:n=V.length:=bh;have hC:=E.o;have c0:=hC.box.GC;have cu:=hC.res.GC;have fz:ax.frozen? ↑gr=false:=hC.res.frozen 0;have hz:av (ax.setCell ↑gr (.slice a2 V.length c2)) gr 43 #[.slice a2 V.length c2]:=hC.res.aW 0 _;have hbz:=hC.aJ.setCell (p:=⟨gr,0,none⟩) y.o (.slice a2 V.length c2);have q:F5 (ax.setCell ↑gr (.slice a2 V.length c2)) ↑w (.slice a2 V.length c2) V:=by obtain⟨P,h3,h4,h5,h9⟩:=hC.row;refine⟨P,h3.cC hC.res.aE b9 0 _,h4,fun j p x hp hx=>?_,h9⟩;have hs:=h5 j p x hp hx;have hj:=dM hx;rw [if_pos (.inl hj),if_pos (.inl hj)]at hs;exact⟨hs.1.cC hC.res.aE b9 0 _,hs.2.cC hC.res.aE b9 0 _⟩
 have ec:=af hz;have fZ:=af hbz;have e5:=af q;clear hC hz hbz q E;go_wp2_with fail;clear c0 cu fz;generalize ax.setCell ↑gr (.slice a2 V.length c2)=wf at*;have k0:=ec.o.GC;refine bodyPost_ret (v:= .agg #[.slice a2 V.length c2]) (by simp [results,Tryz.results42,go_sem,k0]) rfl ⟨_,rfl,e5.o,fZ.o⟩
end
theorem agB {s x y:Int} (h:cT s x y=true):cT s y x=false:=by
 cases hc:cT s y x with
 |false=>rfl
 |true=>have:=D1 h hc;rw [Yb]at this;cases this
theorem Yc {s x y:Int} (h:cT s x y=false) (hne:x≠y):cT s y x=true:=by
 unfold cT at*;split at h<;>rename_i hs
 ·rw [if_pos hs];simp only [decide_eq_true_eq,decide_eq_false_iff_not]at*;omega
 rw [if_neg hs];simp only [decide_eq_true_eq,decide_eq_false_iff_not]at*;omega
theorem EX (side:Int) (o:aC):(mg side o).side=o.side∧(mg side o).ap=o.ap∧(mg side o).id=o.id∧(mg side o).aq=o.aq:=by unfold mg;split<;>exact⟨rfl,rfl,rfl,rfl⟩
theorem agC {L:List aC} {id side ap aq:Int} (hs:side=1∨side=2) (hq:1<=aq∧aq<=1000000) (hid:∀o∈L,o.id≠id) (hl:L.length<250):
 mT L id side ap aq=((if mS L side ap=true then L.map (mg side)else L).take (nU L side ap)++ [⟨id,side,ap,aq,mS L side ap⟩]++(if mS L side ap=true then L.map (mg side)else L).drop (nU L side ap),0):=by
 have hf:(L.find? (fun o=>o.id==id)).isSome=false:=by rw [Bool.eq_false_iff,ne_eq,List.find?_isSome];rintro⟨o,ho,he⟩;exact hid o ho (by simpa using he)
 unfold mT;rw [if_neg (by rw [agA hs];simp),if_neg bh,if_neg (by rw [hf];simp),if_neg bh]
theorem agD {L:List aC} {id side ap aq:Int} {o:aC} {k:Nat} {b:Bool} (ho:o∈(if b=true then L.map (mg side)else L).take k++ [⟨id,side,ap,aq,b⟩]++(if b=true then L.map (mg side)else L).drop k):o=⟨id,side,ap,aq,b⟩∨∃o'∈L,o=if b=true then mg side o' else o':=by
 have h1:o=⟨id,side,ap,aq,b⟩∨o∈(if b=true then L.map (mg side)else L):=by
  rcases List.mem_append.1 ho with h|h
  ·rcases List.mem_append.1 h with h|h
   ·exact .inr (List.mem_of_mem_take h)
   exact .inl (List.mem_singleton.1 h)
  exact .inr (List.mem_of_mem_drop h)
 rcases h1 with h|h
 ·exact .inl h
 refine .inr ?_;cases b with
 |true=>rw [if_pos rfl]at h;obtain⟨o',h2,h3⟩:=List.mem_map.1 h;exact⟨o',h2,by rw [if_pos rfl];exact h3.symm⟩
 |false=>rw [if_neg cU]at h;exact⟨o,h,by rw [if_neg cU]⟩
theorem Yd {L:List aC} {x:aC} {side:Int} {k:Nat} {b:Bool}:((if b=true then L.map (mg side)else L).take k++ [x]++(if b=true then L.map (mg side)else L).drop k).length=L.length+1:=by
 have hl:(if b=true then L.map (mg side)else L).length=L.length:=by
  split
  ·exact List.length_map _
  rfl
 rw [List.length_append,List.length_append,List.length_take,List.length_drop,hl];simp only [List.length_cons,List.length_nil];omega
theorem XC (L:List aC) (id aq:Int):(pF L id aq).1.length<=L.length:=by
 unfold pF;split
 ·exact Nat.le_refl _
 split
 ·exact Nat.le_refl _
 split
 ·exact List.length_filter_le ..
 simp
def Aa (x y:aC):Prop:=x.side<y.side∨(x.side=y.side∧cT x.side y.ap x.ap=false)
theorem agE {side ap:Int} {x y:aC} (h:Aa x y) (hx:mD side ap x=false):mD side ap y=false:=by
 unfold mD at*;simp only [Bool.or_eq_false_iff,decide_eq_false_iff_not,Bool.and_eq_false_iff,Bool.not_eq_false']at hx⊢;obtain⟨h1,h2⟩:=hx;rcases h with h3|⟨h3,h4⟩
 ·exact⟨bh,.inl bh⟩
 refine⟨bh,?_⟩;by_cases hc:y.side=side
 ·refine .inr ?_;rcases h2 with h2|h2
  ·omega
  rw [h3,hc]at h4;by_cases he:y.ap=x.ap
  ·rw [he];exact h2
  exact D1 h2 (Yc h4 he)
 exact .inl hc
theorem agF {L:List aC} (h:L.Pairwise Aa) (side ap:Int):(∀o∈L.take (nU L side ap),mD side ap o=true)∧∀o∈L.drop (nU L side ap),mD side ap o=false:=by
 have A:∀P D:List aC,P++D=L->L.take P.length=P∧L.drop P.length=D:=by rintro P D rfl;exact⟨List.take_left,List.drop_left⟩
 obtain⟨e1,e2⟩:=A _ _ (List.takeWhile_append_dropWhile (p:=mD side ap) (l:=L));unfold nU;rw [e1,e2];refine⟨fun o ho=>?_,fun o ho=>?_⟩
 ·have:=List.all_takeWhile (p:=mD side ap) (l:=L);rw [List.all_eq_true]at this;exact this o ho
 cases hd:L.dropWhile (mD side ap)with
 |nil=>rw [hd]at ho;simp at ho
 |cons y D=>
  have hy:mD side ap y=false:=by
   have h2:=List.head?_dropWhile_not (p:=mD side ap) (l:=L);rw [hd]at h2
   simpa using h2
  rw [hd]at ho;have hs:(y::D).Pairwise Aa:=by rw [<-hd];exact h.sublist (List.dropWhile_sublist _)
  rcases List.mem_cons.1 ho with rfl|h3
  ·exact hy
  exact agE ((List.pairwise_cons.1 hs).1 o h3) hy
structure j8 (L:List aC):Prop where
 len:L.length<=250
 nd:(L.map aC.id).Nodup
 each:∀o∈L,(1<=o.aq∧o.aq<=1000000)∧(o.side=1∨o.side=2)∧-2000000<=o.ap∧o.ap<=2000000
 oH:L.Pairwise Aa
theorem j8.nil:j8 []:=⟨b9,List.nodup_nil,fun o h=>by simp at h,List.Pairwise.nil⟩
theorem j8.aq {L:List aC} (h:j8 L):∀o∈L,1<=o.aq∧o.aq<=1000000:=fun o ho=>(h.each o ho).1
theorem agH {L:List aC} {id:Int} {o:aC} (h:L.find? (fun o=>o.id==id)=some o):o∈L∧o.id=id:=
 ⟨List.mem_of_find?_eq_some h,by simpa using List.find?_some h⟩
theorem j8.fill {L:List aC} (h:j8 L) (id aq:Int):j8 (pF L id aq).1:=by
 cases hf:L.find? (fun o=>o.id==id)with
 |none=>rw [Ya hf];exact h
 |some o=>
  rw [NC hf];obtain⟨ho,hid⟩:=agH hf;split
  ·exact h
  rename_i hq;split
  ·exact⟨Nat.le_trans (List.length_filter_le ..) h.len,h.nd.sublist ((List.filter_sublist ..).map _),fun x hx=>h.each x (List.mem_filter.1 hx).1,h.oH.sublist (List.filter_sublist ..)⟩
  rename_i hne;have hm:∀x∈L,x.id=id->x=o:=fun x hx he=>by obtain⟨i,hi,rfl⟩:=List.getElem_of_mem hx;obtain⟨j,hj,rfl⟩:=List.getElem_of_mem ho;have:i=j:=(List.getElem_inj (h₀:=by rw [List.length_map];exact hi) (h₁:=by rw [List.length_map];exact hj) h.nd).1 (by rw [List.getElem_map,List.getElem_map,he,hid]);subst this;rfl
  refine⟨by rw [List.length_map];exact h.len,?_,fun x hx=>?_,?_⟩
  ·dsimp only;rw [List.map_map,show((fun x:aC=>x.id)∘fun x=>if x.id=id then {x with aq:=x.aq-aq}else x)=aC.id from funext fun x=>by show(if x.id=id then {x with aq:=x.aq-aq}else x).id=x.id;split<;>rfl];exact h.nd
  ·obtain⟨y,hy,rfl⟩:=List.mem_map.1 hx;have he:=h.each y hy;split
   ·rename_i A;have B:=hm y hy A;subst B;dsimp only;exact⟨bh,he.2⟩
   exact he
  dsimp only;rw [List.pairwise_map];refine h.oH.imp fun {x y} hxy=>?_;unfold Aa at*;split<;>split<;>exact hxy
theorem j8.add {L:List aC} (h:j8 L) (id side ap aq:Int) (hp: -2000000<=ap∧ap<=2000000):j8 (mT L id side ap aq).1:=by
 cases hb:z8 side with
 |false=>unfold mT;rw [if_pos hb];exact h
 |true=>
  have hs:side=1∨side=2:=by unfold z8 at hb;simpa using hb
  by_cases hq:aq<1∨1000000<aq
  ·unfold mT;rw [if_neg (by rw [hb];simp),if_pos hq];exact h
  by_cases ht:(L.find? (fun o=>o.id==id)).isSome=true
  ·unfold mT;rw [if_neg (by rw [hb];simp),if_neg hq,if_pos ht];exact h
  by_cases hl:250<=L.length
  ·unfold mT;rw [if_neg (by rw [hb];simp),if_neg hq,if_neg ht,if_pos hl];exact h
  have hid:∀o∈L,o.id≠id:=fun o ho he=>ht (List.find?_isSome.2 ⟨o,ho,by simpa using he⟩);rw [agC hs bh hid bh];obtain⟨p1,p2⟩:=agF h.oH side ap;have C:∃f:aC->aC,(if mS L side ap=true then L.map (mg side)else L)=L.map f∧∀o,(f o).side=o.side∧(f o).ap=o.ap∧(f o).id=o.id∧(f o).aq=o.aq:=by
   split
   ·exact⟨mg side,rfl,fun o=>⟨(EX side o).1,(EX side o).2.1,(EX side o).2.2.1,(EX side o).2.2.2⟩⟩
   exact⟨fun o=>o,cU,fun o=>⟨rfl,rfl,rfl,rfl⟩⟩
  refine⟨?_,?_,?_,?_⟩
  ·rw [Yd];omega
  ·dsimp only;obtain⟨f,hf,hk⟩:=C;rw [hf,<-List.map_take,<-List.map_drop,List.map_append,List.map_append,List.map_map,List.map_map,show aC.id∘f=aC.id from funext fun o=>(hk o).2.2.1];have A:L.take (nU L side ap)++L.drop (nU L side ap)=L:=List.take_append_drop _ _;have hn:=h.nd;rw [<-A,List.map_append,List.nodup_append]at hn;rw [List.append_assoc,List.nodup_append];refine⟨hn.1,?_,?_⟩
   ·rw [List.nodup_append];refine⟨cU,hn.2.1,fun a ha b hb2=>?_⟩;simp only [List.map_cons,List.map_nil,List.mem_singleton]at ha;subst ha;obtain⟨o,ho,rfl⟩:=List.mem_map.1 hb2;exact fun e=>hid o (List.mem_of_mem_drop ho) e.symm
   intro a ha b hb2;rcases List.mem_append.1 hb2 with h3|h3
   ·simp only [List.map_cons,List.map_nil,List.mem_singleton]at h3;subst h3;obtain⟨o,ho,rfl⟩:=List.mem_map.1 ha;exact hid o (List.mem_of_mem_take ho)
   exact hn.2.2 a ha b h3
  ·intro o ho;rcases agD ho with rfl|⟨o',ho',rfl⟩
   ·exact⟨by dsimp only;omega,hs,hp⟩
   have:=h.each o' ho';split
   ·rw [(EX side o').1,(EX side o').2.1,(EX side o').2.2.2];exact this
   exact this
  dsimp only;obtain⟨f,hf,hk⟩:=C;rw [hf,<-List.map_take,<-List.map_drop];have A:L.take (nU L side ap)++L.drop (nU L side ap)=L:=List.take_append_drop _ _;have hp:=h.oH;rw [<-A,List.pairwise_append]at hp;have B:∀x y,Aa x y->Aa (f x) (f y):=fun x y hxy=>by unfold Aa;rw [(hk x).1,(hk x).2.1,(hk y).1,(hk y).2.1];exact hxy
  rw [List.append_assoc,List.pairwise_append,List.pairwise_append,List.pairwise_map,List.pairwise_map];refine⟨hp.1.imp (fun h=>B _ _ h),⟨List.pairwise_singleton _ _,hp.2.1.imp (fun h=>B _ _ h),?_⟩,?_⟩
  ·intro x hx y hy;rw [List.mem_singleton]at hx;subst hx;obtain⟨y0,hy0,rfl⟩:=List.mem_map.1 hy;have:=p2 y0 hy0;unfold mD at this;simp only [Bool.or_eq_false_iff,decide_eq_false_iff_not,Bool.and_eq_false_iff,Bool.not_eq_false']at this;unfold Aa;rw [(hk y0).1,(hk y0).2.1];dsimp only;by_cases hc:y0.side=side
   ·rcases this.2 with h4|h4
    ·exact absurd hc h4
    exact .inr ⟨hc.symm,agB h4⟩
   exact .inl bh
  intro x hx y hy;obtain⟨x0,hx0,rfl⟩:=List.mem_map.1 hx;rcases List.mem_append.1 hy with h1|h1
  ·rw [List.mem_singleton]at h1;subst h1;have:=p1 x0 hx0;unfold mD at this;simp only [Bool.or_eq_true,decide_eq_true_eq,Bool.and_eq_true,Bool.not_eq_true']at this;unfold Aa;rw [(hk x0).1,(hk x0).2.1];dsimp only;rcases this with h4|⟨h4,h5⟩
   ·exact .inl h4
   exact .inr ⟨h4,by rw [h4];exact h5⟩
  obtain⟨y0,hy0,rfl⟩:=List.mem_map.1 h1;exact B _ _ (hp.2.2 x0 hx0 y0 hy0)
theorem j8.Xy {L:List aC} (id side ap aq:Int):(mT L id side ap aq).1.length<=L.length+1:=by
 unfold mT;split
 ·exact Nat.le_succ _
 split
 ·exact Nat.le_succ _
 split
 ·exact Nat.le_succ _
 split
 ·exact Nat.le_succ _
 rw [Yd];exact Nat.le_refl _
theorem Rb (o:aC) (x:aB) (t:List aB):pN o (x::t)=if x.ap=o.ap then⟨o.ap,o.aq+x.aq,1+x.count⟩::t else⟨o.ap,o.aq,1⟩::x::t:=rfl
theorem agJ {o:aC} {M:List aB} {l:aB} (h:l∈pN o M):l.ap=o.ap∨l∈M:=by
 cases M with
 |nil=>simp only [pN,List.mem_singleton]at h;subst h;exact .inl rfl
 |cons x t=>
  rw [Rb]at h;split at h
  ·rcases List.mem_cons.1 h with rfl|h2
   ·exact .inl rfl
   exact .inr (List.mem_cons_of_mem _ h2)
  rcases List.mem_cons.1 h with rfl|h2
  ·exact .inl rfl
  exact .inr h2
theorem Rc:∀{M:List aC} {l:aB},l∈jB M->∃o∈M,l.ap=o.ap
 | [],l,h=>by simp [jB]at h
 |o::t,l,h=>by
  rcases agJ (M:=jB t) h with h1|h1
  ·exact⟨o,List.mem_cons_self ..,h1⟩
  obtain⟨o',h2,h3⟩:=Rc h1;exact⟨o',List.mem_cons_of_mem _ h2,h3⟩
theorem Ye:∀{M:List aC},(∀o∈M,1<=o.aq)->∀l∈jB M,1<=l.aq∧1<=l.count
 | [],_,l,h=>by simp [jB]at h
 |o::t,hq,l,h=>by
  have ih:=Ye (M:=t) fun x hx=>hq x (List.mem_cons_of_mem _ hx);have ho:=hq o (List.mem_cons_self ..);have h:l∈pN o (jB t):=h;cases hg:jB t with
  |nil=>rw [hg]at h;simp only [pN,List.mem_singleton]at h;subst h;exact⟨ho,by dsimp only;omega⟩
  |cons x u=>
   rw [hg]at h ih;have hx:=ih x (List.mem_cons_self ..);rw [Rb]at h;split at h
   ·rcases List.mem_cons.1 h with rfl|h2
    ·dsimp only;omega
    exact ih l (List.mem_cons_of_mem _ h2)
   rcases List.mem_cons.1 h with rfl|h2
   ·dsimp only;omega
   exact ih l h2
theorem Yf {s:Int}:∀{M:List aC},M.Pairwise (fun x y=>cT s y.ap x.ap=false)->kF s (jB M)
 | [],_=>List.Pairwise.nil
 |o::t,h=>by
  obtain⟨h1,h2⟩:=List.pairwise_cons.1 h;have ih:=Yf h2;show kF s (pN o (jB t));cases hg:jB t with
  |nil=>exact List.pairwise_singleton _ _
  |cons x u=>
   rw [hg]at ih;obtain⟨g1,g2⟩:=List.pairwise_cons.1 ih;rw [Rb];split
   ·rename_i he;refine List.pairwise_cons.2 ⟨fun y hy=>?_,g2⟩;dsimp only;rw [<-he];exact g1 y hy
   rename_i he;obtain⟨o',ho',hp⟩:=Rc (M:=t) (l:=x) (by rw [hg];exact List.mem_cons_self ..);have hb:cT s o.ap x.ap=true:=by have:=h1 o' ho';rw [<-hp]at this;exact Yc this he
   refine List.pairwise_cons.2 ⟨fun y hy=>?_,ih⟩;rcases List.mem_cons.1 hy with rfl|h3
   ·exact hb
   exact D1 hb (g1 y h3)
theorem j8.XV {L:List aC} (h:j8 L) (s:Int):kF s (k6 L s):=by
 unfold k6;refine Yf ?_;unfold q5;rw [List.pairwise_filter];refine h.oH.imp fun {x y} hxy hx hy=>?_;simp only [decide_eq_true_eq]at hx hy;rcases hxy with h1|⟨_,h2⟩
 ·omega
 rw [hx]at h2;exact h2
theorem j8.XJ {L:List aC} (h:j8 L) (s:Int):∀l∈k6 L s,1<=l.aq∧1<=l.count:=
 Ye fun o ho=>(h.each o (List.mem_filter.1 ho).1).1.1
theorem j8.XL {L:List aC} (h:j8 L) (s:Int):∀l∈k6 L s,-2000000<=l.ap∧l.ap<=2000000:=fun l hl=>by obtain⟨o,ho,he⟩:=Rc hl;rw [he];exact(h.each o (List.mem_filter.1 ho).1).2.2
theorem Rd (L:List aC) (s:Int):((jS L s)=(jD,false))∨∃l∈k6 L s,jS L s=(l,true):=by
 unfold jS;cases h:k6 L s with
 |nil=>exact .inl rfl
 |cons l t=>exact .inr ⟨l,List.mem_cons_self ..,rfl⟩
end Go.Proofs.YtmaijkoopjocdaaGreat
