import Derived.BigRegion
import Derived.Outline
import Derived.Test.YtmaijkoopjocdaaGreatKW01
import Derived.Maps.AppendAt
import Derived.Laws.AppendOwnNone
import Derived.Shelf.Spec.SlicesInsert
import Derived.Lib.AppendZerosOnto
import Derived.Laws.CopyRow
import Derived.Deep.RegionLaw
import Derived.Deep.DeepCutAuto
import Derived.Lib.EndianZ
import Derived.Lib.EndianBits
import Derived.OrdersHeld
import Derived.StillTail
import Derived.RegionTactic
import Derived.Deep.RegionHeld3
import Derived.Lib.SliceRun
set_option maxRecDepth 100000
set_option maxHeartbeats 64000000
namespace Go.Proofs.YtmaijkoopjocdaaGreat
open Go.RowKit Go.Lib
section
variable {α β:Type} (c:α->List β) (m:Nat)
theorem mK (hc:∀x,(c x).length=m) (S:List α):(S.flatMap c).length=S.length*m:=by
 induction S with
 |nil=>simp
 |cons x S ih=>rw [List.flatMap_cons,List.length_append,hc,ih,List.length_cons,Nat.succ_mul];omega
theorem NA (hc:∀x,(c x).length=m):∀(S:List α) (i k:Nat) (hi:i<S.length),k<m->(S.flatMap c)[i*m+k]? =(c (S[i]'hi))[k]? :=by
 intro S;induction S with
 |nil=>intro i k hi;exact absurd hi cU
 |cons x S ih=>
  intro i k hi hk;rw [List.flatMap_cons];cases i with
  |zero=>rw [Nat.zero_mul,Nat.zero_add,List.getElem?_append_left (by rw [hc];exact hk)];rfl
  |succ i=>rw [Nat.succ_mul,List.getElem?_append_right (by rw [hc];omega),hc,show i*m+m+k-m=i*m+k by omega];exact ih i k (by simpa using hi) hk
theorem agm (hc:∀x,(c x).length=m) (v:β) (y:α):∀(S:List α) (i k:Nat) (hi:i<S.length),k<m->c y=(c (S[i]'hi)).set k v->(S.flatMap c).set (i*m+k) v=(S.set i y).flatMap c:=by
 intro S;induction S with
 |nil=>intro i k hi;exact absurd hi cU
 |cons x S ih=>
  intro i k hi hk hy;cases i with
  |zero=>rw [Nat.zero_mul,Nat.zero_add,List.flatMap_cons,List.set_append_left _ _ (by rw [hc];exact hk)];show _=(y::S).flatMap c;rw [List.flatMap_cons,hy];rfl
  |succ i=>rw [Nat.succ_mul,List.flatMap_cons,List.set_append_right _ _ (by rw [hc];omega),hc,show i*m+m+k-m=i*m+k by omega];show _=(x::S.set i y).flatMap c;rw [List.flatMap_cons,ih i k (by simpa using hi) hk hy]
end
def av (w:World) (g:Nat) (t:TypeId) (cs:Array Value):Prop:=w.heap[g]? =some (.cells cs t (0,0))
section
variable {w w':World} {g:Nat} {t:TypeId} {cs:Array Value}
theorem av.lt (h:av w g t cs):g<w.heap.size:=by
 rcases Nat.lt_or_ge g ↑w with hlt|hge
 ·exact hlt
 unfold av at h;rw [Array.getElem?_eq_none hge]at h;cases h
theorem av.cell (h:av w g t cs) (i:Nat):w.cell? ↑(g,i)=cs[i]? :=cell_of_row w g i cs t (0,0) h
theorem av.GC {a0:Value} {l:List Value} (h:av w g t (a0::l).toArray):w.cell? ⟨g,0,none⟩=some a0:=h.cell 0
theorem av.GD {a0 a1:Value} {l:List Value} (h:av w g t (a0::a1::l).toArray):w.cell? ⟨g,1,none⟩=some a1:=h.cell 1
theorem av.Je {a0 a1 a2:Value} {l:List Value} (h:av w g t (a0::a1::a2::l).toArray):w.cell? ⟨g,2,none⟩=some a2:=h.cell 2
theorem av.Jf {a0 a1 a2 a3:Value} {l:List Value} (h:av w g t (a0::a1::a2::a3::l).toArray):w.cell? ⟨g,3,none⟩=some a3:=h.cell 3
theorem av.Jg {a0 a1 a2 a3 a4:Value} {l:List Value} (h:av w g t (a0::a1::a2::a3::a4::l).toArray):w.cell? ⟨g,4,none⟩=some a4:=h.cell 4
theorem av.Jh {a0 a1 a2 a3 a4 a5:Value} {l:List Value} (h:av w g t (a0::a1::a2::a3::a4::a5::l).toArray):w.cell? ⟨g,5,none⟩=some a5:=h.cell 5
theorem av.Ji {a0 a1 a2 a3 a4 a5 a6:Value} {l:List Value} (h:av w g t (a0::a1::a2::a3::a4::a5::a6::l).toArray):w.cell? ⟨g,6,none⟩=some a6:=h.cell 6
theorem av.My {a0 a1 a2 a3 a4 a5 a6 a7:Value} {l:List Value} (h:av w g t (a0::a1::a2::a3::a4::a5::a6::a7::l).toArray):w.cell? ⟨g,7,none⟩=some a7:=h.cell 7
theorem av.MH {a0 a1 a2 a3 a4 a5 a6 a7 a8:Value} {l:List Value} (h:av w g t (a0::a1::a2::a3::a4::a5::a6::a7::a8::l).toArray):w.cell? ⟨g,8,none⟩=some a8:=h.cell 8
theorem av.MI {a0 a1 a2 a3 a4 a5 a6 a7 a8 a9:Value} {l:List Value} (h:av w g t (a0::a1::a2::a3::a4::a5::a6::a7::a8::a9::l).toArray):w.cell? ⟨g,9,none⟩=some a9:=h.cell 9
theorem av.MJ {a0 a1 a2 a3 a4 a5 a6 a7 a8 a9 a10:Value} {l:List Value} (h:av w g t (a0::a1::a2::a3::a4::a5::a6::a7::a8::a9::a10::l).toArray):w.cell? ⟨g,10,none⟩=some a10:=h.cell 10
theorem av.MK {a0 a1 a2 a3 a4 a5 a6 a7 a8 a9 a10 a11:Value} {l:List Value} (h:av w g t (a0::a1::a2::a3::a4::a5::a6::a7::a8::a9::a10::a11::l).toArray):w.cell? ⟨g,11,none⟩=some a11:=h.cell 11
theorem av.PS {a0 a1 a2 a3 a4 a5 a6 a7 a8 a9 a10 a11 a12:Value} {l:List Value} (h:av w g t (a0::a1::a2::a3::a4::a5::a6::a7::a8::a9::a10::a11::a12::l).toArray):w.cell? ⟨g,12,none⟩=some a12:=h.cell 12
theorem av.gQ {x0 x1 A:Value} {l:List Value} (h:av w g t (x0::x1::A::l).toArray):w.cell? ↑g=some x0∧w.cell? ↑(g,1)=some x1∧w.cell? ↑(g,2)=some A:=⟨h.cell 0,h.cell 1,h.cell 2⟩
theorem av.yF {x0 x1 A B:Value} {l:List Value} (h:av w g t (x0::x1::A::B::l).toArray):w.cell? ↑g=some x0∧w.cell? ↑(g,1)=some x1∧w.cell? ↑(g,2)=some A∧w.cell? ↑(g,3)=some B:=⟨h.cell 0,h.cell 1,h.cell 2,h.cell 3⟩
theorem av.gP {x0 x1 A B C:Value} {l:List Value} (h:av w g t (x0::x1::A::B::C::l).toArray):w.cell? ↑g=some x0∧w.cell? ↑(g,1)=some x1∧w.cell? ↑(g,2)=some A∧w.cell? ↑(g,3)=some B∧w.cell? ↑(g,4)=some C:=⟨h.cell 0,h.cell 1,h.cell 2,h.cell 3,h.cell 4⟩
theorem av.amy {x0 x1 A B C D:Value} {l:List Value} (h:av w g t (x0::x1::A::B::C::D::l).toArray):w.cell? ↑g=some x0∧w.cell? ↑(g,1)=some x1∧w.cell? ↑(g,2)=some A∧w.cell? ↑(g,3)=some B∧w.cell? ↑(g,4)=some C∧w.cell? ↑(g,5)=some D:=⟨h.cell 0,h.cell 1,h.cell 2,h.cell 3,h.cell 4,h.cell 5⟩
theorem av.e4 {x0 x1 A B C D E:Value} {l:List Value} (h:av w g t (x0::x1::A::B::C::D::E::l).toArray):w.cell? ↑g=some x0∧w.cell? ↑(g,1)=some x1∧w.cell? ↑(g,2)=some A∧w.cell? ↑(g,3)=some B∧w.cell? ↑(g,4)=some C∧w.cell? ↑(g,5)=some D∧w.cell? ↑(g,6)=some E:=⟨h.cell 0,h.cell 1,h.cell 2,h.cell 3,h.cell 4,h.cell 5,h.cell 6⟩
theorem av.IR {x0 x1 A B C D F E:Value} {l:List Value} (h:av w g t (x0::x1::A::B::C::D::F::E::l).toArray):w.cell? ↑g=some x0∧w.cell? ↑(g,1)=some x1∧w.cell? ↑(g,2)=some A∧w.cell? ↑(g,3)=some B∧w.cell? ↑(g,4)=some C∧w.cell? ↑(g,5)=some D∧w.cell? ↑(g,6)=some F∧w.cell? ↑(g,7)=some E:=⟨h.cell 0,h.cell 1,h.cell 2,h.cell 3,h.cell 4,h.cell 5,h.cell 6,h.cell 7⟩
theorem av.uO {x0 x1 A B C D F E G:Value} {l:List Value} (h:av w g t (x0::x1::A::B::C::D::F::E::G::l).toArray):w.cell? ↑g=some x0∧w.cell? ↑(g,1)=some x1∧w.cell? ↑(g,2)=some A∧w.cell? ↑(g,3)=some B∧w.cell? ↑(g,4)=some C∧w.cell? ↑(g,5)=some D∧w.cell? ↑(g,6)=some F∧w.cell? ↑(g,7)=some E∧w.cell? ↑(g,8)=some G:=⟨h.cell 0,h.cell 1,h.cell 2,h.cell 3,h.cell 4,h.cell 5,h.cell 6,h.cell 7,h.cell 8⟩
theorem av.vg {x0 x1 A B C D F E G H:Value} {l:List Value} (h:av w g t (x0::x1::A::B::C::D::F::E::G::H::l).toArray):w.cell? ↑g=some x0∧w.cell? ↑(g,1)=some x1∧w.cell? ↑(g,2)=some A∧w.cell? ↑(g,3)=some B∧w.cell? ↑(g,4)=some C∧w.cell? ↑(g,5)=some D∧w.cell? ↑(g,6)=some F∧w.cell? ↑(g,7)=some E∧w.cell? ↑(g,8)=some G∧w.cell? ↑(g,9)=some H:=⟨h.cell 0,h.cell 1,h.cell 2,h.cell 3,h.cell 4,h.cell 5,h.cell 6,h.cell 7,h.cell 8,h.cell 9⟩
theorem av.rT {x0 x1 B C D E G F H I A:Value} {l:List Value} (h:av w g t (x0::x1::B::C::D::E::G::F::H::I::A::l).toArray):w.cell? ↑g=some x0∧w.cell? ↑(g,1)=some x1∧w.cell? ↑(g,2)=some B∧w.cell? ↑(g,3)=some C∧w.cell? ↑(g,4)=some D∧w.cell? ↑(g,5)=some E∧w.cell? ↑(g,6)=some G∧w.cell? ↑(g,7)=some F∧w.cell? ↑(g,8)=some H∧w.cell? ↑(g,9)=some I∧w.cell? ↑(g,10)=some A:=⟨h.cell 0,h.cell 1,h.cell 2,h.cell 3,h.cell 4,h.cell 5,h.cell 6,h.cell 7,h.cell 8,h.cell 9,h.cell 10⟩
theorem av.frozen (h:av w g t cs) (i:Nat):w.frozen? ↑(g,i)=false:=by unfold av at h;simp [World.frozen?,h]
theorem av.new (w:World) (t:TypeId) (cs:Array Value):av (w.alloc (.cells cs t)) ↑w t cs:=heap_alloc_new w _
theorem av.drew (h:av w g t cs):av w.drew g t cs:=h
theorem av.drewN (h:av w g t cs) (n:Nat):av (w.drewN n) g t cs:=h
theorem av.alloc (h:av w g t cs) (o:Obj):av (w.alloc o) g t cs:=(Below.heap_alloc w o g h.lt).trans h
theorem av.aW (h:av w g t cs) (i:Nat) (u:Value):av (w.setCell ↑(g,i) u) g t (cs.setIfInBounds i u):=by unfold av at h⊢;simp [World.setCell,Array.getElem?_modify,h]
theorem av.cC (h:av w g t cs) {p:Addr} (hp:g≠p.block) (u:Value):av (w.setCell p u) g t cs:=(Below.heap_setCell w p u g hp).trans h
end
structure aK (F:Nat->Prop) (w w':World):Prop where
 os:w'.os=w.os
 tape:w'.tape=w.tape
 output:w'.output=w.output
 size:w.heap.size<=w'.heap.size
 block:∀k,k<w.heap.size->¬F k->w'.heap[k]? =w.heap[k]?
section
variable {F G:Nat->Prop} {w w1 w2:World}
theorem aK.refl (F:Nat->Prop) (w:World):aK F w w:=⟨rfl,rfl,rfl,Nat.le_refl _,fun _ _ _=>rfl⟩
theorem aK.trans (h:aK F w w1) (k:aK F w1 w2):aK F w w2:=
 ⟨k.os.trans h.os,k.tape.trans h.tape,k.output.trans h.output,Nat.le_trans h.size k.size,fun i hi hf=>(k.block i (Nat.lt_of_lt_of_le hi h.size) hf).trans (h.block i hi hf)⟩
theorem aK.more (h:aK F w w1) (A:∀k,F k->G k):aK G w w1:=⟨h.os,h.tape,h.output,h.size,fun k hk hg=>h.block k hk fun hf=>hg (A k hf)⟩
theorem aK.step (h:aK F w w1) (k:aK G w1 w2) (hG:∀i,i<w.heap.size->G i->F i):aK F w w2:=
 ⟨k.os.trans h.os,k.tape.trans h.tape,k.output.trans h.output,Nat.le_trans h.size k.size,fun i hi hf=>(k.block i (Nat.lt_of_lt_of_le hi h.size) fun hg=>hf (hG i hi hg)).trans (h.block i hi hf)⟩
theorem aK.drew (h:aK F w w1):aK F w w1.drew:=⟨h.os,h.tape,h.output,h.size,h.block⟩
theorem aK.drewN (h:aK F w w1) (n:Nat):aK F w (w1.drewN n):=⟨h.os,h.tape,h.output,h.size,h.block⟩
theorem aK.alloc (h:aK F w w1) (o:Obj):aK F w (w1.alloc o):=
 ⟨h.os,h.tape,h.output,by have:=h.size;simp;omega,fun k hk hf=>(Below.heap_alloc w1 o k (Nat.lt_of_lt_of_le hk h.size)).trans (h.block k hk hf)⟩
theorem aK.setCell (h:aK F w w1) {p:Addr} (hp:p.block<w.heap.size->F p.block) (u:Value):aK F w (w1.setCell p u):=
 ⟨h.os,h.tape,h.output,by have:=h.size;simp [World.setCell];omega,fun k hk hf=>(Below.heap_setCell w1 p u k fun e=>hf (by rw [e];exact hp (by rw [<-e];exact hk))).trans (h.block k hk hf)⟩
theorem aK.below {B:Nat} (h:aK F w w1) (hF:∀k,F k->B<=k) (hB:B<=w.heap.size):Below B w w1:=
 ⟨h.os,h.tape,h.output,h.size,fun k hk=>h.block k (Nat.lt_of_lt_of_le hk hB) fun hf=>by have:=hF k hf;omega⟩
theorem Below.keeps (h:Below ↑w w w1):aK F w w1:=⟨h.os,h.tape,h.output,h.size,fun k hk _=>h.block k hk⟩
theorem av.keeps {g:Nat} {t:TypeId} {cs:Array Value} (h:av w g t cs) (hk:aK F w w1) (hg:¬F g):av w1 g t cs:=(hk.block g h.lt hg).trans h
end
theorem agY {w:World} {B:Nat} {t:TypeId} {size n:Nat} {v:Value} {xs:List Value} (h:w.ownsRow B t size v n xs):∃a c,v= .slice a n c:=by
 rcases h.2 with⟨rfl,h0⟩|⟨g,cap,cur,rfl,_⟩
 ·exact⟨none,0,by rw [h0]⟩
 exact⟨_,_,rfl⟩
theorem cS {w:World} {B:Nat} {t:TypeId} {size n:Nat} {v:Value} {xs:List Value} (h:w.ownsRow B t size v n xs):∀g,v.ownBlock=some g->B<=g:=by
 intro g hg;rcases h.2 with⟨rfl,h0⟩|⟨g',cap,cur,rfl,hb,_⟩
 ·cases hg
 have:g'=g:=by simpa [Value.ownBlock]using hg
 omega
theorem ki {w:World} {B:Nat} {t:TypeId} {size n:Nat} {v:Value} {xs:List Value} (h:w.ownsRow B t size v n xs):∀g,v.ownBlock=some g->g<w.heap.size:=by
 intro g hg;rcases h.2 with⟨rfl,h0⟩|⟨g',cap,cur,rfl,hb,hh,_⟩
 ·cases hg
 have:g'=g:=by simpa [Value.ownBlock]using hg
 subst this;rcases Nat.lt_or_ge g' ↑w with hlt|hge
 ·exact hlt
 rw [Array.getElem?_eq_none hge]at hh;cases hh
theorem zv {w w':World} {B:Nat} {t:TypeId} {size n:Nat} {v:Value} {xs:List Value} {F:Nat->Prop} (h:w.ownsRow B t size v n xs) (hk:aK F w w') (hf:∀g,v.ownBlock=some g->¬F g):w'.ownsRow B t size v n xs:=by
 have hl:=ki h;refine⟨h.1,?_⟩;rcases h.2 with h2|⟨g,cap,cur,hv,hb,hh,r⟩
 ·exact .inl h2
 have hg:v.ownBlock=some g:=by rw [hv];rfl
 exact .inr ⟨g,cap,cur,hv,hb,(hk.block g (hl g hg) (hf g hg)).trans hh,r⟩
theorem Nf {w w':World} {B:Nat} {t:TypeId} {size n:Nat} {v:Value} {xs:List Value} (h:w.ownsRow B t size v n xs) (hb:Below ↑w w w'):w'.ownsRow B t size v n xs:=
 zv h (Below.keeps (F:=fun _=>False) hb) fun _ _ x=>x
theorem fK {w w':World} {r:Option Nat} (h:w.grownBy w' r):aK (fun g=>r=some g) w w':=
 ⟨h.os,h.tape,h.output,h.size,fun k hk hf=>h.block k hk fun e=>hf e.symm⟩
theorem iJ {w0 w w':World} {r:Option Nat} (h:w.grownBy w' r) (hb:Below ↑w0 w0 w) (hr:∀g,r=some g->w0.heap.size<=g):Below ↑w0 w0 w':=
 ⟨h.os.trans hb.os,h.tape.trans hb.tape,h.output.trans hb.output,Nat.le_trans hb.size h.size,fun k hk=>(h.block k (Nat.lt_of_lt_of_le hk hb.size) (fun e=>by have:=hr k e.symm;omega)).trans (hb.block k hk)⟩
def ck (w:World) (g:Nat) (t:TypeId):Prop:=∃cs,w.heap[g]? =some (.cells cs t (0,0))
theorem ck.ne {w:World} {g g':Nat} {t t':TypeId} (h:ck w g t) (h':ck w g' t') (hne:t≠t'):g≠g':=by rintro rfl;obtain⟨cs,h⟩:=h;obtain⟨cs',h'⟩:=h';rw [h]at h';injection h' with h';injection h' with _ h';exact hne h'
theorem eo {w:World} {B:Nat} {t:TypeId} {size n:Nat} {v:Value} {xs:List Value} (h:w.ownsRow B t size v n xs):∀g,v.ownBlock=some g->ck w g t:=by
 intro g hg;rcases h.2 with⟨rfl,h0⟩|⟨g',cap,cur,rfl,hb,hh,_⟩
 ·cases hg
 have:g'=g:=by simpa [Value.ownBlock]using hg
 subst this;exact⟨_,hh⟩
theorem av.aE {w:World} {g:Nat} {t:TypeId} {cs:Array Value} (h:av w g t cs):ck w g t:=⟨_,h⟩
theorem Yl {A:Option Addr} {n c g:Nat} {w:World} {B:Nat} {t:TypeId} {size m:Nat} {xs:List Value} (h:w.ownsRow B t size (.slice A n c) m xs) (hg:(Value.slice A n c).ownBlock=some g):A=some ⟨g,0,none⟩:=by
 rcases h.2 with⟨hv,_⟩|⟨g',cap',_,hv,_⟩
 ·rw [hv]at hg;cases hg
 rw [hv]at hg;have e:g'=g:=by simpa [Value.ownBlock]using hg
 injection hv with e1;rw [e1,e]
theorem vE (b off m:Nat):(⟨b,off,none⟩:Addr).add m=⟨b,off+m,none⟩:=by
 unfold Addr.add;split
 ·rename_i h;rw [h,Nat.add_zero]
 rfl
def q2 (w:World) (B:Nat) (t:TypeId) (v:Value) (L:List Int):Prop:=w.ownsRow B t 1 v L.length (L.map (Value.int .i64))
theorem q2.ints {w:World} {B:Nat} {t:TypeId} {a:Option Addr} {m c:Nat} {L:List Int} (h:q2 w B t (.slice a m c) L) (hok:∀x∈L,cz x):rS w a L:=by
 intro j x hj;have hjl:=dM hj;refine⟨hok x (List.mem_of_getElem? hj),?_⟩;have hl:=ki h;rcases h.2 with⟨hv,h0⟩|⟨g,cap,cur,hv,hb,hh,r⟩
 ·omega
 injection hv with hv1 A C;subst hv1;subst A;refine⟨g,0,rfl,hl g rfl,?_⟩;have:=World.ownsRow.cellAt h j bh;rw [Nat.zero_add,this,List.getElem?_map,hj];rfl
theorem JW {w A:World} {o:Obj} {B:Nat} {t:TypeId} {size n:Nat} {v:Value} {xs:List Value} (hown:w.ownsRow B t size v n xs) (hg:(w.alloc o).grownBy A v.ownBlock) {g:Nat} {t':TypeId} {cs:Array Value} (hb:av w g t' cs) (hne:t'≠t):av A g t' cs:=
 (hb.alloc o).keeps (fK hg) fun h=>hb.aE.ne (eo hown g h) hne rfl
theorem W0 {w A:World} {o:Obj} {B:Nat} {t:TypeId} {size n:Nat} {v:Value} {xs:List Value} (hown:w.ownsRow B t size v n xs) (hg:(w.alloc o).grownBy A v.ownBlock) {B':Nat} {t':TypeId} {size' n':Nat} {v':Value} {xs':List Value} (h:w.ownsRow B' t' size' v' n' xs') (hne:t'≠t):A.ownsRow B' t' size' v' n' xs':=
 zv (Nf h (Below.aI w o)) (fK hg) fun g h1 h2=>(eo h g h1).ne (eo hown g h2) hne rfl
theorem QA {W w A:World} {o:Obj} {t:TypeId} {size n:Nat} {v:Value} {xs:List Value} (hown:w.ownsRow ↑W t size v n xs) (hg:(w.alloc o).grownBy A v.ownBlock) (hb:Below ↑W W w):Below ↑W W A:=
 iJ hg (hb.alloc hb.size o) (cS hown)
theorem JY {w:World} {B:Nat} {t:TypeId} {size n:Nat} {v:Value} {xs:List Value} (h:w.ownsRow B t size v n xs) {g:Nat} {t':TypeId} {cs:Array Value} (hb:av w g t' cs) (hne:t≠t') (i:Nat) (u:Value):(w.setCell ↑(g,i) u).ownsRow B t size v n xs:=
 zv h ((aK.refl (fun k=>k=g) w).setCell (p:=⟨g,i,none⟩) (fun _=>rfl) u) fun k hk e=>(eo h k hk).ne hb.aE hne e
theorem agZ:(Tryz.prog.info? 3).map (fun i=>(i.zero,i.size,i.bytes))=some (some ↑(),1,8):=eP
theorem ag0:(Tryz.prog.info? 2).map (fun i=>(i.zero,i.size,i.bytes))=some (some ↑(),1,8):=eP
theorem afs {w:World} {ops:Array Oper} {rest:List Oper} {o:Oper} {a:Act} {Q:Exit->Act->World->Prop} (hgd:o.guard=none) (s x:Operand)
 (ho:o.op= .call {callee:= .builtin .append,args:=#[s,x],argTypes:=#[22,22]})
 (B:Nat) (a0:Option Addr) (c0 n:Nat) (L:List Int) (hn:L.length=n) (hs:a.eval s= .slice a0 n c0) (hown:q2 w B 3 (.slice a0 n c0) L)
 (g:Nat) (y:Int) (hx:a.eval x= .slice ↑g 1 1) (hc:w.cell? ↑g=↑y) (hle:n<=1000000) (hB:B<=w.heap.size)
 (h:∀g' cap w',q2 w' B 3 (.slice (some ⟨g',0,none⟩) (n+1) cap) (L++ [y])->w.grownBy w' (Value.slice a0 n c0).ownBlock->(a0=some ⟨g',0,none⟩∨g'=w.heap.size)->wpList Tryz.prog ops Q rest (a.put o.dst (.slice (some ⟨g',0,none⟩) (n+1) cap)) w'):wpList Tryz.prog ops Q (o::rest) a w:=by
 subst hn;obtain⟨i0,hi,A,hz1,C⟩:=info_parts agZ;refine wpList_append_own_at w hgd s x 22 ho B 3 i0 _ 1 8 Tryz.underlying22 hi A hz1 C rfl bh (.slice a0 L.length c0) L.length (L.map (Value.int .i64)) hs hown ⟨g,0,none⟩ 1 1 [↑y] hx rfl ?_ ?_ (by unfold maxLen;omega) bh hB ?_
 ·intro j u hj;have hj0:j=0:=by have:=dM hj;simp at this;exact this
  subst hj0;simp at hj;subst hj;rw [vE];exact hc
 ·intro u hu;simp at hu;subst hu;rfl
 intro v' w' h1 h2 h3 h4;obtain⟨g',cap,hv⟩:∃g' cap,v'= .slice (some ⟨g',0,none⟩) (L.length+1) cap:=by
  rcases h1.2 with⟨_,h0⟩|⟨g',cap,_,hv,_⟩
  ·omega
  exact⟨g',cap,hv⟩
 subst hv;refine h g' cap w' ?_ h2 ?_
 ·unfold q2;rw [List.length_append,List.map_append];exact h1
 rcases h4 with h4|h4
 ·exact .inl (Yl hown h4.symm)
 have h6:some g'=some w.heap.size:=h4;injection h6 with h6;exact .inr h6
theorem afw {w:World} {ops:Array Oper} {rest:List Oper} {o:Oper} {a:Act} {Q:Exit->Act->World->Prop} (hgd:o.guard=none) (s x:Operand)
 (ho:o.op= .call {callee:= .builtin .append,args:=#[s,x],argTypes:=#[23,23]})
 (B:Nat) (a0:Option Addr) (c0 n:Nat) (L:List Int) (hn:L.length=n) (hs:a.eval s= .slice a0 n c0) (hown:q2 w B 2 (.slice a0 n c0) L)
 (g:Nat) (y:Int) (hx:a.eval x= .slice ↑g 1 1) (hc:w.cell? ↑g=↑y) (hle:n<=1000000) (hB:B<=w.heap.size)
 (h:∀g' cap w',q2 w' B 2 (.slice (some ⟨g',0,none⟩) (n+1) cap) (L++ [y])->w.grownBy w' (Value.slice a0 n c0).ownBlock->(a0=some ⟨g',0,none⟩∨g'=w.heap.size)->wpList Tryz.prog ops Q rest (a.put o.dst (.slice (some ⟨g',0,none⟩) (n+1) cap)) w'):wpList Tryz.prog ops Q (o::rest) a w:=by
 subst hn;obtain⟨i0,hi,A,hz1,C⟩:=info_parts ag0;refine wpList_append_own_at w hgd s x 23 ho B 2 i0 _ 1 8 Tryz.underlying23 hi A hz1 C rfl bh (.slice a0 L.length c0) L.length (L.map (Value.int .i64)) hs hown ⟨g,0,none⟩ 1 1 [↑y] hx rfl ?_ ?_ (by unfold maxLen;omega) bh hB ?_
 ·intro j u hj;have hj0:j=0:=by have:=dM hj;simp at this;exact this
  subst hj0;simp at hj;subst hj;rw [vE];exact hc
 ·intro u hu;simp at hu;subst hu;rfl
 intro v' w' h1 h2 h3 h4;obtain⟨g',cap,hv⟩:∃g' cap,v'= .slice (some ⟨g',0,none⟩) (L.length+1) cap:=by
  rcases h1.2 with⟨_,h0⟩|⟨g',cap,_,hv,_⟩
  ·omega
  exact⟨g',cap,hv⟩
 subst hv;refine h g' cap w' ?_ h2 ?_
 ·unfold q2;rw [List.length_append,List.map_append];exact h1
 rcases h4 with h4|h4
 ·exact .inl (Yl hown h4.symm)
 have h6:some g'=some w.heap.size:=h4;injection h6 with h6;exact .inr h6
theorem WL {α:Type} {P X D cur:List α} {a:Nat} (hP:cur.take a=P) (ha:a+X.length+D.length<=cur.length):
 ((cur.take (a+X.length)++D++cur.drop (a+X.length+D.length)).take a++X++(cur.take (a+X.length)++D++cur.drop (a+X.length+D.length)).drop (a+X.length))=P++X++D++cur.drop (a+X.length+D.length):=by
 have h1:(cur.take (a+X.length)).length=a+X.length:=by rw [List.length_take];omega
 have e1:(cur.take (a+X.length)++D++cur.drop (a+X.length+D.length)).take a=P:=by rw [List.append_assoc,List.take_append_of_le_length bh,List.take_take,Nat.min_eq_left bh,hP]
 have e2:(cur.take (a+X.length)++D++cur.drop (a+X.length+D.length)).drop (a+X.length)=D++cur.drop (a+X.length+D.length):=by rw [List.append_assoc,List.drop_append,List.drop_eq_nil_of_le bh,h1,Nat.sub_self,List.nil_append];rfl
 rw [e1,e2];simp
theorem WM {α:Type} {P X D cur:List α} {a:Nat} (hP:cur.take a=P) (ha:a+X.length+D.length<=cur.length):
 ((cur.take a++X++cur.drop (a+X.length)).take (a+X.length)++D++(cur.take a++X++cur.drop (a+X.length)).drop (a+X.length+D.length))=P++X++D++cur.drop (a+X.length+D.length):=by
 have h1:(cur.take a++X).length=a+X.length:=by rw [List.length_append,List.length_take];omega
 have e1:(cur.take a++X++cur.drop (a+X.length)).take (a+X.length)=P++X:=by rw [List.take_append_of_le_length bh,List.take_of_length_le bh,hP]
 have e2:(cur.take a++X++cur.drop (a+X.length)).drop (a+X.length+D.length)=cur.drop (a+X.length+D.length):=by
  rw [List.drop_append,List.drop_eq_nil_of_le bh,List.nil_append,h1,List.drop_drop]
  congr 1;omega
 rw [e1,e2]
theorem zC (w:World) (g:Nat) (cs:Array Value):aK (fun k=>k=g) w (w.setRow g cs):=⟨rfl,rfl,rfl,cU,fun k _ h=>setRow_other w g k cs h⟩
theorem av.row {w:World} {g:Nat} {t:TypeId} {cs:Array Value} (h:av w g t cs) (cs':Array Value):av (w.setRow g cs') g t cs':=setRow_heap w g cs cs' t (0,0) h
theorem step_eq {w:World} {ops:Array Oper} {o:Oper} {a:Act} {K:Act->World->Prop} {Q:Exit->Act->World->Prop} {E:Prop} (hgd:o.guard=none) (s x:Operand) (t t':TypeId)
 (ho:o.op= .call {callee:= .builtin .append,args:=#[s,x],argTypes:=#[t,t']}) (u v:Value) (hs:a.eval s=u) (hx:a.eval x=v) {v':Value} {w':World}
 (hr:(Builtin.append_ #[t,t'] o.type #[u,v]).run Tryz.prog w= .ok v' w') (h:K (a.put o.dst v') w'):if Region.wanted o (yielded ops a.tmps)=true then Oper.wp Tryz.prog o a w K Q else E:=by
 have hw:Region.wanted o (yielded ops a.tmps)=true:=by simp [Region.wanted,hgd]
 rw [if_pos hw];unfold Oper.wp execOp;simp only [ho,resolve,invoke,builtin,Sem.run_bind,Sem.run_pure,Result.andThen_ok,List.map_toArray,List.map_cons,List.map_nil,hs,hx,hr];exact h
end Go.Proofs.YtmaijkoopjocdaaGreat
