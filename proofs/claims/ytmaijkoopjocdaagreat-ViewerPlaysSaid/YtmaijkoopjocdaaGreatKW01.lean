import Derived.OwnWalk
import Derived.Deep.LoopGhost
import Derived.BigQuiet
import Derived.Test.YtmaijkoopjocdaaGreatChecked
import Derived.WalkKit
import Derived.WalkSpells
import Derived.WalkLawsBesides
import Derived.Lib.Hide
import Derived.Lib.OthersKept
import Derived.Test.YtmaijkoopjocdaaGreatKW00
set_option maxRecDepth 100000
set_option maxHeartbeats 64000000
namespace Go.Proofs.YtmaijkoopjocdaaGreat
open Go.RowKit Go.Lib
def cz (n:Int):Prop:= -9223372036854775808<=n∧n<=9223372036854775807
def rS (w:World) (a:Option Addr) (L:List Int):Prop:=∀j x,L[j]? =some x->cz x∧∃b off,a=some ⟨b,off,none⟩∧b<w.heap.size∧w.cell? ⟨b,off+j,none⟩=some (.int .i64 x)
theorem rS.below {w w':World} {a:Option Addr} {L:List Int} (h:rS w a L) (hb:Below ↑w w w'):rS w' a L:=by intro j x hj;obtain⟨h0,b,off,h1,h2,h3⟩:=h j x hj;exact⟨h0,b,off,h1,Nat.lt_of_lt_of_le h2 hb.size,(hb.cell (p:=⟨b,off+j,none⟩) h2).trans h3⟩
theorem dM {α:Type} {L:List α} {j:Nat} {e:α} (h:L[j]? =some e):j<L.length:=by
 rcases Nat.lt_or_ge j L.length with h1|h1
 ·exact h1
 rw [List.getElem?_eq_none h1]at h;cases h
theorem lB {α:Type} {A:List α} {n:Nat} {x:α} (h:A[n]? =some x):∃hn:n<A.length,A[n]'hn=x:=by have hl:=dM h;refine⟨hl,?_⟩;rw [List.getElem?_eq_getElem hl]at h;injection h
theorem Bu {α:Type} {A:List α} {n:Nat} {x d:α} (h:A[n]? =some x):A.getD n d=x:=by rw [List.getD_eq_getElem?_getD,h];rfl
structure Prod where
 code:ByteArray
 ma:Option Addr
 months:List Int
 mc:Nat
 tick:Int
 low:Int
 high:Int
 wide:Int
 rule:Int
 top:Int
 least:Int
 part:Int
 sa:Option Addr
 settle:List Int
 sc:Nat
instance : Coe Prod (Array Value) := ⟨fun p => #[.string p.code,.slice p.ma p.months.length p.mc,.int .i64 p.tick,.int .i64 p.low,.int .i64 p.high,.int .i64 p.wide,.int .i64 p.rule,.int .i64 p.top,.int .i64 p.least,.int .i64 p.part,.slice p.sa p.settle.length p.sc]⟩
instance (w : World) (b : Nat) (p : Prod) : CoeDep (World × Nat × Prod) (w, b, p) Prop := ⟨w.cell? ⟨b, 0, none⟩ = some (.string p.code) ∧ w.cell? ⟨b, 1, none⟩ = some (.slice p.ma p.months.length p.mc) ∧ w.cell? ⟨b, 2, none⟩ = some (.int .i64 p.tick) ∧ w.cell? ⟨b, 3, none⟩ = some (.int .i64 p.low) ∧ w.cell? ⟨b, 4, none⟩ = some (.int .i64 p.high) ∧ w.cell? ⟨b, 5, none⟩ = some (.int .i64 p.wide) ∧ w.cell? ⟨b, 6, none⟩ = some (.int .i64 p.rule) ∧ w.cell? ⟨b, 7, none⟩ = some (.int .i64 p.top) ∧ w.cell? ⟨b, 8, none⟩ = some (.int .i64 p.least) ∧ w.cell? ⟨b, 9, none⟩ = some (.int .i64 p.part) ∧ w.cell? ⟨b, 10, none⟩ = some (.slice p.sa p.settle.length p.sc)⟩
def Prod.cells (p:Prod):Array Value:=#[.string p.code,.slice p.ma p.months.length p.mc,.int .i64 p.tick,.int .i64 p.low,.int .i64 p.high,.int .i64 p.wide,.int .i64 p.rule,.int .i64 p.top,.int .i64 p.least,.int .i64 p.part,.slice p.sa p.settle.length p.sc]
def Prod.agg (p:Prod):Value:= .agg p.cells
structure gM (w:World) (p:Prod):Prop where
 code:p.code.size<=1000
 IB:rS w p.ma p.months
 aW:rS w p.sa p.settle
 Cg:p.months.length<=1000000
 F7:p.settle.length<=1000000
 tick:cz p.tick
 low:cz p.low
 high:cz p.high
 wide:cz p.wide
theorem gM.below {w w':World} {p:Prod} (h:gM w p) (hb:Below ↑w w w'):gM w' p:=
 ⟨h.code,h.IB.below hb,h.aW.below hb,h.Cg,h.F7,h.tick,h.low,h.high,h.wide⟩
def PC (w:World) (g:Nat) (p:Prod):Prop:=w.cell? ⟨g,0,none⟩=some (.string p.code)∧w.cell? ⟨g,1,none⟩=some (.slice p.ma p.months.length p.mc)∧w.cell? ⟨g,2,none⟩=some (.int .i64 p.tick)∧w.cell? ⟨g,3,none⟩=some (.int .i64 p.low)∧w.cell? ⟨g,4,none⟩=some (.int .i64 p.high)∧w.cell? ⟨g,5,none⟩=some (.int .i64 p.wide)∧w.cell? ⟨g,6,none⟩=some (.int .i64 p.rule)∧w.cell? ⟨g,7,none⟩=some (.int .i64 p.top)∧w.cell? ⟨g,8,none⟩=some (.int .i64 p.least)∧w.cell? ⟨g,9,none⟩=some (.int .i64 p.part)∧w.cell? ⟨g,10,none⟩=some (.slice p.sa p.settle.length p.sc)
theorem PC.new (w:World) (p:Prod):PC (w.alloc (.cells p.cells 25)) ↑w p:=by have h:∀i,(w.alloc (.cells p.cells 25)).cell? ⟨w.heap.size,i,none⟩=p.cells[i]? :=fun i=>cell_of_row _ _ _ _ _ (0,0) (heap_alloc_new w _);exact⟨h 0,h 1,h 2,h 3,h 4,h 5,h 6,h 7,h 8,h 9,h 10⟩
theorem PC.below {w w':World} {g:Nat} {p:Prod} (h:PC w g p) (hb:Below ↑w w w') (hg:g<w.heap.size):PC w' g p:=by have e:∀o,w'.cell? ⟨g,o,none⟩=w.cell? ⟨g,o,none⟩:=fun o=>hb.cell (p:=⟨g,o,none⟩) hg;obtain⟨h0,h1,h2,h3,h4,h5,h6,h7,h8,h9,A⟩:=h;exact⟨(e _).trans h0,(e _).trans h1,(e _).trans h2,(e _).trans h3,(e _).trans h4,(e _).trans h5,(e _).trans h6,(e _).trans h7,(e _).trans h8,(e _).trans h9,(e _).trans A⟩
theorem Below.aI (w:World) (o:Obj):Below ↑w w (w.alloc o):=(Below.refl _ _).alloc (Nat.le_refl _) o
theorem Below.bO (w:World) (n:Nat):Below ↑w w (w.drewN n):=⟨rfl,rfl,rfl,Nat.le_refl _,fun _ _=>rfl⟩
def wB (L:List Int) (k:Nat):Bool:=decide (0<=L.getD k 0)&&decide (L.getD k 0<=1199)&&(k==0||decide (L.getD (k-1) 0<L.getD k 0))
def lp (L:List Int):Bool:=(List.range L.length).all (wB L)&&decide (2<=L.length)&&decide (L.length<=6)
theorem Hp {L:List Int} {k:Nat} (hk:k<L.length) (h:wB L k=false):lp L=false:=by
 unfold lp;have:(List.range L.length).all (wB L)=false:=by rw [Bool.eq_false_iff];intro ha;rw [List.all_eq_true]at ha;have:=ha k (List.mem_range.2 hk);rw [h]at this;cases this
 rw [this];rfl
theorem Yo {L:List Int} (h:∀k,k<L.length->wB L k=true):lp L=(decide (2<=L.length)&&decide (L.length<=6)):=by
 unfold lp;have:(List.range L.length).all (wB L)=true:=by rw [List.all_eq_true];intro k hk;exact h k (List.mem_range.1 hk)
 rw [this];rfl
theorem Yp {L:List Int} {k:Nat} {x:Int} (h:L[k]? =some x):wB L k=(decide (0<=x)&&decide (x<=1199)&&(k==0||decide (L.getD (k-1) 0<x))):=by unfold wB;rw [Bu h]
theorem Qr (a:Option Addr) (c:Nat) (L:List Int) (w:World) (hI:rS w a L) (hl:L.length<=1000000):
 Calls Tryz.prog 75 #[.slice a L.length c] w fun e w'=>e= .returned (.bool (lp L))∧w=w':=by
 have G:=af hI;clear hI;go_enter Tryz.func75,Tryz.ntmps75;go_wp2_with fail;go_loop [7] (fun i=>∃k:Nat,i=↑k∧k<=L.length∧Ei (∀j,j<k->wB L j=true)) (fun i=>L.length-(RowKit.intOf i).toNat)
 case atStart=>exact⟨0,rfl,Nat.zero_le _,af fun j h=>bh⟩
 obtain⟨k,rfl,hk,F⟩:=hrel;by_cases C:k<L.length
 ·obtain⟨x,hx⟩:=GB L k C;obtain⟨hok,b,off,rfl,_,c0⟩:=G.o k x hx;have N:(k:Int)<(L.length:Int):=bh;have B:=af (Yp hx);by_cases h1:x<0
  ·have A:Ei (lp L=false):=af (Hp C (by rw [B.o,decide_eq_false (show¬0<=x by omega)];rfl));clear hx hok;go_wp2_with fail;go_ret;exact⟨by rw [A.o];rfl,cF⟩
  by_cases h2:1199<x
  ·have A:Ei (lp L=false):=af (Hp C (by rw [B.o,decide_eq_false (show¬x<=1199 by omega),Bool.and_false];rfl));clear hx hok;go_wp2_with fail;go_ret;exact⟨by rw [A.o];rfl,cF⟩
  by_cases D:k=0
  ·have A:Ei (wB L k=true):=af (by rw [B.o,decide_eq_true (bh:0<=x),decide_eq_true (bh:x<=1199),D];rfl);have J:=af D;have M:¬(0:Int)<(k:Int):=bh;clear hx hok D;go_wp2_with fail;go_round
   case rel=>exact⟨k+1,dR,bh,af fun j hj=>by
    obtain rfl:j=k:=by have:=J.o;omega
    exact A.o⟩
   exact Ej
  obtain⟨k,rfl⟩:∃k',k=k'+1:=⟨k-1,bh⟩;obtain⟨y,hy⟩:=GB L k bh;obtain⟨E,b2,off2,he,_,c1⟩:=G.o k y hy;obtain⟨rfl,rfl⟩:b=b2∧off=off2:=by injection he with he;injection he with h1 h2;exact⟨h1,h2⟩
  have H:Ei (L.getD k 0=y):=af (Bu hy);by_cases h3:x<=y
  ·have A:Ei (lp L=false):=af (Hp C (by rw [B.o,Nat.add_sub_cancel,H.o,decide_eq_false (show¬y<x by omega)];simp));clear hx hy hok E he;go_wp2_with fail;go_ret;exact⟨by rw [A.o];rfl,cF⟩
  have A:Ei (wB L (k+1)=true):=af (by rw [B.o,Nat.add_sub_cancel,H.o,decide_eq_true (bh:0<=x),decide_eq_true (bh:x<=1199),decide_eq_true (bh:y<x)];simp);clear hx hy hok E he;go_wp2_with fail;go_round
  case rel=>exact⟨k+2,dR,bh,af fun j hj=>by
   by_cases K:j<k+1
   ·exact F.o j K
   obtain rfl:j=k+1:=bh;exact A.o⟩
  exact Ej
 obtain rfl:k=L.length:=bh;have A:=af (Yo F.o);by_cases h2:2<=L.length
 ·have I:(2:Int)<=(L.length:Int):=by omega
  go_wp2_with fail;go_ret;refine⟨?_,cF⟩;rw [A.o,decide_eq_true h2,Bool.true_and,show decide (L.length<=6)=decide ((L.length:Int)<=6)from decide_eq_decide.2 bh];rfl
 have I:¬(2:Int)<=(L.length:Int):=bh;go_wp2_with fail;go_ret;exact⟨by rw [A.o,decide_eq_false h2];rfl,cF⟩
def jQ (tick n:Int):Bool:=n.tmod tick !=0
theorem NE (g:Nat) (tick n:Int) (w:World) (ht:1<=tick) (D:tick<=1000) (hc:w.cell? ↑(g,2)=↑tick):
 Calls Tryz.prog 115 #[↑n,.pointer ↑g] w fun e w'=>e= .returned (.bool (jQ tick n))∧w=w':=by
 have hz:(tick==0)=false:=by rw [beq_eq_false_iff_ne];omega
 have C:(tick== -1)=false:=by rw [beq_eq_false_iff_ne];omega
 obtain⟨t,A⟩:=ai (n.tmod tick);have B:Ei (jQ tick n=(t !=0)):=af (by unfold jQ;rw [A]);go_enter Tryz.func115,Tryz.ntmps115;go_wp2_with fail;go_ret;exact⟨by rw [B.o];rfl,cF⟩
def NF (g:Nat):Value:= .func (Fn.func 115) #[] #[.pointer (some ⟨g,0,none⟩)]
theorem any_none {L:List Int} {f:Int->Bool} (h:∀(j:Nat) (x:Int),L[j]? =some x->f x=false):L.any f=false:=by rw [Bool.eq_false_iff];intro ha;rw [List.any_eq_true]at ha;obtain⟨x,hx,hf⟩:=ha;obtain⟨j,hj,rfl⟩:=List.getElem_of_mem hx;have:=h j _ (List.getElem?_eq_getElem hj);rw [hf]at this;cases this
theorem any_some {L:List Int} {f:Int->Bool} {j:Nat} {x:Int} (h:L[j]? =some x) (hf:f x=true):L.any f=true:=by rw [List.any_eq_true];exact⟨x,List.mem_of_getElem? h,hf⟩
theorem ag9 (g:Nat) (tick:Int) (a:Option Addr) (c:Nat) (L:List Int) (w:World) (hI:rS w a L) (hl:L.length<=1000000) (ht:1<=tick) (G:tick<=1000) (hc:w.cell? ↑(g,2)=↑tick):
 Calls Tryz.prog 140 #[.slice a L.length c,NF g] w fun e w'=>(∃r:Int,e= .returned ↑r∧decide (0<=r)=L.any (jQ tick))∧w=w':=by
 have F:=af hI;have B:=af fun n=>NE g tick n w ht G hc;clear hI hc;unfold NF;go_enter Tryz.func140,Tryz.ntmps140;go_wp2_with fail;go_loop [8] (fun i=>∃k:Nat,i=↑k∧k<=L.length∧Ei (∀j x,j<k->L[j]? =some x->jQ tick x=false)) (fun i=>L.length-(RowKit.intOf i).toNat)
 case atStart=>exact⟨0,rfl,Nat.zero_le _,af fun j x h=>bh⟩
 obtain⟨k,rfl,hk,D⟩:=hrel;by_cases E:k<L.length
 ·obtain⟨x,hx⟩:=GB L k E;obtain⟨_,b,off,rfl,_,c0⟩:=F.o k x hx;have I:(k:Int)<(L.length:Int):=bh;have C:=af hx;clear hx;cases ho:jQ tick x with
  |true=>have A:=af ho;clear ho;go_wp2_with (go_at_call 115;refine(B.o x).mono ?_;rintro e w1 ⟨rfl,rfl⟩;rw [A.o]);go_ret;exact⟨⟨(k:Int),rfl,by rw [any_some C.o A.o];exact decide_eq_true bh⟩,cF⟩
  |false=>
   have A:=af ho;clear ho;go_wp2_with (go_at_call 115;refine(B.o x).mono ?_;rintro e w1 ⟨rfl,rfl⟩;rw [A.o]);go_round
   case rel=>exact⟨k+1,dR,bh,af fun j y hj hy=>by
    by_cases H:j<k
    ·exact D.o j y H hy
    obtain rfl:j=k:=bh;have:=C.o;rw [hy]at this;injection this with this;rw [this];exact A.o⟩
   exact Ej
 obtain rfl:k=L.length:=bh;go_wp2_with fail;go_ret;exact⟨⟨-1,rfl,by rw [any_none fun j x hj=>D.o j x (dM hj) hj];rfl⟩,cF⟩
theorem aha (g:Nat) (tick:Int) (a:Option Addr) (c:Nat) (L:List Int) (w:World) (hI:rS w a L) (hl:L.length<=1000000) (ht:1<=tick) (B:tick<=1000) (hc:w.cell? ↑(g,2)=↑tick):
 Calls Tryz.prog 116 #[.slice a L.length c,NF g] w fun e w'=>e= .returned (.bool (L.any (jQ tick)))∧w=w':=by
 have H:=af (ag9 g tick a c L w hI hl ht B hc);clear hI hc;unfold NF at*;go_enter Tryz.func116,Tryz.ntmps116;go_wp2_with fail;refine H.o.mono ?_;rintro e w1 ⟨⟨r,rfl,hr⟩,rfl⟩;have A:=af hr;clear hr;go_wp2_with fail;go_ret;exact⟨by rw [<-A.o];rfl,cF⟩
def nD (p:Prod):Bool:=decide (1<=p.tick)&&decide (p.tick<=1000)&& !jQ p.tick p.low&& !jQ p.tick p.high&& !jQ p.tick p.wide&& !p.settle.any (jQ p.tick)
theorem Qs (p:Prod) (w:World) (hp:gM w p):
 Calls Tryz.prog 76 #[p.agg] w fun e w'=>e= .returned (.bool (nD p))∧Below ↑w w w':=by
 unfold Prod.agg Prod.cells;have B:Ei (Below ↑w w (w.alloc (.cells ↑p 25))):=af (Below.aI _ _);have G:Ei (PC (w.alloc (.cells ↑p 25)) ↑w p):=af (PC.new w p);by_cases h1:p.tick<1
 ·have A:Ei (nD p=false):=af (by unfold nD;rw [decide_eq_false (show¬1<=p.tick by omega)];rfl);go_enter Tryz.func76,Tryz.ntmps76;go_wp2_with fail;go_ret;exact⟨by rw [A.o];rfl,B.o⟩
 by_cases h2:1000<p.tick
 ·have A:Ei (nD p=false):=af (by unfold nD;rw [decide_eq_false (show¬p.tick<=1000 by omega),Bool.and_false];rfl);go_enter Tryz.func76,Tryz.ntmps76;go_wp2_with fail;go_ret;exact⟨by rw [A.o];rfl,B.o⟩
 obtain⟨H,I⟩:=ai (jQ p.tick p.low);obtain⟨J,L⟩:=ai (jQ p.tick p.high);obtain⟨K,how⟩:=ai (jQ p.tick p.wide);obtain⟨os,hos⟩:=ai (p.settle.any (jQ p.tick));have A:Ei (nD p=(!H&& !J&& !K&& !os)):=af (by unfold nD;rw [decide_eq_true (bh:1<=p.tick),decide_eq_true (bh:p.tick<=1000),I,L,how,hos];rfl);have D:Ei (Calls Tryz.prog 115 #[↑p.low,.pointer ↑w.heap.size] (w.alloc (.cells ↑p 25)) fun e w'=>e= .returned ↑H∧(w.alloc (.cells ↑p 25))=w'):=af (by rw [<-I];exact NE _ _ _ _ bh bh G.o.2.2.1);have F:Ei (Calls Tryz.prog 115 #[↑p.high,.pointer ↑w.heap.size] (w.alloc (.cells ↑p 25)) fun e w'=>e= .returned ↑J∧(w.alloc (.cells ↑p 25))=w'):=af (by rw [<-L];exact NE _ _ _ _ bh bh G.o.2.2.1);have E:Ei (Calls Tryz.prog 115 #[↑p.wide,.pointer ↑w.heap.size] (w.alloc (.cells ↑p 25)) fun e w'=>e= .returned ↑K∧(w.alloc (.cells ↑p 25))=w'):=af (by rw [<-how];exact NE _ _ _ _ bh bh G.o.2.2.1);have C:Ei (Calls Tryz.prog 116 #[.slice p.sa p.settle.length p.sc,.func (Fn.func 115) #[] #[.pointer ↑w.heap.size]] (w.alloc (.cells ↑p 25)) fun e w'=>e= .returned ↑os∧(w.alloc (.cells ↑p 25))=w'):=af (by rw [<-hos];exact aha _ _ _ _ _ _ (hp.aW.below B.o) hp.F7 bh bh G.o.2.2.1);clear I L how hos hp;cases H with
 |true=>
  go_enter Tryz.func76,Tryz.ntmps76;go_wp2_with (first
   |(go_at_call 115;refine D.o.mono ?_;rintro e w1 ⟨rfl,rfl⟩)
   |(go_at_call 115;refine F.o.mono ?_;rintro e w1 ⟨rfl,rfl⟩)
   |(go_at_call 115;refine E.o.mono ?_;rintro e w1 ⟨rfl,rfl⟩)
   |(go_at_call 116;refine C.o.mono ?_;rintro e w1 ⟨rfl,rfl⟩))
  go_ret;exact⟨by rw [A.o];rfl,B.o⟩
 |false=>
  cases J with
  |true=>
   go_enter Tryz.func76,Tryz.ntmps76;go_wp2_with (first
    |(go_at_call 115;refine D.o.mono ?_;rintro e w1 ⟨rfl,rfl⟩)
    |(go_at_call 115;refine F.o.mono ?_;rintro e w1 ⟨rfl,rfl⟩)
    |(go_at_call 115;refine E.o.mono ?_;rintro e w1 ⟨rfl,rfl⟩)
    |(go_at_call 116;refine C.o.mono ?_;rintro e w1 ⟨rfl,rfl⟩))
   go_ret;exact⟨by rw [A.o];rfl,B.o⟩
  |false=>
   cases K with
   |true=>
    go_enter Tryz.func76,Tryz.ntmps76;go_wp2_with (first
     |(go_at_call 115;refine D.o.mono ?_;rintro e w1 ⟨rfl,rfl⟩)
     |(go_at_call 115;refine F.o.mono ?_;rintro e w1 ⟨rfl,rfl⟩)
     |(go_at_call 115;refine E.o.mono ?_;rintro e w1 ⟨rfl,rfl⟩)
     |(go_at_call 116;refine C.o.mono ?_;rintro e w1 ⟨rfl,rfl⟩))
    go_ret;exact⟨by rw [A.o];rfl,B.o⟩
   |false=>
    go_enter Tryz.func76,Tryz.ntmps76;go_wp2_with (first
     |(go_at_call 115;refine D.o.mono ?_;rintro e w1 ⟨rfl,rfl⟩)
     |(go_at_call 115;refine F.o.mono ?_;rintro e w1 ⟨rfl,rfl⟩)
     |(go_at_call 115;refine E.o.mono ?_;rintro e w1 ⟨rfl,rfl⟩)
     |(go_at_call 116;refine C.o.mono ?_;rintro e w1 ⟨rfl,rfl⟩))
    go_ret;exact⟨by rw [A.o];rfl,B.o⟩
def ul:List Int->Int
 | []=>0
 |x::L=>L.foldl min x
def um:List Int->Int
 | []=>0
 |x::L=>L.foldl max x
theorem ahb (L:List Int) (x b:Int):decide (L.foldl min x<b)=(decide (x<b)||L.any (fun y=>decide (y<b))):=by
 induction L generalizing x with
 |nil=>rw [List.any_nil,Bool.or_false];rfl
 |cons y L ih=>
  rw [List.foldl_cons,ih,List.any_cons,<-Bool.or_assoc]
  congr 1
  rw [Bool.eq_iff_iff];simp;omega
theorem ahc (L:List Int) (x b:Int):decide (b<L.foldl max x)=(decide (b<x)||L.any (fun y=>decide (b<y))):=by
 induction L generalizing x with
 |nil=>rw [List.any_nil,Bool.or_false];rfl
 |cons y L ih=>
  rw [List.foldl_cons,ih,List.any_cons,<-Bool.or_assoc]
  congr 1
  rw [Bool.eq_iff_iff];simp;omega
theorem Qp {L:List Int} (h:L≠ []) (b:Int):decide (ul L<b)=L.any (fun y=>decide (y<b)):=by
 cases L with
 |nil=>exact absurd rfl h
 |cons x L=>exact ahb L x b
theorem max_lt {L:List Int} (h:L≠ []) (b:Int):decide (b<um L)=L.any (fun y=>decide (b<y)):=by
 cases L with
 |nil=>exact absurd rfl h
 |cons x L=>exact ahc L x b
theorem ahd (L:List Int) {k:Nat} {x:Int} (h:L[k+1]? =some x):ul (L.take (k+2))=min (ul (L.take (k+1))) x:=by
 cases L with
 |nil=>simp at h
 |cons y L=>have hk:=dM h;simp at hk h;show(L.take (k+1)).foldl min y=min ((L.take k).foldl min y) x;rw [List.take_succ_eq_append_getElem hk,List.foldl_append];obtain⟨_,hx⟩:=lB h;rw [hx];rfl
theorem ahe (L:List Int) {k:Nat} {x:Int} (h:L[k+1]? =some x):um (L.take (k+2))=max (um (L.take (k+1))) x:=by
 cases L with
 |nil=>simp at h
 |cons y L=>have hk:=dM h;simp at hk h;show(L.take (k+1)).foldl max y=max ((L.take k).foldl max y) x;rw [List.take_succ_eq_append_getElem hk,List.foldl_append];obtain⟨_,hx⟩:=lB h;rw [hx];rfl
theorem ahf {L:List Int} {x:Int} (h:L[0]? =some x):ul (L.take 1)=x:=by
 cases L with
 |nil=>simp at h
 |cons y L=>simp at h;subst h;rfl
theorem ahg {L:List Int} {x:Int} (h:L[0]? =some x):um (L.take 1)=x:=by
 cases L with
 |nil=>simp at h
 |cons y L=>simp at h;subst h;rfl
theorem Qt (a:Option Addr) (c:Nat) (L:List Int) (w:World) (hI:rS w a L) (hl:L.length<=1000000) (h0:0<L.length):
 Calls Tryz.prog 77 #[.slice a L.length c] w fun e w'=>e= .returned (.int .i64 (ul L))∧w=w':=by
 have G:=af hI;obtain⟨x0,hx0⟩:=GB L 0 h0;obtain⟨_,b,off,rfl,_,c0⟩:=hI 0 x0 hx0;rw [Nat.add_zero]at c0;have E:=af (ahf hx0);have h0':¬(L.length:Int)<1:=bh;clear hI hx0;go_enter Tryz.func77,Tryz.ntmps77;go_wp2_with fail;go_loop [3,4] (fun m i=>∃k:Nat,i= .int .i64 ((k+1:Nat):Int)∧k+1<=L.length∧m= .int .i64 (ul (L.take (k+1)))) (fun _ i=>L.length-(RowKit.intOf i).toNat)
 case atStart=>exact⟨0,rfl,h0,by rw [E.o]⟩
 obtain⟨k,rfl,hk,rfl⟩:=hrel;by_cases F:k+1<L.length
 ·obtain⟨x,hx⟩:=GB L (k+1) F;obtain⟨_,b2,off2,he,_,c1⟩:=G.o (k+1) x hx;obtain⟨rfl,rfl⟩:b=b2∧off=off2:=by injection he with he;injection he with h1 h2;exact⟨h1,h2⟩
  have H:(k:Int)+1<(L.length:Int):=bh;have C:=af (ahd L hx);clear hx he c0;generalize ul (L.take (k+1))=m at*;go_wp2_with fail;go_round
  case rel=>exact⟨k+1,dR,bh,congrArg (Value.int .i64) (by rw [C.o];try (split<;>omega))⟩
  exact Ej
 have A:k+1=L.length:=bh;have B:(k:Int)+1=(L.length:Int):=bh;have D:Ei (ul (L.take (k+1))=ul L):=af (by rw [A,List.take_length]);have hn:¬(k:Int)+1<(L.length:Int):=bh;clear A B;generalize ul (L.take (k+1))=m at*;go_wp2_with fail;go_ret;exact⟨by rw [<-D.o];rfl,cF⟩
theorem Qw (a:Option Addr) (c:Nat) (L:List Int) (w:World) (hI:rS w a L) (hl:L.length<=1000000) (h0:0<L.length):
 Calls Tryz.prog 78 #[.slice a L.length c] w fun e w'=>e= .returned (.int .i64 (um L))∧w=w':=by
 have G:=af hI;obtain⟨x0,hx0⟩:=GB L 0 h0;obtain⟨_,b,off,rfl,_,c0⟩:=hI 0 x0 hx0;rw [Nat.add_zero]at c0;have E:=af (ahg hx0);have h0':¬(L.length:Int)<1:=bh;clear hI hx0;go_enter Tryz.func78,Tryz.ntmps78;go_wp2_with fail;go_loop [3,4] (fun m i=>∃k:Nat,i= .int .i64 ((k+1:Nat):Int)∧k+1<=L.length∧m= .int .i64 (um (L.take (k+1)))) (fun _ i=>L.length-(RowKit.intOf i).toNat)
 case atStart=>exact⟨0,rfl,h0,by rw [E.o]⟩
 obtain⟨k,rfl,hk,rfl⟩:=hrel;by_cases F:k+1<L.length
 ·obtain⟨x,hx⟩:=GB L (k+1) F;obtain⟨_,b2,off2,he,_,c1⟩:=G.o (k+1) x hx;obtain⟨rfl,rfl⟩:b=b2∧off=off2:=by injection he with he;injection he with h1 h2;exact⟨h1,h2⟩
  have H:(k:Int)+1<(L.length:Int):=bh;have C:=af (ahe L hx);clear hx he c0;generalize um (L.take (k+1))=m at*;go_wp2_with fail;go_round
  case rel=>exact⟨k+1,dR,bh,congrArg (Value.int .i64) (by rw [C.o];try (split<;>omega))⟩
  exact Ej
 have A:k+1=L.length:=bh;have B:(k:Int)+1=(L.length:Int):=bh;have D:Ei (um (L.take (k+1))=um L):=af (by rw [A,List.take_length]);have hn:¬(k:Int)+1<(L.length:Int):=bh;clear A B;generalize um (L.take (k+1))=m at*;go_wp2_with fail;go_ret;exact⟨by rw [<-D.o];rfl,cF⟩
end Go.Proofs.YtmaijkoopjocdaaGreat
