import Derived.OwnWalk
import Derived.Deep.LoopGhost
import Derived.BigQuiet
import Derived.Test.YtmaijkoopjocdaaGreatChecked
import Derived.WalkKit
import Derived.WalkSpells
import Derived.WalkLawsBesides
import Derived.Lib.Hide
import Derived.Lib.OthersKept
import Derived.BigRegion
import Derived.Outline
import Derived.Maps.AppendAt
import Derived.Laws.AppendOwnNone
import Derived.Lib.EndianZ
import Derived.Lib.EndianBits
import Derived.Shelf.Spec.SlicesInsert
import Derived.Lib.AppendZerosOnto
import Derived.Laws.CopyRow
import Derived.Deep.RegionLaw
import Derived.Deep.DeepCutAuto
import Derived.OrdersHeld
import Derived.StillTail
import Derived.RegionTactic
import Derived.Deep.RegionHeld3
import Derived.Lib.SliceRun
import Derived.Test.YtmaijkoopjocdaaGreatKV00
set_option maxRecDepth 100000
set_option maxHeartbeats 64000000
namespace Go.Proofs.YtmaijkoopjocdaaGreat
open Go.RowKit Go.Lib
def cz (n:Int):Prop:= -9223372036854775808≤n∧n≤9223372036854775807
def rS (w:World) (a:Option Addr) (L:List Int):Prop:=∀j x,L[j]? =some x→cz x∧∃b off,a=some ⟨b,off,none⟩∧b<w.heap.size∧w.cell? ⟨b,off+j,none⟩=some (.int .i64 x)
theorem rS.below {w w':World} {a:Option Addr} {L:List Int} (h:rS w a L) (hb:Below w.heap.size w w'):rS w' a L:=by
 intro j x hj;obtain⟨h0,b,off,h1,h2,h3⟩:=h j x hj;exact⟨h0,b,off,h1,Nat.lt_of_lt_of_le h2 hb.size,(hb.cell (p:=⟨b,off+j,none⟩) h2).trans h3⟩
theorem dM {α:Type} {L:List α} {j:Nat} {e:α} (h:L[j]? =some e):j<L.length:=by
 rcases Nat.lt_or_ge j L.length with h1|h1
 ·exact h1
 ·rw [List.getElem?_eq_none h1]at h;cases h
theorem lB {α:Type} {A:List α} {n:Nat} {x:α} (h:A[n]? =some x):∃hn:n<A.length,A[n]'hn=x:=by
 have hl:=dM h;refine⟨hl,?_⟩;rw [List.getElem?_eq_getElem hl]at h;injection h
theorem Bu {α:Type} {A:List α} {n:Nat} {x d:α} (h:A[n]? =some x):A.getD n d=x:=by
 rw [List.getD_eq_getElem?_getD,h];rfl
structure Prod where
 code:ByteArray
 ma:Option Addr
 months:List Int
 mc:Nat
 tick:Int
 low:Int
 high:Int
 wide:Int
 rule:Int
 top:Int
 least:Int
 part:Int
 sa:Option Addr
 settle:List Int
 sc:Nat
def Prod.cells (p:Prod):Array Value:=#[.string p.code,.slice p.ma p.months.length p.mc,.int .i64 p.tick,.int .i64 p.low,.int .i64 p.high,.int .i64 p.wide,.int .i64 p.rule,.int .i64 p.top,.int .i64 p.least,.int .i64 p.part,.slice p.sa p.settle.length p.sc]
def Prod.agg (p:Prod):Value:= .agg p.cells
structure gM (w:World) (p:Prod):Prop where
 code:p.code.size≤1000
 IB:rS w p.ma p.months
 aW:rS w p.sa p.settle
 Cg:p.months.length≤1000000
 F7:p.settle.length≤1000000
 tick:cz p.tick
 low:cz p.low
 high:cz p.high
 wide:cz p.wide
theorem gM.below {w w':World} {p:Prod} (h:gM w p) (hb:Below w.heap.size w w'):gM w' p:=
 ⟨h.code,h.IB.below hb,h.aW.below hb,h.Cg,h.F7,h.tick,h.low,h.high,h.wide⟩
def PC (w:World) (g:Nat) (p:Prod):Prop:=w.cell? ⟨g,0,none⟩=some (.string p.code)∧w.cell? ⟨g,1,none⟩=some (.slice p.ma p.months.length p.mc)∧w.cell? ⟨g,2,none⟩=some (.int .i64 p.tick)∧w.cell? ⟨g,3,none⟩=some (.int .i64 p.low)∧w.cell? ⟨g,4,none⟩=some (.int .i64 p.high)∧w.cell? ⟨g,5,none⟩=some (.int .i64 p.wide)∧w.cell? ⟨g,6,none⟩=some (.int .i64 p.rule)∧w.cell? ⟨g,7,none⟩=some (.int .i64 p.top)∧w.cell? ⟨g,8,none⟩=some (.int .i64 p.least)∧w.cell? ⟨g,9,none⟩=some (.int .i64 p.part)∧w.cell? ⟨g,10,none⟩=some (.slice p.sa p.settle.length p.sc)
theorem PC.new (w:World) (p:Prod):PC (w.alloc (.cells p.cells 25)) w.heap.size p:=by
 have h:∀i,(w.alloc (.cells p.cells 25)).cell? ⟨w.heap.size,i,none⟩=p.cells[i]? :=fun i=>cell_of_row _ _ _ _ _ (0,0) (heap_alloc_new w _);exact⟨h 0,h 1,h 2,h 3,h 4,h 5,h 6,h 7,h 8,h 9,h 10⟩
theorem PC.below {w w':World} {g:Nat} {p:Prod} (h:PC w g p) (hb:Below w.heap.size w w') (hg:g<w.heap.size):PC w' g p:=by
 have e:∀o,w'.cell? ⟨g,o,none⟩=w.cell? ⟨g,o,none⟩:=fun o=>hb.cell (p:=⟨g,o,none⟩) hg;obtain⟨h0,h1,h2,h3,h4,h5,h6,h7,h8,h9,Ho⟩:=h;exact⟨(e _).trans h0,(e _).trans h1,(e _).trans h2,(e _).trans h3,(e _).trans h4,(e _).trans h5,(e _).trans h6,(e _).trans h7,(e _).trans h8,(e _).trans h9,(e _).trans Ho⟩
theorem Below.aI (w:World) (o:Obj):Below w.heap.size w (w.alloc o):=(Below.refl _ _).alloc (Nat.le_refl _) o
theorem Below.bO (w:World) (n:Nat):Below w.heap.size w (w.drewN n):=⟨rfl,rfl,rfl,Nat.le_refl _,fun _ _=>rfl⟩
def wB (L:List Int) (k:Nat):Bool:=decide (0≤L.getD k 0)&&decide (L.getD k 0≤1199)&&(k==0||decide (L.getD (k-1) 0<L.getD k 0))
def lp (L:List Int):Bool:=(List.range L.length).all (wB L)&&decide (2≤L.length)&&decide (L.length≤6)
theorem Hp {L:List Int} {k:Nat} (hk:k<L.length) (h:wB L k=false):lp L=false:=by
 unfold lp
 have:(List.range L.length).all (wB L)=false:=by
  rw [Bool.eq_false_iff];intro ha;rw [List.all_eq_true]at ha;have:=ha k (List.mem_range.2 hk);rw [h]at this;cases this
 rw [this];rfl
theorem Yo {L:List Int} (h:∀k,k<L.length→wB L k=true):lp L=(decide (2≤L.length)&&decide (L.length≤6)):=by
 unfold lp
 have:(List.range L.length).all (wB L)=true:=by
  rw [List.all_eq_true];intro k hk;exact h k (List.mem_range.1 hk)
 rw [this];rfl
theorem Yp {L:List Int} {k:Nat} {x:Int} (h:L[k]? =some x):wB L k=(decide (0≤x)&&decide (x≤1199)&&(k==0||decide (L.getD (k-1) 0<x))):=by
 unfold wB;rw [Bu h]
theorem acO (a:Option Addr) (c:Nat) (L:List Int) (w:World) (hI:rS w a L) (hl:L.length≤1000000):
 Calls Tryz.prog 75 #[.slice a L.length c] w fun e w'=>e= .returned (.bool (lp L))∧w=w':=by
 have iy:=af hI;clear hI;go_enter Tryz.func75,Tryz.ntmps75
 go_wp2_with fail
 go_loop [7] (fun i=>∃k:Nat,i=↑k∧k≤L.length∧Hid (∀j,j<k→wB L j=true)) (fun i=>L.length-(RowKit.intOf i).toNat)
 case atStart=>exact⟨0,rfl,Nat.zero_le _,af fun j h=>by omega⟩
 case round=>
  obtain⟨k,rfl,hk,e7⟩:=hrel;by_cases eR:k<L.length
  ·obtain⟨x,hx⟩:∃x,L[k]? =some x:=⟨_,List.getElem?_eq_getElem eR⟩
   obtain⟨hok,b,off,rfl,_,c0⟩:=iy.out k x hx;have ya:(k:Int)<(L.length:Int):=by omega
   have cM:=af (Yp hx);by_cases h1:x<0
   ·have aG:Hid (lp L=false):=af (Hp eR (by rw [cM.out,decide_eq_false (show¬0≤x by omega)];rfl))
    clear hx hok;go_wp2_with fail
    go_ret;exact⟨by rw [aG.out];rfl,by trivial⟩
   ·by_cases h2:1199<x
    ·have aG:Hid (lp L=false):=af (Hp eR (by rw [cM.out,decide_eq_false (show¬x≤1199 by omega),Bool.and_false];rfl))
     clear hx hok;go_wp2_with fail
     go_ret;exact⟨by rw [aG.out];rfl,by trivial⟩
    ·by_cases iQ:k=0
     ·have aG:Hid (wB L k=true):=af (by rw [cM.out,decide_eq_true (show 0≤x by omega),decide_eq_true (show x≤1199 by omega),iQ];rfl)
      have Rl:=af iQ;have cN:¬(0:Int)<(k:Int):=by omega
      clear hx hok iQ;go_wp2_with fail
      go_round
      case rel=>exact⟨k+1,by go_num,by omega,af fun j hj=>by
       obtain rfl:j=k:=by have:=Rl.out;omega
       exact aG.out⟩
      case measure=>simp [RowKit.intOf];omega
     ·obtain⟨k,rfl⟩:∃k',k=k'+1:=⟨k-1,by omega⟩
      obtain⟨y,hy⟩:∃y,L[k]? =some y:=⟨_,List.getElem?_eq_getElem (by omega)⟩;obtain⟨Ks,b2,off2,he,_,c1⟩:=iy.out k y hy;obtain⟨rfl,rfl⟩:b=b2∧off=off2:=by injection he with he;injection he with h1 h2;exact⟨h1,h2⟩
      have wC:Hid (L.getD k 0=y):=af (Bu hy);by_cases h3:x≤y
      ·have aG:Hid (lp L=false):=af (Hp eR (by rw [cM.out,Nat.add_sub_cancel,wC.out,decide_eq_false (show¬y<x by omega)];simp))
       clear hx hy hok Ks he;go_wp2_with fail
       go_ret;exact⟨by rw [aG.out];rfl,by trivial⟩
      ·have aG:Hid (wB L (k+1)=true):=af (by rw [cM.out,Nat.add_sub_cancel,wC.out,decide_eq_true (show 0≤x by omega),decide_eq_true (show x≤1199 by omega),decide_eq_true (show y<x by omega)];simp)
       clear hx hy hok Ks he;go_wp2_with fail
       go_round
       case rel=>exact⟨k+2,by go_num,by omega,af fun j hj=>by
        by_cases pX:j<k+1
        ·exact e7.out j pX
        ·obtain rfl:j=k+1:=by omega
         exact aG.out⟩
       case measure=>simp [RowKit.intOf];omega
  ·obtain rfl:k=L.length:=by omega
   have aG:=af (Yo e7.out);by_cases h2:2≤L.length
   ·have JG:(2:Int)≤(L.length:Int):=by omega
    go_wp2_with fail
    go_ret;refine⟨?_,by trivial⟩;rw [aG.out,decide_eq_true h2,Bool.true_and,show decide (L.length≤6)=decide ((L.length:Int)≤6)from decide_eq_decide.2 (by omega)];rfl
   ·have JG:¬(2:Int)≤(L.length:Int):=by omega
    go_wp2_with fail
    go_ret;exact⟨by rw [aG.out,decide_eq_false h2];rfl,by trivial⟩
def jQ (tick n:Int):Bool:=n.tmod tick !=0
theorem NE (g:Nat) (tick n:Int) (w:World) (ht:1≤tick) (nI:tick≤1000) (hc:w.cell? ⟨g,2,none⟩=some ↑tick):
 Calls Tryz.prog 115 #[↑n,.pointer ↑g] w fun e w'=>e= .returned (.bool (jQ tick n))∧w=w':=by
 have hz:(tick==0)=false:=by rw [beq_eq_false_iff_ne];omega
 have eg:(tick== -1)=false:=by rw [beq_eq_false_iff_ne];omega
 obtain⟨t,Rm⟩:=ai (n.tmod tick);have e9:Hid (jQ tick n=(t !=0)):=af (by unfold jQ;rw [Rm]);go_enter Tryz.func115,Tryz.ntmps115
 go_wp2_with fail
 go_ret;exact⟨by rw [e9.out];rfl,by trivial⟩
section
variable {α β:Type} (c:α→List β) (m:Nat)
theorem mK (hc:∀x,(c x).length=m) (S:List α):(S.flatMap c).length=S.length*m:=by
 induction S with
 |nil=>simp
 |cons x S ih=>rw [List.flatMap_cons,List.length_append,hc,ih,List.length_cons,Nat.succ_mul];omega
theorem NA (hc:∀x,(c x).length=m):∀(S:List α) (i k:Nat) (hi:i<S.length),k<m→(S.flatMap c)[i*m+k]? =(c (S[i]'hi))[k]? :=by
 intro S
 induction S with
 |nil=>intro i k hi;exact absurd hi (by simp)
 |cons x S ih=>
  intro i k hi hk;rw [List.flatMap_cons];cases i with
  |zero=>
   rw [Nat.zero_mul,Nat.zero_add,List.getElem?_append_left (by rw [hc];exact hk)];rfl
  |succ i=>
   rw [Nat.succ_mul,List.getElem?_append_right (by rw [hc];omega),hc,show i*m+m+k-m=i*m+k by omega];exact ih i k (by simpa using hi) hk
theorem agm (hc:∀x,(c x).length=m) (v:β) (y:α):∀(S:List α) (i k:Nat) (hi:i<S.length),k<m→c y=(c (S[i]'hi)).set k v→(S.flatMap c).set (i*m+k) v=(S.set i y).flatMap c:=by
 intro S
 induction S with
 |nil=>intro i k hi;exact absurd hi (by simp)
 |cons x S ih=>
  intro i k hi hk hy;cases i with
  |zero=>
   rw [Nat.zero_mul,Nat.zero_add,List.flatMap_cons,List.set_append_left _ _ (by rw [hc];exact hk)];show _=(y::S).flatMap c;rw [List.flatMap_cons,hy];rfl
  |succ i=>
   rw [Nat.succ_mul,List.flatMap_cons,List.set_append_right _ _ (by rw [hc];omega),hc,show i*m+m+k-m=i*m+k by omega];show _=(x::S.set i y).flatMap c;rw [List.flatMap_cons,ih i k (by simpa using hi) hk hy]
end
def av (w:World) (g:Nat) (t:TypeId) (cs:Array Value):Prop:=w.heap[g]? =some (.cells cs t (0,0))
section
variable {w w':World} {g:Nat} {t:TypeId} {cs:Array Value}
theorem av.lt (h:av w g t cs):g<w.heap.size:=by
 rcases Nat.lt_or_ge g w.heap.size with hlt|hge
 ·exact hlt
 ·unfold av at h;rw [Array.getElem?_eq_none hge]at h;cases h
theorem av.cell (h:av w g t cs) (i:Nat):w.cell? ⟨g,i,none⟩=cs[i]? :=cell_of_row w g i cs t (0,0) h
theorem av.amv {x0 x1 aZ:Value} {l:List Value} (h:av w g t (x0::x1::aZ::l).toArray):w.cell? ↑g=some x0∧w.cell? ⟨g,1,none⟩=some x1∧w.cell? ⟨g,2,none⟩=some aZ:=⟨h.cell 0,h.cell 1,h.cell 2⟩
theorem av.amw {x0 x1 aZ cl:Value} {l:List Value} (h:av w g t (x0::x1::aZ::cl::l).toArray):w.cell? ↑g=some x0∧w.cell? ⟨g,1,none⟩=some x1∧w.cell? ⟨g,2,none⟩=some aZ∧w.cell? ⟨g,3,none⟩=some cl:=⟨h.cell 0,h.cell 1,h.cell 2,h.cell 3⟩
theorem av.amx {x0 x1 aZ cl cw:Value} {l:List Value} (h:av w g t (x0::x1::aZ::cl::cw::l).toArray):w.cell? ↑g=some x0∧w.cell? ⟨g,1,none⟩=some x1∧w.cell? ⟨g,2,none⟩=some aZ∧w.cell? ⟨g,3,none⟩=some cl∧w.cell? ⟨g,4,none⟩=some cw:=⟨h.cell 0,h.cell 1,h.cell 2,h.cell 3,h.cell 4⟩
theorem av.amy {x0 x1 aZ cl cw eK:Value} {l:List Value} (h:av w g t (x0::x1::aZ::cl::cw::eK::l).toArray):w.cell? ↑g=some x0∧w.cell? ⟨g,1,none⟩=some x1∧w.cell? ⟨g,2,none⟩=some aZ∧w.cell? ⟨g,3,none⟩=some cl∧w.cell? ⟨g,4,none⟩=some cw∧w.cell? ⟨g,5,none⟩=some eK:=⟨h.cell 0,h.cell 1,h.cell 2,h.cell 3,h.cell 4,h.cell 5⟩
theorem av.amz {x0 x1 aZ cl cw eK gF:Value} {l:List Value} (h:av w g t (x0::x1::aZ::cl::cw::eK::gF::l).toArray):w.cell? ↑g=some x0∧w.cell? ⟨g,1,none⟩=some x1∧w.cell? ⟨g,2,none⟩=some aZ∧w.cell? ⟨g,3,none⟩=some cl∧w.cell? ⟨g,4,none⟩=some cw∧w.cell? ⟨g,5,none⟩=some eK∧w.cell? ⟨g,6,none⟩=some gF:=⟨h.cell 0,h.cell 1,h.cell 2,h.cell 3,h.cell 4,h.cell 5,h.cell 6⟩
theorem av.amA {x0 x1 aZ cl cw eK gF g5:Value} {l:List Value} (h:av w g t (x0::x1::aZ::cl::cw::eK::gF::g5::l).toArray):w.cell? ↑g=some x0∧w.cell? ⟨g,1,none⟩=some x1∧w.cell? ⟨g,2,none⟩=some aZ∧w.cell? ⟨g,3,none⟩=some cl∧w.cell? ⟨g,4,none⟩=some cw∧w.cell? ⟨g,5,none⟩=some eK∧w.cell? ⟨g,6,none⟩=some gF∧w.cell? ⟨g,7,none⟩=some g5:=⟨h.cell 0,h.cell 1,h.cell 2,h.cell 3,h.cell 4,h.cell 5,h.cell 6,h.cell 7⟩
theorem av.amB {x0 x1 aZ cl cw eK gF g5 k5:Value} {l:List Value} (h:av w g t (x0::x1::aZ::cl::cw::eK::gF::g5::k5::l).toArray):w.cell? ↑g=some x0∧w.cell? ⟨g,1,none⟩=some x1∧w.cell? ⟨g,2,none⟩=some aZ∧w.cell? ⟨g,3,none⟩=some cl∧w.cell? ⟨g,4,none⟩=some cw∧w.cell? ⟨g,5,none⟩=some eK∧w.cell? ⟨g,6,none⟩=some gF∧w.cell? ⟨g,7,none⟩=some g5∧w.cell? ⟨g,8,none⟩=some k5:=⟨h.cell 0,h.cell 1,h.cell 2,h.cell 3,h.cell 4,h.cell 5,h.cell 6,h.cell 7,h.cell 8⟩
theorem av.amC {x0 x1 aZ cl cw eK gF g5 k5 sB:Value} {l:List Value} (h:av w g t (x0::x1::aZ::cl::cw::eK::gF::g5::k5::sB::l).toArray):w.cell? ↑g=some x0∧w.cell? ⟨g,1,none⟩=some x1∧w.cell? ⟨g,2,none⟩=some aZ∧w.cell? ⟨g,3,none⟩=some cl∧w.cell? ⟨g,4,none⟩=some cw∧w.cell? ⟨g,5,none⟩=some eK∧w.cell? ⟨g,6,none⟩=some gF∧w.cell? ⟨g,7,none⟩=some g5∧w.cell? ⟨g,8,none⟩=some k5∧w.cell? ⟨g,9,none⟩=some sB:=⟨h.cell 0,h.cell 1,h.cell 2,h.cell 3,h.cell 4,h.cell 5,h.cell 6,h.cell 7,h.cell 8,h.cell 9⟩
theorem av.amD {x0 x1 aZ cl cw eK gF g5 k5 sB Na:Value} {l:List Value} (h:av w g t (x0::x1::aZ::cl::cw::eK::gF::g5::k5::sB::Na::l).toArray):w.cell? ↑g=some x0∧w.cell? ⟨g,1,none⟩=some x1∧w.cell? ⟨g,2,none⟩=some aZ∧w.cell? ⟨g,3,none⟩=some cl∧w.cell? ⟨g,4,none⟩=some cw∧w.cell? ⟨g,5,none⟩=some eK∧w.cell? ⟨g,6,none⟩=some gF∧w.cell? ⟨g,7,none⟩=some g5∧w.cell? ⟨g,8,none⟩=some k5∧w.cell? ⟨g,9,none⟩=some sB∧w.cell? ⟨g,10,none⟩=some Na:=⟨h.cell 0,h.cell 1,h.cell 2,h.cell 3,h.cell 4,h.cell 5,h.cell 6,h.cell 7,h.cell 8,h.cell 9,h.cell 10⟩
theorem av.frozen (h:av w g t cs) (i:Nat):w.frozen? ⟨g,i,none⟩=false:=by
 unfold av at h;simp [World.frozen?,h]
theorem av.new (w:World) (t:TypeId) (cs:Array Value):av (w.alloc (.cells cs t)) w.heap.size t cs:=heap_alloc_new w _
theorem av.drew (h:av w g t cs):av w.drew g t cs:=h
theorem av.drewN (h:av w g t cs) (n:Nat):av (w.drewN n) g t cs:=h
theorem av.alloc (h:av w g t cs) (o:Obj):av (w.alloc o) g t cs:=(Below.heap_alloc w o g h.lt).trans h
theorem av.aW (h:av w g t cs) (i:Nat) (u:Value):av (w.setCell ⟨g,i,none⟩ u) g t (cs.setIfInBounds i u):=by
 unfold av at h⊢;simp [World.setCell,Array.getElem?_modify,h]
theorem av.cC (h:av w g t cs) {p:Addr} (hp:g≠p.block) (u:Value):av (w.setCell p u) g t cs:=(Below.heap_setCell w p u g hp).trans h
end
structure aK (F:Nat→Prop) (w w':World):Prop where
 os:w'.os=w.os
 tape:w'.tape=w.tape
 output:w'.output=w.output
 size:w.heap.size≤w'.heap.size
 block:∀k,k<w.heap.size→¬F k→w'.heap[k]? =w.heap[k]?
section
variable {F G:Nat→Prop} {w w1 w2:World}
theorem aK.refl (F:Nat→Prop) (w:World):aK F w w:=⟨rfl,rfl,rfl,Nat.le_refl _,fun _ _ _=>rfl⟩
theorem aK.trans (h:aK F w w1) (k:aK F w1 w2):aK F w w2:=
 ⟨k.os.trans h.os,k.tape.trans h.tape,k.output.trans h.output,Nat.le_trans h.size k.size,fun i hi hf=>(k.block i (Nat.lt_of_lt_of_le hi h.size) hf).trans (h.block i hi hf)⟩
theorem aK.more (h:aK F w w1) (agn:∀k,F k→G k):aK G w w1:=⟨h.os,h.tape,h.output,h.size,fun k hk hg=>h.block k hk fun hf=>hg (agn k hf)⟩
theorem aK.step (h:aK F w w1) (k:aK G w1 w2) (hG:∀i,i<w.heap.size→G i→F i):aK F w w2:=
 ⟨k.os.trans h.os,k.tape.trans h.tape,k.output.trans h.output,Nat.le_trans h.size k.size,fun i hi hf=>(k.block i (Nat.lt_of_lt_of_le hi h.size) fun hg=>hf (hG i hi hg)).trans (h.block i hi hf)⟩
theorem aK.drew (h:aK F w w1):aK F w w1.drew:=⟨h.os,h.tape,h.output,h.size,h.block⟩
theorem aK.drewN (h:aK F w w1) (n:Nat):aK F w (w1.drewN n):=⟨h.os,h.tape,h.output,h.size,h.block⟩
theorem aK.alloc (h:aK F w w1) (o:Obj):aK F w (w1.alloc o):=
 ⟨h.os,h.tape,h.output,by have:=h.size;simp;omega,fun k hk hf=>(Below.heap_alloc w1 o k (Nat.lt_of_lt_of_le hk h.size)).trans (h.block k hk hf)⟩
theorem aK.setCell (h:aK F w w1) {p:Addr} (hp:p.block<w.heap.size→F p.block) (u:Value):aK F w (w1.setCell p u):=
 ⟨h.os,h.tape,h.output,by have:=h.size;simp [World.setCell];omega,fun k hk hf=>(Below.heap_setCell w1 p u k fun e=>hf (by rw [e];exact hp (by rw [←e];exact hk))).trans (h.block k hk hf)⟩
theorem aK.below {B:Nat} (h:aK F w w1) (hF:∀k,F k→B≤k) (hB:B≤w.heap.size):Below B w w1:=
 ⟨h.os,h.tape,h.output,h.size,fun k hk=>h.block k (Nat.lt_of_lt_of_le hk hB) fun hf=>by have:=hF k hf;omega⟩
theorem Below.keeps (h:Below w.heap.size w w1):aK F w w1:=⟨h.os,h.tape,h.output,h.size,fun k hk _=>h.block k hk⟩
theorem av.keeps {g:Nat} {t:TypeId} {cs:Array Value} (h:av w g t cs) (hk:aK F w w1) (hg:¬F g):av w1 g t cs:=(hk.block g h.lt hg).trans h
end
theorem agY {w:World} {B:Nat} {t:TypeId} {size n:Nat} {v:Value} {xs:List Value} (h:w.ownsRow B t size v n xs):∃a c,v= .slice a n c:=by
 rcases h.2 with⟨rfl,h0⟩|⟨g,cap,cur,rfl,_⟩
 ·exact⟨none,0,by rw [h0]⟩
 ·exact⟨_,_,rfl⟩
theorem cS {w:World} {B:Nat} {t:TypeId} {size n:Nat} {v:Value} {xs:List Value} (h:w.ownsRow B t size v n xs):∀g,v.ownBlock=some g→B≤g:=by
 intro g hg;rcases h.2 with⟨rfl,h0⟩|⟨g',cap,cur,rfl,hb,_⟩
 ·cases hg
 ·have:g'=g:=by simpa [Value.ownBlock]using hg
  omega
theorem ki {w:World} {B:Nat} {t:TypeId} {size n:Nat} {v:Value} {xs:List Value} (h:w.ownsRow B t size v n xs):∀g,v.ownBlock=some g→g<w.heap.size:=by
 intro g hg;rcases h.2 with⟨rfl,h0⟩|⟨g',cap,cur,rfl,hb,hh,_⟩
 ·cases hg
 ·have:g'=g:=by simpa [Value.ownBlock]using hg
  subst this;rcases Nat.lt_or_ge g' w.heap.size with hlt|hge
  ·exact hlt
  ·rw [Array.getElem?_eq_none hge]at hh;cases hh
theorem zv {w w':World} {B:Nat} {t:TypeId} {size n:Nat} {v:Value} {xs:List Value} {F:Nat→Prop} (h:w.ownsRow B t size v n xs) (hk:aK F w w') (hf:∀g,v.ownBlock=some g→¬F g):w'.ownsRow B t size v n xs:=by
 have hl:=ki h;refine⟨h.1,?_⟩;rcases h.2 with h2|⟨g,cap,cur,hv,hb,hh,r⟩
 ·exact .inl h2
 ·have hg:v.ownBlock=some g:=by rw [hv];rfl
  exact .inr ⟨g,cap,cur,hv,hb,(hk.block g (hl g hg) (hf g hg)).trans hh,r⟩
theorem Nf {w w':World} {B:Nat} {t:TypeId} {size n:Nat} {v:Value} {xs:List Value} (h:w.ownsRow B t size v n xs) (hb:Below w.heap.size w w'):w'.ownsRow B t size v n xs:=
 zv h (Below.keeps (F:=fun _=>False) hb) fun _ _ x=>x
theorem fK {w w':World} {r:Option Nat} (h:w.grownBy w' r):aK (fun g=>r=some g) w w':=
 ⟨h.os,h.tape,h.output,h.size,fun k hk hf=>h.block k hk fun e=>hf e.symm⟩
theorem iJ {w0 w w':World} {r:Option Nat} (h:w.grownBy w' r) (hb:Below w0.heap.size w0 w) (hr:∀g,r=some g→w0.heap.size≤g):Below w0.heap.size w0 w':=
 ⟨h.os.trans hb.os,h.tape.trans hb.tape,h.output.trans hb.output,Nat.le_trans hb.size h.size,fun k hk=>(h.block k (Nat.lt_of_lt_of_le hk hb.size) (fun e=>by have:=hr k e.symm;omega)).trans (hb.block k hk)⟩
def ck (w:World) (g:Nat) (t:TypeId):Prop:=∃cs,w.heap[g]? =some (.cells cs t (0,0))
theorem ck.ne {w:World} {g g':Nat} {t t':TypeId} (h:ck w g t) (h':ck w g' t') (hne:t≠t'):g≠g':=by
 rintro rfl;obtain⟨cs,h⟩:=h;obtain⟨cs',h'⟩:=h';rw [h]at h';injection h' with h';injection h' with _ h';exact hne h'
theorem eo {w:World} {B:Nat} {t:TypeId} {size n:Nat} {v:Value} {xs:List Value} (h:w.ownsRow B t size v n xs):∀g,v.ownBlock=some g→ck w g t:=by
 intro g hg;rcases h.2 with⟨rfl,h0⟩|⟨g',cap,cur,rfl,hb,hh,_⟩
 ·cases hg
 ·have:g'=g:=by simpa [Value.ownBlock]using hg
  subst this;exact⟨_,hh⟩
theorem av.aE {w:World} {g:Nat} {t:TypeId} {cs:Array Value} (h:av w g t cs):ck w g t:=⟨_,h⟩
theorem Yl {sH:Option Addr} {n c g:Nat} {w:World} {B:Nat} {t:TypeId} {size m:Nat} {xs:List Value} (h:w.ownsRow B t size (.slice sH n c) m xs) (hg:(Value.slice sH n c).ownBlock=some g):sH=some ⟨g,0,none⟩:=by
 rcases h.2 with⟨hv,_⟩|⟨g',cap',_,hv,_⟩
 ·rw [hv]at hg;cases hg
 ·rw [hv]at hg
  have e:g'=g:=by simpa [Value.ownBlock]using hg
  injection hv with e1;rw [e1,e]
theorem vE (b off m:Nat):(⟨b,off,none⟩:Addr).add m=⟨b,off+m,none⟩:=by
 unfold Addr.add;split
 ·rename_i h;rw [h,Nat.add_zero]
 ·rfl
def q2 (w:World) (B:Nat) (t:TypeId) (v:Value) (L:List Int):Prop:=w.ownsRow B t 1 v L.length (L.map (Value.int .i64))
theorem q2.ints {w:World} {B:Nat} {t:TypeId} {a:Option Addr} {m c:Nat} {L:List Int} (h:q2 w B t (.slice a m c) L) (hok:∀x∈L,cz x):rS w a L:=by
 intro j x hj;have hjl:=dM hj;refine⟨hok x (List.mem_of_getElem? hj),?_⟩;have hl:=ki h;rcases h.2 with⟨hv,h0⟩|⟨g,cap,cur,hv,hb,hh,r⟩
 ·omega
 ·injection hv with hv1 kf Hj
  subst hv1;subst kf;refine⟨g,0,rfl,hl g rfl,?_⟩;have:=World.ownsRow.cellAt h j (by omega);rw [Nat.zero_add,this,List.getElem?_map,hj];rfl
theorem JW {w aA:World} {o:Obj} {B:Nat} {t:TypeId} {size n:Nat} {v:Value} {xs:List Value} (hown:w.ownsRow B t size v n xs) (hg:(w.alloc o).grownBy aA v.ownBlock) {g:Nat} {t':TypeId} {cs:Array Value} (hb:av w g t' cs) (hne:t'≠t):av aA g t' cs:=
 (hb.alloc o).keeps (fK hg) fun h=>hb.aE.ne (eo hown g h) hne rfl
theorem W0 {w aA:World} {o:Obj} {B:Nat} {t:TypeId} {size n:Nat} {v:Value} {xs:List Value} (hown:w.ownsRow B t size v n xs) (hg:(w.alloc o).grownBy aA v.ownBlock) {B':Nat} {t':TypeId} {size' n':Nat} {v':Value} {xs':List Value} (h:w.ownsRow B' t' size' v' n' xs') (hne:t'≠t):aA.ownsRow B' t' size' v' n' xs':=
 zv (Nf h (Below.aI w o)) (fK hg) fun g h1 h2=>(eo h g h1).ne (eo hown g h2) hne rfl
theorem QA {W w aA:World} {o:Obj} {t:TypeId} {size n:Nat} {v:Value} {xs:List Value} (hown:w.ownsRow W.heap.size t size v n xs) (hg:(w.alloc o).grownBy aA v.ownBlock) (hb:Below W.heap.size W w):Below W.heap.size W aA:=
 iJ hg (hb.alloc hb.size o) (cS hown)
theorem JY {w:World} {B:Nat} {t:TypeId} {size n:Nat} {v:Value} {xs:List Value} (h:w.ownsRow B t size v n xs) {g:Nat} {t':TypeId} {cs:Array Value} (hb:av w g t' cs) (hne:t≠t') (i:Nat) (u:Value):(w.setCell ⟨g,i,none⟩ u).ownsRow B t size v n xs:=
 zv h ((aK.refl (fun k=>k=g) w).setCell (p:=⟨g,i,none⟩) (fun _=>rfl) u) fun k hk e=>(eo h k hk).ne hb.aE hne e
theorem agZ:(Tryz.prog.info? 3).map (fun i=>(i.zero,i.size,i.bytes))=some (some (.int .i64 0),1,8):=by kernel_rfl
theorem ag0:(Tryz.prog.info? 2).map (fun i=>(i.zero,i.size,i.bytes))=some (some (.int .i64 0),1,8):=by kernel_rfl
theorem afs {w:World} {ops:Array Oper} {rest:List Oper} {o:Oper} {a:Act} {Q:Exit→Act→World→Prop} (hgd:o.guard=none) (s x:Operand)
 (ho:o.op= .call {callee:= .builtin .append,args:=#[s,x],argTypes:=#[22,22]})
 (B:Nat) (a0:Option Addr) (c0 n:Nat) (L:List Int) (hn:L.length=n) (hs:a.eval s= .slice a0 n c0) (hown:q2 w B 3 (.slice a0 n c0) L)
 (g:Nat) (y:Int) (hx:a.eval x= .slice ↑g 1 1) (hc:w.cell? ↑g=some ↑y) (hle:n≤1000000) (hB:B≤w.heap.size)
 (h:∀g' cap w',q2 w' B 3 (.slice (some ⟨g',0,none⟩) (n+1) cap) (L++ [y])→w.grownBy w' (Value.slice a0 n c0).ownBlock→(a0=some ⟨g',0,none⟩∨g'=w.heap.size)→wpList Tryz.prog ops Q rest (a.put o.dst (.slice (some ⟨g',0,none⟩) (n+1) cap)) w'):wpList Tryz.prog ops Q (o::rest) a w:=by
 subst hn;obtain⟨i0,hi,dm,hz1,eg⟩:=info_parts agZ;refine wpList_append_own_at w hgd s x 22 ho B 3 i0 _ 1 8 Tryz.underlying22 hi dm hz1 eg rfl (by omega) (.slice a0 L.length c0) L.length (L.map (Value.int .i64)) hs hown ⟨g,0,none⟩ 1 1 [↑y] hx rfl ?_ ?_ (by unfold maxLen;omega) (by omega) hB ?_
 ·intro j u hj
  have hj0:j=0:=by have:=dM hj;simp at this;exact this
  subst hj0;simp at hj;subst hj;rw [vE];exact hc
 ·intro u hu
  simp at hu;subst hu;rfl
 ·intro v' w' h1 h2 h3 h4
  obtain⟨g',cap,hv⟩:∃g' cap,v'= .slice (some ⟨g',0,none⟩) (L.length+1) cap:=by
   rcases h1.2 with⟨_,h0⟩|⟨g',cap,_,hv,_⟩
   ·omega
   ·exact⟨g',cap,hv⟩
  subst hv;refine h g' cap w' ?_ h2 ?_
  ·unfold q2
   rw [List.length_append,List.map_append];exact h1
  ·rcases h4 with h4|h4
   ·exact .inl (Yl hown h4.symm)
   ·have h6:some g'=some w.heap.size:=h4
    injection h6 with h6;exact .inr h6
theorem afw {w:World} {ops:Array Oper} {rest:List Oper} {o:Oper} {a:Act} {Q:Exit→Act→World→Prop} (hgd:o.guard=none) (s x:Operand)
 (ho:o.op= .call {callee:= .builtin .append,args:=#[s,x],argTypes:=#[23,23]})
 (B:Nat) (a0:Option Addr) (c0 n:Nat) (L:List Int) (hn:L.length=n) (hs:a.eval s= .slice a0 n c0) (hown:q2 w B 2 (.slice a0 n c0) L)
 (g:Nat) (y:Int) (hx:a.eval x= .slice ↑g 1 1) (hc:w.cell? ↑g=some ↑y) (hle:n≤1000000) (hB:B≤w.heap.size)
 (h:∀g' cap w',q2 w' B 2 (.slice (some ⟨g',0,none⟩) (n+1) cap) (L++ [y])→w.grownBy w' (Value.slice a0 n c0).ownBlock→(a0=some ⟨g',0,none⟩∨g'=w.heap.size)→wpList Tryz.prog ops Q rest (a.put o.dst (.slice (some ⟨g',0,none⟩) (n+1) cap)) w'):wpList Tryz.prog ops Q (o::rest) a w:=by
 subst hn;obtain⟨i0,hi,dm,hz1,eg⟩:=info_parts ag0;refine wpList_append_own_at w hgd s x 23 ho B 2 i0 _ 1 8 Tryz.underlying23 hi dm hz1 eg rfl (by omega) (.slice a0 L.length c0) L.length (L.map (Value.int .i64)) hs hown ⟨g,0,none⟩ 1 1 [↑y] hx rfl ?_ ?_ (by unfold maxLen;omega) (by omega) hB ?_
 ·intro j u hj
  have hj0:j=0:=by have:=dM hj;simp at this;exact this
  subst hj0;simp at hj;subst hj;rw [vE];exact hc
 ·intro u hu
  simp at hu;subst hu;rfl
 ·intro v' w' h1 h2 h3 h4
  obtain⟨g',cap,hv⟩:∃g' cap,v'= .slice (some ⟨g',0,none⟩) (L.length+1) cap:=by
   rcases h1.2 with⟨_,h0⟩|⟨g',cap,_,hv,_⟩
   ·omega
   ·exact⟨g',cap,hv⟩
  subst hv;refine h g' cap w' ?_ h2 ?_
  ·unfold q2
   rw [List.length_append,List.map_append];exact h1
  ·rcases h4 with h4|h4
   ·exact .inl (Yl hown h4.symm)
   ·have h6:some g'=some w.heap.size:=h4
    injection h6 with h6;exact .inr h6
structure bl (α:Type) where
 cells:α→List Value
 m:Nat
 len:∀x,(cells x).length=m
 one:∀x,∀u∈cells x,u.oneCell'=true
 pos:0<m
 t:TypeId
 ts:TypeId
 z:Value
 bytes:Nat
 und:Tryz.prog.underlying ts=some (.slice t)
 info:(Tryz.prog.info? t).map (fun i=>(i.zero,i.size,i.bytes))=some (some z,m,bytes)
 zs:z.cells.size=m
 small:bytes≤1000
def iI (w:World) (b o:Nat) (cs:List Value):Prop:=∀k u,cs[k]? =some u→w.cell? ⟨b,o+k,none⟩=some u
theorem iI.below {w w':World} {b o:Nat} {cs:List Value} (h:iI w b o cs) (hb:Below w.heap.size w w') (hl:b<w.heap.size):iI w' b o cs:=
 fun k u hu=>(hb.cell (p:=⟨b,o+k,none⟩) hl).trans (h k u hu)
theorem iI.keeps {w w':World} {F:Nat→Prop} {b o:Nat} {cs:List Value} (h:iI w b o cs) (hk:aK F w w') (hl:b<w.heap.size) (hf:¬F b):iI w' b o cs:=by
 intro k u hu;have h1:=h k u hu;unfold World.cell? at h1⊢;rw [show(⟨b,o+k,none⟩:Addr).block=b from rfl]at h1⊢;rw [hk.block b hl hf];exact h1
theorem av.gH {w:World} {g:Nat} {t:TypeId} {cs:List Value} (h:av w g t cs.toArray):iI w g 0 cs:=by
 intro k u hu;rw [h.cell,Nat.zero_add,List.getElem?_toArray];exact hu
section
variable {α:Type} (Y:bl α)
def bl.fR (w:World) (a:Option Addr) (L:List α):Prop:=∀j e,L[j]? =some e→∃b off,a=some ⟨b,off,none⟩∧b<w.heap.size∧iI w b (off+j*Y.m) (Y.cells e)
def bl.Row (w:World) (B:Nat) (v:Value) (L:List α):Prop:=w.ownsRow B Y.t Y.m v L.length (L.flatMap Y.cells)
variable {Y} {w w':World} {B:Nat} {v:Value} {L:List α}
theorem bl.fR.below {a:Option Addr} (h:Y.fR w a L) (hb:Below w.heap.size w w'):Y.fR w' a L:=by
 intro j e hj;obtain⟨b,off,h1,h2,h3⟩:=h j e hj;exact⟨b,off,h1,Nat.lt_of_lt_of_le h2 hb.size,h3.below hb h2⟩
theorem bl.fR.nil {a:Option Addr}:Y.fR w a []:=fun j e h=>by simp at h
theorem bl.fR.take {a:Option Addr} (h:Y.fR w a L) (n:Nat):Y.fR w a (L.take n):=by
 intro j e hj;rw [List.getElem?_take]at hj;split at hj
 ·exact h j e hj
 ·cases hj
theorem bl.Row.form (h:Y.Row w B v L):∃a c,v= .slice a L.length c:=agY h
theorem bl.Row.nil (w:World) (B:Nat):Y.Row w B (.slice none 0 0) []:=⟨by simp,.inl ⟨rfl,rfl⟩⟩
theorem bl.Row.empty (w:World):Y.Row (w.alloc (.cells #[] Y.t)) w.heap.size (.slice ↑w.heap.size 0 0) []:=
 ⟨by simp,.inr ⟨w.heap.size,0,#[],rfl,Nat.le_refl _,av.new w Y.t #[],Nat.le_refl _,Nat.zero_le _,by simp,by simp⟩⟩
theorem bl.Row.below (h:Y.Row w B v L) (hb:Below w.heap.size w w'):Y.Row w' B v L:=Nf h hb
theorem bl.Row.at_ (h:Y.Row w B v L) (j:Nat) (e:α) (hj:L[j]? =some e):∃g cap,v= .slice (some ⟨g,0,none⟩) L.length cap∧g<w.heap.size∧iI w g (j*Y.m) (Y.cells e):=by
 have hl:=ki h;rcases h.2 with⟨hv,h0⟩|⟨g,cap,cur,hv,hb,hh,r⟩
 ·have:=dM hj;omega
 ·subst hv
  have hg:=hl g rfl;refine⟨g,cap,rfl,hg,?_⟩;have hjl:=dM hj;obtain⟨_,Se⟩:=lB hj;intro k u hu;have hk:k<Y.m:=by have:=dM hu;rw [Y.len]at this;exact this
  have hlt:j*Y.m+k<L.length*Y.m:=by
   have:=Nat.mul_le_mul_right Y.m (show j+1≤L.length by omega);rw [Nat.add_mul,Nat.one_mul]at this;omega
  rw [h.cellAt (j*Y.m+k) hlt,NA Y.cells Y.m Y.len L j k hjl hk,Se];exact hu
theorem bl.Row.rd (h:Y.Row w B v L):∃a c,v= .slice a L.length c∧(a=none→c=0)∧Y.fR w a L:=by
 obtain⟨a,c,hv⟩:=h.form
 have hac:a=none→c=0:=by
  rintro rfl;rcases h.2 with⟨h2,_⟩|⟨g,cap,cur,h2,_⟩
  ·rw [hv]at h2;injection h2
  ·rw [hv]at h2;injection h2 with h2;cases h2
 refine⟨a,c,hv,hac,fun j e hj=>?_⟩;obtain⟨g,cap,h1,h2,h3⟩:=h.at_ j e hj;rw [hv]at h1;injection h1 with h1;exact⟨g,0,h1,h2,by rw [Nat.zero_add];exact h3⟩
theorem bl.kI (Y:bl α) (L:List α):∀u∈L.flatMap Y.cells,u.oneCell'=true:=by
 intro u hu;rw [List.mem_flatMap]at hu;obtain⟨e,_,hu⟩:=hu;exact Y.one e u hu
theorem bl.fR.cells {b off:Nat} (h:Y.fR w (some ⟨b,off,none⟩) L):∀j u,(L.flatMap Y.cells)[j]? =some u→w.cell? ((⟨b,off,none⟩:Addr).add j)=some u:=by
 intro j u hu;have hj:=dM hu;rw [mK Y.cells Y.m Y.len]at hj;have hi:j / Y.m<L.length:=(Nat.div_lt_iff_lt_mul Y.pos).2 hj;have hr:j % Y.m<Y.m:=Nat.mod_lt _ Y.pos;have h1:=NA Y.cells Y.m Y.len L (j / Y.m) (j % Y.m) hi hr;have Zu:j / Y.m*Y.m+j % Y.m=j:=Nat.div_add_mod' j Y.m;rw [Zu,hu]at h1;obtain⟨b',off',he,_,h2⟩:=h (j / Y.m) _ (List.getElem?_eq_getElem hi);have e1:b=b'∧off=off':=by injection he with he;injection he with x y;exact⟨x,y⟩
 obtain⟨rfl,rfl⟩:=e1;rw [vE,show off+j=off+j / Y.m*Y.m+j % Y.m by rw [Nat.add_assoc,Zu]];exact h2 _ _ h1.symm
theorem iI.rd {g:Nat} {e:α} (hg:g<w.heap.size) (h:iI w g 0 (Y.cells e)):Y.fR w ↑g [e]:=by
 intro j x hj;have hj0:j=0:=by have:=dM hj;simp at this;exact this
 subst hj0;have:x=e:=by simp at hj;exact hj.symm
 subst this;exact⟨g,0,rfl,hg,by rw [Nat.zero_mul];exact h⟩
theorem bl.KH (Y:bl α) {w:World} {B:Nat} {v:Value} {L:List α} (ty:TypeId) (hown:Y.Row w B v L) (ad:Addr) (c:Nat) (M:List α) (had:∃b off,ad=⟨b,off,none⟩) (hr:Y.fR w (some ad) M) (hle:L.length+M.length≤1000000) (hbase:B≤w.heap.size):
 ∃v' w',(Builtin.append_ #[Y.ts,Y.ts] ty #[v,.slice (some ad) M.length c]).run Tryz.prog w= .ok v' w'∧Y.Row w' B v' (L++M)∧w.grownBy w' v.ownBlock∧(v'.ownBlock=v.ownBlock∨v'.ownBlock=some w.heap.size):=by
 obtain⟨b,off,rfl⟩:=had;obtain⟨i0,hi,dm,hz1,eg⟩:=info_parts Y.info
 have mX:(L.length+M.length)*Y.bytes≤140737488355328:=by
  have:=Nat.mul_le_mul hle Y.small;omega
 obtain⟨v',w',h1,h2,h3,_,h5⟩:=run_append_own_at (P:=Tryz.prog) w B Y.ts ty Y.t i0 Y.z Y.m Y.bytes Y.und hi dm hz1 eg Y.zs Y.pos v L.length _ hown ⟨b,off,none⟩ M.length c (M.flatMap Y.cells) (by rw [mK Y.cells Y.m Y.len]) hr.cells (Y.kI M) (by unfold maxLen;omega) mX hbase;refine⟨v',w',h1,?_,h3,h5⟩;unfold bl.Row;rw [List.length_append,List.flatMap_append];exact h2
theorem bl.push (Y:bl α) {w:World} {ops:Array Oper} {rest:List Oper} {o:Oper} {a:Act} {Q:Exit→Act→World→Prop} (hgd:o.guard=none) (s x:Operand)
 (ho:o.op= .call {callee:= .builtin .append,args:=#[s,x],argTypes:=#[Y.ts,Y.ts]})
 (B:Nat) (v:Value) (L:List α) (hs:a.eval s=v) (hown:Y.Row w B v L) (g:Nat) (e:α) (hx:a.eval x= .slice ↑g 1 1) (hg:g<w.heap.size) (hc:iI w g 0 (Y.cells e))
 (hle:L.length+1≤1000000) (hbase:B≤w.heap.size)
 (h:∀v' w',Y.Row w' B v' (L++ [e])→w.grownBy w' v.ownBlock→(v'.ownBlock=v.ownBlock∨v'.ownBlock=some w.heap.size)→wpList Tryz.prog ops Q rest (a.put o.dst v') w'):wpList Tryz.prog ops Q (o::rest) a w:=by
 refine wpList_plain hgd fun K hK=>?_;obtain⟨v',w',hr,h2,h3,h5⟩:=Y.KH o.type hown ⟨g,0,none⟩ 1 [e] ⟨g,0,rfl⟩ (iI.rd hg hc) hle hbase;rw [show([e]:List α).length=1 from rfl]at hr;unfold Oper.wp execOp;simp only [ho,resolve,invoke,builtin,Sem.run_bind,Sem.run_pure,Result.andThen_ok,List.map_toArray,List.map_cons,List.map_nil,hs,hx,hr];exact hK _ _ (h v' w' h2 h3 h5)
theorem bl.step (Y:bl α) {w:World} {ops:Array Oper} {o:Oper} {a:Act} {K:Act→World→Prop} {Q:Exit→Act→World→Prop} {E:Prop} (hgd:o.guard=none) (s x:Operand)
 (ho:o.op= .call {callee:= .builtin .append,args:=#[s,x],argTypes:=#[Y.ts,Y.ts]})
 (B:Nat) (v:Value) (L:List α) (hs:a.eval s=v) (hown:Y.Row w B v L) (g:Nat) (e:α) (hx:a.eval x= .slice ↑g 1 1) (hg:g<w.heap.size) (hc:iI w g 0 (Y.cells e))
 (hle:L.length+1≤1000000) (hbase:B≤w.heap.size)
 (h:∀v' w',Y.Row w' B v' (L++ [e])→w.grownBy w' v.ownBlock→(v'.ownBlock=v.ownBlock∨v'.ownBlock=some w.heap.size)→K (a.put o.dst v') w'):
 if Region.wanted o (yielded ops a.tmps)=true then Oper.wp Tryz.prog o a w K Q else E:=by
 have hw:Region.wanted o (yielded ops a.tmps)=true:=by simp [Region.wanted,hgd]
 rw [if_pos hw];obtain⟨v',w',hr,h2,h3,h5⟩:=Y.KH o.type hown ⟨g,0,none⟩ 1 [e] ⟨g,0,rfl⟩ (iI.rd hg hc) hle hbase;rw [show([e]:List α).length=1 from rfl]at hr;unfold Oper.wp execOp;simp only [ho,resolve,invoke,builtin,Sem.run_bind,Sem.run_pure,Result.andThen_ok,List.map_toArray,List.map_cons,List.map_nil,hs,hx,hr];exact h v' w' h2 h3 h5
theorem bl.wV (Y:bl α) {w:World} {ops:Array Oper} {rest:List Oper} {o:Oper} {a:Act} {Q:Exit→Act→World→Prop} (hgd:o.guard=none) (s x:Operand)
 (ho:o.op= .call {callee:= .builtin .append,args:=#[s,x],argTypes:=#[Y.ts,Y.ts]})
 (B:Nat) (v:Value) (L:List α) (hs:a.eval s=v) (hown:Y.Row w B v L) (A:Option Addr) (c:Nat) (M:List α) (hx:a.eval x= .slice A M.length c) (hac:A=none→c=0) (hrd:Y.fR w A M)
 (hA:∀ad,A=some ad→∃b off,ad=⟨b,off,none⟩) (hle:L.length+M.length≤1000000) (hbase:B≤w.heap.size)
 (h:∀v' w',Y.Row w' B v' (L++M)→w.grownBy w' v.ownBlock→(v'.ownBlock=v.ownBlock∨v'.ownBlock=some w.heap.size)→wpList Tryz.prog ops Q rest (a.put o.dst v') w'):wpList Tryz.prog ops Q (o::rest) a w:=by
 obtain⟨i0,hi,dm,hz1,eg⟩:=info_parts Y.info;rcases A with _|ad
 ·have fF:M= []:=by
   cases M with
   |nil=>rfl
   |cons e M=>obtain⟨b,off,h1,_⟩:=hrd 0 e rfl;cases h1
  subst fF;have hc:=hac rfl;subst hc;refine wpList_append_own_none hgd s x Y.ts ho B Y.t i0 Y.m Y.und hi v L.length _ hs hown hx ?_;exact h v w (by rw [List.append_nil];exact hown) (World.grownBy.refl w _) (.inl rfl)
 ·refine wpList_plain hgd fun K hK=>?_
  obtain⟨v',w',hr,h2,h3,h5⟩:=Y.KH o.type hown ad c M (hA ad rfl) hrd hle hbase;unfold Oper.wp execOp;simp only [ho,resolve,invoke,builtin,Sem.run_bind,Sem.run_pure,Result.andThen_ok,List.map_toArray,List.map_cons,List.map_nil,hs,hx,hr];exact hK _ _ (h v' w' h2 h3 h5)
end
end Go.Proofs.YtmaijkoopjocdaaGreat
namespace Go.Proofs.YtmaijkoopjocdaaGreat
open Go Go.Lib
structure bH where
 bs:List Int
 bad:Bool
deriving DecidableEq
def bH.take (n:Nat) (s:bH):List Int×bH:=if s.bad=true∨s.bs.length<n then([],⟨s.bs,true⟩)else(s.bs.take n,⟨s.bs.drop n,false⟩)
def bH.num (n:Nat) (s:bH):Int×bH:=(leZ (s.take n).1,(s.take n).2)
def bH.long (s:bH):Int×bH:=(IntKind.i64.wrap (s.num 8).1,(s.num 8).2)
def isByte (z:Int):Prop:=0≤z∧z≤255
def bH.ok (s:bH):Prop:=∀z∈s.bs,isByte z
theorem aly:leZ []=0:=rfl
theorem TT:∀(l:List Int),(∀z∈l,isByte z)→0≤leZ l∧leZ l<256^l.length
 | [],_=>⟨Int.le_refl 0,by decide⟩
 |z::r,h=>by
  have h1:=h z (by simp);have h2:=TT r (fun x hx=>h x (by simp [hx]));unfold isByte at h1;rw [leZ,List.length_cons,Int.pow_succ];omega
theorem bH.EP {n:Nat} {s:bH} (h:s.ok):(s.take n).2.ok∧∀z∈(s.take n).1,isByte z:=by
 unfold bH.take;split
 ·exact⟨h,fun z hz=>by simp at hz⟩
 ·exact⟨fun z hz=>h z (List.mem_of_mem_drop hz),fun z hz=>h z (List.mem_of_mem_take hz)⟩
theorem bH.Od {n:Nat} {s:bH} (h:s.ok):(s.num n).2.ok:=(bH.EP h).1
theorem bH.Oc {s:bH} (h:s.ok):s.long.2.ok:=bH.Od h
theorem bH.take_len (n:Nat) (s:bH):(s.take n).1.length≤n∧(s.take n).2.bs.length≤s.bs.length:=by
 unfold bH.take;split
 ·exact⟨Nat.zero_le _,Nat.le_refl _⟩
 ·exact⟨by rw [List.length_take];omega,by rw [List.length_drop];omega⟩
theorem bH.Lm {s:bH} (h:s.ok):0≤(s.num 1).1∧(s.num 1).1≤255:=by
 have h1:=TT _ (bH.EP (n:=1) h).2;have h2:=(bH.take_len 1 s).1;unfold bH.num;dsimp only;refine⟨h1.1,?_⟩;have:(s.take 1).1.length=0∨(s.take 1).1.length=1:=by omega
 rcases this with h3|h3<;>rw [h3]at h1<;>omega
theorem bH.alF {n:Nat} {s:bH} (h:s.bad=true):s.take n=([],s):=by
 unfold bH.take;rw [if_pos (.inl h)];cases s;simp_all
theorem L5 (z:Int): -9223372036854775808≤IntKind.i64.wrap z∧IntKind.i64.wrap z≤9223372036854775807:=by
 rw [IntKind.wrap_i64];omega
structure aB where
 ap:Int
 aq:Int
 count:Int
deriving DecidableEq
structure aX where
 lv:List aB
 im:aB
 has:Bool
deriving DecidableEq
abbrev bG:=List (aX×aX)
structure aF where
 seq:Int
 inst:Int
 side:Int
 ap:Int
 aq:Int
 count:Int
 imp:Bool
deriving DecidableEq
def jD:aB:=⟨0,0,0⟩
def vI:aX:=⟨[],jD,false⟩
def aF.lv (m:aF):aB:=⟨m.ap,m.aq,m.count⟩
def cT (side x y:Int):Bool:=if side=1 then decide (y<x)else decide (x<y)
theorem UL (side x y:Int) (h:x≠y):cT side x y= !cT side y x:=by
 unfold cT;by_cases hs:side=1
 ·rw [if_pos hs,if_pos hs]
  by_cases hx:y<x
  ·have hy:¬x<y:=by omega
   simp [hx,hy]
  ·have hy:x<y:=by omega
   simp [hx,hy]
 ·rw [if_neg hs,if_neg hs]
  by_cases hx:x<y
  ·have hy:¬y<x:=by omega
   simp [hx,hy]
  ·have hy:y<x:=by omega
   simp [hx,hy]
theorem Yb (side x:Int):cT side x x=false:=by
 unfold cT;split<;>simp
theorem D1 {side x y z:Int} (h:cT side x y=true) (k:cT side y z=true):cT side x z=true:=by
 unfold cT at*;split at h
 ·rename_i hs
  rw [if_pos hs]at k⊢;simp only [decide_eq_true_eq]at*;omega
 ·rename_i hs
  rw [if_neg hs]at k⊢;simp only [decide_eq_true_eq]at*;omega
theorem Gj {side x y:Int} (h:cT side x y=true):x≠y:=by
 rintro rfl;rw [Yb]at h;cases h
def kF (side:Int) (l:List aB):Prop:=l.Pairwise (fun a b=>cT side a.ap b.ap=true)
def o3 (m:aF) (l:List aB):List aB:=
 match l.findIdx? (fun y=>y.ap==m.ap)with
 |some n=>if m.aq=0 then l.take n++l.drop (n+1)else l.take n++m.lv::l.drop (n+1)
 |none=>if 0<m.aq then(match l.findIdx? (fun y=>cT m.side m.ap y.ap)with
  |some n=>l.take n++m.lv::l.drop n
  |none=>l++ [m.lv])else l
def ku (m:aF):List aB→List aB
 | []=>if 0<m.aq then [m.lv]else []
 |x::t=>if x.ap=m.ap then(if m.aq=0 then t else m.lv::t)else if cT m.side m.ap x.ap=true then(if 0<m.aq then m.lv::x::t else x::t)else x::ku m t
theorem Px {side p:Int} {x:aB} {t:List aB} (hs:kF side (x::t)) (h:x.ap=p∨cT side p x.ap=true):∀y∈t,y.ap≠p:=by
 intro y hy;have h1:=(List.pairwise_cons.1 hs).1 y hy;rcases h with rfl|h
 ·exact fun e=>Gj h1 e.symm
 ·exact fun e=>Gj (D1 h h1) e.symm
theorem alG {p:Int} {t:List aB} (h:∀y∈t,y.ap≠p):t.findIdx? (fun y=>y.ap==p)=none:=by
 rw [List.findIdx?_eq_none_iff];intro y hy
 simpa using h y hy
theorem F3 {m:aF}:∀{l:List aB},kF m.side l→o3 m l=ku m l
 | [],_=>by simp [o3,ku]
 |x::t,hs=>by
  have hst:kF m.side t:=(List.pairwise_cons.1 hs).2;have ih:=F3 hst;unfold ku;by_cases hx:x.ap=m.ap
  ·rw [if_pos hx]
   unfold o3;rw [List.findIdx?_cons,if_pos (by simpa using hx)];simp
  ·rw [if_neg hx]
   have NW:(x.ap==m.ap)=false:=by simpa using hx
   by_cases hb:cT m.side m.ap x.ap=true
   ·rw [if_pos hb]
    have hn:=alG (Px hs (.inr hb));unfold o3;rw [List.findIdx?_cons,NW,List.findIdx?_cons,hn];simp [hb]
   ·rw [if_neg hb]
    have jL:cT m.side m.ap x.ap=false:=by simpa using hb
    rw [←ih];unfold o3;rw [List.findIdx?_cons,NW,List.findIdx?_cons,jL];cases hi:t.findIdx? (fun y=>y.ap==m.ap)with
    |some n=>simp;split<;>simp
    |none=>
     simp only [Bool.false_eq_true,if_false,Option.map_none];split
     ·cases hj:t.findIdx? (fun y=>cT m.side m.ap y.ap)with
      |some n=>simp
      |none=>simp
     ·rfl
theorem acm {m:aF}:∀{l:List aB} {y:aB},y∈ku m l→y.ap=m.ap∨y∈l
 | [],y,h=>by
   unfold ku at h;split at h
   ·simp at h;subst h;exact .inl rfl
   ·simp at h
 |x::t,y,h=>by
  unfold ku at h;split at h
  ·split at h
   ·exact .inr (by simp [h])
   ·rcases List.mem_cons.1 h with rfl|h
    ·exact .inl rfl
    ·exact .inr (by simp [h])
  ·split at h
   ·split at h
    ·rcases List.mem_cons.1 h with rfl|h
     ·exact .inl rfl
     ·exact .inr h
    ·exact .inr h
   ·rcases List.mem_cons.1 h with rfl|h
    ·exact .inr (by simp)
    ·rcases acm h with h|h
     ·exact .inl h
     ·exact .inr (by simp [h])
theorem Pz {m:aF}:∀{l:List aB},kF m.side l→kF m.side (ku m l)
 | [],_=>by
   unfold ku;split
   ·exact List.pairwise_singleton _ _
   ·exact List.Pairwise.nil
 |x::t,hs=>by
  have hc:=List.pairwise_cons.1 hs;unfold ku;split
  ·rename_i hx
   split
   ·exact hc.2
   ·exact List.pairwise_cons.2 ⟨fun y hy=>by rw [show m.lv.ap=m.ap from rfl,←hx];exact hc.1 y hy,hc.2⟩
  ·rename_i hx
   split
   ·rename_i hb
    split
    ·refine List.pairwise_cons.2 ⟨fun y hy=>?_,hs⟩
     rcases List.mem_cons.1 hy with rfl|hy
     ·exact hb
     ·exact D1 hb (hc.1 y hy)
    ·exact hs
   ·rename_i hb
    refine List.pairwise_cons.2 ⟨fun y hy=>?_,Pz hc.2⟩;rcases acm hy with h|h
    ·rw [h,UL m.side x.ap m.ap hx];simpa using hb
    ·exact hc.1 y h
theorem acn {m:aF}:∀{l:List aB},(ku m l).length≤l.length+1
 | []=>by unfold ku;split<;>simp
 |x::t=>by
  have:=acn (m:=m) (l:=t);unfold ku;split
  ·split<;>simp<;>omega
  ·split
   ·split<;>simp
   ·simp;omega
def aX.app (m:aF) (x:aX):aX:=
 if m.imp=true then(if 0<m.aq then⟨x.lv,m.lv,true⟩else⟨x.lv,jD,false⟩)else⟨ku m x.lv,x.im,x.has⟩
def vv (m:aF) (p:aX×aX):aX×aX:=if m.side=1 then(p.1.app m,p.2)else(p.1,p.2.app m)
def gm (m:aF) (V:bG):bG:=V.modify m.inst.toNat (vv m)
def zQ (n:Nat) (m:aF):Bool:=decide (0≤m.inst∧m.inst<n∧(m.side=1∨m.side=2)∧0≤m.aq∧0≤m.count∧(m.aq=0↔m.count=0))
structure Az (n:Nat) (m:aF):Prop where
 i0:0≤m.inst
 i1:m.inst<n
 sd:m.side=1∨m.side=2
 q0:0≤m.aq
 c0:0≤m.count
 xh:m.aq=0↔m.count=0
theorem IA {n:Nat} {m:aF}:zQ n m=true↔Az n m:=by
 unfold zQ;rw [decide_eq_true_eq];exact⟨fun h=>⟨h.1,h.2.1,h.2.2.1,h.2.2.2.1,h.2.2.2.2.1,h.2.2.2.2.2⟩,fun h=>⟨h.i0,h.i1,h.sd,h.q0,h.c0,h.xh⟩⟩
def xU (V:bG):Prop:=∀p∈V,kF 1 p.1.lv∧kF 2 p.2.lv
def fX (V:bG) (k:Nat):Prop:=∀p∈V,p.1.lv.length≤k∧p.2.lv.length≤k
theorem fX.more {V:bG} {k j:Nat} (h:fX V k) (hk:k≤j):fX V j:=fun p hp=>⟨Nat.le_trans (h p hp).1 hk,Nat.le_trans (h p hp).2 hk⟩
theorem CK (m:aF) (V:bG):(gm m V).length=V.length:=by unfold gm;rw [List.length_modify]
theorem mem_modify {α:Type} {f:α→α} {l:List α} {i:Nat} {y:α} (h:y∈l.modify i f):y∈l∨∃x∈l,y=f x:=by
 rw [List.mem_iff_getElem?]at h;obtain⟨j,hj⟩:=h;rw [List.getElem?_modify]at hj;cases hl:l[j]? with
 |none=>rw [hl]at hj;simp at hj
 |some x=>
  rw [hl]at hj;simp only [Option.map_eq_map,Option.map_some,Option.some.injEq]at hj;have hx:x∈l:=List.mem_iff_getElem?.2 ⟨j,hl⟩;split at hj
  ·exact .inr ⟨x,hx,hj.symm⟩
  ·exact .inl (by rw [←hj];exact hx)
theorem aX.aco {m:aF} {x:aX} (h:kF m.side x.lv):kF m.side (x.app m).lv:=by
 unfold aX.app;split
 ·split<;>exact h
 ·exact Pz h
theorem aX.acp {m:aF} {x:aX} {k:Nat} (h:x.lv.length≤k):(x.app m).lv.length≤k+1:=by
 unfold aX.app;split
 ·split<;>exact Nat.le_succ_of_le h
 ·exact Nat.le_trans acn (by omega)
theorem M2 {m:aF} {V:bG} (hm:m.side=1∨m.side=2) (h:xU V):xU (gm m V):=by
 intro p hp;rcases mem_modify hp with hp|⟨x,hx,rfl⟩
 ·exact h p hp
 ·have h1:=h x hx
  unfold vv;rcases hm with hm|hm
  ·rw [if_pos hm];exact⟨hm▸aX.aco (hm.symm▸h1.1),h1.2⟩
  ·rw [if_neg (by omega)];exact⟨h1.1,hm▸aX.aco (hm.symm▸h1.2)⟩
theorem GY {m:aF} {V:bG} {k:Nat} (h:fX V k):fX (gm m V) (k+1):=by
 intro p hp;rcases mem_modify hp with hp|⟨x,hx,rfl⟩
 ·exact h.more (Nat.le_succ k) p hp
 ·have h1:=h x hx
  unfold vv;split
  ·exact⟨aX.acp h1.1,Nat.le_succ_of_le h1.2⟩
  ·exact⟨Nat.le_succ_of_le h1.1,aX.acp h1.2⟩
end Go.Proofs.YtmaijkoopjocdaaGreat
namespace Go.Proofs.YtmaijkoopjocdaaGreat
open Go.RowKit Go.Lib
theorem WL {α:Type} {P X D cur:List α} {a:Nat} (hP:cur.take a=P) (ha:a+X.length+D.length≤cur.length):
 ((cur.take (a+X.length)++D++cur.drop (a+X.length+D.length)).take a++X++(cur.take (a+X.length)++D++cur.drop (a+X.length+D.length)).drop (a+X.length))=P++X++D++cur.drop (a+X.length+D.length):=by
 have h1:(cur.take (a+X.length)).length=a+X.length:=by rw [List.length_take];omega
 have e1:(cur.take (a+X.length)++D++cur.drop (a+X.length+D.length)).take a=P:=by
  rw [List.append_assoc,List.take_append_of_le_length (by omega),List.take_take,Nat.min_eq_left (by omega),hP]
 have e2:(cur.take (a+X.length)++D++cur.drop (a+X.length+D.length)).drop (a+X.length)=D++cur.drop (a+X.length+D.length):=by
  rw [List.append_assoc,List.drop_append,List.drop_eq_nil_of_le (by omega),h1,Nat.sub_self,List.nil_append];rfl
 rw [e1,e2];simp
theorem WM {α:Type} {P X D cur:List α} {a:Nat} (hP:cur.take a=P) (ha:a+X.length+D.length≤cur.length):
 ((cur.take a++X++cur.drop (a+X.length)).take (a+X.length)++D++(cur.take a++X++cur.drop (a+X.length)).drop (a+X.length+D.length))=P++X++D++cur.drop (a+X.length+D.length):=by
 have h1:(cur.take a++X).length=a+X.length:=by rw [List.length_append,List.length_take];omega
 have e1:(cur.take a++X++cur.drop (a+X.length)).take (a+X.length)=P++X:=by
  rw [List.take_append_of_le_length (by omega),List.take_of_length_le (by omega),hP]
 have e2:(cur.take a++X++cur.drop (a+X.length)).drop (a+X.length+D.length)=cur.drop (a+X.length+D.length):=by
  rw [List.drop_append,List.drop_eq_nil_of_le (by omega),List.nil_append,h1,List.drop_drop]
  congr 1;omega
 rw [e1,e2]
theorem zC (w:World) (g:Nat) (cs:Array Value):aK (fun k=>k=g) w (w.setRow g cs):=⟨rfl,rfl,rfl,by simp,fun k _ h=>setRow_other w g k cs h⟩
theorem av.row {w:World} {g:Nat} {t:TypeId} {cs:Array Value} (h:av w g t cs) (cs':Array Value):av (w.setRow g cs') g t cs':=setRow_heap w g cs cs' t (0,0) h
theorem step_eq {w:World} {ops:Array Oper} {o:Oper} {a:Act} {K:Act→World→Prop} {Q:Exit→Act→World→Prop} {E:Prop} (hgd:o.guard=none) (s x:Operand) (t t':TypeId)
 (ho:o.op= .call {callee:= .builtin .append,args:=#[s,x],argTypes:=#[t,t']}) (u v:Value) (hs:a.eval s=u) (hx:a.eval x=v) {v':Value} {w':World}
 (hr:(Builtin.append_ #[t,t'] o.type #[u,v]).run Tryz.prog w= .ok v' w') (h:K (a.put o.dst v') w'):if Region.wanted o (yielded ops a.tmps)=true then Oper.wp Tryz.prog o a w K Q else E:=by
 have hw:Region.wanted o (yielded ops a.tmps)=true:=by simp [Region.wanted,hgd]
 rw [if_pos hw];unfold Oper.wp execOp;simp only [ho,resolve,invoke,builtin,Sem.run_bind,Sem.run_pure,Result.andThen_ok,List.map_toArray,List.map_cons,List.map_nil,hs,hx,hr];exact h
end Go.Proofs.YtmaijkoopjocdaaGreat
