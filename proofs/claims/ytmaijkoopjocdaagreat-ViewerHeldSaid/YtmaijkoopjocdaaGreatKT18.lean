import Derived.Test.YtmaijkoopjocdaaGreatKT01
import Derived.Deep.DeepCutAuto
import Derived.Deep.QuietTactic
import Derived.IntWalk
set_option maxRecDepth 100000
set_option maxHeartbeats 64000000
namespace Go.Proofs.YtmaijkoopjocdaaGreat
open Go.RowKit
def LU (g:Nat):Value:= .func (Fn.func 115) #[] #[.pointer (some ⟨g,0,none⟩)]
theorem any_none {L:List Int} {f:Int→Bool} (h:∀(j:Nat) (x:Int),L[j]? =some x→f x=false):L.any f=false:=by
 rw [Bool.eq_false_iff];intro ha;rw [List.any_eq_true]at ha;obtain⟨x,hx,hf⟩:=ha;obtain⟨j,hj,rfl⟩:=List.getElem_of_mem hx;have:=h j _ (List.getElem?_eq_getElem hj);rw [hf]at this;cases this
theorem any_some {L:List Int} {f:Int→Bool} {j:Nat} {x:Int} (h:L[j]? =some x) (hf:f x=true):L.any f=true:=by
 rw [List.any_eq_true];exact⟨x,List.mem_of_getElem? h,hf⟩
theorem aet (g:Nat) (tick:Int) (a:Option Addr) (c:Nat) (L:List Int) (w:World) (hI:qE w a L) (hl:L.length≤1000000) (ht:1≤tick) (oW:tick≤1000) (hc:w.cell? ⟨g,2,none⟩=some (.int .i64 tick)):
 Calls Tryz.prog 140 #[.slice a L.length c,LU g] w fun e w'=>(∃r:Int,e= .returned (.int .i64 r)∧decide (0≤r)=L.any (iZ tick))∧w=w':=by
 have jT:=af hI;have AH:=af fun n=>LS g tick n w ht oW hc;clear hI hc;unfold LU;go_enter Tryz.func140,Tryz.ntmps140
 go_wp2_with fail
 go_loop [8] (fun i=>∃k:Nat,i= .int .i64 k∧k≤L.length∧Hid (∀j x,j<k→L[j]? =some x→iZ tick x=false)) (fun i=>L.length-(RowKit.intOf i).toNat)
 case atStart=>exact⟨0,rfl,Nat.zero_le _,af fun j x h=>by omega⟩
 case round=>
  obtain⟨k,rfl,hk,eY⟩:=hrel;by_cases fP:k<L.length
  ·obtain⟨x,hx⟩:∃x,L[k]? =some x:=⟨_,List.getElem?_eq_getElem fP⟩
   obtain⟨_,b,off,rfl,_,c0⟩:=jT.out k x hx;have vY:(k:Int)<(L.length:Int):=by omega
   have bA:=af hx;clear hx;cases ho:iZ tick x with
   |true=>
    have e6:=af ho;clear ho;go_wp2_with (go_at_call 115;refine(AH.out x).mono ?_;rintro e w1 ⟨rfl,rfl⟩;rw [e6.out])
    go_ret;exact⟨⟨(k:Int),rfl,by rw [any_some bA.out e6.out];exact decide_eq_true (by omega)⟩,by trivial⟩
   |false=>
    have e6:=af ho;clear ho;go_wp2_with (go_at_call 115;refine(AH.out x).mono ?_;rintro e w1 ⟨rfl,rfl⟩;rw [e6.out])
    go_round
    case rel=>exact⟨k+1,by go_num,by omega,af fun j y hj hy=>by
     by_cases oV:j<k
     ·exact eY.out j y oV hy
     ·obtain rfl:j=k:=by omega
      have:=bA.out;rw [hy]at this;injection this with this;rw [this];exact e6.out⟩
    case measure=>simp [RowKit.intOf];omega
  ·obtain rfl:k=L.length:=by omega
   go_wp2_with fail
   go_ret;exact⟨⟨-1,rfl,by rw [any_none fun j x hj=>eY.out j x (dc hj) hj];rfl⟩,by trivial⟩
theorem aeu (g:Nat) (tick:Int) (a:Option Addr) (c:Nat) (L:List Int) (w:World) (hI:qE w a L) (hl:L.length≤1000000) (ht:1≤tick) (oW:tick≤1000) (hc:w.cell? ⟨g,2,none⟩=some (.int .i64 tick)):
 Calls Tryz.prog 116 #[.slice a L.length c,LU g] w fun e w'=>e= .returned (.bool (L.any (iZ tick)))∧w=w':=by
 have H:=af (aet g tick a c L w hI hl ht oW hc);clear hI hc;unfold LU at*;go_enter Tryz.func116,Tryz.ntmps116
 go_wp2_with fail
 refine H.out.mono ?_;rintro e w1 ⟨⟨r,rfl,hr⟩,rfl⟩;have cM:=af hr;clear hr;go_wp2_with fail
 go_ret;exact⟨by rw [←cM.out];rfl,by trivial⟩
def mF (p:Prod):Bool:=decide (1≤p.tick)&&decide (p.tick≤1000)&& !iZ p.tick p.low&& !iZ p.tick p.high&& !iZ p.tick p.wide&& !p.settle.any (iZ p.tick)
theorem aag (p:Prod) (w:World) (hp:fZ w p):
 Calls Tryz.prog 76 #[p.agg] w fun e w'=>e= .returned (.bool (mF p))∧Below w.heap.size w w':=by
 unfold Prod.agg Prod.cells;have aE:Hid (Below w.heap.size w (w.alloc (.cells #[.string p.code,.slice p.ma p.months.length p.mc,.int .i64 p.tick,.int .i64 p.low,.int .i64 p.high,.int .i64 p.wide,.int .i64 p.rule,.int .i64 p.top,.int .i64 p.least,.int .i64 p.part,.slice p.sa p.settle.length p.sc] 25))):=af (Below.aA _ _);have q2:Hid (PC (w.alloc (.cells #[.string p.code,.slice p.ma p.months.length p.mc,.int .i64 p.tick,.int .i64 p.low,.int .i64 p.high,.int .i64 p.wide,.int .i64 p.rule,.int .i64 p.top,.int .i64 p.least,.int .i64 p.part,.slice p.sa p.settle.length p.sc] 25)) w.heap.size p):=af (PC.new w p);by_cases h1:p.tick<1
 ·have bK:Hid (mF p=false):=af (by unfold mF;rw [decide_eq_false (show¬1≤p.tick by omega)];rfl)
  go_enter Tryz.func76,Tryz.ntmps76
  go_wp2_with fail
  go_ret;exact⟨by rw [bK.out];rfl,aE.out⟩
 ·by_cases h2:1000<p.tick
  ·have bK:Hid (mF p=false):=af (by unfold mF;rw [decide_eq_false (show¬p.tick≤1000 by omega),Bool.and_false];rfl)
   go_enter Tryz.func76,Tryz.ntmps76
   go_wp2_with fail
   go_ret;exact⟨by rw [bK.out];rfl,aE.out⟩
  ·obtain⟨P0,P1⟩:∃o,iZ p.tick p.low=o:=⟨_,rfl⟩
   obtain⟨P2,rJ⟩:∃o,iZ p.tick p.high=o:=⟨_,rfl⟩;obtain⟨P3,how⟩:∃o,iZ p.tick p.wide=o:=⟨_,rfl⟩;obtain⟨os,hos⟩:∃o,p.settle.any (iZ p.tick)=o:=⟨_,rfl⟩;have bK:Hid (mF p=(!P0&& !P2&& !P3&& !os)):=af (by unfold mF;rw [decide_eq_true (show 1≤p.tick by omega),decide_eq_true (show p.tick≤1000 by omega),P1,rJ,how,hos];rfl);have cX:Hid (Calls Tryz.prog 115 #[.int .i64 p.low,.pointer (some ⟨w.heap.size,0,none⟩)] (w.alloc (.cells #[.string p.code,.slice p.ma p.months.length p.mc,.int .i64 p.tick,.int .i64 p.low,.int .i64 p.high,.int .i64 p.wide,.int .i64 p.rule,.int .i64 p.top,.int .i64 p.least,.int .i64 p.part,.slice p.sa p.settle.length p.sc] 25)) fun e w'=>e= .returned (.bool P0)∧(w.alloc (.cells #[.string p.code,.slice p.ma p.months.length p.mc,.int .i64 p.tick,.int .i64 p.low,.int .i64 p.high,.int .i64 p.wide,.int .i64 p.rule,.int .i64 p.top,.int .i64 p.least,.int .i64 p.part,.slice p.sa p.settle.length p.sc] 25))=w'):=af (by rw [←P1];exact LS _ _ _ _ (by omega) (by omega) q2.out.2.2.1);have dL:Hid (Calls Tryz.prog 115 #[.int .i64 p.high,.pointer (some ⟨w.heap.size,0,none⟩)] (w.alloc (.cells #[.string p.code,.slice p.ma p.months.length p.mc,.int .i64 p.tick,.int .i64 p.low,.int .i64 p.high,.int .i64 p.wide,.int .i64 p.rule,.int .i64 p.top,.int .i64 p.least,.int .i64 p.part,.slice p.sa p.settle.length p.sc] 25)) fun e w'=>e= .returned (.bool P2)∧(w.alloc (.cells #[.string p.code,.slice p.ma p.months.length p.mc,.int .i64 p.tick,.int .i64 p.low,.int .i64 p.high,.int .i64 p.wide,.int .i64 p.rule,.int .i64 p.top,.int .i64 p.least,.int .i64 p.part,.slice p.sa p.settle.length p.sc] 25))=w'):=af (by rw [←rJ];exact LS _ _ _ _ (by omega) (by omega) q2.out.2.2.1);have kZ:Hid (Calls Tryz.prog 115 #[.int .i64 p.wide,.pointer (some ⟨w.heap.size,0,none⟩)] (w.alloc (.cells #[.string p.code,.slice p.ma p.months.length p.mc,.int .i64 p.tick,.int .i64 p.low,.int .i64 p.high,.int .i64 p.wide,.int .i64 p.rule,.int .i64 p.top,.int .i64 p.least,.int .i64 p.part,.slice p.sa p.settle.length p.sc] 25)) fun e w'=>e= .returned (.bool P3)∧(w.alloc (.cells #[.string p.code,.slice p.ma p.months.length p.mc,.int .i64 p.tick,.int .i64 p.low,.int .i64 p.high,.int .i64 p.wide,.int .i64 p.rule,.int .i64 p.top,.int .i64 p.least,.int .i64 p.part,.slice p.sa p.settle.length p.sc] 25))=w'):=af (by rw [←how];exact LS _ _ _ _ (by omega) (by omega) q2.out.2.2.1);have aq:Hid (Calls Tryz.prog 116 #[.slice p.sa p.settle.length p.sc,.func (Fn.func 115) #[] #[.pointer (some ⟨w.heap.size,0,none⟩)]] (w.alloc (.cells #[.string p.code,.slice p.ma p.months.length p.mc,.int .i64 p.tick,.int .i64 p.low,.int .i64 p.high,.int .i64 p.wide,.int .i64 p.rule,.int .i64 p.top,.int .i64 p.least,.int .i64 p.part,.slice p.sa p.settle.length p.sc] 25)) fun e w'=>e= .returned (.bool os)∧(w.alloc (.cells #[.string p.code,.slice p.ma p.months.length p.mc,.int .i64 p.tick,.int .i64 p.low,.int .i64 p.high,.int .i64 p.wide,.int .i64 p.rule,.int .i64 p.top,.int .i64 p.least,.int .i64 p.part,.slice p.sa p.settle.length p.sc] 25))=w'):=af (by rw [←hos];exact aeu _ _ _ _ _ _ (hp.aQ.below aE.out) hp.D9 (by omega) (by omega) q2.out.2.2.1)
   clear P1 rJ how hos hp;cases P0 with
   |true=>
    go_enter Tryz.func76,Tryz.ntmps76
    go_wp2_with (first
     |(go_at_call 115;refine cX.out.mono ?_;rintro e w1 ⟨rfl,rfl⟩)
     |(go_at_call 115;refine dL.out.mono ?_;rintro e w1 ⟨rfl,rfl⟩)
     |(go_at_call 115;refine kZ.out.mono ?_;rintro e w1 ⟨rfl,rfl⟩)
     |(go_at_call 116;refine aq.out.mono ?_;rintro e w1 ⟨rfl,rfl⟩))
    go_ret;exact⟨by rw [bK.out];rfl,aE.out⟩
   |false=>
    cases P2 with
    |true=>
     go_enter Tryz.func76,Tryz.ntmps76
     go_wp2_with (first
      |(go_at_call 115;refine cX.out.mono ?_;rintro e w1 ⟨rfl,rfl⟩)
      |(go_at_call 115;refine dL.out.mono ?_;rintro e w1 ⟨rfl,rfl⟩)
      |(go_at_call 115;refine kZ.out.mono ?_;rintro e w1 ⟨rfl,rfl⟩)
      |(go_at_call 116;refine aq.out.mono ?_;rintro e w1 ⟨rfl,rfl⟩))
     go_ret;exact⟨by rw [bK.out];rfl,aE.out⟩
    |false=>
     cases P3 with
     |true=>
      go_enter Tryz.func76,Tryz.ntmps76
      go_wp2_with (first
       |(go_at_call 115;refine cX.out.mono ?_;rintro e w1 ⟨rfl,rfl⟩)
       |(go_at_call 115;refine dL.out.mono ?_;rintro e w1 ⟨rfl,rfl⟩)
       |(go_at_call 115;refine kZ.out.mono ?_;rintro e w1 ⟨rfl,rfl⟩)
       |(go_at_call 116;refine aq.out.mono ?_;rintro e w1 ⟨rfl,rfl⟩))
      go_ret;exact⟨by rw [bK.out];rfl,aE.out⟩
     |false=>
      go_enter Tryz.func76,Tryz.ntmps76
      go_wp2_with (first
       |(go_at_call 115;refine cX.out.mono ?_;rintro e w1 ⟨rfl,rfl⟩)
       |(go_at_call 115;refine dL.out.mono ?_;rintro e w1 ⟨rfl,rfl⟩)
       |(go_at_call 115;refine kZ.out.mono ?_;rintro e w1 ⟨rfl,rfl⟩)
       |(go_at_call 116;refine aq.out.mono ?_;rintro e w1 ⟨rfl,rfl⟩))
      go_ret;exact⟨by rw [bK.out];rfl,aE.out⟩
def sk:List Int→Int
 | []=>0
 |x::L=>L.foldl min x
def sq:List Int→Int
 | []=>0
 |x::L=>L.foldl max x
theorem aev (L:List Int) (x b:Int):decide (L.foldl min x<b)=(decide (x<b)||L.any (fun y=>decide (y<b))):=by
 induction L generalizing x with
 |nil=>rw [List.any_nil,Bool.or_false];rfl
 |cons y L ih=>
  rw [List.foldl_cons,ih,List.any_cons,←Bool.or_assoc]
  congr 1
  rw [Bool.eq_iff_iff];simp;omega
theorem aew (L:List Int) (x b:Int):decide (b<L.foldl max x)=(decide (b<x)||L.any (fun y=>decide (b<y))):=by
 induction L generalizing x with
 |nil=>rw [List.any_nil,Bool.or_false];rfl
 |cons y L ih=>
  rw [List.foldl_cons,ih,List.any_cons,←Bool.or_assoc]
  congr 1
  rw [Bool.eq_iff_iff];simp;omega
theorem aad {L:List Int} (h:L≠ []) (b:Int):decide (sk L<b)=L.any (fun y=>decide (y<b)):=by
 cases L with
 |nil=>exact absurd rfl h
 |cons x L=>exact aev L x b
theorem max_lt {L:List Int} (h:L≠ []) (b:Int):decide (b<sq L)=L.any (fun y=>decide (b<y)):=by
 cases L with
 |nil=>exact absurd rfl h
 |cons x L=>exact aew L x b
theorem aex (L:List Int) {k:Nat} {x:Int} (h:L[k+1]? =some x):sk (L.take (k+2))=min (sk (L.take (k+1))) x:=by
 cases L with
 |nil=>simp at h
 |cons y L=>
  have hk:=dc h;simp at hk h;show(L.take (k+1)).foldl min y=min ((L.take k).foldl min y) x;rw [List.take_succ_eq_append_getElem hk,List.foldl_append];obtain⟨_,hx⟩:=lq h;rw [hx];rfl
theorem aey (L:List Int) {k:Nat} {x:Int} (h:L[k+1]? =some x):sq (L.take (k+2))=max (sq (L.take (k+1))) x:=by
 cases L with
 |nil=>simp at h
 |cons y L=>
  have hk:=dc h;simp at hk h;show(L.take (k+1)).foldl max y=max ((L.take k).foldl max y) x;rw [List.take_succ_eq_append_getElem hk,List.foldl_append];obtain⟨_,hx⟩:=lq h;rw [hx];rfl
theorem aez {L:List Int} {x:Int} (h:L[0]? =some x):sk (L.take 1)=x:=by
 cases L with
 |nil=>simp at h
 |cons y L=>simp at h;subst h;rfl
theorem aeA {L:List Int} {x:Int} (h:L[0]? =some x):sq (L.take 1)=x:=by
 cases L with
 |nil=>simp at h
 |cons y L=>simp at h;subst h;rfl
theorem aai (a:Option Addr) (c:Nat) (L:List Int) (w:World) (hI:qE w a L) (hl:L.length≤1000000) (h0:0<L.length):
 Calls Tryz.prog 77 #[.slice a L.length c] w fun e w'=>e= .returned (.int .i64 (sk L))∧w=w':=by
 have jT:=af hI;obtain⟨x0,hx0⟩:∃x,L[0]? =some x:=⟨_,List.getElem?_eq_getElem h0⟩;obtain⟨_,b,off,rfl,_,c0⟩:=hI 0 x0 hx0;rw [Nat.add_zero]at c0;have cA:=af (aez hx0);have h0':¬(L.length:Int)<1:=by omega
 clear hI hx0;go_enter Tryz.func77,Tryz.ntmps77
 go_wp2_with fail
 go_loop [3,4] (fun m i=>∃k:Nat,i= .int .i64 ((k+1:Nat):Int)∧k+1≤L.length∧m= .int .i64 (sk (L.take (k+1)))) (fun _ i=>L.length-(RowKit.intOf i).toNat)
 case atStart=>exact⟨0,rfl,h0,by rw [cA.out]⟩
 case round=>
  obtain⟨k,rfl,hk,rfl⟩:=hrel;by_cases fP:k+1<L.length
  ·obtain⟨x,hx⟩:∃x,L[k+1]? =some x:=⟨_,List.getElem?_eq_getElem fP⟩
   obtain⟨_,b2,off2,he,_,c1⟩:=jT.out (k+1) x hx;obtain⟨rfl,rfl⟩:b=b2∧off=off2:=by injection he with he;injection he with h1 h2;exact⟨h1,h2⟩
   have vY:(k:Int)+1<(L.length:Int):=by omega
   have aq:=af (aex L hx);clear hx he c0;generalize sk (L.take (k+1))=m at*;go_wp2_with fail
   go_round
   case rel=>exact⟨k+1,by go_num,by omega,congrArg (Value.int .i64) (by rw [aq.out];split<;>omega)⟩
   case measure=>simp [RowKit.intOf];omega
  ·have wW:k+1=L.length:=by omega
   have P4:(k:Int)+1=(L.length:Int):=by omega
   have bH:Hid (sk (L.take (k+1))=sk L):=af (by rw [wW,List.take_length]);have hn:¬(k:Int)+1<(L.length:Int):=by omega
   clear wW P4;generalize sk (L.take (k+1))=m at*;go_wp2_with fail
   go_ret;exact⟨by rw [←bH.out];rfl,by trivial⟩
theorem aaj (a:Option Addr) (c:Nat) (L:List Int) (w:World) (hI:qE w a L) (hl:L.length≤1000000) (h0:0<L.length):
 Calls Tryz.prog 78 #[.slice a L.length c] w fun e w'=>e= .returned (.int .i64 (sq L))∧w=w':=by
 have jT:=af hI;obtain⟨x0,hx0⟩:∃x,L[0]? =some x:=⟨_,List.getElem?_eq_getElem h0⟩;obtain⟨_,b,off,rfl,_,c0⟩:=hI 0 x0 hx0;rw [Nat.add_zero]at c0;have cA:=af (aeA hx0);have h0':¬(L.length:Int)<1:=by omega
 clear hI hx0;go_enter Tryz.func78,Tryz.ntmps78
 go_wp2_with fail
 go_loop [3,4] (fun m i=>∃k:Nat,i= .int .i64 ((k+1:Nat):Int)∧k+1≤L.length∧m= .int .i64 (sq (L.take (k+1)))) (fun _ i=>L.length-(RowKit.intOf i).toNat)
 case atStart=>exact⟨0,rfl,h0,by rw [cA.out]⟩
 case round=>
  obtain⟨k,rfl,hk,rfl⟩:=hrel;by_cases fP:k+1<L.length
  ·obtain⟨x,hx⟩:∃x,L[k+1]? =some x:=⟨_,List.getElem?_eq_getElem fP⟩
   obtain⟨_,b2,off2,he,_,c1⟩:=jT.out (k+1) x hx;obtain⟨rfl,rfl⟩:b=b2∧off=off2:=by injection he with he;injection he with h1 h2;exact⟨h1,h2⟩
   have vY:(k:Int)+1<(L.length:Int):=by omega
   have aq:=af (aey L hx);clear hx he c0;generalize sq (L.take (k+1))=m at*;go_wp2_with fail
   go_round
   case rel=>exact⟨k+1,by go_num,by omega,congrArg (Value.int .i64) (by rw [aq.out];split<;>omega)⟩
   case measure=>simp [RowKit.intOf];omega
  ·have wW:k+1=L.length:=by omega
   have P4:(k:Int)+1=(L.length:Int):=by omega
   have bH:Hid (sq (L.take (k+1))=sq L):=af (by rw [wW,List.take_length]);have hn:¬(k:Int)+1<(L.length:Int):=by omega
   clear wW P4;generalize sq (L.take (k+1))=m at*;go_wp2_with fail
   go_ret;exact⟨by rw [←bH.out];rfl,by trivial⟩
def gQ (p:Prod):Prop:=p.low< -1000000∨p.high≤p.low∨1000000<p.high∨p.wide<0∨p.high-p.low<p.wide
def n7 (p:Prod):Bool:=p.settle.length !=p.months.length||p.settle.any (fun x=>decide (x<p.low))||p.settle.any (fun x=>decide (p.high<x))
def kU (p:Prod):Prop:=p.rule<1∨3<p.rule
def gD (p:Prod):Prop:=p.top<0∨1000000<p.top∨p.least<1∨1000<p.least∨p.part<0∨100<p.part
instance (p:Prod):Decidable (gQ p):=by unfold gQ;infer_instance
instance (p:Prod):Decidable (kU p):=by unfold kU;infer_instance
instance (p:Prod):Decidable (gD p):=by unfold gD;infer_instance
def cz (p:Prod):Int:=if n8 p.code=false then 12 else if ku p.months=false then 1 else if mF p=false then 22 else if gQ p then 23 else if n7 p=true then 1 else if kU p then 31 else if gD p then 24 else 0
theorem Se {L:List Int} (h:ku L=true):2≤L.length∧L.length≤6:=by
 unfold ku at h;simp only [Bool.and_eq_true,decide_eq_true_eq]at h;exact⟨h.1.2,h.2⟩
theorem M2 {p:Prod} (h:p.settle.length≠p.months.length):n7 p=true:=by
 unfold n7;rw [show(p.settle.length !=p.months.length)=true from bne_iff_ne.2 h];rfl
theorem aac {p:Prod} (h:p.settle.length=p.months.length) (h0:0<p.settle.length):n7 p=(decide (sk p.settle<p.low)||decide (p.high<sq p.settle)):=by
 unfold n7;have hne:p.settle≠ []:=by intro e;rw [e]at h0;exact absurd h0 (by simp)
 rw [show(p.settle.length !=p.months.length)=false from by rw [h];simp,aad hne,max_lt hne];rfl
theorem Sf (p:Prod) (w:World) (hp:fZ w p):
 Calls Tryz.prog 33 #[p.agg] w fun e w'=>e= .returned (.int .i64 (cz p))∧Below w.heap.size w w':=by
 unfold Prod.agg Prod.cells;have e3:Hid (Below w.heap.size w (w.alloc (.cells #[.string p.code,.slice p.ma p.months.length p.mc,.int .i64 p.tick,.int .i64 p.low,.int .i64 p.high,.int .i64 p.wide,.int .i64 p.rule,.int .i64 p.top,.int .i64 p.least,.int .i64 p.part,.slice p.sa p.settle.length p.sc] 25))):=af (Below.aA _ _);have BR:Hid (PC (w.alloc (.cells #[.string p.code,.slice p.ma p.months.length p.mc,.int .i64 p.tick,.int .i64 p.low,.int .i64 p.high,.int .i64 p.wide,.int .i64 p.rule,.int .i64 p.top,.int .i64 p.least,.int .i64 p.part,.slice p.sa p.settle.length p.sc] 25)) w.heap.size p):=af (PC.new w p);have kV:Hid (w.heap.size<(w.alloc (.cells #[.string p.code,.slice p.ma p.months.length p.mc,.int .i64 p.tick,.int .i64 p.low,.int .i64 p.high,.int .i64 p.wide,.int .i64 p.rule,.int .i64 p.top,.int .i64 p.least,.int .i64 p.part,.slice p.sa p.settle.length p.sc] 25)).heap.size):=af (by simp);have uQ:=af (hp.below e3.out);have iR:=hp.tick;have Am:=hp.low;have lN:=hp.high;unfold b8 at iR Am lN;have iQ:Hid (cz p=if n8 p.code=false then 12 else if ku p.months=false then 1 else if mF p=false then 22 else if gQ p then 23 else if n7 p=true then 1 else if kU p then 31 else if gD p then 24 else 0):=af rfl;clear hp;go_enter Tryz.func33,Tryz.ntmps33
 go_wp2_with fail
 refine(aae p.code _ (by have:=uQ.out.code;unfold maxLen;omega)).mono ?_;rintro e w1 ⟨rfl,hb1⟩;have bD:=af (e3.out.trans (hb1.mono e3.out.size));obtain⟨b0,b1,b2,b3,b4,aW,bp,aX,bq,bt,bh⟩:=BR.out.below hb1 kV.out;have xL:=af (uQ.out.below hb1);have dz:w.heap.size<w1.heap.size:=Nat.lt_of_lt_of_le kV.out hb1.size;clear hb1;cases hc:n8 p.code with
 |false=>
  have aU:=af hc;clear hc;go_wp2_with fail
  go_ret;exact⟨by rw [iQ.out,aU.out];rfl,bD.out⟩
 |true=>
  have aU:=af hc;clear hc;go_wp2_with fail
  refine(aaf p.ma p.mc p.months _ xL.out.Gr xL.out.Ao).mono ?_;rintro e w2 ⟨rfl,rfl⟩;cases hm:ku p.months with
  |false=>
   have cA:=af hm;clear hm;go_wp2_with fail
   go_ret;exact⟨by rw [iQ.out,aU.out,cA.out];rfl,bD.out⟩
  |true=>
   have cA:=af hm;have hlen:=Se hm;clear hm;go_wp2_with fail
   have BS:=aag p w1 xL.out;unfold Prod.agg Prod.cells at BS;refine BS.mono ?_;rintro e w3 ⟨rfl,hb3⟩;have aN:=af (bD.out.trans (hb3.mono bD.out.size));have aah:PC w3 w.heap.size p:=PC.below ⟨b0,b1,b2,b3,b4,aW,bp,aX,bq,bt,bh⟩ hb3 dz;have rz:=af (xL.out.below hb3);clear b0 b1 b2 b3 b4 aW bp aX bq bt bh hb3 BS;obtain⟨b0,b1,b2,b3,b4,aW,bp,aX,bq,bt,bh⟩:=aah;cases ht:mF p with
   |false=>
    have bK:=af ht;clear ht;go_wp2_with fail
    go_ret;exact⟨by rw [iQ.out,aU.out,cA.out,bK.out];rfl,aN.out⟩
   |true=>
    have bK:=af ht;clear ht;go_upto_region 7 with(fail)
    obtain⟨bb,aJ⟩:∃bb,bb=decide (gQ p):=⟨_,rfl⟩;have bu:=af aJ;clear aJ;go_cut [17] (fun v wx=>v= .bool bb∧w3=wx)
    case first=>
     by_cases k0:p.low< -1000000
     ·go_wp2_with fail
      go_meet;exact⟨congrArg Value.bool (by rw [bu.out];exact(decide_eq_true (p:=gQ p) (by unfold gQ;omega)).symm),rfl⟩
     ·by_cases k1:p.high≤p.low
      ·go_wp2_with fail
       go_meet;exact⟨congrArg Value.bool (by rw [bu.out];exact(decide_eq_true (p:=gQ p) (by unfold gQ;omega)).symm),rfl⟩
      ·by_cases k2:1000000<p.high
       ·go_wp2_with fail
        go_meet;exact⟨congrArg Value.bool (by rw [bu.out];exact(decide_eq_true (p:=gQ p) (by unfold gQ;omega)).symm),rfl⟩
       ·by_cases e7:p.wide<0
        ·go_wp2_with fail
         go_meet;exact⟨congrArg Value.bool (by rw [bu.out];exact(decide_eq_true (p:=gQ p) (by unfold gQ;omega)).symm),rfl⟩
        ·by_cases gY:p.high-p.low<p.wide
         ·go_wp2_with fail
          go_meet;exact⟨congrArg Value.bool (by rw [bu.out];exact(decide_eq_true (p:=gQ p) (by unfold gQ;omega)).symm),rfl⟩
         ·go_wp2_with fail
          go_meet;exact⟨congrArg Value.bool (by rw [bu.out];exact(decide_eq_false (p:=gQ p) (by unfold gQ;omega)).symm),rfl⟩
    case rest=>
    obtain⟨rfl,rfl⟩:=hcut;cases bb with
    |true=>
     go_wp2_with fail
     go_ret;exact⟨by rw [iQ.out,aU.out,cA.out,bK.out,if_neg (by simp),if_neg (by simp),if_neg (by simp),if_pos (of_decide_eq_true bu.out.symm)];rfl,aN.out⟩
    |false=>
     have pK:Hid (¬gQ p):=af (of_decide_eq_false bu.out.symm);clear bu;go_upto_region 9 with(fail)
     obtain⟨bZ,hsb⟩:∃bZ,n7 p=bZ:=⟨_,rfl⟩;have iF:=af hsb;clear hsb;go_cut [48] (fun v wx=>v= .bool bZ∧∃n,wx=w3.drewN n)
     case first=>
      by_cases lO:p.settle.length=p.months.length
      ·have hne:((p.settle.length:Int) !=(p.months.length:Int))=false:=by rw [lO];simp
       have hs0:0<p.settle.length:=by omega
       have bH:=af (aac lO hs0);have D8:=af fun n=>(aai p.sa p.sc p.settle (w3.drewN n) (rz.out.aQ.below (Below.bT w3 n)) rz.out.D9 hs0).mono fun e w' (h:e= .returned (.int .i64 (sk p.settle))∧w3.drewN n=w')=>(⟨h.1,h.2.symm⟩:e= .returned (.int .i64 (sk p.settle))∧w'=w3.drewN n);have rA:=af fun n=>(aaj p.sa p.sc p.settle (w3.drewN n) (rz.out.aQ.below (Below.bT w3 n)) rz.out.D9 hs0).mono fun e w' (h:e= .returned (.int .i64 (sq p.settle))∧w3.drewN n=w')=>(⟨h.1,h.2.symm⟩:e= .returned (.int .i64 (sq p.settle))∧w'=w3.drewN n);generalize sk p.settle=mi at*;generalize sq p.settle=ma at*;by_cases k1:mi<p.low
       ·have e1:decide (mi<p.low)=true:=decide_eq_true k1
        have M3:=af e1;clear lO;go_quiet (first|(go_at_call 77;exact Calls.quiet_of_same (D8.out _))|(go_at_call 78;exact Calls.quiet_of_same (rA.out _)))
        go_wp2_with fail
        go_meet;exact⟨congrArg Value.bool (by rw [←iF.out,bH.out,M3.out];rfl),nq,rfl⟩
       ·have e1:decide (mi<p.low)=false:=decide_eq_false k1
        have M3:=af e1;clear lO;go_quiet (first|(go_at_call 77;exact Calls.quiet_of_same (D8.out _))|(go_at_call 78;exact Calls.quiet_of_same (rA.out _)))
        go_wp2_with fail
        go_meet;exact⟨congrArg Value.bool (by rw [←iF.out,bH.out,M3.out];rfl),nq,rfl⟩
      ·have hne:((p.settle.length:Int) !=(p.months.length:Int))=true:=by rw [bne_iff_ne];omega
       have bH:=af (M2 lO);clear lO;go_quiet (fail)
       go_wp2_with fail
       go_meet;exact⟨congrArg Value.bool (by rw [←iF.out,bH.out]),nq,rfl⟩
     case rest=>
     obtain⟨rfl,kW,rfl⟩:=hcut;have hb4:=Below.bT w3 kW;have bM:=af (aN.out.trans (hb4.mono aN.out.size));have aak:PC (w3.drewN kW) w.heap.size p:=⟨b0,b1,b2,b3,b4,aW,bp,aX,bq,bt,bh⟩;clear b0 b1 b2 b3 b4 aW bp aX bq bt bh hb4;generalize w3.drewN kW=av at*;obtain⟨b0,b1,b2,b3,b4,aW,bp,aX,bq,bt,bh⟩:=aak;cases bZ with
     |true=>
      go_wp2_with fail
      go_ret;exact⟨by rw [iQ.out,aU.out,cA.out,bK.out,if_neg (by simp),if_neg (by simp),if_neg (by simp),if_neg pK.out,iF.out,if_pos rfl];rfl,bM.out⟩
     |false=>
      go_upto_region 11 with(fail)
      obtain⟨bb,aJ⟩:∃bb,bb=decide (kU p):=⟨_,rfl⟩;have bu:=af aJ;clear aJ;go_cut [72] (fun v wx=>v= .bool bb∧av=wx)
      case first=>
       by_cases k0:p.rule<1
       ·go_wp2_with fail
        go_meet;exact⟨congrArg Value.bool (by rw [bu.out];exact(decide_eq_true (p:=kU p) (by unfold kU;omega)).symm),rfl⟩
       ·by_cases k1:3<p.rule
        ·go_wp2_with fail
         go_meet;exact⟨congrArg Value.bool (by rw [bu.out];exact(decide_eq_true (p:=kU p) (by unfold kU;omega)).symm),rfl⟩
        ·go_wp2_with fail
         go_meet;exact⟨congrArg Value.bool (by rw [bu.out];exact(decide_eq_false (p:=kU p) (by unfold kU;omega)).symm),rfl⟩
      case rest=>
      obtain⟨rfl,rfl⟩:=hcut;cases bb with
      |true=>
       go_wp2_with fail
       go_ret;exact⟨by rw [iQ.out,aU.out,cA.out,bK.out,if_neg (by simp),if_neg (by simp),if_neg (by simp),if_neg pK.out,iF.out,if_neg (by simp),if_pos (of_decide_eq_true bu.out.symm)];rfl,bM.out⟩
      |false=>
       have Gs:Hid (¬kU p):=af (of_decide_eq_false bu.out.symm);clear bu;go_upto_region 13 with(fail)
       obtain⟨bb,aJ⟩:∃bb,bb=decide (gD p):=⟨_,rfl⟩;have bu:=af aJ;clear aJ;go_cut [81] (fun v wx=>v= .bool bb∧av=wx)
       case first=>
        by_cases k0:p.top<0
        ·go_wp2_with fail
         go_meet;exact⟨congrArg Value.bool (by rw [bu.out];exact(decide_eq_true (p:=gD p) (by unfold gD;omega)).symm),rfl⟩
        ·by_cases k1:1000000<p.top
         ·go_wp2_with fail
          go_meet;exact⟨congrArg Value.bool (by rw [bu.out];exact(decide_eq_true (p:=gD p) (by unfold gD;omega)).symm),rfl⟩
         ·by_cases k2:p.least<1
          ·go_wp2_with fail
           go_meet;exact⟨congrArg Value.bool (by rw [bu.out];exact(decide_eq_true (p:=gD p) (by unfold gD;omega)).symm),rfl⟩
          ·by_cases e7:1000<p.least
           ·go_wp2_with fail
            go_meet;exact⟨congrArg Value.bool (by rw [bu.out];exact(decide_eq_true (p:=gD p) (by unfold gD;omega)).symm),rfl⟩
           ·by_cases gY:p.part<0
            ·go_wp2_with fail
             go_meet;exact⟨congrArg Value.bool (by rw [bu.out];exact(decide_eq_true (p:=gD p) (by unfold gD;omega)).symm),rfl⟩
            ·by_cases kX:100<p.part
             ·go_wp2_with fail
              go_meet;exact⟨congrArg Value.bool (by rw [bu.out];exact(decide_eq_true (p:=gD p) (by unfold gD;omega)).symm),rfl⟩
             ·go_wp2_with fail
              go_meet;exact⟨congrArg Value.bool (by rw [bu.out];exact(decide_eq_false (p:=gD p) (by unfold gD;omega)).symm),rfl⟩
       case rest=>
       obtain⟨rfl,rfl⟩:=hcut;cases bb with
       |true=>
        go_wp2_with fail
        go_ret;exact⟨by rw [iQ.out,aU.out,cA.out,bK.out,if_neg (by simp),if_neg (by simp),if_neg (by simp),if_neg pK.out,iF.out,if_neg (by simp),if_neg Gs.out,if_pos (of_decide_eq_true bu.out.symm)];rfl,bM.out⟩
       |false=>
        go_wp2_with fail
        go_ret;exact⟨by rw [iQ.out,aU.out,cA.out,bK.out,if_neg (by simp),if_neg (by simp),if_neg (by simp),if_neg pK.out,iF.out,if_neg (by simp),if_neg Gs.out,if_neg (of_decide_eq_false bu.out.symm)];rfl,bM.out⟩
structure St (w ak:World) (p:Prod):Prop where
 aF:Below w.heap.size w ak
 pc:PC ak w.heap.size p
 pv:fZ ak p
 lt:w.heap.size<ak.heap.size
theorem St.next {w ak wy:World} {p:Prod} (h:St w ak p) (hb:Below ak.heap.size ak wy):St w wy p:=
 ⟨h.aF.trans (hb.mono h.aF.size),h.pc.below hb h.lt,h.pv.below hb,Nat.lt_of_lt_of_le h.lt hb.size⟩
theorem St.new {w:World} {p:Prod} (hp:fZ w p):St w (w.alloc (.cells p.cells 25)) p:=
 ⟨Below.aA _ _,PC.new w p,hp.below (Below.aA _ _),by simp⟩
theorem Ig {p:Prod} (h:cz p=0):n8 p.code=true∧ku p.months=true∧mF p=true∧¬gQ p∧n7 p=false∧¬kU p∧¬gD p:=by
 unfold cz at h;cases h1:n8 p.code
 ·rw [h1,if_pos rfl]at h;omega
 rw [h1,if_neg (by simp)]at h;cases h2:ku p.months
 ·rw [h2,if_pos rfl]at h;omega
 rw [h2,if_neg (by simp)]at h;cases h3:mF p
 ·rw [h3,if_pos rfl]at h;omega
 rw [h3,if_neg (by simp)]at h;by_cases h4:gQ p
 ·rw [if_pos h4]at h;omega
 rw [if_neg h4]at h;cases h5:n7 p
 ·rw [h5,if_neg (by simp)]at h
  by_cases h6:kU p
  ·rw [if_pos h6]at h;omega
  rw [if_neg h6]at h;by_cases h7:gD p
  ·rw [if_pos h7]at h;omega
  exact⟨rfl,rfl,rfl,h4,rfl,h6,h7⟩
 ·rw [h5,if_pos rfl]at h;omega
theorem oC {p:Prod} (h:cz p=0):2≤p.months.length∧p.months.length≤6:=Se (Ig h).2.1
theorem adh {p:Prod} (h:cz p=0):p.settle.length=p.months.length:=by
 have:=(Ig h).2.2.2.2.1;by_cases hl:p.settle.length=p.months.length
 ·exact hl
 ·rw [M2 hl]at this;cases this
theorem adi {p:Prod} (h:cz p=0):1≤p.tick∧p.tick≤1000:=by
 have:=(Ig h).2.2.1;unfold mF at this;simp only [Bool.and_eq_true,decide_eq_true_eq]at this;omega
def mZ (n:Nat):Nat:=n+n*(n-1) / 2
def countP (p:Prod):Int:=if cz p=0 then(mZ p.months.length:Int)else 0
theorem adj (p:Prod) (w:World) (hp:fZ w p):
 Calls Tryz.prog 34 #[p.agg] w fun e w'=>e= .returned (.int .i64 (countP p))∧Below w.heap.size w w':=by
 have hs0:=St.new hp;unfold Prod.cells at hs0;have eb:=af hs0;have cN:=Sf p _ hs0.pv;unfold Prod.agg Prod.cells at cN⊢;clear hp hs0;by_cases hz:cz p=0
 ·have aU:Hid (countP p=mZ p.months.length):=af (if_pos hz)
  have hlen:=oC hz;have hn:p.months.length=2∨p.months.length=3∨p.months.length=4∨p.months.length=5∨p.months.length=6:=by omega
  have dI:=af hz;clear hz hlen;go_enter Tryz.func34,Tryz.ntmps34
  go_wp2_with fail
  refine cN.mono ?_;rw [dI.out];rintro e w1 ⟨rfl,hb1⟩;have aq:=af (eb.out.next hb1);have b1:=aq.out.pc.2.1;clear cN hb1;rcases hn with hn|hn|hn|hn|hn
  all_goals
   rw [hn]at b1;have HN:=af hn;clear hn;go_wp2_with fail
   go_ret;exact⟨by rw [aU.out,HN.out];rfl,aq.out.aF⟩
 ·have aU:Hid (countP p=0):=af (if_neg hz)
  have hz1:(cz p==0)=false:=by rw [beq_eq_false_iff_ne];exact hz
  have dG:(cz p !=0)=true:=by rw [bne_iff_ne];exact hz
  clear hz;generalize cz p=cp at*;go_enter Tryz.func34,Tryz.ntmps34
  go_wp2_with fail
  refine cN.mono ?_;rintro e w1 ⟨rfl,hb1⟩;have aq:=af (eb.out.next hb1);clear cN hb1;go_wp2_with fail
  go_ret;exact⟨by rw [aU.out];rfl,aq.out.aF⟩
def j7 (n i:Nat):Nat:=((List.range i).map (fun j=>n-1-j)).sum
theorem VI (n:Nat):j7 n 0=0:=rfl
theorem HS (n i:Nat):j7 n (i+1)=j7 n i+(n-1-i):=by
 unfold j7;rw [List.range_succ,List.map_append,List.sum_append];simp
theorem Lf:∀n,n≤6→n+j7 n n=mZ n:=by decide
theorem adk:∀n,n≤6→∀i,i≤n→j7 n i≤15:=by decide
def zu (n k:Nat):Nat:=((List.range n).find? (fun i=>decide (k<j7 n (i+1)))).getD 0
def Ih (n k:Nat):Nat:=zu n k+1+(k-j7 n (zu n k))
theorem adl {n k i:Nat} (hi:i<n) (h1:k<j7 n (i+1)) (h2:∀j,j<i→¬k<j7 n (j+1)):zu n k=i:=by
 unfold zu
 have:(List.range n).find? (fun i=>decide (k<j7 n (i+1)))=some i:=by
  rw [List.find?_eq_some_iff_append];refine⟨decide_eq_true h1,List.range i,(List.range' (i+1) (n-i-1)),?_,?_⟩
  ·rw [List.range_eq_range',List.range_eq_range',←List.range'_succ,show n-i-1+1=n-i by omega]
   have:=List.range'_append (s:=0) (m:=i) (n:=n-i) (step:=1);rw [Nat.one_mul,Nat.zero_add,show i+(n-i)=n by omega]at this;exact this.symm
  ·intro j hj
   rw [List.mem_range]at hj
   simpa using h2 j hj
 rw [this];rfl
def fB (p:Prod) (inst:Int):Int×Int×Bool:=
 if inst<0∨countP p≤inst then(0,0,false)else if inst<p.months.length then(inst,inst,false)else
  (zu p.months.length (inst-p.months.length).toNat,Ih p.months.length (inst-p.months.length).toNat,true)
end Go.Proofs.YtmaijkoopjocdaaGreat
