import Derived.Test.YtmaijkoopjocdaaGreatKV01
set_option maxRecDepth 100000
set_option maxHeartbeats 64000000
namespace Go.Proofs.YtmaijkoopjocdaaGreat
open Go.RowKit Go.Lib
def NF (g:Nat):Value:= .func (Fn.func 115) #[] #[.pointer (some ⟨g,0,none⟩)]
theorem any_none {L:List Int} {f:Int→Bool} (h:∀(j:Nat) (x:Int),L[j]? =some x→f x=false):L.any f=false:=by
 rw [Bool.eq_false_iff];intro ha;rw [List.any_eq_true]at ha;obtain⟨x,hx,hf⟩:=ha;obtain⟨j,hj,rfl⟩:=List.getElem_of_mem hx;have:=h j _ (List.getElem?_eq_getElem hj);rw [hf]at this;cases this
theorem any_some {L:List Int} {f:Int→Bool} {j:Nat} {x:Int} (h:L[j]? =some x) (hf:f x=true):L.any f=true:=by
 rw [List.any_eq_true];exact⟨x,List.mem_of_getElem? h,hf⟩
theorem ag9 (g:Nat) (tick:Int) (a:Option Addr) (c:Nat) (L:List Int) (w:World) (hI:rS w a L) (hl:L.length≤1000000) (ht:1≤tick) (nI:tick≤1000) (hc:w.cell? ⟨g,2,none⟩=some ↑tick):
 Calls Tryz.prog 140 #[.slice a L.length c,NF g] w fun e w'=>(∃r:Int,e= .returned ↑r∧decide (0≤r)=L.any (jQ tick))∧w=w':=by
 have iy:=af hI;have Cy:=af fun n=>NE g tick n w ht nI hc;clear hI hc;unfold NF;go_enter Tryz.func140,Tryz.ntmps140
 go_wp2_with fail
 go_loop [8] (fun i=>∃k:Nat,i=↑k∧k≤L.length∧Hid (∀j x,j<k→L[j]? =some x→jQ tick x=false)) (fun i=>L.length-(RowKit.intOf i).toNat)
 case atStart=>exact⟨0,rfl,Nat.zero_le _,af fun j x h=>by omega⟩
 case round=>
  obtain⟨k,rfl,hk,e7⟩:=hrel;by_cases eR:k<L.length
  ·obtain⟨x,hx⟩:∃x,L[k]? =some x:=⟨_,List.getElem?_eq_getElem eR⟩
   obtain⟨_,b,off,rfl,_,c0⟩:=iy.out k x hx;have ya:(k:Int)<(L.length:Int):=by omega
   have bz:=af hx;clear hx;cases ho:jQ tick x with
   |true=>
    have e9:=af ho;clear ho;go_wp2_with (go_at_call 115;refine(Cy.out x).mono ?_;rintro e w1 ⟨rfl,rfl⟩;rw [e9.out])
    go_ret;exact⟨⟨(k:Int),rfl,by rw [any_some bz.out e9.out];exact decide_eq_true (by omega)⟩,by trivial⟩
   |false=>
    have e9:=af ho;clear ho;go_wp2_with (go_at_call 115;refine(Cy.out x).mono ?_;rintro e w1 ⟨rfl,rfl⟩;rw [e9.out])
    go_round
    case rel=>exact⟨k+1,by go_num,by omega,af fun j y hj hy=>by
     by_cases pX:j<k
     ·exact e7.out j y pX hy
     ·obtain rfl:j=k:=by omega
      have:=bz.out;rw [hy]at this;injection this with this;rw [this];exact e9.out⟩
    case measure=>simp [RowKit.intOf];omega
  ·obtain rfl:k=L.length:=by omega
   go_wp2_with fail
   go_ret;exact⟨⟨-1,rfl,by rw [any_none fun j x hj=>e7.out j x (dM hj) hj];rfl⟩,by trivial⟩
theorem aha (g:Nat) (tick:Int) (a:Option Addr) (c:Nat) (L:List Int) (w:World) (hI:rS w a L) (hl:L.length≤1000000) (ht:1≤tick) (nI:tick≤1000) (hc:w.cell? ⟨g,2,none⟩=some ↑tick):
 Calls Tryz.prog 116 #[.slice a L.length c,NF g] w fun e w'=>e= .returned (.bool (L.any (jQ tick)))∧w=w':=by
 have H:=af (ag9 g tick a c L w hI hl ht nI hc);clear hI hc;unfold NF at*;go_enter Tryz.func116,Tryz.ntmps116
 go_wp2_with fail
 refine H.out.mono ?_;rintro e w1 ⟨⟨r,rfl,hr⟩,rfl⟩;have bM:=af hr;clear hr;go_wp2_with fail
 go_ret;exact⟨by rw [←bM.out];rfl,by trivial⟩
def nD (p:Prod):Bool:=decide (1≤p.tick)&&decide (p.tick≤1000)&& !jQ p.tick p.low&& !jQ p.tick p.high&& !jQ p.tick p.wide&& !p.settle.any (jQ p.tick)
theorem acP (p:Prod) (w:World) (hp:gM w p):
 Calls Tryz.prog 76 #[p.agg] w fun e w'=>e= .returned (.bool (nD p))∧Below w.heap.size w w':=by
 unfold Prod.agg Prod.cells;have aG:Hid (Below w.heap.size w (w.alloc (.cells #[.string p.code,.slice p.ma p.months.length p.mc,↑p.tick,↑p.low,↑p.high,↑p.wide,↑p.rule,↑p.top,↑p.least,↑p.part,.slice p.sa p.settle.length p.sc] 25))):=af (Below.aI _ _);have sC:Hid (PC (w.alloc (.cells #[.string p.code,.slice p.ma p.months.length p.mc,↑p.tick,↑p.low,↑p.high,↑p.wide,↑p.rule,↑p.top,↑p.least,↑p.part,.slice p.sa p.settle.length p.sc] 25)) w.heap.size p):=af (PC.new w p);by_cases h1:p.tick<1
 ·have bP:Hid (nD p=false):=af (by unfold nD;rw [decide_eq_false (show¬1≤p.tick by omega)];rfl)
  go_enter Tryz.func76,Tryz.ntmps76
  go_wp2_with fail
  go_ret;exact⟨by rw [bP.out];rfl,aG.out⟩
 ·by_cases h2:1000<p.tick
  ·have bP:Hid (nD p=false):=af (by unfold nD;rw [decide_eq_false (show¬p.tick≤1000 by omega),Bool.and_false];rfl)
   go_enter Tryz.func76,Tryz.ntmps76
   go_wp2_with fail
   go_ret;exact⟨by rw [bP.out];rfl,aG.out⟩
  ·obtain⟨Rn,Ro⟩:=ai (jQ p.tick p.low)
   obtain⟨Rp,yd⟩:=ai (jQ p.tick p.high);obtain⟨Rq,how⟩:=ai (jQ p.tick p.wide);obtain⟨os,hos⟩:=ai (p.settle.any (jQ p.tick));have bP:Hid (nD p=(!Rn&& !Rp&& !Rq&& !os)):=af (by unfold nD;rw [decide_eq_true (show 1≤p.tick by omega),decide_eq_true (show p.tick≤1000 by omega),Ro,yd,how,hos];rfl);have c6:Hid (Calls Tryz.prog 115 #[↑p.low,.pointer ↑w.heap.size] (w.alloc (.cells #[.string p.code,.slice p.ma p.months.length p.mc,↑p.tick,↑p.low,↑p.high,↑p.wide,↑p.rule,↑p.top,↑p.least,↑p.part,.slice p.sa p.settle.length p.sc] 25)) fun e w'=>e= .returned ↑Rn∧(w.alloc (.cells #[.string p.code,.slice p.ma p.months.length p.mc,↑p.tick,↑p.low,↑p.high,↑p.wide,↑p.rule,↑p.top,↑p.least,↑p.part,.slice p.sa p.settle.length p.sc] 25))=w'):=af (by rw [←Ro];exact NE _ _ _ _ (by omega) (by omega) sC.out.2.2.1);have en:Hid (Calls Tryz.prog 115 #[↑p.high,.pointer ↑w.heap.size] (w.alloc (.cells #[.string p.code,.slice p.ma p.months.length p.mc,↑p.tick,↑p.low,↑p.high,↑p.wide,↑p.rule,↑p.top,↑p.least,↑p.part,.slice p.sa p.settle.length p.sc] 25)) fun e w'=>e= .returned ↑Rp∧(w.alloc (.cells #[.string p.code,.slice p.ma p.months.length p.mc,↑p.tick,↑p.low,↑p.high,↑p.wide,↑p.rule,↑p.top,↑p.least,↑p.part,.slice p.sa p.settle.length p.sc] 25))=w'):=af (by rw [←yd];exact NE _ _ _ _ (by omega) (by omega) sC.out.2.2.1);have eI:Hid (Calls Tryz.prog 115 #[↑p.wide,.pointer ↑w.heap.size] (w.alloc (.cells #[.string p.code,.slice p.ma p.months.length p.mc,↑p.tick,↑p.low,↑p.high,↑p.wide,↑p.rule,↑p.top,↑p.least,↑p.part,.slice p.sa p.settle.length p.sc] 25)) fun e w'=>e= .returned ↑Rq∧(w.alloc (.cells #[.string p.code,.slice p.ma p.months.length p.mc,↑p.tick,↑p.low,↑p.high,↑p.wide,↑p.rule,↑p.top,↑p.least,↑p.part,.slice p.sa p.settle.length p.sc] 25))=w'):=af (by rw [←how];exact NE _ _ _ _ (by omega) (by omega) sC.out.2.2.1);have aD:Hid (Calls Tryz.prog 116 #[.slice p.sa p.settle.length p.sc,.func (Fn.func 115) #[] #[.pointer ↑w.heap.size]] (w.alloc (.cells #[.string p.code,.slice p.ma p.months.length p.mc,↑p.tick,↑p.low,↑p.high,↑p.wide,↑p.rule,↑p.top,↑p.least,↑p.part,.slice p.sa p.settle.length p.sc] 25)) fun e w'=>e= .returned ↑os∧(w.alloc (.cells #[.string p.code,.slice p.ma p.months.length p.mc,↑p.tick,↑p.low,↑p.high,↑p.wide,↑p.rule,↑p.top,↑p.least,↑p.part,.slice p.sa p.settle.length p.sc] 25))=w'):=af (by rw [←hos];exact aha _ _ _ _ _ _ (hp.aW.below aG.out) hp.F7 (by omega) (by omega) sC.out.2.2.1)
   clear Ro yd how hos hp;cases Rn with
   |true=>
    go_enter Tryz.func76,Tryz.ntmps76
    go_wp2_with (first
     |(go_at_call 115;refine c6.out.mono ?_;rintro e w1 ⟨rfl,rfl⟩)
     |(go_at_call 115;refine en.out.mono ?_;rintro e w1 ⟨rfl,rfl⟩)
     |(go_at_call 115;refine eI.out.mono ?_;rintro e w1 ⟨rfl,rfl⟩)
     |(go_at_call 116;refine aD.out.mono ?_;rintro e w1 ⟨rfl,rfl⟩))
    go_ret;exact⟨by rw [bP.out];rfl,aG.out⟩
   |false=>
    cases Rp with
    |true=>
     go_enter Tryz.func76,Tryz.ntmps76
     go_wp2_with (first
      |(go_at_call 115;refine c6.out.mono ?_;rintro e w1 ⟨rfl,rfl⟩)
      |(go_at_call 115;refine en.out.mono ?_;rintro e w1 ⟨rfl,rfl⟩)
      |(go_at_call 115;refine eI.out.mono ?_;rintro e w1 ⟨rfl,rfl⟩)
      |(go_at_call 116;refine aD.out.mono ?_;rintro e w1 ⟨rfl,rfl⟩))
     go_ret;exact⟨by rw [bP.out];rfl,aG.out⟩
    |false=>
     cases Rq with
     |true=>
      go_enter Tryz.func76,Tryz.ntmps76
      go_wp2_with (first
       |(go_at_call 115;refine c6.out.mono ?_;rintro e w1 ⟨rfl,rfl⟩)
       |(go_at_call 115;refine en.out.mono ?_;rintro e w1 ⟨rfl,rfl⟩)
       |(go_at_call 115;refine eI.out.mono ?_;rintro e w1 ⟨rfl,rfl⟩)
       |(go_at_call 116;refine aD.out.mono ?_;rintro e w1 ⟨rfl,rfl⟩))
      go_ret;exact⟨by rw [bP.out];rfl,aG.out⟩
     |false=>
      go_enter Tryz.func76,Tryz.ntmps76
      go_wp2_with (first
       |(go_at_call 115;refine c6.out.mono ?_;rintro e w1 ⟨rfl,rfl⟩)
       |(go_at_call 115;refine en.out.mono ?_;rintro e w1 ⟨rfl,rfl⟩)
       |(go_at_call 115;refine eI.out.mono ?_;rintro e w1 ⟨rfl,rfl⟩)
       |(go_at_call 116;refine aD.out.mono ?_;rintro e w1 ⟨rfl,rfl⟩))
      go_ret;exact⟨by rw [bP.out];rfl,aG.out⟩
def ul:List Int→Int
 | []=>0
 |x::L=>L.foldl min x
def um:List Int→Int
 | []=>0
 |x::L=>L.foldl max x
theorem ahb (L:List Int) (x b:Int):decide (L.foldl min x<b)=(decide (x<b)||L.any (fun y=>decide (y<b))):=by
 induction L generalizing x with
 |nil=>rw [List.any_nil,Bool.or_false];rfl
 |cons y L ih=>
  rw [List.foldl_cons,ih,List.any_cons,←Bool.or_assoc]
  congr 1
  rw [Bool.eq_iff_iff];simp;omega
theorem ahc (L:List Int) (x b:Int):decide (b<L.foldl max x)=(decide (b<x)||L.any (fun y=>decide (b<y))):=by
 induction L generalizing x with
 |nil=>rw [List.any_nil,Bool.or_false];rfl
 |cons y L ih=>
  rw [List.foldl_cons,ih,List.any_cons,←Bool.or_assoc]
  congr 1
  rw [Bool.eq_iff_iff];simp;omega
theorem acM {L:List Int} (h:L≠ []) (b:Int):decide (ul L<b)=L.any (fun y=>decide (y<b)):=by
 cases L with
 |nil=>exact absurd rfl h
 |cons x L=>exact ahb L x b
theorem max_lt {L:List Int} (h:L≠ []) (b:Int):decide (b<um L)=L.any (fun y=>decide (b<y)):=by
 cases L with
 |nil=>exact absurd rfl h
 |cons x L=>exact ahc L x b
theorem ahd (L:List Int) {k:Nat} {x:Int} (h:L[k+1]? =some x):ul (L.take (k+2))=min (ul (L.take (k+1))) x:=by
 cases L with
 |nil=>simp at h
 |cons y L=>
  have hk:=dM h;simp at hk h;show(L.take (k+1)).foldl min y=min ((L.take k).foldl min y) x;rw [List.take_succ_eq_append_getElem hk,List.foldl_append];obtain⟨_,hx⟩:=lB h;rw [hx];rfl
theorem ahe (L:List Int) {k:Nat} {x:Int} (h:L[k+1]? =some x):um (L.take (k+2))=max (um (L.take (k+1))) x:=by
 cases L with
 |nil=>simp at h
 |cons y L=>
  have hk:=dM h;simp at hk h;show(L.take (k+1)).foldl max y=max ((L.take k).foldl max y) x;rw [List.take_succ_eq_append_getElem hk,List.foldl_append];obtain⟨_,hx⟩:=lB h;rw [hx];rfl
theorem ahf {L:List Int} {x:Int} (h:L[0]? =some x):ul (L.take 1)=x:=by
 cases L with
 |nil=>simp at h
 |cons y L=>simp at h;subst h;rfl
theorem ahg {L:List Int} {x:Int} (h:L[0]? =some x):um (L.take 1)=x:=by
 cases L with
 |nil=>simp at h
 |cons y L=>simp at h;subst h;rfl
theorem acR (a:Option Addr) (c:Nat) (L:List Int) (w:World) (hI:rS w a L) (hl:L.length≤1000000) (h0:0<L.length):
 Calls Tryz.prog 77 #[.slice a L.length c] w fun e w'=>e= .returned (.int .i64 (ul L))∧w=w':=by
 have iy:=af hI;obtain⟨x0,hx0⟩:∃x,L[0]? =some x:=⟨_,List.getElem?_eq_getElem h0⟩;obtain⟨_,b,off,rfl,_,c0⟩:=hI 0 x0 hx0;rw [Nat.add_zero]at c0;have cM:=af (ahf hx0);have h0':¬(L.length:Int)<1:=by omega
 clear hI hx0;go_enter Tryz.func77,Tryz.ntmps77
 go_wp2_with fail
 go_loop [3,4] (fun m i=>∃k:Nat,i= .int .i64 ((k+1:Nat):Int)∧k+1≤L.length∧m= .int .i64 (ul (L.take (k+1)))) (fun _ i=>L.length-(RowKit.intOf i).toNat)
 case atStart=>exact⟨0,rfl,h0,by rw [cM.out]⟩
 case round=>
  obtain⟨k,rfl,hk,rfl⟩:=hrel;by_cases eR:k+1<L.length
  ·obtain⟨x,hx⟩:∃x,L[k+1]? =some x:=⟨_,List.getElem?_eq_getElem eR⟩
   obtain⟨_,b2,off2,he,_,c1⟩:=iy.out (k+1) x hx;obtain⟨rfl,rfl⟩:b=b2∧off=off2:=by injection he with he;injection he with h1 h2;exact⟨h1,h2⟩
   have ya:(k:Int)+1<(L.length:Int):=by omega
   have aD:=af (ahd L hx);clear hx he c0;generalize ul (L.take (k+1))=m at*;go_wp2_with fail
   go_round
   case rel=>exact⟨k+1,by go_num,by omega,congrArg (Value.int .i64) (by rw [aD.out];try (split<;>omega))⟩
   case measure=>simp [RowKit.intOf];omega
  ·have yG:k+1=L.length:=by omega
   have Rs:(k:Int)+1=(L.length:Int):=by omega
   have bR:Hid (ul (L.take (k+1))=ul L):=af (by rw [yG,List.take_length]);have hn:¬(k:Int)+1<(L.length:Int):=by omega
   clear yG Rs;generalize ul (L.take (k+1))=m at*;go_wp2_with fail
   go_ret;exact⟨by rw [←bR.out];rfl,by trivial⟩
theorem acS (a:Option Addr) (c:Nat) (L:List Int) (w:World) (hI:rS w a L) (hl:L.length≤1000000) (h0:0<L.length):
 Calls Tryz.prog 78 #[.slice a L.length c] w fun e w'=>e= .returned (.int .i64 (um L))∧w=w':=by
 have iy:=af hI;obtain⟨x0,hx0⟩:∃x,L[0]? =some x:=⟨_,List.getElem?_eq_getElem h0⟩;obtain⟨_,b,off,rfl,_,c0⟩:=hI 0 x0 hx0;rw [Nat.add_zero]at c0;have cM:=af (ahg hx0);have h0':¬(L.length:Int)<1:=by omega
 clear hI hx0;go_enter Tryz.func78,Tryz.ntmps78
 go_wp2_with fail
 go_loop [3,4] (fun m i=>∃k:Nat,i= .int .i64 ((k+1:Nat):Int)∧k+1≤L.length∧m= .int .i64 (um (L.take (k+1)))) (fun _ i=>L.length-(RowKit.intOf i).toNat)
 case atStart=>exact⟨0,rfl,h0,by rw [cM.out]⟩
 case round=>
  obtain⟨k,rfl,hk,rfl⟩:=hrel;by_cases eR:k+1<L.length
  ·obtain⟨x,hx⟩:∃x,L[k+1]? =some x:=⟨_,List.getElem?_eq_getElem eR⟩
   obtain⟨_,b2,off2,he,_,c1⟩:=iy.out (k+1) x hx;obtain⟨rfl,rfl⟩:b=b2∧off=off2:=by injection he with he;injection he with h1 h2;exact⟨h1,h2⟩
   have ya:(k:Int)+1<(L.length:Int):=by omega
   have aD:=af (ahe L hx);clear hx he c0;generalize um (L.take (k+1))=m at*;go_wp2_with fail
   go_round
   case rel=>exact⟨k+1,by go_num,by omega,congrArg (Value.int .i64) (by rw [aD.out];try (split<;>omega))⟩
   case measure=>simp [RowKit.intOf];omega
  ·have yG:k+1=L.length:=by omega
   have Rs:(k:Int)+1=(L.length:Int):=by omega
   have bR:Hid (um (L.take (k+1))=um L):=af (by rw [yG,List.take_length]);have hn:¬(k:Int)+1<(L.length:Int):=by omega
   clear yG Rs;generalize um (L.take (k+1))=m at*;go_wp2_with fail
   go_ret;exact⟨by rw [←bR.out];rfl,by trivial⟩
end Go.Proofs.YtmaijkoopjocdaaGreat
