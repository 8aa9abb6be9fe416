import Derived.OrdersHeld
import Derived.StillTail
import Derived.RegionTactic
import Derived.Deep.RegionHeld3
import Derived.Test.YtmaijkoopjocdaaGreatKW01
import Derived.Deep.DeepCutAuto
import Derived.Deep.QuietTactic
import Derived.IntWalk
set_option maxRecDepth 100000
set_option maxHeartbeats 64000000
namespace Go.Proofs.YtmaijkoopjocdaaGreat
open Go.RowKit Go.Lib
def rs (s:ByteArray):Nat->Nat->List (Nat×Nat)
 |0,_=> []
 |f+1,p=>if p<s.size then(p,(Utf8.decode s p).1)::rs s f (p+(Utf8.decode s p).2)else []
theorem KU (s:ByteArray) (pos:Nat) (h:pos<s.size):1<=(Utf8.decode s pos).2:=by
 by_cases ha:(s[pos]'h).toNat<128
 ·rw [decode_ascii s pos h ha];exact Nat.le_refl _
 exact(decode_high s pos h bh).2
theorem FP (s:ByteArray) (f p:Nat) (h:¬p<s.size):rs s f p= []:=by
 cases f with
 |zero=>rfl
 |succ f=>simp [rs,h]
theorem akH (s:ByteArray):∀(f g p:Nat),s.size<=p+f->s.size<=p+g->rs s f p=rs s g p:=by
 intro f;induction f with
 |zero=>intro g p h _;rw [FP s 0 p bh,FP s g p bh]
 |succ f ih=>
  intro g p hf hg;cases g with
  |zero=>rw [FP s _ p bh,FP s _ p bh]
  |succ g=>
   by_cases hp:p<s.size
   ·have:=KU s p hp;simp only [rs,hp,if_true];rw [ih g _ bh bh]
   rw [FP s _ p hp,FP s _ p hp]
def oU (s:ByteArray) (p:Nat):List (Nat×Nat):=rs s (s.size-p) p
theorem KT (s:ByteArray) (p:Nat) (h:¬p<s.size):oU s p= []:=FP s _ p h
theorem KS (s:ByteArray) (p:Nat) (h:p<s.size):oU s p=(p,(Utf8.decode s p).1)::oU s (p+(Utf8.decode s p).2):=by unfold oU;have:=KU s p h;rw [show s.size-p=(s.size-p-1)+1 by omega];simp only [rs,h,if_true];rw [akH s _ (s.size-(p+(Utf8.decode s p).2)) _ bh bh]
theorem Zs (s:ByteArray) (p:Nat):(oU s p).length<=s.size-p:=by
 unfold oU;generalize s.size-p=f;induction f generalizing p with
 |zero=>simp [rs]
 |succ f ih=>
  simp only [rs];split
  ·simp;exact ih _
  simp
theorem FH (s:ByteArray) (w:World) (hs:s.size<=maxLen):
 Calls Tryz.prog 114 #[.string s] w fun e w'=>e= .returned (.int .i64 (oU s 0).length)∧Below ↑w w w':=by
 unfold maxLen at hs;have hl:=Zs s 0;go_enter Tryz.func114,Tryz.ntmps114;go_wp2;go_loopw [3] (fun n w'=>∃(pos k:Nat),w'=w.iter s pos∧n=↑k∧k+(oU s pos).length=(oU s 0).length) (fun _ w'=>s.size-w'.iterPos ↑w)
 case atStart=>exact⟨0,0,rfl,rfl,cU⟩
 obtain⟨pos,k,rfl,rfl,hc⟩:=hrel;by_cases hp:pos<s.size
 ·have C:∀ty,(Instr.next (.pointer ↑w.heap.size) true ty).run Tryz.prog (w.iter s pos)=_:=fun ty=>run_next_any w s pos ty hp;have hwd:=KU s pos hp;have hcs:=KS s pos hp;have hk:k+1+(oU s (pos+(Utf8.decode s pos).2)).length=(oU s 0).length:=by rw [hcs]at hc;simp at hc;omega
  have hk2:k+1<=s.size:=bh;have B:=af hk;clear hcs hc hk;go_wp2;go_roundw
  case rel=>exact⟨_,k+1,rfl,dR,B.o⟩
  simp;omega
 have C:∀ty,(Instr.next (.pointer ↑w.heap.size) true ty).run Tryz.prog (w.iter s pos)=_:=fun ty=>run_next_end w s pos ty hp;rw [KT s pos hp]at hc;have A:=af hc;clear hc;go_wp2;go_ret;have h1:=A.o;simp at h1;exact⟨by simp [h1],(Below.refl _ _).alloc (Nat.le_refl _) _⟩
def xD (r:Nat):Bool:=(65<=r&&r<=90)||(913<=r&&r<=937&&r !=930)
def o6 (s:ByteArray):Bool:=(oU s 0).all (fun x=>xD x.2)&& !s.toList.isEmpty&&decide (((oU s 0).length:Int)<=4)
theorem Zt (r:Nat):((r:Int)<65∧decide ((65:Int)<=r)=false∧decide ((913:Int)<=r)=false∧decide ((r:Int)<=90)=true∧decide ((r:Int)<=937)=true∧((r:Int) !=930)=true∧xD r=false)∨
 (((65:Int)<=r∧(r:Int)<=90)∧decide ((65:Int)<=r)=true∧decide ((913:Int)<=r)=false∧decide ((r:Int)<=90)=true∧decide ((r:Int)<=937)=true∧((r:Int) !=930)=true∧xD r=true)∨
 (((90:Int)<r∧(r:Int)<913)∧decide ((65:Int)<=r)=true∧decide ((913:Int)<=r)=false∧decide ((r:Int)<=90)=false∧decide ((r:Int)<=937)=true∧((r:Int) !=930)=true∧xD r=false)∨
 (((913:Int)<=r∧(r:Int)<=937)∧decide ((65:Int)<=r)=true∧decide ((913:Int)<=r)=true∧decide ((r:Int)<=90)=false∧decide ((r:Int)<=937)=true∧((r:Int) !=930)=true∧xD r=true)∨
 (((930:Int)<=r∧(r:Int)<=930)∧decide ((65:Int)<=r)=true∧decide ((913:Int)<=r)=true∧decide ((r:Int)<=90)=false∧decide ((r:Int)<=937)=true∧((r:Int) !=930)=false∧xD r=false)∨
 ((937:Int)<r∧decide ((65:Int)<=r)=true∧decide ((913:Int)<=r)=true∧decide ((r:Int)<=90)=false∧decide ((r:Int)<=937)=false∧((r:Int) !=930)=true∧xD r=false):=by
 unfold xD;simp only [Bool.or_eq_true,Bool.and_eq_true,decide_eq_true_eq,bne_iff_ne,Bool.or_eq_false_iff,Bool.and_eq_false_iff,decide_eq_false_iff_not,bne_eq_false_iff_eq];omega
theorem Qq (s:ByteArray) (w:World) (hs:s.size<=maxLen):
 Calls Tryz.prog 74 #[.string s] w fun e w'=>e= .returned (.bool (o6 s))∧Below ↑w w w':=by
 have hs0:=hs;unfold maxLen at hs;go_enter Tryz.func74,Tryz.ntmps74;go_wp2;go_loopw [4,5] (fun _ _ w'=>∃(pos:Nat),w'=w.iter s pos∧(oU s 0).all (fun x=>xD x.2)=(oU s pos).all (fun x=>xD x.2)) (fun _ _ w'=>s.size-w'.iterPos ↑w)
 case atStart=>exact⟨0,rfl,rfl⟩
 obtain⟨pos,rfl,hc⟩:=hrel;by_cases hp:pos<s.size
 ·have B:∀ty,(Instr.next (.pointer ↑w.heap.size) true ty).run Tryz.prog (w.iter s pos)=_:=fun ty=>run_next_any w s pos ty hp;have hwd:=KU s pos hp;rw [KS s pos hp,List.all_cons]at hc;generalize hr:(Utf8.decode s pos).1=r at*;have hrb:r<=2147483647:=by rw [<-hr];exact decode_le s pos
  clear hr;rcases Zt r with h|h|h|h|h|h;all_goals
   obtain⟨g1,b1,b2,b3,b4,bk,aV⟩:=h;rw [aV]at hc;have A:=af hc;clear hc aV;go_wp2;first
   |(go_roundw
     case rel=>exact⟨_,rfl,by simpa using A.o⟩
     simp;omega)
   |(go_ret
     have h1:=A.o;simp only [Bool.false_and]at h1;exact⟨by simp [o6,h1],(Below.refl _ _).alloc (Nat.le_refl _) _⟩)
 have B:∀ty,(Instr.next (.pointer ↑w.heap.size) true ty).run Tryz.prog (w.iter s pos)=_:=fun ty=>run_next_end w s pos ty hp;rw [KT s pos hp]at hc;have A:=af hc;clear hc;by_cases he:s.toList= []
 ·have hz:s.toList.isEmpty=true:=by simp [he]
  go_wp2_with (go_at_call 114;refine(FH _ _ hs0).mono ?_;rintro e w1 ⟨rfl,hb1⟩);go_ret;exact⟨by simp [o6,hz],(Below.refl _ _).alloc (Nat.le_refl _) _⟩
 have hz:s.toList.isEmpty=false:=by simp [he]
 go_wp2_with (go_at_call 114;refine(FH _ _ hs0).mono ?_;rintro e w1 ⟨rfl,hb1⟩);go_ret;have h1:=A.o;simp only [List.all_nil]at h1;exact⟨by simp [o6,hz,h1],((Below.refl _ _).alloc (Nat.le_refl _) _).trans (hb1.mono (by simp [World.iter]))⟩
theorem aiC (s:ByteArray) (h:¬0<s.size):s.data.toList= []:=by apply List.eq_nil_of_length_eq_zero;rw [Array.length_toList];show s.size=0;omega
theorem aiD (s:ByteArray) (h:0<s.size):s.toList.isEmpty=false:=by
 rw [ByteArray.toList_eq];cases hl:s.data.toList with
 |nil=>have:s.data.toList.length=s.size:=cU;rw [hl]at this;simp at this;omega
 |cons a l=>rfl
theorem aiE (s:ByteArray):decide ((1:Int)<=((oU s 0).length:Int))= !s.toList.isEmpty:=by
 by_cases h:0<s.size
 ·rw [aiD s h,KS s 0 h,decide_eq_true (by rw [List.length_cons];omega)];rfl
 rw [KT s 0 h,ByteArray.toList_eq];rw [aiC s h];rfl
theorem ah4 (s:ByteArray) (w:World) (hs:s.size<=maxLen):
 Calls Tryz.prog 129 #[.string s] w fun e w'=>e= .returned (.bool (o6 s))∧Below ↑w w w':=by
 have hl:=Zs s 0;have hs1:s.size<=9223372036854775807:=by unfold maxLen at hs;omega
 clear hs;go_enter Tryz.func129,Tryz.ntmps129;go_wp2;go_loopw [3,5] (fun n _ w'=>∃(pos k:Nat),w'=w.iter s pos∧n=↑k∧k+(oU s pos).length=(oU s 0).length∧(oU s 0).all (fun x=>xD x.2)=(oU s pos).all (fun x=>xD x.2)) (fun _ _ w'=>s.size-w'.iterPos ↑w)
 case atStart=>exact⟨0,0,rfl,rfl,cU,rfl⟩
 obtain⟨pos,k,rfl,rfl,hk,hc⟩:=hrel;by_cases hp:pos<s.size
 ·have D:∀ty,(Instr.next (.pointer ↑w.heap.size) true ty).run Tryz.prog (w.iter s pos)=_:=fun ty=>run_next_any w s pos ty hp;have hwd:=KU s pos hp;rw [KS s pos hp,List.length_cons]at hk;rw [KS s pos hp,List.all_cons]at hc;have E:k+1<=s.size:=bh;have C:=af hk;clear hk;generalize hr:(Utf8.decode s pos).1=r at*;have hrb:r<=2147483647:=by rw [<-hr];exact decode_le s pos
  clear hr;rcases Zt r with h|h|h|h|h|h;all_goals
   obtain⟨g1,b1,b2,b3,b4,bk,aV⟩:=h;rw [aV]at hc;have A:=af hc;clear hc aV;go_wp2;first
   |(go_roundw
     case rel=>exact⟨_,k+1,rfl,dR,by have:=C.o;omega,by simpa using A.o⟩
     simp;omega)
   |(go_ret
     have h1:=A.o;simp only [Bool.false_and]at h1;exact⟨by simp [o6,h1],(Below.refl _ _).alloc (Nat.le_refl _) _⟩)
 have D:∀ty,(Instr.next (.pointer ↑w.heap.size) true ty).run Tryz.prog (w.iter s pos)=_:=fun ty=>run_next_end w s pos ty hp;rw [KT s pos hp,List.length_nil]at hk;rw [KT s pos hp]at hc;have B:Ei (o6 s=(decide ((1:Int)<=(k:Int))&&decide ((k:Int)<=4))):=by show o6 s=_;unfold o6;rw [hc,<-aiE s,show(oU s 0).length=k by omega];simp
 clear hk hc hl;by_cases h1:1<=k
 ·have b1:decide ((1:Int)<=(k:Int))=true:=decide_eq_true bh;go_wp2;go_ret;exact⟨by rw [B.o,b1];simp,(Below.refl _ _).alloc (Nat.le_refl _) _⟩
 have b1:decide ((1:Int)<=(k:Int))=false:=decide_eq_false bh;go_wp2;go_ret;exact⟨by rw [B.o,b1];simp,(Below.refl _ _).alloc (Nat.le_refl _) _⟩
end Go.Proofs.YtmaijkoopjocdaaGreat
namespace Go.Proofs.YtmaijkoopjocdaaGreat
section
variable {P:Program} {ops:Array Oper} {Q:Exit->Act->World->Prop} {md:Region.Mode} {S:World->Prop}
def iX (P:Program) (md:Region.Mode) (ops:Array Oper) (Q:Exit->Act->World->Prop) (S:World->Prop):Nat->Array Bool->Act->World->Prop
 |0,L,a,w=>Region.ready md ops L= []∧Q .normal a w
 |f+1,L,a,w=>(Region.ready md ops L= []->Q .normal a w)∧∀i∈Region.ready md ops L,wpOp P ops Q i (fun b u=>((∃k,(L.setIfInBounds i true).getD k true=false)->S u)∧iX P md ops Q S f (L.setIfInBounds i true) b u) a w
theorem Xw:∀(f:Nat) (L:Array Bool) (a:Act) (w:World),iX P md ops Q S f L a w->wpAny P md ops Q f L a w
 |0,_,_,_,h=>h
 |f+1,_,_,_,h=>⟨h.1,fun i hi=>wpOp_mono (fun b u hb=>Xw f _ b u hb.2) (h.2 i hi)⟩
def Nr (md:Region.Mode) (ops:Array Oper) (L:Array Bool) (i:Nat):Bool:=(List.range ops.size).any fun k=>decide (k≠i)&& !L.getD k true&&Region.waitsFor md ops k i
theorem Zp {i k:Nat} {oi:Oper} {v:Value} (hi:ops[i]? =some oi) (hsel:∀(j:Nat) (o:Oper) cs b,ops[j]? =some o->o.op≠ .select cs b)
 (hQ:∀c a w,Q (.panic c) (a.put oi.dst v) w->Q (.panic c) a w) (hki:k≠i) (B:Region.waitsFor md ops k i=true):
 ∀(f:Nat) (L:Array Bool) (a:Act) (w:World),L.getD k true=false->
  (∀j oj,ops[j]? =some oj->j≠i->L.getD j true=false->(∀e∈oj.after,Region.binds md e=true->e.on≠i)->oi.apart ops oj=true)->
  i∈Region.ready md ops L->YieldsIf P ops S oi v a->S w->iX P md ops Q S f (L.setIfInBounds i true) (a.put oi.dst v) w->iX P md ops Q S (f+1) L a w:=by
 intro f;induction f with
 |zero=>
  intro L a w _ _ hr hy hS H;refine⟨fun h0=>absurd hr (by rw [h0];simp),fun j hj=>?_⟩;by_cases hji:j=i
  ·subst hji;exact hy.wpOp hi hS ⟨fun _=>hS,H⟩
  have h0:=ready_mono hj hji;rw [H.1]at h0;cases h0
 |succ f ih=>
  intro L a w hk hfree hr hy hS H;refine⟨fun h0=>absurd hr (by rw [h0];simp),fun j hj=>?_⟩;by_cases hji:j=i
  ·subst hji;exact hy.wpOp hi hS ⟨fun _=>hS,H⟩
  have C:=(mem_ready.1 hr).1;obtain⟨G,oj,A,hall⟩:=mem_ready.1 hj;have hno:∀e∈oj.after,Region.binds md e=true->e.on≠i:=fun e he hb heq=>by have h1:=hall e he hb;rw [heq,getD_both C]at h1;cases h1
  have J:j≠k:=by rintro rfl;obtain⟨o',ho',e,he,hb,hon⟩:=Region.waitsFor_spec B;rw [A]at ho';injection ho' with ho';subst ho';exact hno e he hb hon
  have h2:=wpOp_putIf A (hfree j oj A hji G hno) (fun cs b=>hsel i oi cs b hi) (fun cs b=>hsel j oj cs b A) hQ hy (H.2 j (ready_mono hj hji));refine wpOp_mono (fun b u hb=>?_) h2;have D:(L.setIfInBounds j true).getD k true=false:=by rw [getD_set_ne true J];exact hk
  have I:S u:=hb.2.1 ⟨k,by rw [getD_set_ne true J,getD_set_ne true (Ne.symm hki)];exact hk⟩;refine⟨fun _=>I,ih (L.setIfInBounds j true) b u D (fun k' ok hk' E hun F=>hfree k' ok hk' E (by
   by_cases hx:j=k'
   ·subst hx;exact G
   rw [getD_set_ne true hx]at hun;exact hun) F) (ready_mono hr (Ne.symm hji)) hb.1 I ?_⟩
  rw [Array.setIfInBounds_comm _ _ hji];exact hb.2.2
theorem Zq {i:Nat} {oi:Oper} {v:Value} {f:Nat} {L:Array Bool} {a:Act} {w:World} (hi:ops[i]? =some oi) (hs:Region.noSelect ops=true) (hf:Region.free md ops L i=true)
 (hr:(Region.ready md ops L).contains i=true) (ha:Nr md ops L i=true) (hQ:∀c a w,Q (.panic c) (a.put oi.dst v) w->Q (.panic c) a w) (hy:YieldsIf P ops S oi v a) (hS:S w)
 (h:iX P md ops Q S f (L.setIfInBounds i true) (a.put oi.dst v) w):iX P md ops Q S (f+1) L a w:=by
 obtain⟨k,_,hk⟩:=List.any_eq_true.1 ha;simp only [Bool.and_eq_true,decide_eq_true_eq,Bool.not_eq_true']at hk;exact Zp hi (Region.noSelect_spec hs) hQ hk.1.1 hk.2 f L a w hk.1.2 (Region.free_spec hi hf) (by simpa using hr) hy hS h
theorem Xz (i:Nat) {oi:Oper} {v:Value} {f:Nat} {L:Array Bool} {a:Act} {w:World} (hi:ops[i]? =some oi) (hc:(Region.noSelect ops&&Region.free md ops L i&&(Region.ready md ops L).contains i&&Nr md ops L i)=true)
 (hQ:∀c a w,Q (.panic c) (a.put oi.dst v) w->Q (.panic c) a w) (hy:YieldsIf P ops S oi v a) (hS:S w)
 (h:iX P md ops Q S f (L.setIfInBounds i true) (a.put oi.dst v) w):iX P md ops Q S (f+1) L a w:=by
 simp only [Bool.and_eq_true]at hc;exact Zq hi hc.1.1.1 hc.1.1.2 hc.1.2 hc.2 hQ hy hS h
theorem QJ {α:Type _} {l:List α} {i:Nat} {a:α}:l.toArray.setIfInBounds i a=(l.set i a).toArray:=by simp only [List.setIfInBounds_toArray]
theorem QK {α:Type _} {x a:α} {l:List α}:(x::l).set 0 a=a::l:=rfl
theorem QL {α:Type _} {x a:α} {l:List α} {i:Nat}:(x::l).set (i+1) a=x::l.set i a:=rfl
theorem Zr {i:Nat} {o:Oper} {f:Nat} {L:Array Bool} {a:Act} {w:World} (ho:ops[i]? =some o) (hr:Region.ready md ops L= [i])
 (h:∀K':Act->World->Prop,Shut (∀a w,S w->(S w->iX P md ops Q S f (L.setIfInBounds i true) a w)->K' a w)->if Region.wanted o (yielded ops a.tmps)=true then Oper.wp P o a w K' Q else K' (a.put o.dst undef) w):iX P md ops Q S (f+1) L a w:=by
 refine⟨fun h0=>(by rw [hr]at h0;cases h0),fun j hj=>?_⟩;rw [hr]at hj;obtain rfl:j=i:=by simpa using hj
 exact wpOp_step ho fun K' hK=>h K' fun b u hS hW=>hK b u ⟨fun _=>hS,hW hS⟩
theorem Zu {i:Nat} {o:Oper} {f:Nat} {L:Array Bool} {a:Act} {w:World} (ho:ops[i]? =some o) (hr:Region.ready md ops L= [i]) (hall:(L.setIfInBounds i true).all (fun b=>b)=true) (hz:Region.ready md ops (L.setIfInBounds i true)= [])
 (h:∀K':Act->World->Prop,Shut (∀a w,Q .normal a w->K' a w)->if Region.wanted o (yielded ops a.tmps)=true then Oper.wp P o a w K' Q else K' (a.put o.dst undef) w):iX P md ops Q S (f+1) L a w:=by
 refine⟨fun h0=>(by rw [hr]at h0;cases h0),fun j hj=>?_⟩;rw [hr]at hj;obtain rfl:j=i:=by simpa using hj
 refine wpOp_step ho fun K' hK=>h K' fun b u hW=>hK b u ⟨?_,?_⟩
 ·rintro⟨k,hk⟩;rcases Nat.lt_or_ge k (L.setIfInBounds j true).size with hlt|hge
  ·have h1:=Array.all_eq_true.1 hall k hlt;rw [show(L.setIfInBounds j true).getD k true=(L.setIfInBounds j true)[k]'hlt from by simp only [Array.getD,hlt,dite_true];rfl]at hk;rw [h1]at hk;cases hk
  have:(L.setIfInBounds j true).getD k true=true:=by simp only [Array.getD,Nat.not_lt.2 hge,dite_false]
  rw [this]at hk;cases hk
 cases f with
 |zero=>exact⟨hz,hW⟩
 |succ f=>exact⟨fun _=>hW,fun i hi=>by rw [hz]at hi;cases hi⟩
theorem au (i:Nat) {oi:Oper} {v:Value} {f n:Nat} {L:Array Bool} {a a':Act} {w:World} (h:iX P md ops Q S f (L.setIfInBounds i true) a' w) (hn:n=f+1:=by rfl) (hi:ops[i]? =some oi:=by simp only [List.getElem?_toArray];rfl) (hc:(Region.noSelect ops&&Region.free md ops L i&&(Region.ready md ops L).contains i&&Nr md ops L i)=true:=by kernel_rfl) (hQ:∀c a w,Q (.panic c) (a.put oi.dst v) w->Q (.panic c) a w:=by exact fun _ _ _ h=>h) (hy:YieldsIf P ops S oi v a:=by exact Or.inl ⟨dn,by(intro w hSw;(try dsimp only at hSw);go_simp;try with_reducible rfl)⟩) (hS:S w:=by assumption) (he:a.put oi.dst v=a':=by(try simp only [Act.put,QJ,QK,QL]);rfl):iX P md ops Q S n L a w:=by subst hn;exact Xz i hi hc hQ hy hS (he▸h)
inductive hO (P:Program) (md:Region.Mode) (ops:Array Oper) (Q:Exit->Act->World->Prop) (S:World->Prop) (w:World):List Nat->Nat->Array Bool->Act->Nat->Array Bool->Act->Prop
 |nil {n:Nat} {L:Array Bool} {a:Act}:hO P md ops Q S w [] n L a n L a
 |cons {i:Nat} {l:List Nat} {n f n':Nat} {L L':Array Bool} {a a1 a':Act} (h:hO P md ops Q S w l f (L.setIfInBounds i true) a1 n' L' a') (k:iX P md ops Q S f (L.setIfInBounds i true) a1 w->iX P md ops Q S n L a w):hO P md ops Q S w (i::l) n L a n' L' a'
theorem hO.to {w:World} {l:List Nat} {n n':Nat} {L L':Array Bool} {a a':Act} (h:hO P md ops Q S w l n L a n' L' a'):iX P md ops Q S n' L' a' w->iX P md ops Q S n L a w:=by
 induction h with
 |nil=>exact fun h=>h
 |cons _ k ih=>exact fun x=>k (ih x)
theorem hO.d {i:Nat} {l:List Nat} {oi:Oper} {v:Value} {f n n':Nat} {L L':Array Bool} {a a1 a':Act} {w:World} (hn:n=f+1) (hi:ops[i]? =some oi) (hc:(Region.noSelect ops&&Region.free md ops L i&&(Region.ready md ops L).contains i&&Nr md ops L i)=true) (hQ:∀c a w,Q (.panic c) (a.put oi.dst v) w->Q (.panic c) a w) (hy:YieldsIf P ops S oi v a) (hS:S w) (he:a.put oi.dst v=a1) (h:hO P md ops Q S w l f (L.setIfInBounds i true) a1 n' L' a'):hO P md ops Q S w (i::l) n L a n' L' a':=
 .cons h fun x=>au i x hn hi hc hQ hy hS he
theorem eX (l:List Nat) {n n':Nat} {L L':Array Bool} {a a':Act} {w:World} (h:iX P md ops Q S n' L' a' w) (k:hO P md ops Q S w l n L a n' L' a':=by repeat (first|exact hO.nil|(apply hO.d;rfl;(simp only [List.getElem?_toArray];rfl);kernel_rfl;exact fun _ _ _ h=>h;exact Or.inl ⟨dn,by(intro w hSw;(try dsimp only at hSw);go_simp;try with_reducible rfl)⟩;assumption;((try simp only [Act.put,QJ,QK,QL]);rfl)))):iX P md ops Q S n L a w:=k.to h
theorem c7 (i:Nat) {oi:Oper} {v:Value} {f n:Nat} {L:Array Bool} {a a':Act} {w:World} (h:iX P md ops Q S f (L.setIfInBounds i true) a' w) (hn:n=f+1:=by rfl) (hi:ops[i]? =some oi:=by simp only [List.getElem?_toArray];rfl) (hc:(Region.noSelect ops&&Region.free md ops L i&&(Region.ready md ops L).contains i&&Nr md ops L i)=true:=by kernel_rfl) (hQ:∀c a w,Q (.panic c) (a.put oi.dst v) w->Q (.panic c) a w:=by exact fun _ _ _ h=>h) (hy:YieldsIf P ops S oi v a:=by exact Or.inr ⟨dn,dn⟩) (hS:S w:=by assumption) (he:a.put oi.dst v=a':=by(try simp only [Act.put,QJ,QK,QL]);rfl):iX P md ops Q S n L a w:=by subst hn;exact Xz i hi hc hQ hy hS (he▸h)
theorem ej (i:Nat) {oi:Oper} {v:Value} {f n:Nat} {L:Array Bool} {a a':Act} {w:World} (h:wpAnyH P md ops Q S f (L.setIfInBounds i true) a' w) (hn:n=f+1:=by rfl) (hi:ops[i]? =some oi:=by simp only [List.getElem?_toArray];rfl) (hs:Region.noSelect ops=true:=by kernel_rfl) (hf:Region.free md ops L i=true:=by kernel_rfl) (hr:(Region.ready md ops L).contains i=true:=by kernel_rfl) (hQ:∀c a w,Q (.panic c) (a.put oi.dst v) w->Q (.panic c) a w:=by exact fun _ _ _ h=>h) (hy:YieldsIf P ops S oi v a:=by exact Or.inl ⟨dn,by(intro w hSw;(try dsimp only at hSw);go_simp;try with_reducible rfl)⟩) (hS:S w:=by assumption) (he:a.put oi.dst v=a':=by(try simp only [Act.put,QJ,QK,QL]);rfl):wpAnyH P md ops Q S n L a w:=by subst hn;exact wpAnyH_take hi hs hf hr hQ hy hS (he▸h)
theorem aU (i:Nat) {o:Oper} {f n:Nat} {L:Array Bool} {a:Act} {w:World} (h:∀K':Act->World->Prop,Shut (∀a w,S w->(S w->iX P md ops Q S f (L.setIfInBounds i true) a w)->K' a w)->if Region.wanted o (yielded ops a.tmps)=true then Oper.wp P o a w K' Q else K' (a.put o.dst undef) w) (hn:n=f+1:=by rfl) (ho:ops[i]? =some o:=by simp only [List.getElem?_toArray];rfl) (hr:Region.ready md ops L= [i]:=by kernel_rfl):iX P md ops Q S n L a w:=by subst hn;exact Zr ho hr h
theorem dY (i:Nat) {o:Oper} {f n:Nat} {L:Array Bool} {a:Act} {w:World} (h:∀K':Act->World->Prop,Shut (∀a w,Q .normal a w->K' a w)->if Region.wanted o (yielded ops a.tmps)=true then Oper.wp P o a w K' Q else K' (a.put o.dst undef) w) (hn:n=f+1:=by rfl) (ho:ops[i]? =some o:=by simp only [List.getElem?_toArray];rfl) (hr:Region.ready md ops L= [i]:=by kernel_rfl) (hall:(L.setIfInBounds i true).all (fun b=>b)=true:=by kernel_rfl) (hz:Region.ready md ops (L.setIfInBounds i true)= []:=by kernel_rfl):iX P md ops Q S n L a w:=by subst hn;exact Zu ho hr hall hz h
theorem gu:∀(f:Nat) (L:Array Bool) (a:Act) (w:World),wpAnyH P md ops Q S f L a w->iX P md ops Q S f L a w
 |0,_,_,_,h=>h
 |f+1,_,_,_,h=>⟨h.1,fun i hi=>wpOp_mono (fun b u hb=>⟨fun _=>hb.1,gu f _ b u hb.2⟩) (h.2 i hi)⟩
theorem cG {id:Nat} {a:Act} {w:World} (hm:P.follows .mixedOrders=true) (hS:S w.drew) (h:S w.drew->iX P .any ops Q S ops.size (Array.replicate ops.size false) a w.drew):(Code.region id ops true).wp P Q a w:=
 wp_region_any hm (Xw _ _ _ _ (h hS))
theorem cP {id:Nat} {a:Act} {w:World} (hS:S w.drew) (h:S w.drew->iX P .any ops Q S ops.size (Array.replicate ops.size false) a w.drew) (hm:P.follows .mixedOrders=true:=by kernel_rfl):(Code.region id ops true).wp P Q a w:=cG hm hS h
theorem gw {listed:Array Bool} {a:Act} {w:World} {f:Nat} (h:Q .normal a w) (hr:Region.ready md ops listed= []:=by kernel_rfl):wpAnyH P md ops Q S f listed a w:=wpAnyH_done hr h f
end
end Go.Proofs.YtmaijkoopjocdaaGreat
namespace Go.Proofs.YtmaijkoopjocdaaGreat
open Go.RowKit Go.Lib
def ix (p:Prod):Prop:=p.low< -1000000∨p.high<=p.low∨1000000<p.high∨p.wide<0∨p.high-p.low<p.wide
def o5 (p:Prod):Bool:=p.settle.length !=p.months.length||p.settle.any (fun x=>decide (x<p.low))||p.settle.any (fun x=>decide (p.high<x))
def lS (p:Prod):Prop:=p.rule<1∨3<p.rule
def g9 (p:Prod):Prop:=p.top<0∨1000000<p.top∨p.least<1∨1000<p.least∨p.part<0∨100<p.part
instance (p:Prod):Decidable (ix p):=by unfold ix;infer_instance
instance (p:Prod):Decidable (lS p):=by unfold lS;infer_instance
instance (p:Prod):Decidable (g9 p):=by unfold g9;infer_instance
def cR (p:Prod):Int:=if o6 p.code=false then 12 else if lp p.months=false then 1 else if nD p=false then 22 else if ix p then 23 else if o5 p=true then 1 else if lS p then 31 else if g9 p then 24 else 0
theorem T4 {L:List Int} (h:lp L=true):2<=L.length∧L.length<=6:=by unfold lp at h;simp only [Bool.and_eq_true,decide_eq_true_eq]at h;exact⟨h.1.2,h.2⟩
theorem OV {p:Prod} (h:p.settle.length≠p.months.length):o5 p=true:=by unfold o5;rw [show(p.settle.length !=p.months.length)=true from bne_iff_ne.2 h];rfl
theorem Qk {p:Prod} (h:p.settle.length=p.months.length) (h0:0<p.settle.length):o5 p=(decide (ul p.settle<p.low)||decide (p.high<um p.settle)):=by
 unfold o5;have hne:p.settle≠ []:=by intro e;rw [e]at h0;exact absurd h0 cU
 rw [show(p.settle.length !=p.months.length)=false from by rw [h];simp,Qp hne,max_lt hne];rfl
theorem T6 (p:Prod) (w:World) (hp:gM w p):
 Calls Tryz.prog 33 #[p.agg] w fun e w'=>e= .returned (.int .i64 (cR p))∧Below ↑w w w':=by
 unfold Prod.agg Prod.cells;have b:Ei (Below ↑w w (w.alloc (.cells ↑p 25))):=af (Below.aI _ _);have l:Ei (PC (w.alloc (.cells ↑p 25)) ↑w p):=af (PC.new w p);have c:Ei (w.heap.size<(w.alloc (.cells ↑p 25)).heap.size):=af cU;have g:=af (hp.below b.o);have r:=hp.tick;have j:=hp.low;have t:=hp.high;unfold cz at r j t;have E:Ei (cR p=if o6 p.code=false then 12 else if lp p.months=false then 1 else if nD p=false then 22 else if ix p then 23 else if o5 p=true then 1 else if lS p then 31 else if g9 p then 24 else 0):=af rfl;clear hp;go_enter Tryz.func33,Tryz.ntmps33;go_wp2_with fail;refine(Qq p.code _ (by have:=g.o.code;unfold maxLen;omega)).mono ?_;rintro e w1 ⟨rfl,hb1⟩;have X:=ag b hb1;obtain⟨b0,b1,b2,b3,b4,bk,K,bn,H,I,J⟩:=l.o.below hb1 c.o;have Q:=af (g.o.below hb1);have q:w.heap.size<w1.heap.size:=Nat.lt_of_lt_of_le c.o hb1.size;clear hb1;cases hc:o6 p.code with
 |false=>have B:=af hc;clear hc;go_wp2_with fail;go_ret;exact⟨by rw [E.o,B.o];rfl,X.o⟩
 |true=>
  have B:=af hc;clear hc;go_wp2_with fail;refine(Qr p.ma p.mc p.months _ Q.o.IB Q.o.Cg).mono ?_;rintro e w2 ⟨rfl,rfl⟩;cases hm:lp p.months with
  |false=>have D:=af hm;clear hm;go_wp2_with fail;go_ret;exact⟨by rw [E.o,B.o,D.o];rfl,X.o⟩
  |true=>
   have D:=af hm;have hlen:=T4 hm;clear hm;go_wp2_with fail;have R:=Qs p w1 Q.o;unfold Prod.agg Prod.cells at R;refine R.mono ?_;rintro e w3 ⟨rfl,hb3⟩;have U:=ag X hb3;have V:PC w3 ↑w p:=PC.below ⟨b0,b1,b2,b3,b4,bk,K,bn,H,I,J⟩ hb3 q;have P:=af (Q.o.below hb3);clear b0 b1 b2 b3 b4 bk K bn H I J hb3 R;obtain⟨b0,b1,b2,b3,b4,bk,K,bn,H,I,J⟩:=V;cases ht:nD p with
   |false=>have F:=af ht;clear ht;go_wp2_with fail;go_ret;exact⟨by rw [E.o,B.o,D.o,F.o];rfl,U.o⟩
   |true=>
    have F:=af ht;clear ht;go_upto_region 7 with(fail);obtain⟨bb,C⟩:=aj (decide (ix p));have A:=af C;clear C;go_cut [17] (fun v wx=>v=↑bb∧w3=wx)
    case first=>
     by_cases k0:p.low< -1000000
     ·go_wp2_with fail;go_meet;exact⟨congrArg Value.bool (by rw [A.o];exact(decide_eq_true (p:=ix p) (by unfold ix;omega)).symm),rfl⟩
     by_cases k1:p.high<=p.low
     ·go_wp2_with fail;go_meet;exact⟨congrArg Value.bool (by rw [A.o];exact(decide_eq_true (p:=ix p) (by unfold ix;omega)).symm),rfl⟩
     by_cases k2:1000000<p.high
     ·go_wp2_with fail;go_meet;exact⟨congrArg Value.bool (by rw [A.o];exact(decide_eq_true (p:=ix p) (by unfold ix;omega)).symm),rfl⟩
     by_cases m:p.wide<0
     ·go_wp2_with fail;go_meet;exact⟨congrArg Value.bool (by rw [A.o];exact(decide_eq_true (p:=ix p) (by unfold ix;omega)).symm),rfl⟩
     by_cases s:p.high-p.low<p.wide
     ·go_wp2_with fail;go_meet;exact⟨congrArg Value.bool (by rw [A.o];exact(decide_eq_true (p:=ix p) (by unfold ix;omega)).symm),rfl⟩
     go_wp2_with fail;go_meet;exact⟨congrArg Value.bool (by rw [A.o];exact(decide_eq_false (p:=ix p) (by unfold ix;omega)).symm),rfl⟩
    case rest=>
    obtain⟨rfl,rfl⟩:=hcut;cases bb with
    |true=>go_wp2_with fail;go_ret;exact⟨by rw [E.o,B.o,D.o,F.o,if_neg cU,if_neg cU,if_neg cU,if_pos (of_decide_eq_true A.o.symm)];rfl,U.o⟩
    |false=>
     have O:Ei (¬ix p):=af (of_decide_eq_false A.o.symm);clear A;go_upto_region 9 with(fail);obtain⟨cr,hsb⟩:=ai (o5 p);have G:=af hsb;clear hsb;go_cut [48] (fun v wx=>v=↑cr∧∃n,wx=w3.drewN n)
     case first=>
      by_cases L:p.settle.length=p.months.length
      ·have hne:((p.settle.length:Int) !=(p.months.length:Int))=false:=by rw [L];simp
       have hs0:0<p.settle.length:=bh;have N:=af (Qk L hs0);have Y:=af fun n=>(Qt p.sa p.sc p.settle (w3.drewN n) (P.o.aW.below (Below.bO w3 n)) P.o.F7 hs0).mono fun e w' (h:e= .returned (.int .i64 (ul p.settle))∧w3.drewN n=w')=>(⟨h.1,h.2.symm⟩:e= .returned (.int .i64 (ul p.settle))∧w'=w3.drewN n);have d:=af fun n=>(Qw p.sa p.sc p.settle (w3.drewN n) (P.o.aW.below (Below.bO w3 n)) P.o.F7 hs0).mono fun e w' (h:e= .returned (.int .i64 (um p.settle))∧w3.drewN n=w')=>(⟨h.1,h.2.symm⟩:e= .returned (.int .i64 (um p.settle))∧w'=w3.drewN n);generalize ul p.settle=mi at*;generalize um p.settle=ma at*;by_cases k1:mi<p.low
       ·have e1:decide (mi<p.low)=true:=decide_eq_true k1;have T:=af e1;clear L;go_quiet (first|(go_at_call 77;exact Calls.quiet_of_same (Y.o _))|(go_at_call 78;exact Calls.quiet_of_same (d.o _)));go_wp2_with fail;go_meet;exact⟨congrArg Value.bool (by rw [<-G.o,N.o,T.o];rfl),nq,rfl⟩
       have e1:decide (mi<p.low)=false:=decide_eq_false k1;have T:=af e1;clear L;go_quiet (first|(go_at_call 77;exact Calls.quiet_of_same (Y.o _))|(go_at_call 78;exact Calls.quiet_of_same (d.o _)));go_wp2_with fail;go_meet;exact⟨congrArg Value.bool (by rw [<-G.o,N.o,T.o];rfl),nq,rfl⟩
      have hne:((p.settle.length:Int) !=(p.months.length:Int))=true:=by rw [bne_iff_ne];omega
      have N:=af (OV L);clear L;go_quiet (fail);go_wp2_with fail;go_meet;exact⟨congrArg Value.bool (by rw [<-G.o,N.o]),nq,rfl⟩
     case rest=>
     obtain⟨rfl,lT,rfl⟩:=hcut;have hb4:=Below.bO w3 lT;have M:=ag U hb4;have W:PC (w3.drewN lT) w.heap.size p:=⟨b0,b1,b2,b3,b4,bk,K,bn,H,I,J⟩;clear b0 b1 b2 b3 b4 bk K bn H I J hb4;generalize w3.drewN lT=S at*;obtain⟨b0,b1,b2,b3,b4,bk,K,bn,H,I,J⟩:=W;cases cr with
     |true=>go_wp2_with fail;go_ret;exact⟨by rw [E.o,B.o,D.o,F.o,if_neg cU,if_neg cU,if_neg cU,if_neg O.o,G.o,if_pos rfl];rfl,M.o⟩
     |false=>
      go_upto_region 11 with(fail);obtain⟨bb,C⟩:=aj (decide (lS p));have A:=af C;clear C;go_cut [72] (fun v wx=>v=↑bb∧S=wx)
      case first=>
       by_cases k0:p.rule<1
       ·go_wp2_with fail;go_meet;exact⟨congrArg Value.bool (by rw [A.o];exact(decide_eq_true (p:=lS p) (by unfold lS;omega)).symm),rfl⟩
       by_cases k1:3<p.rule
       ·go_wp2_with fail;go_meet;exact⟨congrArg Value.bool (by rw [A.o];exact(decide_eq_true (p:=lS p) (by unfold lS;omega)).symm),rfl⟩
       go_wp2_with fail;go_meet;exact⟨congrArg Value.bool (by rw [A.o];exact(decide_eq_false (p:=lS p) (by unfold lS;omega)).symm),rfl⟩
      case rest=>
      obtain⟨rfl,rfl⟩:=hcut;cases bb with
      |true=>go_wp2_with fail;go_ret;exact⟨by rw [E.o,B.o,D.o,F.o,if_neg cU,if_neg cU,if_neg cU,if_neg O.o,G.o,if_neg cU,if_pos (of_decide_eq_true A.o.symm)];rfl,M.o⟩
      |false=>
       have Z:Ei (¬lS p):=af (of_decide_eq_false A.o.symm);clear A;go_upto_region 13 with(fail);obtain⟨bb,C⟩:=aj (decide (g9 p));have A:=af C;clear C;go_cut [81] (fun v wx=>v=↑bb∧S=wx)
       case first=>
        by_cases k0:p.top<0
        ·go_wp2_with fail;go_meet;exact⟨congrArg Value.bool (by rw [A.o];exact(decide_eq_true (p:=g9 p) (by unfold g9;omega)).symm),rfl⟩
        by_cases k1:1000000<p.top
        ·go_wp2_with fail;go_meet;exact⟨congrArg Value.bool (by rw [A.o];exact(decide_eq_true (p:=g9 p) (by unfold g9;omega)).symm),rfl⟩
        by_cases k2:p.least<1
        ·go_wp2_with fail;go_meet;exact⟨congrArg Value.bool (by rw [A.o];exact(decide_eq_true (p:=g9 p) (by unfold g9;omega)).symm),rfl⟩
        by_cases m:1000<p.least
        ·go_wp2_with fail;go_meet;exact⟨congrArg Value.bool (by rw [A.o];exact(decide_eq_true (p:=g9 p) (by unfold g9;omega)).symm),rfl⟩
        by_cases s:p.part<0
        ·go_wp2_with fail;go_meet;exact⟨congrArg Value.bool (by rw [A.o];exact(decide_eq_true (p:=g9 p) (by unfold g9;omega)).symm),rfl⟩
        by_cases u:100<p.part
        ·go_wp2_with fail;go_meet;exact⟨congrArg Value.bool (by rw [A.o];exact(decide_eq_true (p:=g9 p) (by unfold g9;omega)).symm),rfl⟩
        go_wp2_with fail;go_meet;exact⟨congrArg Value.bool (by rw [A.o];exact(decide_eq_false (p:=g9 p) (by unfold g9;omega)).symm),rfl⟩
       case rest=>
       obtain⟨rfl,rfl⟩:=hcut;cases bb with
       |true=>go_wp2_with fail;go_ret;exact⟨by rw [E.o,B.o,D.o,F.o,if_neg cU,if_neg cU,if_neg cU,if_neg O.o,G.o,if_neg cU,if_neg Z.o,if_pos (of_decide_eq_true A.o.symm)];rfl,M.o⟩
       |false=>go_wp2_with fail;go_ret;exact⟨by rw [E.o,B.o,D.o,F.o,if_neg cU,if_neg cU,if_neg cU,if_neg O.o,G.o,if_neg cU,if_neg Z.o,if_neg (of_decide_eq_false A.o.symm)];rfl,M.o⟩
end Go.Proofs.YtmaijkoopjocdaaGreat
