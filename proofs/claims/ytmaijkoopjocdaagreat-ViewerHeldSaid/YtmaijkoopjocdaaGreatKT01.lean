import Derived.Lib.Hide
import Derived.Test.YtmaijkoopjocdaaGreatChecked
import Derived.WalkKit
import Derived.WalkSpells
import Derived.WalkLawsBesides
import Derived.Lib.OthersKept
import Derived.OwnWalk
import Derived.Deep.LoopGhost
import Derived.BigQuiet
import Derived.BigRegion
import Derived.Outline
import Derived.Test.YtmaijkoopjocdaaGreatKT00
set_option maxRecDepth 100000
set_option maxHeartbeats 64000000
namespace Go.Proofs.YtmaijkoopjocdaaGreat
def lg (x q:Int):Int:=if q<x then q else x
def jF:List Int→Int→List Int
 | [],_=> []
 |x::t,q=>lg x q::jF t (q-lg x q)
def n3:List Int→Int→Int
 | [],q=>q
 |x::t,q=>n3 t (q-lg x q)
def g6 (l b:List Int):List Int:=List.zipWith (fun x y=>x-y) l b
def nZ (a b:List Int):List Int:=List.zipWith (fun x y=>x+y) a b
def xe (l:List Int) (q:Int):Bool:=decide (l.length≤250∧0≤q∧(∀x∈l,1≤x∧x≤1000000)∧q≤l.sum)
def kQ (least q all x:Int):Int:=if(if 0<all then x*q / all else 0)<least then 0 else if 0<all then x*q / all else 0
def m6 (l:List Int) (least q:Int):List Int:=l.map (kQ least q l.sum)
def vB (l:List Int) (least q:Int):List Int:=nZ (m6 l least q) (jF (g6 l (m6 l least q)) (q-(m6 l least q).sum))
def ri (most q x:Int):Int:=if x<(if q<most then q else most)then x else if q<most then q else most
def yD (l:List Int) (top:Int) (most q:Int):List Int:=
 if 0≤top∧top<l.length then(List.replicate l.length 0).set top.toNat (ri most q (l.getD top.toNat 0))else List.replicate l.length 0
def FY (l:List Int) (top:Int) (most q:Int):Int:=
 if 0≤top∧top<l.length then q-ri most q (l.getD top.toNat 0)else q
def DR (l:List Int) (q:Int):List Int:=if xe l q=true then jF l q else []
def DT (l:List Int) (top most least q:Int):List Int:=
 if xe l q=true∧1≤least∧0≤most then nZ (yD l top most q) (vB (g6 l (yD l top most q)) least (FY l top most q))else []
def DS (l:List Int) (part least q:Int):List Int:=
 if xe l q=true∧0≤part∧part≤100∧1≤least then nZ (jF l (q*part / 100)) (vB (g6 l (jF l (q*part / 100))) least (q-q*part / 100))else []
theorem r0:∀(l:List Int) (q:Int),(jF l q).length=l.length
 | [],_=>rfl
 |x::t,q=>by unfold jF;rw [List.length_cons,List.length_cons,r0 t]
theorem rZ (l b:List Int) (h:b.length=l.length):(g6 l b).length=l.length:=by
 unfold g6;rw [List.length_zipWith,h,Nat.min_self]
theorem Rd (l b:List Int) (h:b.length=l.length):(nZ l b).length=l.length:=by
 unfold nZ;rw [List.length_zipWith,h,Nat.min_self]
theorem Jl (l:List Int) (least q:Int):(m6 l least q).length=l.length:=by unfold m6;rw [List.length_map]
theorem zZ (l:List Int) (least q:Int):(vB l least q).length=l.length:=by
 unfold vB;rw [Rd _ _ (by rw [r0,rZ _ _ (Jl l least q),Jl]),Jl]
theorem Re (l:List Int) (top most q:Int):(yD l top most q).length=l.length:=by
 unfold yD;split
 ·rw [List.length_set,List.length_replicate]
 ·rw [List.length_replicate]
theorem agk (l:List Int) (q:Int):(DR l q).length≤l.length:=by
 unfold DR;split
 ·rw [r0];exact Nat.le_refl _
 ·exact Nat.zero_le _
theorem agl (l:List Int) (top most least q:Int):(DT l top most least q).length≤l.length:=by
 unfold DT;split
 ·rw [Rd _ _ (by rw [zZ,rZ _ _ (Re l top most q),Re]),Re];exact Nat.le_refl _
 ·exact Nat.zero_le _
theorem agm (l:List Int) (part least q:Int):(DS l part least q).length≤l.length:=by
 unfold DS;split
 ·rw [Rd _ _ (by rw [zZ,rZ _ _ (r0 l _),r0]),r0];exact Nat.le_refl _
 ·exact Nat.zero_le _
theorem X8 (x q:Int):lg x q≤x∧lg x q≤q:=by unfold lg;split<;>omega
theorem agd {x q:Int} (hx:0≤x) (hq:0≤q):0≤lg x q:=by unfold lg;split<;>omega
theorem Ms:∀{l:List Int} {k:Nat} {x q:Int},l[k]? =some x→(jF l q)[k]? =some (lg x (n3 (l.take k) q))
 |y::t,0,x,q,h=>by
  rw [List.getElem?_cons_zero]at h;injection h with h;subst h;rfl
 |y::t,k+1,x,q,h=>by
  rw [List.getElem?_cons_succ]at h;unfold jF;rw [List.getElem?_cons_succ,Ms h];rfl
theorem Yj:∀(l:List Int) (x q:Int),jF (l++ [x]) q=jF l q++ [lg x (n3 l q)]
 | [],x,q=>rfl
 |y::t,x,q=>by
  rw [List.cons_append];unfold jF n3;rw [Yj t,List.cons_append]
theorem Yk:∀(l:List Int) (x q:Int),n3 (l++ [x]) q=n3 l q-lg x (n3 l q)
 | [],x,q=>rfl
 |y::t,x,q=>by
  rw [List.cons_append];show n3 (t++ [x]) _=_;rw [Yk t];rfl
theorem Mt:∀{l:List Int} {q b:Int},(∀x∈l,0≤x)→-b≤q→q≤b→0≤b→-b≤n3 l q∧n3 l q≤b
 | [],q,b,_,h1,h2,_=>⟨h1,h2⟩
 |x::t,q,b,h,h1,h2,h3=>by
  have hx:=h x (List.mem_cons_self ..);show-b≤n3 t (q-lg x q)∧n3 t (q-lg x q)≤b;refine Mt (fun y hy=>h y (List.mem_cons_of_mem _ hy)) ?_ ?_ h3<;>(unfold lg;split<;>omega)
theorem Ra:∀{l:List Int} {q:Int},(∀x∈l,0≤x)→0≤q→n3 l q=q-(jF l q).sum∧0≤n3 l q∧(q≤l.sum→n3 l q=0)
 | [],q,_,h=>⟨by simp [n3,jF],h,fun h2=>by simp at h2;show q=0;omega⟩
 |x::t,q,hx,h=>by
  have h0:=hx x (List.mem_cons_self ..);have hm:0≤q-lg x q:=by have:=(X8 x q).2;omega
  obtain⟨h1,h2,h3⟩:=Ra (l:=t) (q:=q-lg x q) (fun y hy=>hx y (List.mem_cons_of_mem _ hy)) hm
  have hs:0≤t.sum:=by
   clear h1 h2 h3;have hy:∀y∈t,0≤y:=fun y hy=>hx y (List.mem_cons_of_mem _ hy)
   induction t with
   |nil=>simp
   |cons z t ih=>
    rw [List.sum_cons];have:=hy z (List.mem_cons_self ..);have:=ih (fun y hy'=>hx y (by rcases List.mem_cons.1 hy' with rfl|h5<;>simp_all)) (fun y h=>hy y (List.mem_cons_of_mem _ h));omega
  refine⟨?_,h2,fun h4=>h3 ?_⟩
  ·show n3 t (q-lg x q)=q-(lg x q::jF t (q-lg x q)).sum
   rw [h1,List.sum_cons];omega
  ·rw [List.sum_cons]at h4
   unfold lg;split<;>omega
theorem DN:∀{l:List Int},(∀x∈l,0≤x)→0≤l.sum
 | [],_=>by simp
 |x::t,h=>by
  rw [List.sum_cons];have:=h x (List.mem_cons_self ..);have:=DN (l:=t) (fun y hy=>h y (List.mem_cons_of_mem _ hy));omega
theorem zY:∀{l:List Int} {b:Int},(∀x∈l,x≤b)→l.sum≤b*l.length
 | [],b,_=>by simp
 |x::t,b,h=>by
  rw [List.sum_cons,List.length_cons];have h1:=h x (List.mem_cons_self ..);have h2:=zY (l:=t) (fun y hy=>h y (List.mem_cons_of_mem _ hy));rw [show((t.length+1:Nat):Int)=(t.length:Int)+1 from rfl,Int.mul_add,Int.mul_one];omega
theorem Q7 (l:List Int) (x:Int):(l++ [x]).sum=l.sum+x:=by rw [List.sum_append];simp
theorem X5:∀(l b:List Int),b.length=l.length→(g6 l b).sum=l.sum-b.sum
 | [],[],_=>by simp [g6]
 |x::t,y::b,h=>by
  have:=X5 t b (by simpa using h);unfold g6 at this⊢;rw [List.zipWith_cons_cons,List.sum_cons,this,List.sum_cons,List.sum_cons];omega
theorem XZ {l b:List Int} {k:Nat} {x y:Int} (h1:l[k]? =some x) (h2:b[k]? =some y):(g6 l b)[k]? =some (x-y):=by
 unfold g6;rw [List.getElem?_zipWith,h1,h2]
theorem agb {l b:List Int} {k:Nat} {x y:Int} (h1:l[k]? =some x) (h2:b[k]? =some y):(nZ l b)[k]? =some (x+y):=by
 unfold nZ;rw [List.getElem?_zipWith,h1,h2]
theorem af8 {least q all x:Int} (hl:1≤least) (hx:0≤x) (hq:0≤q) (h:all≤0∨q≤all):0≤kQ least q all x∧kQ least q all x≤x:=by
 unfold kQ;by_cases ha:0<all
 ·rw [if_pos ha]
  have h1:0≤x*q / all:=Int.ediv_nonneg (Int.mul_nonneg hx hq) (by omega)
  have h2:x*q / all≤x:=by
   refine Int.ediv_le_of_le_mul ha ?_;exact Int.mul_le_mul_of_nonneg_left (by omega) hx
  split<;>omega
 ·rw [if_neg ha]
  split<;>omega
end Go.Proofs.YtmaijkoopjocdaaGreat
namespace Go.Proofs.YtmaijkoopjocdaaGreat
open Go.RowKit
def rs (s:ByteArray):Nat→Nat→List (Nat×Nat)
 |0,_=> []
 |f+1,p=>if p<s.size then(p,(Utf8.decode s p).1)::rs s f (p+(Utf8.decode s p).2)else []
theorem I4 (s:ByteArray) (pos:Nat) (h:pos<s.size):1≤(Utf8.decode s pos).2:=by
 by_cases ha:(s[pos]'h).toNat<128
 ·rw [decode_ascii s pos h ha]
  exact Nat.le_refl _
 ·exact(decode_high s pos h (by omega)).2
theorem DX (s:ByteArray) (f p:Nat) (h:¬p<s.size):rs s f p= []:=by
 cases f with
 |zero=>rfl
 |succ f=>simp [rs,h]
theorem ahk (s:ByteArray):∀(f g p:Nat),s.size≤p+f→s.size≤p+g→rs s f p=rs s g p:=by
 intro f
 induction f with
 |zero=>
  intro g p h _;rw [DX s 0 p (by omega),DX s g p (by omega)]
 |succ f ih=>
  intro g p hf hg;cases g with
  |zero=>rw [DX s _ p (by omega),DX s _ p (by omega)]
  |succ g=>
   by_cases hp:p<s.size
   ·have:=I4 s p hp
    simp only [rs,hp,if_true];rw [ih g _ (by omega) (by omega)]
   ·rw [DX s _ p hp,DX s _ p hp]
def nY (s:ByteArray) (p:Nat):List (Nat×Nat):=rs s (s.size-p) p
theorem I3 (s:ByteArray) (p:Nat) (h:¬p<s.size):nY s p= []:=DX s _ p h
theorem I2 (s:ByteArray) (p:Nat) (h:p<s.size):nY s p=(p,(Utf8.decode s p).1)::nY s (p+(Utf8.decode s p).2):=by
 unfold nY;have:=I4 s p h;rw [show s.size-p=(s.size-p-1)+1 by omega];simp only [rs,h,if_true];rw [ahk s _ (s.size-(p+(Utf8.decode s p).2)) _ (by omega) (by omega)]
theorem Xs (s:ByteArray) (p:Nat):(nY s p).length≤s.size-p:=by
 unfold nY;generalize s.size-p=f
 induction f generalizing p with
 |zero=>simp [rs]
 |succ f ih=>
  simp only [rs];split
  ·simp;exact ih _
  ·simp
theorem Y5 (s:ByteArray) (w:World) (hs:s.size≤maxLen):
 Calls Tryz.prog 114 #[.string s] w fun e w'=>e= .returned (.int .i64 (nY s 0).length)∧Below w.heap.size w w':=by
 unfold maxLen at hs;have hl:=Xs s 0;go_enter Tryz.func114,Tryz.ntmps114
 go_wp2
 go_loopw [3] (fun n w'=>∃(pos k:Nat),w'=w.iter s pos∧n= .int .i64 k∧k+(nY s pos).length=(nY s 0).length) (fun _ w'=>s.size-w'.iterPos w.heap.size)
 case atStart=>exact⟨0,0,rfl,rfl,by simp⟩
 case round=>
  obtain⟨pos,k,rfl,rfl,hc⟩:=hrel;by_cases hp:pos<s.size
  ·have zG:∀ty,(Instr.next (.pointer (some ⟨w.heap.size,0,none⟩)) true ty).run Tryz.prog (w.iter s pos)=_:=fun ty=>run_next_any w s pos ty hp
   have hwd:=I4 s pos hp;have hcs:=I2 s pos hp;have hk:k+1+(nY s (pos+(Utf8.decode s pos).2)).length=(nY s 0).length:=by rw [hcs]at hc;simp at hc;omega
   have hk2:k+1≤s.size:=by omega
   have eY:=af hk;clear hcs hc hk;go_wp2
   go_roundw
   case rel=>exact⟨_,k+1,rfl,by go_num,eY.out⟩
   case measure=>
    simp;omega
  ·have zG:∀ty,(Instr.next (.pointer (some ⟨w.heap.size,0,none⟩)) true ty).run Tryz.prog (w.iter s pos)=_:=fun ty=>run_next_end w s pos ty hp
   rw [I3 s pos hp]at hc;have aU:=af hc;clear hc;go_wp2
   go_ret;have h1:=aU.out;simp at h1;exact⟨by simp [h1],(Below.refl _ _).alloc (Nat.le_refl _) _⟩
def vw (r:Nat):Bool:=(65≤r&&r≤90)||(913≤r&&r≤937&&r !=930)
def n8 (s:ByteArray):Bool:=(nY s 0).all (fun x=>vw x.2)&& !s.toList.isEmpty&&decide (((nY s 0).length:Int)≤4)
theorem Xt (r:Nat):((r:Int)<65∧decide ((65:Int)≤r)=false∧decide ((913:Int)≤r)=false∧decide ((r:Int)≤90)=true∧decide ((r:Int)≤937)=true∧((r:Int) !=930)=true∧vw r=false)∨
 (((65:Int)≤r∧(r:Int)≤90)∧decide ((65:Int)≤r)=true∧decide ((913:Int)≤r)=false∧decide ((r:Int)≤90)=true∧decide ((r:Int)≤937)=true∧((r:Int) !=930)=true∧vw r=true)∨
 (((90:Int)<r∧(r:Int)<913)∧decide ((65:Int)≤r)=true∧decide ((913:Int)≤r)=false∧decide ((r:Int)≤90)=false∧decide ((r:Int)≤937)=true∧((r:Int) !=930)=true∧vw r=false)∨
 (((913:Int)≤r∧(r:Int)≤937)∧decide ((65:Int)≤r)=true∧decide ((913:Int)≤r)=true∧decide ((r:Int)≤90)=false∧decide ((r:Int)≤937)=true∧((r:Int) !=930)=true∧vw r=true)∨
 (((930:Int)≤r∧(r:Int)≤930)∧decide ((65:Int)≤r)=true∧decide ((913:Int)≤r)=true∧decide ((r:Int)≤90)=false∧decide ((r:Int)≤937)=true∧((r:Int) !=930)=false∧vw r=false)∨
 ((937:Int)<r∧decide ((65:Int)≤r)=true∧decide ((913:Int)≤r)=true∧decide ((r:Int)≤90)=false∧decide ((r:Int)≤937)=false∧((r:Int) !=930)=true∧vw r=false):=by
 unfold vw;simp only [Bool.or_eq_true,Bool.and_eq_true,decide_eq_true_eq,bne_iff_ne,Bool.or_eq_false_iff,Bool.and_eq_false_iff,decide_eq_false_iff_not,bne_eq_false_iff_eq];omega
theorem aae (s:ByteArray) (w:World) (hs:s.size≤maxLen):
 Calls Tryz.prog 74 #[.string s] w fun e w'=>e= .returned (.bool (n8 s))∧Below w.heap.size w w':=by
 have hs0:=hs;unfold maxLen at hs;go_enter Tryz.func74,Tryz.ntmps74
 go_wp2
 go_loopw [4,5] (fun _ _ w'=>∃(pos:Nat),w'=w.iter s pos∧(nY s 0).all (fun x=>vw x.2)=(nY s pos).all (fun x=>vw x.2)) (fun _ _ w'=>s.size-w'.iterPos w.heap.size)
 case atStart=>exact⟨0,rfl,rfl⟩
 case round=>
  obtain⟨pos,rfl,hc⟩:=hrel;by_cases hp:pos<s.size
  ·have zG:∀ty,(Instr.next (.pointer (some ⟨w.heap.size,0,none⟩)) true ty).run Tryz.prog (w.iter s pos)=_:=fun ty=>run_next_any w s pos ty hp
   have hwd:=I4 s pos hp;rw [I2 s pos hp,List.all_cons]at hc;generalize hr:(Utf8.decode s pos).1=r at*;have hrb:r≤2147483647:=by rw [←hr];exact decode_le s pos
   clear hr;rcases Xt r with h|h|h|h|h|h
   all_goals
    obtain⟨g1,b1,b2,b3,b4,aW,aO⟩:=h;rw [aO]at hc;have aU:=af hc;clear hc aO;go_wp2
    first
    |(go_roundw
      case rel=>exact⟨_,rfl,by simpa using aU.out⟩
      case measure=>
       simp;omega)
    |(go_ret
      have h1:=aU.out;simp only [Bool.false_and]at h1;exact⟨by simp [n8,h1],(Below.refl _ _).alloc (Nat.le_refl _) _⟩)
  ·have zG:∀ty,(Instr.next (.pointer (some ⟨w.heap.size,0,none⟩)) true ty).run Tryz.prog (w.iter s pos)=_:=fun ty=>run_next_end w s pos ty hp
   rw [I3 s pos hp]at hc;have aU:=af hc;clear hc;by_cases he:s.toList= []
   ·have hz:s.toList.isEmpty=true:=by simp [he]
    go_wp2_with (go_at_call 114;refine(Y5 _ _ hs0).mono ?_;rintro e w1 ⟨rfl,hb1⟩)
    go_ret;exact⟨by simp [n8,hz],(Below.refl _ _).alloc (Nat.le_refl _) _⟩
   ·have hz:s.toList.isEmpty=false:=by simp [he]
    go_wp2_with (go_at_call 114;refine(Y5 _ _ hs0).mono ?_;rintro e w1 ⟨rfl,hb1⟩)
    go_ret;have h1:=aU.out;simp only [List.all_nil]at h1;exact⟨by simp [n8,hz,h1],((Below.refl _ _).alloc (Nat.le_refl _) _).trans (hb1.mono (by simp [World.iter]))⟩
theorem afH (s:ByteArray) (h:¬0<s.size):s.data.toList= []:=by
 apply List.eq_nil_of_length_eq_zero;rw [Array.length_toList];show s.size=0;omega
theorem afI (s:ByteArray) (h:0<s.size):s.toList.isEmpty=false:=by
 rw [ByteArray.toList_eq];cases hl:s.data.toList with
 |nil=>
  have:s.data.toList.length=s.size:=by simp
  rw [hl]at this;simp at this;omega
 |cons a l=>rfl
theorem afJ (s:ByteArray):decide ((1:Int)≤((nY s 0).length:Int))= !s.toList.isEmpty:=by
 by_cases h:0<s.size
 ·rw [afI s h,I2 s 0 h,decide_eq_true (by rw [List.length_cons];omega)]
  rfl
 ·rw [I3 s 0 h,ByteArray.toList_eq]
  rw [afH s h];rfl
theorem afq (s:ByteArray) (w:World) (hs:s.size≤maxLen):
 Calls Tryz.prog 129 #[.string s] w fun e w'=>e= .returned (.bool (n8 s))∧Below w.heap.size w w':=by
 have hl:=Xs s 0;have hs1:s.size≤9223372036854775807:=by unfold maxLen at hs;omega
 clear hs;go_enter Tryz.func129,Tryz.ntmps129
 go_wp2
 go_loopw [3,5] (fun n _ w'=>∃(pos k:Nat),w'=w.iter s pos∧n= .int .i64 k∧k+(nY s pos).length=(nY s 0).length∧(nY s 0).all (fun x=>vw x.2)=(nY s pos).all (fun x=>vw x.2)) (fun _ _ w'=>s.size-w'.iterPos w.heap.size)
 case atStart=>exact⟨0,0,rfl,rfl,by simp,rfl⟩
 case round=>
  obtain⟨pos,k,rfl,rfl,hk,hc⟩:=hrel;by_cases hp:pos<s.size
  ·have zG:∀ty,(Instr.next (.pointer (some ⟨w.heap.size,0,none⟩)) true ty).run Tryz.prog (w.iter s pos)=_:=fun ty=>run_next_any w s pos ty hp
   have hwd:=I4 s pos hp;rw [I2 s pos hp,List.length_cons]at hk;rw [I2 s pos hp,List.all_cons]at hc;have cJ:k+1≤s.size:=by omega
   have eY:=af hk;clear hk;generalize hr:(Utf8.decode s pos).1=r at*;have hrb:r≤2147483647:=by rw [←hr];exact decode_le s pos
   clear hr;rcases Xt r with h|h|h|h|h|h
   all_goals
    obtain⟨g1,b1,b2,b3,b4,aW,aO⟩:=h;rw [aO]at hc;have aU:=af hc;clear hc aO;go_wp2
    first
    |(go_roundw
      case rel=>exact⟨_,k+1,rfl,by go_num,by have:=eY.out;omega,by simpa using aU.out⟩
      case measure=>
       simp;omega)
    |(go_ret
      have h1:=aU.out;simp only [Bool.false_and]at h1;exact⟨by simp [n8,h1],(Below.refl _ _).alloc (Nat.le_refl _) _⟩)
  ·have zG:∀ty,(Instr.next (.pointer (some ⟨w.heap.size,0,none⟩)) true ty).run Tryz.prog (w.iter s pos)=_:=fun ty=>run_next_end w s pos ty hp
   rw [I3 s pos hp,List.length_nil]at hk;rw [I3 s pos hp]at hc
   have dy:Hid (n8 s=(decide ((1:Int)≤(k:Int))&&decide ((k:Int)≤4))):=by
    show n8 s=_;unfold n8;rw [hc,←afJ s,show(nY s 0).length=k by omega];simp
   clear hk hc hl;by_cases h1:1≤k
   ·have b1:decide ((1:Int)≤(k:Int))=true:=decide_eq_true (by omega)
    go_wp2
    go_ret;exact⟨by rw [dy.out,b1];simp,(Below.refl _ _).alloc (Nat.le_refl _) _⟩
   ·have b1:decide ((1:Int)≤(k:Int))=false:=decide_eq_false (by omega)
    go_wp2
    go_ret;exact⟨by rw [dy.out,b1];simp,(Below.refl _ _).alloc (Nat.le_refl _) _⟩
def b8 (n:Int):Prop:= -9223372036854775808≤n∧n≤9223372036854775807
def qE (w:World) (a:Option Addr) (L:List Int):Prop:=∀j x,L[j]? =some x→b8 x∧∃b off,a=some ⟨b,off,none⟩∧b<w.heap.size∧w.cell? ⟨b,off+j,none⟩=some (.int .i64 x)
theorem qE.below {w w':World} {a:Option Addr} {L:List Int} (h:qE w a L) (hb:Below w.heap.size w w'):qE w' a L:=by
 intro j x hj;obtain⟨h0,b,off,h1,h2,h3⟩:=h j x hj;exact⟨h0,b,off,h1,Nat.lt_of_lt_of_le h2 hb.size,(hb.cell (p:=⟨b,off+j,none⟩) h2).trans h3⟩
theorem dc {α:Type} {L:List α} {j:Nat} {e:α} (h:L[j]? =some e):j<L.length:=by
 rcases Nat.lt_or_ge j L.length with h1|h1
 ·exact h1
 ·rw [List.getElem?_eq_none h1]at h;cases h
theorem lq {α:Type} {A:List α} {n:Nat} {x:α} (h:A[n]? =some x):∃hn:n<A.length,A[n]'hn=x:=by
 have hl:=dc h;refine⟨hl,?_⟩;rw [List.getElem?_eq_getElem hl]at h;injection h
theorem zD {α:Type} {A:List α} {n:Nat} {x d:α} (h:A[n]? =some x):A.getD n d=x:=by
 rw [List.getD_eq_getElem?_getD,h];rfl
structure Prod where
 code:ByteArray
 ma:Option Addr
 months:List Int
 mc:Nat
 tick:Int
 low:Int
 high:Int
 wide:Int
 rule:Int
 top:Int
 least:Int
 part:Int
 sa:Option Addr
 settle:List Int
 sc:Nat
def Prod.cells (p:Prod):Array Value:=#[.string p.code,.slice p.ma p.months.length p.mc,.int .i64 p.tick,.int .i64 p.low,.int .i64 p.high,.int .i64 p.wide,.int .i64 p.rule,.int .i64 p.top,.int .i64 p.least,.int .i64 p.part,.slice p.sa p.settle.length p.sc]
def Prod.agg (p:Prod):Value:= .agg p.cells
structure fZ (w:World) (p:Prod):Prop where
 code:p.code.size≤1000
 Gr:qE w p.ma p.months
 aQ:qE w p.sa p.settle
 Ao:p.months.length≤1000000
 D9:p.settle.length≤1000000
 tick:b8 p.tick
 low:b8 p.low
 high:b8 p.high
 wide:b8 p.wide
theorem fZ.below {w w':World} {p:Prod} (h:fZ w p) (hb:Below w.heap.size w w'):fZ w' p:=
 ⟨h.code,h.Gr.below hb,h.aQ.below hb,h.Ao,h.D9,h.tick,h.low,h.high,h.wide⟩
def PC (w:World) (g:Nat) (p:Prod):Prop:=w.cell? ⟨g,0,none⟩=some (.string p.code)∧w.cell? ⟨g,1,none⟩=some (.slice p.ma p.months.length p.mc)∧w.cell? ⟨g,2,none⟩=some (.int .i64 p.tick)∧w.cell? ⟨g,3,none⟩=some (.int .i64 p.low)∧w.cell? ⟨g,4,none⟩=some (.int .i64 p.high)∧w.cell? ⟨g,5,none⟩=some (.int .i64 p.wide)∧w.cell? ⟨g,6,none⟩=some (.int .i64 p.rule)∧w.cell? ⟨g,7,none⟩=some (.int .i64 p.top)∧w.cell? ⟨g,8,none⟩=some (.int .i64 p.least)∧w.cell? ⟨g,9,none⟩=some (.int .i64 p.part)∧w.cell? ⟨g,10,none⟩=some (.slice p.sa p.settle.length p.sc)
theorem PC.new (w:World) (p:Prod):PC (w.alloc (.cells p.cells 25)) w.heap.size p:=by
 have h:∀i,(w.alloc (.cells p.cells 25)).cell? ⟨w.heap.size,i,none⟩=p.cells[i]? :=fun i=>cell_of_row _ _ _ _ _ (0,0) (heap_alloc_new w _);exact⟨h 0,h 1,h 2,h 3,h 4,h 5,h 6,h 7,h 8,h 9,h 10⟩
theorem PC.below {w w':World} {g:Nat} {p:Prod} (h:PC w g p) (hb:Below w.heap.size w w') (hg:g<w.heap.size):PC w' g p:=by
 have e:∀o,w'.cell? ⟨g,o,none⟩=w.cell? ⟨g,o,none⟩:=fun o=>hb.cell (p:=⟨g,o,none⟩) hg;obtain⟨h0,h1,h2,h3,h4,h5,h6,h7,h8,h9,Fx⟩:=h;exact⟨(e _).trans h0,(e _).trans h1,(e _).trans h2,(e _).trans h3,(e _).trans h4,(e _).trans h5,(e _).trans h6,(e _).trans h7,(e _).trans h8,(e _).trans h9,(e _).trans Fx⟩
theorem Below.aA (w:World) (o:Obj):Below w.heap.size w (w.alloc o):=(Below.refl _ _).alloc (Nat.le_refl _) o
theorem Below.bT (w:World) (n:Nat):Below w.heap.size w (w.drewN n):=⟨rfl,rfl,rfl,Nat.le_refl _,fun _ _=>rfl⟩
def uB (L:List Int) (k:Nat):Bool:=decide (0≤L.getD k 0)&&decide (L.getD k 0≤1199)&&(k==0||decide (L.getD (k-1) 0<L.getD k 0))
def ku (L:List Int):Bool:=(List.range L.length).all (uB L)&&decide (2≤L.length)&&decide (L.length≤6)
theorem Fy {L:List Int} {k:Nat} (hk:k<L.length) (h:uB L k=false):ku L=false:=by
 unfold ku
 have:(List.range L.length).all (uB L)=false:=by
  rw [Bool.eq_false_iff];intro ha;rw [List.all_eq_true]at ha;have:=ha k (List.mem_range.2 hk);rw [h]at this;cases this
 rw [this];rfl
theorem Ww {L:List Int} (h:∀k,k<L.length→uB L k=true):ku L=(decide (2≤L.length)&&decide (L.length≤6)):=by
 unfold ku
 have:(List.range L.length).all (uB L)=true:=by
  rw [List.all_eq_true];intro k hk;exact h k (List.mem_range.1 hk)
 rw [this];rfl
theorem Wx {L:List Int} {k:Nat} {x:Int} (h:L[k]? =some x):uB L k=(decide (0≤x)&&decide (x≤1199)&&(k==0||decide (L.getD (k-1) 0<x))):=by
 unfold uB;rw [zD h]
theorem aaf (a:Option Addr) (c:Nat) (L:List Int) (w:World) (hI:qE w a L) (hl:L.length≤1000000):
 Calls Tryz.prog 75 #[.slice a L.length c] w fun e w'=>e= .returned (.bool (ku L))∧w=w':=by
 have jT:=af hI;clear hI;go_enter Tryz.func75,Tryz.ntmps75
 go_wp2_with fail
 go_loop [7] (fun i=>∃k:Nat,i= .int .i64 k∧k≤L.length∧Hid (∀j,j<k→uB L j=true)) (fun i=>L.length-(RowKit.intOf i).toNat)
 case atStart=>exact⟨0,rfl,Nat.zero_le _,af fun j h=>by omega⟩
 case round=>
  obtain⟨k,rfl,hk,eY⟩:=hrel;by_cases fP:k<L.length
  ·obtain⟨x,hx⟩:∃x,L[k]? =some x:=⟨_,List.getElem?_eq_getElem fP⟩
   obtain⟨hok,b,off,rfl,_,c0⟩:=jT.out k x hx;have vY:(k:Int)<(L.length:Int):=by omega
   have cA:=af (Wx hx);by_cases h1:x<0
   ·have aE:Hid (ku L=false):=af (Fy fP (by rw [cA.out,decide_eq_false (show¬0≤x by omega)];rfl))
    clear hx hok;go_wp2_with fail
    go_ret;exact⟨by rw [aE.out];rfl,by trivial⟩
   ·by_cases h2:1199<x
    ·have aE:Hid (ku L=false):=af (Fy fP (by rw [cA.out,decide_eq_false (show¬x≤1199 by omega),Bool.and_false];rfl))
     clear hx hok;go_wp2_with fail
     go_ret;exact⟨by rw [aE.out];rfl,by trivial⟩
    ·by_cases jR:k=0
     ·have aE:Hid (uB L k=true):=af (by rw [cA.out,decide_eq_true (show 0≤x by omega),decide_eq_true (show x≤1199 by omega),jR];rfl)
      have PY:=af jR;have cJ:¬(0:Int)<(k:Int):=by omega
      clear hx hok jR;go_wp2_with fail
      go_round
      case rel=>exact⟨k+1,by go_num,by omega,af fun j hj=>by
       obtain rfl:j=k:=by have:=PY.out;omega
       exact aE.out⟩
      case measure=>simp [RowKit.intOf];omega
     ·obtain⟨k,rfl⟩:∃k',k=k'+1:=⟨k-1,by omega⟩
      obtain⟨y,hy⟩:∃y,L[k]? =some y:=⟨_,List.getElem?_eq_getElem (by omega)⟩;obtain⟨IC,b2,off2,he,_,c1⟩:=jT.out k y hy;obtain⟨rfl,rfl⟩:b=b2∧off=off2:=by injection he with he;injection he with h1 h2;exact⟨h1,h2⟩
      have zE:Hid (L.getD k 0=y):=af (zD hy);by_cases h3:x≤y
      ·have aE:Hid (ku L=false):=af (Fy fP (by rw [cA.out,Nat.add_sub_cancel,zE.out,decide_eq_false (show¬y<x by omega)];simp))
       clear hx hy hok IC he;go_wp2_with fail
       go_ret;exact⟨by rw [aE.out];rfl,by trivial⟩
      ·have aE:Hid (uB L (k+1)=true):=af (by rw [cA.out,Nat.add_sub_cancel,zE.out,decide_eq_true (show 0≤x by omega),decide_eq_true (show x≤1199 by omega),decide_eq_true (show y<x by omega)];simp)
       clear hx hy hok IC he;go_wp2_with fail
       go_round
       case rel=>exact⟨k+2,by go_num,by omega,af fun j hj=>by
        by_cases oV:j<k+1
        ·exact eY.out j oV
        ·obtain rfl:j=k+1:=by omega
         exact aE.out⟩
       case measure=>simp [RowKit.intOf];omega
  ·obtain rfl:k=L.length:=by omega
   have aE:=af (Ww eY.out);by_cases h2:2≤L.length
   ·have OC:(2:Int)≤(L.length:Int):=by omega
    go_wp2_with fail
    go_ret;refine⟨?_,by trivial⟩;rw [aE.out,decide_eq_true h2,Bool.true_and,show decide (L.length≤6)=decide ((L.length:Int)≤6)from decide_eq_decide.2 (by omega)];rfl
   ·have OC:¬(2:Int)≤(L.length:Int):=by omega
    go_wp2_with fail
    go_ret;exact⟨by rw [aE.out,decide_eq_false h2];rfl,by trivial⟩
def iZ (tick n:Int):Bool:=n.tmod tick !=0
theorem LS (g:Nat) (tick n:Int) (w:World) (ht:1≤tick) (oW:tick≤1000) (hc:w.cell? ⟨g,2,none⟩=some (.int .i64 tick)):
 Calls Tryz.prog 115 #[.int .i64 n,.pointer (some ⟨g,0,none⟩)] w fun e w'=>e= .returned (.bool (iZ tick n))∧w=w':=by
 have hz:(tick==0)=false:=by rw [beq_eq_false_iff_ne];omega
 have dG:(tick== -1)=false:=by rw [beq_eq_false_iff_ne];omega
 obtain⟨t,PZ⟩:∃t,n.tmod tick=t:=⟨_,rfl⟩;have e6:Hid (iZ tick n=(t !=0)):=af (by unfold iZ;rw [PZ]);go_enter Tryz.func115,Tryz.ntmps115
 go_wp2_with fail
 go_ret;exact⟨by rw [e6.out];rfl,by trivial⟩
section
variable {α β:Type} (c:α→List β) (m:Nat)
theorem lQ (hc:∀x,(c x).length=m) (S:List α):(S.flatMap c).length=S.length*m:=by
 induction S with
 |nil=>simp
 |cons x S ih=>rw [List.flatMap_cons,List.length_append,hc,ih,List.length_cons,Nat.succ_mul];omega
theorem LN (hc:∀x,(c x).length=m):∀(S:List α) (i k:Nat) (hi:i<S.length),k<m→(S.flatMap c)[i*m+k]? =(c (S[i]'hi))[k]? :=by
 intro S
 induction S with
 |nil=>intro i k hi;exact absurd hi (by simp)
 |cons x S ih=>
  intro i k hi hk;rw [List.flatMap_cons];cases i with
  |zero=>
   rw [Nat.zero_mul,Nat.zero_add,List.getElem?_append_left (by rw [hc];exact hk)];rfl
  |succ i=>
   rw [Nat.succ_mul,List.getElem?_append_right (by rw [hc];omega),hc,show i*m+m+k-m=i*m+k by omega];exact ih i k (by simpa using hi) hk
theorem adH (hc:∀x,(c x).length=m) (v:β) (y:α):∀(S:List α) (i k:Nat) (hi:i<S.length),k<m→c y=(c (S[i]'hi)).set k v→(S.flatMap c).set (i*m+k) v=(S.set i y).flatMap c:=by
 intro S
 induction S with
 |nil=>intro i k hi;exact absurd hi (by simp)
 |cons x S ih=>
  intro i k hi hk hy;cases i with
  |zero=>
   rw [Nat.zero_mul,Nat.zero_add,List.flatMap_cons,List.set_append_left _ _ (by rw [hc];exact hk)];show _=(y::S).flatMap c;rw [List.flatMap_cons,hy];rfl
  |succ i=>
   rw [Nat.succ_mul,List.flatMap_cons,List.set_append_right _ _ (by rw [hc];omega),hc,show i*m+m+k-m=i*m+k by omega];show _=(x::S.set i y).flatMap c;rw [List.flatMap_cons,ih i k (by simpa using hi) hk hy]
end
def aj (w:World) (g:Nat) (t:TypeId) (cs:Array Value):Prop:=w.heap[g]? =some (.cells cs t (0,0))
section
variable {w w':World} {g:Nat} {t:TypeId} {cs:Array Value}
theorem aj.lt (h:aj w g t cs):g<w.heap.size:=by
 rcases Nat.lt_or_ge g w.heap.size with hlt|hge
 ·exact hlt
 ·unfold aj at h;rw [Array.getElem?_eq_none hge]at h;cases h
theorem aj.cell (h:aj w g t cs) (i:Nat):w.cell? ⟨g,i,none⟩=cs[i]? :=cell_of_row w g i cs t (0,0) h
theorem aj.frozen (h:aj w g t cs) (i:Nat):w.frozen? ⟨g,i,none⟩=false:=by
 unfold aj at h;simp [World.frozen?,h]
theorem aj.new (w:World) (t:TypeId) (cs:Array Value):aj (w.alloc (.cells cs t)) w.heap.size t cs:=heap_alloc_new w _
theorem aj.drew (h:aj w g t cs):aj w.drew g t cs:=h
theorem aj.drewN (h:aj w g t cs) (n:Nat):aj (w.drewN n) g t cs:=h
theorem aj.alloc (h:aj w g t cs) (o:Obj):aj (w.alloc o) g t cs:=(Below.heap_alloc w o g h.lt).trans h
theorem aj.aQ (h:aj w g t cs) (i:Nat) (u:Value):aj (w.setCell ⟨g,i,none⟩ u) g t (cs.setIfInBounds i u):=by
 unfold aj at h⊢;simp [World.setCell,Array.getElem?_modify,h]
theorem aj.cm (h:aj w g t cs) {p:Addr} (hp:g≠p.block) (u:Value):aj (w.setCell p u) g t cs:=(Below.heap_setCell w p u g hp).trans h
end
structure aD (F:Nat→Prop) (w w':World):Prop where
 os:w'.os=w.os
 tape:w'.tape=w.tape
 output:w'.output=w.output
 size:w.heap.size≤w'.heap.size
 block:∀k,k<w.heap.size→¬F k→w'.heap[k]? =w.heap[k]?
section
variable {F G:Nat→Prop} {w w1 w2:World}
theorem aD.refl (F:Nat→Prop) (w:World):aD F w w:=⟨rfl,rfl,rfl,Nat.le_refl _,fun _ _ _=>rfl⟩
theorem aD.trans (h:aD F w w1) (k:aD F w1 w2):aD F w w2:=
 ⟨k.os.trans h.os,k.tape.trans h.tape,k.output.trans h.output,Nat.le_trans h.size k.size,fun i hi hf=>(k.block i (Nat.lt_of_lt_of_le hi h.size) hf).trans (h.block i hi hf)⟩
theorem aD.more (h:aD F w w1) (adI:∀k,F k→G k):aD G w w1:=⟨h.os,h.tape,h.output,h.size,fun k hk hg=>h.block k hk fun hf=>hg (adI k hf)⟩
theorem aD.step (h:aD F w w1) (k:aD G w1 w2) (hG:∀i,i<w.heap.size→G i→F i):aD F w w2:=
 ⟨k.os.trans h.os,k.tape.trans h.tape,k.output.trans h.output,Nat.le_trans h.size k.size,fun i hi hf=>(k.block i (Nat.lt_of_lt_of_le hi h.size) fun hg=>hf (hG i hi hg)).trans (h.block i hi hf)⟩
theorem aD.drew (h:aD F w w1):aD F w w1.drew:=⟨h.os,h.tape,h.output,h.size,h.block⟩
theorem aD.drewN (h:aD F w w1) (n:Nat):aD F w (w1.drewN n):=⟨h.os,h.tape,h.output,h.size,h.block⟩
theorem aD.alloc (h:aD F w w1) (o:Obj):aD F w (w1.alloc o):=
 ⟨h.os,h.tape,h.output,by have:=h.size;simp;omega,fun k hk hf=>(Below.heap_alloc w1 o k (Nat.lt_of_lt_of_le hk h.size)).trans (h.block k hk hf)⟩
theorem aD.setCell (h:aD F w w1) {p:Addr} (hp:p.block<w.heap.size→F p.block) (u:Value):aD F w (w1.setCell p u):=
 ⟨h.os,h.tape,h.output,by have:=h.size;simp [World.setCell];omega,fun k hk hf=>(Below.heap_setCell w1 p u k fun e=>hf (by rw [e];exact hp (by rw [←e];exact hk))).trans (h.block k hk hf)⟩
theorem aD.below {B:Nat} (h:aD F w w1) (hF:∀k,F k→B≤k) (hB:B≤w.heap.size):Below B w w1:=
 ⟨h.os,h.tape,h.output,h.size,fun k hk=>h.block k (Nat.lt_of_lt_of_le hk hB) fun hf=>by have:=hF k hf;omega⟩
theorem Below.keeps (h:Below w.heap.size w w1):aD F w w1:=⟨h.os,h.tape,h.output,h.size,fun k hk _=>h.block k hk⟩
theorem aj.keeps {g:Nat} {t:TypeId} {cs:Array Value} (h:aj w g t cs) (hk:aD F w w1) (hg:¬F g):aj w1 g t cs:=(hk.block g h.lt hg).trans h
end
end Go.Proofs.YtmaijkoopjocdaaGreat
