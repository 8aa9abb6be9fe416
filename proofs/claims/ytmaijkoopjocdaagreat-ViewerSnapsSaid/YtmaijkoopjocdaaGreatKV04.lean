import Derived.Test.YtmaijkoopjocdaaGreatKV02
import Derived.Test.YtmaijkoopjocdaaGreatKV03
import Derived.Deep.QuietTactic
import Derived.IntWalk
set_option maxRecDepth 100000
set_option maxHeartbeats 64000000
namespace Go.Proofs.YtmaijkoopjocdaaGreat
open Go.RowKit Go.Lib
def rs (s:ByteArray):Nat→Nat→List (Nat×Nat)
 |0,_=> []
 |f+1,p=>if p<s.size then(p,(Utf8.decode s p).1)::rs s f (p+(Utf8.decode s p).2)else []
theorem KU (s:ByteArray) (pos:Nat) (h:pos<s.size):1≤(Utf8.decode s pos).2:=by
 by_cases ha:(s[pos]'h).toNat<128
 ·rw [decode_ascii s pos h ha]
  exact Nat.le_refl _
 ·exact(decode_high s pos h (by omega)).2
theorem FP (s:ByteArray) (f p:Nat) (h:¬p<s.size):rs s f p= []:=by
 cases f with
 |zero=>rfl
 |succ f=>simp [rs,h]
theorem akH (s:ByteArray):∀(f g p:Nat),s.size≤p+f→s.size≤p+g→rs s f p=rs s g p:=by
 intro f
 induction f with
 |zero=>
  intro g p h _;rw [FP s 0 p (by omega),FP s g p (by omega)]
 |succ f ih=>
  intro g p hf hg;cases g with
  |zero=>rw [FP s _ p (by omega),FP s _ p (by omega)]
  |succ g=>
   by_cases hp:p<s.size
   ·have:=KU s p hp
    simp only [rs,hp,if_true];rw [ih g _ (by omega) (by omega)]
   ·rw [FP s _ p hp,FP s _ p hp]
def oU (s:ByteArray) (p:Nat):List (Nat×Nat):=rs s (s.size-p) p
theorem KT (s:ByteArray) (p:Nat) (h:¬p<s.size):oU s p= []:=FP s _ p h
theorem KS (s:ByteArray) (p:Nat) (h:p<s.size):oU s p=(p,(Utf8.decode s p).1)::oU s (p+(Utf8.decode s p).2):=by
 unfold oU;have:=KU s p h;rw [show s.size-p=(s.size-p-1)+1 by omega];simp only [rs,h,if_true];rw [akH s _ (s.size-(p+(Utf8.decode s p).2)) _ (by omega) (by omega)]
theorem Zs (s:ByteArray) (p:Nat):(oU s p).length≤s.size-p:=by
 unfold oU;generalize s.size-p=f
 induction f generalizing p with
 |zero=>simp [rs]
 |succ f ih=>
  simp only [rs];split
  ·simp;exact ih _
  ·simp
theorem abv (s:ByteArray) (w:World) (hs:s.size≤maxLen):
 Calls Tryz.prog 114 #[.string s] w fun e w'=>e= .returned (.int .i64 (oU s 0).length)∧Below w.heap.size w w':=by
 unfold maxLen at hs;have hl:=Zs s 0;go_enter Tryz.func114,Tryz.ntmps114
 go_wp2
 go_loopw [3] (fun n w'=>∃(pos k:Nat),w'=w.iter s pos∧n=↑k∧k+(oU s pos).length=(oU s 0).length) (fun _ w'=>s.size-w'.iterPos w.heap.size)
 case atStart=>exact⟨0,0,rfl,rfl,by simp⟩
 case round=>
  obtain⟨pos,k,rfl,rfl,hc⟩:=hrel;by_cases hp:pos<s.size
  ·have wD:∀ty,(Instr.next (.pointer ↑w.heap.size) true ty).run Tryz.prog (w.iter s pos)=_:=fun ty=>run_next_any w s pos ty hp
   have hwd:=KU s pos hp;have hcs:=KS s pos hp;have hk:k+1+(oU s (pos+(Utf8.decode s pos).2)).length=(oU s 0).length:=by rw [hcs]at hc;simp at hc;omega
   have hk2:k+1≤s.size:=by omega
   have e7:=af hk;clear hcs hc hk;go_wp2
   go_roundw
   case rel=>exact⟨_,k+1,rfl,by go_num,e7.out⟩
   case measure=>
    simp;omega
  ·have wD:∀ty,(Instr.next (.pointer ↑w.heap.size) true ty).run Tryz.prog (w.iter s pos)=_:=fun ty=>run_next_end w s pos ty hp
   rw [KT s pos hp]at hc;have bg:=af hc;clear hc;go_wp2
   go_ret;have h1:=bg.out;simp at h1;exact⟨by simp [h1],(Below.refl _ _).alloc (Nat.le_refl _) _⟩
def xD (r:Nat):Bool:=(65≤r&&r≤90)||(913≤r&&r≤937&&r !=930)
def o6 (s:ByteArray):Bool:=(oU s 0).all (fun x=>xD x.2)&& !s.toList.isEmpty&&decide (((oU s 0).length:Int)≤4)
theorem Zt (r:Nat):((r:Int)<65∧decide ((65:Int)≤r)=false∧decide ((913:Int)≤r)=false∧decide ((r:Int)≤90)=true∧decide ((r:Int)≤937)=true∧((r:Int) !=930)=true∧xD r=false)∨
 (((65:Int)≤r∧(r:Int)≤90)∧decide ((65:Int)≤r)=true∧decide ((913:Int)≤r)=false∧decide ((r:Int)≤90)=true∧decide ((r:Int)≤937)=true∧((r:Int) !=930)=true∧xD r=true)∨
 (((90:Int)<r∧(r:Int)<913)∧decide ((65:Int)≤r)=true∧decide ((913:Int)≤r)=false∧decide ((r:Int)≤90)=false∧decide ((r:Int)≤937)=true∧((r:Int) !=930)=true∧xD r=false)∨
 (((913:Int)≤r∧(r:Int)≤937)∧decide ((65:Int)≤r)=true∧decide ((913:Int)≤r)=true∧decide ((r:Int)≤90)=false∧decide ((r:Int)≤937)=true∧((r:Int) !=930)=true∧xD r=true)∨
 (((930:Int)≤r∧(r:Int)≤930)∧decide ((65:Int)≤r)=true∧decide ((913:Int)≤r)=true∧decide ((r:Int)≤90)=false∧decide ((r:Int)≤937)=true∧((r:Int) !=930)=false∧xD r=false)∨
 ((937:Int)<r∧decide ((65:Int)≤r)=true∧decide ((913:Int)≤r)=true∧decide ((r:Int)≤90)=false∧decide ((r:Int)≤937)=false∧((r:Int) !=930)=true∧xD r=false):=by
 unfold xD;simp only [Bool.or_eq_true,Bool.and_eq_true,decide_eq_true_eq,bne_iff_ne,Bool.or_eq_false_iff,Bool.and_eq_false_iff,decide_eq_false_iff_not,bne_eq_false_iff_eq];omega
theorem acN (s:ByteArray) (w:World) (hs:s.size≤maxLen):
 Calls Tryz.prog 74 #[.string s] w fun e w'=>e= .returned (.bool (o6 s))∧Below w.heap.size w w':=by
 have hs0:=hs;unfold maxLen at hs;go_enter Tryz.func74,Tryz.ntmps74
 go_wp2
 go_loopw [4,5] (fun _ _ w'=>∃(pos:Nat),w'=w.iter s pos∧(oU s 0).all (fun x=>xD x.2)=(oU s pos).all (fun x=>xD x.2)) (fun _ _ w'=>s.size-w'.iterPos w.heap.size)
 case atStart=>exact⟨0,rfl,rfl⟩
 case round=>
  obtain⟨pos,rfl,hc⟩:=hrel;by_cases hp:pos<s.size
  ·have wD:∀ty,(Instr.next (.pointer ↑w.heap.size) true ty).run Tryz.prog (w.iter s pos)=_:=fun ty=>run_next_any w s pos ty hp
   have hwd:=KU s pos hp;rw [KS s pos hp,List.all_cons]at hc;generalize hr:(Utf8.decode s pos).1=r at*;have hrb:r≤2147483647:=by rw [←hr];exact decode_le s pos
   clear hr;rcases Zt r with h|h|h|h|h|h
   all_goals
    obtain⟨g1,b1,b2,b3,b4,bk,aV⟩:=h;rw [aV]at hc;have bg:=af hc;clear hc aV;go_wp2
    first
    |(go_roundw
      case rel=>exact⟨_,rfl,by simpa using bg.out⟩
      case measure=>
       simp;omega)
    |(go_ret
      have h1:=bg.out;simp only [Bool.false_and]at h1;exact⟨by simp [o6,h1],(Below.refl _ _).alloc (Nat.le_refl _) _⟩)
  ·have wD:∀ty,(Instr.next (.pointer ↑w.heap.size) true ty).run Tryz.prog (w.iter s pos)=_:=fun ty=>run_next_end w s pos ty hp
   rw [KT s pos hp]at hc;have bg:=af hc;clear hc;by_cases he:s.toList= []
   ·have hz:s.toList.isEmpty=true:=by simp [he]
    go_wp2_with (go_at_call 114;refine(abv _ _ hs0).mono ?_;rintro e w1 ⟨rfl,hb1⟩)
    go_ret;exact⟨by simp [o6,hz],(Below.refl _ _).alloc (Nat.le_refl _) _⟩
   ·have hz:s.toList.isEmpty=false:=by simp [he]
    go_wp2_with (go_at_call 114;refine(abv _ _ hs0).mono ?_;rintro e w1 ⟨rfl,hb1⟩)
    go_ret;have h1:=bg.out;simp only [List.all_nil]at h1;exact⟨by simp [o6,hz,h1],((Below.refl _ _).alloc (Nat.le_refl _) _).trans (hb1.mono (by simp [World.iter]))⟩
theorem aiC (s:ByteArray) (h:¬0<s.size):s.data.toList= []:=by
 apply List.eq_nil_of_length_eq_zero;rw [Array.length_toList];show s.size=0;omega
theorem aiD (s:ByteArray) (h:0<s.size):s.toList.isEmpty=false:=by
 rw [ByteArray.toList_eq];cases hl:s.data.toList with
 |nil=>
  have:s.data.toList.length=s.size:=by simp
  rw [hl]at this;simp at this;omega
 |cons a l=>rfl
theorem aiE (s:ByteArray):decide ((1:Int)≤((oU s 0).length:Int))= !s.toList.isEmpty:=by
 by_cases h:0<s.size
 ·rw [aiD s h,KS s 0 h,decide_eq_true (by rw [List.length_cons];omega)]
  rfl
 ·rw [KT s 0 h,ByteArray.toList_eq]
  rw [aiC s h];rfl
theorem ah4 (s:ByteArray) (w:World) (hs:s.size≤maxLen):
 Calls Tryz.prog 129 #[.string s] w fun e w'=>e= .returned (.bool (o6 s))∧Below w.heap.size w w':=by
 have hl:=Zs s 0;have hs1:s.size≤9223372036854775807:=by unfold maxLen at hs;omega
 clear hs;go_enter Tryz.func129,Tryz.ntmps129
 go_wp2
 go_loopw [3,5] (fun n _ w'=>∃(pos k:Nat),w'=w.iter s pos∧n=↑k∧k+(oU s pos).length=(oU s 0).length∧(oU s 0).all (fun x=>xD x.2)=(oU s pos).all (fun x=>xD x.2)) (fun _ _ w'=>s.size-w'.iterPos w.heap.size)
 case atStart=>exact⟨0,0,rfl,rfl,by simp,rfl⟩
 case round=>
  obtain⟨pos,k,rfl,rfl,hk,hc⟩:=hrel;by_cases hp:pos<s.size
  ·have wD:∀ty,(Instr.next (.pointer ↑w.heap.size) true ty).run Tryz.prog (w.iter s pos)=_:=fun ty=>run_next_any w s pos ty hp
   have hwd:=KU s pos hp;rw [KS s pos hp,List.length_cons]at hk;rw [KS s pos hp,List.all_cons]at hc;have cN:k+1≤s.size:=by omega
   have e7:=af hk;clear hk;generalize hr:(Utf8.decode s pos).1=r at*;have hrb:r≤2147483647:=by rw [←hr];exact decode_le s pos
   clear hr;rcases Zt r with h|h|h|h|h|h
   all_goals
    obtain⟨g1,b1,b2,b3,b4,bk,aV⟩:=h;rw [aV]at hc;have bg:=af hc;clear hc aV;go_wp2
    first
    |(go_roundw
      case rel=>exact⟨_,k+1,rfl,by go_num,by have:=e7.out;omega,by simpa using bg.out⟩
      case measure=>
       simp;omega)
    |(go_ret
      have h1:=bg.out;simp only [Bool.false_and]at h1;exact⟨by simp [o6,h1],(Below.refl _ _).alloc (Nat.le_refl _) _⟩)
  ·have wD:∀ty,(Instr.next (.pointer ↑w.heap.size) true ty).run Tryz.prog (w.iter s pos)=_:=fun ty=>run_next_end w s pos ty hp
   rw [KT s pos hp,List.length_nil]at hk;rw [KT s pos hp]at hc
   have dx:Hid (o6 s=(decide ((1:Int)≤(k:Int))&&decide ((k:Int)≤4))):=by
    show o6 s=_;unfold o6;rw [hc,←aiE s,show(oU s 0).length=k by omega];simp
   clear hk hc hl;by_cases h1:1≤k
   ·have b1:decide ((1:Int)≤(k:Int))=true:=decide_eq_true (by omega)
    go_wp2
    go_ret;exact⟨by rw [dx.out,b1];simp,(Below.refl _ _).alloc (Nat.le_refl _) _⟩
   ·have b1:decide ((1:Int)≤(k:Int))=false:=decide_eq_false (by omega)
    go_wp2
    go_ret;exact⟨by rw [dx.out,b1];simp,(Below.refl _ _).alloc (Nat.le_refl _) _⟩
section
variable {α:Type}
theorem bl.steps (Y:bl α) {w:World} {ops:Array Oper} {o:Oper} {a:Act} {K:Act→World→Prop} {Q:Exit→Act→World→Prop} {E:Prop} (hgd:o.guard=none) (s x:Operand)
 (ho:o.op= .call {callee:= .builtin .append,args:=#[s,x],argTypes:=#[Y.ts,Y.ts]})
 (B:Nat) (v:Value) (L:List α) (hs:a.eval s=v) (hown:Y.Row w B v L) (A:Option Addr) (n c:Nat) (M:List α) (hn:M.length=n) (hx:a.eval x= .slice A n c) (hac:A=none→c=0) (hrd:Y.fR w A M)
 (hA:∀ad,A=some ad→∃b off,ad=⟨b,off,none⟩) (hle:L.length+M.length≤1000000) (hbase:B≤w.heap.size)
 (h:∀v' w',Y.Row w' B v' (L++M)→w.grownBy w' v.ownBlock→(v'.ownBlock=v.ownBlock∨v'.ownBlock=some w.heap.size)→K (a.put o.dst v') w'):
 if Region.wanted o (yielded ops a.tmps)=true then Oper.wp Tryz.prog o a w K Q else E:=by
 subst hn;have hw:Region.wanted o (yielded ops a.tmps)=true:=by simp [Region.wanted,hgd]
 rw [if_pos hw];obtain⟨i0,hi,dm,hz1,eg⟩:=info_parts Y.info;rcases A with _|ad
 ·have fF:M= []:=by
   cases M with
   |nil=>rfl
   |cons e M=>obtain⟨b,off,h1,_⟩:=hrd 0 e rfl;cases h1
  subst fF;have hc:=hac rfl;subst hc;have hrun:=run_append_owned_none (P:=Tryz.prog) (w:=w) B Y.ts o.type Y.t i0 Y.m Y.und hi v L.length _ hown;have hk:=h v w (by rw [List.append_nil];exact hown) (World.grownBy.refl w _) (.inl rfl);have hx':a.eval x= .slice none 0 0:=hx;unfold Oper.wp;simp [execOp,ho,resolve,invoke,builtin,hs,hx',hrun,Result.andThen];exact hk
 ·obtain⟨v',w',hr,h2,h3,h5⟩:=Y.KH o.type hown ad c M (hA ad rfl) hrd hle hbase
  unfold Oper.wp execOp;simp only [ho,resolve,invoke,builtin,Sem.run_bind,Sem.run_pure,Result.andThen_ok,List.map_toArray,List.map_cons,List.map_nil,hs,hx,hr];exact h v' w' h2 h3 h5
end
structure aC where
 id:Int
 side:Int
 ap:Int
 aq:Int
 top:Bool
deriving DecidableEq
def aC.cells (x:aC):List Value:= [.int .i64 x.id,.int .i64 x.side,.int .i64 x.ap,.int .i64 x.aq,.bool x.top]
def Q9:aC:=⟨0,0,0,0,false⟩
theorem aC.kI (x:aC):∀u∈x.cells,u.oneCell'=true:=by
 intro u hu;simp only [aC.cells,List.mem_cons,List.not_mem_nil,or_false]at hu;rcases hu with rfl|rfl|rfl|rfl|rfl<;>rfl
def z8 (s:Int):Bool:=s==1||s==2
theorem agA {s:Int} (hs:s=1∨s=2):z8 s=true:=by unfold z8;rcases hs with rfl|rfl<;>rfl
def pF (L:List aC) (id aq:Int):List aC×Int:=
 match L.find? (fun o=>o.id==id)with
 |none=>(L,26)
 |some o=>if aq<1∨o.aq<aq then(L,24)else if o.aq=aq then(L.filter (fun x=>decide (x.id≠id)),0)else(L.map (fun x=>if x.id=id then {x with aq:=x.aq-aq}else x),0)
theorem Ya {L:List aC} {id aq:Int} (h:L.find? (fun o=>o.id==id)=none):pF L id aq=(L,26):=by unfold pF;rw [h]
theorem NC {L:List aC} {id aq:Int} {o:aC} (h:L.find? (fun o=>o.id==id)=some o):pF L id aq=if aq<1∨o.aq<aq then(L,24)else if o.aq=aq then(L.filter (fun x=>decide (x.id≠id)),0)else(L.map (fun x=>if x.id=id then {x with aq:=x.aq-aq}else x),0):=by unfold pF;rw [h]
def mg (side:Int) (o:aC):aC:=if o.side=side then {o with top:=false}else o
def mS (L:List aC) (side ap:Int):Bool:=L.all (fun o=> !(decide (o.side=side)&& !cT side ap o.ap))
def mD (side ap:Int) (o:aC):Bool:=decide (o.side<side)||(decide (o.side=side)&& !cT side ap o.ap)
def nU (L:List aC) (side ap:Int):Nat:=(L.takeWhile (mD side ap)).length
def mT (L:List aC) (id side ap aq:Int):List aC×Int:=
 if z8 side=false then(L,21)else if aq<1∨1000000<aq then(L,24)else if(L.find? (fun o=>o.id==id)).isSome=true then(L,25)else if 250≤L.length then(L,13)else
 ((if mS L side ap=true then L.map (mg side)else L).take (nU L side ap)++ [⟨id,side,ap,aq,mS L side ap⟩]++(if mS L side ap=true then L.map (mg side)else L).drop (nU L side ap),0)
def vQ (L:List aC) (id:Int):aC×Bool:=match L.find? (fun o=>o.id==id)with|some o=>(o,true)|none=>(Q9,false)
def yo (L:List aC) (side ap:Int):List aC:=L.filter (fun o=>decide (o.side=side∧o.ap=ap))
def pN (o:aC):List aB→List aB
 | []=> [⟨o.ap,o.aq,1⟩]
 |l::ls=>if l.ap=o.ap then⟨o.ap,o.aq+l.aq,1+l.count⟩::ls else⟨o.ap,o.aq,1⟩::l::ls
def jB (L:List aC):List aB:=L.foldr pN []
def q5 (L:List aC) (side:Int):List aC:=L.filter (fun o=>decide (o.side=side))
def k6 (L:List aC) (side:Int):List aB:=jB (q5 L side)
def jS (L:List aC) (side:Int):aB×Bool:=match k6 L side with| []=>(jD,false)|l::_=>(l,true)
theorem Qu:(Tryz.prog.info? 86).map (fun i=>(i.zero,i.size,i.bytes))=some (some (.agg #[.int .i64 0,.int .i64 0,.int .i64 0,.int .i64 0,.int .i64 0,.int .i64 0,.bool false]),7,56):=hH.info
theorem M9 {w:World} {g gs o os:Nat} {cur:Array Value} (hb:av w g 86 cur) (qZ j9 sn sc:Nat) (L:List aF) (hn:L.length=Nat.min sn qZ)
 (hsrc:∀j v,(L.flatMap aF.cells)[j]? =some v→w.cell? ⟨gs,os+j,none⟩=some v) (hfit:o+(L.flatMap aF.cells).length≤cur.size) (ty:TypeId):
 (Builtin.copy_ #[82,82] ty #[.slice (some ⟨g,o,none⟩) qZ j9,.slice (some ⟨gs,os,none⟩) sn sc]).run Tryz.prog w= .ok ↑L.length (w.setRow g (cur.toList.take o++L.flatMap aF.cells++cur.toList.drop (o+(L.flatMap aF.cells).length)).toArray):=by
 have hl:=run_loadCells_list (P:=Tryz.prog) w ⟨gs,os,none⟩ (L.flatMap aF.cells) (fun j v hj=>by rw [vE];exact hsrc j v hj);have hst:=run_storeCells_at Tryz.prog g o 86 (L.flatMap aF.cells) 0 cur w hb (by simpa using hfit) (hH.kI L);rw [mK aF.cells 7 (fun _=>rfl)]at hl;obtain⟨i0,hi,dm,hz1,eg⟩:=info_parts Qu;have hu:Tryz.prog.underlying 82=some (.slice 86):=Tryz.underlying82;simp only [Nat.add_zero]at hst;simp [Builtin.copy_,run_underlying hu,Builtin.lenOf,Builtin.firstCells,sizeOf,typeInfo,hi,hz1,←hn,hl,hst,goInt]
theorem WO {w:World} {aM g:Nat} {xs cur:Array Value} (hv:av w aM 86 xs) (hg:av w g 86 cur) (hne:aM≠g) (h0:cur.size≠0) (o vn vc ln lc:Nat):
 (callFunc 85 #[.slice ↑aM vn vc,.slice (some ⟨g,o,none⟩) ln lc]).run Tryz.prog w= .ok (.value (.bool false)) w:=by
 obtain⟨i0,hi,dm,hz1,eg⟩:=info_parts Qu;have hz:∀w:World,(Go.sizeOf 86).run Tryz.prog w= .ok 7 w:=fun w=>by simp [sizeOf,typeInfo,hi,hz1]
 rw [run_callFunc_extern Tryz.func85 (by kernel_rfl) (by kernel_rfl) (by kernel_rfl) (e:=Extern.SlicesOverlaps.overlaps #[82,82] #[4]) (by kernel_rfl),
  Lib.run_overlaps_apart w 82 4 86 Tryz.underlying82 7 hz ⟨aM,0,none⟩ ⟨g,o,none⟩ vn vc ln lc hne 86 86 xs.size cur.size ?_ ?_ h0 (hv.frozen 0) (hv.frozen _)]
 ·rfl
 ·have dF:w.heap[aM]? =some (.cells xs 86 (0,0)):=hv
  simp [World.shape?,dF]
 ·have hg':w.heap[g]? =some (.cells cur 86 (0,0)):=hg
  simp [World.shape?,hg']
theorem WQ {R:List aF} {i:Nat} (hi:i≤R.length):(R.flatMap aF.cells).take (i*7)=(R.take i).flatMap aF.cells:=by
 have e:R=R.take i++R.drop i:=(List.take_append_drop i R).symm;have hl:((R.take i).flatMap aF.cells).length=i*7:=by rw [mK aF.cells 7 (fun _=>rfl),List.length_take,Nat.min_eq_left hi]
 conv=>lhs;rw [e,List.flatMap_append]
 rw [List.take_append_of_le_length (by omega),List.take_of_length_le (by omega)]
theorem WR (R:List aF) (i:Nat):((R.drop i).flatMap aF.cells).length=(R.length-i)*7:=by rw [mK aF.cells 7 (fun _=>rfl),List.length_drop]
theorem WS {R:List aF} {i:Nat} (hi:i≤R.length) (j:Nat):((R.drop i).flatMap aF.cells)[j]? =(R.flatMap aF.cells)[i*7+j]? :=by
 have e:R=R.take i++R.drop i:=(List.take_append_drop i R).symm;have hl:((R.take i).flatMap aF.cells).length=i*7:=by rw [mK aF.cells 7 (fun _=>rfl),List.length_take,Nat.min_eq_left hi]
 conv=>rhs;rw [e,List.flatMap_append]
 rw [List.getElem?_append_right (by omega),hl,Nat.add_sub_cancel_left]
theorem afk {w:World} {B g aM n c i:Nat} {cur:Array Value} {R:List aF} {x:aF} (hb:av w g 86 cur) (hn:R.length=n) (hc:cur.size=c*7) (ht:cur.toList.take (n*7)=R.flatMap aF.cells) (vF:B≤g) (jy:c≤maxLen)
 (hi:i<n) (hroom:n+1≤c) (hv:av w aM 86 x.cells.toArray) (hne:aM≠g) (hl:n≤900000):
 Calls Tryz.prog 41 #[.slice ↑g n c,↑i,.slice ↑aM 1 1] w fun e w'=>e= .returned (.slice ↑g (n+1) c)∧hH.Row w' B (.slice ↑g (n+1) c) (R.take i++ [x]++R.drop i)∧aK (fun k=>k=g) w w':=by
 have hcl:cur.toList.length=c*7:=by rw [Array.length_toList,hc]
 have hdl:=WR R i;rw [hn]at hdl;have hX:([x].flatMap aF.cells).length=7:=rfl;have hD:(R.drop i).length=n-i:=by rw [List.length_drop,hn]
 have JQ:cur.size≠0:=by omega
 have hov:=fun(o vn vc ln lc:Nat)=>WO hv.drew hb.drew hne JQ o vn vc ln lc;have JR:=fun(o vn vc ln lc:Nat)=>WO hv hb hne JQ o vn vc ln lc
 have hget:∀j v,((R.drop i).flatMap aF.cells)[j]? =some v→w.cell? ⟨g,i*7+j,none⟩=some v:=by
  intro j v hj;rw [hb.cell,←Array.getElem?_toList];rw [WS (by omega),←ht,List.getElem?_take]at hj;split at hj
  ·exact hj
  ·cases hj
 have Be:=fun(ty:TypeId) (j9 sc:Nat)=>M9 (w:=w.drew) (g:=g) (gs:=g) (o:=(i+1)*7) (os:=i*7) hb.drew (n-i) j9 (n+1-i) sc (R.drop i) (by rw [hD];simp only [Nat.min_def];split<;>omega) hget (by rw [hdl];omega) ty;have hb1:av (w.drew.setRow g (cur.toList.take ((i+1)*7)++(R.drop i).flatMap aF.cells++cur.toList.drop ((i+1)*7+((R.drop i).flatMap aF.cells).length)).toArray) g 86 (cur.toList.take ((i+1)*7)++(R.drop i).flatMap aF.cells++cur.toList.drop ((i+1)*7+((R.drop i).flatMap aF.cells).length)).toArray:=hb.drew.row _;have cN:aK (fun k=>k=g) w (w.drew.setRow g (cur.toList.take ((i+1)*7)++(R.drop i).flatMap aF.cells++cur.toList.drop ((i+1)*7+((R.drop i).flatMap aF.cells).length)).toArray):=(Below.keeps (Below.bO w 1)).trans (zC _ _ _)
 have iY:=WL (P:=(R.take i).flatMap aF.cells) (X:= [x].flatMap aF.cells) (D:=(R.drop i).flatMap aF.cells) (cur:=cur.toList) (a:=i*7) (by
  rw [←WQ (by omega),←ht,List.take_take,Nat.min_eq_left (by omega)]) (by rw [hX,hdl,hcl];omega)
 rw [hX,show i*7+7=(i+1)*7 by omega]at iY;generalize si:cur.toList.take ((i+1)*7)++(R.drop i).flatMap aF.cells++cur.toList.drop ((i+1)*7+((R.drop i).flatMap aF.cells).length)=iW at*
 have zD:iW.length=c*7:=by
  rw [←si,List.length_append,List.length_append,List.length_take,List.length_drop,hdl,hcl];omega
 clear si;generalize hw1:w.drew.setRow g iW.toArray=w1 at*;have hv1:av w1 aM 86 x.cells.toArray:=hv.keeps cN hne
 have nQ:=fun(ty:TypeId) (j9 sc:Nat)=>M9 (w:=w1) (g:=g) (gs:=aM) (o:=i*7) (os:=0) hb1 (n+1-i) j9 1 sc [x] (by simp only [Nat.min_def,List.length_singleton];split<;>omega) (fun j v hj=>by
  rw [Nat.zero_add,hv1.cell]
  simpa using hj) (by rw [hX,List.size_toArray,zD];omega) ty
 rw [List.toList_toArray]at nQ;have hb2:=hb1.row (iW.take (i*7)++ [x].flatMap aF.cells++iW.drop (i*7+([x].flatMap aF.cells).length)).toArray;have hk2:=cN.trans (zC w1 g (iW.take (i*7)++ [x].flatMap aF.cells++iW.drop (i*7+([x].flatMap aF.cells).length)).toArray);have e2:i*7+([x].flatMap aF.cells).length=(i+1)*7:=by rw [hX];omega
 rw [e2,iY]at hb2 hk2
 replace nQ:=fun ty j9 sc=>by
  have h:=nQ ty j9 sc;rw [e2,iY]at h;exact h
 generalize s7:(R.take i).flatMap aF.cells++ [x].flatMap aF.cells++(R.drop i).flatMap aF.cells++cur.toList.drop ((i+1)*7+((R.drop i).flatMap aF.cells).length)=vG at*;generalize vH:w1.setRow g vG.toArray=w2 at*;have yu:=af s7;have Qp:=af Be;have EA:=af nQ;have aS:=af hb2;have s8:=af hk2;have Qq:=af JR;have hw:=jy;unfold maxLen at hw;have q1:¬(c=i):=by omega
 have ic:¬(c=i+1):=by omega
 have y1:IntKind.i64.wrap ((n:Int)+1)=(n:Int)+1:=IntWalk.i64_in _ (by omega);have fI:IntKind.i64.wrap ((i:Int)+1)=(i:Int)+1:=IntWalk.i64_in _ (by omega);have fw:(0:Int)≤(i:Int)+1:=by omega
 have z2:i≤n:=by omega
 have z3:i≤n+1:=by omega
 have z4:(i:Int)≤(n:Int)+1:=by omega
 clear vH s7 Be nQ hb2 hk2 hov JR hb1 cN hv1 hget iY;have Qr:=Qq.out;go_enter Tryz.func41,Tryz.ntmps41
 go_wp2_with (simp only [Qr])
 have Be:=Qp.out;refine cP (S:=fun _=>True) True.intro fun hHeld=>?_;refine au 0 ?_;refine au 1 ?_;refine au 2 ?_;refine au 3 ?_;refine au 4 ?_;refine au 5 ?_;refine au 6 ?_;refine au 7 ?_;refine dY 8 fun K hK=>?_;go_simp;refine hK.out _ _ ?_;clear hK K Be hHeld;have nQ:=EA.out;go_wp2_with fail
 go_ret;refine⟨by trivial,?_,s8.out⟩
 have hlen:(R.take i++ [x]++R.drop i).length=n+1:=by
  rw [List.length_append,List.length_append,List.length_take,List.length_drop,List.length_singleton,hn];omega
 have hfl:(R.take i++ [x]++R.drop i).flatMap aF.cells=(R.take i).flatMap aF.cells++ [x].flatMap aF.cells++(R.drop i).flatMap aF.cells:=by rw [List.flatMap_append,List.flatMap_append]
 have mI:((R.take i).flatMap aF.cells++ [x].flatMap aF.cells++(R.drop i).flatMap aF.cells).length=(n+1)*7:=by
  rw [←hfl,mK aF.cells 7 (fun _=>rfl),hlen]
 refine⟨by show((R.take i++ [x]++R.drop i).flatMap aF.cells).length=_;rw [hfl,mI,hlen];rfl,.inr ⟨g,c,_,by rw [hlen],vF,aS.out,by rw [hlen];exact hroom,jy,?_,?_⟩⟩
 ·rw [←yu.out,List.size_toArray,List.length_append,mI,List.length_drop,hdl,hcl]
  show _=c*7;omega
 ·show List.take ((R.take i++ [x]++R.drop i).length*7) _=(R.take i++ [x]++R.drop i).flatMap aF.cells
  rw [hlen,hfl,List.toList_toArray,←yu.out,List.take_append_of_le_length (by rw [mI];exact Nat.le_refl _),List.take_of_length_le (by rw [mI];exact Nat.le_refl _)]
theorem afl {w:World} {B g aM n i:Nat} {cur:Array Value} {R:List aF} {x:aF} (hb:av w g 86 cur) (hn:R.length=n) (hc:cur.size=n*7) (ht:cur.toList.take (n*7)=R.flatMap aF.cells) (hB:B≤w.heap.size)
 (hi:i<n) (hv:av w aM 86 x.cells.toArray) (hl:n≤900000):
 Calls Tryz.prog 41 #[.slice ↑g n n,↑i,.slice ↑aM 1 1] w fun e w'=>∃c',e= .returned (.slice ↑w.heap.size (n+1) c')∧hH.Row w' B (.slice ↑w.heap.size (n+1) c') (R.take i++ [x]++R.drop i)∧aK (fun _=>False) w w':=by
 have hcl:cur.toList.length=n*7:=by rw [Array.length_toList,hc]
 have hdl:=WR R i;rw [hn]at hdl;have hX:([x].flatMap aF.cells).length=7:=rfl;have hD:(R.drop i).length=n-i:=by rw [List.length_drop,hn]
 have CM:((R.take i).flatMap aF.cells).length=i*7:=by rw [mK aF.cells 7 (fun _=>rfl),List.length_take];omega
 have Cs:∀(j:Nat) (v:Value),(R.flatMap aF.cells)[j]? =some v→w.cell? ⟨g,j,none⟩=some v:=by
  intro j v hj;rw [hb.cell,←Array.getElem?_toList];rw [←ht,List.getElem?_take]at hj;split at hj
  ·exact hj
  ·cases hj
 obtain⟨i0,zS,dm,hz1,eg⟩:=info_parts Qu;obtain⟨k,hk⟩:=ai (n+1-i:Nat);have hik:i+k=n+1:=by omega
 have hold:(Builtin.firstCells i0.size i (.slice ↑g i n)).run Tryz.prog w.drew= .ok ((R.take i).flatMap aF.cells).toArray w.drew:=by
  have h:=run_loadCells_list (P:=Tryz.prog) w.drew ⟨g,0,none⟩ ((R.take i).flatMap aF.cells) (fun j v hj=>by
   rw [vE,Nat.zero_add];have hj2:j<i*7:=by have:=dM hj;omega
   rw [←WQ (by omega),List.getElem?_take,if_pos hj2]at hj;exact Cs j v hj)
  rw [CM]at h;rw [hz1]
  simpa [Builtin.firstCells]using h
 have hap:=fun ty=>Lib.run_append_grow_zeros (P:=Tryz.prog) w 82 3 ty 86 i0 _ .i64 .i64 Tryz.underlying82 Tryz.underlying3 zS dm ↑g i n ((R.take i).flatMap aF.cells) hold k (by omega) (by rw [hz1];omega) (by omega) (by omega) (by rw [eg];omega) (by rw [eg,hik];exact growslice_fits (by omega) (by omega));rw [hik]at hap;have Qs:=grownCap_ge w (n+1) n 86;have jy:=grownCap_le_maxLen w (n+1) n 86 (by unfold maxLen;omega);generalize grownCap w (n+1) n 86=c' at*;obtain⟨js,Bf⟩:=ai (((R.take i).flatMap aF.cells).toArray++Builtin.zeroCells (Value.agg #[.int .i64 0,.int .i64 0,.int .i64 0,.int .i64 0,.int .i64 0,.int .i64 0,.bool false]).cells k++Builtin.zeroCells (Value.agg #[.int .i64 0,.int .i64 0,.int .i64 0,.int .i64 0,.int .i64 0,.int .i64 0,.bool false]).cells (c'-(n+1)));rw [Bf]at hap
 have hs0:js.size=c'*7:=by
  rw [←Bf,Array.size_append,Array.size_append,List.size_toArray,CM];simp [Builtin.zeroCells,Value.cells];omega
 have EB:js.toList.length=c'*7:=by rw [Array.length_toList,hs0]
 have ko:js.toList.take (i*7)=(R.take i).flatMap aF.cells:=by
  rw [←Bf,Array.toList_append,Array.toList_append,List.toList_toArray,List.append_assoc,List.take_append_of_le_length (by omega),List.take_of_length_le (by omega)]
 clear Bf hold zS dm hz1 eg;have hb1:av (w.drew.alloc (.cells js 86)) w.heap.size 86 js:=av.new w.drew _ _;have cN:Below w.heap.size w (w.drew.alloc (.cells js 86)):=(Below.bO w 1).trans (Below.aI w.drew _);generalize hw1:w.drew.alloc (.cells js 86)=w1 at*;have hv1:=hv.below cN;have eZ:=hb.below cN
 have nQ:=fun(ty:TypeId) (j9 sc:Nat)=>M9 (w:=w1) (g:=w.heap.size) (gs:=aM) (o:=i*7) (os:=0) hb1 k j9 1 sc [x] (by simp only [Nat.min_def,List.length_singleton];split<;>omega) (fun j v hj=>by
  rw [Nat.zero_add,hv1.cell]
  simpa using hj) (by rw [hX,hs0];omega) ty
 have hb2:=hb1.row (js.toList.take (i*7)++ [x].flatMap aF.cells++js.toList.drop (i*7+([x].flatMap aF.cells).length)).toArray;have hk2:aK (fun k=>k=w.heap.size) w1 (w1.setRow w.heap.size (js.toList.take (i*7)++ [x].flatMap aF.cells++js.toList.drop (i*7+([x].flatMap aF.cells).length)).toArray):=zC _ _ _;have iY:=WM (P:=(R.take i).flatMap aF.cells) (X:= [x].flatMap aF.cells) (D:=(R.drop i).flatMap aF.cells) (cur:=js.toList) (a:=i*7) ko (by rw [hX,hdl,EB];omega);generalize si:js.toList.take (i*7)++ [x].flatMap aF.cells++js.toList.drop (i*7+([x].flatMap aF.cells).length)=iW at*
 have zD:iW.length=c'*7:=by
  rw [←si,List.length_append,List.length_append,List.length_take,List.length_drop,hX,EB];omega
 clear si;generalize vH:w1.setRow w.heap.size iW.toArray=w2 at*;have hne:¬g=w.heap.size:=Nat.ne_of_lt hb.lt;have fY:av w2 g 86 cur:=eZ.keeps hk2 hne;have EC:Below w.heap.size w w2:=cN.trans (hk2.below (fun g hg=>by(have hg':g=w.heap.size:=hg);omega) cN.size)
 have tD:=fun(ty:TypeId) (j9 sc:Nat)=>M9 (w:=w2.drew) (g:=w.heap.size) (gs:=g) (o:=(i+1)*7) (os:=i*7) hb2.drew (n-i) j9 (n-i) sc (R.drop i) (by rw [hD];simp only [Nat.min_def];split<;>omega) (fun j v hj=>by
  rw [WS (by omega)]at hj;have h:=Cs _ v hj;rw [hb.cell]at h;rw [fY.drew.cell];exact h) (by rw [hdl,List.size_toArray,zD];omega) ty
 rw [List.toList_toArray]at tD;have hb3:=hb2.drew.row (iW.take ((i+1)*7)++(R.drop i).flatMap aF.cells++iW.drop ((i+1)*7+((R.drop i).flatMap aF.cells).length)).toArray;have kr:=zC w2.drew w.heap.size (iW.take ((i+1)*7)++(R.drop i).flatMap aF.cells++iW.drop ((i+1)*7+((R.drop i).flatMap aF.cells).length)).toArray;rw [hX,show i*7+7=(i+1)*7 by omega]at iY;rw [iY]at hb3 kr
 replace tD:=fun ty j9 sc=>by
  have h:=tD ty j9 sc;rw [iY]at h;exact h
 generalize s7:(R.take i).flatMap aF.cells++ [x].flatMap aF.cells++(R.drop i).flatMap aF.cells++js.toList.drop ((i+1)*7+((R.drop i).flatMap aF.cells).length)=vG at*;have jL:Below w.heap.size w (w2.drew.setRow w.heap.size vG.toArray):=EC.drew.trans (kr.below (fun g hg=>by(have hg':g=w.heap.size:=hg);omega) EC.size);generalize JS:w2.drew.setRow w.heap.size vG.toArray=w3 at*;have yu:=af s7;have lO:=af hap;have EA:=af nQ;have Qt:=af tD;have aQ:=af hb3;have cH:=af jL;have afm:=af (Eq.refl w.heap.size);have hw:=jy;unfold maxLen at hw;have q1:¬(c'=i):=by omega
 have ic:¬(c'=i+1):=by omega
 have uD:¬(n=i):=by omega
 have y1:IntKind.i64.wrap ((n:Int)+1)=(n:Int)+1:=IntWalk.i64_in _ (by omega);have fI:IntKind.i64.wrap ((i:Int)+1)=(i:Int)+1:=IntWalk.i64_in _ (by omega);have lF:IntKind.i64.wrap ((n:Int)+1-(i:Int))=(k:Int):=by rw [show(n:Int)+1-(i:Int)=(k:Int)by omega];exact IntWalk.i64_in _ (by omega)
 have fw:(0:Int)≤(i:Int)+1:=by omega
 have z2:i≤n:=by omega
 have z3:i≤n+1:=by omega
 have z4:(i:Int)≤(n:Int)+1:=by omega
 clear hw1 vH JS s7 hap nQ tD hb3 jL hb1 cN hv1 eZ hb2 hk2 iY fY EC kr ko;go_enter Tryz.func41,Tryz.ntmps41
 go_upto_region 9 with(fail)
 have nQ:=EA.out
 go_wp2_with (first
  |(at_builtin;refine Lib.wpList_append_run _ rfl _ _ _ _ rfl _ _ rfl rfl _ _ (lO.out _) ?_))
 clear nQ;have tD:=Qt.out;refine cP (S:=fun _=>True) True.intro fun hHeld=>?_;refine au 0 ?_;refine au 1 ?_;refine au 2 ?_;refine au 3 ?_;refine au 4 ?_;refine au 5 ?_;refine au 6 ?_;refine au 7 ?_;refine dY 8 fun K hK=>?_;go_simp;refine hK.out _ _ ?_;clear hK K tD hHeld;go_wp2_with fail
 go_ret;refine⟨c',by trivial,?_,(Below.keeps cH.out)⟩
 have hlen:(R.take i++ [x]++R.drop i).length=n+1:=by
  rw [List.length_append,List.length_append,List.length_take,List.length_drop,List.length_singleton,hn];omega
 have hfl:(R.take i++ [x]++R.drop i).flatMap aF.cells=(R.take i).flatMap aF.cells++ [x].flatMap aF.cells++(R.drop i).flatMap aF.cells:=by rw [List.flatMap_append,List.flatMap_append]
 have mI:((R.take i).flatMap aF.cells++ [x].flatMap aF.cells++(R.drop i).flatMap aF.cells).length=(n+1)*7:=by
  rw [←hfl,mK aF.cells 7 (fun _=>rfl),hlen]
 refine⟨by show((R.take i++ [x]++R.drop i).flatMap aF.cells).length=_;rw [hfl,mI,hlen];rfl,.inr ⟨w.heap.size,c',_,by rw [hlen],hB,aQ.out,by rw [hlen];exact Qs,jy,?_,?_⟩⟩
 ·rw [←yu.out,List.size_toArray,List.length_append,mI,List.length_drop,hdl,EB]
  show _=c'*7;omega
 ·show List.take ((R.take i++ [x]++R.drop i).length*7) _=(R.take i++ [x]++R.drop i).flatMap aF.cells
  rw [hlen,hfl,List.toList_toArray,←yu.out,List.take_append_of_le_length (by rw [mI];exact Nat.le_refl _),List.take_of_length_le (by rw [mI];exact Nat.le_refl _)]
def ix (p:Prod):Prop:=p.low< -1000000∨p.high≤p.low∨1000000<p.high∨p.wide<0∨p.high-p.low<p.wide
def o5 (p:Prod):Bool:=p.settle.length !=p.months.length||p.settle.any (fun x=>decide (x<p.low))||p.settle.any (fun x=>decide (p.high<x))
def lS (p:Prod):Prop:=p.rule<1∨3<p.rule
def g9 (p:Prod):Prop:=p.top<0∨1000000<p.top∨p.least<1∨1000<p.least∨p.part<0∨100<p.part
instance (p:Prod):Decidable (ix p):=by unfold ix;infer_instance
instance (p:Prod):Decidable (lS p):=by unfold lS;infer_instance
instance (p:Prod):Decidable (g9 p):=by unfold g9;infer_instance
def cR (p:Prod):Int:=if o6 p.code=false then 12 else if lp p.months=false then 1 else if nD p=false then 22 else if ix p then 23 else if o5 p=true then 1 else if lS p then 31 else if g9 p then 24 else 0
theorem T4 {L:List Int} (h:lp L=true):2≤L.length∧L.length≤6:=by
 unfold lp at h;simp only [Bool.and_eq_true,decide_eq_true_eq]at h;exact⟨h.1.2,h.2⟩
theorem OV {p:Prod} (h:p.settle.length≠p.months.length):o5 p=true:=by
 unfold o5;rw [show(p.settle.length !=p.months.length)=true from bne_iff_ne.2 h];rfl
theorem acL {p:Prod} (h:p.settle.length=p.months.length) (h0:0<p.settle.length):o5 p=(decide (ul p.settle<p.low)||decide (p.high<um p.settle)):=by
 unfold o5;have hne:p.settle≠ []:=by intro e;rw [e]at h0;exact absurd h0 (by simp)
 rw [show(p.settle.length !=p.months.length)=false from by rw [h];simp,acM hne,max_lt hne];rfl
theorem T6 (p:Prod) (w:World) (hp:gM w p):
 Calls Tryz.prog 33 #[p.agg] w fun e w'=>e= .returned (.int .i64 (cR p))∧Below w.heap.size w w':=by
 unfold Prod.agg Prod.cells;have fE:Hid (Below w.heap.size w (w.alloc (.cells #[.string p.code,.slice p.ma p.months.length p.mc,↑p.tick,↑p.low,↑p.high,↑p.wide,↑p.rule,↑p.top,↑p.least,↑p.part,.slice p.sa p.settle.length p.sc] 25))):=af (Below.aI _ _);have DH:Hid (PC (w.alloc (.cells #[.string p.code,.slice p.ma p.months.length p.mc,↑p.tick,↑p.low,↑p.high,↑p.wide,↑p.rule,↑p.top,↑p.least,↑p.part,.slice p.sa p.settle.length p.sc] 25)) w.heap.size p):=af (PC.new w p);have m7:Hid (w.heap.size<(w.alloc (.cells #[.string p.code,.slice p.ma p.months.length p.mc,↑p.tick,↑p.low,↑p.high,↑p.wide,↑p.rule,↑p.top,↑p.least,↑p.part,.slice p.sa p.settle.length p.sc] 25)).heap.size):=af (by simp);have wU:=af (hp.below fE.out);have jF:=hp.tick;have Cf:=hp.low;have mI:=hp.high;unfold cz at jF Cf mI;have iw:Hid (cR p=if o6 p.code=false then 12 else if lp p.months=false then 1 else if nD p=false then 22 else if ix p then 23 else if o5 p=true then 1 else if lS p then 31 else if g9 p then 24 else 0):=af rfl;clear hp;go_enter Tryz.func33,Tryz.ntmps33
 go_wp2_with fail
 refine(acN p.code _ (by have:=wU.out.code;unfold maxLen;omega)).mono ?_;rintro e w1 ⟨rfl,hb1⟩;have bA:=ag fE hb1;obtain⟨b0,b1,b2,b3,b4,bk,bw,bn,bC,bD,bu⟩:=DH.out.below hb1 m7.out;have zw:=af (wU.out.below hb1);have eZ:w.heap.size<w1.heap.size:=Nat.lt_of_lt_of_le m7.out hb1.size;clear hb1;cases hc:o6 p.code with
 |false=>
  have bg:=af hc;clear hc;go_wp2_with fail
  go_ret;exact⟨by rw [iw.out,bg.out];rfl,bA.out⟩
 |true=>
  have bg:=af hc;clear hc;go_wp2_with fail
  refine(acO p.ma p.mc p.months _ zw.out.IB zw.out.Cg).mono ?_;rintro e w2 ⟨rfl,rfl⟩;cases hm:lp p.months with
  |false=>
   have cM:=af hm;clear hm;go_wp2_with fail
   go_ret;exact⟨by rw [iw.out,bg.out,cM.out];rfl,bA.out⟩
  |true=>
   have cM:=af hm;have hlen:=T4 hm;clear hm;go_wp2_with fail
   have DI:=acP p w1 zw.out;unfold Prod.agg Prod.cells at DI;refine DI.mono ?_;rintro e w3 ⟨rfl,hb3⟩;have aQ:=ag bA hb3;have acQ:PC w3 w.heap.size p:=PC.below ⟨b0,b1,b2,b3,b4,bk,bw,bn,bC,bD,bu⟩ hb3 eZ;have sZ:=af (zw.out.below hb3);clear b0 b1 b2 b3 b4 bk bw bn bC bD bu hb3 DI;obtain⟨b0,b1,b2,b3,b4,bk,bw,bn,bC,bD,bu⟩:=acQ;cases ht:nD p with
   |false=>
    have bP:=af ht;clear ht;go_wp2_with fail
    go_ret;exact⟨by rw [iw.out,bg.out,cM.out,bP.out];rfl,aQ.out⟩
   |true=>
    have bP:=af ht;clear ht;go_upto_region 7 with(fail)
    obtain⟨bb,aP⟩:=aj (decide (ix p));have bp:=af aP;clear aP;go_cut [17] (fun v wx=>v=↑bb∧w3=wx)
    case first=>
     by_cases k0:p.low< -1000000
     ·go_wp2_with fail
      go_meet;exact⟨congrArg Value.bool (by rw [bp.out];exact(decide_eq_true (p:=ix p) (by unfold ix;omega)).symm),rfl⟩
     ·by_cases k1:p.high≤p.low
      ·go_wp2_with fail
       go_meet;exact⟨congrArg Value.bool (by rw [bp.out];exact(decide_eq_true (p:=ix p) (by unfold ix;omega)).symm),rfl⟩
      ·by_cases k2:1000000<p.high
       ·go_wp2_with fail
        go_meet;exact⟨congrArg Value.bool (by rw [bp.out];exact(decide_eq_true (p:=ix p) (by unfold ix;omega)).symm),rfl⟩
       ·by_cases di:p.wide<0
        ·go_wp2_with fail
         go_meet;exact⟨congrArg Value.bool (by rw [bp.out];exact(decide_eq_true (p:=ix p) (by unfold ix;omega)).symm),rfl⟩
        ·by_cases jc:p.high-p.low<p.wide
         ·go_wp2_with fail
          go_meet;exact⟨congrArg Value.bool (by rw [bp.out];exact(decide_eq_true (p:=ix p) (by unfold ix;omega)).symm),rfl⟩
         ·go_wp2_with fail
          go_meet;exact⟨congrArg Value.bool (by rw [bp.out];exact(decide_eq_false (p:=ix p) (by unfold ix;omega)).symm),rfl⟩
    case rest=>
    obtain⟨rfl,rfl⟩:=hcut;cases bb with
    |true=>
     go_wp2_with fail
     go_ret;exact⟨by rw [iw.out,bg.out,cM.out,bP.out,if_neg (by simp),if_neg (by simp),if_neg (by simp),if_pos (of_decide_eq_true bp.out.symm)];rfl,aQ.out⟩
    |false=>
     have qE:Hid (¬ix p):=af (of_decide_eq_false bp.out.symm);clear bp;go_upto_region 9 with(fail)
     obtain⟨cr,hsb⟩:=ai (o5 p);have jv:=af hsb;clear hsb;go_cut [48] (fun v wx=>v=↑cr∧∃n,wx=w3.drewN n)
     case first=>
      by_cases jw:p.settle.length=p.months.length
      ·have hne:((p.settle.length:Int) !=(p.months.length:Int))=false:=by rw [jw];simp
       have hs0:0<p.settle.length:=by omega
       have bR:=af (acL jw hs0);have F6:=af fun n=>(acR p.sa p.sc p.settle (w3.drewN n) (sZ.out.aW.below (Below.bO w3 n)) sZ.out.F7 hs0).mono fun e w' (h:e= .returned (.int .i64 (ul p.settle))∧w3.drewN n=w')=>(⟨h.1,h.2.symm⟩:e= .returned (.int .i64 (ul p.settle))∧w'=w3.drewN n);have s3:=af fun n=>(acS p.sa p.sc p.settle (w3.drewN n) (sZ.out.aW.below (Below.bO w3 n)) sZ.out.F7 hs0).mono fun e w' (h:e= .returned (.int .i64 (um p.settle))∧w3.drewN n=w')=>(⟨h.1,h.2.symm⟩:e= .returned (.int .i64 (um p.settle))∧w'=w3.drewN n);generalize ul p.settle=mi at*;generalize um p.settle=ma at*;by_cases k1:mi<p.low
       ·have e1:decide (mi<p.low)=true:=decide_eq_true k1
        have OW:=af e1;clear jw;go_quiet (first|(go_at_call 77;exact Calls.quiet_of_same (F6.out _))|(go_at_call 78;exact Calls.quiet_of_same (s3.out _)))
        go_wp2_with fail
        go_meet;exact⟨congrArg Value.bool (by rw [←jv.out,bR.out,OW.out];rfl),nq,rfl⟩
       ·have e1:decide (mi<p.low)=false:=decide_eq_false k1
        have OW:=af e1;clear jw;go_quiet (first|(go_at_call 77;exact Calls.quiet_of_same (F6.out _))|(go_at_call 78;exact Calls.quiet_of_same (s3.out _)))
        go_wp2_with fail
        go_meet;exact⟨congrArg Value.bool (by rw [←jv.out,bR.out,OW.out];rfl),nq,rfl⟩
      ·have hne:((p.settle.length:Int) !=(p.months.length:Int))=true:=by rw [bne_iff_ne];omega
       have bR:=af (OV jw);clear jw;go_quiet (fail)
       go_wp2_with fail
       go_meet;exact⟨congrArg Value.bool (by rw [←jv.out,bR.out]),nq,rfl⟩
     case rest=>
     obtain⟨rfl,lT,rfl⟩:=hcut;have hb4:=Below.bO w3 lT;have bN:=ag aQ hb4;have acT:PC (w3.drewN lT) w.heap.size p:=⟨b0,b1,b2,b3,b4,bk,bw,bn,bC,bD,bu⟩;clear b0 b1 b2 b3 b4 bk bw bn bC bD bu hb4;generalize w3.drewN lT=az at*;obtain⟨b0,b1,b2,b3,b4,bk,bw,bn,bC,bD,bu⟩:=acT;cases cr with
     |true=>
      go_wp2_with fail
      go_ret;exact⟨by rw [iw.out,bg.out,cM.out,bP.out,if_neg (by simp),if_neg (by simp),if_neg (by simp),if_neg qE.out,jv.out,if_pos rfl];rfl,bN.out⟩
     |false=>
      go_upto_region 11 with(fail)
      obtain⟨bb,aP⟩:=aj (decide (lS p));have bp:=af aP;clear aP;go_cut [72] (fun v wx=>v=↑bb∧az=wx)
      case first=>
       by_cases k0:p.rule<1
       ·go_wp2_with fail
        go_meet;exact⟨congrArg Value.bool (by rw [bp.out];exact(decide_eq_true (p:=lS p) (by unfold lS;omega)).symm),rfl⟩
       ·by_cases k1:3<p.rule
        ·go_wp2_with fail
         go_meet;exact⟨congrArg Value.bool (by rw [bp.out];exact(decide_eq_true (p:=lS p) (by unfold lS;omega)).symm),rfl⟩
        ·go_wp2_with fail
         go_meet;exact⟨congrArg Value.bool (by rw [bp.out];exact(decide_eq_false (p:=lS p) (by unfold lS;omega)).symm),rfl⟩
      case rest=>
      obtain⟨rfl,rfl⟩:=hcut;cases bb with
      |true=>
       go_wp2_with fail
       go_ret;exact⟨by rw [iw.out,bg.out,cM.out,bP.out,if_neg (by simp),if_neg (by simp),if_neg (by simp),if_neg qE.out,jv.out,if_neg (by simp),if_pos (of_decide_eq_true bp.out.symm)];rfl,bN.out⟩
      |false=>
       have IC:Hid (¬lS p):=af (of_decide_eq_false bp.out.symm);clear bp;go_upto_region 13 with(fail)
       obtain⟨bb,aP⟩:=aj (decide (g9 p));have bp:=af aP;clear aP;go_cut [81] (fun v wx=>v=↑bb∧az=wx)
       case first=>
        by_cases k0:p.top<0
        ·go_wp2_with fail
         go_meet;exact⟨congrArg Value.bool (by rw [bp.out];exact(decide_eq_true (p:=g9 p) (by unfold g9;omega)).symm),rfl⟩
        ·by_cases k1:1000000<p.top
         ·go_wp2_with fail
          go_meet;exact⟨congrArg Value.bool (by rw [bp.out];exact(decide_eq_true (p:=g9 p) (by unfold g9;omega)).symm),rfl⟩
         ·by_cases k2:p.least<1
          ·go_wp2_with fail
           go_meet;exact⟨congrArg Value.bool (by rw [bp.out];exact(decide_eq_true (p:=g9 p) (by unfold g9;omega)).symm),rfl⟩
          ·by_cases di:1000<p.least
           ·go_wp2_with fail
            go_meet;exact⟨congrArg Value.bool (by rw [bp.out];exact(decide_eq_true (p:=g9 p) (by unfold g9;omega)).symm),rfl⟩
           ·by_cases jc:p.part<0
            ·go_wp2_with fail
             go_meet;exact⟨congrArg Value.bool (by rw [bp.out];exact(decide_eq_true (p:=g9 p) (by unfold g9;omega)).symm),rfl⟩
            ·by_cases lq:100<p.part
             ·go_wp2_with fail
              go_meet;exact⟨congrArg Value.bool (by rw [bp.out];exact(decide_eq_true (p:=g9 p) (by unfold g9;omega)).symm),rfl⟩
             ·go_wp2_with fail
              go_meet;exact⟨congrArg Value.bool (by rw [bp.out];exact(decide_eq_false (p:=g9 p) (by unfold g9;omega)).symm),rfl⟩
       case rest=>
       obtain⟨rfl,rfl⟩:=hcut;cases bb with
       |true=>
        go_wp2_with fail
        go_ret;exact⟨by rw [iw.out,bg.out,cM.out,bP.out,if_neg (by simp),if_neg (by simp),if_neg (by simp),if_neg qE.out,jv.out,if_neg (by simp),if_neg IC.out,if_pos (of_decide_eq_true bp.out.symm)];rfl,bN.out⟩
       |false=>
        go_wp2_with fail
        go_ret;exact⟨by rw [iw.out,bg.out,cM.out,bP.out,if_neg (by simp),if_neg (by simp),if_neg (by simp),if_neg qE.out,jv.out,if_neg (by simp),if_neg IC.out,if_neg (of_decide_eq_false bp.out.symm)];rfl,bN.out⟩
structure St (w ax:World) (p:Prod):Prop where
 aJ:Below w.heap.size w ax
 pc:PC ax w.heap.size p
 pv:gM ax p
 lt:w.heap.size<ax.heap.size
theorem St.next {w ax wy:World} {p:Prod} (h:St w ax p) (hb:Below ax.heap.size ax wy):St w wy p:=
 ⟨h.aJ.trans (hb.mono h.aJ.size),h.pc.below hb h.lt,h.pv.below hb,Nat.lt_of_lt_of_le h.lt hb.size⟩
theorem St.new {w:World} {p:Prod} (hp:gM w p):St w (w.alloc (.cells p.cells 25)) p:=
 ⟨Below.aI _ _,PC.new w p,hp.below (Below.aI _ _),by simp⟩
theorem J7 {p:Prod} (h:cR p=0):o6 p.code=true∧lp p.months=true∧nD p=true∧¬ix p∧o5 p=false∧¬lS p∧¬g9 p:=by
 unfold cR at h;cases h1:o6 p.code
 ·rw [h1,if_pos rfl]at h;omega
 rw [h1,if_neg (by simp)]at h;cases h2:lp p.months
 ·rw [h2,if_pos rfl]at h;omega
 rw [h2,if_neg (by simp)]at h;cases h3:nD p
 ·rw [h3,if_pos rfl]at h;omega
 rw [h3,if_neg (by simp)]at h;by_cases h4:ix p
 ·rw [if_pos h4]at h;omega
 rw [if_neg h4]at h;cases h5:o5 p
 ·rw [h5,if_neg (by simp)]at h
  by_cases h6:lS p
  ·rw [if_pos h6]at h;omega
  rw [if_neg h6]at h;by_cases h7:g9 p
  ·rw [if_pos h7]at h;omega
  exact⟨rfl,rfl,rfl,h4,rfl,h6,h7⟩
 ·rw [h5,if_pos rfl]at h;omega
theorem pI {p:Prod} (h:cR p=0):2≤p.months.length∧p.months.length≤6:=T4 (J7 h).2.1
theorem afW {p:Prod} (h:cR p=0):p.settle.length=p.months.length:=by
 have:=(J7 h).2.2.2.2.1;by_cases hl:p.settle.length=p.months.length
 ·exact hl
 ·rw [OV hl]at this;cases this
theorem afX {p:Prod} (h:cR p=0):1≤p.tick∧p.tick≤1000:=by
 have:=(J7 h).2.2.1;unfold nD at this;simp only [Bool.and_eq_true,decide_eq_true_eq]at this;omega
def nR (n:Nat):Nat:=n+n*(n-1) / 2
def countP (p:Prod):Int:=if cR p=0 then(nR p.months.length:Int)else 0
theorem afY (p:Prod) (w:World) (hp:gM w p):
 Calls Tryz.prog 34 #[p.agg] w fun e w'=>e= .returned (.int .i64 (countP p))∧Below w.heap.size w w':=by
 have hs0:=St.new hp;unfold Prod.cells at hs0;have eE:=af hs0;have dn:=T6 p _ hs0.pv;unfold Prod.agg Prod.cells at dn⊢;clear hp hs0;by_cases hz:cR p=0
 ·have bg:Hid (countP p=nR p.months.length):=af (if_pos hz)
  have hlen:=pI hz;have hn:p.months.length=2∨p.months.length=3∨p.months.length=4∨p.months.length=5∨p.months.length=6:=by omega
  have ec:=af hz;clear hz hlen;go_enter Tryz.func34,Tryz.ntmps34
  go_wp2_with fail
  refine dn.mono ?_;rw [ec.out];rintro e w1 ⟨rfl,hb1⟩;have aD:=af (eE.out.next hb1);have b1:=aD.out.pc.2.1;clear dn hb1;rcases hn with hn|hn|hn|hn|hn
  all_goals
   rw [hn]at b1;have HN:=af hn;clear hn;go_wp2_with fail
   go_ret;exact⟨by rw [bg.out,HN.out];rfl,aD.out.aJ⟩
 ·have bg:Hid (countP p=0):=af (if_neg hz)
  have hz1:(cR p==0)=false:=by rw [beq_eq_false_iff_ne];exact hz
  have eg:(cR p !=0)=true:=by rw [bne_iff_ne];exact hz
  clear hz;generalize cR p=cp at*;go_enter Tryz.func34,Tryz.ntmps34
  go_wp2_with fail
  refine dn.mono ?_;rintro e w1 ⟨rfl,hb1⟩;have aD:=af (eE.out.next hb1);clear dn hb1;go_wp2_with fail
  go_ret;exact⟨by rw [bg.out];rfl,aD.out.aJ⟩
def k4 (n i:Nat):Nat:=((List.range i).map (fun j=>n-1-j)).sum
theorem XA (n:Nat):k4 n 0=0:=rfl
theorem JO (n i:Nat):k4 n (i+1)=k4 n i+(n-1-i):=by
 unfold k4;rw [List.range_succ,List.map_append,List.sum_append];simp
theorem M6:∀n,n≤6→n+k4 n n=nR n:=by decide
theorem afZ:∀n,n≤6→∀i,i≤n→k4 n i≤15:=by decide
def Bl (n k:Nat):Nat:=((List.range n).find? (fun i=>decide (k<k4 n (i+1)))).getD 0
def J8 (n k:Nat):Nat:=Bl n k+1+(k-k4 n (Bl n k))
theorem af0 {n k i:Nat} (hi:i<n) (h1:k<k4 n (i+1)) (h2:∀j,j<i→¬k<k4 n (j+1)):Bl n k=i:=by
 unfold Bl
 have:(List.range n).find? (fun i=>decide (k<k4 n (i+1)))=some i:=by
  rw [List.find?_eq_some_iff_append];refine⟨decide_eq_true h1,List.range i,(List.range' (i+1) (n-i-1)),?_,?_⟩
  ·rw [List.range_eq_range',List.range_eq_range',←List.range'_succ,show n-i-1+1=n-i by omega]
   have:=List.range'_append (s:=0) (m:=i) (n:=n-i) (step:=1);rw [Nat.one_mul,Nat.zero_add,show i+(n-i)=n by omega]at this;exact this.symm
  ·intro j hj
   rw [List.mem_range]at hj
   simpa using h2 j hj
 rw [this];rfl
def gf (p:Prod) (inst:Int):Int×Int×Bool:=
 if inst<0∨countP p≤inst then(0,0,false)else if inst<p.months.length then(inst,inst,false)else
  (Bl p.months.length (inst-p.months.length).toNat,J8 p.months.length (inst-p.months.length).toNat,true)
def ew (n lo hi:Int):Int:=lo+n % (hi-lo+1)
theorem oq (n lo hi:Int) (h:lo≤hi):lo≤ew n lo hi∧ew n lo hi≤hi:=by
 unfold ew;have h1:=Int.emod_nonneg n (show hi-lo+1≠0 by omega);have h2:=Int.emod_lt_of_pos n (show 0<hi-lo+1 by omega);omega
theorem v8 (n lo hi:Int) (w:World) (hn0: -9223372036854775808≤n) (E4:n≤9223372036854775807) (h:lo≤hi) (h0: -1000000000≤lo) (h1:hi≤1000000000):
 Calls Tryz.prog 14 #[↑n,↑lo,↑hi] w fun e w'=>e= .returned (.int .i64 (ew n lo hi))∧w=w':=by
 obtain⟨m,hm⟩:=ai (hi-lo+1:Int);have hm0:1≤m:=by omega
 have La:m≤2000000001:=by omega
 have hW:ew n lo hi=lo+n % m:=by unfold ew;rw [hm]
 obtain⟨t,ht⟩:=ai (n.tmod m:Int);have an5:(m==0)=false:=by rw [beq_eq_false_iff_ne];omega
 have Cq:(m== -1)=false:=by rw [beq_eq_false_iff_ne];omega
 have htb: -m<t∧t<m:=by
  subst ht;have a:=Int.tmod_lt_of_pos n (show 0<m by omega);have b:=Int.lt_tmod_of_pos n (show 0<m by omega);omega
 have acq:ew n lo hi=if t<0 then lo+(t+hi-lo+1)else lo+t:=by
  rw [hW,←ht,Int.emod_eq_tmod];by_cases hn:0≤n
  ·rw [if_pos (Or.inl hn)]
   have:0≤n.tmod m:=Int.tmod_nonneg _ hn;rw [if_neg (by omega)];omega
  ·by_cases hd:m∣n
   ·rw [if_pos (Or.inr hd)]
    have:n.tmod m=0:=Int.tmod_eq_zero_of_dvd hd;rw [if_neg (by omega)];omega
   ·rw [if_neg (by rintro(h|h);exact hn h;exact hd h)]
    have h2:n.tmod m≤0:=by
     have h4:=Int.tmod_nonneg m (show 0≤-n by omega);rw [Int.neg_tmod]at h4;omega
    have h3:n.tmod m≠0:=fun h=>hd (Int.dvd_of_tmod_eq_zero h);rw [if_pos (by omega)];have:((m.natAbs:Nat):Int)=m:=by omega
    omega
 have eI:=af acq;clear hW acq;go_enter Tryz.func14,Tryz.ntmps14
 go_wp2
 all_goals
  go_ret;refine⟨?_,rfl⟩;rw [eI.out];first|(rw [if_pos ‹t<0›];rfl)|(rw [if_neg (by omega)];rfl)
end Go.Proofs.YtmaijkoopjocdaaGreat
