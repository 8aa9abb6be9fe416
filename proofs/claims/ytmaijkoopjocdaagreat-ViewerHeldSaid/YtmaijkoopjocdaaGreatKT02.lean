import Derived.Test.YtmaijkoopjocdaaGreatKT01
import Derived.Maps.AppendAt
import Derived.Laws.AppendOwnNone
import Derived.Lib.EndianZ
import Derived.Lib.EndianBits
set_option maxRecDepth 100000
set_option maxHeartbeats 64000000
namespace Go.Proofs.YtmaijkoopjocdaaGreat
open Go.RowKit
theorem aej {w:World} {B:Nat} {t:TypeId} {size n:Nat} {v:Value} {xs:List Value} (h:w.ownsRow B t size v n xs):∃a c,v= .slice a n c:=by
 rcases h.2 with⟨rfl,h0⟩|⟨g,cap,cur,rfl,_⟩
 ·exact⟨none,0,by rw [h0]⟩
 ·exact⟨_,_,rfl⟩
theorem cx {w:World} {B:Nat} {t:TypeId} {size n:Nat} {v:Value} {xs:List Value} (h:w.ownsRow B t size v n xs):∀g,v.ownBlock=some g→B≤g:=by
 intro g hg;rcases h.2 with⟨rfl,h0⟩|⟨g',cap,cur,rfl,hb,_⟩
 ·cases hg
 ·have:g'=g:=by simpa [Value.ownBlock]using hg
  omega
theorem jH {w:World} {B:Nat} {t:TypeId} {size n:Nat} {v:Value} {xs:List Value} (h:w.ownsRow B t size v n xs):∀g,v.ownBlock=some g→g<w.heap.size:=by
 intro g hg;rcases h.2 with⟨rfl,h0⟩|⟨g',cap,cur,rfl,hb,hh,_⟩
 ·cases hg
 ·have:g'=g:=by simpa [Value.ownBlock]using hg
  subst this;rcases Nat.lt_or_ge g' w.heap.size with hlt|hge
  ·exact hlt
  ·rw [Array.getElem?_eq_none hge]at hh;cases hh
theorem xK {w w':World} {B:Nat} {t:TypeId} {size n:Nat} {v:Value} {xs:List Value} {F:Nat→Prop} (h:w.ownsRow B t size v n xs) (hk:aD F w w') (hf:∀g,v.ownBlock=some g→¬F g):w'.ownsRow B t size v n xs:=by
 have hl:=jH h;refine⟨h.1,?_⟩;rcases h.2 with h2|⟨g,cap,cur,hv,hb,hh,r⟩
 ·exact .inl h2
 ·have hg:v.ownBlock=some g:=by rw [hv];rfl
  exact .inr ⟨g,cap,cur,hv,hb,(hk.block g (hl g hg) (hf g hg)).trans hh,r⟩
theorem Lm {w w':World} {B:Nat} {t:TypeId} {size n:Nat} {v:Value} {xs:List Value} (h:w.ownsRow B t size v n xs) (hb:Below w.heap.size w w'):w'.ownsRow B t size v n xs:=
 xK h (Below.keeps (F:=fun _=>False) hb) fun _ _ x=>x
theorem fe {w w':World} {r:Option Nat} (h:w.grownBy w' r):aD (fun g=>r=some g) w w':=
 ⟨h.os,h.tape,h.output,h.size,fun k hk hf=>h.block k hk fun e=>hf e.symm⟩
theorem gF {w0 w w':World} {r:Option Nat} (h:w.grownBy w' r) (hb:Below w0.heap.size w0 w) (hr:∀g,r=some g→w0.heap.size≤g):Below w0.heap.size w0 w':=
 ⟨h.os.trans hb.os,h.tape.trans hb.tape,h.output.trans hb.output,Nat.le_trans hb.size h.size,fun k hk=>(h.block k (Nat.lt_of_lt_of_le hk hb.size) (fun e=>by have:=hr k e.symm;omega)).trans (hb.block k hk)⟩
def bV (w:World) (g:Nat) (t:TypeId):Prop:=∃cs,w.heap[g]? =some (.cells cs t (0,0))
theorem bV.ne {w:World} {g g':Nat} {t t':TypeId} (h:bV w g t) (h':bV w g' t') (hne:t≠t'):g≠g':=by
 rintro rfl;obtain⟨cs,h⟩:=h;obtain⟨cs',h'⟩:=h';rw [h]at h';injection h' with h';injection h' with _ h';exact hne h'
theorem dR {w:World} {B:Nat} {t:TypeId} {size n:Nat} {v:Value} {xs:List Value} (h:w.ownsRow B t size v n xs):∀g,v.ownBlock=some g→bV w g t:=by
 intro g hg;rcases h.2 with⟨rfl,h0⟩|⟨g',cap,cur,rfl,hb,hh,_⟩
 ·cases hg
 ·have:g'=g:=by simpa [Value.ownBlock]using hg
  subst this;exact⟨_,hh⟩
theorem aj.aC {w:World} {g:Nat} {t:TypeId} {cs:Array Value} (h:aj w g t cs):bV w g t:=⟨_,h⟩
theorem Wt {q3:Option Addr} {n c g:Nat} {w:World} {B:Nat} {t:TypeId} {size m:Nat} {xs:List Value} (h:w.ownsRow B t size (.slice q3 n c) m xs) (hg:(Value.slice q3 n c).ownBlock=some g):q3=some ⟨g,0,none⟩:=by
 rcases h.2 with⟨hv,_⟩|⟨g',cap',_,hv,_⟩
 ·rw [hv]at hg;cases hg
 ·rw [hv]at hg
  have e:g'=g:=by simpa [Value.ownBlock]using hg
  injection hv with e1;rw [e1,e]
theorem tE (b off m:Nat):(⟨b,off,none⟩:Addr).add m=⟨b,off+m,none⟩:=by
 unfold Addr.add;split
 ·rename_i h;rw [h,Nat.add_zero]
 ·rfl
def pZ (w:World) (B:Nat) (t:TypeId) (v:Value) (L:List Int):Prop:=w.ownsRow B t 1 v L.length (L.map (Value.int .i64))
theorem pZ.ints {w:World} {B:Nat} {t:TypeId} {a:Option Addr} {m c:Nat} {L:List Int} (h:pZ w B t (.slice a m c) L) (hok:∀x∈L,b8 x):qE w a L:=by
 intro j x hj;have hjl:=dc hj;refine⟨hok x (List.mem_of_getElem? hj),?_⟩;have hl:=jH h;rcases h.2 with⟨hv,h0⟩|⟨g,cap,cur,hv,hb,hh,r⟩
 ·omega
 ·injection hv with hv1 jq Fv
  subst hv1;subst jq;refine⟨g,0,rfl,hl g rfl,?_⟩;have:=World.ownsRow.cellAt h j (by omega);rw [Nat.zero_add,this,List.getElem?_map,hj];rfl
theorem Ln {w au:World} {o:Obj} {B:Nat} {t:TypeId} {size n:Nat} {v:Value} {xs:List Value} (hown:w.ownsRow B t size v n xs) (hg:(w.alloc o).grownBy au v.ownBlock) {g:Nat} {t':TypeId} {cs:Array Value} (hb:aj w g t' cs) (hne:t'≠t):aj au g t' cs:=
 (hb.alloc o).keeps (fe hg) fun h=>hb.aC.ne (dR hown g h) hne rfl
theorem Va {w au:World} {o:Obj} {B:Nat} {t:TypeId} {size n:Nat} {v:Value} {xs:List Value} (hown:w.ownsRow B t size v n xs) (hg:(w.alloc o).grownBy au v.ownBlock) {B':Nat} {t':TypeId} {size' n':Nat} {v':Value} {xs':List Value} (h:w.ownsRow B' t' size' v' n' xs') (hne:t'≠t):au.ownsRow B' t' size' v' n' xs':=
 xK (Lm h (Below.aA w o)) (fe hg) fun g h1 h2=>(dR h g h1).ne (dR hown g h2) hne rfl
theorem Vb {W w au:World} {o:Obj} {t:TypeId} {size n:Nat} {v:Value} {xs:List Value} (hown:w.ownsRow W.heap.size t size v n xs) (hg:(w.alloc o).grownBy au v.ownBlock) (hb:Below W.heap.size W w):Below W.heap.size W au:=
 gF hg (hb.alloc hb.size o) (cx hown)
theorem Lp {w:World} {B:Nat} {t:TypeId} {size n:Nat} {v:Value} {xs:List Value} (h:w.ownsRow B t size v n xs) {g:Nat} {t':TypeId} {cs:Array Value} (hb:aj w g t' cs) (hne:t≠t') (i:Nat) (u:Value):(w.setCell ⟨g,i,none⟩ u).ownsRow B t size v n xs:=
 xK h ((aD.refl (fun k=>k=g) w).setCell (p:=⟨g,i,none⟩) (fun _=>rfl) u) fun k hk e=>(dR h k hk).ne hb.aC hne e
theorem aek:(Tryz.prog.info? 3).map (fun i=>(i.zero,i.size,i.bytes))=some (some (.int .i64 0),1,8):=by kernel_rfl
theorem ael:(Tryz.prog.info? 2).map (fun i=>(i.zero,i.size,i.bytes))=some (some (.int .i64 0),1,8):=by kernel_rfl
theorem acJ {w:World} {ops:Array Oper} {rest:List Oper} {o:Oper} {a:Act} {Q:Exit→Act→World→Prop} (hgd:o.guard=none) (s x:Operand)
 (ho:o.op= .call {callee:= .builtin .append,args:=#[s,x],argTypes:=#[22,22]})
 (B:Nat) (a0:Option Addr) (c0 n:Nat) (L:List Int) (hn:L.length=n) (hs:a.eval s= .slice a0 n c0) (hown:pZ w B 3 (.slice a0 n c0) L)
 (g:Nat) (y:Int) (hx:a.eval x= .slice (some ⟨g,0,none⟩) 1 1) (hc:w.cell? ⟨g,0,none⟩=some (.int .i64 y)) (hle:n≤1000000) (hB:B≤w.heap.size)
 (h:∀g' cap w',pZ w' B 3 (.slice (some ⟨g',0,none⟩) (n+1) cap) (L++ [y])→w.grownBy w' (Value.slice a0 n c0).ownBlock→(a0=some ⟨g',0,none⟩∨g'=w.heap.size)→wpList Tryz.prog ops Q rest (a.put o.dst (.slice (some ⟨g',0,none⟩) (n+1) cap)) w'):wpList Tryz.prog ops Q (o::rest) a w:=by
 subst hn;obtain⟨i0,hi,cQ,hz1,dG⟩:=info_parts aek;refine wpList_append_own_at w hgd s x 22 ho B 3 i0 _ 1 8 Tryz.underlying22 hi cQ hz1 dG rfl (by omega) (.slice a0 L.length c0) L.length (L.map (Value.int .i64)) hs hown ⟨g,0,none⟩ 1 1 [.int .i64 y] hx rfl ?_ ?_ (by unfold maxLen;omega) (by omega) hB ?_
 ·intro j u hj
  have hj0:j=0:=by have:=dc hj;simp at this;exact this
  subst hj0;simp at hj;subst hj;rw [tE];exact hc
 ·intro u hu
  simp at hu;subst hu;rfl
 ·intro v' w' h1 h2 h3 h4
  obtain⟨g',cap,hv⟩:∃g' cap,v'= .slice (some ⟨g',0,none⟩) (L.length+1) cap:=by
   rcases h1.2 with⟨_,h0⟩|⟨g',cap,_,hv,_⟩
   ·omega
   ·exact⟨g',cap,hv⟩
  subst hv;refine h g' cap w' ?_ h2 ?_
  ·unfold pZ
   rw [List.length_append,List.map_append];exact h1
  ·rcases h4 with h4|h4
   ·exact .inl (Wt hown h4.symm)
   ·have h6:some g'=some w.heap.size:=h4
    injection h6 with h6;exact .inr h6
theorem acN {w:World} {ops:Array Oper} {rest:List Oper} {o:Oper} {a:Act} {Q:Exit→Act→World→Prop} (hgd:o.guard=none) (s x:Operand)
 (ho:o.op= .call {callee:= .builtin .append,args:=#[s,x],argTypes:=#[23,23]})
 (B:Nat) (a0:Option Addr) (c0 n:Nat) (L:List Int) (hn:L.length=n) (hs:a.eval s= .slice a0 n c0) (hown:pZ w B 2 (.slice a0 n c0) L)
 (g:Nat) (y:Int) (hx:a.eval x= .slice (some ⟨g,0,none⟩) 1 1) (hc:w.cell? ⟨g,0,none⟩=some (.int .i64 y)) (hle:n≤1000000) (hB:B≤w.heap.size)
 (h:∀g' cap w',pZ w' B 2 (.slice (some ⟨g',0,none⟩) (n+1) cap) (L++ [y])→w.grownBy w' (Value.slice a0 n c0).ownBlock→(a0=some ⟨g',0,none⟩∨g'=w.heap.size)→wpList Tryz.prog ops Q rest (a.put o.dst (.slice (some ⟨g',0,none⟩) (n+1) cap)) w'):wpList Tryz.prog ops Q (o::rest) a w:=by
 subst hn;obtain⟨i0,hi,cQ,hz1,dG⟩:=info_parts ael;refine wpList_append_own_at w hgd s x 23 ho B 2 i0 _ 1 8 Tryz.underlying23 hi cQ hz1 dG rfl (by omega) (.slice a0 L.length c0) L.length (L.map (Value.int .i64)) hs hown ⟨g,0,none⟩ 1 1 [.int .i64 y] hx rfl ?_ ?_ (by unfold maxLen;omega) (by omega) hB ?_
 ·intro j u hj
  have hj0:j=0:=by have:=dc hj;simp at this;exact this
  subst hj0;simp at hj;subst hj;rw [tE];exact hc
 ·intro u hu
  simp at hu;subst hu;rfl
 ·intro v' w' h1 h2 h3 h4
  obtain⟨g',cap,hv⟩:∃g' cap,v'= .slice (some ⟨g',0,none⟩) (L.length+1) cap:=by
   rcases h1.2 with⟨_,h0⟩|⟨g',cap,_,hv,_⟩
   ·omega
   ·exact⟨g',cap,hv⟩
  subst hv;refine h g' cap w' ?_ h2 ?_
  ·unfold pZ
   rw [List.length_append,List.map_append];exact h1
  ·rcases h4 with h4|h4
   ·exact .inl (Wt hown h4.symm)
   ·have h6:some g'=some w.heap.size:=h4
    injection h6 with h6;exact .inr h6
structure aY (α:Type) where
 cells:α→List Value
 m:Nat
 len:∀x,(cells x).length=m
 one:∀x,∀u∈cells x,u.oneCell'=true
 pos:0<m
 t:TypeId
 ts:TypeId
 z:Value
 bytes:Nat
 und:Tryz.prog.underlying ts=some (.slice t)
 info:(Tryz.prog.info? t).map (fun i=>(i.zero,i.size,i.bytes))=some (some z,m,bytes)
 zs:z.cells.size=m
 small:bytes≤1000
def gL (w:World) (b o:Nat) (cs:List Value):Prop:=∀k u,cs[k]? =some u→w.cell? ⟨b,o+k,none⟩=some u
theorem gL.below {w w':World} {b o:Nat} {cs:List Value} (h:gL w b o cs) (hb:Below w.heap.size w w') (hl:b<w.heap.size):gL w' b o cs:=
 fun k u hu=>(hb.cell (p:=⟨b,o+k,none⟩) hl).trans (h k u hu)
theorem gL.keeps {w w':World} {F:Nat→Prop} {b o:Nat} {cs:List Value} (h:gL w b o cs) (hk:aD F w w') (hl:b<w.heap.size) (hf:¬F b):gL w' b o cs:=by
 intro k u hu;have h1:=h k u hu;unfold World.cell? at h1⊢;rw [show(⟨b,o+k,none⟩:Addr).block=b from rfl]at h1⊢;rw [hk.block b hl hf];exact h1
theorem aj.fU {w:World} {g:Nat} {t:TypeId} {cs:List Value} (h:aj w g t cs.toArray):gL w g 0 cs:=by
 intro k u hu;rw [h.cell,Nat.zero_add,List.getElem?_toArray];exact hu
section
variable {α:Type} (Y:aY α)
def aY.fF (w:World) (a:Option Addr) (L:List α):Prop:=∀j e,L[j]? =some e→∃b off,a=some ⟨b,off,none⟩∧b<w.heap.size∧gL w b (off+j*Y.m) (Y.cells e)
def aY.Row (w:World) (B:Nat) (v:Value) (L:List α):Prop:=w.ownsRow B Y.t Y.m v L.length (L.flatMap Y.cells)
variable {Y} {w w':World} {B:Nat} {v:Value} {L:List α}
theorem aY.fF.below {a:Option Addr} (h:Y.fF w a L) (hb:Below w.heap.size w w'):Y.fF w' a L:=by
 intro j e hj;obtain⟨b,off,h1,h2,h3⟩:=h j e hj;exact⟨b,off,h1,Nat.lt_of_lt_of_le h2 hb.size,h3.below hb h2⟩
theorem aY.fF.nil {a:Option Addr}:Y.fF w a []:=fun j e h=>by simp at h
theorem aY.fF.take {a:Option Addr} (h:Y.fF w a L) (n:Nat):Y.fF w a (L.take n):=by
 intro j e hj;rw [List.getElem?_take]at hj;split at hj
 ·exact h j e hj
 ·cases hj
theorem aY.Row.form (h:Y.Row w B v L):∃a c,v= .slice a L.length c:=aej h
theorem aY.Row.nil (w:World) (B:Nat):Y.Row w B (.slice none 0 0) []:=⟨by simp,.inl ⟨rfl,rfl⟩⟩
theorem aY.Row.empty (w:World):Y.Row (w.alloc (.cells #[] Y.t)) w.heap.size (.slice (some ⟨w.heap.size,0,none⟩) 0 0) []:=
 ⟨by simp,.inr ⟨w.heap.size,0,#[],rfl,Nat.le_refl _,aj.new w Y.t #[],Nat.le_refl _,Nat.zero_le _,by simp,by simp⟩⟩
theorem aY.Row.below (h:Y.Row w B v L) (hb:Below w.heap.size w w'):Y.Row w' B v L:=Lm h hb
theorem aY.Row.at_ (h:Y.Row w B v L) (j:Nat) (e:α) (hj:L[j]? =some e):∃g cap,v= .slice (some ⟨g,0,none⟩) L.length cap∧g<w.heap.size∧gL w g (j*Y.m) (Y.cells e):=by
 have hl:=jH h;rcases h.2 with⟨hv,h0⟩|⟨g,cap,cur,hv,hb,hh,r⟩
 ·have:=dc hj;omega
 ·subst hv
  have hg:=hl g rfl;refine⟨g,cap,rfl,hg,?_⟩;have hjl:=dc hj;obtain⟨_,QK⟩:=lq hj;intro k u hu;have hk:k<Y.m:=by have:=dc hu;rw [Y.len]at this;exact this
  have hlt:j*Y.m+k<L.length*Y.m:=by
   have:=Nat.mul_le_mul_right Y.m (show j+1≤L.length by omega);rw [Nat.add_mul,Nat.one_mul]at this;omega
  rw [h.cellAt (j*Y.m+k) hlt,LN Y.cells Y.m Y.len L j k hjl hk,QK];exact hu
theorem aY.Row.rd (h:Y.Row w B v L):∃a c,v= .slice a L.length c∧(a=none→c=0)∧Y.fF w a L:=by
 obtain⟨a,c,hv⟩:=h.form
 have hac:a=none→c=0:=by
  rintro rfl;rcases h.2 with⟨h2,_⟩|⟨g,cap,cur,h2,_⟩
  ·rw [hv]at h2;injection h2
  ·rw [hv]at h2;injection h2 with h2;cases h2
 refine⟨a,c,hv,hac,fun j e hj=>?_⟩;obtain⟨g,cap,h1,h2,h3⟩:=h.at_ j e hj;rw [hv]at h1;injection h1 with h1;exact⟨g,0,h1,h2,by rw [Nat.zero_add];exact h3⟩
theorem aY.jL (Y:aY α) (L:List α):∀u∈L.flatMap Y.cells,u.oneCell'=true:=by
 intro u hu;rw [List.mem_flatMap]at hu;obtain⟨e,_,hu⟩:=hu;exact Y.one e u hu
theorem aY.fF.cells {b off:Nat} (h:Y.fF w (some ⟨b,off,none⟩) L):∀j u,(L.flatMap Y.cells)[j]? =some u→w.cell? ((⟨b,off,none⟩:Addr).add j)=some u:=by
 intro j u hu;have hj:=dc hu;rw [lQ Y.cells Y.m Y.len]at hj;have hi:j / Y.m<L.length:=(Nat.div_lt_iff_lt_mul Y.pos).2 hj;have hr:j % Y.m<Y.m:=Nat.mod_lt _ Y.pos;have h1:=LN Y.cells Y.m Y.len L (j / Y.m) (j % Y.m) hi hr;have Xu:j / Y.m*Y.m+j % Y.m=j:=Nat.div_add_mod' j Y.m;rw [Xu,hu]at h1;obtain⟨b',off',he,_,h2⟩:=h (j / Y.m) _ (List.getElem?_eq_getElem hi);have e1:b=b'∧off=off':=by injection he with he;injection he with x y;exact⟨x,y⟩
 obtain⟨rfl,rfl⟩:=e1;rw [tE,show off+j=off+j / Y.m*Y.m+j % Y.m by rw [Nat.add_assoc,Xu]];exact h2 _ _ h1.symm
theorem gL.rd {g:Nat} {e:α} (hg:g<w.heap.size) (h:gL w g 0 (Y.cells e)):Y.fF w (some ⟨g,0,none⟩) [e]:=by
 intro j x hj;have hj0:j=0:=by have:=dc hj;simp at this;exact this
 subst hj0;have:x=e:=by simp at hj;exact hj.symm
 subst this;exact⟨g,0,rfl,hg,by rw [Nat.zero_mul];exact h⟩
theorem aY.IV (Y:aY α) {w:World} {B:Nat} {v:Value} {L:List α} (ty:TypeId) (hown:Y.Row w B v L) (ad:Addr) (c:Nat) (M:List α) (had:∃b off,ad=⟨b,off,none⟩) (hr:Y.fF w (some ad) M) (hle:L.length+M.length≤1000000) (hbase:B≤w.heap.size):
 ∃v' w',(Builtin.append_ #[Y.ts,Y.ts] ty #[v,.slice (some ad) M.length c]).run Tryz.prog w= .ok v' w'∧Y.Row w' B v' (L++M)∧w.grownBy w' v.ownBlock∧(v'.ownBlock=v.ownBlock∨v'.ownBlock=some w.heap.size):=by
 obtain⟨b,off,rfl⟩:=had;obtain⟨i0,hi,cQ,hz1,dG⟩:=info_parts Y.info
 have zO:(L.length+M.length)*Y.bytes≤140737488355328:=by
  have:=Nat.mul_le_mul hle Y.small;omega
 obtain⟨v',w',h1,h2,h3,_,h5⟩:=run_append_own_at (P:=Tryz.prog) w B Y.ts ty Y.t i0 Y.z Y.m Y.bytes Y.und hi cQ hz1 dG Y.zs Y.pos v L.length _ hown ⟨b,off,none⟩ M.length c (M.flatMap Y.cells) (by rw [lQ Y.cells Y.m Y.len]) hr.cells (Y.jL M) (by unfold maxLen;omega) zO hbase;refine⟨v',w',h1,?_,h3,h5⟩;unfold aY.Row;rw [List.length_append,List.flatMap_append];exact h2
theorem aY.push (Y:aY α) {w:World} {ops:Array Oper} {rest:List Oper} {o:Oper} {a:Act} {Q:Exit→Act→World→Prop} (hgd:o.guard=none) (s x:Operand)
 (ho:o.op= .call {callee:= .builtin .append,args:=#[s,x],argTypes:=#[Y.ts,Y.ts]})
 (B:Nat) (v:Value) (L:List α) (hs:a.eval s=v) (hown:Y.Row w B v L) (g:Nat) (e:α) (hx:a.eval x= .slice (some ⟨g,0,none⟩) 1 1) (hg:g<w.heap.size) (hc:gL w g 0 (Y.cells e))
 (hle:L.length+1≤1000000) (hbase:B≤w.heap.size)
 (h:∀v' w',Y.Row w' B v' (L++ [e])→w.grownBy w' v.ownBlock→(v'.ownBlock=v.ownBlock∨v'.ownBlock=some w.heap.size)→wpList Tryz.prog ops Q rest (a.put o.dst v') w'):wpList Tryz.prog ops Q (o::rest) a w:=by
 refine wpList_plain hgd fun K hK=>?_;obtain⟨v',w',hr,h2,h3,h5⟩:=Y.IV o.type hown ⟨g,0,none⟩ 1 [e] ⟨g,0,rfl⟩ (gL.rd hg hc) hle hbase;rw [show([e]:List α).length=1 from rfl]at hr;unfold Oper.wp execOp;simp only [ho,resolve,invoke,builtin,Sem.run_bind,Sem.run_pure,Result.andThen_ok,List.map_toArray,List.map_cons,List.map_nil,hs,hx,hr];exact hK _ _ (h v' w' h2 h3 h5)
theorem aY.step (Y:aY α) {w:World} {ops:Array Oper} {o:Oper} {a:Act} {K:Act→World→Prop} {Q:Exit→Act→World→Prop} {E:Prop} (hgd:o.guard=none) (s x:Operand)
 (ho:o.op= .call {callee:= .builtin .append,args:=#[s,x],argTypes:=#[Y.ts,Y.ts]})
 (B:Nat) (v:Value) (L:List α) (hs:a.eval s=v) (hown:Y.Row w B v L) (g:Nat) (e:α) (hx:a.eval x= .slice (some ⟨g,0,none⟩) 1 1) (hg:g<w.heap.size) (hc:gL w g 0 (Y.cells e))
 (hle:L.length+1≤1000000) (hbase:B≤w.heap.size)
 (h:∀v' w',Y.Row w' B v' (L++ [e])→w.grownBy w' v.ownBlock→(v'.ownBlock=v.ownBlock∨v'.ownBlock=some w.heap.size)→K (a.put o.dst v') w'):
 if Region.wanted o (yielded ops a.tmps)=true then Oper.wp Tryz.prog o a w K Q else E:=by
 have hw:Region.wanted o (yielded ops a.tmps)=true:=by simp [Region.wanted,hgd]
 rw [if_pos hw];obtain⟨v',w',hr,h2,h3,h5⟩:=Y.IV o.type hown ⟨g,0,none⟩ 1 [e] ⟨g,0,rfl⟩ (gL.rd hg hc) hle hbase;rw [show([e]:List α).length=1 from rfl]at hr;unfold Oper.wp execOp;simp only [ho,resolve,invoke,builtin,Sem.run_bind,Sem.run_pure,Result.andThen_ok,List.map_toArray,List.map_cons,List.map_nil,hs,hx,hr];exact h v' w' h2 h3 h5
theorem aY.vN (Y:aY α) {w:World} {ops:Array Oper} {rest:List Oper} {o:Oper} {a:Act} {Q:Exit→Act→World→Prop} (hgd:o.guard=none) (s x:Operand)
 (ho:o.op= .call {callee:= .builtin .append,args:=#[s,x],argTypes:=#[Y.ts,Y.ts]})
 (B:Nat) (v:Value) (L:List α) (hs:a.eval s=v) (hown:Y.Row w B v L) (A:Option Addr) (c:Nat) (M:List α) (hx:a.eval x= .slice A M.length c) (hac:A=none→c=0) (hrd:Y.fF w A M)
 (hA:∀ad,A=some ad→∃b off,ad=⟨b,off,none⟩) (hle:L.length+M.length≤1000000) (hbase:B≤w.heap.size)
 (h:∀v' w',Y.Row w' B v' (L++M)→w.grownBy w' v.ownBlock→(v'.ownBlock=v.ownBlock∨v'.ownBlock=some w.heap.size)→wpList Tryz.prog ops Q rest (a.put o.dst v') w'):wpList Tryz.prog ops Q (o::rest) a w:=by
 obtain⟨i0,hi,cQ,hz1,dG⟩:=info_parts Y.info;rcases A with _|ad
 ·have og:M= []:=by
   cases M with
   |nil=>rfl
   |cons e M=>obtain⟨b,off,h1,_⟩:=hrd 0 e rfl;cases h1
  subst og;have hc:=hac rfl;subst hc;refine wpList_append_own_none hgd s x Y.ts ho B Y.t i0 Y.m Y.und hi v L.length _ hs hown hx ?_;exact h v w (by rw [List.append_nil];exact hown) (World.grownBy.refl w _) (.inl rfl)
 ·refine wpList_plain hgd fun K hK=>?_
  obtain⟨v',w',hr,h2,h3,h5⟩:=Y.IV o.type hown ad c M (hA ad rfl) hrd hle hbase;unfold Oper.wp execOp;simp only [ho,resolve,invoke,builtin,Sem.run_bind,Sem.run_pure,Result.andThen_ok,List.map_toArray,List.map_cons,List.map_nil,hs,hx,hr];exact hK _ _ (h v' w' h2 h3 h5)
end
section
variable {α:Type}
theorem aY.steps (Y:aY α) {w:World} {ops:Array Oper} {o:Oper} {a:Act} {K:Act→World→Prop} {Q:Exit→Act→World→Prop} {E:Prop} (hgd:o.guard=none) (s x:Operand)
 (ho:o.op= .call {callee:= .builtin .append,args:=#[s,x],argTypes:=#[Y.ts,Y.ts]})
 (B:Nat) (v:Value) (L:List α) (hs:a.eval s=v) (hown:Y.Row w B v L) (A:Option Addr) (n c:Nat) (M:List α) (hn:M.length=n) (hx:a.eval x= .slice A n c) (hac:A=none→c=0) (hrd:Y.fF w A M)
 (hA:∀ad,A=some ad→∃b off,ad=⟨b,off,none⟩) (hle:L.length+M.length≤1000000) (hbase:B≤w.heap.size)
 (h:∀v' w',Y.Row w' B v' (L++M)→w.grownBy w' v.ownBlock→(v'.ownBlock=v.ownBlock∨v'.ownBlock=some w.heap.size)→K (a.put o.dst v') w'):
 if Region.wanted o (yielded ops a.tmps)=true then Oper.wp Tryz.prog o a w K Q else E:=by
 subst hn;have hw:Region.wanted o (yielded ops a.tmps)=true:=by simp [Region.wanted,hgd]
 rw [if_pos hw];obtain⟨i0,hi,cQ,hz1,dG⟩:=info_parts Y.info;rcases A with _|ad
 ·have og:M= []:=by
   cases M with
   |nil=>rfl
   |cons e M=>obtain⟨b,off,h1,_⟩:=hrd 0 e rfl;cases h1
  subst og;have hc:=hac rfl;subst hc;have hrun:=run_append_owned_none (P:=Tryz.prog) (w:=w) B Y.ts o.type Y.t i0 Y.m Y.und hi v L.length _ hown;have hk:=h v w (by rw [List.append_nil];exact hown) (World.grownBy.refl w _) (.inl rfl);have hx':a.eval x= .slice none 0 0:=hx;unfold Oper.wp;simp [execOp,ho,resolve,invoke,builtin,hs,hx',hrun,Result.andThen];exact hk
 ·obtain⟨v',w',hr,h2,h3,h5⟩:=Y.IV o.type hown ad c M (hA ad rfl) hrd hle hbase
  unfold Oper.wp execOp;simp only [ho,resolve,invoke,builtin,Sem.run_bind,Sem.run_pure,Result.andThen_ok,List.map_toArray,List.map_cons,List.map_nil,hs,hx,hr];exact h v' w' h2 h3 h5
end
section
variable {α:Type} {Y:aY α} {w w':World} {B:Nat} {v:Value} {L:List α}
theorem aY.Row.Ak (h:Y.Row w B v L) (hL:L≠ []):∃g cap cur,v= .slice (some ⟨g,0,none⟩) L.length cap∧B≤g∧aj w g Y.t cur:=by
 rcases h.2 with⟨_,h0⟩|⟨g,cap,cur,hv,hb,hh,_⟩
 ·exact absurd (List.length_eq_zero_iff.1 h0) hL
 ·exact⟨g,cap,cur,hv,hb,hh⟩
theorem aY.Row.aQ {g n cap j k:Nat} (h:Y.Row w B (.slice (some ⟨g,0,none⟩) n cap) L) {e e':α} {u:Value} (hj:L[j]? =some e) (hk:k<Y.m) (he:Y.cells e'=(Y.cells e).set k u):Y.Row (w.setCell ⟨g,j*Y.m+k,none⟩ u) B (.slice (some ⟨g,0,none⟩) n cap) (L.set j e'):=by
 have hjl:=dc hj;obtain⟨_,QK⟩:=lq hj;have Bd:=adH Y.cells Y.m Y.len u e' L j k hjl hk (by rw [QK];exact he);obtain⟨h1,h2⟩:=h;rcases h2 with⟨hv,_⟩|⟨g',cap',cur,hv,hb,hh,r1,r2,fV,gq⟩
 ·injection hv with hv;cases hv
 ·injection hv with hv hn hc
  injection hv with hv;injection hv with hv;subst hv;subst hn;subst hc;have hb2:aj w g Y.t cur:=hh;refine⟨by rw [←Bd,List.length_set,List.length_set];exact h1,.inr ⟨g,cap,cur.setIfInBounds (j*Y.m+k) u,by rw [List.length_set],hb,hb2.aQ _ u,by rw [List.length_set];exact r1,r2,by rw [Array.size_setIfInBounds];exact fV,?_⟩⟩;rw [Array.toList_setIfInBounds,List.take_set,List.length_set,gq,Bd]
theorem aY.Row.rd_some {g n cap:Nat} (h:Y.Row w B (.slice (some ⟨g,0,none⟩) n cap) L):Y.fF w (some ⟨g,0,none⟩) L:=by
 obtain⟨a,c,hv,_,hr⟩:=h.rd;injection hv with hv;rw [hv];exact hr
theorem aY.Row.front {g n cap:Nat} (h:Y.Row w B (.slice (some ⟨g,0,none⟩) n cap) L) {k:Nat} (hk:k≤L.length):Y.Row w B (.slice (some ⟨g,0,none⟩) k cap) (L.take k):=by
 obtain⟨h1,h2⟩:=h;rcases h2 with⟨hv,_⟩|⟨g',cap',cur,hv,hb,hh,r1,r2,fV,gq⟩
 ·injection hv with hv;cases hv
 ·injection hv with hv hn hc
  injection hv with hv;injection hv with hv;subst hv;subst hn;subst hc;have hl:(L.take k).length=k:=by rw [List.length_take];omega
  have hf:(L.take k).flatMap Y.cells=(L.flatMap Y.cells).take (k*Y.m):=by
   have e1:L.flatMap Y.cells=(L.take k).flatMap Y.cells++(L.drop k).flatMap Y.cells:=by rw [←List.flatMap_append,List.take_append_drop]
   have e2:((L.take k).flatMap Y.cells).length=k*Y.m:=by rw [lQ Y.cells Y.m Y.len,hl]
   rw [e1,List.take_left' e2]
  refine⟨by rw [hf,List.length_take,hl,h1];exact Nat.min_eq_left (Nat.mul_le_mul_right _ hk),.inr ⟨g,cap,cur,by rw [hl],hb,hh,by rw [hl];omega,r2,fV,?_⟩⟩;rw [hl,hf,←gq,List.take_take,Nat.min_eq_left (Nat.mul_le_mul_right _ hk)]
end
end Go.Proofs.YtmaijkoopjocdaaGreat
namespace Go.Proofs.YtmaijkoopjocdaaGreat
open Go Go.Lib
structure cg where
 bs:List Int
 bad:Bool
deriving DecidableEq
def cg.take (n:Nat) (s:cg):List Int×cg:=if s.bad=true∨s.bs.length<n then([],⟨s.bs,true⟩)else(s.bs.take n,⟨s.bs.drop n,false⟩)
def cg.num (n:Nat) (s:cg):Int×cg:=(leZ (s.take n).1,(s.take n).2)
def cg.long (s:cg):Int×cg:=(IntKind.i64.wrap (s.num 8).1,(s.num 8).2)
def isByte (z:Int):Prop:=0≤z∧z≤255
def cg.ok (s:cg):Prop:=∀z∈s.bs,isByte z
theorem ahT:leZ []=0:=rfl
theorem R2:∀(l:List Int),(∀z∈l,isByte z)→0≤leZ l∧leZ l<256^l.length
 | [],_=>⟨Int.le_refl 0,by decide⟩
 |z::r,h=>by
  have h1:=h z (by simp);have h2:=R2 r (fun x hx=>h x (by simp [hx]));unfold isByte at h1;rw [leZ,List.length_cons,Int.pow_succ];omega
theorem cg.C5 {n:Nat} {s:cg} (h:s.ok):(s.take n).2.ok∧∀z∈(s.take n).1,isByte z:=by
 unfold cg.take;split
 ·exact⟨h,fun z hz=>by simp at hz⟩
 ·exact⟨fun z hz=>h z (List.mem_of_mem_drop hz),fun z hz=>h z (List.mem_of_mem_take hz)⟩
theorem cg.ahX {n:Nat} {s:cg} (h:s.ok):(s.num n).2.ok:=(cg.C5 h).1
theorem cg.ahY {s:cg} (h:s.ok):s.long.2.ok:=cg.ahX h
theorem cg.take_len (n:Nat) (s:cg):(s.take n).1.length≤n∧(s.take n).2.bs.length≤s.bs.length:=by
 unfold cg.take;split
 ·exact⟨Nat.zero_le _,Nat.le_refl _⟩
 ·exact⟨by rw [List.length_take];omega,by rw [List.length_drop];omega⟩
theorem cg.ZN {s:cg} (h:s.ok):0≤(s.num 1).1∧(s.num 1).1≤255:=by
 have h1:=R2 _ (cg.C5 (n:=1) h).2;have h2:=(cg.take_len 1 s).1;unfold cg.num;dsimp only;refine⟨h1.1,?_⟩;have:(s.take 1).1.length=0∨(s.take 1).1.length=1:=by omega
 rcases this with h3|h3<;>rw [h3]at h1<;>omega
theorem cg.ahZ {n:Nat} {s:cg} (h:s.bad=true):s.take n=([],s):=by
 unfold cg.take;rw [if_pos (.inl h)];cases s;simp_all
theorem MY (z:Int): -9223372036854775808≤IntKind.i64.wrap z∧IntKind.i64.wrap z≤9223372036854775807:=by
 rw [IntKind.wrap_i64];omega
structure ax where
 ag:Int
 ah:Int
 count:Int
deriving DecidableEq
structure aV where
 lv:List ax
 im:ax
 has:Bool
deriving DecidableEq
abbrev bP:=List (aV×aV)
structure aB where
 seq:Int
 inst:Int
 side:Int
 ag:Int
 ah:Int
 count:Int
 imp:Bool
deriving DecidableEq
def oP:ax:=⟨0,0,0⟩
def tJ:aV:=⟨[],oP,false⟩
def aB.lv (m:aB):ax:=⟨m.ag,m.ah,m.count⟩
def cV (side x y:Int):Bool:=if side=1 then decide (y<x)else decide (x<y)
theorem SZ (side x y:Int) (h:x≠y):cV side x y= !cV side y x:=by
 unfold cV;by_cases hs:side=1
 ·rw [if_pos hs,if_pos hs]
  by_cases hx:y<x
  ·have hy:¬x<y:=by omega
   simp [hx,hy]
  ·have hy:x<y:=by omega
   simp [hx,hy]
 ·rw [if_neg hs,if_neg hs]
  by_cases hx:x<y
  ·have hy:¬y<x:=by omega
   simp [hx,hy]
  ·have hy:y<x:=by omega
   simp [hx,hy]
theorem Wi (side x:Int):cV side x x=false:=by
 unfold cV;split<;>simp
theorem Ek {side x y z:Int} (h:cV side x y=true) (k:cV side y z=true):cV side x z=true:=by
 unfold cV at*;split at h
 ·rename_i hs
  rw [if_pos hs]at k⊢;simp only [decide_eq_true_eq]at*;omega
 ·rename_i hs
  rw [if_neg hs]at k⊢;simp only [decide_eq_true_eq]at*;omega
theorem Ej {side x y:Int} (h:cV side x y=true):x≠y:=by
 rintro rfl;rw [Wi]at h;cases h
def kp (side:Int) (l:List ax):Prop:=l.Pairwise (fun a b=>cV side a.ag b.ag=true)
def n5 (m:aB) (l:List ax):List ax:=
 match l.findIdx? (fun y=>y.ag==m.ag)with
 |some n=>if m.ah=0 then l.take n++l.drop (n+1)else l.take n++m.lv::l.drop (n+1)
 |none=>if 0<m.ah then(match l.findIdx? (fun y=>cV m.side m.ag y.ag)with
  |some n=>l.take n++m.lv::l.drop n
  |none=>l++ [m.lv])else l
def jz (m:aB):List ax→List ax
 | []=>if 0<m.ah then [m.lv]else []
 |x::t=>if x.ag=m.ag then(if m.ah=0 then t else m.lv::t)else if cV m.side m.ag x.ag=true then(if 0<m.ah then m.lv::x::t else x::t)else x::jz m t
theorem Ny {side p:Int} {x:ax} {t:List ax} (hs:kp side (x::t)) (h:x.ag=p∨cV side p x.ag=true):∀y∈t,y.ag≠p:=by
 intro y hy;have h1:=(List.pairwise_cons.1 hs).1 y hy;rcases h with rfl|h
 ·exact fun e=>Ej h1 e.symm
 ·exact fun e=>Ej (Ek h h1) e.symm
theorem ah0 {p:Int} {t:List ax} (h:∀y∈t,y.ag≠p):t.findIdx? (fun y=>y.ag==p)=none:=by
 rw [List.findIdx?_eq_none_iff];intro y hy
 simpa using h y hy
theorem D5 {m:aB}:∀{l:List ax},kp m.side l→n5 m l=jz m l
 | [],_=>by simp [n5,jz]
 |x::t,hs=>by
  have hst:kp m.side t:=(List.pairwise_cons.1 hs).2;have ih:=D5 hst;unfold jz;by_cases hx:x.ag=m.ag
  ·rw [if_pos hx]
   unfold n5;rw [List.findIdx?_cons,if_pos (by simpa using hx)];simp
  ·rw [if_neg hx]
   have Mc:(x.ag==m.ag)=false:=by simpa using hx
   by_cases hb:cV m.side m.ag x.ag=true
   ·rw [if_pos hb]
    have hn:=ah0 (Ny hs (.inr hb));unfold n5;rw [List.findIdx?_cons,Mc,List.findIdx?_cons,hn];simp [hb]
   ·rw [if_neg hb]
    have iX:cV m.side m.ag x.ag=false:=by simpa using hb
    rw [←ih];unfold n5;rw [List.findIdx?_cons,Mc,List.findIdx?_cons,iX];cases hi:t.findIdx? (fun y=>y.ag==m.ag)with
    |some n=>simp;split<;>simp
    |none=>
     simp only [Bool.false_eq_true,if_false,Option.map_none];split
     ·cases hj:t.findIdx? (fun y=>cV m.side m.ag y.ag)with
      |some n=>simp
      |none=>simp
     ·rfl
theorem ZO {m:aB}:∀{l:List ax} {y:ax},y∈jz m l→y.ag=m.ag∨y∈l
 | [],y,h=>by
   unfold jz at h;split at h
   ·simp at h;subst h;exact .inl rfl
   ·simp at h
 |x::t,y,h=>by
  unfold jz at h;split at h
  ·split at h
   ·exact .inr (by simp [h])
   ·rcases List.mem_cons.1 h with rfl|h
    ·exact .inl rfl
    ·exact .inr (by simp [h])
  ·split at h
   ·split at h
    ·rcases List.mem_cons.1 h with rfl|h
     ·exact .inl rfl
     ·exact .inr h
    ·exact .inr h
   ·rcases List.mem_cons.1 h with rfl|h
    ·exact .inr (by simp)
    ·rcases ZO h with h|h
     ·exact .inl h
     ·exact .inr (by simp [h])
theorem NA {m:aB}:∀{l:List ax},kp m.side l→kp m.side (jz m l)
 | [],_=>by
   unfold jz;split
   ·exact List.pairwise_singleton _ _
   ·exact List.Pairwise.nil
 |x::t,hs=>by
  have hc:=List.pairwise_cons.1 hs;unfold jz;split
  ·rename_i hx
   split
   ·exact hc.2
   ·exact List.pairwise_cons.2 ⟨fun y hy=>by rw [show m.lv.ag=m.ag from rfl,←hx];exact hc.1 y hy,hc.2⟩
  ·rename_i hx
   split
   ·rename_i hb
    split
    ·refine List.pairwise_cons.2 ⟨fun y hy=>?_,hs⟩
     rcases List.mem_cons.1 hy with rfl|hy
     ·exact hb
     ·exact Ek hb (hc.1 y hy)
    ·exact hs
   ·rename_i hb
    refine List.pairwise_cons.2 ⟨fun y hy=>?_,NA hc.2⟩;rcases ZO hy with h|h
    ·rw [h,SZ m.side x.ag m.ag hx];simpa using hb
    ·exact hc.1 y h
theorem ZP {m:aB}:∀{l:List ax},(jz m l).length≤l.length+1
 | []=>by unfold jz;split<;>simp
 |x::t=>by
  have:=ZP (m:=m) (l:=t);unfold jz;split
  ·split<;>simp<;>omega
  ·split
   ·split<;>simp
   ·simp;omega
def aV.app (m:aB) (x:aV):aV:=
 if m.imp=true then(if 0<m.ah then⟨x.lv,m.lv,true⟩else⟨x.lv,oP,false⟩)else⟨jz m x.lv,x.im,x.has⟩
def tu (m:aB) (p:aV×aV):aV×aV:=if m.side=1 then(p.1.app m,p.2)else(p.1,p.2.app m)
def fO (m:aB) (V:bP):bP:=V.modify m.inst.toNat (tu m)
def x8 (n:Nat) (m:aB):Bool:=decide (0≤m.inst∧m.inst<n∧(m.side=1∨m.side=2)∧0≤m.ah∧0≤m.count∧(m.ah=0↔m.count=0))
structure yP (n:Nat) (m:aB):Prop where
 i0:0≤m.inst
 i1:m.inst<n
 sd:m.side=1∨m.side=2
 q0:0≤m.ah
 c0:0≤m.count
 MM:m.ah=0↔m.count=0
theorem Gq {n:Nat} {m:aB}:x8 n m=true↔yP n m:=by
 unfold x8;rw [decide_eq_true_eq];exact⟨fun h=>⟨h.1,h.2.1,h.2.2.1,h.2.2.2.1,h.2.2.2.2.1,h.2.2.2.2.2⟩,fun h=>⟨h.i0,h.i1,h.sd,h.q0,h.c0,h.MM⟩⟩
def yO (V:bP):Prop:=∀p∈V,kp 1 p.1.lv∧kp 2 p.2.lv
def g7 (V:bP) (k:Nat):Prop:=∀p∈V,p.1.lv.length≤k∧p.2.lv.length≤k
theorem g7.more {V:bP} {k j:Nat} (h:g7 V k) (hk:k≤j):g7 V j:=fun p hp=>⟨Nat.le_trans (h p hp).1 hk,Nat.le_trans (h p hp).2 hk⟩
theorem A2 (m:aB) (V:bP):(fO m V).length=V.length:=by unfold fO;rw [List.length_modify]
theorem mem_modify {α:Type} {f:α→α} {l:List α} {i:Nat} {y:α} (h:y∈l.modify i f):y∈l∨∃x∈l,y=f x:=by
 rw [List.mem_iff_getElem?]at h;obtain⟨j,hj⟩:=h;rw [List.getElem?_modify]at hj;cases hl:l[j]? with
 |none=>rw [hl]at hj;simp at hj
 |some x=>
  rw [hl]at hj;simp only [Option.map_eq_map,Option.map_some,Option.some.injEq]at hj;have hx:x∈l:=List.mem_iff_getElem?.2 ⟨j,hl⟩;split at hj
  ·exact .inr ⟨x,hx,hj.symm⟩
  ·exact .inl (by rw [←hj];exact hx)
theorem aV.ZQ {m:aB} {x:aV} (h:kp m.side x.lv):kp m.side (x.app m).lv:=by
 unfold aV.app;split
 ·split<;>exact h
 ·exact NA h
theorem aV.ZR {m:aB} {x:aV} {k:Nat} (h:x.lv.length≤k):(x.app m).lv.length≤k+1:=by
 unfold aV.app;split
 ·split<;>exact Nat.le_succ_of_le h
 ·exact Nat.le_trans ZP (by omega)
theorem Lb {m:aB} {V:bP} (hm:m.side=1∨m.side=2) (h:yO V):yO (fO m V):=by
 intro p hp;rcases mem_modify hp with hp|⟨x,hx,rfl⟩
 ·exact h p hp
 ·have h1:=h x hx
  unfold tu;rcases hm with hm|hm
  ·rw [if_pos hm];exact⟨hm▸aV.ZQ (hm.symm▸h1.1),h1.2⟩
  ·rw [if_neg (by omega)];exact⟨h1.1,hm▸aV.ZQ (hm.symm▸h1.2)⟩
theorem Fb {m:aB} {V:bP} {k:Nat} (h:g7 V k):g7 (fO m V) (k+1):=by
 intro p hp;rcases mem_modify hp with hp|⟨x,hx,rfl⟩
 ·exact h.more (Nat.le_succ k) p hp
 ·have h1:=h x hx
  unfold tu;split
  ·exact⟨aV.ZR h1.1,Nat.le_succ_of_le h1.2⟩
  ·exact⟨Nat.le_succ_of_le h1.1,aV.ZR h1.2⟩
end Go.Proofs.YtmaijkoopjocdaaGreat
