import Derived.Test.YtmaijkoopjocdaaGreatKV01
set_option maxRecDepth 100000
set_option maxHeartbeats 64000000
namespace Go.Proofs.YtmaijkoopjocdaaGreat
open Go.RowKit Go.Lib
section
variable {α:Type} {Y:bl α} {w w':World} {B:Nat} {v:Value} {L:List α}
theorem bl.Row.Cd (h:Y.Row w B v L) (hL:L≠ []):∃g cap cur,v= .slice (some ⟨g,0,none⟩) L.length cap∧B≤g∧av w g Y.t cur:=by
 rcases h.2 with⟨_,h0⟩|⟨g,cap,cur,hv,hb,hh,_⟩
 ·exact absurd (List.length_eq_zero_iff.1 h0) hL
 ·exact⟨g,cap,cur,hv,hb,hh⟩
theorem bl.Row.aW {g n cap j k:Nat} (h:Y.Row w B (.slice ↑g n cap) L) {e e':α} {u:Value} (hj:L[j]? =some e) (hk:k<Y.m) (he:Y.cells e'=(Y.cells e).set k u):Y.Row (w.setCell ⟨g,j*Y.m+k,none⟩ u) B (.slice ↑g n cap) (L.set j e'):=by
 have hjl:=dM hj;obtain⟨_,Se⟩:=lB hj;have CW:=agm Y.cells Y.m Y.len u e' L j k hjl hk (by rw [Se];exact he);obtain⟨h1,h2⟩:=h;rcases h2 with⟨hv,_⟩|⟨g',cap',cur,hv,hb,hh,r1,r2,fG,gS⟩
 ·injection hv with hv;cases hv
 ·injection hv with hv hn hc
  injection hv with hv;injection hv with hv;subst hv;subst hn;subst hc;have hb2:av w g Y.t cur:=hh;refine⟨by rw [←CW,List.length_set,List.length_set];exact h1,.inr ⟨g,cap,cur.setIfInBounds (j*Y.m+k) u,by rw [List.length_set],hb,hb2.aW _ u,by rw [List.length_set];exact r1,r2,by rw [Array.size_setIfInBounds];exact fG,?_⟩⟩;rw [Array.toList_setIfInBounds,List.take_set,List.length_set,gS,CW]
theorem bl.Row.rd_some {g n cap:Nat} (h:Y.Row w B (.slice ↑g n cap) L):Y.fR w ↑g L:=by
 obtain⟨a,c,hv,_,hr⟩:=h.rd;injection hv with hv;rw [hv];exact hr
theorem bl.Row.front {g n cap:Nat} (h:Y.Row w B (.slice ↑g n cap) L) {k:Nat} (hk:k≤L.length):Y.Row w B (.slice ↑g k cap) (L.take k):=by
 obtain⟨h1,h2⟩:=h;rcases h2 with⟨hv,_⟩|⟨g',cap',cur,hv,hb,hh,r1,r2,fG,gS⟩
 ·injection hv with hv;cases hv
 ·injection hv with hv hn hc
  injection hv with hv;injection hv with hv;subst hv;subst hn;subst hc;have hl:(L.take k).length=k:=by rw [List.length_take];omega
  have hf:(L.take k).flatMap Y.cells=(L.flatMap Y.cells).take (k*Y.m):=by
   have e1:L.flatMap Y.cells=(L.take k).flatMap Y.cells++(L.drop k).flatMap Y.cells:=by rw [←List.flatMap_append,List.take_append_drop]
   have e2:((L.take k).flatMap Y.cells).length=k*Y.m:=by rw [mK Y.cells Y.m Y.len,hl]
   rw [e1,List.take_left' e2]
  refine⟨by rw [hf,List.length_take,hl,h1];exact Nat.min_eq_left (Nat.mul_le_mul_right _ hk),.inr ⟨g,cap,cur,by rw [hl],hb,hh,by rw [hl];omega,r2,fG,?_⟩⟩;rw [hl,hf,←gS,List.take_take,Nat.min_eq_left (Nat.mul_le_mul_right _ hk)]
end
theorem av.below {w w':World} {g:Nat} {t:TypeId} {cs:Array Value} (h:av w g t cs) (hb:Below w.heap.size w w'):av w' g t cs:=h.keeps (Below.keeps (F:=fun _=>False) hb) (fun x=>x)
theorem ct (w:World) (pr i:Nat) (u:Value):aK (fun g=>g=pr) w (w.setCell ⟨pr,i,none⟩ u):=(aK.refl (fun g=>g=pr) w).setCell (p:=⟨pr,i,none⟩) (fun _=>rfl) u
theorem av.vP {w:World} {g:Nat} {t:TypeId} {x0 x1 aZ:Value} (h:av w g t #[x0,x1,aZ]) (v0 v1 v2:Value):av (((w.setCell ↑g v0).setCell ⟨g,1,none⟩ v1).setCell ⟨g,2,none⟩ v2) g t #[v0,v1,v2]:=by
 have h1:=(((h.aW 0 v0).aW 1 v1).aW 2 v2);simp only [List.setIfInBounds_toArray,List.set_cons_zero,List.set_cons_succ]at h1;exact h1
theorem aK.vP (w:World) (g:Nat) (v0 v1 v2:Value):aK (fun k=>k=g) w (((w.setCell ↑g v0).setCell ⟨g,1,none⟩ v1).setCell ⟨g,2,none⟩ v2):=
 ((((aK.refl (fun k=>k=g) w).setCell (p:=⟨g,0,none⟩) (fun _=>rfl) v0).setCell (p:=⟨g,1,none⟩) (fun _=>rfl) v1).setCell (p:=⟨g,2,none⟩) (fun _=>rfl) v2)
theorem av.qc {w:World} {g:Nat} {t:TypeId} {x0 x1 aZ cl cw:Value} (h:av w g t #[x0,x1,aZ,cl,cw]) (v0 v1 v2 v3 v4:Value):av (((((w.setCell ↑g v0).setCell ⟨g,1,none⟩ v1).setCell ⟨g,2,none⟩ v2).setCell ⟨g,3,none⟩ v3).setCell ⟨g,4,none⟩ v4) g t #[v0,v1,v2,v3,v4]:=by
 have h1:=(((((h.aW 0 v0).aW 1 v1).aW 2 v2).aW 3 v3).aW 4 v4);simp only [List.setIfInBounds_toArray,List.set_cons_zero,List.set_cons_succ]at h1;exact h1
theorem aK.qc (w:World) (g:Nat) (v0 v1 v2 v3 v4:Value):aK (fun k=>k=g) w (((((w.setCell ↑g v0).setCell ⟨g,1,none⟩ v1).setCell ⟨g,2,none⟩ v2).setCell ⟨g,3,none⟩ v3).setCell ⟨g,4,none⟩ v4):=
 ((((((aK.refl (fun k=>k=g) w).setCell (p:=⟨g,0,none⟩) (fun _=>rfl) v0).setCell (p:=⟨g,1,none⟩) (fun _=>rfl) v1).setCell (p:=⟨g,2,none⟩) (fun _=>rfl) v2).setCell (p:=⟨g,3,none⟩) (fun _=>rfl) v3).setCell (p:=⟨g,4,none⟩) (fun _=>rfl) v4)
theorem av.xZ {w:World} {g:Nat} {t:TypeId} {x0 x1 aZ cl cw eK gF:Value} (h:av w g t #[x0,x1,aZ,cl,cw,eK,gF]) (v0 v1 v2 v3 v4 v5 v6:Value):av (((((((w.setCell ↑g v0).setCell ⟨g,1,none⟩ v1).setCell ⟨g,2,none⟩ v2).setCell ⟨g,3,none⟩ v3).setCell ⟨g,4,none⟩ v4).setCell ⟨g,5,none⟩ v5).setCell ⟨g,6,none⟩ v6) g t #[v0,v1,v2,v3,v4,v5,v6]:=by
 have h1:=(((((((h.aW 0 v0).aW 1 v1).aW 2 v2).aW 3 v3).aW 4 v4).aW 5 v5).aW 6 v6);simp only [List.setIfInBounds_toArray,List.set_cons_zero,List.set_cons_succ]at h1;exact h1
theorem aK.xZ (w:World) (g:Nat) (v0 v1 v2 v3 v4 v5 v6:Value):aK (fun k=>k=g) w (((((((w.setCell ↑g v0).setCell ⟨g,1,none⟩ v1).setCell ⟨g,2,none⟩ v2).setCell ⟨g,3,none⟩ v3).setCell ⟨g,4,none⟩ v4).setCell ⟨g,5,none⟩ v5).setCell ⟨g,6,none⟩ v6):=
 ((((((((aK.refl (fun k=>k=g) w).setCell (p:=⟨g,0,none⟩) (fun _=>rfl) v0).setCell (p:=⟨g,1,none⟩) (fun _=>rfl) v1).setCell (p:=⟨g,2,none⟩) (fun _=>rfl) v2).setCell (p:=⟨g,3,none⟩) (fun _=>rfl) v3).setCell (p:=⟨g,4,none⟩) (fun _=>rfl) v4).setCell (p:=⟨g,5,none⟩) (fun _=>rfl) v5).setCell (p:=⟨g,6,none⟩) (fun _=>rfl) v6)
def DS (x:Int):List Value:= [.int .u8 x]
theorem alE (x:Int):∀u∈DS x,u.oneCell'=true:=by
 intro u hu;simp only [DS,List.mem_singleton]at hu;rw [hu];rfl
def cZ:bl Int:=⟨DS,1,fun _=>rfl,alE,by omega,5,37,.int .u8 0,1,Tryz.underlying37,by kernel_rfl,by rfl,by omega⟩
def aB.cells (x:aB):List Value:= [.int .i64 x.ap,.int .i64 x.aq,.int .i64 x.count]
def aF.cells (x:aF):List Value:= [.int .i64 x.seq,.int .i64 x.inst,.int .i64 x.side,.int .i64 x.ap,.int .i64 x.aq,.int .i64 x.count,.bool x.imp]
def DU:aF:=⟨0,0,0,0,0,0,false⟩
theorem aB.kI (x:aB):∀u∈x.cells,u.oneCell'=true:=by
 intro u hu;simp only [aB.cells,List.mem_cons,List.not_mem_nil,or_false]at hu;rcases hu with rfl|rfl|rfl<;>rfl
theorem aF.kI (x:aF):∀u∈x.cells,u.oneCell'=true:=by
 intro u hu;simp only [aF.cells,List.mem_cons,List.not_mem_nil,or_false]at hu;rcases hu with rfl|rfl|rfl|rfl|rfl|rfl|rfl<;>rfl
def bS:bl aB:=⟨aB.cells,3,fun _=>rfl,aB.kI,by omega,47,45,.agg jD.cells.toArray,24,Tryz.underlying45,by kernel_rfl,by rfl,by omega⟩
def bK:bl aB:=⟨aB.cells,3,fun _=>rfl,aB.kI,by omega,101,100,.agg jD.cells.toArray,24,Tryz.underlying100,by kernel_rfl,by rfl,by omega⟩
def hH:bl aF:=⟨aF.cells,7,fun _=>rfl,aF.kI,by omega,86,82,.agg DU.cells.toArray,56,Tryz.underlying82,by kernel_rfl,by rfl,by omega⟩
structure eO where
 a:Option Addr
 n:Nat
 c:Nat
 im:aB
 has:Bool
structure bB where
 s:eO
 t:eO
def eO.cells (x:eO):List Value:= [.slice x.a x.n x.c,.int .i64 x.im.ap,.int .i64 x.im.aq,.int .i64 x.im.count,.bool x.has]
def bB.cells (p:bB):List Value:= [.slice p.s.a p.s.n p.s.c,.int .i64 p.s.im.ap,.int .i64 p.s.im.aq,.int .i64 p.s.im.count,.bool p.s.has,.slice p.t.a p.t.n p.t.c,.int .i64 p.t.im.ap,.int .i64 p.t.im.aq,.int .i64 p.t.im.count,.bool p.t.has]
def mR:eO:=⟨none,0,0,jD,false⟩
def ke:bB:=⟨mR,mR⟩
theorem eO.kI (x:eO):∀u∈x.cells,u.oneCell'=true:=by
 intro u hu;simp only [eO.cells,List.mem_cons,List.not_mem_nil,or_false]at hu;rcases hu with rfl|rfl|rfl|rfl|rfl<;>rfl
theorem bB.kI (x:bB):∀u∈x.cells,u.oneCell'=true:=by
 intro u hu;simp only [bB.cells,List.mem_cons,List.not_mem_nil,or_false]at hu;rcases hu with rfl|rfl|rfl|rfl|rfl|rfl|rfl|rfl|rfl|rfl<;>rfl
def ey:bl bB:=⟨bB.cells,10,fun _=>rfl,bB.kI,by omega,50,41,.agg ke.cells.toArray,112,Tryz.underlying41,by kernel_rfl,by rfl,by omega⟩
def eJ:bl bB:=⟨bB.cells,10,fun _=>rfl,bB.kI,by omega,104,52,.agg ke.cells.toArray,112,Tryz.underlying52,by kernel_rfl,by rfl,by omega⟩
structure bV (Y:bl aB) (w:World) (B:Nat) (s:eO) (d:aX):Prop where
 n:s.n=d.lv.length
 row:Y.Row w B (.slice s.a s.n s.c) d.lv
 im:s.im=d.im
 has:s.has=d.has
def cg (Z:bl bB) (Y:bl aB) (w:World) (B:Nat) (v:Value) (V:bG):Prop:=
 ∃P:List bB,Z.Row w B v P∧P.length=V.length∧∀(j:Nat) (p:bB) (x:aX×aX),P[j]? =some p→V[j]? =some x→bV Y w B p.s x.1∧bV Y w B p.t x.2
section
variable {α:Type} {X:bl α} {Z:bl bB} {Y:bl aB} {w w':World} {B B':Nat} {v:Value} {V:bG} {s:eO} {d:aX} {F:Nat→Prop} {L:List α}
theorem bl.Row.base (h:X.Row w B v L) (hB:B'≤B):X.Row w B' v L:=by
 obtain⟨h1,h2⟩:=h;refine⟨h1,?_⟩;rcases h2 with h2|⟨g,cap,cur,hv,hb,r⟩
 ·exact .inl h2
 ·exact .inr ⟨g,cap,cur,hv,Nat.le_trans hB hb,r⟩
theorem bl.Row.keep (h:X.Row w B v L) (hk:aK F w w') (hf:∀g,ck w g X.t→¬F g):X.Row w' B v L:=zv h hk fun g hg=>hf g (eo h g hg)
theorem bl.Row.Bd (h:X.Row w B v L) (hk:aK F w w') (hf:∀g,v.ownBlock=some g→¬F g):X.Row w' B v L:=zv h hk hf
theorem bV.below (h:bV Y w B s d) (hb:Below w.heap.size w w'):bV Y w' B s d:=⟨h.n,h.row.below hb,h.im,h.has⟩
theorem bV.base (h:bV Y w B s d) (hB:B'≤B):bV Y w B' s d:=⟨h.n,h.row.base hB,h.im,h.has⟩
theorem bV.keep (h:bV Y w B s d) (hk:aK F w w') (hf:∀g,ck w g Y.t→¬F g):bV Y w' B s d:=⟨h.n,h.row.keep hk hf,h.im,h.has⟩
theorem bV.zero (w:World) (B:Nat):bV Y w B mR vI:=⟨rfl,bl.Row.nil w B,rfl,rfl⟩
theorem cg.below (h:cg Z Y w B v V) (hb:Below w.heap.size w w'):cg Z Y w' B v V:=by
 obtain⟨P,h1,h2,h3⟩:=h;exact⟨P,h1.below hb,h2,fun j p x hp hx=>⟨(h3 j p x hp hx).1.below hb,(h3 j p x hp hx).2.below hb⟩⟩
theorem cg.base (h:cg Z Y w B v V) (hB:B'≤B):cg Z Y w B' v V:=by
 obtain⟨P,h1,h2,h3⟩:=h;exact⟨P,h1.base hB,h2,fun j p x hp hx=>⟨(h3 j p x hp hx).1.base hB,(h3 j p x hp hx).2.base hB⟩⟩
theorem cg.keep (h:cg Z Y w B v V) (hk:aK F w w') (hz:∀g,ck w g Z.t→¬F g) (hy:∀g,ck w g Y.t→¬F g):cg Z Y w' B v V:=by
 obtain⟨P,h1,h2,h3⟩:=h;exact⟨P,h1.keep hk hz,h2,fun j p x hp hx=>⟨(h3 j p x hp hx).1.keep hk hy,(h3 j p x hp hx).2.keep hk hy⟩⟩
theorem cg.form (h:cg Z Y w B v V):∃a c,v= .slice a V.length c:=by
 obtain⟨P,h1,h2,_⟩:=h;obtain⟨a,c,e⟩:=h1.form;exact⟨a,c,by rw [e,h2]⟩
theorem cg.nil (w:World) (B:Nat):cg Z Y w B (.slice none 0 0) []:=⟨[],bl.Row.nil w B,rfl,fun j p x hp=>by simp at hp⟩
theorem cg.get (h:cg Z Y w B v V) {j:Nat} {x:aX×aX} (hj:V[j]? =some x):∃(g cap:Nat) (p:bB),v= .slice ↑g V.length cap∧g<w.heap.size∧iI w g (j*Z.m) (Z.cells p)∧bV Y w B p.s x.1∧bV Y w B p.t x.2:=by
 obtain⟨P,h1,h2,h3⟩:=h;have hl:=dM hj;have hp:P[j]? =some (P[j]'(by omega)):=List.getElem?_eq_getElem (by omega);obtain⟨g,cap,e1,e2,bJ⟩:=h1.at_ j _ hp;obtain⟨a,b⟩:=h3 j _ x hp hj;exact⟨g,cap,_,by rw [e1,h2],e2,bJ,a,b⟩
theorem iI.one {b o:Nat} {x:Int} (h:iI w b o (DS x)):w.cell? ⟨b,o,none⟩=some (.int .u8 x):=h 0 _ rfl
end
end Go.Proofs.YtmaijkoopjocdaaGreat
namespace Go.Proofs.YtmaijkoopjocdaaGreat
section
variable {P:Program} {ops:Array Oper} {Q:Exit→Act→World→Prop} {md:Region.Mode} {S:World→Prop}
def iX (P:Program) (md:Region.Mode) (ops:Array Oper) (Q:Exit→Act→World→Prop) (S:World→Prop):Nat→Array Bool→Act→World→Prop
 |0,L,a,w=>Region.ready md ops L= []∧Q .normal a w
 |f+1,L,a,w=>(Region.ready md ops L= []→Q .normal a w)∧∀i∈Region.ready md ops L,wpOp P ops Q i (fun b u=>((∃k,(L.setIfInBounds i true).getD k true=false)→S u)∧iX P md ops Q S f (L.setIfInBounds i true) b u) a w
theorem Xw:∀(f:Nat) (L:Array Bool) (a:Act) (w:World),iX P md ops Q S f L a w→wpAny P md ops Q f L a w
 |0,_,_,_,h=>h
 |f+1,_,_,_,h=>⟨h.1,fun i hi=>wpOp_mono (fun b u hb=>Xw f _ b u hb.2) (h.2 i hi)⟩
def Nr (md:Region.Mode) (ops:Array Oper) (L:Array Bool) (i:Nat):Bool:=(List.range ops.size).any fun k=>decide (k≠i)&& !L.getD k true&&Region.waitsFor md ops k i
theorem afN {i k:Nat} {oi:Oper} {v:Value} (hi:ops[i]? =some oi) (hsel:∀(j:Nat) (o:Oper) cs b,ops[j]? =some o→o.op≠ .select cs b)
 (hQ:∀c a w,Q (.panic c) (a.put oi.dst v) w→Q (.panic c) a w) (hki:k≠i) (afO:Region.waitsFor md ops k i=true):
 ∀(f:Nat) (L:Array Bool) (a:Act) (w:World),L.getD k true=false→
  (∀j oj,ops[j]? =some oj→j≠i→L.getD j true=false→(∀e∈oj.after,Region.binds md e=true→e.on≠i)→oi.apart ops oj=true)→
  i∈Region.ready md ops L→YieldsIf P ops S oi v a→S w→iX P md ops Q S f (L.setIfInBounds i true) (a.put oi.dst v) w→iX P md ops Q S (f+1) L a w:=by
 intro f
 induction f with
 |zero=>
  intro L a w _ _ hr hy hS H;refine⟨fun h0=>absurd hr (by rw [h0];simp),fun j hj=>?_⟩;by_cases hji:j=i
  ·subst hji
   exact hy.wpOp hi hS ⟨fun _=>hS,H⟩
  ·have h0:=ready_mono hj hji
   rw [H.1]at h0;cases h0
 |succ f ih=>
  intro L a w hk hfree hr hy hS H;refine⟨fun h0=>absurd hr (by rw [h0];simp),fun j hj=>?_⟩;by_cases hji:j=i
  ·subst hji
   exact hy.wpOp hi hS ⟨fun _=>hS,H⟩
  ·have afP:=(mem_ready.1 hr).1
   obtain⟨Xx,oj,w6,hall⟩:=mem_ready.1 hj
   have hno:∀e∈oj.after,Region.binds md e=true→e.on≠i:=fun e he hb heq=>by
    have h1:=hall e he hb;rw [heq,getD_both afP]at h1;cases h1
   have pX:j≠k:=by
    rintro rfl;obtain⟨o',ho',e,he,hb,hon⟩:=Region.waitsFor_spec afO;rw [w6]at ho';injection ho' with ho';subst ho';exact hno e he hb hon
   have h2:=wpOp_putIf w6 (hfree j oj w6 hji Xx hno) (fun cs b=>hsel i oi cs b hi) (fun cs b=>hsel j oj cs b w6) hQ hy (H.2 j (ready_mono hj hji));refine wpOp_mono (fun b u hb=>?_) h2;have afQ:(L.setIfInBounds j true).getD k true=false:=by rw [getD_set_ne true pX];exact hk
   have Xy:S u:=hb.2.1 ⟨k,by rw [getD_set_ne true pX,getD_set_ne true (Ne.symm hki)];exact hk⟩
   refine⟨fun _=>Xy,ih (L.setIfInBounds j true) b u afQ (fun k' ok hk' afR hun afS=>hfree k' ok hk' afR (by
    by_cases hx:j=k'
    ·subst hx;exact Xx
    ·rw [getD_set_ne true hx]at hun;exact hun) afS) (ready_mono hr (Ne.symm hji)) hb.1 Xy ?_⟩
   rw [Array.setIfInBounds_comm _ _ hji];exact hb.2.2
theorem afT {i:Nat} {oi:Oper} {v:Value} {f:Nat} {L:Array Bool} {a:Act} {w:World} (hi:ops[i]? =some oi) (hs:Region.noSelect ops=true) (hf:Region.free md ops L i=true)
 (hr:(Region.ready md ops L).contains i=true) (ha:Nr md ops L i=true) (hQ:∀c a w,Q (.panic c) (a.put oi.dst v) w→Q (.panic c) a w) (hy:YieldsIf P ops S oi v a) (hS:S w)
 (h:iX P md ops Q S f (L.setIfInBounds i true) (a.put oi.dst v) w):iX P md ops Q S (f+1) L a w:=by
 obtain⟨k,_,hk⟩:=List.any_eq_true.1 ha;simp only [Bool.and_eq_true,decide_eq_true_eq,Bool.not_eq_true']at hk;exact afN hi (Region.noSelect_spec hs) hQ hk.1.1 hk.2 f L a w hk.1.2 (Region.free_spec hi hf) (by simpa using hr) hy hS h
theorem Xz (i:Nat) {oi:Oper} {v:Value} {f:Nat} {L:Array Bool} {a:Act} {w:World} (hi:ops[i]? =some oi) (hc:(Region.noSelect ops&&Region.free md ops L i&&(Region.ready md ops L).contains i&&Nr md ops L i)=true)
 (hQ:∀c a w,Q (.panic c) (a.put oi.dst v) w→Q (.panic c) a w) (hy:YieldsIf P ops S oi v a) (hS:S w)
 (h:iX P md ops Q S f (L.setIfInBounds i true) (a.put oi.dst v) w):iX P md ops Q S (f+1) L a w:=by
 simp only [Bool.and_eq_true]at hc;exact afT hi hc.1.1.1 hc.1.1.2 hc.1.2 hc.2 hQ hy hS h
theorem QJ {α:Type _} {l:List α} {i:Nat} {a:α}:l.toArray.setIfInBounds i a=(l.set i a).toArray:=by simp only [List.setIfInBounds_toArray]
theorem QK {α:Type _} {x a:α} {l:List α}:(x::l).set 0 a=a::l:=rfl
theorem QL {α:Type _} {x a:α} {l:List α} {i:Nat}:(x::l).set (i+1) a=x::l.set i a:=rfl
theorem afU {i:Nat} {o:Oper} {f:Nat} {L:Array Bool} {a:Act} {w:World} (ho:ops[i]? =some o) (hr:Region.ready md ops L= [i])
 (h:∀K':Act→World→Prop,Shut (∀a w,S w→(S w→iX P md ops Q S f (L.setIfInBounds i true) a w)→K' a w)→if Region.wanted o (yielded ops a.tmps)=true then Oper.wp P o a w K' Q else K' (a.put o.dst undef) w):iX P md ops Q S (f+1) L a w:=by
 refine⟨fun h0=>(by rw [hr]at h0;cases h0),fun j hj=>?_⟩;rw [hr]at hj;obtain rfl:j=i:=by simpa using hj
 exact wpOp_step ho fun K' hK=>h K' fun b u hS hW=>hK b u ⟨fun _=>hS,hW hS⟩
theorem afV {i:Nat} {o:Oper} {f:Nat} {L:Array Bool} {a:Act} {w:World} (ho:ops[i]? =some o) (hr:Region.ready md ops L= [i]) (hall:(L.setIfInBounds i true).all (fun b=>b)=true) (hz:Region.ready md ops (L.setIfInBounds i true)= [])
 (h:∀K':Act→World→Prop,Shut (∀a w,Q .normal a w→K' a w)→if Region.wanted o (yielded ops a.tmps)=true then Oper.wp P o a w K' Q else K' (a.put o.dst undef) w):iX P md ops Q S (f+1) L a w:=by
 refine⟨fun h0=>(by rw [hr]at h0;cases h0),fun j hj=>?_⟩;rw [hr]at hj;obtain rfl:j=i:=by simpa using hj
 refine wpOp_step ho fun K' hK=>h K' fun b u hW=>hK b u ⟨?_,?_⟩
 ·rintro⟨k,hk⟩
  rcases Nat.lt_or_ge k (L.setIfInBounds j true).size with hlt|hge
  ·have h1:=Array.all_eq_true.1 hall k hlt
   rw [show(L.setIfInBounds j true).getD k true=(L.setIfInBounds j true)[k]'hlt from by simp only [Array.getD,hlt,dite_true];rfl]at hk;rw [h1]at hk;cases hk
  ·have:(L.setIfInBounds j true).getD k true=true:=by simp only [Array.getD,Nat.not_lt.2 hge,dite_false]
   rw [this]at hk;cases hk
 ·cases f with
  |zero=>exact⟨hz,hW⟩
  |succ f=>exact⟨fun _=>hW,fun i hi=>by rw [hz]at hi;cases hi⟩
theorem au (i:Nat) {oi:Oper} {v:Value} {f n:Nat} {L:Array Bool} {a a':Act} {w:World} (h:iX P md ops Q S f (L.setIfInBounds i true) a' w) (hn:n=f+1:=by rfl) (hi:ops[i]? =some oi:=by simp only [List.getElem?_toArray];rfl) (hc:(Region.noSelect ops&&Region.free md ops L i&&(Region.ready md ops L).contains i&&Nr md ops L i)=true:=by kernel_rfl) (hQ:∀c a w,Q (.panic c) (a.put oi.dst v) w→Q (.panic c) a w:=by exact fun _ _ _ h=>h) (hy:YieldsIf P ops S oi v a:=by exact Or.inl ⟨by rfl,by(intro w hSw;(try dsimp only at hSw);go_simp;try with_reducible rfl)⟩) (hS:S w:=by assumption) (he:a.put oi.dst v=a':=by(try simp only [Act.put,QJ,QK,QL]);rfl):iX P md ops Q S n L a w:=by
 subst hn;exact Xz i hi hc hQ hy hS (he▸h)
theorem c7 (i:Nat) {oi:Oper} {v:Value} {f n:Nat} {L:Array Bool} {a a':Act} {w:World} (h:iX P md ops Q S f (L.setIfInBounds i true) a' w) (hn:n=f+1:=by rfl) (hi:ops[i]? =some oi:=by simp only [List.getElem?_toArray];rfl) (hc:(Region.noSelect ops&&Region.free md ops L i&&(Region.ready md ops L).contains i&&Nr md ops L i)=true:=by kernel_rfl) (hQ:∀c a w,Q (.panic c) (a.put oi.dst v) w→Q (.panic c) a w:=by exact fun _ _ _ h=>h) (hy:YieldsIf P ops S oi v a:=by exact Or.inr ⟨by rfl,by rfl⟩) (hS:S w:=by assumption) (he:a.put oi.dst v=a':=by(try simp only [Act.put,QJ,QK,QL]);rfl):iX P md ops Q S n L a w:=by
 subst hn;exact Xz i hi hc hQ hy hS (he▸h)
theorem ej (i:Nat) {oi:Oper} {v:Value} {f n:Nat} {L:Array Bool} {a a':Act} {w:World} (h:wpAnyH P md ops Q S f (L.setIfInBounds i true) a' w) (hn:n=f+1:=by rfl) (hi:ops[i]? =some oi:=by simp only [List.getElem?_toArray];rfl) (hs:Region.noSelect ops=true:=by kernel_rfl) (hf:Region.free md ops L i=true:=by kernel_rfl) (hr:(Region.ready md ops L).contains i=true:=by kernel_rfl) (hQ:∀c a w,Q (.panic c) (a.put oi.dst v) w→Q (.panic c) a w:=by exact fun _ _ _ h=>h) (hy:YieldsIf P ops S oi v a:=by exact Or.inl ⟨by rfl,by(intro w hSw;(try dsimp only at hSw);go_simp;try with_reducible rfl)⟩) (hS:S w:=by assumption) (he:a.put oi.dst v=a':=by(try simp only [Act.put,QJ,QK,QL]);rfl):wpAnyH P md ops Q S n L a w:=by
 subst hn;exact wpAnyH_take hi hs hf hr hQ hy hS (he▸h)
theorem aU (i:Nat) {o:Oper} {f n:Nat} {L:Array Bool} {a:Act} {w:World} (h:∀K':Act→World→Prop,Shut (∀a w,S w→(S w→iX P md ops Q S f (L.setIfInBounds i true) a w)→K' a w)→if Region.wanted o (yielded ops a.tmps)=true then Oper.wp P o a w K' Q else K' (a.put o.dst undef) w) (hn:n=f+1:=by rfl) (ho:ops[i]? =some o:=by simp only [List.getElem?_toArray];rfl) (hr:Region.ready md ops L= [i]:=by kernel_rfl):iX P md ops Q S n L a w:=by
 subst hn;exact afU ho hr h
theorem dY (i:Nat) {o:Oper} {f n:Nat} {L:Array Bool} {a:Act} {w:World} (h:∀K':Act→World→Prop,Shut (∀a w,Q .normal a w→K' a w)→if Region.wanted o (yielded ops a.tmps)=true then Oper.wp P o a w K' Q else K' (a.put o.dst undef) w) (hn:n=f+1:=by rfl) (ho:ops[i]? =some o:=by simp only [List.getElem?_toArray];rfl) (hr:Region.ready md ops L= [i]:=by kernel_rfl) (hall:(L.setIfInBounds i true).all (fun b=>b)=true:=by kernel_rfl) (hz:Region.ready md ops (L.setIfInBounds i true)= []:=by kernel_rfl):iX P md ops Q S n L a w:=by
 subst hn;exact afV ho hr hall hz h
theorem gu:∀(f:Nat) (L:Array Bool) (a:Act) (w:World),wpAnyH P md ops Q S f L a w→iX P md ops Q S f L a w
 |0,_,_,_,h=>h
 |f+1,_,_,_,h=>⟨h.1,fun i hi=>wpOp_mono (fun b u hb=>⟨fun _=>hb.1,gu f _ b u hb.2⟩) (h.2 i hi)⟩
theorem cG {id:Nat} {a:Act} {w:World} (hm:P.follows .mixedOrders=true) (hS:S w.drew) (h:S w.drew→iX P .any ops Q S ops.size (Array.replicate ops.size false) a w.drew):(Code.region id ops true).wp P Q a w:=
 wp_region_any hm (Xw _ _ _ _ (h hS))
theorem cP {id:Nat} {a:Act} {w:World} (hS:S w.drew) (h:S w.drew→iX P .any ops Q S ops.size (Array.replicate ops.size false) a w.drew) (hm:P.follows .mixedOrders=true:=by kernel_rfl):(Code.region id ops true).wp P Q a w:=cG hm hS h
theorem gw {listed:Array Bool} {a:Act} {w:World} {f:Nat} (h:Q .normal a w) (hr:Region.ready md ops listed= []:=by kernel_rfl):wpAnyH P md ops Q S f listed a w:=wpAnyH_done hr h f
end
section
variable {P:Program} {ops:Array Oper} {Q:Exit→Act→World→Prop} {md:Region.Mode} {S:World→Prop}
theorem ak2 {i j:Nat} {oi oj:Oper} {f:Nat} {L:Array Bool} {a:Act} {w:World} (x4:ops[i]? =some oi) (w6:ops[j]? =some oj) (hr:Region.ready md ops L= [i,j])
 (h1:∀K':Act→World→Prop,Shut (∀a w,S w→(S w→iX P md ops Q S f (L.setIfInBounds i true) a w)→K' a w)→if Region.wanted oi (yielded ops a.tmps)=true then Oper.wp P oi a w K' Q else K' (a.put oi.dst undef) w)
 (h2:∀K':Act→World→Prop,Shut (∀a w,S w→(S w→iX P md ops Q S f (L.setIfInBounds j true) a w)→K' a w)→if Region.wanted oj (yielded ops a.tmps)=true then Oper.wp P oj a w K' Q else K' (a.put oj.dst undef) w):iX P md ops Q S (f+1) L a w:=by
 refine⟨fun h0=>(by rw [hr]at h0;cases h0),fun k hk=>?_⟩;rw [hr]at hk;have hk2:k=i∨k=j:=by simpa using hk
 rcases hk2 with rfl|rfl
 ·exact wpOp_step x4 fun K' hK=>h1 K' fun b u hS hW=>hK b u ⟨fun _=>hS,hW hS⟩
 ·exact wpOp_step w6 fun K' hK=>h2 K' fun b u hS hW=>hK b u ⟨fun _=>hS,hW hS⟩
theorem lZ (i j:Nat) {oi oj:Oper} {f n:Nat} {L:Array Bool} {a:Act} {w:World} (h1:∀K':Act→World→Prop,Shut (∀a w,S w→(S w→iX P md ops Q S f (L.setIfInBounds i true) a w)→K' a w)→if Region.wanted oi (yielded ops a.tmps)=true then Oper.wp P oi a w K' Q else K' (a.put oi.dst undef) w) (h2:∀K':Act→World→Prop,Shut (∀a w,S w→(S w→iX P md ops Q S f (L.setIfInBounds j true) a w)→K' a w)→if Region.wanted oj (yielded ops a.tmps)=true then Oper.wp P oj a w K' Q else K' (a.put oj.dst undef) w) (hn:n=f+1:=by rfl) (x4:ops[i]? =some oi:=by simp only [List.getElem?_toArray];rfl) (w6:ops[j]? =some oj:=by simp only [List.getElem?_toArray];rfl) (hr:Region.ready md ops L= [i,j]:=by kernel_rfl):iX P md ops Q S n L a w:=by
 subst hn;exact ak2 x4 w6 hr h1 h2
end
end Go.Proofs.YtmaijkoopjocdaaGreat
namespace Go.Proofs.YtmaijkoopjocdaaGreat
open Go.RowKit Go.Lib
def DJ (a:Option Addr) (n c:Nat):Prop:=(a=none→n=0∧c=0)∧(∀ad,a=some ad→∃b off,ad=⟨b,off,none⟩)∧n≤c
section
variable {α:Type} {Y:bl α} {w w':World} {B:Nat} {v:Value} {L:List α} {F:Nat→Prop}
def bl.eT (Y:bl α) (w:World) (v:Value) (L:List α):Prop:=∃a c,v= .slice a L.length c∧DJ a L.length c∧Y.fR w a L
theorem bl.Row.sl (h:Y.Row w B v L):Y.eT w v L:=by
 obtain⟨a,c,hv,hac,hrd⟩:=h.rd;refine⟨a,c,hv,⟨fun ha=>?_,fun ad ha=>?_,?_⟩,hrd⟩
 ·refine⟨?_,hac ha⟩
  rcases h.2 with⟨h1,h2⟩|⟨g,cap,cur,h1,_⟩
  ·exact h2
  ·rw [hv,ha]at h1;injection h1 with h1;cases h1
 ·rcases h.2 with⟨h1,h2⟩|⟨g,cap,cur,h1,_⟩
  ·rw [hv,ha]at h1;injection h1 with h1;cases h1
  ·rw [hv,ha]at h1;injection h1 with h1;injection h1 with h1;exact⟨g,0,h1⟩
 ·rcases h.2 with⟨h1,h2⟩|⟨g,cap,cur,h1,_,_,h3,_⟩
  ·omega
  ·rw [hv]at h1;injection h1 with _ _ h1;rw [h1];exact h3
theorem bl.eT.below (h:Y.eT w v L) (hb:Below w.heap.size w w'):Y.eT w' v L:=by
 obtain⟨a,c,h1,h2,h3⟩:=h;exact⟨a,c,h1,h2,h3.below hb⟩
theorem bl.eT.nil:Y.eT w (.slice none 0 0) []:=⟨none,0,rfl,⟨fun _=>⟨rfl,rfl⟩,fun _ h=>(by cases h),Nat.le_refl 0⟩,bl.fR.nil⟩
theorem bl.eT.get {k:Nat} {x:α} (h:Y.eT w v L) (hk:L[k]? =some x):∃b off c,v= .slice (some ⟨b,off,none⟩) L.length c∧b<w.heap.size∧iI w b (off+k*Y.m) (Y.cells x):=by
 obtain⟨a,c,h1,_,h3⟩:=h;obtain⟨b,off,rfl,h4,h5⟩:=h3 k x hk;exact⟨b,off,c,h1,h4,h5⟩
end
theorem T7 {w:World} {v:Value} {L:List Int} (h:cZ.eT w v L) (hl:L.length≤900000):
 Calls Tryz.prog 117 #[v] w fun e w'=>∃v',e= .returned v'∧cZ.Row w' w.heap.size v' L∧Below w.heap.size w w':=by
 obtain⟨a,c,rfl,ho,hrd⟩:=h;cases a with
 |none=>
  obtain⟨h0,rfl⟩:=ho.1 rfl;obtain rfl:L= []:=List.length_eq_zero_iff.1 h0;have DK:∀(w:World) (a:Option Addr) (n c:Nat),(binOp .eql 37 (.slice a n c) (.slice none 0 0)).run Tryz.prog w= .ok (.bool a.isNone) w:=fun w a n c=>Lib.run_eql_slice_nil w _ _ a n c 0 0 Tryz.underlying37;go_enter Tryz.func117,Tryz.ntmps117
  go_wp2_with fail
  go_ret;exact⟨_,rfl,bl.Row.nil _ _,Below.refl _ _⟩
 |some ad=>
  obtain⟨b,off,rfl⟩:=ho.2.1 _ rfl;have H0:=af (bl.Row.empty (Y:=cZ) w);have aG:=af (Below.aI w (.cells #[] 5));have bM:=af (hrd.below aG.out);have c6:=af hl;clear hrd ho hl;have DK:∀(w:World) (a:Option Addr) (n c:Nat),(binOp .eql 37 (.slice a n c) (.slice none 0 0)).run Tryz.prog w= .ok (.bool a.isNone) w:=fun w a n c=>Lib.run_eql_slice_nil w _ _ a n c 0 0 Tryz.underlying37;go_enter Tryz.func117,Tryz.ntmps117
  go_wp2_with (first
   |(at_builtin;go_loud (refine cZ.wV rfl (.tmp 5) (.tmp 6) rfl w.heap.size (.slice (some ⟨w.heap.size,0,none⟩) 0 0) [] rfl H0.out (some ⟨b,off,none⟩) c L rfl (fun h=>by cases h) bM.out (fun ad h=>by injection h with h;exact⟨b,off,h.symm⟩) (by have:=c6.out;simp;omega) aG.out.size ?_)))
  intro v' aN bX cQ eG;have cL:=af bX;have b7:=af (iJ cQ aG.out (cS H0.out));clear bX cQ eG;go_wp2_with fail
  go_ret;exact⟨_,rfl,cL.out,b7.out⟩
theorem acU {w:World} {v:Value} {L:List aB} (h:bS.eT w v L) (hl:L.length≤900000):
 Calls Tryz.prog 88 #[v] w fun e w'=>∃v',e= .returned v'∧bS.Row w' w.heap.size v' L∧Below w.heap.size w w':=by
 obtain⟨a,c,rfl,ho,hrd⟩:=h;cases a with
 |none=>
  obtain⟨h0,rfl⟩:=ho.1 rfl;obtain rfl:L= []:=List.length_eq_zero_iff.1 h0;have DK:∀(w:World) (a:Option Addr) (n c:Nat),(binOp .eql 45 (.slice a n c) (.slice none 0 0)).run Tryz.prog w= .ok (.bool a.isNone) w:=fun w a n c=>Lib.run_eql_slice_nil w _ _ a n c 0 0 Tryz.underlying45;go_enter Tryz.func88,Tryz.ntmps88
  go_wp2_with fail
  go_ret;exact⟨_,rfl,bl.Row.nil _ _,Below.refl _ _⟩
 |some ad=>
  obtain⟨b,off,rfl⟩:=ho.2.1 _ rfl;have H0:=af (bl.Row.empty (Y:=bS) w);have aG:=af (Below.aI w (.cells #[] 47));have bM:=af (hrd.below aG.out);have c6:=af hl;clear hrd ho hl;have DK:∀(w:World) (a:Option Addr) (n c:Nat),(binOp .eql 45 (.slice a n c) (.slice none 0 0)).run Tryz.prog w= .ok (.bool a.isNone) w:=fun w a n c=>Lib.run_eql_slice_nil w _ _ a n c 0 0 Tryz.underlying45;go_enter Tryz.func88,Tryz.ntmps88
  go_wp2_with (first
   |(at_builtin;go_loud (refine bS.wV rfl (.tmp 5) (.tmp 6) rfl w.heap.size (.slice (some ⟨w.heap.size,0,none⟩) 0 0) [] rfl H0.out (some ⟨b,off,none⟩) c L rfl (fun h=>by cases h) bM.out (fun ad h=>by injection h with h;exact⟨b,off,h.symm⟩) (by have:=c6.out;simp;omega) aG.out.size ?_)))
  intro v' aN bX cQ eG;have cL:=af bX;have b7:=af (iJ cQ aG.out (cS H0.out));clear bX cQ eG;go_wp2_with fail
  go_ret;exact⟨_,rfl,cL.out,b7.out⟩
theorem acV {w:World} {v:Value} {L:List bB} (h:ey.eT w v L) (hl:L.length≤900000):
 Calls Tryz.prog 87 #[v] w fun e w'=>∃v',e= .returned v'∧ey.Row w' w.heap.size v' L∧Below w.heap.size w w':=by
 obtain⟨a,c,rfl,ho,hrd⟩:=h;cases a with
 |none=>
  obtain⟨h0,rfl⟩:=ho.1 rfl;obtain rfl:L= []:=List.length_eq_zero_iff.1 h0;have DK:∀(w:World) (a:Option Addr) (n c:Nat),(binOp .eql 41 (.slice a n c) (.slice none 0 0)).run Tryz.prog w= .ok (.bool a.isNone) w:=fun w a n c=>Lib.run_eql_slice_nil w _ _ a n c 0 0 Tryz.underlying41;go_enter Tryz.func87,Tryz.ntmps87
  go_wp2_with fail
  go_ret;exact⟨_,rfl,bl.Row.nil _ _,Below.refl _ _⟩
 |some ad=>
  obtain⟨b,off,rfl⟩:=ho.2.1 _ rfl;have H0:=af (bl.Row.empty (Y:=ey) w);have aG:=af (Below.aI w (.cells #[] 50));have bM:=af (hrd.below aG.out);have c6:=af hl;clear hrd ho hl;have DK:∀(w:World) (a:Option Addr) (n c:Nat),(binOp .eql 41 (.slice a n c) (.slice none 0 0)).run Tryz.prog w= .ok (.bool a.isNone) w:=fun w a n c=>Lib.run_eql_slice_nil w _ _ a n c 0 0 Tryz.underlying41;go_enter Tryz.func87,Tryz.ntmps87
  go_wp2_with (first
   |(at_builtin;go_loud (refine ey.wV rfl (.tmp 5) (.tmp 6) rfl w.heap.size (.slice (some ⟨w.heap.size,0,none⟩) 0 0) [] rfl H0.out (some ⟨b,off,none⟩) c L rfl (fun h=>by cases h) bM.out (fun ad h=>by injection h with h;exact⟨b,off,h.symm⟩) (by have:=c6.out;simp;omega) aG.out.size ?_)))
  intro v' aN bX cQ eG;have cL:=af bX;have b7:=af (iJ cQ aG.out (cS H0.out));clear bX cQ eG;go_wp2_with fail
  go_ret;exact⟨_,rfl,cL.out,b7.out⟩
theorem T8 {w:World} {v:Value} {L:List aF} (h:hH.eT w v L) (hl:L.length≤900000):
 Calls Tryz.prog 84 #[v] w fun e w'=>∃v',e= .returned v'∧hH.Row w' w.heap.size v' L∧Below w.heap.size w w':=by
 obtain⟨a,c,rfl,ho,hrd⟩:=h;cases a with
 |none=>
  obtain⟨h0,rfl⟩:=ho.1 rfl;obtain rfl:L= []:=List.length_eq_zero_iff.1 h0;have DK:∀(w:World) (a:Option Addr) (n c:Nat),(binOp .eql 82 (.slice a n c) (.slice none 0 0)).run Tryz.prog w= .ok (.bool a.isNone) w:=fun w a n c=>Lib.run_eql_slice_nil w _ _ a n c 0 0 Tryz.underlying82;go_enter Tryz.func84,Tryz.ntmps84
  go_wp2_with fail
  go_ret;exact⟨_,rfl,bl.Row.nil _ _,Below.refl _ _⟩
 |some ad=>
  obtain⟨b,off,rfl⟩:=ho.2.1 _ rfl;have H0:=af (bl.Row.empty (Y:=hH) w);have aG:=af (Below.aI w (.cells #[] 86));have bM:=af (hrd.below aG.out);have c6:=af hl;clear hrd ho hl;have DK:∀(w:World) (a:Option Addr) (n c:Nat),(binOp .eql 82 (.slice a n c) (.slice none 0 0)).run Tryz.prog w= .ok (.bool a.isNone) w:=fun w a n c=>Lib.run_eql_slice_nil w _ _ a n c 0 0 Tryz.underlying82;go_enter Tryz.func84,Tryz.ntmps84
  go_wp2_with (first
   |(at_builtin;go_loud (refine hH.wV rfl (.tmp 5) (.tmp 6) rfl w.heap.size (.slice (some ⟨w.heap.size,0,none⟩) 0 0) [] rfl H0.out (some ⟨b,off,none⟩) c L rfl (fun h=>by cases h) bM.out (fun ad h=>by injection h with h;exact⟨b,off,h.symm⟩) (by have:=c6.out;simp;omega) aG.out.size ?_)))
  intro v' aN bX cQ eG;have cL:=af bX;have b7:=af (iJ cQ aG.out (cS H0.out));clear bX cQ eG;go_wp2_with fail
  go_ret;exact⟨_,rfl,cL.out,b7.out⟩
theorem IU:(Tryz.prog.info? 47).map (fun i=>(i.zero,i.size,i.bytes))=some (some (.agg #[.int .i64 0,.int .i64 0,.int .i64 0]),3,24):=bS.info
theorem M8 {w:World} {g gs o os:Nat} {cur:Array Value} (hb:av w g 47 cur) (qZ j9 sn sc:Nat) (L:List aB) (hn:L.length=Nat.min sn qZ)
 (hsrc:∀j v,(L.flatMap aB.cells)[j]? =some v→w.cell? ⟨gs,os+j,none⟩=some v) (hfit:o+(L.flatMap aB.cells).length≤cur.size) (ty:TypeId):
 (Builtin.copy_ #[45,45] ty #[.slice (some ⟨g,o,none⟩) qZ j9,.slice (some ⟨gs,os,none⟩) sn sc]).run Tryz.prog w= .ok ↑L.length (w.setRow g (cur.toList.take o++L.flatMap aB.cells++cur.toList.drop (o+(L.flatMap aB.cells).length)).toArray):=by
 have hl:=run_loadCells_list (P:=Tryz.prog) w ⟨gs,os,none⟩ (L.flatMap aB.cells) (fun j v hj=>by rw [vE];exact hsrc j v hj);have hst:=run_storeCells_at Tryz.prog g o 47 (L.flatMap aB.cells) 0 cur w hb (by simpa using hfit) (bS.kI L);rw [mK aB.cells 3 (fun _=>rfl)]at hl;obtain⟨i0,hi,dm,hz1,eg⟩:=info_parts IU;have hu:Tryz.prog.underlying 45=some (.slice 47):=Tryz.underlying45;simp only [Nat.add_zero]at hst;simp [Builtin.copy_,run_underlying hu,Builtin.lenOf,Builtin.firstCells,sizeOf,typeInfo,hi,hz1,←hn,hl,hst,goInt]
theorem WN {w:World} {aM g:Nat} {xs cur:Array Value} (hv:av w aM 47 xs) (hg:av w g 47 cur) (hne:aM≠g) (h0:cur.size≠0) (o vn vc ln lc:Nat):
 (callFunc 142 #[.slice ↑aM vn vc,.slice (some ⟨g,o,none⟩) ln lc]).run Tryz.prog w= .ok (.value (.bool false)) w:=by
 obtain⟨i0,hi,dm,hz1,eg⟩:=info_parts IU;have hz:∀w:World,(Go.sizeOf 47).run Tryz.prog w= .ok 3 w:=fun w=>by simp [sizeOf,typeInfo,hi,hz1]
 rw [run_callFunc_extern Tryz.func142 (by kernel_rfl) (by kernel_rfl) (by kernel_rfl) (e:=Extern.SlicesOverlaps.overlaps #[45,45] #[4]) (by kernel_rfl),
  Lib.run_overlaps_apart w 45 4 47 Tryz.underlying45 3 hz ⟨aM,0,none⟩ ⟨g,o,none⟩ vn vc ln lc hne 47 47 xs.size cur.size ?_ ?_ h0 (hv.frozen 0) (hv.frozen _)]
 ·rfl
 ·have dF:w.heap[aM]? =some (.cells xs 47 (0,0)):=hv
  simp [World.shape?,dF]
 ·have hg':w.heap[g]? =some (.cells cur 47 (0,0)):=hg
  simp [World.shape?,hg']
theorem Pt {R:List aB} {i:Nat} (hi:i≤R.length):(R.flatMap aB.cells).take (i*3)=(R.take i).flatMap aB.cells:=by
 have e:R=R.take i++R.drop i:=(List.take_append_drop i R).symm;have hl:((R.take i).flatMap aB.cells).length=i*3:=by rw [mK aB.cells 3 (fun _=>rfl),List.length_take,Nat.min_eq_left hi]
 conv=>lhs;rw [e,List.flatMap_append]
 rw [List.take_append_of_le_length (by omega),List.take_of_length_le (by omega)]
theorem Pr (R:List aB) (i:Nat):((R.drop i).flatMap aB.cells).length=(R.length-i)*3:=by rw [mK aB.cells 3 (fun _=>rfl),List.length_drop]
theorem Ps {R:List aB} {i:Nat} (hi:i≤R.length) (j:Nat):((R.drop i).flatMap aB.cells)[j]? =(R.flatMap aB.cells)[i*3+j]? :=by
 have e:R=R.take i++R.drop i:=(List.take_append_drop i R).symm;have hl:((R.take i).flatMap aB.cells).length=i*3:=by rw [mK aB.cells 3 (fun _=>rfl),List.length_take,Nat.min_eq_left hi]
 conv=>rhs;rw [e,List.flatMap_append]
 rw [List.getElem?_append_right (by omega),hl,Nat.add_sub_cancel_left]
theorem afg {w:World} {B g aM n c i:Nat} {cur:Array Value} {R:List aB} {x:aB} (hb:av w g 47 cur) (hn:R.length=n) (hc:cur.size=c*3) (ht:cur.toList.take (n*3)=R.flatMap aB.cells) (vF:B≤g) (jy:c≤maxLen)
 (hi:i<n) (hroom:n+1≤c) (hv:av w aM 47 x.cells.toArray) (hne:aM≠g) (hl:n≤900000):
 Calls Tryz.prog 124 #[.slice ↑g n c,↑i,.slice ↑aM 1 1] w fun e w'=>e= .returned (.slice ↑g (n+1) c)∧bS.Row w' B (.slice ↑g (n+1) c) (R.take i++ [x]++R.drop i)∧aK (fun k=>k=g) w w':=by
 have hcl:cur.toList.length=c*3:=by rw [Array.length_toList,hc]
 have hdl:=Pr R i;rw [hn]at hdl;have hX:([x].flatMap aB.cells).length=3:=rfl;have hD:(R.drop i).length=n-i:=by rw [List.length_drop,hn]
 have JQ:cur.size≠0:=by omega
 have hov:=fun(o vn vc ln lc:Nat)=>WN hv.drew hb.drew hne JQ o vn vc ln lc;have JR:=fun(o vn vc ln lc:Nat)=>WN hv hb hne JQ o vn vc ln lc
 have hget:∀j v,((R.drop i).flatMap aB.cells)[j]? =some v→w.cell? ⟨g,i*3+j,none⟩=some v:=by
  intro j v hj;rw [hb.cell,←Array.getElem?_toList];rw [Ps (by omega),←ht,List.getElem?_take]at hj;split at hj
  ·exact hj
  ·cases hj
 have Be:=fun(ty:TypeId) (j9 sc:Nat)=>M8 (w:=w.drew) (g:=g) (gs:=g) (o:=(i+1)*3) (os:=i*3) hb.drew (n-i) j9 (n+1-i) sc (R.drop i) (by rw [hD];simp only [Nat.min_def];split<;>omega) hget (by rw [hdl];omega) ty;have hb1:av (w.drew.setRow g (cur.toList.take ((i+1)*3)++(R.drop i).flatMap aB.cells++cur.toList.drop ((i+1)*3+((R.drop i).flatMap aB.cells).length)).toArray) g 47 (cur.toList.take ((i+1)*3)++(R.drop i).flatMap aB.cells++cur.toList.drop ((i+1)*3+((R.drop i).flatMap aB.cells).length)).toArray:=hb.drew.row _;have cN:aK (fun k=>k=g) w (w.drew.setRow g (cur.toList.take ((i+1)*3)++(R.drop i).flatMap aB.cells++cur.toList.drop ((i+1)*3+((R.drop i).flatMap aB.cells).length)).toArray):=(Below.keeps (Below.bO w 1)).trans (zC _ _ _)
 have iY:=WL (P:=(R.take i).flatMap aB.cells) (X:= [x].flatMap aB.cells) (D:=(R.drop i).flatMap aB.cells) (cur:=cur.toList) (a:=i*3) (by
  rw [←Pt (by omega),←ht,List.take_take,Nat.min_eq_left (by omega)]) (by rw [hX,hdl,hcl];omega)
 rw [hX,show i*3+3=(i+1)*3 by omega]at iY;generalize si:cur.toList.take ((i+1)*3)++(R.drop i).flatMap aB.cells++cur.toList.drop ((i+1)*3+((R.drop i).flatMap aB.cells).length)=iW at*
 have zD:iW.length=c*3:=by
  rw [←si,List.length_append,List.length_append,List.length_take,List.length_drop,hdl,hcl];omega
 clear si;generalize hw1:w.drew.setRow g iW.toArray=w1 at*;have hv1:av w1 aM 47 x.cells.toArray:=hv.keeps cN hne
 have nQ:=fun(ty:TypeId) (j9 sc:Nat)=>M8 (w:=w1) (g:=g) (gs:=aM) (o:=i*3) (os:=0) hb1 (n+1-i) j9 1 sc [x] (by simp only [Nat.min_def,List.length_singleton];split<;>omega) (fun j v hj=>by
  rw [Nat.zero_add,hv1.cell]
  simpa using hj) (by rw [hX,List.size_toArray,zD];omega) ty
 rw [List.toList_toArray]at nQ;have hb2:=hb1.row (iW.take (i*3)++ [x].flatMap aB.cells++iW.drop (i*3+([x].flatMap aB.cells).length)).toArray;have hk2:=cN.trans (zC w1 g (iW.take (i*3)++ [x].flatMap aB.cells++iW.drop (i*3+([x].flatMap aB.cells).length)).toArray);have e2:i*3+([x].flatMap aB.cells).length=(i+1)*3:=by rw [hX];omega
 rw [e2,iY]at hb2 hk2
 replace nQ:=fun ty j9 sc=>by
  have h:=nQ ty j9 sc;rw [e2,iY]at h;exact h
 generalize s7:(R.take i).flatMap aB.cells++ [x].flatMap aB.cells++(R.drop i).flatMap aB.cells++cur.toList.drop ((i+1)*3+((R.drop i).flatMap aB.cells).length)=vG at*;generalize vH:w1.setRow g vG.toArray=w2 at*;have yu:=af s7;have Qp:=af Be;have EA:=af nQ;have aS:=af hb2;have s8:=af hk2;have Qq:=af JR;have hw:=jy;unfold maxLen at hw;have q1:¬(c=i):=by omega
 have ic:¬(c=i+1):=by omega
 have y1:IntKind.i64.wrap ((n:Int)+1)=(n:Int)+1:=IntWalk.i64_in _ (by omega);have fI:IntKind.i64.wrap ((i:Int)+1)=(i:Int)+1:=IntWalk.i64_in _ (by omega);have fw:(0:Int)≤(i:Int)+1:=by omega
 have z2:i≤n:=by omega
 have z3:i≤n+1:=by omega
 have z4:(i:Int)≤(n:Int)+1:=by omega
 clear vH s7 Be nQ hb2 hk2 hov JR hb1 cN hv1 hget iY;have Qr:=Qq.out;go_enter Tryz.func124,Tryz.ntmps124
 go_wp2_with (simp only [Qr])
 have Be:=Qp.out;refine cP (S:=fun _=>True) True.intro fun hHeld=>?_;refine au 0 ?_;refine au 1 ?_;refine au 2 ?_;refine au 3 ?_;refine au 4 ?_;refine au 5 ?_;refine au 6 ?_;refine au 7 ?_;refine dY 8 fun K hK=>?_;go_simp;refine hK.out _ _ ?_;clear hK K Be hHeld;have nQ:=EA.out;go_wp2_with fail
 go_ret;refine⟨by trivial,?_,s8.out⟩
 have hlen:(R.take i++ [x]++R.drop i).length=n+1:=by
  rw [List.length_append,List.length_append,List.length_take,List.length_drop,List.length_singleton,hn];omega
 have hfl:(R.take i++ [x]++R.drop i).flatMap aB.cells=(R.take i).flatMap aB.cells++ [x].flatMap aB.cells++(R.drop i).flatMap aB.cells:=by rw [List.flatMap_append,List.flatMap_append]
 have mI:((R.take i).flatMap aB.cells++ [x].flatMap aB.cells++(R.drop i).flatMap aB.cells).length=(n+1)*3:=by
  rw [←hfl,mK aB.cells 3 (fun _=>rfl),hlen]
 refine⟨by show((R.take i++ [x]++R.drop i).flatMap aB.cells).length=_;rw [hfl,mI,hlen];rfl,.inr ⟨g,c,_,by rw [hlen],vF,aS.out,by rw [hlen];exact hroom,jy,?_,?_⟩⟩
 ·rw [←yu.out,List.size_toArray,List.length_append,mI,List.length_drop,hdl,hcl]
  show _=c*3;omega
 ·show List.take ((R.take i++ [x]++R.drop i).length*3) _=(R.take i++ [x]++R.drop i).flatMap aB.cells
  rw [hlen,hfl,List.toList_toArray,←yu.out,List.take_append_of_le_length (by rw [mI];exact Nat.le_refl _),List.take_of_length_le (by rw [mI];exact Nat.le_refl _)]
theorem afh {w:World} {B g aM n i:Nat} {cur:Array Value} {R:List aB} {x:aB} (hb:av w g 47 cur) (hn:R.length=n) (hc:cur.size=n*3) (ht:cur.toList.take (n*3)=R.flatMap aB.cells) (hB:B≤w.heap.size)
 (hi:i<n) (hv:av w aM 47 x.cells.toArray) (hl:n≤900000):
 Calls Tryz.prog 124 #[.slice ↑g n n,↑i,.slice ↑aM 1 1] w fun e w'=>∃c',e= .returned (.slice ↑w.heap.size (n+1) c')∧bS.Row w' B (.slice ↑w.heap.size (n+1) c') (R.take i++ [x]++R.drop i)∧aK (fun _=>False) w w':=by
 have hcl:cur.toList.length=n*3:=by rw [Array.length_toList,hc]
 have hdl:=Pr R i;rw [hn]at hdl;have hX:([x].flatMap aB.cells).length=3:=rfl;have hD:(R.drop i).length=n-i:=by rw [List.length_drop,hn]
 have CM:((R.take i).flatMap aB.cells).length=i*3:=by rw [mK aB.cells 3 (fun _=>rfl),List.length_take];omega
 have Cs:∀(j:Nat) (v:Value),(R.flatMap aB.cells)[j]? =some v→w.cell? ⟨g,j,none⟩=some v:=by
  intro j v hj;rw [hb.cell,←Array.getElem?_toList];rw [←ht,List.getElem?_take]at hj;split at hj
  ·exact hj
  ·cases hj
 obtain⟨i0,zS,dm,hz1,eg⟩:=info_parts IU;obtain⟨k,hk⟩:=ai (n+1-i:Nat);have hik:i+k=n+1:=by omega
 have hold:(Builtin.firstCells i0.size i (.slice ↑g i n)).run Tryz.prog w.drew= .ok ((R.take i).flatMap aB.cells).toArray w.drew:=by
  have h:=run_loadCells_list (P:=Tryz.prog) w.drew ⟨g,0,none⟩ ((R.take i).flatMap aB.cells) (fun j v hj=>by
   rw [vE,Nat.zero_add];have hj2:j<i*3:=by have:=dM hj;omega
   rw [←Pt (by omega),List.getElem?_take,if_pos hj2]at hj;exact Cs j v hj)
  rw [CM]at h;rw [hz1]
  simpa [Builtin.firstCells]using h
 have hap:=fun ty=>Lib.run_append_grow_zeros (P:=Tryz.prog) w 45 3 ty 47 i0 _ .i64 .i64 Tryz.underlying45 Tryz.underlying3 zS dm ↑g i n ((R.take i).flatMap aB.cells) hold k (by omega) (by rw [hz1];omega) (by omega) (by omega) (by rw [eg];omega) (by rw [eg,hik];exact growslice_fits (by omega) (by omega));rw [hik]at hap;have Qs:=grownCap_ge w (n+1) n 47;have jy:=grownCap_le_maxLen w (n+1) n 47 (by unfold maxLen;omega);generalize grownCap w (n+1) n 47=c' at*;obtain⟨js,Bf⟩:=ai (((R.take i).flatMap aB.cells).toArray++Builtin.zeroCells (Value.agg #[.int .i64 0,.int .i64 0,.int .i64 0]).cells k++Builtin.zeroCells (Value.agg #[.int .i64 0,.int .i64 0,.int .i64 0]).cells (c'-(n+1)));rw [Bf]at hap
 have hs0:js.size=c'*3:=by
  rw [←Bf,Array.size_append,Array.size_append,List.size_toArray,CM];simp [Builtin.zeroCells,Value.cells];omega
 have EB:js.toList.length=c'*3:=by rw [Array.length_toList,hs0]
 have ko:js.toList.take (i*3)=(R.take i).flatMap aB.cells:=by
  rw [←Bf,Array.toList_append,Array.toList_append,List.toList_toArray,List.append_assoc,List.take_append_of_le_length (by omega),List.take_of_length_le (by omega)]
 clear Bf hold zS dm hz1 eg;have hb1:av (w.drew.alloc (.cells js 47)) w.heap.size 47 js:=av.new w.drew _ _;have cN:Below w.heap.size w (w.drew.alloc (.cells js 47)):=(Below.bO w 1).trans (Below.aI w.drew _);generalize hw1:w.drew.alloc (.cells js 47)=w1 at*;have hv1:=hv.below cN;have eZ:=hb.below cN
 have nQ:=fun(ty:TypeId) (j9 sc:Nat)=>M8 (w:=w1) (g:=w.heap.size) (gs:=aM) (o:=i*3) (os:=0) hb1 k j9 1 sc [x] (by simp only [Nat.min_def,List.length_singleton];split<;>omega) (fun j v hj=>by
  rw [Nat.zero_add,hv1.cell]
  simpa using hj) (by rw [hX,hs0];omega) ty
 have hb2:=hb1.row (js.toList.take (i*3)++ [x].flatMap aB.cells++js.toList.drop (i*3+([x].flatMap aB.cells).length)).toArray;have hk2:aK (fun k=>k=w.heap.size) w1 (w1.setRow w.heap.size (js.toList.take (i*3)++ [x].flatMap aB.cells++js.toList.drop (i*3+([x].flatMap aB.cells).length)).toArray):=zC _ _ _;have iY:=WM (P:=(R.take i).flatMap aB.cells) (X:= [x].flatMap aB.cells) (D:=(R.drop i).flatMap aB.cells) (cur:=js.toList) (a:=i*3) ko (by rw [hX,hdl,EB];omega);generalize si:js.toList.take (i*3)++ [x].flatMap aB.cells++js.toList.drop (i*3+([x].flatMap aB.cells).length)=iW at*
 have zD:iW.length=c'*3:=by
  rw [←si,List.length_append,List.length_append,List.length_take,List.length_drop,hX,EB];omega
 clear si;generalize vH:w1.setRow w.heap.size iW.toArray=w2 at*;have hne:¬g=w.heap.size:=Nat.ne_of_lt hb.lt;have fY:av w2 g 47 cur:=eZ.keeps hk2 hne;have EC:Below w.heap.size w w2:=cN.trans (hk2.below (fun g hg=>by(have hg':g=w.heap.size:=hg);omega) cN.size)
 have tD:=fun(ty:TypeId) (j9 sc:Nat)=>M8 (w:=w2.drew) (g:=w.heap.size) (gs:=g) (o:=(i+1)*3) (os:=i*3) hb2.drew (n-i) j9 (n-i) sc (R.drop i) (by rw [hD];simp only [Nat.min_def];split<;>omega) (fun j v hj=>by
  rw [Ps (by omega)]at hj;have h:=Cs _ v hj;rw [hb.cell]at h;rw [fY.drew.cell];exact h) (by rw [hdl,List.size_toArray,zD];omega) ty
 rw [List.toList_toArray]at tD;have hb3:=hb2.drew.row (iW.take ((i+1)*3)++(R.drop i).flatMap aB.cells++iW.drop ((i+1)*3+((R.drop i).flatMap aB.cells).length)).toArray;have kr:=zC w2.drew w.heap.size (iW.take ((i+1)*3)++(R.drop i).flatMap aB.cells++iW.drop ((i+1)*3+((R.drop i).flatMap aB.cells).length)).toArray;rw [hX,show i*3+3=(i+1)*3 by omega]at iY;rw [iY]at hb3 kr
 replace tD:=fun ty j9 sc=>by
  have h:=tD ty j9 sc;rw [iY]at h;exact h
 generalize s7:(R.take i).flatMap aB.cells++ [x].flatMap aB.cells++(R.drop i).flatMap aB.cells++js.toList.drop ((i+1)*3+((R.drop i).flatMap aB.cells).length)=vG at*;have jL:Below w.heap.size w (w2.drew.setRow w.heap.size vG.toArray):=EC.drew.trans (kr.below (fun g hg=>by(have hg':g=w.heap.size:=hg);omega) EC.size);generalize JS:w2.drew.setRow w.heap.size vG.toArray=w3 at*;have yu:=af s7;have lO:=af hap;have EA:=af nQ;have Qt:=af tD;have aQ:=af hb3;have cH:=af jL;have afm:=af (Eq.refl w.heap.size);have hw:=jy;unfold maxLen at hw;have q1:¬(c'=i):=by omega
 have ic:¬(c'=i+1):=by omega
 have uD:¬(n=i):=by omega
 have y1:IntKind.i64.wrap ((n:Int)+1)=(n:Int)+1:=IntWalk.i64_in _ (by omega);have fI:IntKind.i64.wrap ((i:Int)+1)=(i:Int)+1:=IntWalk.i64_in _ (by omega);have lF:IntKind.i64.wrap ((n:Int)+1-(i:Int))=(k:Int):=by rw [show(n:Int)+1-(i:Int)=(k:Int)by omega];exact IntWalk.i64_in _ (by omega)
 have fw:(0:Int)≤(i:Int)+1:=by omega
 have z2:i≤n:=by omega
 have z3:i≤n+1:=by omega
 have z4:(i:Int)≤(n:Int)+1:=by omega
 clear hw1 vH JS s7 hap nQ tD hb3 jL hb1 cN hv1 eZ hb2 hk2 iY fY EC kr ko;go_enter Tryz.func124,Tryz.ntmps124
 go_upto_region 9 with(fail)
 have nQ:=EA.out
 go_wp2_with (first
  |(at_builtin;refine Lib.wpList_append_run _ rfl _ _ _ _ rfl _ _ rfl rfl _ _ (lO.out _) ?_))
 clear nQ;have tD:=Qt.out;refine cP (S:=fun _=>True) True.intro fun hHeld=>?_;refine au 0 ?_;refine au 1 ?_;refine au 2 ?_;refine au 3 ?_;refine au 4 ?_;refine au 5 ?_;refine au 6 ?_;refine au 7 ?_;refine dY 8 fun K hK=>?_;go_simp;refine hK.out _ _ ?_;clear hK K tD hHeld;go_wp2_with fail
 go_ret;refine⟨c',by trivial,?_,(Below.keeps cH.out)⟩
 have hlen:(R.take i++ [x]++R.drop i).length=n+1:=by
  rw [List.length_append,List.length_append,List.length_take,List.length_drop,List.length_singleton,hn];omega
 have hfl:(R.take i++ [x]++R.drop i).flatMap aB.cells=(R.take i).flatMap aB.cells++ [x].flatMap aB.cells++(R.drop i).flatMap aB.cells:=by rw [List.flatMap_append,List.flatMap_append]
 have mI:((R.take i).flatMap aB.cells++ [x].flatMap aB.cells++(R.drop i).flatMap aB.cells).length=(n+1)*3:=by
  rw [←hfl,mK aB.cells 3 (fun _=>rfl),hlen]
 refine⟨by show((R.take i++ [x]++R.drop i).flatMap aB.cells).length=_;rw [hfl,mI,hlen];rfl,.inr ⟨w.heap.size,c',_,by rw [hlen],hB,aQ.out,by rw [hlen];exact Qs,jy,?_,?_⟩⟩
 ·rw [←yu.out,List.size_toArray,List.length_append,mI,List.length_drop,hdl,EB]
  show _=c'*3;omega
 ·show List.take ((R.take i++ [x]++R.drop i).length*3) _=(R.take i++ [x]++R.drop i).flatMap aB.cells
  rw [hlen,hfl,List.toList_toArray,←yu.out,List.take_append_of_le_length (by rw [mI];exact Nat.le_refl _),List.take_of_length_le (by rw [mI];exact Nat.le_refl _)]
end Go.Proofs.YtmaijkoopjocdaaGreat
