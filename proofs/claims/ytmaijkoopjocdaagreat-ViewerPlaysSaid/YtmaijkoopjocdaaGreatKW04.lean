import Derived.Test.YtmaijkoopjocdaaGreatKW02
import Derived.Test.YtmaijkoopjocdaaGreatKW03
set_option maxRecDepth 100000
set_option maxHeartbeats 64000000
namespace Go.Proofs.YtmaijkoopjocdaaGreat
open Go.RowKit Go.Lib
structure bl (α:Type) where
 cells:α->List Value
 m:Nat
 len:∀x,(cells x).length=m
 one:∀x,∀u∈cells x,u.oneCell'=true
 pos:0<m
 t:TypeId
 ts:TypeId
 z:Value
 bytes:Nat
 und:Tryz.prog.underlying ts=some (.slice t)
 info:(Tryz.prog.info? t).map (fun i=>(i.zero,i.size,i.bytes))=some (some z,m,bytes)
 zs:z.cells.size=m
 small:bytes<=1000
def iI (w:World) (b o:Nat) (cs:List Value):Prop:=∀k u,cs[k]? =some u->w.cell? ⟨b,o+k,none⟩=some u
theorem iI.below {w w':World} {b o:Nat} {cs:List Value} (h:iI w b o cs) (hb:Below ↑w w w') (hl:b<w.heap.size):iI w' b o cs:=
 fun k u hu=>(hb.cell (p:=⟨b,o+k,none⟩) hl).trans (h k u hu)
theorem iI.keeps {w w':World} {F:Nat->Prop} {b o:Nat} {cs:List Value} (h:iI w b o cs) (hk:aK F w w') (hl:b<w.heap.size) (hf:¬F b):iI w' b o cs:=by intro k u hu;have h1:=h k u hu;unfold World.cell? at h1⊢;rw [show(⟨b,o+k,none⟩:Addr).block=b from rfl]at h1⊢;rw [hk.block b hl hf];exact h1
theorem av.gH {w:World} {g:Nat} {t:TypeId} {cs:List Value} (h:av w g t cs.toArray):iI w g 0 cs:=by intro k u hu;rw [h.cell,Nat.zero_add,List.getElem?_toArray];exact hu
section
variable {α:Type} (Y:bl α)
def bl.fR (w:World) (a:Option Addr) (L:List α):Prop:=∀j e,L[j]? =some e->∃b off,a=some ⟨b,off,none⟩∧b<w.heap.size∧iI w b (off+j*Y.m) (Y.cells e)
def bl.Row (w:World) (B:Nat) (v:Value) (L:List α):Prop:=w.ownsRow B Y.t Y.m v L.length (L.flatMap Y.cells)
variable {Y} {w w':World} {B:Nat} {v:Value} {L:List α}
theorem bl.fR.below {a:Option Addr} (h:Y.fR w a L) (hb:Below ↑w w w'):Y.fR w' a L:=by intro j e hj;obtain⟨b,off,h1,h2,h3⟩:=h j e hj;exact⟨b,off,h1,Nat.lt_of_lt_of_le h2 hb.size,h3.below hb h2⟩
theorem bl.fR.nil {a:Option Addr}:Y.fR w a []:=fun j e h=>by simp at h
theorem bl.fR.take {a:Option Addr} (h:Y.fR w a L) (n:Nat):Y.fR w a (L.take n):=by
 intro j e hj;rw [List.getElem?_take]at hj;split at hj
 ·exact h j e hj
 cases hj
theorem bl.Row.form (h:Y.Row w B v L):∃a c,v= .slice a L.length c:=agY h
theorem bl.Row.nil (w:World) (B:Nat):Y.Row w B (.slice none 0 0) []:=⟨cU,.inl ⟨rfl,rfl⟩⟩
theorem bl.Row.empty (w:World):Y.Row (w.alloc (.cells #[] Y.t)) ↑w (.slice ↑w.heap.size 0 0) []:=
 ⟨cU,.inr ⟨w.heap.size,0,#[],rfl,Nat.le_refl _,av.new w Y.t #[],Nat.le_refl _,Nat.zero_le _,cU,cU⟩⟩
theorem bl.Row.below (h:Y.Row w B v L) (hb:Below ↑w w w'):Y.Row w' B v L:=Nf h hb
theorem bl.Row.at_ (h:Y.Row w B v L) (j:Nat) (e:α) (hj:L[j]? =some e):∃g cap,v= .slice (some ⟨g,0,none⟩) L.length cap∧g<w.heap.size∧iI w g (j*Y.m) (Y.cells e):=by
 have hl:=ki h;rcases h.2 with⟨hv,h0⟩|⟨g,cap,cur,hv,hb,hh,r⟩
 ·have:=dM hj;omega
 subst hv;have hg:=hl g rfl;refine⟨g,cap,rfl,hg,?_⟩;have hjl:=dM hj;obtain⟨_,A⟩:=lB hj;intro k u hu;have hk:k<Y.m:=by have:=dM hu;rw [Y.len]at this;exact this
 have hlt:j*Y.m+k<L.length*Y.m:=by have:=Nat.mul_le_mul_right Y.m (bh:j+1<=L.length);rw [Nat.add_mul,Nat.one_mul]at this;omega
 rw [h.cellAt (j*Y.m+k) hlt,NA Y.cells Y.m Y.len L j k hjl hk,A];exact hu
theorem bl.Row.rd (h:Y.Row w B v L):∃a c,v= .slice a L.length c∧(a=none->c=0)∧Y.fR w a L:=by
 obtain⟨a,c,hv⟩:=h.form;have hac:a=none->c=0:=by
  rintro rfl;rcases h.2 with⟨h2,_⟩|⟨g,cap,cur,h2,_⟩
  ·rw [hv]at h2;injection h2
  rw [hv]at h2;injection h2 with h2;cases h2
 refine⟨a,c,hv,hac,fun j e hj=>?_⟩;obtain⟨g,cap,h1,h2,h3⟩:=h.at_ j e hj;rw [hv]at h1;injection h1 with h1;exact⟨g,0,h1,h2,by rw [Nat.zero_add];exact h3⟩
theorem bl.kI (Y:bl α) (L:List α):∀u∈L.flatMap Y.cells,u.oneCell'=true:=by intro u hu;rw [List.mem_flatMap]at hu;obtain⟨e,_,hu⟩:=hu;exact Y.one e u hu
theorem bl.fR.cells {b off:Nat} (h:Y.fR w (some ⟨b,off,none⟩) L):∀j u,(L.flatMap Y.cells)[j]? =some u->w.cell? ((⟨b,off,none⟩:Addr).add j)=some u:=by
 intro j u hu;have hj:=dM hu;rw [mK Y.cells Y.m Y.len]at hj;have hi:j / Y.m<L.length:=(Nat.div_lt_iff_lt_mul Y.pos).2 hj;have hr:j % Y.m<Y.m:=Nat.mod_lt _ Y.pos;have h1:=NA Y.cells Y.m Y.len L (j / Y.m) (j % Y.m) hi hr;have A:j / Y.m*Y.m+j % Y.m=j:=Nat.div_add_mod' j Y.m;rw [A,hu]at h1;obtain⟨b',off',he,_,h2⟩:=h (j / Y.m) _ (List.getElem?_eq_getElem hi);have e1:b=b'∧off=off':=by injection he with he;injection he with x y;exact⟨x,y⟩
 obtain⟨rfl,rfl⟩:=e1;rw [vE,show off+j=off+j / Y.m*Y.m+j % Y.m by rw [Nat.add_assoc,A]];exact h2 _ _ h1.symm
theorem iI.rd {g:Nat} {e:α} (hg:g<w.heap.size) (h:iI w g 0 (Y.cells e)):Y.fR w ↑g [e]:=by
 intro j x hj;have hj0:j=0:=by have:=dM hj;simp at this;exact this
 subst hj0;have:x=e:=by simp at hj;exact hj.symm
 subst this;exact⟨g,0,rfl,hg,by rw [Nat.zero_mul];exact h⟩
theorem bl.KH (Y:bl α) {w:World} {B:Nat} {v:Value} {L:List α} (ty:TypeId) (hown:Y.Row w B v L) (ad:Addr) (c:Nat) (M:List α) (hr:Y.fR w (some ad) M) (hle:L.length+M.length<=1000000) (hbase:B<=w.heap.size):
 ∃v' w',(Builtin.append_ #[Y.ts,Y.ts] ty #[v,.slice (some ad) M.length c]).run Tryz.prog w= .ok v' w'∧Y.Row w' B v' (L++M)∧w.grownBy w' v.ownBlock∧(v'.ownBlock=v.ownBlock∨v'.ownBlock=some ↑w):=by
 have hcell:∀j u,(M.flatMap Y.cells)[j]? =some u->w.cell? (ad.add j)=some u:=by
  cases M with
  |nil=>intro j u h;simp at h
  |cons e M=>obtain⟨b,off,h1,_⟩:=hr 0 e rfl;injection h1 with h1;subst h1;exact hr.cells
 obtain⟨i0,hi,A,hz1,C⟩:=info_parts Y.info;have D:(L.length+M.length)*Y.bytes<=140737488355328:=by have:=Nat.mul_le_mul hle Y.small;omega
 obtain⟨v',w',h1,h2,h3,_,h5⟩:=run_append_own_at (P:=Tryz.prog) w B Y.ts ty Y.t i0 Y.z Y.m Y.bytes Y.und hi A hz1 C Y.zs Y.pos v L.length _ hown ad M.length c (M.flatMap Y.cells) (by rw [mK Y.cells Y.m Y.len]) hcell (Y.kI M) (by unfold maxLen;omega) D hbase;refine⟨v',w',h1,?_,h3,h5⟩;unfold bl.Row;rw [List.length_append,List.flatMap_append];exact h2
theorem bl.push (Y:bl α) {w:World} {ops:Array Oper} {rest:List Oper} {o:Oper} {a:Act} {Q:Exit->Act->World->Prop} (hgd:o.guard=none) (s x:Operand)
 (ho:o.op= .call {callee:= .builtin .append,args:=#[s,x],argTypes:=#[Y.ts,Y.ts]})
 (B:Nat) (v:Value) (L:List α) (hs:a.eval s=v) (hown:Y.Row w B v L) (g:Nat) (e:α) (hx:a.eval x= .slice ↑g 1 1) (hg:g<w.heap.size) (hc:iI w g 0 (Y.cells e))
 (hle:L.length+1<=1000000) (hbase:B<=w.heap.size)
 (h:∀v' w',Y.Row w' B v' (L++ [e])->w.grownBy w' v.ownBlock->(v'.ownBlock=v.ownBlock∨v'.ownBlock=some ↑w)->wpList Tryz.prog ops Q rest (a.put o.dst v') w'):wpList Tryz.prog ops Q (o::rest) a w:=by
 refine wpList_plain hgd fun K hK=>?_;obtain⟨v',w',hr,h2,h3,h5⟩:=Y.KH o.type hown ⟨g,0,none⟩ 1 [e] (iI.rd hg hc) hle hbase;rw [show([e]:List α).length=1 from rfl]at hr;unfold Oper.wp execOp;simp only [ho,resolve,invoke,builtin,Sem.run_bind,Sem.run_pure,Result.andThen_ok,List.map_toArray,List.map_cons,List.map_nil,hs,hx,hr];exact hK _ _ (h v' w' h2 h3 h5)
theorem bl.step (Y:bl α) {w:World} {ops:Array Oper} {o:Oper} {a:Act} {K:Act->World->Prop} {Q:Exit->Act->World->Prop} {E:Prop} (hgd:o.guard=none) (s x:Operand)
 (ho:o.op= .call {callee:= .builtin .append,args:=#[s,x],argTypes:=#[Y.ts,Y.ts]})
 (B:Nat) (v:Value) (L:List α) (hs:a.eval s=v) (hown:Y.Row w B v L) (g:Nat) (e:α) (hx:a.eval x= .slice ↑g 1 1) (hg:g<w.heap.size) (hc:iI w g 0 (Y.cells e))
 (hle:L.length+1<=1000000) (hbase:B<=w.heap.size)
 (h:∀v' w',Y.Row w' B v' (L++ [e])->w.grownBy w' v.ownBlock->(v'.ownBlock=v.ownBlock∨v'.ownBlock=some ↑w)->K (a.put o.dst v') w'):
 if Region.wanted o (yielded ops a.tmps)=true then Oper.wp Tryz.prog o a w K Q else E:=by
 have hw:Region.wanted o (yielded ops a.tmps)=true:=by simp [Region.wanted,hgd]
 rw [if_pos hw];obtain⟨v',w',hr,h2,h3,h5⟩:=Y.KH o.type hown ⟨g,0,none⟩ 1 [e] (iI.rd hg hc) hle hbase;rw [show([e]:List α).length=1 from rfl]at hr;unfold Oper.wp execOp;simp only [ho,resolve,invoke,builtin,Sem.run_bind,Sem.run_pure,Result.andThen_ok,List.map_toArray,List.map_cons,List.map_nil,hs,hx,hr];exact h v' w' h2 h3 h5
theorem bl.wV (Y:bl α) {w:World} {ops:Array Oper} {rest:List Oper} {o:Oper} {a:Act} {Q:Exit->Act->World->Prop} (hgd:o.guard=none) (s x:Operand)
 (ho:o.op= .call {callee:= .builtin .append,args:=#[s,x],argTypes:=#[Y.ts,Y.ts]})
 (B:Nat) (v:Value) (L:List α) (hs:a.eval s=v) (hown:Y.Row w B v L) (A:Option Addr) (c:Nat) (M:List α) (hx:a.eval x= .slice A M.length c) (hac:A=none->c=0) (hrd:Y.fR w A M)
 (hA:∀ad,A=some ad->0<c->∃b off,ad=⟨b,off,none⟩) (hle:L.length+M.length<=1000000) (hbase:B<=w.heap.size)
 (h:∀v' w',Y.Row w' B v' (L++M)->w.grownBy w' v.ownBlock->(v'.ownBlock=v.ownBlock∨v'.ownBlock=some ↑w)->wpList Tryz.prog ops Q rest (a.put o.dst v') w'):wpList Tryz.prog ops Q (o::rest) a w:=by
 obtain⟨i0,hi,D,hz1,E⟩:=info_parts Y.info;rcases A with _|ad
 ·have C:M= []:=by
   cases M with
   |nil=>rfl
   |cons e M=>obtain⟨b,off,h1,_⟩:=hrd 0 e rfl;cases h1
  subst C;have hc:=hac rfl;subst hc;refine wpList_append_own_none hgd s x Y.ts ho B Y.t i0 Y.m Y.und hi v L.length _ hs hown hx ?_;exact h v w (by rw [List.append_nil];exact hown) (World.grownBy.refl w _) (.inl rfl)
 refine wpList_plain hgd fun K hK=>?_;obtain⟨v',w',hr,h2,h3,h5⟩:=Y.KH o.type hown ad c M hrd hle hbase;unfold Oper.wp execOp;simp only [ho,resolve,invoke,builtin,Sem.run_bind,Sem.run_pure,Result.andThen_ok,List.map_toArray,List.map_cons,List.map_nil,hs,hx,hr];exact hK _ _ (h v' w' h2 h3 h5)
end
section
variable {α:Type}
theorem bl.steps (Y:bl α) {w:World} {ops:Array Oper} {o:Oper} {a:Act} {K:Act->World->Prop} {Q:Exit->Act->World->Prop} {E:Prop} (hgd:o.guard=none) (s x:Operand)
 (ho:o.op= .call {callee:= .builtin .append,args:=#[s,x],argTypes:=#[Y.ts,Y.ts]})
 (B:Nat) (v:Value) (L:List α) (hs:a.eval s=v) (hown:Y.Row w B v L) (A:Option Addr) (n c:Nat) (M:List α) (hn:M.length=n) (hx:a.eval x= .slice A n c) (hac:A=none->c=0) (hrd:Y.fR w A M)
 (hA:∀ad,A=some ad->0<c->∃b off,ad=⟨b,off,none⟩) (hle:L.length+M.length<=1000000) (hbase:B<=w.heap.size)
 (h:∀v' w',Y.Row w' B v' (L++M)->w.grownBy w' v.ownBlock->(v'.ownBlock=v.ownBlock∨v'.ownBlock=some ↑w)->K (a.put o.dst v') w'):
 if Region.wanted o (yielded ops a.tmps)=true then Oper.wp Tryz.prog o a w K Q else E:=by
 subst hn;have hw:Region.wanted o (yielded ops a.tmps)=true:=by simp [Region.wanted,hgd]
 rw [if_pos hw];obtain⟨i0,hi,D,hz1,F⟩:=info_parts Y.info;rcases A with _|ad
 ·have C:M= []:=by
   cases M with
   |nil=>rfl
   |cons e M=>obtain⟨b,off,h1,_⟩:=hrd 0 e rfl;cases h1
  subst C;have hc:=hac rfl;subst hc;have hrun:=run_append_owned_none (P:=Tryz.prog) (w:=w) B Y.ts o.type Y.t i0 Y.m Y.und hi v L.length _ hown;have hk:=h v w (by rw [List.append_nil];exact hown) (World.grownBy.refl w _) (.inl rfl);have hx':a.eval x= .slice none 0 0:=hx;unfold Oper.wp;simp [execOp,ho,resolve,invoke,builtin,hs,hx',hrun,Result.andThen];exact hk
 obtain⟨v',w',hr,h2,h3,h5⟩:=Y.KH o.type hown ad c M hrd hle hbase;unfold Oper.wp execOp;simp only [ho,resolve,invoke,builtin,Sem.run_bind,Sem.run_pure,Result.andThen_ok,List.map_toArray,List.map_cons,List.map_nil,hs,hx,hr];exact h v' w' h2 h3 h5
end
section
variable {α:Type} {Y:bl α} {w w':World} {B:Nat} {v:Value} {L:List α}
theorem bl.Row.Cd (h:Y.Row w B v L) (hL:L≠ []):∃g cap cur,v= .slice (some ⟨g,0,none⟩) L.length cap∧B<=g∧av w g Y.t cur:=by
 rcases h.2 with⟨_,h0⟩|⟨g,cap,cur,hv,hb,hh,_⟩
 ·exact absurd (List.length_eq_zero_iff.1 h0) hL
 exact⟨g,cap,cur,hv,hb,hh⟩
theorem bl.Row.aW {g n cap j k:Nat} (h:Y.Row w B (.slice ↑g n cap) L) {e e':α} {u:Value} (hj:L[j]? =some e) (hk:k<Y.m) (he:Y.cells e'=(Y.cells e).set k u):Y.Row (w.setCell ↑(g,j*Y.m+k) u) B (.slice ↑g n cap) (L.set j e'):=by
 have hjl:=dM hj;obtain⟨_,C⟩:=lB hj;have A:=agm Y.cells Y.m Y.len u e' L j k hjl hk (by rw [C];exact he);obtain⟨h1,h2⟩:=h;rcases h2 with⟨hv,_⟩|⟨g',cap',cur,hv,hb,hh,r1,r2,D,E⟩
 ·injection hv with hv;cases hv
 injection hv with hv hn hc;injection hv with hv;injection hv with hv;subst hv;subst hn;subst hc;have hb2:av w g Y.t cur:=hh;refine⟨by rw [<-A,List.length_set,List.length_set];exact h1,.inr ⟨g,cap,cur.setIfInBounds (j*Y.m+k) u,by rw [List.length_set],hb,hb2.aW _ u,by rw [List.length_set];exact r1,r2,by rw [Array.size_setIfInBounds];exact D,?_⟩⟩;rw [Array.toList_setIfInBounds,List.take_set,List.length_set,E,A]
theorem bl.Row.rd_some {g n cap:Nat} (h:Y.Row w B (.slice ↑g n cap) L):Y.fR w ↑g L:=by obtain⟨a,c,hv,_,hr⟩:=h.rd;injection hv with hv;rw [hv];exact hr
theorem bl.Row.front {g n cap:Nat} (h:Y.Row w B (.slice ↑g n cap) L) {k:Nat} (hk:k<=L.length):Y.Row w B (.slice ↑g k cap) (L.take k):=by
 obtain⟨h1,h2⟩:=h;rcases h2 with⟨hv,_⟩|⟨g',cap',cur,hv,hb,hh,r1,r2,A,C⟩
 ·injection hv with hv;cases hv
 injection hv with hv hn hc;injection hv with hv;injection hv with hv;subst hv;subst hn;subst hc;have hl:(L.take k).length=k:=by rw [List.length_take];omega
 have hf:(L.take k).flatMap Y.cells=(L.flatMap Y.cells).take (k*Y.m):=by
  have e1:L.flatMap Y.cells=(L.take k).flatMap Y.cells++(L.drop k).flatMap Y.cells:=by rw [<-List.flatMap_append,List.take_append_drop]
  have e2:((L.take k).flatMap Y.cells).length=k*Y.m:=by rw [mK Y.cells Y.m Y.len,hl]
  rw [e1,List.take_left' e2]
 refine⟨by rw [hf,List.length_take,hl,h1];exact Nat.min_eq_left (Nat.mul_le_mul_right _ hk),.inr ⟨g,cap,cur,by rw [hl],hb,hh,by rw [hl];omega,r2,A,?_⟩⟩;rw [hl,hf,<-C,List.take_take,Nat.min_eq_left (Nat.mul_le_mul_right _ hk)]
end
end Go.Proofs.YtmaijkoopjocdaaGreat
namespace Go.Proofs.YtmaijkoopjocdaaGreat
open Go Go.Lib
structure bH where
 bs:List Int
 bad:Bool
deriving DecidableEq
def bH.take (n:Nat) (s:bH):List Int×bH:=if s.bad=true∨s.bs.length<n then([],⟨s.bs,true⟩)else(s.bs.take n,⟨s.bs.drop n,false⟩)
def bH.num (n:Nat) (s:bH):Int×bH:=(leZ (s.take n).1,(s.take n).2)
def bH.long (s:bH):Int×bH:=(IntKind.i64.wrap (s.num 8).1,(s.num 8).2)
def isByte (z:Int):Prop:=0<=z∧z<=255
def bH.ok (s:bH):Prop:=∀z∈s.bs,isByte z
theorem aly:leZ []=0:=rfl
theorem TT:∀(l:List Int),(∀z∈l,isByte z)->0<=leZ l∧leZ l<256^l.length
 | [],_=>⟨Int.le_refl 0,b9⟩
 |z::r,h=>by have h1:=h z cU;have h2:=TT r (fun x hx=>h x (by simp [hx]));unfold isByte at h1;rw [leZ,List.length_cons,Int.pow_succ];omega
theorem bH.EP {n:Nat} {s:bH} (h:s.ok):(s.take n).2.ok∧∀z∈(s.take n).1,isByte z:=by
 unfold bH.take;split
 ·exact⟨h,fun z hz=>by simp at hz⟩
 exact⟨fun z hz=>h z (List.mem_of_mem_drop hz),fun z hz=>h z (List.mem_of_mem_take hz)⟩
theorem bH.Od {n:Nat} {s:bH} (h:s.ok):(s.num n).2.ok:=(bH.EP h).1
theorem bH.Oc {s:bH} (h:s.ok):s.long.2.ok:=bH.Od h
theorem bH.take_len (n:Nat) (s:bH):(s.take n).1.length<=n∧(s.take n).2.bs.length<=s.bs.length:=by
 unfold bH.take;split
 ·exact⟨Nat.zero_le _,Nat.le_refl _⟩
 exact⟨by rw [List.length_take];omega,by rw [List.length_drop];omega⟩
theorem bH.Lm {s:bH} (h:s.ok):0<=(s.num 1).1∧(s.num 1).1<=255:=by have h1:=TT _ (bH.EP (n:=1) h).2;have h2:=(bH.take_len 1 s).1;unfold bH.num;dsimp only;refine⟨h1.1,?_⟩;have:(s.take 1).1.length=0∨(s.take 1).1.length=1:=bh;rcases this with h3|h3<;>rw [h3]at h1<;>omega
theorem bH.yu {n:Nat} {s:bH} (h:s.bad=true):s.take n=([],s):=by unfold bH.take;rw [if_pos (.inl h)];cases s;simp_all
theorem bH.Ol {n:Nat} {s:bH} (h:s.bad=true):s.num n=(0,s):=by unfold bH.num;rw [bH.yu h];rfl
theorem bH.asr {s:bH} (h:s.bad=true):s.long=(0,s):=by unfold bH.long;rw [bH.Ol h];rfl
theorem L5 (z:Int): -9223372036854775808<=IntKind.i64.wrap z∧IntKind.i64.wrap z<=9223372036854775807:=by rw [IntKind.wrap_i64];omega
structure aB where
 ap:Int
 aq:Int
 count:Int
deriving DecidableEq
structure aX where
 lv:List aB
 im:aB
 has:Bool
deriving DecidableEq
abbrev bG:=List (aX×aX)
structure aF where
 seq:Int
 inst:Int
 side:Int
 ap:Int
 aq:Int
 count:Int
 imp:Bool
deriving DecidableEq
def jD:aB:=⟨0,0,0⟩
def vI:aX:=⟨[],jD,false⟩
def aF.lv (m:aF):aB:=⟨m.ap,m.aq,m.count⟩
def cT (side x y:Int):Bool:=if side=1 then decide (y<x)else decide (x<y)
theorem UL (side x y:Int) (h:x≠y):cT side x y= !cT side y x:=by
 unfold cT;by_cases hs:side=1
 ·rw [if_pos hs,if_pos hs];by_cases hx:y<x
  ·have hy:¬x<y:=by omega
   simp [hx,hy]
  have hy:x<y:=bh;simp [hx,hy]
 rw [if_neg hs,if_neg hs];by_cases hx:x<y
 ·have hy:¬y<x:=by omega
  simp [hx,hy]
 have hy:y<x:=bh;simp [hx,hy]
theorem Yb (side x:Int):cT side x x=false:=by unfold cT;split<;>simp
theorem D1 {side x y z:Int} (h:cT side x y=true) (k:cT side y z=true):cT side x z=true:=by
 unfold cT at*;split at h
 ·rename_i hs;rw [if_pos hs]at k⊢;simp only [decide_eq_true_eq]at*;omega
 rename_i hs;rw [if_neg hs]at k⊢;simp only [decide_eq_true_eq]at*;omega
theorem Gj {side x y:Int} (h:cT side x y=true):x≠y:=by rintro rfl;rw [Yb]at h;cases h
def kF (side:Int) (l:List aB):Prop:=l.Pairwise (fun a b=>cT side a.ap b.ap=true)
def o3 (m:aF) (l:List aB):List aB:=
 match l.findIdx? (fun y=>y.ap==m.ap)with
 |some n=>if m.aq=0 then l.take n++l.drop (n+1)else l.take n++m.lv::l.drop (n+1)
 |none=>if 0<m.aq then(match l.findIdx? (fun y=>cT m.side m.ap y.ap)with
  |some n=>l.take n++m.lv::l.drop n
  |none=>l++ [m.lv])else l
def ku (m:aF):List aB->List aB
 | []=>if 0<m.aq then [m.lv]else []
 |x::t=>if x.ap=m.ap then(if m.aq=0 then t else m.lv::t)else if cT m.side m.ap x.ap=true then(if 0<m.aq then m.lv::x::t else x::t)else x::ku m t
def fl (m:aF):Bool->List aB->List aB
 |done,[]=>if done=true then []else [m.lv]
 |done,x::t=>(if done=false∧cT m.side x.ap m.ap=false then [m.lv]else [])++(if x.ap=m.ap then []else [x])++fl m (done|| !cT m.side x.ap m.ap) t
theorem Px {side p:Int} {x:aB} {t:List aB} (hs:kF side (x::t)) (h:x.ap=p∨cT side p x.ap=true):∀y∈t,y.ap≠p:=by
 intro y hy;have h1:=(List.pairwise_cons.1 hs).1 y hy;rcases h with rfl|h
 ·exact fun e=>Gj h1 e.symm
 exact fun e=>Gj (D1 h h1) e.symm
theorem alG {p:Int} {t:List aB} (h:∀y∈t,y.ap≠p):t.findIdx? (fun y=>y.ap==p)=none:=by
 rw [List.findIdx?_eq_none_iff];intro y hy
 simpa using h y hy
theorem F3 {m:aF}:∀{l:List aB},kF m.side l->o3 m l=ku m l
 | [],_=>by simp [o3,ku]
 |x::t,hs=>by
  have hst:kF m.side t:=(List.pairwise_cons.1 hs).2;have ih:=F3 hst;unfold ku;by_cases hx:x.ap=m.ap
  ·rw [if_pos hx];unfold o3;rw [List.findIdx?_cons,if_pos (by simpa using hx)];simp
  rw [if_neg hx];have A:(x.ap==m.ap)=false:=by simpa using hx
  by_cases hb:cT m.side m.ap x.ap=true
  ·rw [if_pos hb];have hn:=alG (Px hs (.inr hb));unfold o3;rw [List.findIdx?_cons,A,List.findIdx?_cons,hn];simp [hb]
  rw [if_neg hb];have B:cT m.side m.ap x.ap=false:=by simpa using hb
  rw [<-ih];unfold o3;rw [List.findIdx?_cons,A,List.findIdx?_cons,B];cases hi:t.findIdx? (fun y=>y.ap==m.ap)with
  |some n=>simp;split<;>simp
  |none=>
   simp only [Bool.false_eq_true,if_false,Option.map_none];split
   ·cases hj:t.findIdx? (fun y=>cT m.side m.ap y.ap)with
    |some n=>simp
    |none=>simp
   rfl
theorem Ar {m:aF}:∀{l:List aB},(∀y∈l,y.ap≠m.ap)->fl m true l=l
 | [],_=>rfl
 |x::t,h=>by unfold fl;rw [if_neg cU,if_neg (h x cU),Bool.true_or,Ar (fun y hy=>h y (by simp [hy]))];rfl
theorem LV {m:aF} (hq:0<=m.aq):∀{l:List aB},kF m.side l->fl m (decide (m.aq=0)) l=ku m l
 | [],_=>by
   unfold fl ku;by_cases h:m.aq=0
   ·simp [h]
   rw [if_neg (by simpa using h),if_pos bh]
 |x::t,hs=>by
  have hst:kF m.side t:=(List.pairwise_cons.1 hs).2;have ih:=LV hq hst;unfold fl ku;by_cases hx:x.ap=m.ap
  ·have hn:=Px hs (.inl hx);have hb:cT m.side x.ap m.ap=false:=by rw [hx];exact Yb _ _
   rw [if_pos hx,if_pos hx,hb,Bool.not_false,Bool.or_true,Ar hn];by_cases h:m.aq=0
   ·simp [h]
   simp [h]
  rw [if_neg hx,if_neg hx];have ht:=UL m.side m.ap x.ap (Ne.symm hx);by_cases hb:cT m.side m.ap x.ap=true
  ·have hn:=Px hs (.inr hb);have hb2:cT m.side x.ap m.ap=false:=by rw [hb]at ht;simpa using ht.symm
   rw [if_pos hb,hb2,Bool.not_false,Bool.or_true,Ar hn];by_cases h:m.aq=0
   ·simp [h]
   have h0:0<m.aq:=bh;simp [h,h0]
  have hb2:cT m.side x.ap m.ap=true:=by
   have:cT m.side m.ap x.ap=false:=by simpa using hb
   rw [this]at ht;simpa using ht.symm
  rw [if_neg hb,hb2,Bool.not_true,Bool.or_false,ih];simp
theorem FW {m:aF}:∀{l:List aB} {y:aB},y∈ku m l->y.ap=m.ap∨y∈l
 | [],y,h=>by
   unfold ku at h;split at h
   ·simp at h;subst h;exact .inl rfl
   simp at h
 |x::t,y,h=>by
  unfold ku at h;split at h
  ·split at h
   ·exact .inr (by simp [h])
   rcases List.mem_cons.1 h with rfl|h
   ·exact .inl rfl
   exact .inr (by simp [h])
  split at h
  ·split at h
   ·rcases List.mem_cons.1 h with rfl|h
    ·exact .inl rfl
    exact .inr h
   exact .inr h
  rcases List.mem_cons.1 h with rfl|h
  ·exact .inr cU
  rcases FW h with h|h
  ·exact .inl h
  exact .inr (by simp [h])
theorem Pz {m:aF}:∀{l:List aB},kF m.side l->kF m.side (ku m l)
 | [],_=>by
   unfold ku;split
   ·exact List.pairwise_singleton _ _
   exact List.Pairwise.nil
 |x::t,hs=>by
  have hc:=List.pairwise_cons.1 hs;unfold ku;split
  ·rename_i hx;split
   ·exact hc.2
   exact List.pairwise_cons.2 ⟨fun y hy=>by rw [show m.lv.ap=m.ap from rfl,<-hx];exact hc.1 y hy,hc.2⟩
  rename_i hx;split
  ·rename_i hb;split
   ·refine List.pairwise_cons.2 ⟨fun y hy=>?_,hs⟩;rcases List.mem_cons.1 hy with rfl|hy
    ·exact hb
    exact D1 hb (hc.1 y hy)
   exact hs
  rename_i hb;refine List.pairwise_cons.2 ⟨fun y hy=>?_,Pz hc.2⟩;rcases FW hy with h|h
  ·rw [h,UL m.side x.ap m.ap hx];simpa using hb
  exact hc.1 y h
theorem FZ {m:aF}:∀{l:List aB},(ku m l).length<=l.length+1
 | []=>by unfold ku;split<;>simp
 |x::t=>by
  have:=FZ (m:=m) (l:=t);unfold ku;split
  ·split<;>simp<;>omega
  split
  ·split<;>simp
  simp;omega
def aX.app (m:aF) (x:aX):aX:=
 if m.imp=true then(if 0<m.aq then⟨x.lv,m.lv,true⟩else⟨x.lv,jD,false⟩)else⟨ku m x.lv,x.im,x.has⟩
def vv (m:aF) (p:aX×aX):aX×aX:=if m.side=1 then(p.1.app m,p.2)else(p.1,p.2.app m)
def gm (m:aF) (V:bG):bG:=V.modify m.inst.toNat (vv m)
def zQ (n:Nat) (m:aF):Bool:=decide (0<=m.inst∧m.inst<n∧(m.side=1∨m.side=2)∧0<=m.aq∧0<=m.count∧(m.aq=0↔m.count=0))
structure Az (n:Nat) (m:aF):Prop where
 i0:0<=m.inst
 i1:m.inst<n
 sd:m.side=1∨m.side=2
 q0:0<=m.aq
 c0:0<=m.count
 xh:m.aq=0↔m.count=0
theorem IA {n:Nat} {m:aF}:zQ n m=true↔Az n m:=by unfold zQ;rw [decide_eq_true_eq];exact⟨fun h=>⟨h.1,h.2.1,h.2.2.1,h.2.2.2.1,h.2.2.2.2.1,h.2.2.2.2.2⟩,fun h=>⟨h.i0,h.i1,h.sd,h.q0,h.c0,h.xh⟩⟩
def xU (V:bG):Prop:=∀p∈V,kF 1 p.1.lv∧kF 2 p.2.lv
def fX (V:bG) (k:Nat):Prop:=∀p∈V,p.1.lv.length<=k∧p.2.lv.length<=k
theorem fX.more {V:bG} {k j:Nat} (h:fX V k) (hk:k<=j):fX V j:=fun p hp=>⟨Nat.le_trans (h p hp).1 hk,Nat.le_trans (h p hp).2 hk⟩
theorem CK (m:aF) (V:bG):(gm m V).length=V.length:=by unfold gm;rw [List.length_modify]
theorem mem_modify {α:Type} {f:α->α} {l:List α} {i:Nat} {y:α} (h:y∈l.modify i f):y∈l∨∃x∈l,y=f x:=by
 rw [List.mem_iff_getElem?]at h;obtain⟨j,hj⟩:=h;rw [List.getElem?_modify]at hj;cases hl:l[j]? with
 |none=>rw [hl]at hj;simp at hj
 |some x=>
  rw [hl]at hj;simp only [Option.map_eq_map,Option.map_some,Option.some.injEq]at hj;have hx:x∈l:=List.mem_iff_getElem?.2 ⟨j,hl⟩;split at hj
  ·exact .inr ⟨x,hx,hj.symm⟩
  exact .inl (by rw [<-hj];exact hx)
theorem aX.F0 {m:aF} {x:aX} (h:kF m.side x.lv):kF m.side (x.app m).lv:=by
 unfold aX.app;split
 ·split<;>exact h
 exact Pz h
theorem aX.F2 {m:aF} {x:aX} {k:Nat} (h:x.lv.length<=k):(x.app m).lv.length<=k+1:=by
 unfold aX.app;split
 ·split<;>exact Nat.le_succ_of_le h
 exact Nat.le_trans FZ bh
theorem M2 {m:aF} {V:bG} (hm:m.side=1∨m.side=2) (h:xU V):xU (gm m V):=by
 intro p hp;rcases mem_modify hp with hp|⟨x,hx,rfl⟩
 ·exact h p hp
 have h1:=h x hx;unfold vv;rcases hm with hm|hm
 ·rw [if_pos hm];exact⟨hm▸aX.F0 (hm.symm▸h1.1),h1.2⟩
 rw [if_neg bh];exact⟨h1.1,hm▸aX.F0 (hm.symm▸h1.2)⟩
theorem GY {m:aF} {V:bG} {k:Nat} (h:fX V k):fX (gm m V) (k+1):=by
 intro p hp;rcases mem_modify hp with hp|⟨x,hx,rfl⟩
 ·exact h.more (Nat.le_succ k) p hp
 have h1:=h x hx;unfold vv;split
 ·exact⟨aX.F2 h1.1,Nat.le_succ_of_le h1.2⟩
 exact⟨Nat.le_succ_of_le h1.1,aX.F2 h1.2⟩
end Go.Proofs.YtmaijkoopjocdaaGreat
namespace Go.Proofs.YtmaijkoopjocdaaGreat
open Go.RowKit Go.Lib
theorem av.below {w w':World} {g:Nat} {t:TypeId} {cs:Array Value} (h:av w g t cs) (hb:Below ↑w w w'):av w' g t cs:=h.keeps (Below.keeps (F:=fun _=>False) hb) (fun x=>x)
theorem ct (w:World) (pr i:Nat) (u:Value):aK (fun g=>g=pr) w (w.setCell ↑(pr,i) u):=(aK.refl (fun g=>g=pr) w).setCell (p:=⟨pr,i,none⟩) (fun _=>rfl) u
theorem av.vP {w:World} {g:Nat} {t:TypeId} {x0 x1 A:Value} (h:av w g t #[x0,x1,A]) (v0 v1 v2:Value):av (((w.setCell ↑g v0).setCell ↑(g,1) v1).setCell ↑(g,2) v2) g t #[v0,v1,v2]:=by have h1:=(((h.aW 0 v0).aW 1 v1).aW 2 v2);simp only [List.setIfInBounds_toArray,List.set_cons_zero,List.set_cons_succ]at h1;exact h1
theorem aK.vP (w:World) (g:Nat) (v0 v1 v2:Value):aK (fun k=>k=g) w (((w.setCell ↑g v0).setCell ↑(g,1) v1).setCell ↑(g,2) v2):=
 ((((aK.refl (fun k=>k=g) w).setCell (p:=⟨g,0,none⟩) (fun _=>rfl) v0).setCell (p:=⟨g,1,none⟩) (fun _=>rfl) v1).setCell (p:=⟨g,2,none⟩) (fun _=>rfl) v2)
theorem av.qc {w:World} {g:Nat} {t:TypeId} {x0 x1 A B C:Value} (h:av w g t #[x0,x1,A,B,C]) (v0 v1 v2 v3 v4:Value):av (((((w.setCell ↑g v0).setCell ↑(g,1) v1).setCell ↑(g,2) v2).setCell ↑(g,3) v3).setCell ↑(g,4) v4) g t #[v0,v1,v2,v3,v4]:=by have h1:=(((((h.aW 0 v0).aW 1 v1).aW 2 v2).aW 3 v3).aW 4 v4);simp only [List.setIfInBounds_toArray,List.set_cons_zero,List.set_cons_succ]at h1;exact h1
theorem aK.qc (w:World) (g:Nat) (v0 v1 v2 v3 v4:Value):aK (fun k=>k=g) w (((((w.setCell ↑g v0).setCell ↑(g,1) v1).setCell ↑(g,2) v2).setCell ↑(g,3) v3).setCell ↑(g,4) v4):=
 ((((((aK.refl (fun k=>k=g) w).setCell (p:=⟨g,0,none⟩) (fun _=>rfl) v0).setCell (p:=⟨g,1,none⟩) (fun _=>rfl) v1).setCell (p:=⟨g,2,none⟩) (fun _=>rfl) v2).setCell (p:=⟨g,3,none⟩) (fun _=>rfl) v3).setCell (p:=⟨g,4,none⟩) (fun _=>rfl) v4)
theorem av.xZ {w:World} {g:Nat} {t:TypeId} {x0 x1 A B C D E:Value} (h:av w g t #[x0,x1,A,B,C,D,E]) (v0 v1 v2 v3 v4 v5 v6:Value):av (((((((w.setCell ↑g v0).setCell ↑(g,1) v1).setCell ↑(g,2) v2).setCell ↑(g,3) v3).setCell ↑(g,4) v4).setCell ↑(g,5) v5).setCell ↑(g,6) v6) g t #[v0,v1,v2,v3,v4,v5,v6]:=by have h1:=(((((((h.aW 0 v0).aW 1 v1).aW 2 v2).aW 3 v3).aW 4 v4).aW 5 v5).aW 6 v6);simp only [List.setIfInBounds_toArray,List.set_cons_zero,List.set_cons_succ]at h1;exact h1
theorem aK.xZ (w:World) (g:Nat) (v0 v1 v2 v3 v4 v5 v6:Value):aK (fun k=>k=g) w (((((((w.setCell ↑g v0).setCell ↑(g,1) v1).setCell ↑(g,2) v2).setCell ↑(g,3) v3).setCell ↑(g,4) v4).setCell ↑(g,5) v5).setCell ↑(g,6) v6):=
 ((((((((aK.refl (fun k=>k=g) w).setCell (p:=⟨g,0,none⟩) (fun _=>rfl) v0).setCell (p:=⟨g,1,none⟩) (fun _=>rfl) v1).setCell (p:=⟨g,2,none⟩) (fun _=>rfl) v2).setCell (p:=⟨g,3,none⟩) (fun _=>rfl) v3).setCell (p:=⟨g,4,none⟩) (fun _=>rfl) v4).setCell (p:=⟨g,5,none⟩) (fun _=>rfl) v5).setCell (p:=⟨g,6,none⟩) (fun _=>rfl) v6)
def DS (x:Int):List Value:= [.int .u8 x]
theorem alE (x:Int):∀u∈DS x,u.oneCell'=true:=by intro u hu;simp only [DS,List.mem_singleton]at hu;rw [hu];rfl
def cZ:bl Int:=⟨DS,1,fun _=>rfl,alE,bh,5,37,.int .u8 0,1,Tryz.underlying37,eP,dn,bh⟩
def aB.cells (x:aB):List Value:= [.int .i64 x.ap,.int .i64 x.aq,.int .i64 x.count]
def aF.cells (x:aF):List Value:= [.int .i64 x.seq,.int .i64 x.inst,.int .i64 x.side,.int .i64 x.ap,.int .i64 x.aq,.int .i64 x.count,.bool x.imp]
def DU:aF:=⟨0,0,0,0,0,0,false⟩
theorem aB.kI (x:aB):∀u∈x.cells,u.oneCell'=true:=by intro u hu;simp only [aB.cells,List.mem_cons,List.not_mem_nil,or_false]at hu;rcases hu with rfl|rfl|rfl<;>rfl
theorem aF.kI (x:aF):∀u∈x.cells,u.oneCell'=true:=by intro u hu;simp only [aF.cells,List.mem_cons,List.not_mem_nil,or_false]at hu;rcases hu with rfl|rfl|rfl|rfl|rfl|rfl|rfl<;>rfl
def bS:bl aB:=⟨aB.cells,3,fun _=>rfl,aB.kI,bh,47,45,.agg jD.cells.toArray,24,Tryz.underlying45,eP,dn,bh⟩
def bK:bl aB:=⟨aB.cells,3,fun _=>rfl,aB.kI,bh,101,100,.agg jD.cells.toArray,24,Tryz.underlying100,eP,dn,bh⟩
def hH:bl aF:=⟨aF.cells,7,fun _=>rfl,aF.kI,bh,86,82,.agg DU.cells.toArray,56,Tryz.underlying82,eP,dn,bh⟩
structure eO where
 a:Option Addr
 n:Nat
 c:Nat
 im:aB
 has:Bool
structure bB where
 s:eO
 t:eO
def eO.cells (x:eO):List Value:= [.slice x.a x.n x.c,.int .i64 x.im.ap,.int .i64 x.im.aq,.int .i64 x.im.count,.bool x.has]
def bB.cells (p:bB):List Value:= [.slice p.s.a p.s.n p.s.c,.int .i64 p.s.im.ap,.int .i64 p.s.im.aq,.int .i64 p.s.im.count,.bool p.s.has,.slice p.t.a p.t.n p.t.c,.int .i64 p.t.im.ap,.int .i64 p.t.im.aq,.int .i64 p.t.im.count,.bool p.t.has]
def mR:eO:=⟨none,0,0,jD,false⟩
def ke:bB:=⟨mR,mR⟩
theorem eO.kI (x:eO):∀u∈x.cells,u.oneCell'=true:=by intro u hu;simp only [eO.cells,List.mem_cons,List.not_mem_nil,or_false]at hu;rcases hu with rfl|rfl|rfl|rfl|rfl<;>rfl
theorem bB.kI (x:bB):∀u∈x.cells,u.oneCell'=true:=by intro u hu;simp only [bB.cells,List.mem_cons,List.not_mem_nil,or_false]at hu;rcases hu with rfl|rfl|rfl|rfl|rfl|rfl|rfl|rfl|rfl|rfl<;>rfl
def ey:bl bB:=⟨bB.cells,10,fun _=>rfl,bB.kI,bh,50,41,.agg ke.cells.toArray,112,Tryz.underlying41,eP,dn,bh⟩
def eJ:bl bB:=⟨bB.cells,10,fun _=>rfl,bB.kI,bh,104,52,.agg ke.cells.toArray,112,Tryz.underlying52,eP,dn,bh⟩
structure bV (Y:bl aB) (w:World) (B:Nat) (s:eO) (d:aX):Prop where
 n:s.n=d.lv.length
 row:Y.Row w B (.slice s.a s.n s.c) d.lv
 im:s.im=d.im
 has:s.has=d.has
def cg (Z:bl bB) (Y:bl aB) (w:World) (B:Nat) (v:Value) (V:bG):Prop:=
 ∃P:List bB,Z.Row w B v P∧P.length=V.length∧∀(j:Nat) (p:bB) (x:aX×aX),P[j]? =some p->V[j]? =some x->bV Y w B p.s x.1∧bV Y w B p.t x.2
section
variable {α:Type} {X:bl α} {Z:bl bB} {Y:bl aB} {w w':World} {B B':Nat} {v:Value} {V:bG} {s:eO} {d:aX} {F:Nat->Prop} {L:List α}
theorem bl.Row.base (h:X.Row w B v L) (hB:B'<=B):X.Row w B' v L:=by
 obtain⟨h1,h2⟩:=h;refine⟨h1,?_⟩;rcases h2 with h2|⟨g,cap,cur,hv,hb,r⟩
 ·exact .inl h2
 exact .inr ⟨g,cap,cur,hv,Nat.le_trans hB hb,r⟩
theorem bl.Row.keep (h:X.Row w B v L) (hk:aK F w w') (hf:∀g,ck w g X.t->¬F g):X.Row w' B v L:=zv h hk fun g hg=>hf g (eo h g hg)
theorem bl.Row.Bd (h:X.Row w B v L) (hk:aK F w w') (hf:∀g,v.ownBlock=some g->¬F g):X.Row w' B v L:=zv h hk hf
theorem bV.below (h:bV Y w B s d) (hb:Below ↑w w w'):bV Y w' B s d:=⟨h.n,h.row.below hb,h.im,h.has⟩
theorem bV.base (h:bV Y w B s d) (hB:B'<=B):bV Y w B' s d:=⟨h.n,h.row.base hB,h.im,h.has⟩
theorem bV.keep (h:bV Y w B s d) (hk:aK F w w') (hf:∀g,ck w g Y.t->¬F g):bV Y w' B s d:=⟨h.n,h.row.keep hk hf,h.im,h.has⟩
theorem bV.zero (w:World) (B:Nat):bV Y w B mR vI:=⟨rfl,bl.Row.nil w B,rfl,rfl⟩
theorem cg.below (h:cg Z Y w B v V) (hb:Below ↑w w w'):cg Z Y w' B v V:=by obtain⟨P,h1,h2,h3⟩:=h;exact⟨P,h1.below hb,h2,fun j p x hp hx=>⟨(h3 j p x hp hx).1.below hb,(h3 j p x hp hx).2.below hb⟩⟩
theorem cg.base (h:cg Z Y w B v V) (hB:B'<=B):cg Z Y w B' v V:=by obtain⟨P,h1,h2,h3⟩:=h;exact⟨P,h1.base hB,h2,fun j p x hp hx=>⟨(h3 j p x hp hx).1.base hB,(h3 j p x hp hx).2.base hB⟩⟩
theorem cg.keep (h:cg Z Y w B v V) (hk:aK F w w') (hz:∀g,ck w g Z.t->¬F g) (hy:∀g,ck w g Y.t->¬F g):cg Z Y w' B v V:=by obtain⟨P,h1,h2,h3⟩:=h;exact⟨P,h1.keep hk hz,h2,fun j p x hp hx=>⟨(h3 j p x hp hx).1.keep hk hy,(h3 j p x hp hx).2.keep hk hy⟩⟩
theorem cg.form (h:cg Z Y w B v V):∃a c,v= .slice a V.length c:=by obtain⟨P,h1,h2,_⟩:=h;obtain⟨a,c,e⟩:=h1.form;exact⟨a,c,by rw [e,h2]⟩
theorem cg.nil (w:World) (B:Nat):cg Z Y w B (.slice none 0 0) []:=⟨[],bl.Row.nil w B,rfl,fun j p x hp=>by simp at hp⟩
theorem cg.get (h:cg Z Y w B v V) {j:Nat} {x:aX×aX} (hj:V[j]? =some x):∃(g cap:Nat) (p:bB),v= .slice ↑g V.length cap∧g<w.heap.size∧iI w g (j*Z.m) (Z.cells p)∧bV Y w B p.s x.1∧bV Y w B p.t x.2:=by obtain⟨P,h1,h2,h3⟩:=h;have hl:=dM hj;have hp:P[j]? =some (P[j]' bh):=List.getElem?_eq_getElem bh;obtain⟨g,cap,e1,e2,bJ⟩:=h1.at_ j _ hp;obtain⟨a,b⟩:=h3 j _ x hp hj;exact⟨g,cap,_,by rw [e1,h2],e2,bJ,a,b⟩
theorem iI.one {b o:Nat} {x:Int} (h:iI w b o (DS x)):w.cell? ↑(b,o)=some (.int .u8 x):=h 0 _ rfl
end
end Go.Proofs.YtmaijkoopjocdaaGreat
namespace Go.Proofs.YtmaijkoopjocdaaGreat
section
variable {P:Program} {ops:Array Oper} {Q:Exit->Act->World->Prop} {md:Region.Mode} {S:World->Prop}
theorem ak2 {i j:Nat} {oi oj:Oper} {f:Nat} {L:Array Bool} {a:Act} {w:World} (B:ops[i]? =some oi) (A:ops[j]? =some oj) (hr:Region.ready md ops L= [i,j])
 (h1:∀K':Act->World->Prop,Shut (∀a w,S w->(S w->iX P md ops Q S f (L.setIfInBounds i true) a w)->K' a w)->if Region.wanted oi (yielded ops a.tmps)=true then Oper.wp P oi a w K' Q else K' (a.put oi.dst undef) w)
 (h2:∀K':Act->World->Prop,Shut (∀a w,S w->(S w->iX P md ops Q S f (L.setIfInBounds j true) a w)->K' a w)->if Region.wanted oj (yielded ops a.tmps)=true then Oper.wp P oj a w K' Q else K' (a.put oj.dst undef) w):iX P md ops Q S (f+1) L a w:=by
 refine⟨fun h0=>(by rw [hr]at h0;cases h0),fun k hk=>?_⟩;rw [hr]at hk;have hk2:k=i∨k=j:=by simpa using hk
 rcases hk2 with rfl|rfl
 ·exact wpOp_step B fun K' hK=>h1 K' fun b u hS hW=>hK b u ⟨fun _=>hS,hW hS⟩
 exact wpOp_step A fun K' hK=>h2 K' fun b u hS hW=>hK b u ⟨fun _=>hS,hW hS⟩
theorem lZ (i j:Nat) {oi oj:Oper} {f n:Nat} {L:Array Bool} {a:Act} {w:World} (h1:∀K':Act->World->Prop,Shut (∀a w,S w->(S w->iX P md ops Q S f (L.setIfInBounds i true) a w)->K' a w)->if Region.wanted oi (yielded ops a.tmps)=true then Oper.wp P oi a w K' Q else K' (a.put oi.dst undef) w) (h2:∀K':Act->World->Prop,Shut (∀a w,S w->(S w->iX P md ops Q S f (L.setIfInBounds j true) a w)->K' a w)->if Region.wanted oj (yielded ops a.tmps)=true then Oper.wp P oj a w K' Q else K' (a.put oj.dst undef) w) (hn:n=f+1:=by rfl) (B:ops[i]? =some oi:=by simp only [List.getElem?_toArray];rfl) (A:ops[j]? =some oj:=by simp only [List.getElem?_toArray];rfl) (hr:Region.ready md ops L= [i,j]:=by kernel_rfl):iX P md ops Q S n L a w:=by subst hn;exact ak2 B A hr h1 h2
end
end Go.Proofs.YtmaijkoopjocdaaGreat
