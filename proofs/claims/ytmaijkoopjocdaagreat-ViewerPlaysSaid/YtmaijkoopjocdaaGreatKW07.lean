import Derived.Test.YtmaijkoopjocdaaGreatKW06
import Derived.Laws.BytesArg
import Derived.Lib.Bytes
set_option maxRecDepth 100000
set_option maxHeartbeats 64000000
namespace Go.Proofs.YtmaijkoopjocdaaGreat
open Go Go.Lib
def AK (s:bH):aF×Int×bH:=
 (⟨s.long.1,(s.long.2.num 1).1,((s.long.2.num 1).2.num 1).1,((s.long.2.num 1).2.num 1).2.long.1,((s.long.2.num 1).2.num 1).2.long.2.long.1,((s.long.2.num 1).2.num 1).2.long.2.long.2.long.1,(((s.long.2.num 1).2.num 1).2.long.2.long.2.long.2.num 1).1==1⟩,
  (((s.long.2.num 1).2.num 1).2.long.2.long.2.long.2.num 1).1,(((s.long.2.num 1).2.num 1).2.long.2.long.2.long.2.num 1).2)
def pg (b:List Int):Option aF:=
 if((AK ⟨b,false⟩).2.2.bad=true∨(AK ⟨b,false⟩).2.2.bs≠ [])∨1<(AK ⟨b,false⟩).2.1∨¬((AK ⟨b,false⟩).1.side=1∨(AK ⟨b,false⟩).1.side=2)then none else some (AK ⟨b,false⟩).1
def eB (z:Int):Prop:= -9223372036854775808<=z∧z<=9223372036854775807
structure aF.Gl (m:aF):Prop where
 seq:eB m.seq
 inst:0<=m.inst∧m.inst<=255
 ap:eB m.ap
 aq:eB m.aq
 count:eB m.count
theorem FQ {b:List Int} (hb:∀z∈b,isByte z) {m:aF} (h:pg b=some m):m.Gl∧(m.side=1∨m.side=2):=by
 unfold pg at h;split at h
 ·cases h
 rename_i hc;injection h with h;subst h;have h0:(⟨b,false⟩:bH).ok:=hb;refine⟨⟨L5 _,bH.Lm (bH.Oc h0),L5 _,L5 _,L5 _⟩,?_⟩;exact Decidable.not_not.1 fun hn=>hc (.inr (.inr hn))
def mY (s:bH):aB×bH:=(⟨s.long.1,s.long.2.long.1,s.long.2.long.2.long.1⟩,s.long.2.long.2.long.2)
def oX:Nat->bH->List aB×bH
 |0,s=>([],s)
 |n+1,s=>((mY s).1::(oX n (mY s).2).1,(oX n (mY s).2).2)
def xH (l:List aB) (s:bH):aX×Bool×bH:=
 if(s.num 1).1=1 then(⟨l,(mY (s.num 1).2).1,true⟩,true,(mY (s.num 1).2).2)else(⟨l,jD,false⟩,decide ((s.num 1).1<=1),(s.num 1).2)
def mm (s:bH):aX×Bool×bH:=xH (oX (s.num 1).1.toNat (s.num 1).2).1 (oX (s.num 1).1.toNat (s.num 1).2).2
def m3:Nat->bH->bG×Bool×bH
 |0,s=>([],true,s)
 |n+1,s=>(((mm s).1,(mm (mm s).2.2).1)::(m3 n (mm (mm s).2.2).2.2).1,((mm s).2.1&&(mm (mm s).2.2).2.1&&(m3 n (mm (mm s).2.2).2.2).2.1),(m3 n (mm (mm s).2.2).2.2).2.2)
def Da:Nat->bH->List aB×bH
 |0,s=>([],s)
 |n+1,s=>if s.bad=true then([],s)else((mY s).1::(Da n (mY s).2).1,(Da n (mY s).2).2)
def xP (s:bH):aX×Bool×bH:=xH (Da (s.num 1).1.toNat (s.num 1).2).1 (Da (s.num 1).1.toNat (s.num 1).2).2
def BI:Nat->bH->bG×Bool×bH
 |0,s=>([],true,s)
 |n+1,s=>if s.bad=true then([],true,s)else(((xP s).1,(xP (xP s).2.2).1)::(BI n (xP (xP s).2.2).2.2).1,((xP s).2.1&&(xP (xP s).2.2).2.1&&(BI n (xP (xP s).2.2).2.2).2.1),(BI n (xP (xP s).2.2).2.2).2.2)
def iW (s t:bH):Prop:=s.bad=true->t=s
theorem iW.trans {s t u:bH} (h:iW s t) (k:iW t u):iW s u:=fun hs=>by have h1:=h hs;rw [<-h1];exact k (by rw [h1];exact hs)
theorem AG (n:Nat) (s:bH):iW s (s.num n).2:=fun h=>by rw [bH.Ol h]
theorem Be (s:bH):iW s s.long.2:=fun h=>by rw [bH.asr h]
theorem OG (s:bH):iW s (mY s).2:=(Be s).trans ((Be _).trans (Be _))
theorem Bf:∀(n:Nat) (s:bH),iW s (oX n s).2
 |0,_=>fun _=>rfl
 |n+1,s=>(OG s).trans (Bf n _)
theorem OH (l:List aB) (s:bH):iW s (xH l s).2.2:=by
 unfold xH;split
 ·exact(AG 1 s).trans (OG _)
 exact AG 1 s
theorem Bi (s:bH):iW s (mm s).2.2:=(AG 1 s).trans ((Bf _ _).trans (OH _ _))
theorem Bk:∀(n:Nat) (s:bH),iW s (m3 n s).2.2
 |0,_=>fun _=>rfl
 |n+1,s=>(Bi s).trans ((Bi _).trans (Bk n _))
theorem OI:∀(n:Nat) (s:bH),(Da n s=oX n s∨((Da n s).2.bad=true∧(oX n s).2.bad=true))∧(Da n s).2=(oX n s).2
 |0,_=>⟨.inl rfl,rfl⟩
 |n+1,s=>by
  unfold Da;by_cases h:s.bad=true
  ·rw [if_pos h];have h1:=Bf (n+1) s h;exact⟨.inr ⟨h,by rw [h1];exact h⟩,h1.symm⟩
  rw [if_neg h];obtain⟨h1,h2⟩:=OI n (mY s).2;refine⟨?_,h2⟩;rcases h1 with h1|h1
  ·left;unfold oX;rw [h1]
  exact .inr h1
theorem OJ (s:bH):(xP s).2.2=(mm s).2.2∧((mm s).2.2.bad=false->xP s=mm s):=by
 obtain⟨h1,h2⟩:=OI (s.num 1).1.toNat (s.num 1).2;unfold xP mm;rcases h1 with h1|h1
 ·rw [h1];exact⟨rfl,fun _=>rfl⟩
 have e1:∀l t,(xH l t).2.2=(xH [] t).2.2:=fun l t=>by unfold xH;split<;>rfl
 rw [e1 (Da _ _).1,e1 (oX _ _).1,h2];refine⟨rfl,fun hb=>?_⟩;have h3:=OH [] (oX (s.num 1).1.toNat (s.num 1).2).2 h1.2;rw [h3,h1.2]at hb;cases hb
theorem Kv:∀(n:Nat) (s:bH),((BI n s).2.2.bad=true∧(m3 n s).2.2.bad=true)∨BI n s=m3 n s
 |0,_=> .inr rfl
 |n+1,s=>by
  unfold BI;by_cases h:s.bad=true
  ·rw [if_pos h];exact .inl ⟨h,by rw [Bk (n+1) s h];exact h⟩
  rw [if_neg h];have a:=OJ s;have b:=OJ (mm s).2.2;rw [a.1,b.1];have ih:=Kv n (mm (mm s).2.2).2.2;rcases ih with ih|ih
  ·left;exact ih
  rw [ih];by_cases hb:(m3 n (mm (mm s).2.2).2.2).2.2.bad=true
  ·left;exact⟨hb,hb⟩
  right
  have m2:(mm (mm s).2.2).2.2.bad=false:=by
   cases hx:(mm (mm s).2.2).2.2.bad with
   |false=>rfl
   |true=>exact absurd (by rw [Bk n _ hx];exact hx) hb
  have m1:(mm s).2.2.bad=false:=by
   cases hx:(mm s).2.2.bad with
   |false=>rfl
   |true=>rw [Bi _ hx,hx]at m2;cases m2
  rw [a.2 m1,b.2 m2];rfl
def yz (side:Int):List aB->Bool
 | []=>true
 | [x]=>decide (1<=x.aq∧1<=x.count)
 |x::y::t=>decide (1<=x.aq∧1<=x.count)&&cT side x.ap y.ap&&yz side (y::t)
def ji (side:Int) (x:aX):Bool:=yz side x.lv&&decide (x.lv.length<=255)&&(if x.has=true then decide (1<=x.im.aq∧1<=x.im.count)else decide (x.im=jD))
def ql (V:bG):Bool:=V.all (fun p=>ji 1 p.1&&ji 2 p.2)&&decide (V.length<=255)
theorem TU {side:Int}:∀{l:List aB},yz side l=true->kF side l
 | [],_=>List.Pairwise.nil
 | [x],_=>List.pairwise_singleton _ _
 |x::y::t,h=>by
  simp only [yz,Bool.and_eq_true]at h;have h1:=TU h.2;refine List.pairwise_cons.2 ⟨fun z hz=>?_,h1⟩;rcases List.mem_cons.1 hz with rfl|hz
  ·exact h.1.2
  exact D1 h.1.2 ((List.pairwise_cons.1 h1).1 z hz)
theorem Zi {V:bG} (h:ql V=true):xU V∧fX V 255∧V.length<=255:=by simp only [ql,ji,Bool.and_eq_true,List.all_eq_true,decide_eq_true_eq]at h;exact⟨fun p hp=>⟨TU (h.1 p hp).1.1.1,TU (h.1 p hp).2.1.1⟩,fun p hp=>⟨(h.1 p hp).1.1.2,(h.1 p hp).2.1.2⟩,h.2⟩
def vB (c:Int):Int:=if c % 2=1 then bits .xor .u32 (c / 2) 3988292384 else c / 2
def Gc (c x:Int):Int:=vB (vB (vB (vB (vB (vB (vB (vB (bits .xor .u32 c x))))))))
def oh (c:Int) (l:List Int):Int:=l.foldl Gc c
def rB (l:List Int):Int:=bits .xor .u32 4294967295 (oh 4294967295 l)
def qJ (c:Int):Prop:=0<=c∧c<4294967296
theorem Gd (op:BinOp) (x y:Int):qJ (bits op .u32 x y):=by unfold bits qJ;rw [IntKind.wrap_u32];omega
theorem SP (k:IntKind) (x y:Int):bits .xor k x y=bits .xor k y x:=by unfold bits;simp only [BitVec.xor_comm]
theorem AJ {c:Int} (h:qJ c):qJ (vB c):=by
 unfold vB;split
 ·exact Gd _ _ _
 unfold qJ at*;omega
theorem alH {c x:Int}:qJ (Gc c x):=by unfold Gc;exact AJ (AJ (AJ (AJ (AJ (AJ (AJ (AJ (Gd _ _ _))))))))
theorem Pj:∀{l:List Int} {c:Int},qJ c->qJ (oh c l)
 | [],_,h=>h
 |x::t,c,_=>by show qJ (oh (Gc c x) t);exact Pj alH
def r3 (c:Int):List Int:= [c % 256,c / 256 % 256,c / 65536 % 256,c / 16777216 % 256]
theorem arW {c:Int} (hc:qJ c) {s:List Int} (hs:∀z∈s,isByte z) (hl:s.length=4):r3 c=s↔c=leZ s:=by
 match s,hl with
 | [a,b,x,y],_=>
   have h1:=hs a cU;have h2:=hs b cU;have h3:=hs x cU;have h4:=hs y cU;unfold isByte at h1 h2 h3 h4;unfold qJ at hc;simp only [r3,leZ,List.cons.injEq,and_true];constructor
   ·rintro⟨rfl,rfl,rfl,rfl⟩;omega
   rintro rfl;omega
def ld (b:List Int):Int×bG×Int:=
 if b.length<4 then(14,[],0)else
 if r3 (rB (b.take (b.length-4)))≠b.drop (b.length-4)then(14,[],0)else
 if(m3 ((⟨b.take (b.length-4),false⟩:bH).long.2.num 1).1.toNat ((⟨b.take (b.length-4),false⟩:bH).long.2.num 1).2).2.1=true∧
   (m3 ((⟨b.take (b.length-4),false⟩:bH).long.2.num 1).1.toNat ((⟨b.take (b.length-4),false⟩:bH).long.2.num 1).2).2.2.bad=false∧
   (m3 ((⟨b.take (b.length-4),false⟩:bH).long.2.num 1).1.toNat ((⟨b.take (b.length-4),false⟩:bH).long.2.num 1).2).2.2.bs= []∧
   ql (m3 ((⟨b.take (b.length-4),false⟩:bH).long.2.num 1).1.toNat ((⟨b.take (b.length-4),false⟩:bH).long.2.num 1).2).1=true
 then(0,(m3 ((⟨b.take (b.length-4),false⟩:bH).long.2.num 1).1.toNat ((⟨b.take (b.length-4),false⟩:bH).long.2.num 1).2).1,(⟨b.take (b.length-4),false⟩:bH).long.1)else(12,[],0)
theorem wO {b:List Int} {V:bG} {q:Int} (h:ld b=(0,V,q)):xU V∧fX V 255∧V.length<=255∧eB q:=by
 unfold ld at h;split at h
 ·cases h
 split at h
 ·cases h
 split at h
 ·rename_i hc;injection h with _ h;injection h with h1 h2;subst h1;subst h2;have:=Zi hc.2.2.2;exact⟨this.1,this.2.1,this.2.2,L5 _⟩
 cases h
structure ig where
 V:bG
 seq:Int
 H:List aF
def jN:List aF->bG->Int->ig
 | [],V,q=>⟨V,q,[]⟩
 |m::t,V,q=>if m.seq-1<=q then(if m.seq-1=q then jN t (gm m V) m.seq else jN t V q)else⟨V,q,m::t⟩
def RX:Nat->ig->ig
 |0,s=>s
 |f+1,s=>match s.H.findIdx? (fun m=>m.seq==s.seq+1)with
  |none=>s
  |some k=>match s.H[k]? with
   |none=>s
   |some m=>RX f ⟨gm m s.V,s.seq+1,s.H.take k++s.H.drop (k+1)⟩
def gV (m:aF) (H:List aF):List aF:=H.takeWhile (fun x=>decide (x.seq<m.seq))++m::H.dropWhile (fun x=>decide (x.seq<m.seq))
def kP (q:Int) (H:List aF):Bool:=H.any (fun x=>x.seq==q)
def iF (n:Nat) (s:ig) (b:List Int):Int×ig:=
 match pg b with
 |none=>(12,s)
 |some m=>if m.seq<1∨zQ n m=false then(12,s)else if m.seq<=s.seq∨kP m.seq s.H=true then(33,s)else if m.seq-1=s.seq then(0,jN s.H (gm m s.V) m.seq)else if 4096<=s.H.length then(13,s)else(32,⟨s.V,s.seq,gV m s.H⟩)
def jE (n:Nat) (s:ig) (b:List Int):Int×ig:=
 match pg b with
 |none=>(12,s)
 |some m=>if m.seq<1∨zQ n m=false then(12,s)else if m.seq<=s.seq∨kP m.seq s.H=true then(33,s)else if m.seq-1=s.seq then(0,RX s.H.length ⟨gm m s.V,m.seq,s.H⟩)else if 4096<=s.H.length then(13,s)else(32,⟨s.V,s.seq,s.H++ [m]⟩)
def r4 (n:Nat) (s:ig) (b:List Int):Int×ig:=
 if(ld b).1≠0 then((ld b).1,s)else if(ld b).2.1.length≠n∨(ld b).2.2<0 then(12,s)else if(ld b).2.2<s.seq then(33,s)else(0,jN s.H (ld b).2.1 (ld b).2.2)
def n3 (n:Nat) (s:ig) (b:List Int):Int×ig:=
 if(ld b).1≠0 then((ld b).1,s)else if(ld b).2.1.length≠n∨(ld b).2.2<0 then(12,s)else if(ld b).2.2<s.seq then(33,s)else(0,RX (s.H.filter (fun m=>decide ((ld b).2.2<m.seq))).length ⟨(ld b).2.1,(ld b).2.2,s.H.filter (fun m=>decide ((ld b).2.2<m.seq))⟩)
structure Bc (n:Nat) (m:aF):Prop where
 f:Az n m
 o:m.Gl
 s1:1<=m.seq
structure pL (n c:Nat) (s:ig):Prop where
 len:s.V.length=n
 oH:xU s.V
 q0:0<=s.seq
 q1:s.seq<=9223372036854775807
 hh:∀m∈s.H,Bc n m
 hl:s.H.length<=c
 sz:∃j,fX s.V j∧j+s.H.length<=255+c
def sG (H:List aF):Prop:=H.Pairwise (fun a b=>a.seq<b.seq)
theorem pL.more {n c d:Nat} {s:ig} (h:pL n c s) (hd:c<=d):pL n d s:=by obtain⟨j,h1,h2⟩:=h.sz;exact⟨h.len,h.oH,h.q0,h.q1,h.hh,Nat.le_trans h.hl hd,j,h1,bh⟩
theorem OQ {n c:Nat}:∀{H:List aF} {V:bG} {q:Int} {j:Nat},V.length=n->xU V->0<=q->q<=9223372036854775807->(∀m∈H,Bc n m)->H.length<=c->fX V j->j+H.length<=255+c->pL n c (jN H V q)
 | [],V,q,j,h1,h2,h3,h4,h5,h6,h7,h8=>⟨h1,h2,h3,h4,h5,h6,j,h7,h8⟩
 |m::t,V,q,j,h1,h2,h3,h4,h5,h6,h7,h8=>by
  have hm:=h5 m cU;have ht:∀x∈t,Bc n x:=fun x hx=>h5 x (by simp [hx]);have hl:t.length<=c:=by rw [List.length_cons]at h6;omega
  rw [List.length_cons]at h8;unfold jN;split
  ·split
   ·exact OQ (by rw [CK];exact h1) (M2 hm.f.sd h2) (by have:=hm.s1;omega) hm.o.seq.2 ht hl (GY h7) bh
   exact OQ h1 h2 h3 h4 ht hl h7 bh
  exact⟨h1,h2,h3,h4,h5,h6,j,h7,by rw [List.length_cons];exact h8⟩
theorem OP (m:aF) (H:List aF):(gV m H).Perm (m::H):=by unfold gV;have:=List.perm_middle (a:=m) (l₁:=H.takeWhile (fun x=>decide (x.seq<m.seq))) (l₂:=H.dropWhile (fun x=>decide (x.seq<m.seq)));rwa [List.takeWhile_append_dropWhile]at this
theorem OO (m:aF) (H:List aF):(gV m H).length=H.length+1:=(OP m H).length_eq
theorem FV {m:aF}:∀{H:List aF},sG H->kP m.seq H=false->sG (gV m H)
 | [],_,_=>List.pairwise_singleton _ _
 |x::t,ha,hq=>by
  have hc:=List.pairwise_cons.1 ha;simp only [kP,List.any_cons,Bool.or_eq_false_iff]at hq;have hne:x.seq≠m.seq:=by simpa using hq.1
  have ih:=FV hc.2 hq.2;unfold gV at ih⊢;by_cases hx:x.seq<m.seq
  ·have hd:decide (x.seq<m.seq)=true:=decide_eq_true hx;rw [List.takeWhile_cons,List.dropWhile_cons,hd];refine List.pairwise_cons.2 ⟨fun y hy=>?_,ih⟩;have A:=(OP m t).mem_iff.1 (show y∈gV m t from hy);rcases List.mem_cons.1 A with rfl|A
   ·exact hx
   exact hc.1 y A
  have hd:decide (x.seq<m.seq)=false:=decide_eq_false hx;rw [List.takeWhile_cons,List.dropWhile_cons,hd];refine List.pairwise_cons.2 ⟨fun y hy=>?_,ha⟩;simp only [Bool.false_eq_true,if_false]at hy;rcases List.mem_cons.1 hy with rfl|hy
  ·omega
  have:=hc.1 y hy;omega
theorem EP {n c:Nat} {s:ig} {b:List Int} (hb:∀z∈b,isByte z) (h:pL n c s):pL n (c+1) (iF n s b).2:=by
 unfold iF;cases hd:pg b with
 |none=>exact h.more (Nat.le_succ c)
 |some m=>
  dsimp only;split
  ·exact h.more (Nat.le_succ c)
  rename_i hm;have hf:Az n m:=IA.1 (by cases hx:zQ n m with|true=>rfl|false=>exact absurd (.inr hx) hm);have ho:=(FQ hb hd).1;have h1:1<=m.seq:=by have:=fun hx=>hm (.inl hx);omega
  split
  ·exact h.more (Nat.le_succ c)
  obtain⟨j,A,hj2⟩:=h.sz;split
  ·exact OQ (by rw [CK];exact h.len) (M2 hf.sd h.oH) bh ho.seq.2 h.hh (Nat.le_succ_of_le h.hl) (GY A) bh
  split
  ·exact h.more (Nat.le_succ c)
  refine⟨h.len,h.oH,h.q0,h.q1,fun x hx=>?_,by rw [OO];have:=h.hl;omega,j,A,by rw [OO];omega⟩;rcases List.mem_cons.1 ((OP m s.H).mem_iff.1 hx)with rfl|hx
  ·exact⟨hf,ho,h1⟩
  exact h.hh x hx
theorem alI {b:List Int} (h:¬(ld b).1≠0):ld b=(0,(ld b).2.1,(ld b).2.2):=by have:(ld b).1=0:=Decidable.not_not.1 h;rw [<-this]
theorem alk {n c:Nat} {s:ig} {b:List Int} (h:pL n c s):pL n c (r4 n s b).2:=by
 unfold r4;split
 ·exact h
 rename_i hz;obtain⟨h1,h2,_,h3⟩:=wO (alI hz);split
 ·exact h
 rename_i hn;split
 ·exact h
 have e1:(ld b).2.1.length=n:=Decidable.not_not.1 fun hx=>hn (.inl hx);have e2:0<=(ld b).2.2:=by have:=fun hx=>hn (.inr hx);omega
 exact OQ e1 h1 e2 h3.2 h.hh h.hl h2 (by have:=h.hl;omega)
structure Rel (s t:ig):Prop where
 v:t.V=s.V
 q:t.seq=s.seq
 p:t.H.Perm s.H
 a:sG s.H
 g:∀m∈s.H,s.seq+1<m.seq
theorem ass {H:List aF} (h:sG H) {a b:aF} (ha:a∈H) (hb:b∈H) (he:a.seq=b.seq):a=b:=by
 induction H with
 |nil=>simp at ha
 |cons x t ih=>
  have hc:=List.pairwise_cons.1 h;rcases List.mem_cons.1 ha with rfl|ha'
  ·rcases List.mem_cons.1 hb with rfl|hb'
   ·rfl
   have:=hc.1 b hb';omega
  rcases List.mem_cons.1 hb with rfl|hb'
  ·have:=hc.1 a ha';omega
  exact ih hc.2 ha' hb'
theorem zk {H:List aF} {q:Int} {k:Nat} (h:H.findIdx? (fun m=>m.seq==q)=some k):∃m,H[k]? =some m∧m∈H∧m.seq=q:=by rw [List.findIdx?_eq_some_iff_getElem]at h;obtain⟨hk,h1,_⟩:=h;exact⟨H[k],List.getElem?_eq_getElem hk,List.getElem_mem hk,by simpa using h1⟩
theorem Mh {α:Type} {H:List α} {k:Nat} {m:α} (h:H[k]? =some m):H.Perm (m::(H.take k++H.drop (k+1))):=by
 have hk:k<H.length:=by
  rcases Nat.lt_or_ge k H.length with h1|h1
  ·exact h1
  rw [List.getElem?_eq_none h1]at h;cases h
 rw [List.getElem?_eq_getElem hk]at h;injection h with h;have e:H=H.take k++m::H.drop (k+1):=by rw [<-h,<-List.drop_eq_getElem_cons hk,List.take_append_drop]
 exact(List.Perm.of_eq e).trans List.perm_middle
theorem Br:∀(H:List aF) (V:bG) (q:Int) (T:List aF) (f:Nat),T.length<=f->T.Perm H->sG H->(∀m∈H,q<m.seq)->Rel (jN H V q) (RX f ⟨V,q,T⟩)
 | [],V,q,T,f,_,hp,_,_=>by
   have hT:T= []:=hp.eq_nil;subst hT;have:RX f ⟨V,q,[]⟩=⟨V,q,[]⟩:=by cases f<;>rfl
   rw [this];exact⟨rfl,rfl,List.Perm.nil,List.Pairwise.nil,fun m hm=>by simp [jN]at hm⟩
 |m::t,V,q,T,f,hf,hp,ha,hg=>by
  have hc:=List.pairwise_cons.1 ha;have E:=hg m cU;have hlen:=hp.length_eq;rw [List.length_cons]at hlen;obtain⟨f,rfl⟩:∃g,f=g+1:=⟨f-1,bh⟩;unfold jN;by_cases h1:m.seq-1<=q
  ·have h2:m.seq-1=q:=by omega
   rw [if_pos h1,if_pos h2];have B:m∈T:=hp.mem_iff.2 cU;obtain⟨k,hk⟩:∃k,T.findIdx? (fun x=>x.seq==q+1)=some k:=by
    cases hx:T.findIdx? (fun x=>x.seq==q+1)with
    |some k=>exact⟨k,rfl⟩
    |none=>rw [List.findIdx?_eq_none_iff]at hx;have:=hx m B;have h3:m.seq=q+1:=bh;simp [h3]at this
   obtain⟨x,hx1,A,D⟩:=zk hk;have C:x=m:=ass ha (hp.mem_iff.1 A) cU bh;subst C;have hq:q+1=x.seq:=bh;have he:=Mh hx1;unfold RX;rw [hk];dsimp only;rw [hx1];dsimp only;rw [hq];refine Br t (gm x V) x.seq _ f ?_ ?_ hc.2 hc.1
   ·have:=he.length_eq;rw [List.length_cons]at this;omega
   exact List.Perm.cons_inv (he.symm.trans hp)
  rw [if_neg h1];have hn:T.findIdx? (fun x=>x.seq==q+1)=none:=by
   rw [List.findIdx?_eq_none_iff];intro x hx;have A:=hp.mem_iff.1 hx;rcases List.mem_cons.1 A with rfl|A
   ·simp;omega
   have:=hc.1 x A;simp;omega
  unfold RX;rw [hn];refine⟨rfl,rfl,hp,ha,fun x hx=>?_⟩;dsimp only;rcases List.mem_cons.1 hx with rfl|hx
  ·omega
  have:=hc.1 x hx;omega
theorem OM:∀(H:List aF) (V:bG) (q:Int),sG H->jN H V q=jN (H.filter (fun m=>decide (q<m.seq))) V q
 | [],_,_,_=>rfl
 |m::t,V,q,ha=>by
  have hc:=List.pairwise_cons.1 ha;by_cases h:q<m.seq
  ·have hall:∀x∈m::t,decide (q<x.seq)=true:=by
    intro x hx;rcases List.mem_cons.1 hx with rfl|hx
    ·exact decide_eq_true h
    exact decide_eq_true (by have:=hc.1 x hx;omega)
   rw [List.filter_eq_self.2 hall]
  rw [List.filter_cons_of_neg (by simpa using h),<-OM t V q hc.2]
  conv=>lhs;unfold jN
  rw [if_pos bh,if_neg bh]
theorem asu {H T:List aF} (hp:T.Perm H) (q:Int):kP q T=kP q H:=by unfold kP;rw [Bool.eq_iff_iff,List.any_eq_true,List.any_eq_true];exact⟨fun⟨x,hx,h⟩=>⟨x,hp.mem_iff.1 hx,h⟩,fun⟨x,hx,h⟩=>⟨x,hp.mem_iff.2 hx,h⟩⟩
theorem Ok {n:Nat} {s t:ig} {b:List Int} (h:Rel s t):(jE n t b).1=(iF n s b).1∧Rel (iF n s b).2 (jE n t b).2:=by
 unfold jE iF;cases hd:pg b with
 |none=>exact⟨rfl,h⟩
 |some m=>
  dsimp only;rw [h.q,asu h.p,h.v,h.p.length_eq];split
  ·exact⟨rfl,h⟩
  split
  ·exact⟨rfl,h⟩
  rename_i hm hq;split
  ·rename_i he;refine⟨rfl,Br _ _ _ _ _ (Nat.le_of_eq h.p.length_eq) h.p h.a fun x hx=>?_⟩;have:=h.g x hx;omega
  split
  ·exact⟨rfl,h⟩
  rename_i hs hl;refine⟨rfl,rfl,rfl,?_,FV h.a (by cases hx:kP m.seq s.H with|false=>rfl|true=>exact absurd (.inr hx) hq),fun x hx=>?_⟩
  ·exact(List.perm_append_singleton m t.H).trans ((List.Perm.cons m h.p).trans (OP m s.H).symm)
  rcases List.mem_cons.1 ((OP m s.H).mem_iff.1 hx)with rfl|hx
  ·have:=fun hx=>hq (.inl hx);dsimp only;omega
  exact h.g x hx
theorem N9 {n:Nat} {s t:ig} {b:List Int} (h:Rel s t):(n3 n t b).1=(r4 n s b).1∧Rel (r4 n s b).2 (n3 n t b).2:=by
 unfold n3 r4;rw [h.q];split
 ·exact⟨rfl,h⟩
 split
 ·exact⟨rfl,h⟩
 split
 ·exact⟨rfl,h⟩
 refine⟨rfl,?_⟩;dsimp only;rw [OM s.H _ _ h.a];refine Br _ _ _ _ _ (Nat.le_refl _) (h.p.filter _) (List.Pairwise.filter _ h.a) fun x hx=>?_
 simpa using(List.mem_filter.1 hx).2
def rM (n:Nat):ig:=⟨List.replicate n (vI,vI),0,[]⟩
theorem QH (n:Nat):pL n 0 (rM n):=
 ⟨List.length_replicate,fun p hp=>by rw [(List.mem_replicate.1 hp).2];exact⟨List.Pairwise.nil,List.Pairwise.nil⟩,Int.le_refl 0,by show(0:Int)<=9223372036854775807;omega,fun m hm=>by simp [rM]at hm,Nat.le_refl 0,0,fun p hp=>by rw [(List.mem_replicate.1 hp).2];exact⟨Nat.le_refl 0,Nat.le_refl 0⟩,by simp [rM]⟩
theorem asl (n:Nat):Rel (rM n) (rM n):=⟨rfl,rfl,List.Perm.nil,List.Pairwise.nil,fun m hm=>by simp [rM]at hm⟩
end Go.Proofs.YtmaijkoopjocdaaGreat
namespace Go.Proofs.YtmaijkoopjocdaaGreat
open Go.RowKit Go.Lib
def pY:Nat->Int->Int
 |0,c=>c
 |k+1,c=>vB (pY k c)
theorem Ph {c:Int} (h:qJ c):∀k,qJ (pY k c)
 |0=>h
 |k+1=>AJ (Ph h k)
theorem Uq (c x:Int):Gc c x=pY 8 (bits .xor .u32 c x):=rfl
theorem Ur (c:Int) (l:List Int) (x:Int):oh c (l++ [x])=Gc (oh c l) x:=by unfold oh;rw [List.foldl_append];rfl
theorem Us {c:Int} (h:qJ c):bits .and .u32 c 1=c % 2:=
 bits_mask .u32 32 b9 wraps_u32 1 b9 c h.1 h.2
theorem Ut {w:World} {v:Value} {bs:List Int} (h:cZ.eT w v bs) {k:Nat} {z:Int} (hk:bs[k]? =some z):∃b off c,v= .slice (some ⟨b,off,none⟩) bs.length c∧w.cell? ⟨b,off+k,none⟩=some (.int .u8 z):=by obtain⟨b,off,c,h1,_,h3⟩:=h.get hk;refine⟨b,off,c,h1,?_⟩;have:=h3 0 _ rfl;rwa [show off+k*cZ.m+0=off+k from by show off+k*1+0=off+k;omega]at this
theorem kH {α:Type} {l:List α} {k:Nat} {x:α} (h:l[k]? =some x):l.take (k+1)=l.take k++ [x]:=by obtain⟨h1,h2⟩:=lB h;rw [List.take_succ_eq_append_getElem h1,h2]
theorem Pd {w:World} {v:Value} {bs:List Int} (h:cZ.eT w v bs) (hl:bs.length<=900000) (hok:∀z∈bs,isByte z):
 Calls Tryz.prog 91 #[v] w fun e w'=>e= .returned (.int .u32 (rB bs))∧w=w':=by
 have F:=af h;have K:=af hok;have N:Ei (∀k,qJ (oh 4294967295 (bs.take k))):=af fun k=>Pj (by unfold qJ;decide);have E:Ei (rB bs=bits .xor .u32 4294967295 (oh 4294967295 (bs.take bs.length))):=af (by rw [List.take_length];rfl);rw [E.o];clear E;obtain⟨a,c,rfl,_,_⟩:=h;clear hok;go_enter Tryz.func91,Tryz.ntmps91;go_wp2_with fail;go_loopw [3,9] (fun y i w'=>∃k:Nat,i=↑k∧y= .int .u32 (oh 4294967295 (bs.take k))∧k<=bs.length∧w=w') (fun _ i _=>bs.length-(RowKit.intOf i).toNat)
 case atStart=>exact⟨0,rfl,rfl,Nat.zero_le _,rfl⟩
 obtain⟨k,rfl,rfl,hk,rfl⟩:=hrel;by_cases hlt:k<bs.length
 ·have hlt':(k:Int)<(bs.length:Int):=by omega
  obtain⟨z,hz⟩:=GB bs k hlt;have J:Ei (oh 4294967295 (bs.take (k+1))=pY 8 (bits .xor .u32 (oh 4294967295 (bs.take k)) z)):=af (by rw [kH hz,Ur,Uq]);have B:=K.o z (List.mem_of_getElem? hz);have y1:IntKind.u32.wrap z=z:=u32_wrap_id z (by have:=B.1;omega) (by have:=B.2;omega);obtain⟨b,off,c',he,c0⟩:=Ut F.o hz;injection he with he _ L;subst he;subst L;generalize oh 4294967295 (bs.take k)=y at*;have I:=af (Gd .xor y z);clear hz B;go_wp2_with fail;generalize bits .xor .u32 y z=x0 at*;go_loopw [3,17] (fun y i w'=>∃j:Nat,i=↑j∧y= .int .u32 (pY j x0)∧j<=8∧w=w') (fun _ i _=>8-(RowKit.intOf i).toNat)
  case atStart=>exact⟨0,rfl,rfl,Nat.zero_le _,cF⟩
  obtain⟨j,rfl,rfl,hj,rfl⟩:=hrel;have hr:=Ph I.o j;have A:Ei (pY (j+1) x0=vB (pY j x0)):=af rfl;have D:Ei (j=8->oh 4294967295 (bs.take (k+1))=pY j x0):=af (by rintro rfl;exact J.o);generalize pY j x0=t at*;by_cases h8:j<8
  ·have G:(j:Int)<8:=by omega
   have q1:bits .and .u32 t 1=t % 2:=Us hr;have O:t.fdiv 2=t / 2:=Int.fdiv_eq_ediv_of_nonneg t b9;by_cases ho:t % 2=1
   ·have ho':(0:Int)<t % 2:=by omega
    have C:Ei (pY (j+1) x0=bits .xor .u32 (t / 2) 3988292384):=af (by rw [A.o];exact if_pos ho);have H:=af hr;clear hr ho A;go_wp2_with fail;go_roundw
    case rel=>exact⟨j+1,dR,by rw [C.o],h8,cF⟩
    exact Ej
   have ho':¬(0:Int)<t % 2:=bh;have C:Ei (pY (j+1) x0=t / 2):=af (by rw [A.o];exact if_neg ho);have H:=af hr;clear hr ho A;go_wp2_with fail;go_roundw
   case rel=>exact⟨j+1,dR,by rw [C.o],h8,cF⟩
   exact Ej
  obtain rfl:j=8:=bh;have M:Ei (oh 4294967295 (bs.take (k+1))=t):=af (D.o rfl);clear D;go_wp2_with fail;go_roundw
  case rel=>exact⟨k+1,dR,by rw [M.o],hlt,cF⟩
  exact Ej
 obtain rfl:k=bs.length:=bh;go_wp2_with fail;go_ret;exact⟨cF,cF⟩
theorem Wz (side x y:Int) (w:World):
 Calls Tryz.prog 123 #[↑side,↑x,↑y] w fun e w'=>e= .returned (.bool (cT side x y))∧w=w':=by
 by_cases h:side=1
 ·subst h;go_enter Tryz.func123,Tryz.ntmps123;go_wp2_with fail;go_ret;exact⟨dn,cF⟩
 have hv:cT side x y=decide (x<y):=if_neg h;rw [hv];have h1:(side==1)=false:=by rw [beq_eq_false_iff_ne];exact h
 go_enter Tryz.func123,Tryz.ntmps123;go_wp2_with fail;go_ret;exact⟨cF,cF⟩
theorem WA (side x y:Int) (w:World):
 Calls Tryz.prog 72 #[↑side,↑x,↑y] w fun e w'=>e= .returned (.bool (cT side x y))∧w=w':=by
 unfold cT;by_cases h:side=1
 ·subst h;go_enter Tryz.func72,Tryz.ntmps72;go_wp2_with fail;go_ret;exact⟨cF,cF⟩
 have hb:(side==1)=false:=by rw [beq_eq_false_iff_ne];exact h
 rw [if_neg h];go_enter Tryz.func72,Tryz.ntmps72;go_wp2_with fail;go_ret;exact⟨cF,cF⟩
def aB.agg (x:aB):Value:= .agg #[.int .i64 x.ap,.int .i64 x.aq,.int .i64 x.count]
def aF.agg (m:aF):Value:= .agg #[.int .i64 m.seq,.int .i64 m.inst,.int .i64 m.side,.int .i64 m.ap,.int .i64 m.aq,.int .i64 m.count,.bool m.imp]
theorem Z8 (x:aB) (ay:Nat) (p:Int) (w:World) (hg:ay<w.heap.size) (hc:w.cell? ↑(ay,3)=↑p):
 Calls Tryz.prog 120 #[x.agg,.pointer ↑ay] w fun e w'=>e= .returned (.bool (x.ap==p))∧Below ↑w w w':=by
 unfold aB.agg;have B:(w.alloc (.cells #[↑x.ap,↑x.aq,↑x.count] 47)).cell? ↑(ay,3)=↑p:=((Below.aI w _).cell (p:=⟨ay,3,none⟩) hg).trans hc;have A:=af (Below.aI w (.cells #[↑x.ap,↑x.aq,↑x.count] 47));clear hc;go_enter Tryz.func120,Tryz.ntmps120;go_wp2_with fail;go_ret;exact⟨cF,A.o⟩
theorem afc (x:aB) (ay:Nat) (sd p:Int) (w:World) (hg:ay<w.heap.size) (A:w.cell? ↑(ay,2)=↑sd) (hc:w.cell? ↑(ay,3)=↑p):
 Calls Tryz.prog 122 #[x.agg,.pointer ↑ay] w fun e w'=>e= .returned (.bool (cT sd p x.ap))∧Below ↑w w w':=by
 unfold aB.agg;have C:(w.alloc (.cells #[↑x.ap,↑x.aq,↑x.count] 47)).cell? ↑(ay,2)=↑sd:=((Below.aI w _).cell (p:=⟨ay,2,none⟩) hg).trans A;have D:(w.alloc (.cells #[↑x.ap,↑x.aq,↑x.count] 47)).cell? ↑(ay,3)=↑p:=((Below.aI w _).cell (p:=⟨ay,3,none⟩) hg).trans hc;have B:=af (Below.aI w (.cells #[↑x.ap,↑x.aq,↑x.count] 47));clear hc A;go_enter Tryz.func122,Tryz.ntmps122;go_wp2_with fail;refine(Wz sd p x.ap _).mono ?_;rintro e w1 ⟨rfl,rfl⟩;go_wp2_with fail;go_ret;exact⟨cF,B.o⟩
def n8 {α:Type} (f:α->Bool) (L:List α):Int:=match L.findIdx? f with|some k=>k|none=> -1
theorem WC {α:Type} {f:α->Bool} {L:List α} {k:Nat} {x:α} (hx:L[k]? =some x) (h:∀(j:Nat) (y:α),j<k->L[j]? =some y->f y=false) (hf:f x=true):n8 f L=k:=by
 have:L.findIdx? f=some k:=by rw [List.findIdx?_eq_some_iff_getElem];obtain⟨h1,h2⟩:=lB hx;exact⟨h1,by rw [h2];exact hf,fun j hj=>by have:=h j _ hj (List.getElem?_eq_getElem bh);simpa using this⟩
 unfold n8;rw [this]
theorem WD {α:Type} {f:α->Bool} {L:List α} (h:∀(j:Nat) (y:α),L[j]? =some y->f y=false):n8 f L= -1:=by
 have:L.findIdx? f=none:=by rw [List.findIdx?_eq_none_iff];intro x hx;obtain⟨j,hj⟩:=List.mem_iff_getElem?.1 hx;exact h j x hj
 unfold n8;rw [this]
theorem Ir {w:World} {v:Value} {L:List aB} (h:bS.eT w v L) (hl:L.length<=900000) (ay:Nat) (p:Int) (hg:ay<w.heap.size) (hc:w.cell? ↑(ay,3)=↑p):
 Calls Tryz.prog 119 #[v,.func (Fn.func 120) #[] #[.pointer ↑ay]] w fun e w'=>e= .returned (.int .i64 (n8 (fun y=>y.ap==p) L))∧Below ↑w w w':=by
 have M:=af h;obtain⟨a,c,rfl,_,_⟩:=h;have J:=af hg;have O:=af hc;clear hg hc;go_enter Tryz.func119,Tryz.ntmps119;go_wp2_with fail;go_loopw [8] (fun i w'=>∃k:Nat,i=↑k∧k<=L.length∧(∀j y,j<k->L[j]? =some y->(fun y=>y.ap==p) y=false)∧Below ↑w w w') (fun i _=>L.length-(RowKit.intOf i).toNat)
 case atStart=>exact⟨0,rfl,Nat.zero_le _,fun j y hj=>absurd hj bh,Below.refl _ _⟩
 obtain⟨k,rfl,hk,hall,hb⟩:=hrel;obtain⟨ax,rfl⟩:=aj wr;have A:=af hall;have H:=af hb;have G:ay<ax.heap.size:=Nat.lt_of_lt_of_le J.o hb.size;have F:ax.cell? ↑(ay,3)=↑p:=(hb.cell (p:=⟨ay,3,none⟩) J.o).trans O.o;have hsl:=M.o.below hb;clear hall hb;by_cases hlt:k<L.length
 ·have hlt':(k:Int)<(L.length:Int):=by omega
  obtain⟨x,hx⟩:=GB L k hlt;obtain⟨b,off,c',he,_,hcs⟩:=hsl.get hx;injection he with he _ P;subst he;subst P;have c0:ax.cell? ↑(b,off+k*3)=↑x.ap:=hcs 0 _ rfl;have c1:ax.cell? ↑(b,off+k*3+1)=↑x.aq:=hcs 1 _ rfl;have c2:ax.cell? ↑(b,off+k*3+2)=↑x.count:=hcs 2 _ rfl;have D:=af (Z8 x ay p _ G F);have K:=af hx;unfold aB.agg at D;clear hcs hx hsl F G;go_wp2_with fail;refine D.o.mono ?_;rintro e w1 ⟨rfl,hb1⟩;have I:=ag H hb1;clear hb1 D c0 c1 c2;by_cases ht:(fun y=>y.ap==p) x=true
  ·have E:=ht;dsimp only at E;have B:=af (WC K.o A.o ht);clear ht;go_wp2_with fail;go_ret;exact⟨by rw [B.o];try rfl,I.o⟩
  have C:(fun y=>y.ap==p) x=false:=by simpa using ht
  have E:=C;dsimp only at E;have N:=af C;clear ht C;go_wp2_with fail;go_roundw
  case rel=>
   refine⟨k+1,dR,hlt,fun j y hj hy=>?_,I.o⟩;rcases Nat.lt_or_ge j k with h1|h1
   ·exact A.o j y h1 hy
   have:j=k:=bh;subst this;have h2:=K.o;rw [hy]at h2;injection h2 with h2;rw [h2];exact N.o
  exact Ej
 have B:Ei (n8 (fun y=>y.ap==p) L= -1):=af (WD fun j y hy=>A.o j y (by have:=dM hy;omega) hy);clear hsl F G;go_wp2_with fail;go_ret;exact⟨by rw [B.o];try rfl,H.o⟩
theorem T1 {w:World} {v:Value} {L:List aB} (h:bS.eT w v L) (hl:L.length<=900000) (ay:Nat) (sd p:Int) (hg:ay<w.heap.size) (A:w.cell? ↑(ay,2)=↑sd) (hc:w.cell? ↑(ay,3)=↑p):
 Calls Tryz.prog 119 #[v,.func (Fn.func 122) #[] #[.pointer ↑ay]] w fun e w'=>e= .returned (.int .i64 (n8 (fun y=>cT sd p y.ap) L))∧Below ↑w w w':=by
 have N:=af h;obtain⟨a,c,rfl,_,_⟩:=h;have B:=af hg;have P:=af hc;have R:=af A;clear hg hc A;go_enter Tryz.func119,Tryz.ntmps119;go_wp2_with fail;go_loopw [8] (fun i w'=>∃k:Nat,i=↑k∧k<=L.length∧(∀j y,j<k->L[j]? =some y->(fun y=>cT sd p y.ap) y=false)∧Below ↑w w w') (fun i _=>L.length-(RowKit.intOf i).toNat)
 case atStart=>exact⟨0,rfl,Nat.zero_le _,fun j y hj=>absurd hj bh,Below.refl _ _⟩
 obtain⟨k,rfl,hk,hall,hb⟩:=hrel;obtain⟨ax,rfl⟩:=aj wr;have C:=af hall;have J:=af hb;have I:ay<ax.heap.size:=Nat.lt_of_lt_of_le B.o hb.size;have H:ax.cell? ↑(ay,3)=↑p:=(hb.cell (p:=⟨ay,3,none⟩) B.o).trans P.o;have A:ax.cell? ↑(ay,2)=↑sd:=(hb.cell (p:=⟨ay,2,none⟩) B.o).trans R.o;have hsl:=N.o.below hb;clear hall hb;by_cases hlt:k<L.length
 ·have hlt':(k:Int)<(L.length:Int):=by omega
  obtain⟨x,hx⟩:=GB L k hlt;obtain⟨b,off,c',he,_,hcs⟩:=hsl.get hx;injection he with he _ Q;subst he;subst Q;have c0:ax.cell? ↑(b,off+k*3)=↑x.ap:=hcs 0 _ rfl;have c1:ax.cell? ↑(b,off+k*3+1)=↑x.aq:=hcs 1 _ rfl;have c2:ax.cell? ↑(b,off+k*3+2)=↑x.count:=hcs 2 _ rfl;have F:=af (afc x ay sd p _ I A H);have M:=af hx;unfold aB.agg at F;clear hcs hx hsl H A I;go_wp2_with fail;refine F.o.mono ?_;rintro e w1 ⟨rfl,hb1⟩;have K:=ag J hb1;clear hb1 F c0 c1 c2;by_cases ht:(fun y=>cT sd p y.ap) x=true
  ·have G:=ht;dsimp only at G;have D:=af (WC M.o C.o ht);clear ht;go_wp2_with fail;go_ret;exact⟨by rw [D.o];try rfl,K.o⟩
  have E:(fun y=>cT sd p y.ap) x=false:=by simpa using ht
  have G:=E;dsimp only at G;have O:=af E;clear ht E;go_wp2_with fail;go_roundw
  case rel=>
   refine⟨k+1,dR,hlt,fun j y hj hy=>?_,K.o⟩;rcases Nat.lt_or_ge j k with h1|h1
   ·exact C.o j y h1 hy
   have:j=k:=bh;subst this;have h2:=M.o;rw [hy]at h2;injection h2 with h2;rw [h2];exact O.o
  exact Ej
 have D:Ei (n8 (fun y=>cT sd p y.ap) L= -1):=af (WD fun j y hy=>C.o j y (by have:=dM hy;omega) hy);clear hsl H A I;go_wp2_with fail;go_ret;exact⟨by rw [D.o];try rfl,J.o⟩
theorem Nh (x:aB) (w:World):Calls Tryz.prog 43 #[x.agg] w fun e w'=>e= .returned x.agg∧Below ↑w w w':=by
 unfold aB.agg;have B:=af (Below.aI w (.cells #[↑x.ap,↑x.aq,↑x.count] 47));go_enter Tryz.func43,Tryz.ntmps43;go_wp2_with fail;obtain⟨w1,hw1⟩:=ai (w.alloc (.cells #[↑x.ap,↑x.aq,↑x.count] 47));rw [hw1]at B⊢;have hz:w1.heap.size=w.heap.size+1:=by rw [<-hw1];simp
 have A:=av.new w1 101 #[↑x.ap,↑x.aq,↑x.count];rw [hz]at A;have hb:=B.o.trans ((Below.aI w1 (.cells #[↑x.ap,↑x.aq,↑x.count] 101)).mono B.o.size);have k0:=A.cell 0;have k1:=A.cell 1;have k2:=A.cell 2;simp only [List.getElem?_toArray,List.getElem?_cons_zero,List.getElem?_cons_succ]at k0 k1 k2;generalize w1.alloc (.cells #[↑x.ap,↑x.aq,↑x.count] 101)=w2 at*;clear hw1 hz A;refine bodyPost_ret (v:= .agg #[↑x.ap,↑x.aq,↑x.count]) (by simp [results,Tryz.results43,go_sem,k0,k1,k2]) rfl ⟨rfl,hb⟩
theorem arC {w:World} {v:Value} {L:List Int} (h:bl.eT cZ w v L):
 Calls Tryz.prog 23 #[v,.int .i64 60] w fun e w'=>w=w'∧∃u,e= .returned u∧∀w0,bl.eT cZ w0 v L->bl.eT cZ w0 u (L.take 60):=by
 obtain⟨a,c,rfl,ho,hr⟩:=h;obtain⟨n,hn⟩:=ai L.length;rw [hn]at ho⊢;have HN:=af hn;clear hn hr;by_cases hg:60<n
 ·obtain⟨b,off,rfl⟩:∃b off,a=some ⟨b,off,none⟩:=by
   cases a with
   |none=>have:=(ho.1 rfl).1;omega
   |some ad=>obtain⟨b,off,rfl⟩:=ho.2.1 ad rfl (by have:=ho.2.2;omega);exact⟨b,off,rfl⟩
  have hc:n<=c:=ho.2.2;have h1:(60:Int)<(n:Int):=bh;have h2:60<=n:=bh;have h3:¬c=60:=bh;have h4:60<=c:=bh;have h5:(60:Int)<=(n:Int):=bh;have h6:(60:Int)<=(c:Int):=bh;have A:Ei (∀w0,bl.eT cZ w0 (.slice (some ⟨b,off,none⟩) n c) L->bl.eT cZ w0 (.slice (some ⟨b,off,none⟩) 60 c) (L.take 60)):=af (fun w0 h0=>by obtain⟨a',c',e,_,hr⟩:=h0;injection e with e1 _ bJ;subst e1;subst bJ;exact⟨_,_,by rw [List.length_take,HN.o,Nat.min_eq_left bh],⟨fun h=>(by cases h),fun ad h _=>⟨b,off,by injection h with h;exact h.symm⟩,by rw [List.length_take,HN.o];omega⟩,hr.take 60⟩);clear ho hg;go_enter Tryz.func23,Tryz.ntmps23;go_wp2_with fail;go_ret;exact⟨cF,_,rfl,A.o⟩
 have h1:¬(60:Int)<(n:Int):=bh;have A:Ei (∀w0,bl.eT cZ w0 (.slice a n c) L->bl.eT cZ w0 (.slice a n c) (L.take 60)):=af (fun w0 h0=>by rw [List.take_of_length_le (by rw [HN.o];omega)];exact h0);clear ho hg;go_enter Tryz.func23,Tryz.ntmps23;go_wp2_with fail;go_ret;exact⟨cF,_,rfl,A.o⟩
end Go.Proofs.YtmaijkoopjocdaaGreat
