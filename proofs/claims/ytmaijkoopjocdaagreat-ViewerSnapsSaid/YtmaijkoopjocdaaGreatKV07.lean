import Derived.Test.YtmaijkoopjocdaaGreatKV02
import Derived.IntWalk
set_option maxRecDepth 100000
set_option maxHeartbeats 64000000
namespace Go.Proofs.YtmaijkoopjocdaaGreat
open Go Go.Lib
def AK (s:bH):aF×Int×bH:=
 (⟨s.long.1,(s.long.2.num 1).1,((s.long.2.num 1).2.num 1).1,((s.long.2.num 1).2.num 1).2.long.1,((s.long.2.num 1).2.num 1).2.long.2.long.1,((s.long.2.num 1).2.num 1).2.long.2.long.2.long.1,(((s.long.2.num 1).2.num 1).2.long.2.long.2.long.2.num 1).1==1⟩,
  (((s.long.2.num 1).2.num 1).2.long.2.long.2.long.2.num 1).1,(((s.long.2.num 1).2.num 1).2.long.2.long.2.long.2.num 1).2)
def pg (b:List Int):Option aF:=
 if((AK ⟨b,false⟩).2.2.bad=true∨(AK ⟨b,false⟩).2.2.bs≠ [])∨1<(AK ⟨b,false⟩).2.1∨¬((AK ⟨b,false⟩).1.side=1∨(AK ⟨b,false⟩).1.side=2)then none else some (AK ⟨b,false⟩).1
def eB (z:Int):Prop:= -9223372036854775808≤z∧z≤9223372036854775807
structure aF.Gl (m:aF):Prop where
 seq:eB m.seq
 inst:0≤m.inst∧m.inst≤255
 ap:eB m.ap
 aq:eB m.aq
 count:eB m.count
theorem FQ {b:List Int} (hb:∀z∈b,isByte z) {m:aF} (h:pg b=some m):m.Gl∧(m.side=1∨m.side=2):=by
 unfold pg at h;split at h
 ·cases h
 ·rename_i hc
  injection h with h;subst h;have h0:(⟨b,false⟩:bH).ok:=hb;refine⟨⟨L5 _,bH.Lm (bH.Oc h0),L5 _,L5 _,L5 _⟩,?_⟩;exact Decidable.not_not.1 fun hn=>hc (.inr (.inr hn))
def mY (s:bH):aB×bH:=(⟨s.long.1,s.long.2.long.1,s.long.2.long.2.long.1⟩,s.long.2.long.2.long.2)
def oX:Nat→bH→List aB×bH
 |0,s=>([],s)
 |n+1,s=>((mY s).1::(oX n (mY s).2).1,(oX n (mY s).2).2)
def xH (l:List aB) (s:bH):aX×Bool×bH:=
 if(s.num 1).1=1 then(⟨l,(mY (s.num 1).2).1,true⟩,true,(mY (s.num 1).2).2)else(⟨l,jD,false⟩,decide ((s.num 1).1≤1),(s.num 1).2)
def mm (s:bH):aX×Bool×bH:=xH (oX (s.num 1).1.toNat (s.num 1).2).1 (oX (s.num 1).1.toNat (s.num 1).2).2
def m3:Nat→bH→bG×Bool×bH
 |0,s=>([],true,s)
 |n+1,s=>(((mm s).1,(mm (mm s).2.2).1)::(m3 n (mm (mm s).2.2).2.2).1,((mm s).2.1&&(mm (mm s).2.2).2.1&&(m3 n (mm (mm s).2.2).2.2).2.1),(m3 n (mm (mm s).2.2).2.2).2.2)
def Da:Nat→bH→List aB×bH
 |0,s=>([],s)
 |n+1,s=>if s.bad=true then([],s)else((mY s).1::(Da n (mY s).2).1,(Da n (mY s).2).2)
def xP (s:bH):aX×Bool×bH:=xH (Da (s.num 1).1.toNat (s.num 1).2).1 (Da (s.num 1).1.toNat (s.num 1).2).2
def BI:Nat→bH→bG×Bool×bH
 |0,s=>([],true,s)
 |n+1,s=>if s.bad=true then([],true,s)else(((xP s).1,(xP (xP s).2.2).1)::(BI n (xP (xP s).2.2).2.2).1,((xP s).2.1&&(xP (xP s).2.2).2.1&&(BI n (xP (xP s).2.2).2.2).2.1),(BI n (xP (xP s).2.2).2.2).2.2)
def yz (side:Int):List aB→Bool
 | []=>true
 | [x]=>decide (1≤x.aq∧1≤x.count)
 |x::y::t=>decide (1≤x.aq∧1≤x.count)&&cT side x.ap y.ap&&yz side (y::t)
def ji (side:Int) (x:aX):Bool:=yz side x.lv&&decide (x.lv.length≤255)&&(if x.has=true then decide (1≤x.im.aq∧1≤x.im.count)else decide (x.im=jD))
def ql (V:bG):Bool:=V.all (fun p=>ji 1 p.1&&ji 2 p.2)&&decide (V.length≤255)
theorem TU {side:Int}:∀{l:List aB},yz side l=true→kF side l
 | [],_=>List.Pairwise.nil
 | [x],_=>List.pairwise_singleton _ _
 |x::y::t,h=>by
  simp only [yz,Bool.and_eq_true]at h;have h1:=TU h.2;refine List.pairwise_cons.2 ⟨fun z hz=>?_,h1⟩;rcases List.mem_cons.1 hz with rfl|hz
  ·exact h.1.2
  ·exact D1 h.1.2 ((List.pairwise_cons.1 h1).1 z hz)
theorem Zi {V:bG} (h:ql V=true):xU V∧fX V 255∧V.length≤255:=by
 simp only [ql,ji,Bool.and_eq_true,List.all_eq_true,decide_eq_true_eq]at h;exact⟨fun p hp=>⟨TU (h.1 p hp).1.1.1,TU (h.1 p hp).2.1.1⟩,fun p hp=>⟨(h.1 p hp).1.1.2,(h.1 p hp).2.1.2⟩,h.2⟩
def vB (c:Int):Int:=if c % 2=1 then bits .xor .u32 (c / 2) 3988292384 else c / 2
def Gc (c x:Int):Int:=vB (vB (vB (vB (vB (vB (vB (vB (bits .xor .u32 c x))))))))
def oh (c:Int) (l:List Int):Int:=l.foldl Gc c
def rB (l:List Int):Int:=bits .xor .u32 4294967295 (oh 4294967295 l)
def qJ (c:Int):Prop:=0≤c∧c<4294967296
theorem Gd (op:BinOp) (x y:Int):qJ (bits op .u32 x y):=by
 unfold bits qJ;rw [IntKind.wrap_u32];omega
theorem adb (k:IntKind) (x y:Int):bits .xor k x y=bits .xor k y x:=by
 unfold bits;simp only [BitVec.xor_comm]
theorem AJ {c:Int} (h:qJ c):qJ (vB c):=by
 unfold vB;split
 ·exact Gd _ _ _
 ·unfold qJ at*;omega
theorem alH {c x:Int}:qJ (Gc c x):=by
 unfold Gc;exact AJ (AJ (AJ (AJ (AJ (AJ (AJ (AJ (Gd _ _ _))))))))
theorem Pj:∀{l:List Int} {c:Int},qJ c→qJ (oh c l)
 | [],_,h=>h
 |x::t,c,_=>by
  show qJ (oh (Gc c x) t);exact Pj alH
def r3 (c:Int):List Int:= [c % 256,c / 256 % 256,c / 65536 % 256,c / 16777216 % 256]
def ld (b:List Int):Int×bG×Int:=
 if b.length<4 then(14,[],0)else
 if r3 (rB (b.take (b.length-4)))≠b.drop (b.length-4)then(14,[],0)else
 if(m3 ((⟨b.take (b.length-4),false⟩:bH).long.2.num 1).1.toNat ((⟨b.take (b.length-4),false⟩:bH).long.2.num 1).2).2.1=true∧
   (m3 ((⟨b.take (b.length-4),false⟩:bH).long.2.num 1).1.toNat ((⟨b.take (b.length-4),false⟩:bH).long.2.num 1).2).2.2.bad=false∧
   (m3 ((⟨b.take (b.length-4),false⟩:bH).long.2.num 1).1.toNat ((⟨b.take (b.length-4),false⟩:bH).long.2.num 1).2).2.2.bs= []∧
   ql (m3 ((⟨b.take (b.length-4),false⟩:bH).long.2.num 1).1.toNat ((⟨b.take (b.length-4),false⟩:bH).long.2.num 1).2).1=true
 then(0,(m3 ((⟨b.take (b.length-4),false⟩:bH).long.2.num 1).1.toNat ((⟨b.take (b.length-4),false⟩:bH).long.2.num 1).2).1,(⟨b.take (b.length-4),false⟩:bH).long.1)else(12,[],0)
theorem aam {b:List Int} {V:bG} {q:Int} (h:ld b=(0,V,q)):xU V∧fX V 255∧V.length≤255∧eB q:=by
 unfold ld at h;split at h
 ·cases h
 ·split at h
  ·cases h
  ·split at h
   ·rename_i hc
    injection h with _ h;injection h with h1 h2;subst h1;subst h2;have:=Zi hc.2.2.2;exact⟨this.1,this.2.1,this.2.2,L5 _⟩
   ·cases h
structure ig where
 V:bG
 seq:Int
 H:List aF
def jN:List aF→bG→Int→ig
 | [],V,q=>⟨V,q,[]⟩
 |m::t,V,q=>if m.seq-1≤q then(if m.seq-1=q then jN t (gm m V) m.seq else jN t V q)else⟨V,q,m::t⟩
def RX:Nat→ig→ig
 |0,s=>s
 |f+1,s=>match s.H.findIdx? (fun m=>m.seq==s.seq+1)with
  |none=>s
  |some k=>match s.H[k]? with
   |none=>s
   |some m=>RX f ⟨gm m s.V,s.seq+1,s.H.take k++s.H.drop (k+1)⟩
def aog (m:aF) (H:List aF):List aF:=H.takeWhile (fun x=>decide (x.seq<m.seq))++m::H.dropWhile (fun x=>decide (x.seq<m.seq))
def kP (q:Int) (H:List aF):Bool:=H.any (fun x=>x.seq==q)
def iF (n:Nat) (s:ig) (b:List Int):Int×ig:=
 match pg b with
 |none=>(12,s)
 |some m=>if m.seq<1∨zQ n m=false then(12,s)else if m.seq≤s.seq∨kP m.seq s.H=true then(33,s)else if m.seq-1=s.seq then(0,jN s.H (gm m s.V) m.seq)else if 4096≤s.H.length then(13,s)else(32,⟨s.V,s.seq,aog m s.H⟩)
def r4 (n:Nat) (s:ig) (b:List Int):Int×ig:=
 if(ld b).1≠0 then((ld b).1,s)else if(ld b).2.1.length≠n∨(ld b).2.2<0 then(12,s)else if(ld b).2.2<s.seq then(33,s)else(0,jN s.H (ld b).2.1 (ld b).2.2)
structure Bc (n:Nat) (m:aF):Prop where
 f:Az n m
 o:m.Gl
 s1:1≤m.seq
structure pL (n c:Nat) (s:ig):Prop where
 len:s.V.length=n
 oH:xU s.V
 q0:0≤s.seq
 q1:s.seq≤9223372036854775807
 hh:∀m∈s.H,Bc n m
 hl:s.H.length≤c
 sz:∃j,fX s.V j∧j+s.H.length≤255+c
def sG (H:List aF):Prop:=H.Pairwise (fun a b=>a.seq<b.seq)
theorem pL.more {n c d:Nat} {s:ig} (h:pL n c s) (hd:c≤d):pL n d s:=by
 obtain⟨j,h1,h2⟩:=h.sz;exact⟨h.len,h.oH,h.q0,h.q1,h.hh,Nat.le_trans h.hl hd,j,h1,by omega⟩
theorem OQ {n c:Nat}:∀{H:List aF} {V:bG} {q:Int} {j:Nat},V.length=n→xU V→0≤q→q≤9223372036854775807→(∀m∈H,Bc n m)→H.length≤c→fX V j→j+H.length≤255+c→pL n c (jN H V q)
 | [],V,q,j,h1,h2,h3,h4,h5,h6,h7,h8=>⟨h1,h2,h3,h4,h5,h6,j,h7,h8⟩
 |m::t,V,q,j,h1,h2,h3,h4,h5,h6,h7,h8=>by
  have hm:=h5 m (by simp);have ht:∀x∈t,Bc n x:=fun x hx=>h5 x (by simp [hx]);have hl:t.length≤c:=by rw [List.length_cons]at h6;omega
  rw [List.length_cons]at h8;unfold jN;split
  ·split
   ·exact OQ (by rw [CK];exact h1) (M2 hm.f.sd h2) (by have:=hm.s1;omega) hm.o.seq.2 ht hl (GY h7) (by omega)
   ·exact OQ h1 h2 h3 h4 ht hl h7 (by omega)
  ·exact⟨h1,h2,h3,h4,h5,h6,j,h7,by rw [List.length_cons];exact h8⟩
theorem OP (m:aF) (H:List aF):(aog m H).Perm (m::H):=by
 unfold aog;have:=List.perm_middle (a:=m) (l₁:=H.takeWhile (fun x=>decide (x.seq<m.seq))) (l₂:=H.dropWhile (fun x=>decide (x.seq<m.seq)))
 rwa [List.takeWhile_append_dropWhile]at this
theorem OO (m:aF) (H:List aF):(aog m H).length=H.length+1:=(OP m H).length_eq
theorem ack {m:aF}:∀{H:List aF},sG H→kP m.seq H=false→sG (aog m H)
 | [],_,_=>List.pairwise_singleton _ _
 |x::t,ha,hq=>by
  have hc:=List.pairwise_cons.1 ha;simp only [kP,List.any_cons,Bool.or_eq_false_iff]at hq;have hne:x.seq≠m.seq:=by simpa using hq.1
  have ih:=ack hc.2 hq.2;unfold aog at ih⊢;by_cases hx:x.seq<m.seq
  ·have hd:decide (x.seq<m.seq)=true:=decide_eq_true hx
   rw [List.takeWhile_cons,List.dropWhile_cons,hd];refine List.pairwise_cons.2 ⟨fun y hy=>?_,ih⟩;have x9:=(OP m t).mem_iff.1 (show y∈aog m t from hy);rcases List.mem_cons.1 x9 with rfl|x9
   ·exact hx
   ·exact hc.1 y x9
  ·have hd:decide (x.seq<m.seq)=false:=decide_eq_false hx
   rw [List.takeWhile_cons,List.dropWhile_cons,hd];refine List.pairwise_cons.2 ⟨fun y hy=>?_,ha⟩;simp only [Bool.false_eq_true,if_false]at hy;rcases List.mem_cons.1 hy with rfl|hy
   ·omega
   ·have:=hc.1 y hy;omega
theorem EP {n c:Nat} {s:ig} {b:List Int} (hb:∀z∈b,isByte z) (h:pL n c s):pL n (c+1) (iF n s b).2:=by
 unfold iF;cases hd:pg b with
 |none=>exact h.more (Nat.le_succ c)
 |some m=>
  dsimp only;split
  ·exact h.more (Nat.le_succ c)
  ·rename_i hm
   have hf:Az n m:=IA.1 (by cases hx:zQ n m with|true=>rfl|false=>exact absurd (.inr hx) hm);have ho:=(FQ hb hd).1;have h1:1≤m.seq:=by have:=fun hx=>hm (.inl hx);omega
   split
   ·exact h.more (Nat.le_succ c)
   ·obtain⟨j,sA,hj2⟩:=h.sz
    split
    ·exact OQ (by rw [CK];exact h.len) (M2 hf.sd h.oH) (by omega) ho.seq.2 h.hh (Nat.le_succ_of_le h.hl) (GY sA) (by omega)
    ·split
     ·exact h.more (Nat.le_succ c)
     ·refine⟨h.len,h.oH,h.q0,h.q1,fun x hx=>?_,by rw [OO];have:=h.hl;omega,j,sA,by rw [OO];omega⟩
      rcases List.mem_cons.1 ((OP m s.H).mem_iff.1 hx)with rfl|hx
      ·exact⟨hf,ho,h1⟩
      ·exact h.hh x hx
theorem alI {b:List Int} (h:¬(ld b).1≠0):ld b=(0,(ld b).2.1,(ld b).2.2):=by
 have:(ld b).1=0:=Decidable.not_not.1 h;rw [←this]
theorem alk {n c:Nat} {s:ig} {b:List Int} (h:pL n c s):pL n c (r4 n s b).2:=by
 unfold r4;split
 ·exact h
 ·rename_i hz
  obtain⟨h1,h2,_,h3⟩:=aam (alI hz);split
  ·exact h
  ·rename_i hn
   split
   ·exact h
   ·have e1:(ld b).2.1.length=n:=Decidable.not_not.1 fun hx=>hn (.inl hx)
    have e2:0≤(ld b).2.2:=by have:=fun hx=>hn (.inr hx);omega
    exact OQ e1 h1 e2 h3.2 h.hh h.hl h2 (by have:=h.hl;omega)
structure Rel (s t:ig):Prop where
 v:t.V=s.V
 q:t.seq=s.seq
 p:t.H.Perm s.H
 a:sG s.H
 g:∀m∈s.H,s.seq+1<m.seq
def rM (n:Nat):ig:=⟨List.replicate n (vI,vI),0,[]⟩
theorem QH (n:Nat):pL n 0 (rM n):=
 ⟨List.length_replicate,fun p hp=>by rw [(List.mem_replicate.1 hp).2];exact⟨List.Pairwise.nil,List.Pairwise.nil⟩,Int.le_refl 0,by show(0:Int)≤9223372036854775807;omega,fun m hm=>by simp [rM]at hm,Nat.le_refl 0,0,fun p hp=>by rw [(List.mem_replicate.1 hp).2];exact⟨Nat.le_refl 0,Nat.le_refl 0⟩,by simp [rM]⟩
end Go.Proofs.YtmaijkoopjocdaaGreat
namespace Go.Proofs.YtmaijkoopjocdaaGreat
open Go.RowKit Go.Lib
structure iV (W w:World) (pr:Nat) (s:bH):Prop where
 box:∃a c,av w pr 215 #[.slice a s.bs.length c,↑s.bad]∧DJ a s.bs.length c∧s.bs.length≤c∧cZ.fR w a s.bs∧(∀b off,a=some ⟨b,off,none⟩→ck w b 5)
 base:W.heap.size≤pr
 aJ:Below W.heap.size W w
 ok:s.ok
 len:s.bs.length≤900000
section
variable {W w w':World} {pr:Nat} {s:bH}
theorem NG {w w':World} {a:Option Addr} {L:List Int} {F:Nat→Prop} (h:cZ.fR w a L) (hk:aK F w w') (hf:∀b off,a=some ⟨b,off,none⟩→L≠ []→¬F b):cZ.fR w' a L:=by
 intro j e hj;obtain⟨b,off,h1,h2,h3⟩:=h j e hj;exact⟨b,off,h1,Nat.lt_of_lt_of_le h2 hk.size,h3.keeps hk h2 (hf b off h1 (by rintro rfl;simp at hj))⟩
theorem ck.lt {w:World} {g:Nat} {t:TypeId} (h:ck w g t):g<w.heap.size:=by
 obtain⟨cs,h⟩:=h;exact av.lt h
theorem ck.keep {w w':World} {g:Nat} {t:TypeId} {F:Nat→Prop} (h:ck w g t) (hk:aK F w w') (hf:¬F g):ck w' g t:=by
 obtain⟨cs,h⟩:=h;exact⟨cs,av.keeps h hk hf⟩
theorem iV.keep {F:Nat→Prop} (h:iV W w pr s) (hk:aK F w w') (hp:¬F pr) (hf:∀b,ck w b 5→¬F b) (hF:∀k,F k→W.heap.size≤k):iV W w' pr s:=by
 obtain⟨⟨a,c,h1,h2,hc,h3,h4⟩,h5,h6,h7,h8⟩:=h;exact⟨⟨a,c,h1.keeps hk hp,h2,hc,NG h3 hk fun b off e _=>hf b (h4 b off e),fun b off e=>(h4 b off e).keep hk (hf b (h4 b off e))⟩,h5,h6.trans (hk.below hF h6.size),h7,h8⟩
theorem iV.below (h:iV W w pr s) (hb:Below w.heap.size w w'):iV W w' pr s:=
 h.keep (F:=fun _=>False) (Below.keeps hb) (fun h=>h) (fun _ _ h=>h) (fun _ h=>h.elim)
theorem iV.ne {a:Option Addr} {c:Nat} {bs:List Int} {v:Value} (h:av w pr 215 #[.slice a bs.length c,v]) (ht:∀b off,a=some ⟨b,off,none⟩→ck w b 5):∀b off,a=some ⟨b,off,none⟩→b≠pr:=fun b off e=>(ht b off e).ne h.aE (by decide)
theorem DJ.drop {b off n c k:Nat} (hn:n≤c-k):DJ (if c=k then some (⟨b,off,none⟩:Addr)else some ⟨b,off+k,none⟩) n (c-k):=by
 refine⟨?_,?_,hn⟩
 ·intro h;split at h<;>cases h
 ·intro ad h
  split at h<;>(injection h with h;subst h;exact⟨_,_,rfl⟩)
theorem aaE {b off:Nat} {L:List Int} {c k:Nat} (h:cZ.fR w (some ⟨b,off,none⟩) L) (hc:L.length≤c):cZ.fR w (if c=k then some ⟨b,off,none⟩else some ⟨b,off+k,none⟩) (L.drop k):=by
 intro j e hj;have hl:=dM hj;rw [List.length_drop]at hl;rw [if_neg (by omega)];rw [List.getElem?_drop]at hj;obtain⟨b',off',h1,h2,h3⟩:=h _ e hj;have e1:b=b'∧off=off':=by injection h1 with h1;injection h1 with x y;exact⟨x,y⟩
 obtain⟨rfl,rfl⟩:=e1;refine⟨b,off+k,rfl,h2,?_⟩;rw [show off+k+j*cZ.m=off+(k+j)*cZ.m by show off+k+j*1=off+(k+j)*1;omega];exact h3
theorem alJ (h:iV W w pr s) (n:Nat) (hn:1≤n) (OS:n≤8):
 Calls Tryz.prog 141 #[.pointer ↑pr,↑n] w fun e w'=>∃v,e= .returned v∧cZ.eT w' v (s.take n).1∧iV W w' pr (s.take n).2∧aK (fun g=>g=pr) w w':=by
 obtain⟨bs,bad⟩:=s;obtain⟨⟨a,c,hb,ho,hlc,hrd,bT⟩,h5,h6,h7,h8⟩:=h;dsimp only at*;have hne:=iV.ne hb bT;have c0:w.cell? ↑pr=some (.slice a bs.length c):=hb.cell 0;have c1:w.cell? ⟨pr,1,none⟩=some ↑bad:=hb.cell 1;have fz:∀o,w.frozen? ⟨pr,o,none⟩=false:=fun o=>hb.frozen o
 have hbad:iV W (w.setCell ⟨pr,1,none⟩ (.bool true)) pr ⟨bs,true⟩:=by
  have hk:=ct w pr 1 (.bool true);exact⟨⟨a,c,hb.aW 1 (.bool true),ho,hlc,NG hrd hk fun b off e _=>hne b off e,fun b off e=>(bT b off e).keep hk (hne b off e)⟩,h5,h6.setCell (p:=⟨pr,1,none⟩) h5 _,h7,h8⟩
 have C7:=af hbad;have e7:Hid (aK (fun g=>g=pr) w (w.setCell ⟨pr,1,none⟩ (.bool true))):=af (ct w pr 1 (.bool true));clear hbad;cases bad with
 |true=>
  have bP:Hid ((⟨bs,true⟩:bH).take n=([],⟨bs,true⟩)):=af (bH.alF rfl);rw [bP.out];clear hb ho hrd hne bT h5 h6 h7 h8;go_enter Tryz.func141,Tryz.ntmps141
  go_wp2_with fail
  go_ret;exact⟨_,rfl,bl.eT.nil,C7.out,e7.out⟩
 |false=>
  by_cases hlt:bs.length<n
  ·have bP:Hid ((⟨bs,false⟩:bH).take n=([],⟨bs,true⟩)):=af (if_pos (.inr hlt))
   rw [bP.out];have hlt':(bs.length:Int)<(n:Int):=by omega
   clear hb ho hrd hne bT h5 h6 h7 h8;go_enter Tryz.func141,Tryz.ntmps141
   go_wp2_with fail
   go_ret;exact⟨_,rfl,bl.eT.nil,C7.out,e7.out⟩
  ·have bP:Hid ((⟨bs,false⟩:bH).take n=(bs.take n,⟨bs.drop n,false⟩)):=af (if_neg (by rintro(h|h);cases h;exact hlt h))
   rw [bP.out];have hlt':¬(bs.length:Int)<(n:Int):=by omega
   have fw:n≤bs.length:=by omega
   have z2:n≤c:=by omega
   cases a with
   |none=>
    have:=(ho.1 rfl).1;omega
   |some ad=>
    obtain⟨b,off,rfl⟩:=ho.2.1 ad rfl;have H1:=af hb;have H2:=af hrd;have H4:=af hlc;have H3:=af hne;have alK:=af bT;have H5:=af h5;have IK:=af h6;have s6:=af h7;have De:=af h8;clear hb ho hrd hne bT h5 h6 h7 h8 C7 e7;go_enter Tryz.func141,Tryz.ntmps141
    go_wp2_with fail
    all_goals (
     go_ret;have hk:=(ct w pr 1 (.bool false)).trans (ct _ pr 0 (.slice (if c=n then some (⟨b,off,none⟩:Addr)else some ⟨b,off+n,none⟩) (bs.length-n) (c-n)));have hs:=((H1.out.aW 1 (.bool false)).aW 0 (.slice (if c=n then some (⟨b,off,none⟩:Addr)else some ⟨b,off+n,none⟩) (bs.length-n) (c-n)));have hr:=NG H2.out hk fun b off e _=>H3.out b off e;have eU:=(IK.out.setCell (p:=⟨pr,1,none⟩) H5.out (.bool false)).setCell (p:=⟨pr,0,none⟩) H5.out (.slice (if c=n then some (⟨b,off,none⟩:Addr)else some ⟨b,off+n,none⟩) (bs.length-n) (c-n));have hd:(bs.drop n).length=bs.length-n:=List.length_drop
     have cn:∀b' off',(if c=n then some (⟨b,off,none⟩:Addr)else some ⟨b,off+n,none⟩)=some ⟨b',off',none⟩→ck ((w.setCell ⟨pr,1,none⟩ (.bool false)).setCell ↑pr (.slice (if c=n then some (⟨b,off,none⟩:Addr)else some ⟨b,off+n,none⟩) (bs.length-n) (c-n))) b' 5:=by
      intro b' off' e;split at e<;>(injection e with e;injection e with e1 e2;rw [←e1];exact(alK.out b off rfl).keep hk (H3.out b off rfl))
     have hok:bH.ok ⟨bs.drop n,false⟩:=fun z hz=>s6.out z (List.mem_of_mem_drop hz);have aT:iV W _ pr ⟨bs.drop n,false⟩:=⟨⟨_,_,by rw [hd];exact hs,DJ.drop (by dsimp only;omega),by dsimp only;omega,aaE hr H4.out,cn⟩,H5.out,eU,hok,by dsimp only;have:=De.out;omega⟩;have htl:(bs.take n).length=n:=by rw [List.length_take];omega
     have hsl:cZ.eT _ (.slice (some ⟨b,off,none⟩) n c) (bs.take n):=⟨_,_,by rw [htl],⟨fun h=>(by cases h),fun ad h=>⟨b,off,by injection h with h;exact h.symm⟩,by omega⟩,hr.take n⟩;by_cases uI:c=n
     ·first
       |contradiction
       |(have e0:c-n=0:=by omega
         rw [if_pos uI,e0]at hk aT hsl;rw [uI]at hsl;exact⟨_,rfl,hsl,aT,hk⟩)
     ·first
       |contradiction
       |(rw [if_neg uI]at hk aT hsl;exact⟨_,rfl,hsl,aT,hk⟩))
theorem alL {k:Nat} (hk:k<8) {y z:Int} (hy:0≤y) (x9:y<256^k) (hz:isByte z):bits .or .u64 y (z*256^k)=y+z*256^k:=by
 have e:(256:Int)^k=2^(8*k):=by rw [Int.pow_mul];rfl
 unfold isByte at hz;have hp:(0:Int)<2^(8*k):=Int.pow_pos (by decide);have alM:(2:Int)^(8*k)≤2^56:=by exact_mod_cast Nat.pow_le_pow_right (n:=2) (by decide) (show 8*k≤56 by omega)
 have hz1:0≤z*2^(8*k):=Int.mul_nonneg hz.1 (Int.le_of_lt hp);have eg:z*2^(8*k)≤255*2^(8*k):=Int.mul_le_mul_of_nonneg_right hz.2 (Int.le_of_lt hp);have an6:(2:Int)^64=256*2^56:=by decide
 rw [e]at x9⊢;exact bits_join_low .u64 64 (by decide) wraps_u64 (8*k) y (z*2^(8*k)) hy x9 (by omega) hz1 (Int.mul_emod_left _ _) (by omega)
theorem acr:∀(l:List Int) (z:Int),leZ (l++ [z])=leZ l+z*256^l.length
 | [],z=>by simp [leZ]
 |x::t,z=>by
  rw [List.cons_append,leZ,acr t z,leZ,List.length_cons,Int.pow_succ,Int.mul_add,Int.add_assoc,show z*(256^t.length*256)=256*(z*256^t.length)by rw [←Int.mul_assoc,Int.mul_comm _ 256]]
theorem acs (h:iV W w pr s) (n:Nat) (hn:1≤n) (OS:n≤8):
 Calls Tryz.prog 118 #[.pointer ↑pr,↑n] w fun e w'=>e= .returned (.int .u64 (s.num n).1)∧iV W w' pr (s.num n).2∧aK (fun g=>g=pr) w w':=by
 have H:=af h;have qE:=af hn;have alN:=af OS;have hok:=bH.EP (n:=n) h.ok;have hlen:=bH.take_len n s;have e1:Hid ((s.num n).1=leZ (s.take n).1):=af rfl;have e2:Hid ((s.num n).2=(s.take n).2):=af rfl;rw [e1.out,e2.out];have bP:=af (alJ h n hn OS);clear e1 e2 h H qE alN;generalize (s.take n).1=x at*;generalize (s.take n).2=s' at*;have e9:=af hok.2;have c6:Hid (x.length≤8):=af (by omega);clear hok hlen hn OS;go_enter Tryz.func118,Tryz.ntmps118
 go_wp2_with fail
 refine bP.out.mono ?_;rintro e w1 ⟨v,rfl,hsl,hrd,hk⟩;have aD:=af hsl;have bM:=af hrd;have e7:=af hk;clear hsl hrd hk bP;obtain⟨a,c,rfl,_,hrd⟩:=aD.out;have om:=af hrd;clear hrd;go_wp2_with fail
 go_loopw [5,12] (fun y i w'=>∃k:Nat,i=↑k∧y= .int .u64 (leZ (x.take k))∧k≤x.length∧w1=w') (fun _ i _=>x.length-(RowKit.intOf i).toNat)
 case atStart=>exact⟨0,rfl,rfl,Nat.zero_le _,rfl⟩
 case round=>
  obtain⟨k,rfl,rfl,hk,rfl⟩:=hrel;by_cases hlt:k<x.length
  ·have hlt':(k:Int)<(x.length:Int):=by omega
   have zu:k<8:=by have:=c6.out;omega
   obtain⟨z,hz⟩:∃z,x[k]? =some z:=⟨_,List.getElem?_eq_getElem hlt⟩;obtain⟨g,off,rfl,_,hc⟩:=om.out k z hz
   have c0:w1.cell? ⟨g,off+k,none⟩=some (.int .u8 z):=by
    have:=hc 0 _ rfl
    rwa [show off+k*cZ.m+0=off+k from by show off+k*1+0=off+k;omega]at this
   have oF:isByte z:=e9.out z (List.mem_of_getElem? hz)
   have kX:x.take (k+1)=x.take k++ [z]:=by
    obtain⟨h1,h2⟩:=lB hz;rw [List.take_succ_eq_append_getElem h1,h2]
   have htl:(x.take k).length=k:=by rw [List.length_take];omega
   have pu:=TT (x.take k) (fun q hq=>e9.out q (List.mem_of_mem_take hq));rw [htl]at pu;have gG:Hid (bits .or .u64 (leZ (x.take k)) (z*256^k)=leZ (x.take (k+1))):=af (by rw [alL zu pu.1 pu.2 oF,kX,acr,htl]);have dx:Hid ((2:Int)^(8*k)=256^k):=af (by rw [Int.pow_mul];rfl)
   have alO:Hid (IntKind.u64.wrap (z*256^k)=z*256^k):=af (by
    have e:(2:Int)^(8*k)=256^k:=by rw [Int.pow_mul];rfl
    have alM:(2:Int)^(8*k)≤2^56:=by exact_mod_cast Nat.pow_le_pow_right (n:=2) (by decide) (show 8*k≤56 by omega)
    have hp:(0:Int)<2^(8*k):=Int.pow_pos (by decide);have hz1:0≤z*2^(8*k):=Int.mul_nonneg oF.1 (Int.le_of_lt hp);have eg:z*2^(8*k)≤255*2^(8*k):=Int.mul_le_mul_of_nonneg_right oF.2 (Int.le_of_lt hp);rw [←e];exact u64_wrap_id _ hz1 (by omega))
   have Nc:=af oF;have y1:IntKind.i64.wrap (8*(k:Int))=8*(k:Int):=IntWalk.i64_in _ (by omega);have fI:IntKind.u64.wrap z=z:=u64_wrap_id z (by have:=oF.1;omega) (by have:=oF.2;omega);clear hc hz oF kX htl pu;generalize leZ (x.take k)=yk at*;go_wp2_with fail
   go_roundw
   case rel=>exact⟨k+1,by go_num,by rw [dx.out,alO.out,gG.out],hlt,by trivial⟩
   case measure=>simp [RowKit.intOf];omega
  ·clear om
   obtain rfl:k=x.length:=by omega
   rw [List.take_length];go_wp2_with fail
   go_ret;exact⟨by trivial,bM.out,e7.out⟩
end
def Yq (s:bH):Int:=if s.bad=true then 10 else 0
structure rV (W w:World) (pr:Nat) (s:bH):Prop where
 box:∃(a:Option Addr) (c:Nat) (X:List Int) (p:Nat),av w pr 176 #[.slice a X.length c,↑p,.int .i64 (Yq s)]∧DJ a X.length c∧X.length≤c∧cZ.fR w a X∧(∀b off,a=some ⟨b,off,none⟩→X≠ []→b<W.heap.size)∧p≤X.length∧s.bs=X.drop p∧X.length≤900000
 base:W.heap.size≤pr
 aJ:Below W.heap.size W w
 ok:s.ok
section
variable {W w w':World} {pr:Nat} {s:bH}
theorem rV.keep {F:Nat→Prop} (h:rV W w pr s) (hk:aK F w w') (hp:¬F pr) (hF:∀k,F k→W.heap.size≤k):rV W w' pr s:=by
 obtain⟨⟨a,c,X,p,h1,h2,h3,h4,h5,hr⟩,h6,h7,h8⟩:=h;exact⟨⟨a,c,X,p,h1.keeps hk hp,h2,h3,NG h4 hk fun b off e hx hf=>by have:=hF b hf;have:=h5 b off e hx;omega,h5,hr⟩,h6,h7.trans (hk.below hF h7.size),h8⟩
theorem rV.below (h:rV W w pr s) (hb:Below w.heap.size w w'):rV W w' pr s:=
 h.keep (F:=fun _=>False) (Below.keeps hb) (fun h=>h) (fun _ h=>h.elim)
end
end Go.Proofs.YtmaijkoopjocdaaGreat
namespace Go.Proofs.YtmaijkoopjocdaaGreat
open Go Go.Lib
def zE (side:Int) (l:List aB) (b:aB):Nat:=(l.takeWhile (fun a=>cT side a.ap b.ap)).length
def DZ (l:List aB) (k:Nat) (b:aB):Bool:=match l[k]? with
 |some a=>a.ap==b.ap
 |none=>false
def sj (side:Int) (l:List aB) (b:aB):List aB:=
 if DZ l (zE side l b) b=true then l else l.take (zE side l b)++ [b]++l.drop (zE side l b)
def sk (side:Int) (x y:List aB):List aB:=y.foldl (sj side) x
def fp (l:List aB) (q:Int):aB:=match l.find? (fun a=>a.ap==q)with
 |some a=>a
 |none=>⟨q,0,0⟩
def ph (i side:Int) (l:aB) (imp:Bool):aF:=⟨0,i,side,l.ap,l.aq,l.count,imp⟩
def j0 (i side:Int) (x y:List aB) (a:aB):List aF:=if fp x a.ap≠fp y a.ap then [ph i side (fp y a.ap) false]else []
def Ct (i side:Int) (x y:aX):List aF:=if x.has≠y.has∨x.im≠y.im then [ph i side y.im true]else []
def wX (i side:Int) (x y:List aB):List aF:=(sk side x y).flatMap (j0 i side x y)
def wY (i side:Int) (x y:aX):List aF:=wX i side x.lv y.lv++Ct i side x y
def wZ (i:Int) (x y:aX×aX):List aF:=wY i 1 x.1 y.1++wY i 2 x.2 y.2
def w4:aX×aX:=(vI,vI)
def gA (A B:bG) (k:Nat):List aF:=(List.range k).flatMap (fun(i:Nat)=>wZ (i:Int) (A.getD i w4) (B.getD i w4))
def kU (q:Int):List aF→List aF
 | []=> []
 |m::t=>{m with seq:=q+1}::kU (q+1) t
def qK (A B:bG) (q:Int):List aF:=if A.length≠B.length then []else kU q (gA A B A.length)
theorem Gi:∀(q:Int) (L:List aF),(kU q L).length=L.length
 |_,[]=>rfl
 |q,m::t=>by rw [kU,List.length_cons,List.length_cons,Gi]
theorem UD:∀(q:Int) (L K:List aF),kU q (L++K)=kU q L++kU (q+L.length) K
 |q,[],K=>by simp [kU]
 |q,m::t,K=>by
  rw [List.cons_append,kU,kU,UD,List.cons_append,List.length_cons];have:q+1+(t.length:Int)=q+((t.length+1:Nat):Int):=by omega
  rw [this]
theorem adx (q:Int) (L:List aF) (m:aF):kU q (L++ [m])=kU q L++ [{m with seq:=q+L.length+1}]:=by
 rw [UD];rfl
theorem Pu:∀{q:Int} {L:List aF} {k:Nat} {m:aF},(kU q L)[k]? =some m→∃m',L[k]? =some m'∧m={m' with seq:=q+1+k}
 |q,[],k,m,h=>by simp [kU]at h
 |q,x::t,0,m,h=>by
  simp only [kU,List.getElem?_cons_zero,Option.some.injEq]at h;exact⟨x,rfl,by rw [←h];simp⟩
 |q,x::t,k+1,m,h=>by
  simp only [kU,List.getElem?_cons_succ]at h;obtain⟨m',h1,h2⟩:=Pu h;refine⟨m',by rw [List.getElem?_cons_succ];exact h1,?_⟩;rw [h2]
  congr 1
  omega
theorem ady {q:Int} {L:List aF} {m:aF} (h:m∈kU q L):∃m'∈L,∃s,q<s∧s≤q+L.length∧m={m' with seq:=s}:=by
 obtain⟨k,hk⟩:=List.mem_iff_getElem?.1 h
 have hl:k<L.length:=by
  rw [←Gi q L];rcases Nat.lt_or_ge k (kU q L).length with h1|h1
  ·exact h1
  ·rw [List.getElem?_eq_none h1]at hk;cases hk
 obtain⟨m',h1,h2⟩:=Pu hk;exact⟨m',List.mem_of_getElem? h1,_,by omega,by omega,h2⟩
theorem adz (side:Int) (l:List aB) (b:aB):(sj side l b).length≤l.length+1:=by
 unfold sj;split
 ·exact Nat.le_succ _
 ·simp only [List.length_append,List.length_take,List.length_drop,List.length_cons,List.length_nil];omega
theorem adA {side:Int} {l:List aB} {a b:aB} (h:a∈l):a∈sj side l b:=by
 unfold sj;split
 ·exact h
 ·rw [←List.take_append_drop (zE side l b) l]at h
  rcases List.mem_append.1 h with h|h
  ·simp [h]
  ·simp [h]
theorem adB (side:Int) (l:List aB) (b:aB):∃a∈sj side l b,a.ap=b.ap:=by
 unfold sj;split
 ·rename_i h
  unfold DZ at h;split at h
  ·rename_i a ha
   exact⟨a,List.mem_of_getElem? ha,by simpa using h⟩
  ·cases h
 ·exact⟨b,by simp,rfl⟩
theorem adC {side:Int} {l:List aB} {a b:aB} (h:a∈sj side l b):a∈l∨a=b:=by
 unfold sj at h;split at h
 ·exact .inl h
 ·rcases List.mem_append.1 h with h|h
  ·rcases List.mem_append.1 h with h|h
   ·exact .inl (List.mem_of_mem_take h)
   ·exact .inr (List.mem_singleton.1 h)
  ·exact .inl (List.mem_of_mem_drop h)
theorem UE:∀(side:Int) (y x:List aB),(sk side x y).length≤x.length+y.length
 |_,[],x=>Nat.le_refl _
 |side,b::t,x=>by
  have h1:=UE side t (sj side x b);have h2:=adz side x b;rw [List.length_cons];show(sk side (sj side x b) t).length≤_;omega
theorem Pv:∀{side:Int} {y x:List aB} {a:aB},a∈x→a∈sk side x y
 |_,[],_,_,h=>h
 |_,b::t,_,_,h=>Pv (y:=t) (adA (b:=b) h)
theorem UF:∀{side:Int} {y x:List aB} {b:aB},b∈y→∃a∈sk side x y,a.ap=b.ap
 |_,[],_,_,h=>by simp at h
 |side,c::t,x,b,h=>by
  rcases List.mem_cons.1 h with rfl|h
  ·obtain⟨a,h1,h2⟩:=adB side x b
   exact⟨a,Pv (y:=t) h1,h2⟩
  ·exact UF (y:=t) (x:=sj side x c) h
theorem UG:∀{side:Int} {y x:List aB} {a:aB},a∈sk side x y→a∈x∨a∈y
 |_,[],_,_,h=> .inl h
 |side,b::t,x,a,h=>by
  rcases UG (y:=t) (x:=sj side x b) h with h|h
  ·rcases adC h with h|h
   ·exact .inl h
   ·exact .inr (by simp [h])
  ·exact .inr (List.mem_cons_of_mem _ h)
theorem UH (q:Int):fp [] q=⟨q,0,0⟩:=rfl
theorem pn (x:aB) (t:List aB) (q:Int):fp (x::t) q=if x.ap=q then x else fp t q:=by
 unfold fp;rw [List.find?_cons];by_cases h:x.ap=q
 ·rw [if_pos h,show(x.ap==q)=true by simpa using h]
 ·rw [if_neg h,show(x.ap==q)=false by simpa using h]
theorem adD (l:List aB) (q:Int):(fp l q).ap=q:=by
 induction l with
 |nil=>rfl
 |cons x t ih=>
  rw [pn];split
  ·assumption
  ·exact ih
theorem Cu {l:List aB} {q:Int} (h:∀a∈l,a.ap≠q):fp l q=⟨q,0,0⟩:=by
 induction l with
 |nil=>rfl
 |cons x t ih=>
  rw [pn,if_neg (h x (List.mem_cons_self ..)),ih (fun a ha=>h a (List.mem_cons_of_mem _ ha))]
theorem Pw (l:List aB) (q:Int):fp l q=⟨q,0,0⟩∨fp l q∈l:=by
 induction l with
 |nil=>exact .inl rfl
 |cons x t ih=>
  rw [pn];split
  ·exact .inr (List.mem_cons_self ..)
  ·rcases ih with h|h
   ·exact .inl h
   ·exact .inr (List.mem_cons_of_mem _ h)
def Pos (l:List aB):Prop:=∀a∈l,1≤a.aq∧1≤a.count
theorem adE {l:List aB} (h:Pos l) {q:Int} (hz:¬0<(fp l q).aq):fp l q=⟨q,0,0⟩:=by
 rcases Pw l q with h1|h1
 ·exact h1
 ·have:=(h _ h1).1
  omega
theorem UI {m:aF} (hq:0≤m.aq):∀{l:List aB} (_:kF m.side l) (q:Int),fp (ku m l) q=if q=m.ap then(if 0<m.aq then m.lv else⟨q,0,0⟩)else fp l q
 | [],_,q=>by
   unfold ku;by_cases h:0<m.aq
   ·rw [if_pos h,pn,if_pos h]
    by_cases h2:q=m.ap
    ·rw [if_pos h2,if_pos (show m.lv.ap=q from h2.symm)]
    ·rw [if_neg h2,if_neg (show¬m.lv.ap=q from fun e=>h2 e.symm)]
   ·rw [if_neg h,if_neg h]
    split
    ·rfl
    ·rfl
 |x::t,hs,q=>by
  have hst:kF m.side t:=(List.pairwise_cons.1 hs).2;unfold ku;by_cases hx:x.ap=m.ap
  ·rw [if_pos hx]
   have hn:=Px hs (.inl hx);by_cases h0:m.aq=0
   ·rw [if_pos h0,if_neg (show¬0<m.aq by omega),pn]
    by_cases h2:q=m.ap
    ·rw [if_pos h2,h2,Cu hn]
    ·rw [if_neg h2,if_neg (by rw [hx];exact fun e=>h2 e.symm)]
   ·rw [if_neg h0,if_pos (show 0<m.aq by omega),pn,pn]
    by_cases h2:q=m.ap
    ·rw [if_pos h2,if_pos (show m.lv.ap=q from h2.symm)]
    ·rw [if_neg h2,if_neg (show¬m.lv.ap=q from fun e=>h2 e.symm),if_neg (by rw [hx];exact fun e=>h2 e.symm)]
  ·rw [if_neg hx]
   by_cases hb:cT m.side m.ap x.ap=true
   ·rw [if_pos hb]
    have hn:=Px hs (.inr hb);by_cases h0:0<m.aq
    ·rw [if_pos h0,if_pos h0,pn]
     by_cases h2:q=m.ap
     ·rw [if_pos h2,if_pos (show m.lv.ap=q from h2.symm)]
     ·rw [if_neg h2,if_neg (show¬m.lv.ap=q from fun e=>h2 e.symm)]
    ·rw [if_neg h0,if_neg h0]
     by_cases h2:q=m.ap
     ·rw [if_pos h2,pn,if_neg (by rw [h2];exact hx),h2,Cu hn]
     ·rw [if_neg h2]
   ·rw [if_neg hb,pn,pn,UI hq hst q]
    by_cases h2:q=m.ap
    ·rw [if_pos h2,if_neg (by rw [h2];exact hx),if_pos h2]
    ·rw [if_neg h2,if_neg h2]
theorem UJ {m:aF} (hq:0≤m.aq) (hc:0<m.aq→1≤m.count):∀{l:List aB},Pos l→Pos (ku m l)
 | [],_=>by
   unfold ku;split
   ·rename_i h
    intro a ha;rw [List.mem_singleton]at ha;subst ha;exact⟨h,hc h⟩
   ·intro a ha;cases ha
 |x::t,hp=>by
  have ht:Pos t:=fun a ha=>hp a (List.mem_cons_of_mem _ ha)
  have hm:∀{k:List aB},Pos k→0<m.aq→Pos (m.lv::k):=fun hk h a ha=>by
   rcases List.mem_cons.1 ha with rfl|ha
   ·exact⟨h,hc h⟩
   ·exact hk a ha
  unfold ku;split
  ·split
   ·exact ht
   ·exact hm ht (by omega)
  ·split
   ·split
    ·rename_i h;exact hm hp h
    ·exact hp
   ·intro a ha
    rcases List.mem_cons.1 ha with rfl|ha
    ·exact hp _ (List.mem_cons_self ..)
    ·exact UJ hq hc ht a ha
theorem UK {side:Int}:∀{l k:List aB},kF side l→kF side k→Pos l→Pos k→(∀q,fp l q=fp k q)→l=k
 | [],[],_,_,_,_,_=>rfl
 | [],b::k,_,_,_,hp,h=>by
   have h1:=h b.ap;rw [UH,pn,if_pos rfl]at h1;have:=(hp b (List.mem_cons_self ..)).1;rw [←h1]at this;exact absurd this (by show¬(1:Int)≤0;omega)
 |a::l,[],_,_,hp,_,h=>by
  have h1:=h a.ap;rw [UH,pn,if_pos rfl]at h1;have:=(hp a (List.mem_cons_self ..)).1;rw [h1]at this;exact absurd this (by show¬(1:Int)≤0;omega)
 |a::l,b::k,hl,hk,hp,hr,h=>by
  have D0:=List.pairwise_cons.1 hl;have Py:=List.pairwise_cons.1 hk
  have nb:∀{x:aB} {y:aB} {t:List aB},cT side x.ap y.ap=true→(∀z∈t,cT side y.ap z.ap=true)→∀z∈y::t,z.ap≠x.ap:=fun hxy adF z hz=>by
   rcases List.mem_cons.1 hz with rfl|hz
   ·exact fun e=>Gj hxy e.symm
   ·exact fun e=>Gj (D1 hxy (adF z hz)) e.symm
  have adG:a.ap=b.ap:=by
   refine Decidable.byContradiction fun hne=>?_;cases hb:cT side a.ap b.ap with
   |true=>
    have h1:=h a.ap;rw [pn,if_pos rfl,Cu (nb hb Py.1)]at h1;have:=(hp a (List.mem_cons_self ..)).1;rw [h1]at this;exact absurd this (by show¬(1:Int)≤0;omega)
   |false=>
    have hb2:cT side b.ap a.ap=true:=by
     rw [UL side b.ap a.ap (Ne.symm hne),hb];rfl
    have h1:=h b.ap;rw [pn (x:=b),if_pos rfl,Cu (nb hb2 D0.1)]at h1;have:=(hr b (List.mem_cons_self ..)).1;rw [←h1]at this;exact absurd this (by show¬(1:Int)≤0;omega)
  have hab:a=b:=by
   have h1:=h a.ap
   rwa [pn,if_pos rfl,pn,if_pos adG.symm]at h1
  subst hab
  congr 1
  refine UK D0.2 Py.2 (fun x hx=>hp x (List.mem_cons_of_mem _ hx)) (fun x hx=>hr x (List.mem_cons_of_mem _ hx)) fun q=>?_;by_cases hq:a.ap=q
  ·rw [Cu (fun z hz e=>Gj (D0.1 z hz) (hq.trans e.symm)),Cu (fun z hz e=>Gj (Py.1 z hz) (hq.trans e.symm))]
  ·have h1:=h q
   rwa [pn,if_neg hq,pn,if_neg hq]at h1
structure vJ (side:Int) (x:aX):Prop where
 oH:kF side x.lv
 pos:Pos x.lv
 no:x.has=false→x.im=jD
 yes:x.has=true→1≤x.im.aq∧1≤x.im.count
def AP (V:bG):Prop:=∀p∈V,vJ 1 p.1∧vJ 2 p.2
theorem UM (side:Int):vJ side vI:=⟨List.Pairwise.nil,fun a ha=>(by cases ha),fun _=>rfl,fun h=>(by cases h)⟩
theorem UN {i side:Int} {x y:List aB}:∀(K:List aB) (s:aX),(K.flatMap (j0 i side x y)).foldl (fun s m=>s.app m) s=⟨(K.flatMap (j0 i side x y)).foldl (fun l m=>ku m l) s.lv,s.im,s.has⟩
 | [],_=>rfl
 |a::K,s=>by
  rw [List.flatMap_cons,List.foldl_append,List.foldl_append,UN];unfold j0;split
  ·simp only [List.foldl_cons,List.foldl_nil]
   unfold aX.app;rw [if_neg (by unfold ph;simp)]
  ·rfl
theorem UO {i side:Int} {x y:List aB} (hy:Pos y):∀(K:List aB) (D:List Int) (l:List aB),kF side l→Pos l→(∀q,fp l q=if q∈D then fp y q else fp x q)→
 kF side ((K.flatMap (j0 i side x y)).foldl (fun l m=>ku m l) l)∧Pos ((K.flatMap (j0 i side x y)).foldl (fun l m=>ku m l) l)∧∀q,fp ((K.flatMap (j0 i side x y)).foldl (fun l m=>ku m l) l) q=if q∈D∨q∈K.map aB.ap then fp y q else fp x q
 | [],D,l,h1,h2,h3=>⟨h1,h2,fun q=>by simpa using h3 q⟩
 |a::K,D,l,h1,h2,h3=>by
  rw [List.flatMap_cons,List.foldl_append]
  have key:kF side ((j0 i side x y a).foldl (fun l m=>ku m l) l)∧Pos ((j0 i side x y a).foldl (fun l m=>ku m l) l)∧∀q,fp ((j0 i side x y a).foldl (fun l m=>ku m l) l) q=if q∈a.ap::D then fp y q else fp x q:=by
   unfold j0;split
   ·rename_i hne
    simp only [List.foldl_cons,List.foldl_nil]
    have jW:0≤(fp y a.ap).aq∧(0<(fp y a.ap).aq→1≤(fp y a.ap).count):=by
     rcases Pw y a.ap with h|h
     ·rw [h];exact⟨Int.le_refl 0,fun h=>by simp at h⟩
     ·have:=hy _ h
      exact⟨by omega,fun _=>this.2⟩
    refine⟨Pz (m:=ph i side (fp y a.ap) false) h1,UJ (m:=ph i side (fp y a.ap) false) jW.1 jW.2 h2,fun q=>?_⟩;rw [UI (m:=ph i side (fp y a.ap) false) jW.1 h1 q];rw [show(ph i side (fp y a.ap) false).ap=a.ap from adD _ _];by_cases hq:q=a.ap
    ·subst hq
     rw [if_pos rfl,if_pos (List.mem_cons_self ..)];by_cases hz:0<(fp y a.ap).aq
     ·rw [if_pos (show 0<(ph i side (fp y a.ap) false).aq from hz)];rfl
     ·rw [if_neg (show¬0<(ph i side (fp y a.ap) false).aq from hz),adE hy hz]
    ·rw [if_neg hq,h3 q]
     simp only [List.mem_cons,hq,false_or]
   ·rename_i he
    have he:fp x a.ap=fp y a.ap:=Decidable.not_not.1 he;refine⟨h1,h2,fun q=>?_⟩;rw [List.foldl_nil,h3 q];by_cases hq:q=a.ap
    ·rw [hq,if_pos (List.mem_cons_self ..)]
     split
     ·rfl
     ·exact he
    ·simp only [List.mem_cons,hq,false_or]
  obtain⟨k1,k2,di⟩:=key;obtain⟨r1,r2,fG⟩:=UO (i:=i) hy K (a.ap::D) _ k1 k2 di;refine⟨r1,r2,fun q=>?_⟩;rw [fG q]
  have:(q∈a.ap::D∨q∈K.map aB.ap)↔(q∈D∨q∈(a::K).map aB.ap):=by
   simp only [List.mem_cons,List.map_cons];exact⟨fun h=>by rcases h with(h|h)|h<;>simp [h],fun h=>by rcases h with h|h|h<;>simp [h]⟩
  simp only [this]
theorem adH {i side:Int} {x y:List aB} (hx:kF side x) (cq:Pos x) (hy:kF side y) (vK:Pos y):(wX i side x y).foldl (fun l m=>ku m l) x=y:=by
 obtain⟨h1,h2,h3⟩:=UO (i:=i) vK (sk side x y) [] x hx cq (fun q=>(by rw [if_neg (by simp)]:fp x q=if q∈([]:List Int)then fp y q else fp x q));refine UK h1 hy h2 vK fun q=>?_;unfold wX;rw [h3 q];split
 ·rfl
 ·rename_i hn
  have hn:q ∉ (sk side x y).map aB.ap:=fun h=>hn (.inr h);have IX:∀a∈x,a.ap≠q:=fun a ha e=>hn (List.mem_map.2 ⟨a,Pv ha,e⟩)
  have adI:∀a∈y,a.ap≠q:=fun a ha e=>by
   obtain⟨b,hb,he⟩:=UF (side:=side) (x:=x) ha;exact hn (List.mem_map.2 ⟨b,hb,he.trans e⟩)
  rw [Cu IX,Cu adI]
theorem UQ {i side:Int} {x y:aX} (hx:vJ side x) (hy:vJ side y):(wY i side x y).foldl (fun s m=>s.app m) x=y:=by
 unfold wY;rw [List.foldl_append]
 have h1:(wX i side x.lv y.lv).foldl (fun s m=>s.app m) x=⟨y.lv,x.im,x.has⟩:=by
  have:=adH (i:=i) hx.oH hx.pos hy.oH hy.pos;unfold wX at*;rw [UN,this]
 rw [h1];obtain⟨alV,⟨gP,gQ,fH⟩,UR⟩:=y;unfold Ct;dsimp only;split
 ·simp only [List.foldl_cons,List.foldl_nil]
  unfold aX.app ph aF.lv;dsimp only;rw [if_pos rfl];cases UR with
  |true=>
   have:=(hy.yes rfl).1;dsimp only at this;rw [if_pos (by omega)]
  |false=>
   have hz:=hy.no rfl;unfold jD at hz;simp only [aB.mk.injEq]at hz;rw [if_neg (by omega),hz.1,hz.2.1,hz.2.2];rfl
 ·rename_i hn
  have e1:x.has=UR:=Decidable.not_not.1 fun h=>hn (.inl h);have e2:x.im=⟨gP,gQ,fH⟩:=Decidable.not_not.1 fun h=>hn (.inr h);rw [List.foldl_nil,e1,e2]
theorem IY {i side:Int} {x y:aX} {m:aF} (h:m∈wY i side x y):(m.inst=i∧m.side=side)∧∃l b,m=ph i side l b∧((b=false∧(l∈y.lv∨∃a,(a∈x.lv∨a∈y.lv)∧l=⟨a.ap,0,0⟩))∨(b=true∧l=y.im)):=by
 unfold wY at h;rcases List.mem_append.1 h with h|h
 ·obtain⟨a,h1,h2⟩:=List.mem_flatMap.1 h
  unfold j0 at h2;split at h2
  ·rw [List.mem_singleton]at h2
   refine⟨by rw [h2];exact⟨rfl,rfl⟩,fp y.lv a.ap,false,h2,.inl ⟨rfl,?_⟩⟩;rcases Pw y.lv a.ap with h3|h3
   ·exact .inr ⟨a,UG h1,h3⟩
   ·exact .inl h3
  ·cases h2
 ·unfold Ct at h
  split at h
  ·rw [List.mem_singleton]at h
   exact⟨by rw [h];exact⟨rfl,rfl⟩,y.im,true,h,.inr ⟨rfl,rfl⟩⟩
  ·cases h
theorem Mn (i side:Int) (x y:aX):(wY i side x y).length≤x.lv.length+y.lv.length+1:=by
 unfold wY wX;rw [List.length_append]
 have h1:∀K:List aB,(K.flatMap (j0 i side x.lv y.lv)).length≤K.length:=by
  intro K
  induction K with
  |nil=>simp
  |cons a K ih=>
   rw [List.flatMap_cons,List.length_append,List.length_cons];have:(j0 i side x.lv y.lv a).length≤1:=by unfold j0;split<;>simp
   omega
 have h2:=h1 (sk side x.lv y.lv);have h3:=UE side y.lv x.lv;have h4:(Ct i side x y).length≤1:=by unfold Ct;split<;>simp
 omega
theorem US:∀(L:List aF) (p:aX×aX),(∀m∈L,m.side=1)→L.foldl (fun p m=>vv m p) p=(L.foldl (fun s m=>s.app m) p.1,p.2)
 | [],_,_=>rfl
 |m::t,p,h=>by
  rw [List.foldl_cons,US t _ (fun x hx=>h x (List.mem_cons_of_mem _ hx)),List.foldl_cons];have hm:=h m (List.mem_cons_self ..);unfold vv;rw [if_pos hm]
theorem UT:∀(L:List aF) (p:aX×aX),(∀m∈L,m.side=2)→L.foldl (fun p m=>vv m p) p=(p.1,L.foldl (fun s m=>s.app m) p.2)
 | [],_,_=>rfl
 |m::t,p,h=>by
  rw [List.foldl_cons,UT t _ (fun x hx=>h x (List.mem_cons_of_mem _ hx)),List.foldl_cons];have hm:=h m (List.mem_cons_self ..);unfold vv;rw [if_neg (by omega)]
theorem adJ {i:Int} {x y:aX×aX} (h1:vJ 1 x.1) (h2:vJ 2 x.2) (k1:vJ 1 y.1) (k2:vJ 2 y.2):(wZ i x y).foldl (fun p m=>vv m p) x=y:=by
 unfold wZ;rw [List.foldl_append,US _ _ (fun m hm=>(IY hm).1.2),UT _ _ (fun m hm=>(IY hm).1.2),UQ h1 k1,UQ h2 k2]
theorem UU {i:Nat}:∀(L:List aF) (V:bG),(∀m∈L,m.inst=(i:Int))→L.foldl (fun V m=>gm m V) V=V.modify i (fun p=>L.foldl (fun p m=>vv m p) p)
 | [],V,_=>by
   simp only [List.foldl_nil];refine List.ext_getElem? fun j=>?_;rw [List.getElem?_modify];split
   ·cases V[j]? <;>rfl
   ·cases V[j]? <;>rfl
 |m::t,V,h=>by
  rw [List.foldl_cons,UU t _ (fun x hx=>h x (List.mem_cons_of_mem _ hx))];have hm:=h m (List.mem_cons_self ..);unfold gm;rw [hm,Int.toNat_natCast];refine List.ext_getElem? fun j=>?_;simp only [List.getElem?_modify];cases V[j]? with
  |none=>rfl
  |some p=>
   simp only [Option.map_eq_map,Option.map_some];split<;>rfl
theorem adK {i:Int} {x y:aX×aX} {m:aF} (h:m∈wZ i x y):m.inst=i:=by
 unfold wZ at h;rcases List.mem_append.1 h with h|h
 ·exact(IY h).1.1
 ·exact(IY h).1.1
theorem Gk {A:bG} {k:Nat} (h:k<A.length):A.getD k w4∈A∧A[k]? =some (A.getD k w4):=by
 rw [List.getD_eq_getElem?_getD,List.getElem?_eq_getElem h];exact⟨List.getElem_mem h,rfl⟩
theorem UW {A B:bG} (hl:A.length=B.length) (ha:AP A) (hb:AP B):∀k,k≤A.length→(gA A B k).foldl (fun V m=>gm m V) A=B.take k++A.drop k
 |0,_=>by simp [gA]
 |k+1,hk=>by
  have ih:=UW hl ha hb k (by omega)
  have e:gA A B (k+1)=gA A B k++wZ (k:Int) (A.getD k w4) (B.getD k w4):=by
   unfold gA;rw [List.range_succ,List.flatMap_append];simp
  obtain⟨a1,a2⟩:=Gk (A:=A) (k:=k) (by omega);obtain⟨b1,b2⟩:=Gk (A:=B) (k:=k) (by omega);rw [e,List.foldl_append,ih,UU (i:=k) _ _ (fun m hm=>adK hm)];have hp:=adJ (i:=(k:Int)) (ha _ a1).1 (ha _ a1).2 (hb _ b1).1 (hb _ b1).2;refine List.ext_getElem? fun j=>?_;rw [List.getElem?_modify];have hlk:(B.take k).length=k:=by rw [List.length_take];omega
  have adL:(B.take (k+1)).length=k+1:=by rw [List.length_take];omega
  rcases Nat.lt_trichotomy j k with h|h|h
  ·rw [List.getElem?_append_left (by omega),List.getElem?_append_left (by omega),List.getElem?_take_of_lt h,List.getElem?_take_of_lt (by omega)]
   have hne:¬k=j:=by omega
   simp only [if_neg hne];cases B[j]? <;>rfl
  ·subst h
   rw [List.getElem?_append_right (by omega),List.getElem?_append_left (by omega),hlk,List.getElem?_drop,List.getElem?_take_of_lt (by omega),b2];rw [show j+(j-j)=j by omega,a2];simp only [Option.map_eq_map,Option.map_some,if_true,hp]
  ·rw [List.getElem?_append_right (by omega),List.getElem?_append_right (by omega),hlk,adL,List.getElem?_drop,List.getElem?_drop]
   have hne:¬k=j:=by omega
   simp only [if_neg hne];rw [show k+(j-k)=j by omega,show k+1+(j-(k+1))=j by omega];cases A[j]? <;>rfl
theorem UX (m:aF) (s:Int):∀l:List aB,ku {m with seq:=s} l=ku m l
 | []=>rfl
 |x::t=>by
  unfold ku;rw [UX m s t];rfl
theorem adM (m:aF) (s:Int) (V:bG):gm {m with seq:=s} V=gm m V:=by
 unfold gm
 have:vv {m with seq:=s}=vv m:=by
  funext p
  unfold vv aX.app;simp only [UX];rfl
 rw [this]
theorem UY:∀(q:Int) (L:List aF) (V:bG),(kU q L).foldl (fun V m=>gm m V) V=L.foldl (fun V m=>gm m V) V
 |_,[],_=>rfl
 |q,m::t,V=>by rw [kU,List.foldl_cons,List.foldl_cons,UY,adM]
theorem adN {A B:bG} (hl:A.length=B.length) (ha:AP A) (hb:AP B) (q:Int):(qK A B q).foldl (fun V m=>gm m V) A=B:=by
 unfold qK;rw [if_neg (by rw [hl];simp),UY,UW hl ha hb _ (Nat.le_refl _)];rw [List.drop_length,List.append_nil,hl,List.take_length]
def AQ (V:bG):Prop:=∀p∈V,((∀l∈p.1.lv,eB l.ap∧eB l.aq∧eB l.count)∧eB p.1.im.ap∧eB p.1.im.aq∧eB p.1.im.count)∧((∀l∈p.2.lv,eB l.ap∧eB l.aq∧eB l.count)∧eB p.2.im.ap∧eB p.2.im.aq∧eB p.2.im.count)
theorem adO {side:Int} {x:aX} (h:vJ side x):(x.im.aq=0∧x.im.count=0)∨(1≤x.im.aq∧1≤x.im.count):=by
 cases hh:x.has with
 |false=>rw [h.no hh];exact .inl ⟨rfl,rfl⟩
 |true=>exact .inr (h.yes hh)
theorem UZ {i:Nat} {n:Nat} {side:Int} {x y:aX} {m:aF} (hi:i<n) (hn:n≤255) (hs:side=1∨side=2) (hy:vJ side y)
 (cW:∀l∈x.lv,eB l.ap) (x2:∀l∈y.lv,eB l.ap∧eB l.aq∧eB l.count) (bi:eB y.im.ap∧eB y.im.aq∧eB y.im.count) (h:m∈wY (i:Int) side x y) (s:Int) (hq:eB s):Az n {m with seq:=s}∧({m with seq:=s}:aF).Gl:=by
 obtain⟨_,l,b,rfl,hb⟩:=IY h;have hz:eB 0:=by unfold eB;omega
 have key:(0≤l.aq∧0≤l.count∧(l.aq=0↔l.count=0))∧eB l.ap∧eB l.aq∧eB l.count:=by
  rcases hb with⟨_,hb|⟨a,ha,rfl⟩⟩|⟨_,rfl⟩
  ·have h1:=hy.pos l hb
   exact⟨by omega,x2 l hb⟩
  ·refine⟨by simp,?_,hz,hz⟩
   rcases ha with ha|ha
   ·exact cW a ha
   ·exact(x2 a ha).1
  ·refine⟨?_,bi⟩
   rcases adO hy with h1|h1<;>omega
 unfold ph;exact⟨⟨by dsimp only;omega,by dsimp only;omega,hs,key.1.1,key.1.2.1,key.1.2.2⟩,⟨hq,by dsimp only;omega,key.2.1,key.2.2.1,key.2.2.2⟩⟩
theorem U0 {A B:bG} {q:Int} (hn:A.length≤255) (hl:A.length=B.length) (hb:AP B) (ba:AQ A) (bb:AQ B) {m:aF} (h:m∈qK A B q) (hq:0≤q) (hq2:q+(qK A B q).length≤9223372036854775807):Az A.length m∧m.Gl∧q<m.seq∧m.seq≤q+(qK A B q).length:=by
 unfold qK at*;rw [if_neg (by rw [hl];simp)]at*;rw [Gi]at*;obtain⟨m',h1,s,h2,h3,rfl⟩:=ady h;unfold gA at h1;obtain⟨i,hi,h4⟩:=List.mem_flatMap.1 h1;have hi:i<A.length:=List.mem_range.1 hi;have a1:=(Gk (A:=A) (k:=i) hi).1;have b1:=(Gk (A:=B) (k:=i) (by omega)).1;have hs:eB s:=by unfold eB;omega
 have hok:Az A.length {m' with seq:=s}∧({m' with seq:=s}:aF).Gl:=by
  unfold wZ at h4;rcases List.mem_append.1 h4 with h4|h4
  ·exact UZ hi hn (.inl rfl) (hb _ b1).1 (fun l hl=>((ba _ a1).1.1 l hl).1) (bb _ b1).1.1 (bb _ b1).1.2 h4 s hs
  ·exact UZ hi hn (.inr rfl) (hb _ b1).2 (fun l hl=>((ba _ a1).2.1 l hl).1) (bb _ b1).2.1 (bb _ b1).2.2 h4 s hs
 exact⟨hok.1,hok.2,h2,h3⟩
theorem adP {A B:bG} {q:Int} {k:Nat} {m:aF} (h:(qK A B q)[k]? =some m):m.seq=q+1+k:=by
 unfold qK at h;split at h
 ·simp at h
 ·obtain⟨m',_,h2⟩:=Pu h
  rw [h2]
theorem PA {A B:bG} {K:Nat} (hA:fX A K) (hB:fX B K) (hl:A.length=B.length):∀k,k≤A.length→(gA A B k).length≤k*(4*K+2)
 |0,_=>by simp [gA]
 |k+1,hk=>by
  have ih:=PA hA hB hl k (by omega)
  have e:gA A B (k+1)=gA A B k++wZ (k:Int) (A.getD k w4) (B.getD k w4):=by
   unfold gA;rw [List.range_succ,List.flatMap_append];simp
  have a1:=(Gk (A:=A) (k:=k) (by omega)).1;have b1:=(Gk (A:=B) (k:=k) (by omega)).1;have hA:=hA _ a1;have hB:=hB _ b1;have h1:=Mn (k:Int) 1 (A.getD k w4).1 (B.getD k w4).1;have h2:=Mn (k:Int) 2 (A.getD k w4).2 (B.getD k w4).2;rw [e,List.length_append];unfold wZ;rw [List.length_append,Nat.succ_mul];omega
theorem U1 {A B:bG} {K:Nat} (hA:fX A K) (hB:fX B K) (q:Int):(qK A B q).length≤A.length*(4*K+2):=by
 unfold qK;split
 ·exact Nat.zero_le _
 ·rename_i h
  rw [Gi];exact PA hA hB (Decidable.not_not.1 h) _ (Nat.le_refl _)
end Go.Proofs.YtmaijkoopjocdaaGreat
