import Derived.Test.YtmaijkoopjocdaaGreatKT02
import Derived.OrdersHeld
import Derived.StillTail
import Derived.RegionTactic
import Derived.Deep.RegionHeld3
set_option maxRecDepth 100000
set_option maxHeartbeats 64000000
namespace Go.Proofs.YtmaijkoopjocdaaGreat
open Go Go.Lib
def yZ (s:cg):aB×Int×cg:=
 (⟨s.long.1,(s.long.2.num 1).1,((s.long.2.num 1).2.num 1).1,((s.long.2.num 1).2.num 1).2.long.1,((s.long.2.num 1).2.num 1).2.long.2.long.1,((s.long.2.num 1).2.num 1).2.long.2.long.2.long.1,(((s.long.2.num 1).2.num 1).2.long.2.long.2.long.2.num 1).1==1⟩,
  (((s.long.2.num 1).2.num 1).2.long.2.long.2.long.2.num 1).1,(((s.long.2.num 1).2.num 1).2.long.2.long.2.long.2.num 1).2)
def ol (b:List Int):Option aB:=
 if((yZ ⟨b,false⟩).2.2.bad=true∨(yZ ⟨b,false⟩).2.2.bs≠ [])∨1<(yZ ⟨b,false⟩).2.1∨¬((yZ ⟨b,false⟩).1.side=1∨(yZ ⟨b,false⟩).1.side=2)then none else some (yZ ⟨b,false⟩).1
def eD (z:Int):Prop:= -9223372036854775808≤z∧z≤9223372036854775807
structure aB.Em (m:aB):Prop where
 seq:eD m.seq
 inst:0≤m.inst∧m.inst≤255
 ag:eD m.ag
 ah:eD m.ah
 count:eD m.count
theorem DY {b:List Int} (hb:∀z∈b,isByte z) {m:aB} (h:ol b=some m):m.Em∧(m.side=1∨m.side=2):=by
 unfold ol at h;split at h
 ·cases h
 ·rename_i hc
  injection h with h;subst h;have h0:(⟨b,false⟩:cg).ok:=hb;refine⟨⟨MY _,cg.ZN (cg.ahY h0),MY _,MY _,MY _⟩,?_⟩;exact Decidable.not_not.1 fun hn=>hc (.inr (.inr hn))
def BJ (s:cg):ax×cg:=(⟨s.long.1,s.long.2.long.1,s.long.2.long.2.long.1⟩,s.long.2.long.2.long.2)
def Bw:Nat→cg→List ax×cg
 |0,s=>([],s)
 |n+1,s=>((BJ s).1::(Bw n (BJ s).2).1,(Bw n (BJ s).2).2)
def ZS (l:List ax) (s:cg):aV×Bool×cg:=
 if(s.num 1).1=1 then(⟨l,(BJ (s.num 1).2).1,true⟩,true,(BJ (s.num 1).2).2)else(⟨l,oP,false⟩,decide ((s.num 1).1≤1),(s.num 1).2)
def vI (s:cg):aV×Bool×cg:=ZS (Bw (s.num 1).1.toNat (s.num 1).2).1 (Bw (s.num 1).1.toNat (s.num 1).2).2
def z7:Nat→cg→bP×Bool×cg
 |0,s=>([],true,s)
 |n+1,s=>(((vI s).1,(vI (vI s).2.2).1)::(z7 n (vI (vI s).2.2).2.2).1,((vI s).2.1&&(vI (vI s).2.2).2.1&&(z7 n (vI (vI s).2.2).2.2).2.1),(z7 n (vI (vI s).2.2).2.2).2.2)
def Bo:Nat→cg→List ax×cg
 |0,s=>([],s)
 |n+1,s=>if s.bad=true then([],s)else((BJ s).1::(Bo n (BJ s).2).1,(Bo n (BJ s).2).2)
def vJ (s:cg):aV×Bool×cg:=ZS (Bo (s.num 1).1.toNat (s.num 1).2).1 (Bo (s.num 1).1.toNat (s.num 1).2).2
def zN:Nat→cg→bP×Bool×cg
 |0,s=>([],true,s)
 |n+1,s=>if s.bad=true then([],true,s)else(((vJ s).1,(vJ (vJ s).2.2).1)::(zN n (vJ (vJ s).2.2).2.2).1,((vJ s).2.1&&(vJ (vJ s).2.2).2.1&&(zN n (vJ (vJ s).2.2).2.2).2.1),(zN n (vJ (vJ s).2.2).2.2).2.2)
structure jn where
 V:bP
 seq:Int
 H:List aB
def oB:List aB→bP→Int→jn
 | [],V,q=>⟨V,q,[]⟩
 |m::t,V,q=>if m.seq-1≤q then(if m.seq-1=q then oB t (fO m V) m.seq else oB t V q)else⟨V,q,m::t⟩
def Qz:Nat→jn→jn
 |0,s=>s
 |f+1,s=>match s.H.findIdx? (fun m=>m.seq==s.seq+1)with
  |none=>s
  |some k=>match s.H[k]? with
   |none=>s
   |some m=>Qz f ⟨fO m s.V,s.seq+1,s.H.take k++s.H.drop (k+1)⟩
def yE (m:aB) (H:List aB):List aB:=H.takeWhile (fun x=>decide (x.seq<m.seq))++m::H.dropWhile (fun x=>decide (x.seq<m.seq))
def mz (q:Int) (H:List aB):Bool:=H.any (fun x=>x.seq==q)
def rS (n:Nat) (s:jn) (b:List Int):Int×jn:=
 match ol b with
 |none=>(12,s)
 |some m=>if m.seq<1∨x8 n m=false then(12,s)else if m.seq≤s.seq∨mz m.seq s.H=true then(33,s)else if m.seq-1=s.seq then(0,oB s.H (fO m s.V) m.seq)else if 4096≤s.H.length then(13,s)else(32,⟨s.V,s.seq,yE m s.H⟩)
structure zj (n:Nat) (m:aB):Prop where
 f:yP n m
 o:m.Em
 s1:1≤m.seq
structure qC (n c:Nat) (s:jn):Prop where
 len:s.V.length=n
 oq:yO s.V
 q0:0≤s.seq
 q1:s.seq≤9223372036854775807
 hh:∀m∈s.H,zj n m
 hl:s.H.length≤c
 sz:∃j,g7 s.V j∧j+s.H.length≤255+c
def u9 (H:List aB):Prop:=H.Pairwise (fun a b=>a.seq<b.seq)
theorem qC.more {n c d:Nat} {s:jn} (h:qC n c s) (hd:c≤d):qC n d s:=by
 obtain⟨j,h1,h2⟩:=h.sz;exact⟨h.len,h.oq,h.q0,h.q1,h.hh,Nat.le_trans h.hl hd,j,h1,by omega⟩
theorem R3 {n c:Nat}:∀{H:List aB} {V:bP} {q:Int} {j:Nat},V.length=n→yO V→0≤q→q≤9223372036854775807→(∀m∈H,zj n m)→H.length≤c→g7 V j→j+H.length≤255+c→qC n c (oB H V q)
 | [],V,q,j,h1,h2,h3,h4,h5,h6,h7,h8=>⟨h1,h2,h3,h4,h5,h6,j,h7,h8⟩
 |m::t,V,q,j,h1,h2,h3,h4,h5,h6,h7,h8=>by
  have hm:=h5 m (by simp);have ht:∀x∈t,zj n x:=fun x hx=>h5 x (by simp [hx]);have hl:t.length≤c:=by rw [List.length_cons]at h6;omega
  rw [List.length_cons]at h8;unfold oB;split
  ·split
   ·exact R3 (by rw [A2];exact h1) (Lb hm.f.sd h2) (by have:=hm.s1;omega) hm.o.seq.2 ht hl (Fb h7) (by omega)
   ·exact R3 h1 h2 h3 h4 ht hl h7 (by omega)
  ·exact⟨h1,h2,h3,h4,h5,h6,j,h7,by rw [List.length_cons];exact h8⟩
theorem ZT (m:aB) (H:List aB):(yE m H).Perm (m::H):=by
 unfold yE;have:=List.perm_middle (a:=m) (l₁:=H.takeWhile (fun x=>decide (x.seq<m.seq))) (l₂:=H.dropWhile (fun x=>decide (x.seq<m.seq)))
 rwa [List.takeWhile_append_dropWhile]at this
theorem R1 (m:aB) (H:List aB):(yE m H).length=H.length+1:=(ZT m H).length_eq
theorem C5 {n c:Nat} {s:jn} {b:List Int} (hb:∀z∈b,isByte z) (h:qC n c s):qC n (c+1) (rS n s b).2:=by
 unfold rS;cases hd:ol b with
 |none=>exact h.more (Nat.le_succ c)
 |some m=>
  dsimp only;split
  ·exact h.more (Nat.le_succ c)
  ·rename_i hm
   have hf:yP n m:=Gq.1 (by cases hx:x8 n m with|true=>rfl|false=>exact absurd (.inr hx) hm);have ho:=(DY hb hd).1;have h1:1≤m.seq:=by have:=fun hx=>hm (.inl hx);omega
   split
   ·exact h.more (Nat.le_succ c)
   ·obtain⟨j,rN,hj2⟩:=h.sz
    split
    ·exact R3 (by rw [A2];exact h.len) (Lb hf.sd h.oq) (by omega) ho.seq.2 h.hh (Nat.le_succ_of_le h.hl) (Fb rN) (by omega)
    ·split
     ·exact h.more (Nat.le_succ c)
     ·refine⟨h.len,h.oq,h.q0,h.q1,fun x hx=>?_,by rw [R1];have:=h.hl;omega,j,rN,by rw [R1];omega⟩
      rcases List.mem_cons.1 ((ZT m s.H).mem_iff.1 hx)with rfl|hx
      ·exact⟨hf,ho,h1⟩
      ·exact h.hh x hx
structure Rel (s t:jn):Prop where
 v:t.V=s.V
 q:t.seq=s.seq
 p:t.H.Perm s.H
 a:u9 s.H
 g:∀m∈s.H,s.seq+1<m.seq
def qY (n:Nat):jn:=⟨List.replicate n (tJ,tJ),0,[]⟩
theorem Pd (n:Nat):qC n 0 (qY n):=
 ⟨List.length_replicate,fun p hp=>by rw [(List.mem_replicate.1 hp).2];exact⟨List.Pairwise.nil,List.Pairwise.nil⟩,Int.le_refl 0,by show(0:Int)≤9223372036854775807;omega,fun m hm=>by simp [qY]at hm,Nat.le_refl 0,0,fun p hp=>by rw [(List.mem_replicate.1 hp).2];exact⟨Nat.le_refl 0,Nat.le_refl 0⟩,by simp [qY]⟩
end Go.Proofs.YtmaijkoopjocdaaGreat
namespace Go.Proofs.YtmaijkoopjocdaaGreat
open Go.RowKit
theorem aj.below {w w':World} {g:Nat} {t:TypeId} {cs:Array Value} (h:aj w g t cs) (hb:Below w.heap.size w w'):aj w' g t cs:=h.keeps (Below.keeps (F:=fun _=>False) hb) (fun x=>x)
theorem bS (w:World) (pr i:Nat) (u:Value):aD (fun g=>g=pr) w (w.setCell ⟨pr,i,none⟩ u):=(aD.refl (fun g=>g=pr) w).setCell (p:=⟨pr,i,none⟩) (fun _=>rfl) u
theorem aj.cW {w:World} {g:Nat} {t:TypeId} {x0 x1 bl:Value} (h:aj w g t #[x0,x1,bl]) (v0 v1 v2:Value):aj (((w.setCell ⟨g,0,none⟩ v0).setCell ⟨g,1,none⟩ v1).setCell ⟨g,2,none⟩ v2) g t #[v0,v1,v2]:=by
 have h1:=(((h.aQ 0 v0).aQ 1 v1).aQ 2 v2);simp only [List.setIfInBounds_toArray,List.set_cons_zero,List.set_cons_succ]at h1;exact h1
theorem aD.cW (w:World) (g:Nat) (v0 v1 v2:Value):aD (fun k=>k=g) w (((w.setCell ⟨g,0,none⟩ v0).setCell ⟨g,1,none⟩ v1).setCell ⟨g,2,none⟩ v2):=
 ((((aD.refl (fun k=>k=g) w).setCell (p:=⟨g,0,none⟩) (fun _=>rfl) v0).setCell (p:=⟨g,1,none⟩) (fun _=>rfl) v1).setCell (p:=⟨g,2,none⟩) (fun _=>rfl) v2)
theorem aj.rL {w:World} {g:Nat} {t:TypeId} {x0 x1 bl dK ew:Value} (h:aj w g t #[x0,x1,bl,dK,ew]) (v0 v1 v2 v3 v4:Value):aj (((((w.setCell ⟨g,0,none⟩ v0).setCell ⟨g,1,none⟩ v1).setCell ⟨g,2,none⟩ v2).setCell ⟨g,3,none⟩ v3).setCell ⟨g,4,none⟩ v4) g t #[v0,v1,v2,v3,v4]:=by
 have h1:=(((((h.aQ 0 v0).aQ 1 v1).aQ 2 v2).aQ 3 v3).aQ 4 v4);simp only [List.setIfInBounds_toArray,List.set_cons_zero,List.set_cons_succ]at h1;exact h1
theorem aD.rL (w:World) (g:Nat) (v0 v1 v2 v3 v4:Value):aD (fun k=>k=g) w (((((w.setCell ⟨g,0,none⟩ v0).setCell ⟨g,1,none⟩ v1).setCell ⟨g,2,none⟩ v2).setCell ⟨g,3,none⟩ v3).setCell ⟨g,4,none⟩ v4):=
 ((((((aD.refl (fun k=>k=g) w).setCell (p:=⟨g,0,none⟩) (fun _=>rfl) v0).setCell (p:=⟨g,1,none⟩) (fun _=>rfl) v1).setCell (p:=⟨g,2,none⟩) (fun _=>rfl) v2).setCell (p:=⟨g,3,none⟩) (fun _=>rfl) v3).setCell (p:=⟨g,4,none⟩) (fun _=>rfl) v4)
theorem aj.vS {w:World} {g:Nat} {t:TypeId} {x0 x1 bl dK ew gV lG:Value} (h:aj w g t #[x0,x1,bl,dK,ew,gV,lG]) (v0 v1 v2 v3 v4 v5 v6:Value):aj (((((((w.setCell ⟨g,0,none⟩ v0).setCell ⟨g,1,none⟩ v1).setCell ⟨g,2,none⟩ v2).setCell ⟨g,3,none⟩ v3).setCell ⟨g,4,none⟩ v4).setCell ⟨g,5,none⟩ v5).setCell ⟨g,6,none⟩ v6) g t #[v0,v1,v2,v3,v4,v5,v6]:=by
 have h1:=(((((((h.aQ 0 v0).aQ 1 v1).aQ 2 v2).aQ 3 v3).aQ 4 v4).aQ 5 v5).aQ 6 v6);simp only [List.setIfInBounds_toArray,List.set_cons_zero,List.set_cons_succ]at h1;exact h1
theorem aD.vS (w:World) (g:Nat) (v0 v1 v2 v3 v4 v5 v6:Value):aD (fun k=>k=g) w (((((((w.setCell ⟨g,0,none⟩ v0).setCell ⟨g,1,none⟩ v1).setCell ⟨g,2,none⟩ v2).setCell ⟨g,3,none⟩ v3).setCell ⟨g,4,none⟩ v4).setCell ⟨g,5,none⟩ v5).setCell ⟨g,6,none⟩ v6):=
 ((((((((aD.refl (fun k=>k=g) w).setCell (p:=⟨g,0,none⟩) (fun _=>rfl) v0).setCell (p:=⟨g,1,none⟩) (fun _=>rfl) v1).setCell (p:=⟨g,2,none⟩) (fun _=>rfl) v2).setCell (p:=⟨g,3,none⟩) (fun _=>rfl) v3).setCell (p:=⟨g,4,none⟩) (fun _=>rfl) v4).setCell (p:=⟨g,5,none⟩) (fun _=>rfl) v5).setCell (p:=⟨g,6,none⟩) (fun _=>rfl) v6)
def Ef (x:Int):List Value:= [.int .u8 x]
theorem ahW (x:Int):∀u∈Ef x,u.oneCell'=true:=by
 intro u hu;simp only [Ef,List.mem_singleton]at hu;rw [hu];rfl
def e9:aY Int:=⟨Ef,1,fun _=>rfl,ahW,by omega,5,37,.int .u8 0,1,Tryz.underlying37,by kernel_rfl,by rfl,by omega⟩
def ax.cells (x:ax):List Value:= [.int .i64 x.ag,.int .i64 x.ah,.int .i64 x.count]
def aB.cells (x:aB):List Value:= [.int .i64 x.seq,.int .i64 x.inst,.int .i64 x.side,.int .i64 x.ag,.int .i64 x.ah,.int .i64 x.count,.bool x.imp]
def B3:aB:=⟨0,0,0,0,0,0,false⟩
theorem ax.jL (x:ax):∀u∈x.cells,u.oneCell'=true:=by
 intro u hu;simp only [ax.cells,List.mem_cons,List.not_mem_nil,or_false]at hu;rcases hu with rfl|rfl|rfl<;>rfl
theorem aB.jL (x:aB):∀u∈x.cells,u.oneCell'=true:=by
 intro u hu;simp only [aB.cells,List.mem_cons,List.not_mem_nil,or_false]at hu;rcases hu with rfl|rfl|rfl|rfl|rfl|rfl|rfl<;>rfl
def bL:aY ax:=⟨ax.cells,3,fun _=>rfl,ax.jL,by omega,47,45,.agg oP.cells.toArray,24,Tryz.underlying45,by kernel_rfl,by rfl,by omega⟩
def bC:aY ax:=⟨ax.cells,3,fun _=>rfl,ax.jL,by omega,101,100,.agg oP.cells.toArray,24,Tryz.underlying100,by kernel_rfl,by rfl,by omega⟩
def gb:aY aB:=⟨aB.cells,7,fun _=>rfl,aB.jL,by omega,86,82,.agg B3.cells.toArray,56,Tryz.underlying82,by kernel_rfl,by rfl,by omega⟩
structure eI where
 a:Option Addr
 n:Nat
 c:Nat
 im:ax
 has:Bool
structure bz where
 s:eI
 t:eI
def eI.cells (x:eI):List Value:= [.slice x.a x.n x.c,.int .i64 x.im.ag,.int .i64 x.im.ah,.int .i64 x.im.count,.bool x.has]
def bz.cells (p:bz):List Value:= [.slice p.s.a p.s.n p.s.c,.int .i64 p.s.im.ag,.int .i64 p.s.im.ah,.int .i64 p.s.im.count,.bool p.s.has,.slice p.t.a p.t.n p.t.c,.int .i64 p.t.im.ag,.int .i64 p.t.im.ah,.int .i64 p.t.im.count,.bool p.t.has]
def ny:eI:=⟨none,0,0,oP,false⟩
def k9:bz:=⟨ny,ny⟩
theorem eI.jL (x:eI):∀u∈x.cells,u.oneCell'=true:=by
 intro u hu;simp only [eI.cells,List.mem_cons,List.not_mem_nil,or_false]at hu;rcases hu with rfl|rfl|rfl|rfl|rfl<;>rfl
theorem bz.jL (x:bz):∀u∈x.cells,u.oneCell'=true:=by
 intro u hu;simp only [bz.cells,List.mem_cons,List.not_mem_nil,or_false]at hu;rcases hu with rfl|rfl|rfl|rfl|rfl|rfl|rfl|rfl|rfl|rfl<;>rfl
def ei:aY bz:=⟨bz.cells,10,fun _=>rfl,bz.jL,by omega,50,41,.agg k9.cells.toArray,112,Tryz.underlying41,by kernel_rfl,by rfl,by omega⟩
def eF:aY bz:=⟨bz.cells,10,fun _=>rfl,bz.jL,by omega,104,52,.agg k9.cells.toArray,112,Tryz.underlying52,by kernel_rfl,by rfl,by omega⟩
structure bN (Y:aY ax) (w:World) (B:Nat) (s:eI) (d:aV):Prop where
 n:s.n=d.lv.length
 row:Y.Row w B (.slice s.a s.n s.c) d.lv
 im:s.im=d.im
 has:s.has=d.has
def cl (Z:aY bz) (Y:aY ax) (w:World) (B:Nat) (v:Value) (V:bP):Prop:=
 ∃P:List bz,Z.Row w B v P∧P.length=V.length∧∀(j:Nat) (p:bz) (x:aV×aV),P[j]? =some p→V[j]? =some x→bN Y w B p.s x.1∧bN Y w B p.t x.2
section
variable {α:Type} {X:aY α} {Z:aY bz} {Y:aY ax} {w w':World} {B B':Nat} {v:Value} {V:bP} {s:eI} {d:aV} {F:Nat→Prop} {L:List α}
theorem aY.Row.base (h:X.Row w B v L) (hB:B'≤B):X.Row w B' v L:=by
 obtain⟨h1,h2⟩:=h;refine⟨h1,?_⟩;rcases h2 with h2|⟨g,cap,cur,hv,hb,r⟩
 ·exact .inl h2
 ·exact .inr ⟨g,cap,cur,hv,Nat.le_trans hB hb,r⟩
theorem aY.Row.keep (h:X.Row w B v L) (hk:aD F w w') (hf:∀g,bV w g X.t→¬F g):X.Row w' B v L:=xK h hk fun g hg=>hf g (dR h g hg)
theorem aY.Row.zk (h:X.Row w B v L) (hk:aD F w w') (hf:∀g,v.ownBlock=some g→¬F g):X.Row w' B v L:=xK h hk hf
theorem bN.below (h:bN Y w B s d) (hb:Below w.heap.size w w'):bN Y w' B s d:=⟨h.n,h.row.below hb,h.im,h.has⟩
theorem bN.base (h:bN Y w B s d) (hB:B'≤B):bN Y w B' s d:=⟨h.n,h.row.base hB,h.im,h.has⟩
theorem bN.keep (h:bN Y w B s d) (hk:aD F w w') (hf:∀g,bV w g Y.t→¬F g):bN Y w' B s d:=⟨h.n,h.row.keep hk hf,h.im,h.has⟩
theorem bN.zero (w:World) (B:Nat):bN Y w B ny tJ:=⟨rfl,aY.Row.nil w B,rfl,rfl⟩
theorem cl.below (h:cl Z Y w B v V) (hb:Below w.heap.size w w'):cl Z Y w' B v V:=by
 obtain⟨P,h1,h2,h3⟩:=h;exact⟨P,h1.below hb,h2,fun j p x hp hx=>⟨(h3 j p x hp hx).1.below hb,(h3 j p x hp hx).2.below hb⟩⟩
theorem cl.base (h:cl Z Y w B v V) (hB:B'≤B):cl Z Y w B' v V:=by
 obtain⟨P,h1,h2,h3⟩:=h;exact⟨P,h1.base hB,h2,fun j p x hp hx=>⟨(h3 j p x hp hx).1.base hB,(h3 j p x hp hx).2.base hB⟩⟩
theorem cl.keep (h:cl Z Y w B v V) (hk:aD F w w') (hz:∀g,bV w g Z.t→¬F g) (hy:∀g,bV w g Y.t→¬F g):cl Z Y w' B v V:=by
 obtain⟨P,h1,h2,h3⟩:=h;exact⟨P,h1.keep hk hz,h2,fun j p x hp hx=>⟨(h3 j p x hp hx).1.keep hk hy,(h3 j p x hp hx).2.keep hk hy⟩⟩
theorem cl.form (h:cl Z Y w B v V):∃a c,v= .slice a V.length c:=by
 obtain⟨P,h1,h2,_⟩:=h;obtain⟨a,c,e⟩:=h1.form;exact⟨a,c,by rw [e,h2]⟩
theorem cl.nil (w:World) (B:Nat):cl Z Y w B (.slice none 0 0) []:=⟨[],aY.Row.nil w B,rfl,fun j p x hp=>by simp at hp⟩
theorem cl.get (h:cl Z Y w B v V) {j:Nat} {x:aV×aV} (hj:V[j]? =some x):∃(g cap:Nat) (p:bz),v= .slice (some ⟨g,0,none⟩) V.length cap∧g<w.heap.size∧gL w g (j*Z.m) (Z.cells p)∧bN Y w B p.s x.1∧bN Y w B p.t x.2:=by
 obtain⟨P,h1,h2,h3⟩:=h;have hl:=dc hj;have hp:P[j]? =some (P[j]'(by omega)):=List.getElem?_eq_getElem (by omega);obtain⟨g,cap,e1,e2,bE⟩:=h1.at_ j _ hp;obtain⟨a,b⟩:=h3 j _ x hp hj;exact⟨g,cap,_,by rw [e1,h2],e2,bE,a,b⟩
theorem gL.one {b o:Nat} {x:Int} (h:gL w b o (Ef x)):w.cell? ⟨b,o,none⟩=some (.int .u8 x):=h 0 _ rfl
end
end Go.Proofs.YtmaijkoopjocdaaGreat
namespace Go.Proofs.YtmaijkoopjocdaaGreat
section
variable {P:Program} {ops:Array Oper} {Q:Exit→Act→World→Prop} {md:Region.Mode} {S:World→Prop}
def iL (P:Program) (md:Region.Mode) (ops:Array Oper) (Q:Exit→Act→World→Prop) (S:World→Prop):Nat→Array Bool→Act→World→Prop
 |0,L,a,w=>Region.ready md ops L= []∧Q .normal a w
 |f+1,L,a,w=>(Region.ready md ops L= []→Q .normal a w)∧∀i∈Region.ready md ops L,wpOp P ops Q i (fun b u=>((∃k,(L.setIfInBounds i true).getD k true=false)→S u)∧iL P md ops Q S f (L.setIfInBounds i true) b u) a w
theorem VE:∀(f:Nat) (L:Array Bool) (a:Act) (w:World),iL P md ops Q S f L a w→wpAny P md ops Q f L a w
 |0,_,_,_,h=>h
 |f+1,_,_,_,h=>⟨h.1,fun i hi=>wpOp_mono (fun b u hb=>VE f _ b u hb.2) (h.2 i hi)⟩
def LC (md:Region.Mode) (ops:Array Oper) (L:Array Bool) (i:Nat):Bool:=(List.range ops.size).any fun k=>decide (k≠i)&& !L.getD k true&&Region.waitsFor md ops k i
theorem ac6 {i k:Nat} {oi:Oper} {v:Value} (hi:ops[i]? =some oi) (hsel:∀(j:Nat) (o:Oper) cs b,ops[j]? =some o→o.op≠ .select cs b)
 (hQ:∀c a w,Q (.panic c) (a.put oi.dst v) w→Q (.panic c) a w) (hki:k≠i) (ac7:Region.waitsFor md ops k i=true):
 ∀(f:Nat) (L:Array Bool) (a:Act) (w:World),L.getD k true=false→
  (∀j oj,ops[j]? =some oj→j≠i→L.getD j true=false→(∀e∈oj.after,Region.binds md e=true→e.on≠i)→oi.apart ops oj=true)→
  i∈Region.ready md ops L→YieldsIf P ops S oi v a→S w→iL P md ops Q S f (L.setIfInBounds i true) (a.put oi.dst v) w→iL P md ops Q S (f+1) L a w:=by
 intro f
 induction f with
 |zero=>
  intro L a w _ _ hr hy hS H;refine⟨fun h0=>absurd hr (by rw [h0];simp),fun j hj=>?_⟩;by_cases hji:j=i
  ·subst hji
   exact hy.wpOp hi hS ⟨fun _=>hS,H⟩
  ·have h0:=ready_mono hj hji
   rw [H.1]at h0;cases h0
 |succ f ih=>
  intro L a w hk hfree hr hy hS H;refine⟨fun h0=>absurd hr (by rw [h0];simp),fun j hj=>?_⟩;by_cases hji:j=i
  ·subst hji
   exact hy.wpOp hi hS ⟨fun _=>hS,H⟩
  ·have ac8:=(mem_ready.1 hr).1
   obtain⟨VF,oj,uX,hall⟩:=mem_ready.1 hj
   have hno:∀e∈oj.after,Region.binds md e=true→e.on≠i:=fun e he hb heq=>by
    have h1:=hall e he hb;rw [heq,getD_both ac8]at h1;cases h1
   have oV:j≠k:=by
    rintro rfl;obtain⟨o',ho',e,he,hb,hon⟩:=Region.waitsFor_spec ac7;rw [uX]at ho';injection ho' with ho';subst ho';exact hno e he hb hon
   have h2:=wpOp_putIf uX (hfree j oj uX hji VF hno) (fun cs b=>hsel i oi cs b hi) (fun cs b=>hsel j oj cs b uX) hQ hy (H.2 j (ready_mono hj hji));refine wpOp_mono (fun b u hb=>?_) h2;have ac9:(L.setIfInBounds j true).getD k true=false:=by rw [getD_set_ne true oV];exact hk
   have VG:S u:=hb.2.1 ⟨k,by rw [getD_set_ne true oV,getD_set_ne true (Ne.symm hki)];exact hk⟩
   refine⟨fun _=>VG,ih (L.setIfInBounds j true) b u ac9 (fun k' ok hk' ada hun adb=>hfree k' ok hk' ada (by
    by_cases hx:j=k'
    ·subst hx;exact VF
    ·rw [getD_set_ne true hx]at hun;exact hun) adb) (ready_mono hr (Ne.symm hji)) hb.1 VG ?_⟩
   rw [Array.setIfInBounds_comm _ _ hji];exact hb.2.2
theorem ade {i:Nat} {oi:Oper} {v:Value} {f:Nat} {L:Array Bool} {a:Act} {w:World} (hi:ops[i]? =some oi) (hs:Region.noSelect ops=true) (hf:Region.free md ops L i=true)
 (hr:(Region.ready md ops L).contains i=true) (ha:LC md ops L i=true) (hQ:∀c a w,Q (.panic c) (a.put oi.dst v) w→Q (.panic c) a w) (hy:YieldsIf P ops S oi v a) (hS:S w)
 (h:iL P md ops Q S f (L.setIfInBounds i true) (a.put oi.dst v) w):iL P md ops Q S (f+1) L a w:=by
 obtain⟨k,_,hk⟩:=List.any_eq_true.1 ha;simp only [Bool.and_eq_true,decide_eq_true_eq,Bool.not_eq_true']at hk;exact ac6 hi (Region.noSelect_spec hs) hQ hk.1.1 hk.2 f L a w hk.1.2 (Region.free_spec hi hf) (by simpa using hr) hy hS h
theorem VH (i:Nat) {oi:Oper} {v:Value} {f:Nat} {L:Array Bool} {a:Act} {w:World} (hi:ops[i]? =some oi) (hc:(Region.noSelect ops&&Region.free md ops L i&&(Region.ready md ops L).contains i&&LC md ops L i)=true)
 (hQ:∀c a w,Q (.panic c) (a.put oi.dst v) w→Q (.panic c) a w) (hy:YieldsIf P ops S oi v a) (hS:S w)
 (h:iL P md ops Q S f (L.setIfInBounds i true) (a.put oi.dst v) w):iL P md ops Q S (f+1) L a w:=by
 simp only [Bool.and_eq_true]at hc;exact ade hi hc.1.1.1 hc.1.1.2 hc.1.2 hc.2 hQ hy hS h
theorem Pg {α:Type _} {l:List α} {i:Nat} {a:α}:l.toArray.setIfInBounds i a=(l.set i a).toArray:=by simp only [List.setIfInBounds_toArray]
theorem Ph {α:Type _} {x a:α} {l:List α}:(x::l).set 0 a=a::l:=rfl
theorem Pj {α:Type _} {x a:α} {l:List α} {i:Nat}:(x::l).set (i+1) a=x::l.set i a:=rfl
theorem adf {i:Nat} {o:Oper} {f:Nat} {L:Array Bool} {a:Act} {w:World} (ho:ops[i]? =some o) (hr:Region.ready md ops L= [i])
 (h:∀K':Act→World→Prop,Shut (∀a w,S w→(S w→iL P md ops Q S f (L.setIfInBounds i true) a w)→K' a w)→if Region.wanted o (yielded ops a.tmps)=true then Oper.wp P o a w K' Q else K' (a.put o.dst undef) w):iL P md ops Q S (f+1) L a w:=by
 refine⟨fun h0=>(by rw [hr]at h0;cases h0),fun j hj=>?_⟩;rw [hr]at hj;obtain rfl:j=i:=by simpa using hj
 exact wpOp_step ho fun K' hK=>h K' fun b u hS hW=>hK b u ⟨fun _=>hS,hW hS⟩
theorem adg {i:Nat} {o:Oper} {f:Nat} {L:Array Bool} {a:Act} {w:World} (ho:ops[i]? =some o) (hr:Region.ready md ops L= [i]) (hall:(L.setIfInBounds i true).all (fun b=>b)=true) (hz:Region.ready md ops (L.setIfInBounds i true)= [])
 (h:∀K':Act→World→Prop,Shut (∀a w,Q .normal a w→K' a w)→if Region.wanted o (yielded ops a.tmps)=true then Oper.wp P o a w K' Q else K' (a.put o.dst undef) w):iL P md ops Q S (f+1) L a w:=by
 refine⟨fun h0=>(by rw [hr]at h0;cases h0),fun j hj=>?_⟩;rw [hr]at hj;obtain rfl:j=i:=by simpa using hj
 refine wpOp_step ho fun K' hK=>h K' fun b u hW=>hK b u ⟨?_,?_⟩
 ·rintro⟨k,hk⟩
  rcases Nat.lt_or_ge k (L.setIfInBounds j true).size with hlt|hge
  ·have h1:=Array.all_eq_true.1 hall k hlt
   rw [show(L.setIfInBounds j true).getD k true=(L.setIfInBounds j true)[k]'hlt from by simp only [Array.getD,hlt,dite_true];rfl]at hk;rw [h1]at hk;cases hk
  ·have:(L.setIfInBounds j true).getD k true=true:=by simp only [Array.getD,Nat.not_lt.2 hge,dite_false]
   rw [this]at hk;cases hk
 ·cases f with
  |zero=>exact⟨hz,hW⟩
  |succ f=>exact⟨fun _=>hW,fun i hi=>by rw [hz]at hi;cases hi⟩
theorem ai (i:Nat) {oi:Oper} {v:Value} {f n:Nat} {L:Array Bool} {a a':Act} {w:World} (h:iL P md ops Q S f (L.setIfInBounds i true) a' w) (hn:n=f+1:=by rfl) (hi:ops[i]? =some oi:=by simp only [List.getElem?_toArray];rfl) (hc:(Region.noSelect ops&&Region.free md ops L i&&(Region.ready md ops L).contains i&&LC md ops L i)=true:=by kernel_rfl) (hQ:∀c a w,Q (.panic c) (a.put oi.dst v) w→Q (.panic c) a w:=by exact fun _ _ _ h=>h) (hy:YieldsIf P ops S oi v a:=by exact Or.inl ⟨by rfl,by(intro w hSw;(try dsimp only at hSw);go_simp;try with_reducible rfl)⟩) (hS:S w:=by assumption) (he:a.put oi.dst v=a':=by(try simp only [Act.put,Pg,Ph,Pj]);rfl):iL P md ops Q S n L a w:=by
 subst hn;exact VH i hi hc hQ hy hS (he▸h)
theorem dS (i:Nat) {oi:Oper} {v:Value} {f n:Nat} {L:Array Bool} {a a':Act} {w:World} (h:iL P md ops Q S f (L.setIfInBounds i true) a' w) (hn:n=f+1:=by rfl) (hi:ops[i]? =some oi:=by simp only [List.getElem?_toArray];rfl) (hc:(Region.noSelect ops&&Region.free md ops L i&&(Region.ready md ops L).contains i&&LC md ops L i)=true:=by kernel_rfl) (hQ:∀c a w,Q (.panic c) (a.put oi.dst v) w→Q (.panic c) a w:=by exact fun _ _ _ h=>h) (hy:YieldsIf P ops S oi v a:=by exact Or.inr ⟨by rfl,by rfl⟩) (hS:S w:=by assumption) (he:a.put oi.dst v=a':=by(try simp only [Act.put,Pg,Ph,Pj]);rfl):iL P md ops Q S n L a w:=by
 subst hn;exact VH i hi hc hQ hy hS (he▸h)
theorem eB (i:Nat) {oi:Oper} {v:Value} {f n:Nat} {L:Array Bool} {a a':Act} {w:World} (h:wpAnyH P md ops Q S f (L.setIfInBounds i true) a' w) (hn:n=f+1:=by rfl) (hi:ops[i]? =some oi:=by simp only [List.getElem?_toArray];rfl) (hs:Region.noSelect ops=true:=by kernel_rfl) (hf:Region.free md ops L i=true:=by kernel_rfl) (hr:(Region.ready md ops L).contains i=true:=by kernel_rfl) (hQ:∀c a w,Q (.panic c) (a.put oi.dst v) w→Q (.panic c) a w:=by exact fun _ _ _ h=>h) (hy:YieldsIf P ops S oi v a:=by exact Or.inl ⟨by rfl,by(intro w hSw;(try dsimp only at hSw);go_simp;try with_reducible rfl)⟩) (hS:S w:=by assumption) (he:a.put oi.dst v=a':=by(try simp only [Act.put,Pg,Ph,Pj]);rfl):wpAnyH P md ops Q S n L a w:=by
 subst hn;exact wpAnyH_take hi hs hf hr hQ hy hS (he▸h)
theorem aR (i:Nat) {o:Oper} {f n:Nat} {L:Array Bool} {a:Act} {w:World} (h:∀K':Act→World→Prop,Shut (∀a w,S w→(S w→iL P md ops Q S f (L.setIfInBounds i true) a w)→K' a w)→if Region.wanted o (yielded ops a.tmps)=true then Oper.wp P o a w K' Q else K' (a.put o.dst undef) w) (hn:n=f+1:=by rfl) (ho:ops[i]? =some o:=by simp only [List.getElem?_toArray];rfl) (hr:Region.ready md ops L= [i]:=by kernel_rfl):iL P md ops Q S n L a w:=by
 subst hn;exact adf ho hr h
theorem cO (i:Nat) {o:Oper} {f n:Nat} {L:Array Bool} {a:Act} {w:World} (h:∀K':Act→World→Prop,Shut (∀a w,Q .normal a w→K' a w)→if Region.wanted o (yielded ops a.tmps)=true then Oper.wp P o a w K' Q else K' (a.put o.dst undef) w) (hn:n=f+1:=by rfl) (ho:ops[i]? =some o:=by simp only [List.getElem?_toArray];rfl) (hr:Region.ready md ops L= [i]:=by kernel_rfl) (hall:(L.setIfInBounds i true).all (fun b=>b)=true:=by kernel_rfl) (hz:Region.ready md ops (L.setIfInBounds i true)= []:=by kernel_rfl):iL P md ops Q S n L a w:=by
 subst hn;exact adg ho hr hall hz h
theorem gx:∀(f:Nat) (L:Array Bool) (a:Act) (w:World),wpAnyH P md ops Q S f L a w→iL P md ops Q S f L a w
 |0,_,_,_,h=>h
 |f+1,_,_,_,h=>⟨h.1,fun i hi=>wpOp_mono (fun b u hb=>⟨fun _=>hb.1,gx f _ b u hb.2⟩) (h.2 i hi)⟩
theorem cF {id:Nat} {a:Act} {w:World} (hm:P.follows .mixedOrders=true) (hS:S w.drew) (h:S w.drew→iL P .any ops Q S ops.size (Array.replicate ops.size false) a w.drew):(Code.region id ops true).wp P Q a w:=
 wp_region_any hm (VE _ _ _ _ (h hS))
end
section
variable {P:Program} {ops:Array Oper} {Q:Exit→Act→World→Prop} {md:Region.Mode} {S:World→Prop}
theorem ahF {i j:Nat} {oi oj:Oper} {f:Nat} {L:Array Bool} {a:Act} {w:World} (vW:ops[i]? =some oi) (uX:ops[j]? =some oj) (hr:Region.ready md ops L= [i,j])
 (h1:∀K':Act→World→Prop,Shut (∀a w,S w→(S w→iL P md ops Q S f (L.setIfInBounds i true) a w)→K' a w)→if Region.wanted oi (yielded ops a.tmps)=true then Oper.wp P oi a w K' Q else K' (a.put oi.dst undef) w)
 (h2:∀K':Act→World→Prop,Shut (∀a w,S w→(S w→iL P md ops Q S f (L.setIfInBounds j true) a w)→K' a w)→if Region.wanted oj (yielded ops a.tmps)=true then Oper.wp P oj a w K' Q else K' (a.put oj.dst undef) w):iL P md ops Q S (f+1) L a w:=by
 refine⟨fun h0=>(by rw [hr]at h0;cases h0),fun k hk=>?_⟩;rw [hr]at hk;have hk2:k=i∨k=j:=by simpa using hk
 rcases hk2 with rfl|rfl
 ·exact wpOp_step vW fun K' hK=>h1 K' fun b u hS hW=>hK b u ⟨fun _=>hS,hW hS⟩
 ·exact wpOp_step uX fun K' hK=>h2 K' fun b u hS hW=>hK b u ⟨fun _=>hS,hW hS⟩
theorem jW (i j:Nat) {oi oj:Oper} {f n:Nat} {L:Array Bool} {a:Act} {w:World} (h1:∀K':Act→World→Prop,Shut (∀a w,S w→(S w→iL P md ops Q S f (L.setIfInBounds i true) a w)→K' a w)→if Region.wanted oi (yielded ops a.tmps)=true then Oper.wp P oi a w K' Q else K' (a.put oi.dst undef) w) (h2:∀K':Act→World→Prop,Shut (∀a w,S w→(S w→iL P md ops Q S f (L.setIfInBounds j true) a w)→K' a w)→if Region.wanted oj (yielded ops a.tmps)=true then Oper.wp P oj a w K' Q else K' (a.put oj.dst undef) w) (hn:n=f+1:=by rfl) (vW:ops[i]? =some oi:=by simp only [List.getElem?_toArray];rfl) (uX:ops[j]? =some oj:=by simp only [List.getElem?_toArray];rfl) (hr:Region.ready md ops L= [i,j]:=by kernel_rfl):iL P md ops Q S n L a w:=by
 subst hn;exact ahF vW uX hr h1 h2
end
end Go.Proofs.YtmaijkoopjocdaaGreat
