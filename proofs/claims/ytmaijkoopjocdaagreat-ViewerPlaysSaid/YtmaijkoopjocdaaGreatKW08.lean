import Derived.Test.YtmaijkoopjocdaaGreatKW07
set_option maxRecDepth 100000
set_option maxHeartbeats 64000000
namespace Go.Proofs.YtmaijkoopjocdaaGreat
def mj (x q:Int):Int:=if q<x then q else x
def kC:List Int->Int->List Int
 | [],_=> []
 |x::t,q=>mj x q::kC t (q-mj x q)
def oW:List Int->Int->Int
 | [],q=>q
 |x::t,q=>oW t (q-mj x q)
def iN (l b:List Int):List Int:=List.zipWith (fun x y=>x-y) l b
def oV (a b:List Int):List Int:=List.zipWith (fun x y=>x+y) a b
def yX (l:List Int) (q:Int):Bool:=decide (l.length<=250∧0<=q∧(∀x∈l,1<=x∧x<=1000000)∧q<=l.sum)
def lM (least q all x:Int):Int:=if(if 0<all then x*q / all else 0)<least then 0 else if 0<all then x*q / all else 0
def nY (l:List Int) (least q:Int):List Int:=l.map (lM least q l.sum)
def xG (l:List Int) (least q:Int):List Int:=oV (nY l least q) (kC (iN l (nY l least q)) (q-(nY l least q).sum))
def sQ (most q x:Int):Int:=if x<(if q<most then q else most)then x else if q<most then q else most
def Al (l:List Int) (top:Int) (most q:Int):List Int:=
 if 0<=top∧top<l.length then(List.replicate l.length 0).set top.toNat (sQ most q (l.getD top.toNat 0))else List.replicate l.length 0
def HU (l:List Int) (top:Int) (most q:Int):Int:=
 if 0<=top∧top<l.length then q-sQ most q (l.getD top.toNat 0)else q
def FB (l:List Int) (q:Int):List Int:=if yX l q=true then kC l q else []
def FD (l:List Int) (top most least q:Int):List Int:=
 if yX l q=true∧1<=least∧0<=most then oV (Al l top most q) (xG (iN l (Al l top most q)) least (HU l top most q))else []
def FC (l:List Int) (part least q:Int):List Int:=
 if yX l q=true∧0<=part∧part<=100∧1<=least then oV (kC l (q*part / 100)) (xG (iN l (kC l (q*part / 100))) least (q-q*part / 100))else []
theorem tT:∀(l:List Int) (q:Int),(kC l q).length=l.length
 | [],_=>rfl
 |x::t,q=>by unfold kC;rw [List.length_cons,List.length_cons,tT t]
theorem tQ (l b:List Int) (h:b.length=l.length):(iN l b).length=l.length:=by unfold iN;rw [List.length_zipWith,h,Nat.min_self]
theorem SG (l b:List Int) (h:b.length=l.length):(oV l b).length=l.length:=by unfold oV;rw [List.length_zipWith,h,Nat.min_self]
theorem Lb (l:List Int) (least q:Int):(nY l least q).length=l.length:=by unfold nY;rw [List.length_map]
theorem BS (l:List Int) (least q:Int):(xG l least q).length=l.length:=by unfold xG;rw [SG _ _ (by rw [tT,tQ _ _ (Lb l least q),Lb]),Lb]
theorem SH (l:List Int) (top most q:Int):(Al l top most q).length=l.length:=by
 unfold Al;split
 ·rw [List.length_set,List.length_replicate]
 rw [List.length_replicate]
theorem aje (l:List Int) (q:Int):(FB l q).length<=l.length:=by
 unfold FB;split
 ·rw [tT];exact Nat.le_refl _
 exact Nat.zero_le _
theorem ajf (l:List Int) (top most least q:Int):(FD l top most least q).length<=l.length:=by
 unfold FD;split
 ·rw [SG _ _ (by rw [BS,tQ _ _ (SH l top most q),SH]),SH];exact Nat.le_refl _
 exact Nat.zero_le _
theorem ajg (l:List Int) (part least q:Int):(FC l part least q).length<=l.length:=by
 unfold FC;split
 ·rw [SG _ _ (by rw [BS,tQ _ _ (tT l _),tT]),tT];exact Nat.le_refl _
 exact Nat.zero_le _
theorem Z6 (x q:Int):mj x q<=x∧mj x q<=q:=by unfold mj;split<;>omega
theorem ai8 {x q:Int} (hx:0<=x) (hq:0<=q):0<=mj x q:=by unfold mj;split<;>omega
theorem Oa:∀{l:List Int} {k:Nat} {x q:Int},l[k]? =some x->(kC l q)[k]? =some (mj x (oW (l.take k) q))
 |y::t,0,x,q,h=>by rw [List.getElem?_cons_zero]at h;injection h with h;subst h;rfl
 |y::t,k+1,x,q,h=>by rw [List.getElem?_cons_succ]at h;unfold kC;rw [List.getElem?_cons_succ,Oa h];rfl
theorem C7:∀(l:List Int) (x q:Int),kC (l++ [x]) q=kC l q++ [mj x (oW l q)]
 | [],x,q=>rfl
 |y::t,x,q=>by rw [List.cons_append];unfold kC oW;rw [C7 t,List.cons_append]
theorem Dh:∀(l:List Int) (x q:Int),oW (l++ [x]) q=oW l q-mj x (oW l q)
 | [],x,q=>rfl
 |y::t,x,q=>by rw [List.cons_append];show oW (t++ [x]) _=_;rw [Dh t];rfl
theorem Ob:∀{l:List Int} {q b:Int},(∀x∈l,0<=x)->-b<=q->q<=b->0<=b->-b<=oW l q∧oW l q<=b
 | [],q,b,_,h1,h2,_=>⟨h1,h2⟩
 |x::t,q,b,h,h1,h2,h3=>by have hx:=h x (List.mem_cons_self ..);show-b<=oW t (q-mj x q)∧oW t (q-mj x q)<=b;refine Ob (fun y hy=>h y (List.mem_cons_of_mem _ hy)) ?_ ?_ h3<;>(unfold mj;split<;>omega)
theorem SD:∀{l:List Int} {q:Int},(∀x∈l,0<=x)->0<=q->oW l q=q-(kC l q).sum∧0<=oW l q∧(q<=l.sum->oW l q=0)
 | [],q,_,h=>⟨by simp [oW,kC],h,fun h2=>by simp at h2;show q=0;omega⟩
 |x::t,q,hx,h=>by
  have h0:=hx x (List.mem_cons_self ..);have hm:0<=q-mj x q:=by have:=(Z6 x q).2;omega
  obtain⟨h1,h2,h3⟩:=SD (l:=t) (q:=q-mj x q) (fun y hy=>hx y (List.mem_cons_of_mem _ hy)) hm;have hs:0<=t.sum:=by
   clear h1 h2 h3;have hy:∀y∈t,0<=y:=fun y hy=>hx y (List.mem_cons_of_mem _ hy);induction t with
   |nil=>simp
   |cons z t ih=>rw [List.sum_cons];have:=hy z (List.mem_cons_self ..);have:=ih (fun y hy'=>hx y (by rcases List.mem_cons.1 hy' with rfl|h5<;>simp_all)) (fun y h=>hy y (List.mem_cons_of_mem _ h));omega
  refine⟨?_,h2,fun h4=>h3 ?_⟩
  ·show oW t (q-mj x q)=q-(mj x q::kC t (q-mj x q)).sum;rw [h1,List.sum_cons];omega
  rw [List.sum_cons]at h4;unfold mj;split<;>omega
theorem Fy:∀{l:List Int},(∀x∈l,0<=x)->0<=l.sum
 | [],_=>cU
 |x::t,h=>by rw [List.sum_cons];have:=h x (List.mem_cons_self ..);have:=Fy (l:=t) (fun y hy=>h y (List.mem_cons_of_mem _ hy));omega
theorem BR:∀{l:List Int} {b:Int},(∀x∈l,x<=b)->l.sum<=b*l.length
 | [],b,_=>cU
 |x::t,b,h=>by rw [List.sum_cons,List.length_cons];have h1:=h x (List.mem_cons_self ..);have h2:=BR (l:=t) (fun y hy=>h y (List.mem_cons_of_mem _ hy));rw [show((t.length+1:Nat):Int)=(t.length:Int)+1 from rfl,Int.mul_add,Int.mul_one];omega
theorem SA (l:List Int) (x:Int):(l++ [x]).sum=l.sum+x:=by rw [List.sum_append];simp
theorem Z3:∀(l b:List Int),b.length=l.length->(iN l b).sum=l.sum-b.sum
 | [],[],_=>by simp [iN]
 |x::t,y::b,h=>by have:=Z3 t b (by simpa using h);unfold iN at this⊢;rw [List.zipWith_cons_cons,List.sum_cons,this,List.sum_cons,List.sum_cons];omega
theorem ZX {l b:List Int} {k:Nat} {x y:Int} (h1:l[k]? =some x) (h2:b[k]? =some y):(iN l b)[k]? =some (x-y):=by unfold iN;rw [List.getElem?_zipWith,h1,h2]
theorem ai6 {l b:List Int} {k:Nat} {x y:Int} (h1:l[k]? =some x) (h2:b[k]? =some y):(oV l b)[k]? =some (x+y):=by unfold oV;rw [List.getElem?_zipWith,h1,h2]
theorem ai3 {least q all x:Int} (hl:1<=least) (hx:0<=x) (hq:0<=q) (h:all<=0∨q<=all):0<=lM least q all x∧lM least q all x<=x:=by
 unfold lM;by_cases ha:0<all
 ·rw [if_pos ha];have h1:0<=x*q / all:=Int.ediv_nonneg (Int.mul_nonneg hx hq) bh;have h2:x*q / all<=x:=by
   refine Int.ediv_le_of_le_mul ha ?_;exact Int.mul_le_mul_of_nonneg_left bh hx
  split<;>omega
 rw [if_neg ha];split<;>omega
end Go.Proofs.YtmaijkoopjocdaaGreat
namespace Go.Proofs.YtmaijkoopjocdaaGreat
open Go.RowKit Go.Lib
structure iV (W w:World) (pr:Nat) (s:bH):Prop where
 box:∃a c,av w pr 215 #[.slice a s.bs.length c,↑s.bad]∧DJ a s.bs.length c∧s.bs.length<=c∧cZ.fR w a s.bs∧(∀b off,a=some ⟨b,off,none⟩->ck w b 5)
 base:W.heap.size<=pr
 aJ:Below ↑W W w
 ok:s.ok
 len:s.bs.length<=900000
section
variable {W w w':World} {pr:Nat} {s:bH}
theorem NG {w w':World} {a:Option Addr} {L:List Int} {F:Nat->Prop} (h:cZ.fR w a L) (hk:aK F w w') (hf:∀b off,a=some ⟨b,off,none⟩->L≠ []->¬F b):cZ.fR w' a L:=by intro j e hj;obtain⟨b,off,h1,h2,h3⟩:=h j e hj;exact⟨b,off,h1,Nat.lt_of_lt_of_le h2 hk.size,h3.keeps hk h2 (hf b off h1 (by rintro rfl;simp at hj))⟩
theorem ck.lt {w:World} {g:Nat} {t:TypeId} (h:ck w g t):g<w.heap.size:=by obtain⟨cs,h⟩:=h;exact av.lt h
theorem ck.keep {w w':World} {g:Nat} {t:TypeId} {F:Nat->Prop} (h:ck w g t) (hk:aK F w w') (hf:¬F g):ck w' g t:=by obtain⟨cs,h⟩:=h;exact⟨cs,av.keeps h hk hf⟩
theorem iV.keep {F:Nat->Prop} (h:iV W w pr s) (hk:aK F w w') (hp:¬F pr) (hf:∀b,ck w b 5->¬F b) (hF:∀k,F k->W.heap.size<=k):iV W w' pr s:=by obtain⟨⟨a,c,h1,h2,hc,h3,h4⟩,h5,h6,h7,h8⟩:=h;exact⟨⟨a,c,h1.keeps hk hp,h2,hc,NG h3 hk fun b off e _=>hf b (h4 b off e),fun b off e=>(h4 b off e).keep hk (hf b (h4 b off e))⟩,h5,h6.trans (hk.below hF h6.size),h7,h8⟩
theorem iV.below (h:iV W w pr s) (hb:Below ↑w w w'):iV W w' pr s:=
 h.keep (F:=fun _=>False) (Below.keeps hb) (fun h=>h) (fun _ _ h=>h) (fun _ h=>h.elim)
theorem iV.ne {a:Option Addr} {c:Nat} {bs:List Int} {v:Value} (h:av w pr 215 #[.slice a bs.length c,v]) (ht:∀b off,a=some ⟨b,off,none⟩->ck w b 5):∀b off,a=some ⟨b,off,none⟩->b≠pr:=fun b off e=>(ht b off e).ne h.aE b9
theorem DJ.drop {b off n c k:Nat} (hn:n<=c-k):DJ (if c=k then some (⟨b,off,none⟩:Addr)else some ⟨b,off+k,none⟩) n (c-k):=by
 refine⟨?_,?_,hn⟩
 ·intro h;split at h<;>cases h
 intro ad h _;split at h<;>(injection h with h;subst h;exact⟨_,_,rfl⟩)
theorem wK {b off:Nat} {L:List Int} {c k:Nat} (h:cZ.fR w (some ⟨b,off,none⟩) L) (hc:L.length<=c):cZ.fR w (if c=k then some ⟨b,off,none⟩else some ⟨b,off+k,none⟩) (L.drop k):=by
 intro j e hj;have hl:=dM hj;rw [List.length_drop]at hl;rw [if_neg bh];rw [List.getElem?_drop]at hj;obtain⟨b',off',h1,h2,h3⟩:=h _ e hj;have e1:b=b'∧off=off':=by injection h1 with h1;injection h1 with x y;exact⟨x,y⟩
 obtain⟨rfl,rfl⟩:=e1;refine⟨b,off+k,rfl,h2,?_⟩;rw [show off+k+j*cZ.m=off+(k+j)*cZ.m by show off+k+j*1=off+(k+j)*1;omega];exact h3
theorem alJ (h:iV W w pr s) (n:Nat) (hn:1<=n) (M:n<=8):
 Calls Tryz.prog 141 #[.pointer ↑pr,↑n] w fun e w'=>∃v,e= .returned v∧cZ.eT w' v (s.take n).1∧iV W w' pr (s.take n).2∧aK (fun g=>g=pr) w w':=by
 obtain⟨bs,bad⟩:=s;obtain⟨⟨a,c,hb,ho,hlc,hrd,A⟩,h5,h6,h7,h8⟩:=h;dsimp only at*;have hne:=iV.ne hb A;have c0:=hb.GC;have c1:=hb.GD;have fz:∀o,w.frozen? ⟨pr,o,none⟩=false:=fun o=>hb.frozen o;have hbad:iV W (w.setCell ↑(pr,1) (.bool true)) pr ⟨bs,true⟩:=by have hk:=ct w pr 1 (.bool true);exact⟨⟨a,c,hb.aW 1 (.bool true),ho,hlc,NG hrd hk fun b off e _=>hne b off e,fun b off e=>(A b off e).keep hk (hne b off e)⟩,h5,h6.setCell (p:=⟨pr,1,none⟩) h5 _,h7,h8⟩
 have D:=af hbad;have F:Ei (aK (fun g=>g=pr) w (w.setCell ↑(pr,1) (.bool true))):=af (ct w pr 1 (.bool true));clear hbad;cases bad with
 |true=>have B:Ei ((⟨bs,true⟩:bH).take n=([],⟨bs,true⟩)):=af (bH.yu rfl);rw [B.o];clear hb ho hrd hne A h5 h6 h7 h8;go_enter Tryz.func141,Tryz.ntmps141;go_wp2_with fail;go_ret;exact⟨_,rfl,bl.eT.nil,D.o,F.o⟩
 |false=>
  by_cases hlt:bs.length<n
  ·have B:Ei ((⟨bs,false⟩:bH).take n=([],⟨bs,true⟩)):=af (if_pos (.inr hlt));rw [B.o];have hlt':(bs.length:Int)<(n:Int):=bh;clear hb ho hrd hne A h5 h6 h7 h8;go_enter Tryz.func141,Tryz.ntmps141;go_wp2_with fail;go_ret;exact⟨_,rfl,bl.eT.nil,D.o,F.o⟩
  have B:Ei ((⟨bs,false⟩:bH).take n=(bs.take n,⟨bs.drop n,false⟩)):=af (if_neg (by rintro(h|h);cases h;exact hlt h));rw [B.o];have hlt':¬(bs.length:Int)<(n:Int):=bh;have N:n<=bs.length:=bh;have z2:n<=c:=bh;cases a with
  |none=>have:=(ho.1 rfl).1;omega
  |some ad=>
   obtain⟨b,off,rfl⟩:=ho.2.1 ad rfl bh;have H1:=af hb;have H2:=af hrd;have H4:=af hlc;have H3:=af hne;have E:=af A;have H5:=af h5;have I:=af h6;have L:=af h7;have H:=af h8;clear hb ho hrd hne A h5 h6 h7 h8 D F;go_enter Tryz.func141,Tryz.ntmps141;go_wp2_with fail;all_goals (
    go_ret;have hk:=(ct w pr 1 (.bool false)).trans (ct _ pr 0 (.slice (if c=n then some (⟨b,off,none⟩:Addr)else some ⟨b,off+n,none⟩) (bs.length-n) (c-n)));have hs:=((H1.o.aW 1 (.bool false)).aW 0 (.slice (if c=n then some (⟨b,off,none⟩:Addr)else some ⟨b,off+n,none⟩) (bs.length-n) (c-n)));have hr:=NG H2.o hk fun b off e _=>H3.o b off e;have K:=(I.o.setCell (p:=⟨pr,1,none⟩) H5.o (.bool false)).setCell (p:=⟨pr,0,none⟩) H5.o (.slice (if c=n then some (⟨b,off,none⟩:Addr)else some ⟨b,off+n,none⟩) (bs.length-n) (c-n));have hd:(bs.drop n).length=bs.length-n:=List.length_drop;have J:∀b' off',(if c=n then some (⟨b,off,none⟩:Addr)else some ⟨b,off+n,none⟩)=some ⟨b',off',none⟩->ck ((w.setCell ↑(pr,1) (.bool false)).setCell ↑pr (.slice (if c=n then some (⟨b,off,none⟩:Addr)else some ⟨b,off+n,none⟩) (bs.length-n) (c-n))) b' 5:=by intro b' off' e;split at e<;>(injection e with e;injection e with e1 e2;rw [<-e1];exact(E.o b off rfl).keep hk (H3.o b off rfl))
    have hok:bH.ok ⟨bs.drop n,false⟩:=fun z hz=>L.o z (List.mem_of_mem_drop hz);have C:iV W _ pr ⟨bs.drop n,false⟩:=⟨⟨_,_,by rw [hd];exact hs,DJ.drop (by dsimp only;omega),by dsimp only;omega,wK hr H4.o,J⟩,H5.o,K,hok,by dsimp only;have:=H.o;omega⟩;have htl:(bs.take n).length=n:=by rw [List.length_take];omega
    have hsl:cZ.eT _ (.slice (some ⟨b,off,none⟩) n c) (bs.take n):=⟨_,_,by rw [htl],⟨fun h=>(by cases h),fun ad h _=>⟨b,off,by injection h with h;exact h.symm⟩,bh⟩,hr.take n⟩;by_cases G:c=n
    ·first
      |contradiction
      |(have e0:c-n=0:=by omega
        rw [if_pos G,e0]at hk C hsl;rw [G]at hsl;exact⟨_,rfl,hsl,C,hk⟩)
    first
     |contradiction
     |(rw [if_neg G]at hk C hsl;exact⟨_,rfl,hsl,C,hk⟩))
theorem IC {k:Nat} (hk:k<8) {y z:Int} (hy:0<=y) (A:y<256^k) (hz:isByte z):bits .or .u64 y (z*256^k)=y+z*256^k:=by
 have e:(256:Int)^k=2^(8*k):=by rw [Int.pow_mul];rfl
 unfold isByte at hz;have hp:(0:Int)<2^(8*k):=Int.pow_pos b9;have B:(2:Int)^(8*k)<=2^56:=by exact_mod_cast Nat.pow_le_pow_right (n:=2) b9 (bh:8*k<=56)
 have hz1:0<=z*2^(8*k):=Int.mul_nonneg hz.1 (Int.le_of_lt hp);have D:z*2^(8*k)<=255*2^(8*k):=Int.mul_le_mul_of_nonneg_right hz.2 (Int.le_of_lt hp);have C:(2:Int)^64=256*2^56:=b9;rw [e]at A⊢;exact bits_join_low .u64 64 b9 wraps_u64 (8*k) y (z*2^(8*k)) hy A bh hz1 (Int.mul_emod_left _ _) bh
theorem xI:∀(l:List Int) (z:Int),leZ (l++ [z])=leZ l+z*256^l.length
 | [],z=>by simp [leZ]
 |x::t,z=>by rw [List.cons_append,leZ,xI t z,leZ,List.length_cons,Int.pow_succ,Int.mul_add,Int.add_assoc,show z*(256^t.length*256)=256*(z*256^t.length)by rw [<-Int.mul_assoc,Int.mul_comm _ 256]]
theorem F9 (h:iV W w pr s) (n:Nat) (hn:1<=n) (C:n<=8):
 Calls Tryz.prog 118 #[.pointer ↑pr,↑n] w fun e w'=>e= .returned (.int .u64 (s.num n).1)∧iV W w' pr (s.num n).2∧aK (fun g=>g=pr) w w':=by
 have H:=af h;have R:=af hn;have D:=af C;have hok:=bH.EP (n:=n) h.ok;have hlen:=bH.take_len n s;have e1:Ei ((s.num n).1=leZ (s.take n).1):=af rfl;have e2:Ei ((s.num n).2=(s.take n).2):=af rfl;rw [e1.o,e2.o];have F:=af (alJ h n hn C);clear e1 e2 h H R D;generalize (s.take n).1=x at*;generalize (s.take n).2=s' at*;have G:=af hok.2;have N:Ei (x.length<=8):=af bh;clear hok hlen hn C;go_enter Tryz.func118,Tryz.ntmps118;go_wp2_with fail;refine F.o.mono ?_;rintro e w1 ⟨v,rfl,hsl,hrd,hk⟩;have K:=af hsl;have M:=af hrd;have P:=af hk;clear hsl hrd hk F;obtain⟨a,c,rfl,_,hrd⟩:=K.o;have J:=af hrd;clear hrd;go_wp2_with fail;go_loopw [5,12] (fun y i w'=>∃k:Nat,i=↑k∧y= .int .u64 (leZ (x.take k))∧k<=x.length∧w1=w') (fun _ i _=>x.length-(RowKit.intOf i).toNat)
 case atStart=>exact⟨0,rfl,rfl,Nat.zero_le _,rfl⟩
 obtain⟨k,rfl,rfl,hk,rfl⟩:=hrel;by_cases hlt:k<x.length
 ·have hlt':(k:Int)<(x.length:Int):=by omega
  have T:k<8:=by have:=N.o;omega
  obtain⟨z,hz⟩:=GB x k hlt;obtain⟨g,off,rfl,_,hc⟩:=J.o k z hz;have c0:w1.cell? ↑(g,off+k)=some (.int .u8 z):=by have:=hc 0 _ rfl;rwa [show off+k*cZ.m+0=off+k from by show off+k*1+0=off+k;omega]at this
  have A:isByte z:=G.o z (List.mem_of_getElem? hz);have I:x.take (k+1)=x.take k++ [z]:=by obtain⟨h1,h2⟩:=lB hz;rw [List.take_succ_eq_append_getElem h1,h2]
  have htl:(x.take k).length=k:=by rw [List.length_take];omega
  have B:=TT (x.take k) (fun q hq=>G.o q (List.mem_of_mem_take hq));rw [htl]at B;have Q:Ei (bits .or .u64 (leZ (x.take k)) (z*256^k)=leZ (x.take (k+1))):=af (by rw [IC T B.1 B.2 A,I,xI,htl]);have O:Ei ((2:Int)^(8*k)=256^k):=af (by rw [Int.pow_mul];rfl);have E:Ei (IntKind.u64.wrap (z*256^k)=z*256^k):=af (by
   have e:(2:Int)^(8*k)=256^k:=by rw [Int.pow_mul];rfl
   have L:(2:Int)^(8*k)<=2^56:=by exact_mod_cast Nat.pow_le_pow_right (n:=2) b9 (bh:8*k<=56)
   have hp:(0:Int)<2^(8*k):=Int.pow_pos b9;have hz1:0<=z*2^(8*k):=Int.mul_nonneg A.1 (Int.le_of_lt hp);have V:z*2^(8*k)<=255*2^(8*k):=Int.mul_le_mul_of_nonneg_right A.2 (Int.le_of_lt hp);rw [<-e];exact u64_wrap_id _ hz1 bh)
  have U:=af A;have y1:IntKind.i64.wrap (8*(k:Int))=8*(k:Int):=IntWalk.i64_in _ bh;have X:IntKind.u64.wrap z=z:=u64_wrap_id z (by have:=A.1;omega) (by have:=A.2;omega);clear hc hz A I htl B;generalize leZ (x.take k)=yk at*;go_wp2_with fail;go_roundw
  case rel=>exact⟨k+1,dR,by rw [O.o,E.o,Q.o],hlt,cF⟩
  exact Ej
 clear J;obtain rfl:k=x.length:=bh;rw [List.take_length];go_wp2_with fail;go_ret;exact⟨cF,M.o,P.o⟩
end
section
variable {W w w':World} {pr:Nat} {s:bH}
theorem Tj (h:iV W w pr s):
 Calls Tryz.prog 81 #[.pointer ↑pr] w fun e w'=>e= .returned (.int .i64 (s.num 1).1)∧iV W w' pr (s.num 1).2∧aK (fun g=>g=pr) w w':=by
 have A:=af (F9 h 1 (Nat.le_refl 1) b9);have hr:=bH.Lm h.ok;generalize (s.num 1).1=x at*;generalize (s.num 1).2=s' at*;have y1:IntKind.i64.wrap x=x:=IntWalk.i64_in _ bh;clear h;go_enter Tryz.func81,Tryz.ntmps81;go_wp2_with fail;refine A.o.mono ?_;rintro e w1 ⟨rfl,hrd,hk⟩;have B:=af hrd;have C:=af hk;clear hrd hk A;go_wp2_with fail;go_ret;exact⟨cF,B.o,C.o⟩
theorem Ti (h:iV W w pr s):
 Calls Tryz.prog 80 #[.pointer ↑pr] w fun e w'=>e= .returned (.int .i64 s.long.1)∧iV W w' pr s.long.2∧aK (fun g=>g=pr) w w':=by
 have A:=af (F9 h 8 b9 (Nat.le_refl 8));have e1:Ei (s.long.1=IntKind.i64.wrap (s.num 8).1):=af rfl;have e2:Ei (s.long.2=(s.num 8).2):=af rfl;rw [e1.o,e2.o];clear e1 e2;generalize (s.num 8).1=x at*;generalize (s.num 8).2=s' at*;have D:Ei (IntKind.i64.wrap x=wrap64 x):=af (IntWalk.i64_left x);rw [D.o];clear h;go_enter Tryz.func80,Tryz.ntmps80;go_wp2_with fail;refine A.o.mono ?_;rintro e w1 ⟨rfl,hrd,hk⟩;have B:=af hrd;have C:=af hk;clear hrd hk A;go_wp2_with fail;go_ret;exact⟨cF,B.o,C.o⟩
def zx (s:bH):Int:=if s.bad=true then 10 else if s.bs= []then 0 else 15
theorem UC (h:iV W w pr s):
 Calls Tryz.prog 82 #[.pointer ↑pr] w fun e w'=>e= .returned (.int .i64 (zx s))∧w=w':=by
 obtain⟨bs,bad⟩:=s;obtain⟨a,c,hb,_,_,_,_⟩:=h.box;dsimp only at hb;have c0:=hb.GC;have c1:=hb.GD;clear hb h;cases bad with
 |true=>go_enter Tryz.func82,Tryz.ntmps82;go_wp2_with fail;go_ret;exact⟨dn,cF⟩
 |false=>
  cases bs with
  |nil=>replace c0:w.cell? ↑pr=some (.slice a 0 c):=c0;go_enter Tryz.func82,Tryz.ntmps82;go_wp2_with fail;go_ret;exact⟨dn,cF⟩
  |cons x t=>
   obtain⟨n,hn⟩:=ai ((x::t).length);rw [hn]at c0;have hn0:(0:Int)<(n:Int):=by rw [<-hn,List.length_cons];omega
   clear hn;go_enter Tryz.func82,Tryz.ntmps82;go_wp2_with fail;go_ret;exact⟨dn,cF⟩
theorem Ux {v:Value} {bs:List Int} (h:cZ.eT w v bs) (hl:bs.length<=900000) (hok:∀z∈bs,isByte z):
 Calls Tryz.prog 79 #[v] w fun e w'=>∃pr,e= .returned (.pointer (some ⟨pr,0,none⟩))∧iV w w' pr ⟨bs,false⟩:=by
 have C:=af (T7 h hl);have D:=af hl;have F:=af hok;clear h hl hok;go_enter Tryz.func79,Tryz.ntmps79;go_wp2_with fail;refine C.o.mono ?_;rintro e w1 ⟨v',rfl,hr,hb⟩;have B:=af hr;have A:=af hb;clear hr hb C;obtain⟨a,c,rfl⟩:=B.o.form;go_wp2_with fail;go_ret;refine⟨_,rfl,?_⟩;have h1:=B.o.below (Below.aI w1 (.cells #[.slice a bs.length c,.bool false] 215));obtain⟨a',c',e1,e2,bJ⟩:=h1.sl;injection e1 with e1 _ E;subst e1;subst E;refine⟨⟨a,c,av.new w1 _ _,e2,?_,bJ,fun b off e=>?_⟩,A.o.size,A.o.trans ((Below.aI w1 _).mono A.o.size),F.o,D.o⟩
 ·rcases B.o.2 with⟨h2,h3⟩|⟨g,cap,cur,h2,h3,h4,h5,_⟩
  ·dsimp only;omega
  injection h2 with _ _ h2;subst h2;exact h5
 exact eo h1 b (by rw [e];simp [Value.ownBlock])
end
def lA (x:Int):List Value:= [.int .i64 x]
theorem ajp (x:Int):∀u∈lA x,u.oneCell'=true:=by intro u hu;simp only [lA,List.mem_cons,List.not_mem_nil,or_false]at hu;rw [hu];rfl
def e8:bl Int:=⟨lA,1,fun _=>rfl,ajp,bh,2,23,.int .i64 0,8,Tryz.underlying23,eP,dn,bh⟩
theorem qU {w:World} {a:Option Addr} {n c k:Nat} {L:List Int} {x:Int} (h:e8.eT w (.slice a n c) L) (hk:L[k]? =some x):∃b off,a=some ⟨b,off,none⟩∧w.cell? ⟨b,off+k,none⟩=↑x:=by obtain⟨b,off,c',h1,_,h3⟩:=h.get hk;injection h1 with h1;refine⟨b,off,h1,?_⟩;have:=h3 0 _ rfl;rw [show off+k*e8.m+0=off+k by show off+k*1+0=off+k;omega]at this;exact this
theorem Z0 {x q b:Int} (h1:0<=x) (h2: -b<=q) (h3:q<=b): -b<=mj x q∧mj x q<=b:=by unfold mj;split<;>omega
theorem SB {w:World} {v:Value} {l:List Int} (h:e8.eT w v l) (hl:l.length<=250) (hx:∀x∈l,0<=x∧x<=1000000) (q:Int) (h1: -1000000000<=q) (h2:q<=1000000000):
 Calls Tryz.prog 155 #[v,↑q] w fun e w'=>∃v',e= .returned v'∧e8.Row w' ↑w v' (kC l q)∧Below ↑w w w':=by
 have N:=af h;have T:=af hx;have U:=af hl;have X:Ei (∀k,-1000000000<=oW (l.take k) q∧oW (l.take k) q<=1000000000):=af fun k=>Ob (fun x W=>(hx x (List.mem_of_mem_take W)).1) h1 h2 bh;obtain⟨a,c,rfl,_,_⟩:=h;obtain⟨n,hn⟩:=ai l.length;rw [hn]at N⊢;have hnb:n<=250:=bh;have HN:=af hn;clear hx h1 h2 hn hl;go_enter Tryz.func155,Tryz.ntmps155;go_wp2_with fail;go_loopw [5,6,1] (fun v i y w'=>∃(k:Nat) (z:Int),z=oW (l.take k) q∧y=↑z∧i=↑k∧k<=n∧e8.Row w' ↑w v (kC (l.take k) q)∧Below ↑w w w') (fun _ i _ _=>n-(RowKit.intOf i).toNat)
 case atStart=>exact⟨0,q,rfl,rfl,rfl,Nat.zero_le _,bl.Row.nil _ _,Below.refl _ _⟩
 obtain⟨k,z,hz,rfl,rfl,hk,hrow,hb⟩:=hrel;obtain⟨ax,rfl⟩:=aj wr;by_cases hlt:k<n
 ·have hlt':(k:Int)<(n:Int):=by omega
  obtain⟨x,E⟩:=GB l k (by rw [HN.o];exact hlt);obtain⟨b,off,rfl,c0⟩:=qU (N.o.below hb) E;obtain⟨hx0,hx1⟩:=T.o x (List.mem_of_getElem? E);obtain⟨V,hz1⟩:=X.o k;rw [<-hz]at V hz1;have H:Ei (kC (l.take (k+1)) q=kC (l.take k) q++ [mj x z]):=af (by rw [kH E,C7,hz]);have I:Ei (z-mj x z=oW (l.take (k+1)) q):=af (by rw [kH E,Dh,hz]);have P:Ei ((kC (l.take k) q).length<=250):=af (by rw [tT,List.length_take];have:=U.o;omega);generalize kC (l.take k) q=M at*;obtain⟨a1,c1,hv⟩:=hrow.form;obtain⟨m,hm⟩:=ai M.length;rw [hm]at hv;subst hv;have Y:=af hm;have G:=af hb;have O:=af hrow;clear hrow hb hz E hm;by_cases hq:z<x
  ·have hmn:mj x z=z:=if_pos hq;rw [hmn]at H I;have hba:=Below.aI ax (.cells #[↑z] 2);have F:=af (O.o.below hba);have A:=ag G hba;have C:Ei (av (ax.alloc (.cells #[↑z] 2)) ↑ax 2 (lA z).toArray):=af (av.new _ _ _);clear hba hmn;go_wp2_with (first
    |(at_builtin;go_loud (refine e8.push rfl (.tmp 22) (.tmp 24) rfl ↑w (.slice a1 m c1) M rfl F.o ↑ax z rfl C.o.lt C.o.gH (by have:=P.o;omega) A.o.size ?_)))
   intro v' Q B D L;have J:=af B;have K:=af (iJ D A.o (cS F.o));clear B D L;go_wp2_with fail;go_roundw
   case rel=>exact⟨k+1,_,I.o,dR,dR,hlt,by rw [H.o];exact J.o,K.o⟩
   exact Ej
  have hmn:mj x z=x:=if_neg hq;rw [hmn]at H I;have hba:=Below.aI ax (.cells #[↑x] 2);have F:=af (O.o.below hba);have A:=ag G hba;have C:Ei (av (ax.alloc (.cells #[↑x] 2)) ↑ax 2 (lA x).toArray):=af (av.new _ _ _);clear hba hmn;go_wp2_with (first
   |(at_builtin;go_loud (refine e8.push rfl (.tmp 22) (.tmp 24) rfl ↑w (.slice a1 m c1) M rfl F.o ↑ax x rfl C.o.lt C.o.gH (by have:=P.o;omega) A.o.size ?_)))
  intro v' Q B D L;have J:=af B;have K:=af (iJ D A.o (cS F.o));clear B D L;go_wp2_with fail;go_roundw
  case rel=>exact⟨k+1,_,I.o,dR,dR,hlt,by rw [H.o];exact J.o,K.o⟩
  exact Ej
 have hkn:k=n:=bh;rw [hkn,<-HN.o,List.take_length]at hrow;have R:=af hrow;have G:=af hb;clear hkn hrow hb hz;go_wp2_with fail;go_ret;exact⟨_,rfl,R.o,G.o⟩
def Yq (s:bH):Int:=if s.bad=true then 10 else 0
structure rV (W w:World) (pr:Nat) (s:bH):Prop where
 box:∃(a:Option Addr) (c:Nat) (X:List Int) (p:Nat),av w pr 176 #[.slice a X.length c,↑p,.int .i64 (Yq s)]∧DJ a X.length c∧X.length<=c∧cZ.fR w a X∧(∀b off,a=some ⟨b,off,none⟩->X≠ []->b<W.heap.size)∧p<=X.length∧s.bs=X.drop p∧X.length<=900000
 base:W.heap.size<=pr
 aJ:Below ↑W W w
 ok:s.ok
section
variable {W w w':World} {pr:Nat} {s:bH}
theorem rV.keep {F:Nat->Prop} (h:rV W w pr s) (hk:aK F w w') (hp:¬F pr) (hF:∀k,F k->W.heap.size<=k):rV W w' pr s:=by obtain⟨⟨a,c,X,p,h1,h2,h3,h4,h5,hr⟩,h6,h7,h8⟩:=h;exact⟨⟨a,c,X,p,h1.keeps hk hp,h2,h3,NG h4 hk fun b off e hx hf=>by have:=hF b hf;have:=h5 b off e hx;omega,h5,hr⟩,h6,h7.trans (hk.below hF h7.size),h8⟩
theorem rV.below (h:rV W w pr s) (hb:Below ↑w w w'):rV W w' pr s:=
 h.keep (F:=fun _=>False) (Below.keeps hb) (fun h=>h) (fun _ h=>h.elim)
theorem KJ (h:rV W w pr s) (n:Nat) (hn:1<=n) (I:n<=8):
 Calls Tryz.prog 130 #[.pointer ↑pr,↑n] w fun e w'=>∃v,e= .returned v∧cZ.eT w' v (s.take n).1∧rV W w' pr (s.take n).2∧aK (fun g=>g=pr) w w':=by
 have H:=af h;obtain⟨bs,bad⟩:=s;obtain⟨⟨a,c,X,p,hb,ho,hlc,hrd,A,hp,hx,hl⟩,h5,h6,h7⟩:=h;dsimp only at*;have hne:∀b off,a=some ⟨b,off,none⟩->X≠ []->b≠pr:=fun b off e hx=>by have:=A b off e hx;omega
 subst hx;have hdl:(X.drop p).length=X.length-p:=List.length_drop;cases bad with
 |true=>have B:Ei ((⟨X.drop p,true⟩:bH).take n=([],⟨X.drop p,true⟩)):=af (bH.yu rfl);rw [B.o];have c2:=hb.Je;clear hb ho hrd hne h5 h6 h7;go_enter Tryz.func130,Tryz.ntmps130;go_wp2_with fail;go_ret;exact⟨_,rfl,bl.eT.nil,H.o,aK.refl _ _⟩
 |false=>
  obtain⟨c0,c1,c2⟩:=hb.gQ;have fz:∀o,w.frozen? ⟨pr,o,none⟩=false:=fun o=>hb.frozen o;have y1:IntKind.i64.wrap ((X.length:Int)-(p:Int))=(X.length:Int)-(p:Int):=IntWalk.i64_in _ bh;by_cases hlt:X.length-p<n
  ·have B:Ei ((⟨X.drop p,false⟩:bH).take n=([],⟨X.drop p,true⟩)):=af (if_pos (.inr (by rw [hdl];exact hlt)));rw [B.o];have hlt':(X.length:Int)-(p:Int)<(n:Int):=bh;have hbad:∀q,rV W ((w.drewN q).setCell ↑(pr,2) (.int .i64 10)) pr ⟨X.drop p,true⟩:=fun q=>⟨⟨a,c,X,p,(hb.drewN q).aW 2 _,ho,hlc,NG (hrd.below (Below.bO w q)) (ct (w.drewN q) pr 2 _) hne,A,hp,rfl,hl⟩,h5,(h6.trans ((Below.bO w q).mono h6.size)).setCell (p:=⟨pr,2,none⟩) h5 _,h7⟩;have E:=af hbad;clear hb ho hrd hne h5 h6 h7 hbad;go_enter Tryz.func130,Tryz.ntmps130;go_wp2_with fail;go_quiet (fail);go_wp2_with fail;go_ret;exact⟨_,rfl,bl.eT.nil,E.o _,(Below.keeps (Below.bO w _)).trans (ct _ pr 2 _)⟩
  have B:Ei ((⟨X.drop p,false⟩:bH).take n=((X.drop p).take n,⟨(X.drop p).drop n,false⟩)):=af (if_neg (by rintro(h|h);cases h;rw [hdl]at h;exact hlt h));rw [B.o];have hlt':¬(X.length:Int)-(p:Int)<(n:Int):=bh;cases a with
  |none=>have:=(ho.1 rfl).1;omega
  |some ad=>
   obtain⟨b,off,rfl⟩:=ho.2.1 ad rfl bh;have J:IntKind.i64.wrap ((p:Int)+(n:Int))=(p:Int)+(n:Int):=IntWalk.i64_in _ bh;have hsl:∀q,cZ.eT ((w.drewN q).setCell ↑(pr,1) ↑((p:Int)+(n:Int))) (.slice (if c=p then some (⟨b,off,none⟩:Addr)else some ⟨b,off+p,none⟩) (p+n-p) (c-p)) ((X.drop p).take n):=by
    intro q;have htl:((X.drop p).take n).length=n:=by rw [List.length_take,hdl];omega
    refine⟨if c=p then some (⟨b,off,none⟩:Addr)else some ⟨b,off+p,none⟩,c-p,by rw [htl,Nat.add_sub_cancel_left],DJ.drop bh,?_⟩;exact bl.fR.take (wK (NG (hrd.below (Below.bO w q)) (ct (w.drewN q) pr 1 _) hne) hlc) n
   have C:∀q,rV W ((w.drewN q).setCell ↑(pr,1) ↑((p:Int)+(n:Int))) pr ⟨(X.drop p).drop n,false⟩:=fun q=>⟨⟨_,c,X,p+n,(hb.drewN q).aW 1 _,ho,hlc,NG (hrd.below (Below.bO w q)) (ct (w.drewN q) pr 1 _) hne,A,bh,by dsimp only;rw [List.drop_drop],hl⟩,h5,(h6.trans ((Below.bO w q).mono h6.size)).setCell (p:=⟨pr,1,none⟩) h5 _,fun z hz=>h7 z (List.mem_of_mem_drop hz)⟩;have F:c≠p:=bh;have z2:p<=p+n:=bh;have z3:p+n<=c:=bh;have z4:p+n-p=n:=bh;simp only [if_neg F]at hsl;have D:=af hsl;have G:=af C;clear hb ho hrd hne h5 h6 h7 hsl C H;go_enter Tryz.func130,Tryz.ntmps130;go_wp2_with fail;go_quiet (fail);go_wp2_with fail;go_quiet (fail);go_wp2_with fail;go_ret;exact⟨_,rfl,D.o _,G.o _,(Below.keeps (Below.bO w _)).trans (ct _ pr 1 _)⟩
theorem arE (h:rV W w pr s):
 Calls Tryz.prog 97 #[.pointer ↑pr] w fun e w'=>e= .returned (.int .i64 (s.num 1).1)∧rV W w' pr (s.num 1).2∧aK (fun g=>g=pr) w w':=by
 have A:=af (KJ h 1 (Nat.le_refl 1) b9);have hok:=bH.EP (n:=1) h.ok;have hlen:=bH.take_len 1 s;have e1:Ei ((s.num 1).1=leZ (s.take 1).1):=af rfl;have e2:Ei ((s.num 1).2=(s.take 1).2):=af rfl;rw [e1.o,e2.o];clear e1 e2 h;generalize (s.take 1).1=x at*;generalize (s.take 1).2=s' at*;match x,hlen.1 with
 | [],_=>clear hok hlen;go_enter Tryz.func97,Tryz.ntmps97;go_wp2_with fail;refine A.o.mono ?_;rintro e w1 ⟨v,rfl,⟨a,c,rfl,_,_⟩,hrd,hk⟩;have B:=af hrd;have C:=af hk;clear hrd hk A;go_wp2_with fail;go_ret;exact⟨dn,B.o,C.o⟩
 | [z],_=>
   have hz:=hok.2 z cU;have y1:IntKind.i64.wrap z=z:=IntWalk.i64_in _ (by unfold isByte at hz;omega);have hv:leZ [z]=z:=by simp [leZ]
   rw [hv];clear hok hlen hz hv;go_enter Tryz.func97,Tryz.ntmps97;go_wp2_with fail;refine A.o.mono ?_;rintro e w1 ⟨v,rfl,hsl,hrd,hk⟩;obtain⟨b,off,c,hv,c0⟩:=Ut hsl (k:=0) (z:=z) rfl;rw [show [z].length=1 from rfl]at hv;rw [Nat.add_zero]at c0;subst hv;have B:=af hrd;have C:=af hk;clear hrd hk A hsl;go_wp2_with fail;go_ret;exact⟨cF,B.o,C.o⟩
 |_::_::_,h=>exact absurd h cU
theorem arD (h:rV W w pr s):
 Calls Tryz.prog 96 #[.pointer ↑pr] w fun e w'=>e= .returned (.int .i64 s.long.1)∧rV W w' pr s.long.2∧aK (fun g=>g=pr) w w':=by
 have hok:=bH.EP (n:=8) h.ok;have hlen:=bH.take_len 8 s;have e1:Ei (s.long.1=IntKind.i64.wrap (leZ (s.take 8).1)):=af rfl;have e2:Ei (s.long.2=(s.take 8).2):=af rfl;rw [e1.o,e2.o];clear e1 e2;have E:=af (KJ h 8 b9 (Nat.le_refl 8));clear h;generalize (s.take 8).1=x at*;generalize (s.take 8).2=s' at*;have F:=af hok.2;have I:Ei (x.length<=8):=af bh;have L:Ei (IntKind.i64.wrap (leZ x)=wrap64 (leZ x)):=af (IntWalk.i64_left _);rw [L.o];clear hok hlen;go_enter Tryz.func96,Tryz.ntmps96;go_wp2_with fail;refine E.o.mono ?_;rintro e w1 ⟨v,rfl,hsl,hrd,hk⟩;have D:=af hsl;have H:=af hrd;have K:=af hk;clear hsl hrd hk E;obtain⟨a,c,rfl,_,_⟩:=D.o;go_wp2_with fail;go_loopw [4,5] (fun y i w'=>∃k:Nat,i=↑k∧y= .int .u64 (leZ (x.take k))∧k<=x.length∧w1=w') (fun _ i _=>x.length-(RowKit.intOf i).toNat)
 case atStart=>exact⟨0,rfl,rfl,Nat.zero_le _,rfl⟩
 obtain⟨k,rfl,rfl,hk,rfl⟩:=hrel;by_cases hlt:k<x.length
 ·have hlt':(k:Int)<(x.length:Int):=by omega
  have O:k<8:=by have:=I.o;omega
  obtain⟨z,hz⟩:=GB x k hlt;obtain⟨g,off,c',he,c0⟩:=Ut D.o hz;injection he with he _ M;subst he;subst M;have A:isByte z:=F.o z (List.mem_of_getElem? hz);have htl:(x.take k).length=k:=by rw [List.length_take];omega
  have B:=TT (x.take k) (fun q hq=>F.o q (List.mem_of_mem_take hq));rw [htl]at B;have N:Ei (bits .or .u64 (leZ (x.take k)) (z*256^k)=leZ (x.take (k+1))):=af (by rw [IC O B.1 B.2 A,kH hz,xI,htl]);have J:Ei ((2:Int)^(8*k)=256^k):=af (by rw [Int.pow_mul];rfl);have C:Ei (IntKind.u64.wrap (z*256^k)=z*256^k):=af (by
   have e:(2:Int)^(8*k)=256^k:=by rw [Int.pow_mul];rfl
   have G:(2:Int)^(8*k)<=2^56:=by exact_mod_cast Nat.pow_le_pow_right (n:=2) b9 (bh:8*k<=56)
   have hp:(0:Int)<2^(8*k):=Int.pow_pos b9;have hz1:0<=z*2^(8*k):=Int.mul_nonneg A.1 (Int.le_of_lt hp);have P:z*2^(8*k)<=255*2^(8*k):=Int.mul_le_mul_of_nonneg_right A.2 (Int.le_of_lt hp);rw [<-e];exact u64_wrap_id _ hz1 bh)
  have y1:IntKind.i64.wrap (8*(k:Int))=8*(k:Int):=IntWalk.i64_in _ bh;have Q:IntKind.u64.wrap z=z:=u64_wrap_id z (by have:=A.1;omega) (by have:=A.2;omega);have R:IntKind.u64.wrap (8*(k:Int))=8*(k:Int):=u64_wrap_id _ bh bh;clear hz A htl B;generalize leZ (x.take k)=yk at*;go_wp2_with fail;go_roundw
  case rel=>exact⟨k+1,dR,by rw [J.o,C.o,N.o],hlt,cF⟩
  exact Ej
 obtain rfl:k=x.length:=bh;rw [List.take_length];go_wp2_with fail;go_ret;exact⟨cF,H.o,K.o⟩
theorem MZ (h:rV W w pr s):
 Calls Tryz.prog 99 #[.pointer ↑pr] w fun e w'=>e= .returned (.int .i64 (zx s))∧Below ↑w w w':=by
 obtain⟨bs,bad⟩:=s;obtain⟨a,c,X,p,hb,_,_,_,_,hp,hx,hl⟩:=h.box;dsimp only at hb hx;subst hx;have c0:=hb.GC;have c1:=hb.GD;cases bad with
 |true=>have c2:=hb.Je;clear hb h;go_enter Tryz.func99,Tryz.ntmps99;go_wp2_with fail;go_ret;exact⟨dn,Below.refl _ _⟩
 |false=>
  have c2:=hb.Je;clear hb h;by_cases hlt:p<X.length
  ·have hlt':(p:Int)<(X.length:Int):=by omega
   have A:Ei (zx ⟨X.drop p,false⟩=15):=af (by
    unfold zx;have hne:X.drop p≠ []:=by intro h0;have:=congrArg List.length h0;rw [List.length_drop,List.length_nil]at this;omega
    rw [if_neg cU,if_neg hne])
   rw [A.o];go_enter Tryz.func99,Tryz.ntmps99;go_wp2_with fail;go_quiet (fail);go_wp2_with fail;go_ret;exact⟨cF,Below.bO w _⟩
  have hlt':¬(p:Int)<(X.length:Int):=bh;have A:Ei (zx ⟨X.drop p,false⟩=0):=af (by unfold zx;rw [if_neg cU,if_pos (List.drop_eq_nil_of_le bh)]);rw [A.o];go_enter Tryz.func99,Tryz.ntmps99;go_wp2_with fail;go_quiet (fail);go_wp2_with fail;go_ret;exact⟨cF,Below.bO w _⟩
end
end Go.Proofs.YtmaijkoopjocdaaGreat
