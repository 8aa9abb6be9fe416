import Derived.Test.YtmaijkoopjocdaaGreatKW08
import Derived.Test.YtmaijkoopjocdaaGreatKW09
import Derived.Test.YtmaijkoopjocdaaGreatKW05
set_option maxRecDepth 100000
set_option maxHeartbeats 64000000
namespace Go.Proofs.YtmaijkoopjocdaaGreat
open Go.RowKit Go.Lib
def ox (x:Int):Prop:= -1000000000000000<=x∧x<=1000000000000000
theorem ajq {l b:List Int} {k:Nat} {x y:Int} (h1:l[k]? =some x) (h2:b[k]? =some y):iN (l.take (k+1)) (b.take (k+1))=iN (l.take k) (b.take k)++ [x-y]:=by have e1:=dM h1;have e2:=dM h2;rw [kH h1,kH h2];unfold iN;rw [List.zipWith_append (by rw [List.length_take,List.length_take];omega)];rfl
theorem Fz {w:World} {v u:Value} {l b:List Int} (h:e8.eT w v l) (hu:e8.eT w u b) (F:b.length=l.length) (hl:l.length<=250) (hx:∀x∈l,ox x) (hy:∀y∈b,ox y):
 Calls Tryz.prog 158 #[v,u] w fun e w'=>∃v',e= .returned v'∧e8.Row w' ↑w v' (iN l b)∧Below ↑w w w':=by
 have G:=af h;have D:=af hu;have W:=af hx;have p:=af hy;have X:=af hl;obtain⟨a,c,rfl,_,_⟩:=h;obtain⟨a2,c2,rfl,_,_⟩:=hu;obtain⟨n,hn⟩:=ai l.length;rw [F]at D⊢;rw [hn]at G D F⊢;have hnb:n<=250:=bh;have HN:=af hn;have O:=af F;clear hx hy hn hl F;go_enter Tryz.func158,Tryz.ntmps158;go_wp2_with fail;go_loopw [5,6] (fun v i w'=>∃(k:Nat),i=↑k∧k<=n∧e8.Row w' ↑w v (iN (l.take k) (b.take k))∧Below ↑w w w') (fun _ i _=>n-(RowKit.intOf i).toNat)
 case atStart=>exact⟨0,rfl,Nat.zero_le _,bl.Row.nil _ _,Below.refl _ _⟩
 obtain⟨k,rfl,hk,hrow,hb⟩:=hrel;obtain⟨ax,rfl⟩:=aj wr;by_cases hlt:k<n
 ·have hlt':(k:Int)<(n:Int):=by omega
  obtain⟨x,B⟩:=GB l k (by rw [HN.o];exact hlt);obtain⟨y,C⟩:=GB b k (by rw [O.o];exact hlt);obtain⟨b1,off,rfl,_⟩:=qU (G.o.below hb) B;obtain⟨b2,off2,rfl,_⟩:=qU (D.o.below hb) C;have J:Ei (∀wv,Below ↑w w wv->wv.cell? ↑(b1,off+k)=↑x):=af fun wv hb=>by obtain⟨b3,R,he,h3⟩:=qU (G.o.below hb) B;injection he with he;injection he with e1 e2;rw [e1,e2];exact h3
  have L:Ei (∀wv,Below ↑w w wv->wv.cell? ↑(b2,off2+k)=↑y):=af fun wv hb=>by obtain⟨b3,R,he,h3⟩:=qU (D.o.below hb) C;injection he with he;injection he with e1 e2;rw [e1,e2];exact h3
  obtain⟨hx0,hx1⟩:=W.o x (List.mem_of_getElem? B);obtain⟨hy0,hy1⟩:=p.o y (List.mem_of_getElem? C);have V:=af (ajq B C);have j:Ei ((iN (l.take k) (b.take k)).length<=250):=af (by unfold iN;rw [List.length_zipWith,List.length_take];have:=X.o;omega);generalize iN (l.take k) (b.take k)=M at*;obtain⟨a1,c1,hv⟩:=hrow.form;obtain⟨m,hm⟩:=ai M.length;rw [hm]at hv;subst hv;have r:=af hm;have A:=af hb;have Z:=af hrow;have y1:IntKind.i64.wrap (x-y)=x-y:=IntWalk.i64_in _ bh;have T:=af y1;clear hrow hb B C hm y1;go_wp2_with fail;refine cP (S:=fun w'=>w'.cell? ⟨b1,off+k,none⟩=↑x∧w'.cell? ⟨b2,off2+k,none⟩=↑y) ⟨J.o _ A.o.drew,L.o _ A.o.drew⟩ fun hHeld=>?_;refine eX [0,1,2,3,4,5,6,7,8,9] ?_;refine aU 10 fun K hK=>?_;go_simp;rw [T.o];have hba:Below ↑ax ax (ax.alloc (.cells #[.int .i64 (x-y)] 2)).drew:=(Below.aI ax (.cells #[.int .i64 (x-y)] 2)).drew;have H:=Z.o.below hba;have hb2:=A.o.trans (hba.mono A.o.size);have Q:av (ax.alloc (.cells #[.int .i64 (x-y)] 2)) ↑ax 2 (lA (x-y)).toArray:=av.new _ _ _;have I:=Q.below (Below.refl _ _).drew;refine hK.out _ _ ⟨J.o _ hb2,L.o _ hb2⟩ (fun hHeld=>?_);clear hK K;clear Q;generalize (ax.alloc (.cells #[.int .i64 (x-y)] 2)).drew=w2 at*;refine aU 11 fun K hK=>?_;refine e8.step rfl (.tmp 13) (.tmp 23) rfl ↑w _ M rfl H ↑ax (x-y) rfl I.lt I.gH (by have:=j.o;omega) hb2.size ?_;intro v' q N P g;have E:=iJ P hb2 (cS H);refine hK.out _ _ ⟨J.o _ E,L.o _ E⟩ (fun hHeld=>?_);clear hK K;refine gu _ _ _ _ ?_;refine ej 12 ?_;refine gw ?_;have Y:=af N;have d:=af E;clear N P g hHeld E H hb2 I hba;go_wp2_with fail;go_roundw
  case rel=>exact⟨k+1,dR,hlt,by rw [V.o];exact Y.o,d.o⟩
  exact Ej
 have hkn:k=n:=bh;rw [hkn,show l.take n=l by rw [<-HN.o,List.take_length],show b.take n=b by rw [<-O.o,List.take_length]]at hrow;have U:=af hrow;have A:=af hb;clear hkn hrow hb;go_wp2_with fail;go_ret;exact⟨_,rfl,U.o,A.o⟩
theorem ajr {l b:List Int} {k:Nat} {x y:Int} (h1:l[k]? =some x) (h2:b[k]? =some y):oV (l.take (k+1)) (b.take (k+1))=oV (l.take k) (b.take k)++ [x+y]:=by have e1:=dM h1;have e2:=dM h2;rw [kH h1,kH h2];unfold oV;rw [List.zipWith_append (by rw [List.length_take,List.length_take];omega)];rfl
theorem FA {w:World} {v u:Value} {l b:List Int} (h:e8.eT w v l) (hu:e8.eT w u b) (F:b.length=l.length) (hl:l.length<=250) (hx:∀x∈l,ox x) (hy:∀y∈b,ox y):
 Calls Tryz.prog 156 #[v,u] w fun e w'=>∃v',e= .returned v'∧e8.Row w' ↑w v' (oV l b)∧Below ↑w w w':=by
 have G:=af h;have D:=af hu;have W:=af hx;have p:=af hy;have X:=af hl;obtain⟨a,c,rfl,_,_⟩:=h;obtain⟨a2,c2,rfl,_,_⟩:=hu;obtain⟨n,hn⟩:=ai l.length;rw [F]at D⊢;rw [hn]at G D F⊢;have hnb:n<=250:=bh;have HN:=af hn;have O:=af F;clear hx hy hn hl F;go_enter Tryz.func156,Tryz.ntmps156;go_wp2_with fail;go_loopw [5,6] (fun v i w'=>∃(k:Nat),i=↑k∧k<=n∧e8.Row w' ↑w v (oV (l.take k) (b.take k))∧Below ↑w w w') (fun _ i _=>n-(RowKit.intOf i).toNat)
 case atStart=>exact⟨0,rfl,Nat.zero_le _,bl.Row.nil _ _,Below.refl _ _⟩
 obtain⟨k,rfl,hk,hrow,hb⟩:=hrel;obtain⟨ax,rfl⟩:=aj wr;by_cases hlt:k<n
 ·have hlt':(k:Int)<(n:Int):=by omega
  obtain⟨x,B⟩:=GB l k (by rw [HN.o];exact hlt);obtain⟨y,C⟩:=GB b k (by rw [O.o];exact hlt);obtain⟨b1,off,rfl,_⟩:=qU (G.o.below hb) B;obtain⟨b2,off2,rfl,_⟩:=qU (D.o.below hb) C;have J:Ei (∀wv,Below ↑w w wv->wv.cell? ↑(b1,off+k)=↑x):=af fun wv hb=>by obtain⟨b3,R,he,h3⟩:=qU (G.o.below hb) B;injection he with he;injection he with e1 e2;rw [e1,e2];exact h3
  have L:Ei (∀wv,Below ↑w w wv->wv.cell? ↑(b2,off2+k)=↑y):=af fun wv hb=>by obtain⟨b3,R,he,h3⟩:=qU (D.o.below hb) C;injection he with he;injection he with e1 e2;rw [e1,e2];exact h3
  obtain⟨hx0,hx1⟩:=W.o x (List.mem_of_getElem? B);obtain⟨hy0,hy1⟩:=p.o y (List.mem_of_getElem? C);have V:=af (ajr B C);have j:Ei ((oV (l.take k) (b.take k)).length<=250):=af (by unfold oV;rw [List.length_zipWith,List.length_take];have:=X.o;omega);generalize oV (l.take k) (b.take k)=M at*;obtain⟨a1,c1,hv⟩:=hrow.form;obtain⟨m,hm⟩:=ai M.length;rw [hm]at hv;subst hv;have r:=af hm;have A:=af hb;have Z:=af hrow;have y1:IntKind.i64.wrap (x+y)=x+y:=IntWalk.i64_in _ bh;have T:=af y1;clear hrow hb B C hm y1;go_wp2_with fail;refine cP (S:=fun w'=>w'.cell? ⟨b1,off+k,none⟩=↑x∧w'.cell? ⟨b2,off2+k,none⟩=↑y) ⟨J.o _ A.o.drew,L.o _ A.o.drew⟩ fun hHeld=>?_;refine eX [0,1,2,3,4,5,6,7,8,9] ?_;refine aU 10 fun K hK=>?_;go_simp;rw [T.o];have hba:Below ↑ax ax (ax.alloc (.cells #[.int .i64 (x+y)] 2)).drew:=(Below.aI ax (.cells #[.int .i64 (x+y)] 2)).drew;have H:=Z.o.below hba;have hb2:=A.o.trans (hba.mono A.o.size);have Q:av (ax.alloc (.cells #[.int .i64 (x+y)] 2)) ↑ax 2 (lA (x+y)).toArray:=av.new _ _ _;have I:=Q.below (Below.refl _ _).drew;refine hK.out _ _ ⟨J.o _ hb2,L.o _ hb2⟩ (fun hHeld=>?_);clear hK K;clear Q;generalize (ax.alloc (.cells #[.int .i64 (x+y)] 2)).drew=w2 at*;refine aU 11 fun K hK=>?_;refine e8.step rfl (.tmp 13) (.tmp 23) rfl ↑w _ M rfl H ↑ax (x+y) rfl I.lt I.gH (by have:=j.o;omega) hb2.size ?_;intro v' q N P g;have E:=iJ P hb2 (cS H);refine hK.out _ _ ⟨J.o _ E,L.o _ E⟩ (fun hHeld=>?_);clear hK K;refine gu _ _ _ _ ?_;refine ej 12 ?_;refine gw ?_;have Y:=af N;have d:=af E;clear N P g hHeld E H hb2 I hba;go_wp2_with fail;go_roundw
  case rel=>exact⟨k+1,dR,hlt,by rw [V.o];exact Y.o,d.o⟩
  exact Ej
 have hkn:k=n:=bh;rw [hkn,show l.take n=l by rw [<-HN.o,List.take_length],show b.take n=b by rw [<-O.o,List.take_length]]at hrow;have U:=af hrow;have A:=af hb;clear hkn hrow hb;go_wp2_with fail;go_ret;exact⟨_,rfl,U.o,A.o⟩
theorem SC {w:World} {v:Value} {l:List Int} (h:e8.eT w v l) (hl:l.length<=250) (hx:∀x∈l,1<=x∧x<=1000000) (q:Int):
 Calls Tryz.prog 154 #[v,↑q] w fun e w'=>e= .returned (.bool (decide (0<=q∧q<=l.sum)))∧w=w':=by
 have C:=af h;have G:=af hx;have D:Ei (∀k,(l.take k).sum<=250000000∧0<=(l.take k).sum):=af fun k=>by
  have h1:=BR (l:=l.take k) (b:=1000000) fun x B=>(hx x (List.mem_of_mem_take B)).2;have h2:=Fy (l:=l.take k) fun x B=>by have:=(hx x (List.mem_of_mem_take B)).1;omega
  have h3:((l.take k).length:Int)<=250:=by rw [List.length_take];omega
  exact⟨bh,h2⟩
 obtain⟨a,c,rfl,_,_⟩:=h;obtain⟨n,hn⟩:=ai l.length;rw [hn]at C hl⊢;have HN:=af hn;have hnb:(n:Int)<=250:=bh;clear hx hn;by_cases hq:q<0
 ·have E:Ei (decide (0<=q∧q<=l.sum)=false):=af (decide_eq_false bh);rw [E.o];go_enter Tryz.func154,Tryz.ntmps154;go_wp2_with fail;go_ret;exact⟨cF,cF⟩
 go_enter Tryz.func154,Tryz.ntmps154;go_wp2_with fail;go_loopw [5,6] (fun t i w'=>∃(k:Nat) (z:Int),z=(l.take k).sum∧t=↑z∧i=↑k∧k<=n∧w=w') (fun _ i _=>n-(RowKit.intOf i).toNat)
 case atStart=>exact⟨0,0,cU,rfl,rfl,Nat.zero_le _,rfl⟩
 obtain⟨k,z,hz,rfl,rfl,hk,rfl⟩:=hrel;obtain⟨hz1,H⟩:=D.o k;rw [<-hz]at H hz1;by_cases hlt:k<n
 ·have hlt':(k:Int)<(n:Int):=by omega
  obtain⟨x,A⟩:=GB l k (by rw [HN.o];exact hlt);obtain⟨b,off,rfl,c0⟩:=qU C.o A;obtain⟨hx0,hx1⟩:=G.o x (List.mem_of_getElem? A);have d0:¬x<1:=bh;have d1:¬1000000<x:=bh;have F:Ei (z+x=(l.take (k+1)).sum):=af (by rw [kH A,SA,hz]);clear A hz;go_wp2_with fail;go_roundw
  case rel=>exact⟨k+1,_,F.o,dR,dR,hlt,cF⟩
  exact Ej
 have hkn:k=n:=bh;rw [hkn,<-HN.o,List.take_length]at hz;have I:=af hz;clear hz hkn;go_wp2_with fail;go_ret;refine⟨?_,cF⟩;rw [<-I.o];have:(0<=q∧q<=z)↔q<=z:=⟨fun h=>h.2,fun h=>⟨bh,h⟩⟩;simp only [this];rfl
theorem ai4 {w:World} {v:Value} {l:List Int} (h:e8.eT w v l) (hl:l.length<=250) (hx:∀x∈l,0<=x∧x<=1000000):
 Calls Tryz.prog 160 #[v] w fun e w'=>e= .returned (.tuple #[↑l.sum,.bool true])∧w=w':=by
 have C:=af h;have F:=af hx;have D:Ei (∀k,(l.take k).sum<=250000000∧0<=(l.take k).sum):=af fun k=>by
  have h1:=BR (l:=l.take k) (b:=1000000) fun x B=>(hx x (List.mem_of_mem_take B)).2;have h2:=Fy (l:=l.take k) fun x B=>(hx x (List.mem_of_mem_take B)).1;have h3:((l.take k).length:Int)<=250:=by rw [List.length_take];omega
  exact⟨bh,h2⟩
 obtain⟨a,c,rfl,_,_⟩:=h;obtain⟨n,hn⟩:=ai l.length;rw [hn]at C hl⊢;have HN:=af hn;have hnb:(n:Int)<=250:=bh;clear hx hn;go_enter Tryz.func160,Tryz.ntmps160;go_wp2_with fail;go_loopw [4,5,6] (fun hi t i w'=>∃(k:Nat) (z:Int),z=(l.take k).sum∧hi=↑()∧t= .int .u64 z∧i=↑k∧k<=n∧w=w') (fun _ _ i _=>n-(RowKit.intOf i).toNat)
 case atStart=>exact⟨0,0,cU,rfl,rfl,rfl,Nat.zero_le _,rfl⟩
 obtain⟨k,z,hz,rfl,rfl,rfl,hk,rfl⟩:=hrel;obtain⟨hz1,G⟩:=D.o k;rw [<-hz]at G hz1;by_cases hlt:k<n
 ·have hlt':(k:Int)<(n:Int):=by omega
  obtain⟨x,A⟩:=GB l k (by rw [HN.o];exact hlt);obtain⟨b,off,rfl,c0⟩:=qU C.o A;obtain⟨hx0,hx1⟩:=F.o x (List.mem_of_getElem? A);have d0:¬x<0:=bh;have y0:x % 18446744073709551616=x:=bh;have y1:(z+x) % 18446744073709551616=z+x:=bh;have d1:¬z+x<z:=bh;have E:Ei (z+x=(l.take (k+1)).sum):=af (by rw [kH A,SA,hz]);clear A hz;go_wp2_with fail;go_roundw
  case rel=>exact⟨k+1,_,E.o,rfl,dR,dR,hlt,cF⟩
  exact Ej
 have hkn:k=n:=bh;rw [hkn,<-HN.o,List.take_length]at hz;have H:=af hz;have d1:z<=9223372036854775807:=bh;clear hz hkn;go_wp2_with fail;go_ret2;exact⟨by rw [<-H.o];rfl,cF⟩
theorem add_div {X Y c:Int} (hc:0<c):(X+Y) / c=X / c+Y / c+(if c<=X % c+Y % c then 1 else 0)∧(X+Y) % c=X % c+Y % c-(if c<=X % c+Y % c then c else 0):=by
 have h1:=Int.mul_ediv_add_emod X c;have h2:=Int.mul_ediv_add_emod Y c;have h3:=Int.emod_nonneg X (Int.ne_of_gt hc);have h4:=Int.emod_nonneg Y (Int.ne_of_gt hc);have h5:=Int.emod_lt_of_pos X hc;have h6:=Int.emod_lt_of_pos Y hc;have e:X+Y=c*(X / c+Y / c)+(X % c+Y % c):=by rw [Int.mul_add];omega
 split
 ·rename_i h;have e2:X+Y=(X % c+Y % c-c)+c*(X / c+Y / c+1):=by rw [e,Int.mul_add c _ 1,Int.mul_one];omega
  constructor
  ·rw [e2,Int.add_mul_ediv_left _ _ (Int.ne_of_gt hc),Int.ediv_eq_zero_of_lt bh bh];omega
  rw [e2,Int.add_mul_emod_self_left,Int.emod_eq_of_lt bh bh]
 rename_i h;have e2:X+Y=(X % c+Y % c)+c*(X / c+Y / c):=bh;constructor
 ·rw [e2,Int.add_mul_ediv_left _ _ (Int.ne_of_gt hc),Int.ediv_eq_zero_of_lt bh bh];omega
 rw [e2,Int.add_mul_emod_self_left,Int.emod_eq_of_lt bh bh];omega
theorem Di (b:Int) (j:Nat):b / 2^j=2*(b / 2^(j+1))+b / 2^j % 2:=by
 have:b / 2^(j+1)=b / 2^j / 2:=by rw [Int.pow_succ,Int.ediv_ediv_of_nonneg (by exact Int.le_of_lt (Int.pow_pos bh))]
 rw [this];omega
def qv (a b c:Int) (j:Nat):Int:=a*(b / 2^j) / c
def qw (a b c:Int) (j:Nat):Int:=a*(b / 2^j) % c
theorem ajl (a b c:Int) (j:Nat) (hc:0<c):a*(2*(b / 2^(j+1))) / c=(if c<=2*qw a b c (j+1)then 2*qv a b c (j+1)+1 else 2*qv a b c (j+1))∧
 a*(2*(b / 2^(j+1))) % c=(if c<=2*qw a b c (j+1)then 2*qw a b c (j+1)-c else 2*qw a b c (j+1)):=by
 have h:=add_div (X:=a*(b / 2^(j+1))) (Y:=a*(b / 2^(j+1))) hc;rw [<-Int.two_mul,show 2*(a*(b / 2^(j+1)))=a*(2*(b / 2^(j+1)))by rw [Int.mul_left_comm]]at h;unfold qv qw;obtain⟨h1,h2⟩:=h;rw [h1,h2];constructor<;>(split<;>split<;>omega)
theorem ajm (a b c:Int) (j:Nat) (h:b / 2^j % 2=0):qv a b c j=a*(2*(b / 2^(j+1))) / c∧qw a b c j=a*(2*(b / 2^(j+1))) % c:=by unfold qv qw;rw [Di b j,h,Int.add_zero];exact⟨rfl,rfl⟩
theorem ajn (a b c:Int) (j:Nat) (hc:0<c) (h:b / 2^j % 2=1):qv a b c j=(if c<=a*(2*(b / 2^(j+1))) % c+a % c then a*(2*(b / 2^(j+1))) / c+a / c+1 else a*(2*(b / 2^(j+1))) / c+a / c)∧
 qw a b c j=(if c<=a*(2*(b / 2^(j+1))) % c+a % c then a*(2*(b / 2^(j+1))) % c+a % c-c else a*(2*(b / 2^(j+1))) % c+a % c):=by
 have e:=add_div (X:=a*(2*(b / 2^(j+1)))) (Y:=a) hc;unfold qv qw;rw [Di b j,h,Int.mul_add,Int.mul_one,e.1,e.2];constructor<;>(split<;>omega)
theorem ajo {a b c:Int} (j:Nat) (ha:0<=a∧a<=1000000000) (hb:0<=b∧b<=1000000000) (hc:1<=c):0<=qv a b c j∧qv a b c j<=1000000000000000000∧0<=qw a b c j∧qw a b c j<c:=by have hp:(0:Int)<2^j:=Int.pow_pos bh;have h1:0<=b / 2^j:=Int.ediv_nonneg hb.1 (Int.le_of_lt hp);have h2:b / 2^j<=b:=Int.ediv_le_self _ hb.1;have h3:0<=a*(b / 2^j):=Int.mul_nonneg ha.1 h1;have h4:a*(b / 2^j)<=1000000000*1000000000:=Int.le_trans (Int.mul_le_mul_of_nonneg_right ha.2 h1) (Int.mul_le_mul_of_nonneg_left bh bh);have h5:qv a b c j<=a*(b / 2^j):=Int.ediv_le_self _ h3;exact⟨Int.ediv_nonneg h3 bh,bh,Int.emod_nonneg _ bh,Int.emod_lt_of_pos _ bh⟩
theorem ZZ (a b c:Int) (w:World) (ha:0<=a∧a<=1000000000) (hb:0<=b∧b<=1000000000) (hc:1<=c∧c<=1000000000):
 Calls Tryz.prog 159 #[↑a,↑b,↑c] w fun e w'=>e= .returned (.tuple #[.int .i64 (a*b / c),.bool true])∧w=w':=by
 have I:=af fun j=>ajo j ha hb hc.1;obtain⟨ha0,Q⟩:=ha;obtain⟨hb0,hb1⟩:=hb;obtain⟨hc0,N⟩:=hc;have d0:¬a<0:=bh;have d1:¬b<0:=bh;have d2:¬c<1:=bh;have y0:a % 18446744073709551616=a:=bh;have y1:c % 18446744073709551616=c:=bh;have d3:¬c=0:=bh;go_enter Tryz.func159,Tryz.ntmps159;go_wp2_with fail;go_loopw [8,9,13] (fun q r i w'=>∃(j:Nat) (x y t:Int),x=qv a b c j∧y=qw a b c j∧t+1=j∧q= .int .u64 x∧r= .int .u64 y∧i=↑t∧j<=63∧w=w') (fun _ _ i _=>(RowKit.intOf i+1).toNat)
 case atStart=>have h0:b / 2^63=0:=Int.ediv_eq_zero_of_lt hb0 bh;exact⟨63,0,0,62,by unfold qv;rw [h0];simp,by unfold qw;rw [h0];simp,rfl,rfl,rfl,rfl,bh,rfl⟩
 obtain⟨j,x,y,t,hx,hy,ht,rfl,rfl,rfl,hj,rfl⟩:=hrel;obtain⟨hx0,hx1,hy0,hy1⟩:=I.o j;rw [<-hx]at hx0 hx1;rw [<-hy]at hy0 hy1;by_cases hz:j=0
 ·subst hz;have K:t= -1:=bh;subst K;have P:Ei (a*b / c=x):=af (by rw [hx];unfold qv;rw [Int.pow_zero,Int.ediv_one]);clear hx hy I;have e1:x<=9223372036854775807:=bh;go_wp2_with fail;go_ret2;exact⟨by rw [P.o];rfl,cF⟩
 obtain⟨m,rfl⟩:∃m,j=m+1:=⟨j-1,bh⟩;have K:t=(m:Int):=bh;subst K;have hm:m<=62:=bh;have F:=af (ajl a b c m bh);have h0:=ajm a b c m;have h1:=ajn a b c m bh;have L:=I.o m;obtain⟨X,hX⟩:=ai (a*(2*(b / 2^(m+1))) / c);obtain⟨Y,hY⟩:=ai (a*(2*(b / 2^(m+1))) % c);rw [<-hx,<-hy,hX,hY]at F;rw [hX,hY]at h0 h1;have e1:¬9223372036854775808<=x:=bh;have e2:2*x % 18446744073709551616=2*x:=bh;have bJ:2*y % 18446744073709551616=2*y:=bh;have T:(m:Int) % 18446744073709551616=(m:Int):=bh;have D:=af h0;have E:=af h1;have R:=af L;clear hx hy hX hY I h0 h1 L;have hu0:0<=a / c:=Int.ediv_nonneg ha0 bh;have hu1:a / c<=1000000000:=Int.le_trans (Int.ediv_le_self _ ha0) Q;have hv0:0<=a % c:=Int.emod_nonneg _ bh;have hv1:a % c<c:=Int.emod_lt_of_pos _ bh;have M:0<=b / 2^m:=Int.ediv_nonneg hb0 (Int.le_of_lt (Int.pow_pos bh));have O:b / 2^m<=1000000000:=Int.le_trans (Int.ediv_le_self _ hb0) hb1;have q1:bits .and .i64 (b / 2^m) 1=b / 2^m % 2:=bits_mask .i64 62 b9 (fun n h0 h1=>IntWalk.i64_in n bh) 1 b9 _ M bh;by_cases hd:c<=2*y
 ·rw [if_pos hd,if_pos hd]at F;obtain⟨G,H⟩:=F.o;rw [G,H]at D E;clear F G H;by_cases B:b / 2^m % 2=1
  ·have J:(b / 2^m % 2==1)=true:=by rw [B];rfl
   obtain⟨g1,g2⟩:=E.o B;clear B D E;by_cases hk:c<=2*y-c+a % c
   ·rw [if_pos hk]at g1 g2;have A:Ei (2*x+1+a / c+1=qv a b c m):=af g1.symm;have C:Ei (2*y-c+a % c-c=qw a b c m):=af g2.symm;clear g1 g2;go_wp2_with fail;go_roundw
    case rel=>exact⟨m,_,_,_,A.o,C.o,bh,dR,dR,rfl,bh,cF⟩
    simp [RowKit.intOf]
   rw [if_neg hk]at g1 g2;have A:Ei (2*x+1+a / c=qv a b c m):=af g1.symm;have C:Ei (2*y-c+a % c=qw a b c m):=af g2.symm;clear g1 g2;go_wp2_with fail;go_roundw
   case rel=>exact⟨m,_,_,_,A.o,C.o,bh,dR,dR,rfl,bh,cF⟩
   simp [RowKit.intOf]
  have J:(b / 2^m % 2==1)=false:=by rw [beq_eq_false_iff_ne];exact B
  obtain⟨g1,g2⟩:=D.o bh;have A:Ei (2*x+1=qv a b c m):=af g1.symm;have C:Ei (2*y-c=qw a b c m):=af g2.symm;clear B D E g1 g2;go_wp2_with fail;go_roundw
  case rel=>exact⟨m,_,_,_,A.o,C.o,bh,dR,dR,rfl,bh,cF⟩
  simp [RowKit.intOf]
 rw [if_neg hd,if_neg hd]at F;obtain⟨G,H⟩:=F.o;rw [G,H]at D E;clear F G H;by_cases B:b / 2^m % 2=1
 ·have J:(b / 2^m % 2==1)=true:=by rw [B];rfl
  obtain⟨g1,g2⟩:=E.o B;clear B D E;by_cases hk:c<=2*y+a % c
  ·rw [if_pos hk]at g1 g2;have A:Ei (2*x+a / c+1=qv a b c m):=af g1.symm;have C:Ei (2*y+a % c-c=qw a b c m):=af g2.symm;clear g1 g2;go_wp2_with fail;go_roundw
   case rel=>exact⟨m,_,_,_,A.o,C.o,bh,dR,dR,rfl,bh,cF⟩
   simp [RowKit.intOf]
  rw [if_neg hk]at g1 g2;have A:Ei (2*x+a / c=qv a b c m):=af g1.symm;have C:Ei (2*y+a % c=qw a b c m):=af g2.symm;clear g1 g2;go_wp2_with fail;go_roundw
  case rel=>exact⟨m,_,_,_,A.o,C.o,bh,dR,dR,rfl,bh,cF⟩
  simp [RowKit.intOf]
 have J:(b / 2^m % 2==1)=false:=by rw [beq_eq_false_iff_ne];exact B
 obtain⟨g1,g2⟩:=D.o bh;have A:Ei (2*x=qv a b c m):=af g1.symm;have C:Ei (2*y=qw a b c m):=af g2.symm;clear B D E g1 g2;go_wp2_with fail;go_roundw
 case rel=>exact⟨m,_,_,_,A.o,C.o,bh,dR,dR,rfl,bh,cF⟩
 simp [RowKit.intOf]
structure xF (l:List Int) (q:Int):Prop where
 len:l.length<=250
 each:∀x∈l,0<=x∧x<=1000000
 q0:0<=q
 q1:q<=250000000
 all:l.sum<=0∨q<=l.sum
theorem xF.part {l:List Int} {q least:Int} (h:xF l q) (hl:1<=least):∀x∈l,0<=lM least q l.sum x∧lM least q l.sum x<=x:=
 fun x hx=>ai3 hl (h.each x hx).1 h.q0 h.all
theorem xF.parts {l:List Int} {q least:Int} (h:xF l q) (hl:1<=least):∀y∈nY l least q,0<=y∧y<=1000000:=by intro y hy;unfold nY at hy;obtain⟨x,hx,rfl⟩:=List.mem_map.1 hy;have:=h.part hl x hx;have:=(h.each x hx).2;omega
theorem xF.rest {l:List Int} {q least:Int} (h:xF l q) (hl:1<=least):∀y∈iN l (nY l least q),0<=y∧y<=1000000:=by
 intro y hy;obtain⟨k,hk,rfl⟩:=List.getElem_of_mem hy;have hk2:k<l.length:=by rwa [tQ _ _ (Lb l least q)]at hk
 have e:(iN l (nY l least q))[k]? =some (l[k]-lM least q l.sum l[k]):=ZX (List.getElem?_eq_getElem hk2) (by unfold nY;rw [List.getElem?_map,List.getElem?_eq_getElem hk2];rfl);rw [List.getElem?_eq_getElem hk]at e;injection e with e;rw [e];have:=h.part hl _ (List.getElem_mem hk2);have:=h.each _ (List.getElem_mem hk2);omega
theorem xF.ZY {l:List Int} {q least:Int} (h:xF l q) (hl:1<=least) (k:Nat):0<=(nY (l.take k) least q).sum∧((l.take k).map (lM least q l.sum)).sum<=250000000∧0<=((l.take k).map (lM least q l.sum)).sum:=by
 have h1:∀y∈(l.take k).map (lM least q l.sum),0<=y∧y<=1000000:=fun y hy=>by obtain⟨x,hx,rfl⟩:=List.mem_map.1 hy;have:=h.part hl x (List.mem_of_mem_take hx);have:=(h.each x (List.mem_of_mem_take hx)).2;omega
 have h2:=BR (b:=1000000) fun y hy=>(h1 y hy).2;have h3:=Fy fun y hy=>(h1 y hy).1;rw [List.length_map,List.length_take]at h2;have:=h.len;refine⟨?_,bh,h3⟩;have h4:0<=(l.take k).sum:=Fy fun x hx=>(h.each x (List.mem_of_mem_take hx)).1;exact Fy fun y hy=>by
  unfold nY at hy;obtain⟨x,hx,rfl⟩:=List.mem_map.1 hy;unfold lM;by_cases hz:0<(l.take k).sum
  ·rw [if_pos hz];have:0<=x*q / (l.take k).sum:=Int.ediv_nonneg (Int.mul_nonneg (h.each x (List.mem_of_mem_take hx)).1 h.q0) bh;split<;>omega
  rw [if_neg hz];split<;>omega
theorem HQ {w:World} {v:Value} {l:List Int} (h:e8.eT w v l) {least q:Int} (hB:xF l q) (hl:1<=least):
 Calls Tryz.prog 157 #[v,↑least,↑q] w fun e w'=>∃v',e= .returned v'∧e8.Row w' ↑w v' (xG l least q)∧Below ↑w w w':=by
 have W:=af h;have dx:=af (hB.part hl);have Z:=af (hB.parts hl);have U:=af (hB.rest hl);have p:=af (hB.ZY hl);have f:=af hB.each;have oG:=af hB;have Q:=af (ai4 h hB.len hB.each);have hs0:0<=l.sum:=Fy fun x hx=>(hB.each x hx).1;have hs1:l.sum<=250000000:=by have:=BR (b:=1000000) fun x hx=>(hB.each x hx).2;have:=hB.len;omega
 have jW:=hB.q0;have hq1:=hB.q1;have O:=af hB.len;obtain⟨a,c,rfl,_,_⟩:=h;obtain⟨n,hn⟩:=ai l.length;obtain⟨S,hS⟩:=ai l.sum;unfold xG nY at*;simp only [hS]at dx Z U p hs0 hs1 Q⊢;rw [hn]at W Q⊢;have hnb:(n:Int)<=250:=by have:=O.o;omega
 have HN:=af hn;obtain⟨R,g⟩:=ai (oV (l.map (lM least q S)) (kC (iN l (l.map (lM least q S))) (q-(l.map (lM least q S)).sum)));rw [g];have nW:=af g;clear hn hS hB g;go_enter Tryz.func157,Tryz.ntmps157;go_wp2_with fail;refine Q.o.mono ?_;rintro e w2 ⟨rfl,rfl⟩;clear Q;go_wp2_with fail;go_loopw [9,10,11] (fun v y i w'=>∃(k:Nat) (z:Int),z=q-((l.take k).map (lM least q S)).sum∧y=↑z∧i=↑k∧k<=n∧e8.Row w' ↑w v ((l.take k).map (lM least q S))∧Below ↑w w w') (fun _ _ i _=>n-(RowKit.intOf i).toNat)
 case atStart=>exact⟨0,q,cU,rfl,rfl,Nat.zero_le _,bl.Row.nil _ _,Below.refl _ _⟩
 obtain⟨k,z,hz,rfl,rfl,hk,hrow,hb⟩:=hrel;obtain⟨ax,rfl⟩:=aj wr;have oF:=(p.o k).2;have dm: -250000000<=z:=bh;have hz1:z<=250000000:=bh;clear oF;by_cases hlt:k<n
 ·have hlt':(k:Int)<(n:Int):=by omega
  obtain⟨x,N⟩:=GB l k (by rw [HN.o];exact hlt);obtain⟨b,off,rfl,c0⟩:=qU (W.o.below hb) N;obtain⟨hx0,hx1⟩:=f.o x (List.mem_of_getElem? N);obtain⟨uq,KI⟩:=dx.o x (List.mem_of_getElem? N);obtain⟨P,hP⟩:=ai (lM least q S x);rw [hP]at uq KI;have T:Ei ((l.take (k+1)).map (lM least q S)=(l.take k).map (lM least q S)++ [P]):=af (by rw [kH N,List.map_append,<-hP];rfl);have X:Ei (z-P=q-((l.take (k+1)).map (lM least q S)).sum):=af (by rw [T.o,SA,hz];omega);have d:Ei (((l.take k).map (lM least q S)).length<=250):=af (by rw [List.length_map,List.length_take];have:=O.o;omega);generalize (l.take k).map (lM least q S)=M at*;obtain⟨a1,c1,hv⟩:=hrow.form;obtain⟨m,hm⟩:=ai M.length;rw [hm]at hv;subst hv;have cM:=af hm;have G:=af hb;have Y:=af hrow;have A:=af hP;clear hrow hb hz N hm hP;by_cases hS:0<S
  ·have H:=af (ZZ x q S ax bh bh bh);unfold lM at A;rw [if_pos hS]at A;go_wp2_with fail;refine H.o.mono ?_;rintro e w2 ⟨rfl,rfl⟩;clear H;obtain⟨t,ht⟩:=ai (x*q / S);rw [ht]at A⊢;clear ht;by_cases htl:t<least
   ·rw [if_pos htl]at A;obtain rfl:=A.o;have hba:=Below.aI ax (.cells #[↑()] 2);have F:=af (Y.o.below hba);have B:=ag G hba;have D:Ei (av (ax.alloc (.cells #[↑()] 2)) ↑ax 2 (lA 0).toArray):=af (av.new _ _ _);clear hba;go_wp2_with (first
     |(at_builtin;go_loud (refine e8.push rfl (.tmp 40) (.tmp 42) rfl ↑w (.slice a1 m c1) M rfl F.o ↑ax 0 rfl D.o.lt D.o.gH (by have:=d.o;omega) B.o.size ?_)))
    intro v' s C E K;have I:=af C;have J:=af (iJ E B.o (cS F.o));clear C E K;go_wp2_with fail;go_roundw
    case rel=>exact⟨k+1,_,X.o,dR,dR,hlt,by rw [T.o];exact I.o,J.o⟩
    exact Ej
   rw [if_neg htl]at A;obtain rfl:=A.o;have hba:=Below.aI ax (.cells #[↑t] 2);have F:=af (Y.o.below hba);have B:=ag G hba;have D:Ei (av (ax.alloc (.cells #[↑t] 2)) ↑ax 2 (lA t).toArray):=af (av.new _ _ _);clear hba;go_wp2_with (first
    |(at_builtin;go_loud (refine e8.push rfl (.tmp 40) (.tmp 42) rfl ↑w (.slice a1 m c1) M rfl F.o ↑ax t rfl D.o.lt D.o.gH (by have:=d.o;omega) B.o.size ?_)))
   intro v' s C E K;have I:=af C;have J:=af (iJ E B.o (cS F.o));clear C E K;go_wp2_with fail;go_roundw
   case rel=>exact⟨k+1,_,X.o,dR,dR,hlt,by rw [T.o];exact I.o,J.o⟩
   exact Ej
  unfold lM at A;rw [if_neg hS,if_pos bh]at A;have htl:(0:Int)<least:=bh;obtain rfl:=A.o;have hba:=Below.aI ax (.cells #[↑()] 2);have F:=af (Y.o.below hba);have B:=ag G hba;have D:Ei (av (ax.alloc (.cells #[↑()] 2)) ↑ax 2 (lA 0).toArray):=af (av.new _ _ _);clear hba;go_wp2_with (first
   |(at_builtin;go_loud (refine e8.push rfl (.tmp 40) (.tmp 42) rfl ↑w (.slice a1 m c1) M rfl F.o ↑ax 0 rfl D.o.lt D.o.gH (by have:=d.o;omega) B.o.size ?_)))
  intro v' s C E K;have I:=af C;have J:=af (iJ E B.o (cS F.o));clear C E K;go_wp2_with fail;go_roundw
  case rel=>exact⟨k+1,_,X.o,dR,dR,hlt,by rw [T.o];exact I.o,J.o⟩
  exact Ej
 have hkn:k=n:=bh;rw [hkn,<-HN.o,List.take_length]at hrow;rw [hkn,<-HN.o,List.take_length]at hz;have bM:=af hrow;have G:=af hb;have V:(l.map (lM least q S)).length=l.length:=by rw [List.length_map]
 have L:=af V;have H:=af (Fz (W.o.below hb) hrow.sl V O.o (fun x hx=>by have:=f.o x hx;unfold ox;omega) (fun y hy=>by have:=Z.o y hy;unfold ox;omega));have ec:=af hz;generalize l.map (lM least q S)=M at*;obtain⟨a1,c1,hv⟩:=hrow.form;rw [L.o,HN.o]at hv;subst hv;clear hkn hrow hb hz V;go_wp2_with fail;refine H.o.mono ?_;rintro e w2 ⟨v2,rfl,gv,hb2⟩;have hrl:(iN l M).length<=250:=by rw [tQ _ _ L.o];exact O.o
 have qV:=af (SB gv.sl hrl U.o z bh bh);have aS:=ag G hb2;have kS:=af (bM.o.below hb2);have nJ:Ei ((kC (iN l M) z).length=M.length):=af (by rw [tT,tQ _ _ L.o,L.o]);have BO:Ei (∀y∈kC (iN l M) z,ox y):=af fun y hy=>by
  obtain⟨j,hj,rfl⟩:=List.getElem_of_mem hy;have hj2:j<(iN l M).length:=by rwa [tT]at hj
  have e:=Oa (q:=z) (List.getElem?_eq_getElem hj2);rw [List.getElem?_eq_getElem hj]at e;injection e with e;rw [e];have h1:=U.o _ (List.getElem_mem hj2);have h2:=Ob (l:=(iN l M).take j) (q:=z) (b:=250000000) (fun y hy=>(U.o y (List.mem_of_mem_take hy)).1) bh bh bh;have h3:=Z0 (b:=250000000) h1.1 h2.1 h2.2;unfold ox;omega
 clear gv hb2 H hrl;go_wp2_with fail;refine qV.o.mono ?_;rintro e w3 ⟨v3,rfl,jr,hb3⟩;have r:=af (FA (kS.o.below hb3).sl jr.sl nJ.o (by rw [L.o];exact O.o) (fun y hy=>by have:=Z.o y hy;unfold ox;omega) BO.o);have u:=ag aS hb3;clear jr hb3 qV;go_wp2_with fail;refine r.o.mono ?_;rintro e az ⟨v4,rfl,gJ,hb4⟩;have fM:=af (gJ.base u.o.size);have bN:=ag u hb4;clear gJ hb4 r;go_wp2_with fail;go_ret;exact⟨_,rfl,by rw [<-nW.o,<-ec.o];exact fM.o,bN.o⟩
def gI:bl aC:=⟨aC.cells,5,fun _=>rfl,aC.kI,bh,139,179,.agg Q9.cells.toArray,40,Tryz.underlying179,eP,dn,bh⟩
structure g4 (W w:World) (pw:Nat) (L:List aC):Prop where
 box:∃a c,av w pw 181 #[.slice a L.length c]∧gI.Row w ↑W (.slice a L.length c) L
 base:W.heap.size<=pw
 aJ:Below ↑W W w
section
variable {W w w':World} {pw:Nat} {L:List aC}
theorem g4.below (h:g4 W w pw L) (hb:Below ↑w w w'):g4 W w' pw L:=by obtain⟨⟨a,c,h1,h2⟩,h3,h4⟩:=h;exact⟨⟨a,c,h1.below hb,h2.below hb⟩,h3,h4.trans (hb.mono h4.size)⟩
theorem Gx (side x y:Int) (w:World):
 Calls Tryz.prog 72 #[↑side,↑x,↑y] w fun e w'=>e= .returned (.bool (cT side x y))∧w=w':=by
 unfold cT;by_cases h:side=1
 ·subst h;go_enter Tryz.func72,Tryz.ntmps72;go_wp2_with fail;go_ret;exact⟨cF,cF⟩
 have hb:(side==1)=false:=by rw [beq_eq_false_iff_ne];exact h
 rw [if_neg h];go_enter Tryz.func72,Tryz.ntmps72;go_wp2_with fail;go_ret;exact⟨cF,cF⟩
theorem CX (h:g4 W w pw L) (hl:L.length<=250) (id:Int):
 Calls Tryz.prog 134 #[.pointer ↑pw,↑id] w fun e w'=>(∃r,e= .returned (.int .i64 r)∧((r= -1∧L.find? (fun o=>o.id==id)=none)∨∃(k:Nat) (o:aC),r=k∧L[k]? =some o∧o.id=id∧L.find? (fun o=>o.id==id)=some o))∧w=w':=by
 obtain⟨a,c,hb,hr⟩:=h.box;obtain⟨a',c',he,hac,hrd⟩:=hr.rd;injection he with G _ H;subst G H;have I:=hb.GC;have R:=af hrd;clear hb hr h hrd hac;go_enter Tryz.func134,Tryz.ntmps134;go_wp2_with fail;go_loopw [5] (fun i w'=>∃k:Nat,i=↑k∧k<=L.length∧(L.find? (fun o=>o.id==id)=(L.drop k).find? (fun o=>o.id==id))∧w=w') (fun i _=>L.length-(RowKit.intOf i).toNat)
 case atStart=>exact⟨0,rfl,Nat.zero_le _,rfl,rfl⟩
 obtain⟨k,rfl,hk,hf,rfl⟩:=hrel;have B:=af hf;clear hf;by_cases hlt:k<L.length
 ·have hlt':(k:Int)<(L.length:Int):=by omega
  obtain⟨o,ho⟩:=GB L k hlt;obtain⟨g,off,rfl,_,hc⟩:=R.o k o ho;have hd:L.drop k=o::L.drop (k+1):=by obtain⟨h1,h2⟩:=lB ho;rw [List.drop_eq_getElem_cons h1,h2]
  have F:=af ho;obtain⟨oi,C⟩:=ai o.id;have c0:w.cell? ↑(g,off+k*5)=↑oi:=C▸hc 0 _ rfl;have A:=af C;have D:=af hd;clear hc ho C hd;by_cases he:oi=id
  ·subst he;go_wp2_with fail;go_ret;refine⟨⟨_,cF,.inr ⟨k,o,rfl,F.o,A.o,?_⟩⟩,cF⟩;rw [B.o,D.o,List.find?_cons_of_pos (by rw [A.o];simp)]
  have E:(oi==id)=false:=by rw [beq_eq_false_iff_ne];exact he
  go_wp2_with fail;go_roundw
  case rel=>exact⟨k+1,dR,bh,by rw [B.o,D.o,List.find?_cons_of_neg (by rw [A.o,E];simp)],cF⟩
  exact Ej
 go_wp2_with fail;go_ret;refine⟨⟨_,cF,.inl ⟨cF,?_⟩⟩,cF⟩;rw [B.o,List.drop_of_length_le bh];rfl
theorem ahh (h:g4 W w pw L) (hl:L.length<=250) (id:Int):
 Calls Tryz.prog 107 #[.pointer ↑pw,↑id] w fun e w'=>e= .returned (.tuple #[.agg (vQ L id).1.cells.toArray,.bool (vQ L id).2])∧Below ↑w w w':=by
 have G:=af (Below.aI w (.cells #[↑(),↑(),↑(),↑(),.bool false] 139));have H1:=af (h.below G.o);have B:Ei (av (w.alloc (.cells #[↑(),↑(),↑(),↑(),.bool false] 139)) ↑w 139 #[↑(),↑(),↑(),↑(),.bool false]):=af (av.new _ _ _);clear h;cases hf:L.find? (fun o=>o.id==id)with
 |none=>
  have E:Ei (vQ L id=(Q9,false)):=af (by unfold vQ;rw [hf]);have D:=af hf;clear hf;go_enter Tryz.func107,Tryz.ntmps107;go_upto_region 1 with(fail);obtain⟨aH,C⟩:=ai w.heap.size;have A:Ei (w.heap.size<=aH):=af bh;replace B:Ei (av (w.alloc (.cells #[↑(),↑(),↑(),↑(),.bool false] 139)) aH 139 #[↑(),↑(),↑(),↑(),.bool false]):=af (by rw [<-C];exact B.o);rw [C];clear C;generalize w.alloc (.cells #[↑(),↑(),↑(),↑(),.bool false] 139)=w1 at*;have hfr:=CX H1.o hl id;go_wp2_with fail;refine hfr.mono ?_;rintro e w2 ⟨⟨r,rfl,hr⟩,rfl⟩;clear hfr;obtain rfl:r= -1:=by
   rcases hr with⟨rfl,_⟩|⟨k,o,_,_,_,h1⟩
   ·rfl
   rw [D.o]at h1;cases h1
  clear hr;obtain⟨l0,l1,l2,l3,l4⟩:=B.o.gP;have fz:∀o,w1.frozen? ⟨aH,o,none⟩=false:=fun o=>B.o.frozen o;go_wp2_with fail;clear l0 l1 l2 l3 l4 fz;have hz:=((((B.o.aW 0 ↑()).aW 1 ↑()).aW 2 ↑()).aW 3 ↑()).aW 4 (.bool false);have hbz:=((((G.o.setCell (p:=⟨aH,0,none⟩) A.o ↑()).setCell (p:=⟨aH,1,none⟩) A.o ↑()).setCell (p:=⟨aH,2,none⟩) A.o ↑()).setCell (p:=⟨aH,3,none⟩) A.o ↑()).setCell (p:=⟨aH,4,none⟩) A.o (.bool false);generalize ((((w1.setCell ↑aH ↑()).setCell ⟨aH,1,none⟩ ↑()).setCell ⟨aH,2,none⟩ ↑()).setCell ⟨aH,3,none⟩ ↑()).setCell ⟨aH,4,none⟩ (.bool false)=ax at*;obtain⟨k0,k1,k2,F,H⟩:=hz.gP;refine bodyPost_ret (v:= .tuple #[.agg #[↑(),↑(),↑(),↑(),.bool false],.bool false]) (by simp [results,Tryz.results107,go_sem,k0,k1,k2,F,H]) rfl ⟨by rw [E.o];rfl,hbz⟩
 |some o=>
  have E:Ei (vQ L id=(o,true)):=af (by unfold vQ;rw [hf]);have D:=af hf;clear hf;go_enter Tryz.func107,Tryz.ntmps107;go_upto_region 1 with(fail);obtain⟨aH,C⟩:=ai w.heap.size;have A:Ei (w.heap.size<=aH):=af bh;replace B:Ei (av (w.alloc (.cells #[↑(),↑(),↑(),↑(),.bool false] 139)) aH 139 #[↑(),↑(),↑(),↑(),.bool false]):=af (by rw [<-C];exact B.o);rw [C];clear C;generalize w.alloc (.cells #[↑(),↑(),↑(),↑(),.bool false] 139)=w1 at*;have hfr:=CX H1.o hl id;go_wp2_with fail;refine hfr.mono ?_;rintro e w2 ⟨⟨r,rfl,hr⟩,rfl⟩;clear hfr;obtain⟨k,rfl,ho⟩:∃k:Nat,r=k∧L[k]? =some o:=by
   rcases hr with⟨_,h1⟩|⟨k,o',rfl,h2,_,h1⟩
   ·rw [D.o]at h1;cases h1
   rw [D.o]at h1;injection h1 with h1;subst h1;exact⟨k,rfl,h2⟩
  have N:(k:Int)<(L.length:Int):=by have:=dM ho;omega
  obtain⟨a,c,hb,hrw⟩:=H1.o.box;obtain⟨a',c',he,hac,hrd⟩:=hrw.rd;injection he with J _ K;subst J K;obtain⟨g,off,rfl,_,hc⟩:=hrd k o ho;obtain⟨f0,f1,f2,f3,f4⟩:=o;have c0:w1.cell? ↑(g,off+k*5)=↑f0:=hc 0 _ rfl;have c1:w1.cell? ↑(g,off+k*5+1)=↑f1:=hc 1 _ rfl;have c2:w1.cell? ↑(g,off+k*5+2)=↑f2:=hc 2 _ rfl;have c3:w1.cell? ↑(g,off+k*5+3)=↑f3:=hc 3 _ rfl;have I:w1.cell? ↑(g,off+k*5+4)=↑f4:=hc 4 _ rfl;have M:w1.cell? ↑pw=some (.slice (some ⟨g,off,none⟩) L.length c):=hb.cell 0;clear hc hb hrw hrd ho hr;obtain⟨l0,l1,l2,l3,l4⟩:=B.o.gP;have fz:∀o,w1.frozen? ⟨aH,o,none⟩=false:=fun o=>B.o.frozen o;go_wp2_with fail;clear l0 l1 l2 l3 l4 fz c0 c1 c2 c3 I M;have hz:=((((B.o.aW 0 ↑f0).aW 1 ↑f1).aW 2 ↑f2).aW 3 ↑f3).aW 4 ↑f4;have hbz:=((((G.o.setCell (p:=⟨aH,0,none⟩) A.o ↑f0).setCell (p:=⟨aH,1,none⟩) A.o ↑f1).setCell (p:=⟨aH,2,none⟩) A.o ↑f2).setCell (p:=⟨aH,3,none⟩) A.o ↑f3).setCell (p:=⟨aH,4,none⟩) A.o ↑f4;generalize ((((w1.setCell ↑aH ↑f0).setCell ⟨aH,1,none⟩ ↑f1).setCell ⟨aH,2,none⟩ ↑f2).setCell ⟨aH,3,none⟩ ↑f3).setCell ⟨aH,4,none⟩ ↑f4=ax at*;obtain⟨k0,k1,k2,F,H⟩:=hz.gP;refine bodyPost_ret (v:= .tuple #[.agg #[↑f0,↑f1,↑f2,↑f3,↑f4],.bool true]) (by simp [results,Tryz.results107,go_sem,k0,k1,k2,F,H]) rfl ⟨by rw [E.o];rfl,hbz⟩
end
end Go.Proofs.YtmaijkoopjocdaaGreat
