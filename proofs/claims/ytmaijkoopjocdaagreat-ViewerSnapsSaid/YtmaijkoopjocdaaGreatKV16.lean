import Derived.Test.YtmaijkoopjocdaaGreatKV13
set_option maxRecDepth 100000
set_option maxHeartbeats 64000000
namespace Go.Proofs.YtmaijkoopjocdaaGreat
def mj (x q:Int):Int:=if q<x then q else x
def kC:List Int→Int→List Int
 | [],_=> []
 |x::t,q=>mj x q::kC t (q-mj x q)
def oW:List Int→Int→Int
 | [],q=>q
 |x::t,q=>oW t (q-mj x q)
def iN (l b:List Int):List Int:=List.zipWith (fun x y=>x-y) l b
def oV (a b:List Int):List Int:=List.zipWith (fun x y=>x+y) a b
def yX (l:List Int) (q:Int):Bool:=decide (l.length≤250∧0≤q∧(∀x∈l,1≤x∧x≤1000000)∧q≤l.sum)
def lM (least q all x:Int):Int:=if(if 0<all then x*q / all else 0)<least then 0 else if 0<all then x*q / all else 0
def nY (l:List Int) (least q:Int):List Int:=l.map (lM least q l.sum)
def xG (l:List Int) (least q:Int):List Int:=oV (nY l least q) (kC (iN l (nY l least q)) (q-(nY l least q).sum))
def sQ (most q x:Int):Int:=if x<(if q<most then q else most)then x else if q<most then q else most
def Al (l:List Int) (top:Int) (most q:Int):List Int:=
 if 0≤top∧top<l.length then(List.replicate l.length 0).set top.toNat (sQ most q (l.getD top.toNat 0))else List.replicate l.length 0
def HU (l:List Int) (top:Int) (most q:Int):Int:=
 if 0≤top∧top<l.length then q-sQ most q (l.getD top.toNat 0)else q
def FB (l:List Int) (q:Int):List Int:=if yX l q=true then kC l q else []
def FD (l:List Int) (top most least q:Int):List Int:=
 if yX l q=true∧1≤least∧0≤most then oV (Al l top most q) (xG (iN l (Al l top most q)) least (HU l top most q))else []
def FC (l:List Int) (part least q:Int):List Int:=
 if yX l q=true∧0≤part∧part≤100∧1≤least then oV (kC l (q*part / 100)) (xG (iN l (kC l (q*part / 100))) least (q-q*part / 100))else []
theorem tT:∀(l:List Int) (q:Int),(kC l q).length=l.length
 | [],_=>rfl
 |x::t,q=>by unfold kC;rw [List.length_cons,List.length_cons,tT t]
theorem tQ (l b:List Int) (h:b.length=l.length):(iN l b).length=l.length:=by
 unfold iN;rw [List.length_zipWith,h,Nat.min_self]
theorem SG (l b:List Int) (h:b.length=l.length):(oV l b).length=l.length:=by
 unfold oV;rw [List.length_zipWith,h,Nat.min_self]
theorem Lb (l:List Int) (least q:Int):(nY l least q).length=l.length:=by unfold nY;rw [List.length_map]
theorem BS (l:List Int) (least q:Int):(xG l least q).length=l.length:=by
 unfold xG;rw [SG _ _ (by rw [tT,tQ _ _ (Lb l least q),Lb]),Lb]
theorem SH (l:List Int) (top most q:Int):(Al l top most q).length=l.length:=by
 unfold Al;split
 ·rw [List.length_set,List.length_replicate]
 ·rw [List.length_replicate]
theorem aje (l:List Int) (q:Int):(FB l q).length≤l.length:=by
 unfold FB;split
 ·rw [tT];exact Nat.le_refl _
 ·exact Nat.zero_le _
theorem ajf (l:List Int) (top most least q:Int):(FD l top most least q).length≤l.length:=by
 unfold FD;split
 ·rw [SG _ _ (by rw [BS,tQ _ _ (SH l top most q),SH]),SH];exact Nat.le_refl _
 ·exact Nat.zero_le _
theorem ajg (l:List Int) (part least q:Int):(FC l part least q).length≤l.length:=by
 unfold FC;split
 ·rw [SG _ _ (by rw [BS,tQ _ _ (tT l _),tT]),tT];exact Nat.le_refl _
 ·exact Nat.zero_le _
theorem Z6 (x q:Int):mj x q≤x∧mj x q≤q:=by unfold mj;split<;>omega
theorem ai8 {x q:Int} (hx:0≤x) (hq:0≤q):0≤mj x q:=by unfold mj;split<;>omega
theorem Oa:∀{l:List Int} {k:Nat} {x q:Int},l[k]? =some x→(kC l q)[k]? =some (mj x (oW (l.take k) q))
 |y::t,0,x,q,h=>by
  rw [List.getElem?_cons_zero]at h;injection h with h;subst h;rfl
 |y::t,k+1,x,q,h=>by
  rw [List.getElem?_cons_succ]at h;unfold kC;rw [List.getElem?_cons_succ,Oa h];rfl
theorem aaj:∀(l:List Int) (x q:Int),kC (l++ [x]) q=kC l q++ [mj x (oW l q)]
 | [],x,q=>rfl
 |y::t,x,q=>by
  rw [List.cons_append];unfold kC oW;rw [aaj t,List.cons_append]
theorem aak:∀(l:List Int) (x q:Int),oW (l++ [x]) q=oW l q-mj x (oW l q)
 | [],x,q=>rfl
 |y::t,x,q=>by
  rw [List.cons_append];show oW (t++ [x]) _=_;rw [aak t];rfl
theorem Ob:∀{l:List Int} {q b:Int},(∀x∈l,0≤x)→-b≤q→q≤b→0≤b→-b≤oW l q∧oW l q≤b
 | [],q,b,_,h1,h2,_=>⟨h1,h2⟩
 |x::t,q,b,h,h1,h2,h3=>by
  have hx:=h x (List.mem_cons_self ..);show-b≤oW t (q-mj x q)∧oW t (q-mj x q)≤b;refine Ob (fun y hy=>h y (List.mem_cons_of_mem _ hy)) ?_ ?_ h3<;>(unfold mj;split<;>omega)
theorem SD:∀{l:List Int} {q:Int},(∀x∈l,0≤x)→0≤q→oW l q=q-(kC l q).sum∧0≤oW l q∧(q≤l.sum→oW l q=0)
 | [],q,_,h=>⟨by simp [oW,kC],h,fun h2=>by simp at h2;show q=0;omega⟩
 |x::t,q,hx,h=>by
  have h0:=hx x (List.mem_cons_self ..);have hm:0≤q-mj x q:=by have:=(Z6 x q).2;omega
  obtain⟨h1,h2,h3⟩:=SD (l:=t) (q:=q-mj x q) (fun y hy=>hx y (List.mem_cons_of_mem _ hy)) hm
  have hs:0≤t.sum:=by
   clear h1 h2 h3;have hy:∀y∈t,0≤y:=fun y hy=>hx y (List.mem_cons_of_mem _ hy)
   induction t with
   |nil=>simp
   |cons z t ih=>
    rw [List.sum_cons];have:=hy z (List.mem_cons_self ..);have:=ih (fun y hy'=>hx y (by rcases List.mem_cons.1 hy' with rfl|h5<;>simp_all)) (fun y h=>hy y (List.mem_cons_of_mem _ h));omega
  refine⟨?_,h2,fun h4=>h3 ?_⟩
  ·show oW t (q-mj x q)=q-(mj x q::kC t (q-mj x q)).sum
   rw [h1,List.sum_cons];omega
  ·rw [List.sum_cons]at h4
   unfold mj;split<;>omega
theorem Fy:∀{l:List Int},(∀x∈l,0≤x)→0≤l.sum
 | [],_=>by simp
 |x::t,h=>by
  rw [List.sum_cons];have:=h x (List.mem_cons_self ..);have:=Fy (l:=t) (fun y hy=>h y (List.mem_cons_of_mem _ hy));omega
theorem BR:∀{l:List Int} {b:Int},(∀x∈l,x≤b)→l.sum≤b*l.length
 | [],b,_=>by simp
 |x::t,b,h=>by
  rw [List.sum_cons,List.length_cons];have h1:=h x (List.mem_cons_self ..);have h2:=BR (l:=t) (fun y hy=>h y (List.mem_cons_of_mem _ hy));rw [show((t.length+1:Nat):Int)=(t.length:Int)+1 from rfl,Int.mul_add,Int.mul_one];omega
theorem SA (l:List Int) (x:Int):(l++ [x]).sum=l.sum+x:=by rw [List.sum_append];simp
theorem Z3:∀(l b:List Int),b.length=l.length→(iN l b).sum=l.sum-b.sum
 | [],[],_=>by simp [iN]
 |x::t,y::b,h=>by
  have:=Z3 t b (by simpa using h);unfold iN at this⊢;rw [List.zipWith_cons_cons,List.sum_cons,this,List.sum_cons,List.sum_cons];omega
theorem ZX {l b:List Int} {k:Nat} {x y:Int} (h1:l[k]? =some x) (h2:b[k]? =some y):(iN l b)[k]? =some (x-y):=by
 unfold iN;rw [List.getElem?_zipWith,h1,h2]
theorem ai6 {l b:List Int} {k:Nat} {x y:Int} (h1:l[k]? =some x) (h2:b[k]? =some y):(oV l b)[k]? =some (x+y):=by
 unfold oV;rw [List.getElem?_zipWith,h1,h2]
theorem ai3 {least q all x:Int} (hl:1≤least) (hx:0≤x) (hq:0≤q) (h:all≤0∨q≤all):0≤lM least q all x∧lM least q all x≤x:=by
 unfold lM;by_cases ha:0<all
 ·rw [if_pos ha]
  have h1:0≤x*q / all:=Int.ediv_nonneg (Int.mul_nonneg hx hq) (by omega)
  have h2:x*q / all≤x:=by
   refine Int.ediv_le_of_le_mul ha ?_;exact Int.mul_le_mul_of_nonneg_left (by omega) hx
  split<;>omega
 ·rw [if_neg ha]
  split<;>omega
end Go.Proofs.YtmaijkoopjocdaaGreat
namespace Go.Proofs.YtmaijkoopjocdaaGreat
open Go.RowKit Go.Lib
def lA (x:Int):List Value:= [.int .i64 x]
theorem ajp (x:Int):∀u∈lA x,u.oneCell'=true:=by
 intro u hu;simp only [lA,List.mem_cons,List.not_mem_nil,or_false]at hu;rw [hu];rfl
def e8:bl Int:=⟨lA,1,fun _=>rfl,ajp,by omega,2,23,.int .i64 0,8,Tryz.underlying23,by kernel_rfl,by rfl,by omega⟩
theorem qU {w:World} {a:Option Addr} {n c k:Nat} {L:List Int} {x:Int} (h:e8.eT w (.slice a n c) L) (hk:L[k]? =some x):∃b off,a=some ⟨b,off,none⟩∧w.cell? ⟨b,off+k,none⟩=some ↑x:=by
 obtain⟨b,off,c',h1,_,h3⟩:=h.get hk;injection h1 with h1;refine⟨b,off,h1,?_⟩;have:=h3 0 _ rfl;rw [show off+k*e8.m+0=off+k by show off+k*1+0=off+k;omega]at this;exact this
theorem Z0 {x q b:Int} (h1:0≤x) (h2: -b≤q) (h3:q≤b): -b≤mj x q∧mj x q≤b:=by unfold mj;split<;>omega
theorem SB {w:World} {v:Value} {l:List Int} (h:e8.eT w v l) (hl:l.length≤250) (hx:∀x∈l,0≤x∧x≤1000000) (q:Int) (h1: -1000000000≤q) (h2:q≤1000000000):
 Calls Tryz.prog 155 #[v,↑q] w fun e w'=>∃v',e= .returned v'∧e8.Row w' w.heap.size v' (kC l q)∧Below w.heap.size w w':=by
 have aD:=af h;have bz:=af hx;have c6:=af hl;have ie:Hid (∀k,-1000000000≤oW (l.take k) q∧oW (l.take k) q≤1000000000):=af fun k=>Ob (fun x gx=>(hx x (List.mem_of_mem_take gx)).1) h1 h2 (by omega);obtain⟨a,c,rfl,_,_⟩:=h;obtain⟨n,hn⟩:=ai l.length;rw [hn]at aD⊢;have hnb:n≤250:=by omega
 have HN:=af hn;clear hx h1 h2 hn hl;go_enter Tryz.func155,Tryz.ntmps155
 go_wp2_with fail
 go_loopw [5,6,1] (fun v i y w'=>∃(k:Nat) (z:Int),z=oW (l.take k) q∧y=↑z∧i=↑k∧k≤n∧e8.Row w' w.heap.size v (kC (l.take k) q)∧Below w.heap.size w w') (fun _ i _ _=>n-(RowKit.intOf i).toNat)
 case atStart=>exact⟨0,q,rfl,rfl,rfl,Nat.zero_le _,bl.Row.nil _ _,Below.refl _ _⟩
 case round=>
  obtain⟨k,z,hz,rfl,rfl,hk,hrow,hb⟩:=hrel;obtain⟨ax,rfl⟩:=aj wr;by_cases hlt:k<n
  ·have hlt':(k:Int)<(n:Int):=by omega
   obtain⟨x,ij⟩:∃x,l[k]? =some x:=⟨_,List.getElem?_eq_getElem (by rw [HN.out];exact hlt)⟩;obtain⟨b,off,rfl,c0⟩:=qU (aD.out.below hb) ij;obtain⟨hx0,hx1⟩:=bz.out x (List.mem_of_getElem? ij);obtain⟨dm,hz1⟩:=ie.out k;rw [←hz]at dm hz1;have bP:Hid (kC (l.take (k+1)) q=kC (l.take k) q++ [mj x z]):=af (by rw [kH ij,aaj,hz]);have bR:Hid (z-mj x z=oW (l.take (k+1)) q):=af (by rw [kH ij,aak,hz]);have jf:Hid ((kC (l.take k) q).length≤250):=af (by rw [tT,List.length_take];have:=c6.out;omega);generalize kC (l.take k) q=M at*;obtain⟨a1,c1,hv⟩:=hrow.form;obtain⟨m,hm⟩:=ai M.length;rw [hm]at hv;subst hv;have cM:=af hm;have aG:=af hb;have cY:=af hrow;clear hrow hb hz ij hm;by_cases hq:z<x
   ·have hmn:mj x z=z:=if_pos hq
    rw [hmn]at bP bR;have hba:=Below.aI ax (.cells #[↑z] 2);have iz:=af (cY.out.below hba);have b7:=ag aG hba;have c8:Hid (av (ax.alloc (.cells #[↑z] 2)) ax.heap.size 2 (lA z).toArray):=af (av.new _ _ _);clear hba hmn
    go_wp2_with (first
     |(at_builtin;go_loud (refine e8.push rfl (.tmp 22) (.tmp 24) rfl w.heap.size (.slice a1 m c1) M rfl iz.out ax.heap.size z rfl c8.out.lt c8.out.gH (by have:=jf.out;omega) b7.out.size ?_)))
    intro v' aN bX cQ eG;have cL:=af bX;have dP:=af (iJ cQ b7.out (cS iz.out));clear bX cQ eG;go_wp2_with fail
    go_roundw
    case rel=>exact⟨k+1,_,bR.out,by go_num,by go_num,hlt,by rw [bP.out];exact cL.out,dP.out⟩
    case measure=>simp [RowKit.intOf];omega
   ·have hmn:mj x z=x:=if_neg hq
    rw [hmn]at bP bR;have hba:=Below.aI ax (.cells #[↑x] 2);have iz:=af (cY.out.below hba);have b7:=ag aG hba;have c8:Hid (av (ax.alloc (.cells #[↑x] 2)) ax.heap.size 2 (lA x).toArray):=af (av.new _ _ _);clear hba hmn
    go_wp2_with (first
     |(at_builtin;go_loud (refine e8.push rfl (.tmp 22) (.tmp 24) rfl w.heap.size (.slice a1 m c1) M rfl iz.out ax.heap.size x rfl c8.out.lt c8.out.gH (by have:=jf.out;omega) b7.out.size ?_)))
    intro v' aN bX cQ eG;have cL:=af bX;have dP:=af (iJ cQ b7.out (cS iz.out));clear bX cQ eG;go_wp2_with fail
    go_roundw
    case rel=>exact⟨k+1,_,bR.out,by go_num,by go_num,hlt,by rw [bP.out];exact cL.out,dP.out⟩
    case measure=>simp [RowKit.intOf];omega
  ·have hkn:k=n:=by omega
   rw [hkn,←HN.out,List.take_length]at hrow;have bM:=af hrow;have aG:=af hb;clear hkn hrow hb hz;go_wp2_with fail
   go_ret;exact⟨_,rfl,bM.out,aG.out⟩
def ox (x:Int):Prop:= -1000000000000000≤x∧x≤1000000000000000
theorem ajq {l b:List Int} {k:Nat} {x y:Int} (h1:l[k]? =some x) (h2:b[k]? =some y):iN (l.take (k+1)) (b.take (k+1))=iN (l.take k) (b.take k)++ [x-y]:=by
 have e1:=dM h1;have e2:=dM h2;rw [kH h1,kH h2];unfold iN;rw [List.zipWith_append (by rw [List.length_take,List.length_take];omega)];rfl
theorem Fz {w:World} {v u:Value} {l b:List Int} (h:e8.eT w v l) (hu:e8.eT w u b) (eU:b.length=l.length) (hl:l.length≤250) (hx:∀x∈l,ox x) (hy:∀y∈b,ox y):
 Calls Tryz.prog 158 #[v,u] w fun e w'=>∃v',e= .returned v'∧e8.Row w' w.heap.size v' (iN l b)∧Below w.heap.size w w':=by
 have aD:=af h;have BU:=af hu;have bz:=af hx;have wC:=af hy;have c6:=af hl;obtain⟨a,c,rfl,_,_⟩:=h;obtain⟨a2,c2,rfl,_,_⟩:=hu;obtain⟨n,hn⟩:=ai l.length;rw [eU]at BU⊢;rw [hn]at aD BU eU⊢;have hnb:n≤250:=by omega
 have HN:=af hn;have c8:=af eU;clear hx hy hn hl eU;go_enter Tryz.func158,Tryz.ntmps158
 go_wp2_with fail
 go_loopw [5,6] (fun v i w'=>∃(k:Nat),i=↑k∧k≤n∧e8.Row w' w.heap.size v (iN (l.take k) (b.take k))∧Below w.heap.size w w') (fun _ i _=>n-(RowKit.intOf i).toNat)
 case atStart=>exact⟨0,rfl,Nat.zero_le _,bl.Row.nil _ _,Below.refl _ _⟩
 case round=>
  obtain⟨k,rfl,hk,hrow,hb⟩:=hrel;obtain⟨ax,rfl⟩:=aj wr;by_cases hlt:k<n
  ·have hlt':(k:Int)<(n:Int):=by omega
   obtain⟨x,ij⟩:∃x,l[k]? =some x:=⟨_,List.getElem?_eq_getElem (by rw [HN.out];exact hlt)⟩;obtain⟨y,y2⟩:∃y,b[k]? =some y:=⟨_,List.getElem?_eq_getElem (by rw [c8.out];exact hlt)⟩;obtain⟨b1,off,rfl,_⟩:=qU (aD.out.below hb) ij;obtain⟨b2,off2,rfl,_⟩:=qU (BU.out.below hb) y2
   have lV:Hid (∀wv,Below w.heap.size w wv→wv.cell? ⟨b1,off+k,none⟩=some ↑x):=af fun wv hb=>by
    obtain⟨b3,CI,he,h3⟩:=qU (aD.out.below hb) ij;injection he with he;injection he with e1 e2;rw [e1,e2];exact h3
   have qV:Hid (∀wv,Below w.heap.size w wv→wv.cell? ⟨b2,off2+k,none⟩=some ↑y):=af fun wv hb=>by
    obtain⟨b3,CI,he,h3⟩:=qU (BU.out.below hb) y2;injection he with he;injection he with e1 e2;rw [e1,e2];exact h3
   obtain⟨hx0,hx1⟩:=bz.out x (List.mem_of_getElem? ij);obtain⟨hy0,hy1⟩:=wC.out y (List.mem_of_getElem? y2);have bP:=af (ajq ij y2);have jf:Hid ((iN (l.take k) (b.take k)).length≤250):=af (by unfold iN;rw [List.length_zipWith,List.length_take];have:=c6.out;omega);generalize iN (l.take k) (b.take k)=M at*;obtain⟨a1,c1,hv⟩:=hrow.form;obtain⟨m,hm⟩:=ai M.length;rw [hm]at hv;subst hv;have cM:=af hm;have aG:=af hb;have cY:=af hrow;have y1:IntKind.i64.wrap (x-y)=x-y:=IntWalk.i64_in _ (by omega);have SJ:=af y1;clear hrow hb ij y2 hm y1;go_wp2_with fail
   refine cP (S:=fun w'=>w'.cell? ⟨b1,off+k,none⟩=some ↑x∧w'.cell? ⟨b2,off2+k,none⟩=some ↑y) ⟨lV.out _ aG.out.drew,qV.out _ aG.out.drew⟩ fun hHeld=>?_;refine au 0 ?_;refine au 1 ?_;refine au 2 ?_;refine au 3 ?_;refine au 4 ?_;refine au 5 ?_;refine au 6 ?_;refine au 7 ?_;refine au 8 ?_;refine au 9 ?_;refine aU 10 fun K hK=>?_;go_simp;rw [SJ.out];have hba:Below ax.heap.size ax (ax.alloc (.cells #[.int .i64 (x-y)] 2)).drew:=(Below.aI ax (.cells #[.int .i64 (x-y)] 2)).drew;have gv:=cY.out.below hba;have hb2:=aG.out.trans (hba.mono aG.out.size);have j5:av (ax.alloc (.cells #[.int .i64 (x-y)] 2)) ax.heap.size 2 (lA (x-y)).toArray:=av.new _ _ _;have iA:=j5.below (Below.refl _ _).drew;refine hK.out _ _ ⟨lV.out _ hb2,qV.out _ hb2⟩ (fun hHeld=>?_);clear hK K;clear j5;generalize (ax.alloc (.cells #[.int .i64 (x-y)] 2)).drew=w2 at*;refine aU 11 fun K hK=>?_;refine e8.step rfl (.tmp 13) (.tmp 23) rfl w.heap.size _ M rfl gv ax.heap.size (x-y) rfl iA.lt iA.gH (by have:=jf.out;omega) hb2.size ?_;intro v' aN bX cQ eG;have bI:=iJ cQ hb2 (cS gv);refine hK.out _ _ ⟨lV.out _ bI,qV.out _ bI⟩ (fun hHeld=>?_);clear hK K;refine gu _ _ _ _ ?_;refine ej 12 ?_;refine gw ?_;have cL:=af bX;have dP:=af bI;clear bX cQ eG hHeld bI gv hb2 iA hba;go_wp2_with fail
   go_roundw
   case rel=>exact⟨k+1,by go_num,hlt,by rw [bP.out];exact cL.out,dP.out⟩
   case measure=>simp [RowKit.intOf];omega
  ·have hkn:k=n:=by omega
   rw [hkn,show l.take n=l by rw [←HN.out,List.take_length],show b.take n=b by rw [←c8.out,List.take_length]]at hrow;have bM:=af hrow;have aG:=af hb;clear hkn hrow hb;go_wp2_with fail
   go_ret;exact⟨_,rfl,bM.out,aG.out⟩
theorem ajr {l b:List Int} {k:Nat} {x y:Int} (h1:l[k]? =some x) (h2:b[k]? =some y):oV (l.take (k+1)) (b.take (k+1))=oV (l.take k) (b.take k)++ [x+y]:=by
 have e1:=dM h1;have e2:=dM h2;rw [kH h1,kH h2];unfold oV;rw [List.zipWith_append (by rw [List.length_take,List.length_take];omega)];rfl
theorem FA {w:World} {v u:Value} {l b:List Int} (h:e8.eT w v l) (hu:e8.eT w u b) (eU:b.length=l.length) (hl:l.length≤250) (hx:∀x∈l,ox x) (hy:∀y∈b,ox y):
 Calls Tryz.prog 156 #[v,u] w fun e w'=>∃v',e= .returned v'∧e8.Row w' w.heap.size v' (oV l b)∧Below w.heap.size w w':=by
 have aD:=af h;have BU:=af hu;have bz:=af hx;have wC:=af hy;have c6:=af hl;obtain⟨a,c,rfl,_,_⟩:=h;obtain⟨a2,c2,rfl,_,_⟩:=hu;obtain⟨n,hn⟩:=ai l.length;rw [eU]at BU⊢;rw [hn]at aD BU eU⊢;have hnb:n≤250:=by omega
 have HN:=af hn;have c8:=af eU;clear hx hy hn hl eU;go_enter Tryz.func156,Tryz.ntmps156
 go_wp2_with fail
 go_loopw [5,6] (fun v i w'=>∃(k:Nat),i=↑k∧k≤n∧e8.Row w' w.heap.size v (oV (l.take k) (b.take k))∧Below w.heap.size w w') (fun _ i _=>n-(RowKit.intOf i).toNat)
 case atStart=>exact⟨0,rfl,Nat.zero_le _,bl.Row.nil _ _,Below.refl _ _⟩
 case round=>
  obtain⟨k,rfl,hk,hrow,hb⟩:=hrel;obtain⟨ax,rfl⟩:=aj wr;by_cases hlt:k<n
  ·have hlt':(k:Int)<(n:Int):=by omega
   obtain⟨x,ij⟩:∃x,l[k]? =some x:=⟨_,List.getElem?_eq_getElem (by rw [HN.out];exact hlt)⟩;obtain⟨y,y2⟩:∃y,b[k]? =some y:=⟨_,List.getElem?_eq_getElem (by rw [c8.out];exact hlt)⟩;obtain⟨b1,off,rfl,_⟩:=qU (aD.out.below hb) ij;obtain⟨b2,off2,rfl,_⟩:=qU (BU.out.below hb) y2
   have lV:Hid (∀wv,Below w.heap.size w wv→wv.cell? ⟨b1,off+k,none⟩=some ↑x):=af fun wv hb=>by
    obtain⟨b3,CI,he,h3⟩:=qU (aD.out.below hb) ij;injection he with he;injection he with e1 e2;rw [e1,e2];exact h3
   have qV:Hid (∀wv,Below w.heap.size w wv→wv.cell? ⟨b2,off2+k,none⟩=some ↑y):=af fun wv hb=>by
    obtain⟨b3,CI,he,h3⟩:=qU (BU.out.below hb) y2;injection he with he;injection he with e1 e2;rw [e1,e2];exact h3
   obtain⟨hx0,hx1⟩:=bz.out x (List.mem_of_getElem? ij);obtain⟨hy0,hy1⟩:=wC.out y (List.mem_of_getElem? y2);have bP:=af (ajr ij y2);have jf:Hid ((oV (l.take k) (b.take k)).length≤250):=af (by unfold oV;rw [List.length_zipWith,List.length_take];have:=c6.out;omega);generalize oV (l.take k) (b.take k)=M at*;obtain⟨a1,c1,hv⟩:=hrow.form;obtain⟨m,hm⟩:=ai M.length;rw [hm]at hv;subst hv;have cM:=af hm;have aG:=af hb;have cY:=af hrow;have y1:IntKind.i64.wrap (x+y)=x+y:=IntWalk.i64_in _ (by omega);have SJ:=af y1;clear hrow hb ij y2 hm y1;go_wp2_with fail
   refine cP (S:=fun w'=>w'.cell? ⟨b1,off+k,none⟩=some ↑x∧w'.cell? ⟨b2,off2+k,none⟩=some ↑y) ⟨lV.out _ aG.out.drew,qV.out _ aG.out.drew⟩ fun hHeld=>?_;refine au 0 ?_;refine au 1 ?_;refine au 2 ?_;refine au 3 ?_;refine au 4 ?_;refine au 5 ?_;refine au 6 ?_;refine au 7 ?_;refine au 8 ?_;refine au 9 ?_;refine aU 10 fun K hK=>?_;go_simp;rw [SJ.out];have hba:Below ax.heap.size ax (ax.alloc (.cells #[.int .i64 (x+y)] 2)).drew:=(Below.aI ax (.cells #[.int .i64 (x+y)] 2)).drew;have gv:=cY.out.below hba;have hb2:=aG.out.trans (hba.mono aG.out.size);have j5:av (ax.alloc (.cells #[.int .i64 (x+y)] 2)) ax.heap.size 2 (lA (x+y)).toArray:=av.new _ _ _;have iA:=j5.below (Below.refl _ _).drew;refine hK.out _ _ ⟨lV.out _ hb2,qV.out _ hb2⟩ (fun hHeld=>?_);clear hK K;clear j5;generalize (ax.alloc (.cells #[.int .i64 (x+y)] 2)).drew=w2 at*;refine aU 11 fun K hK=>?_;refine e8.step rfl (.tmp 13) (.tmp 23) rfl w.heap.size _ M rfl gv ax.heap.size (x+y) rfl iA.lt iA.gH (by have:=jf.out;omega) hb2.size ?_;intro v' aN bX cQ eG;have bI:=iJ cQ hb2 (cS gv);refine hK.out _ _ ⟨lV.out _ bI,qV.out _ bI⟩ (fun hHeld=>?_);clear hK K;refine gu _ _ _ _ ?_;refine ej 12 ?_;refine gw ?_;have cL:=af bX;have dP:=af bI;clear bX cQ eG hHeld bI gv hb2 iA hba;go_wp2_with fail
   go_roundw
   case rel=>exact⟨k+1,by go_num,hlt,by rw [bP.out];exact cL.out,dP.out⟩
   case measure=>simp [RowKit.intOf];omega
  ·have hkn:k=n:=by omega
   rw [hkn,show l.take n=l by rw [←HN.out,List.take_length],show b.take n=b by rw [←c8.out,List.take_length]]at hrow;have bM:=af hrow;have aG:=af hb;clear hkn hrow hb;go_wp2_with fail
   go_ret;exact⟨_,rfl,bM.out,aG.out⟩
instance (n:Int):Decidable (cz n):=by unfold cz;infer_instance
def oO (rule:Int) (a b:Nat):Prod:=⟨⟨#[67,76]⟩,some ⟨a,0,none⟩,[320,321,323],3,5,0,1000,200,rule,4,2,40,some ⟨b,0,none⟩,[500,505,490],3⟩
theorem X0 {w:World} {g:Nat} {t:TypeId} {L:List Int} (h:av w g t (L.map (Value.int .i64)).toArray) (hok:∀x∈L,cz x):rS w ↑g L:=by
 intro j x hj;refine⟨hok x (List.mem_of_getElem? hj),g,0,rfl,h.lt,?_⟩;rw [Nat.zero_add,h.cell,List.getElem?_toArray,List.getElem?_map,hj];rfl
theorem afL (rule:Int) (w:World):
 Calls Tryz.prog 44 #[↑rule] w fun e w'=>∃a b,e= .returned (oO rule a b).agg∧gM w' (oO rule a b)∧Below w.heap.size w w':=by
 go_enter Tryz.func44,Tryz.ntmps44
 go_wp2_with fail
 have s1:=ak;generalize hA:w.alloc (.cells #[.string ⟨#[67,76]⟩,.slice (some ⟨w.heap.size+1,0,none⟩) 3 3,.int .i64 5,.int .i64 0,.int .i64 1000,.int .i64 200,↑rule,.int .i64 4,.int .i64 2,.int .i64 40,.slice (some ⟨w.heap.size+1+1,0,none⟩) 3 3] 25)=wa;have fw:wa.heap.size=w.heap.size+1:=by rw [←hA];exact s1 _ _
 have hm:=av.new wa 3 #[.int .i64 320,.int .i64 321,.int .i64 323];have hb1:Below w.heap.size w wa:=by rw [←hA];exact Below.aI _ _
 have jh:wa.heap[w.heap.size]? =some (.cells #[.string ⟨#[67,76]⟩,.slice (some ⟨w.heap.size+1,0,none⟩) 3 3,.int .i64 5,.int .i64 0,.int .i64 1000,.int .i64 200,↑rule,.int .i64 4,.int .i64 2,.int .i64 40,.slice (some ⟨w.heap.size+1+1,0,none⟩) 3 3] 25):=by rw [←hA];exact heap_alloc_new w _
 have hm2:av ((wa.alloc (.cells #[.int .i64 320,.int .i64 321,.int .i64 323] 3)).alloc (.cells #[.int .i64 500,.int .i64 505,.int .i64 490] 2)) (w.heap.size+1) 3 (([320,321,323]:List Int).map (Value.int .i64)).toArray:=by rw [←fw];exact hm.alloc _
 have fD:av ((wa.alloc (.cells #[.int .i64 320,.int .i64 321,.int .i64 323] 3)).alloc (.cells #[.int .i64 500,.int .i64 505,.int .i64 490] 2)) (w.heap.size+1+1) 2 (([500,505,490]:List Int).map (Value.int .i64)).toArray:=by
  have:=av.new (wa.alloc (.cells #[.int .i64 320,.int .i64 321,.int .i64 323] 3)) 2 #[.int .i64 500,.int .i64 505,.int .i64 490];rw [s1,fw]at this;exact this
 have e1:∀x∈([320,321,323]:List Int),cz x:=by decide
 have e2:∀x∈([500,505,490]:List Int),cz x:=by decide
 have hp:∀i,i<11→((wa.alloc (.cells #[.int .i64 320,.int .i64 321,.int .i64 323] 3)).alloc (.cells #[.int .i64 500,.int .i64 505,.int .i64 490] 2)).cell? ⟨w.heap.size,i,none⟩=(oO rule (w.heap.size+1) (w.heap.size+1+1)).cells[i]? :=by
  intro i hi;have hb:av wa w.heap.size 25 (oO rule (w.heap.size+1) (w.heap.size+1+1)).cells:=jh;exact((hb.alloc _).alloc _).cell i
 have c0:=hp 0 (by omega);have c1:=hp 1 (by omega);have c2:=hp 2 (by omega);have c3:=hp 3 (by omega);have dH:=hp 4 (by omega);have b8:=hp 5 (by omega);have fJ:=hp 6 (by omega);have gL:=hp 7 (by omega);have iC:=hp 8 (by omega);have kp:=hp 9 (by omega);have wh:=hp 10 (by omega);have aP:Below w.heap.size w ((wa.alloc (.cells #[.int .i64 320,.int .i64 321,.int .i64 323] 3)).alloc (.cells #[.int .i64 500,.int .i64 505,.int .i64 490] 2)):=(hb1.alloc hb1.size _).alloc (by rw [s1];omega) _
 have sD:gM ((wa.alloc (.cells #[.int .i64 320,.int .i64 321,.int .i64 323] 3)).alloc (.cells #[.int .i64 500,.int .i64 505,.int .i64 490] 2)) (oO rule (w.heap.size+1) (w.heap.size+1+1)):=
  ⟨by show 2≤1000;omega,X0 hm2 e1,X0 fD e2,by show 3≤1000000;omega,by show 3≤1000000;omega,by show cz 5;decide,by show cz 0;decide,by show cz 1000;decide,by show cz 200;decide⟩
 clear hm hm2 fD jh hA hp;generalize ((wa.alloc (.cells #[.int .i64 320,.int .i64 321,.int .i64 323] 3)).alloc (.cells #[.int .i64 500,.int .i64 505,.int .i64 490] 2))=wc at*;simp only [oO,Prod.cells]at c0 c1 c2 c3 dH b8 fJ gL iC kp wh;exact bodyPost_ret (v:=(oO rule (w.heap.size+1) (w.heap.size+1+1)).agg) (by unfold oO Prod.agg Prod.cells;simp [results,Tryz.results44,go_sem, *]) rfl ⟨_,_,rfl,sD,aP⟩
structure xk where
 n:Nat
 tick:Int
 rule:Int
 top:Int
 least:Int
 part:Int
 wd:Int
structure xk.ok (k:xk):Prop where
 n:2≤k.n∧k.n≤5
 tick:1≤k.tick∧k.tick≤10
 rule:1≤k.rule∧k.rule≤3
 top:0≤k.top∧k.top≤9
 least:1≤k.least∧k.least≤5
 part:0≤k.part∧k.part≤100
 wd:5≤k.wd∧k.wd≤65
def rP (n:Nat):List Int:=(List.range n).map (fun(i:Nat)=>10*(i:Int)+3)
def oN (tick:Int) (n:Nat):List Int:=(List.range n).map (fun(i:Nat)=>tick*(10+(i:Int)))
def xk.prod (k:xk) (ma:Option Addr) (mc:Nat) (sa:Option Addr) (sc:Nat):Prod:=⟨⟨#[206,169]⟩,ma,rP k.n,mc,k.tick,-20*k.tick,100*k.tick,k.tick*k.wd,k.rule,k.top,k.least,k.part,sa,oN k.tick k.n,sc⟩
theorem afu (n:Nat):rP (n+1)=rP n++ [10*(n:Int)+3]:=by unfold rP;rw [List.range_succ,List.map_append];rfl
theorem afy (t:Int) (n:Nat):oN t (n+1)=oN t n++ [t*(10+(n:Int))]:=by unfold oN;rw [List.range_succ,List.map_append];rfl
theorem G2 (n:Nat):(rP n).length=n:=by simp [rP]
theorem G3 (t:Int) (n:Nat):(oN t n).length=n:=by simp [oN]
theorem agh:∀n,n≤5→2≤n→lp (rP n)=true:=by decide
theorem agi:o6 ⟨#[206,169]⟩=true:=by decide+kernel
theorem agj:o6 ⟨#[67,76]⟩=true:=by decide+kernel
theorem Xf {t:Int} {n:Nat} {x:Int} (h:x∈oN t n):∃i:Nat,i<n∧x=t*(10+(i:Int)):=by
 unfold oN at h;rw [List.mem_map]at h;obtain⟨i,hi,rfl⟩:=h;exact⟨i,List.mem_range.1 hi,rfl⟩
theorem ED {t i:Int} (ht:1≤t) {a b:Int} (h1:a≤i) (h2:i≤b):t*a≤t*i∧t*i≤t*b:=⟨Int.mul_le_mul_of_nonneg_left h1 (by omega),Int.mul_le_mul_of_nonneg_left h2 (by omega)⟩
theorem Nz (t i:Int):jQ t (t*i)=false:=by unfold jQ;rw [Int.mul_tmod_right];rfl
theorem agk (k:xk) (h:k.ok) (ma:Option Addr) (mc:Nat) (sa:Option Addr) (sc:Nat):cR (k.prod ma mc sa sc)=0:=by
 obtain⟨hn,ht,hr,JF,hl,amu,hw⟩:=h;have h1:o6 (k.prod ma mc sa sc).code=true:=agi;have h2:lp (k.prod ma mc sa sc).months=true:=agh k.n hn.2 hn.1;have agl:=ED ht.1 hw.1 hw.2
 have Q3:∀x∈oN k.tick k.n,jQ k.tick x=false∧k.tick*10≤x∧x≤k.tick*15:=by
  intro x hx;obtain⟨i,hi,rfl⟩:=Xf hx;have:=ED ht.1 (i:=10+(i:Int)) (a:=10) (b:=15) (by omega) (by omega);exact⟨Nz _ _,this.1,this.2⟩
 have h3:nD (k.prod ma mc sa sc)=true:=by
  unfold nD;show(decide (1≤k.tick)&&decide (k.tick≤1000)&& !jQ k.tick (-20*k.tick)&& !jQ k.tick (100*k.tick)&& !jQ k.tick (k.tick*k.wd)&& !(oN k.tick k.n).any (jQ k.tick))=true;rw [Int.mul_comm (-20),Int.mul_comm 100,Nz,Nz,Nz,decide_eq_true ht.1,decide_eq_true (show k.tick≤1000 by omega),any_none fun j x hx=>(Q3 x (List.mem_of_getElem? hx)).1];rfl
 have h4:¬ix (k.prod ma mc sa sc):=by
  unfold ix;show¬(-20*k.tick< -1000000∨100*k.tick≤-20*k.tick∨1000000<100*k.tick∨k.tick*k.wd<0∨100*k.tick- -20*k.tick<k.tick*k.wd);omega
 have h5:o5 (k.prod ma mc sa sc)=false:=by
  unfold o5;show((oN k.tick k.n).length !=(rP k.n).length||(oN k.tick k.n).any (fun x=>decide (x< -20*k.tick))||(oN k.tick k.n).any (fun x=>decide (100*k.tick<x)))=false;rw [G3,G2,any_none (f:=fun x=>decide (x< -20*k.tick)) fun j x hx=>decide_eq_false (by have:=Q3 x (List.mem_of_getElem? hx);omega),any_none (f:=fun x=>decide (100*k.tick<x)) fun j x hx=>decide_eq_false (by have:=Q3 x (List.mem_of_getElem? hx);omega)];simp
 have h6:¬lS (k.prod ma mc sa sc):=by
  unfold lS;show¬(k.rule<1∨3<k.rule);omega
 have h7:¬g9 (k.prod ma mc sa sc):=by
  unfold g9;show¬(k.top<0∨1000000<k.top∨k.least<1∨1000<k.least∨k.part<0∨100<k.part);omega
 unfold cR;rw [h1,h2,h3,h5,if_neg (by simp),if_neg (by simp),if_neg (by simp),if_neg h4,if_neg (by simp),if_neg h6,if_neg h7]
theorem afM (rule:Int) (h:1≤rule∧rule≤3) (a b:Nat):cR (oO rule a b)=0:=by
 have h1:o6 (oO rule a b).code=true:=agj;have h2:lp (oO rule a b).months=true:=by show lp [320,321,323]=true;decide
 have h3:nD (oO rule a b)=true:=by
  show(decide ((1:Int)≤5)&&decide ((5:Int)≤1000)&& !jQ 5 0&& !jQ 5 1000&& !jQ 5 200&& !([500,505,490]:List Int).any (jQ 5))=true;decide
 have h4:¬ix (oO rule a b):=by
  show¬((0:Int)< -1000000∨(1000:Int)≤0∨(1000000:Int)<1000∨(200:Int)<0∨(1000:Int)-0<200);omega
 have h5:o5 (oO rule a b)=false:=by
  show(([500,505,490]:List Int).length !=([320,321,323]:List Int).length||([500,505,490]:List Int).any (fun x=>decide (x<0))||([500,505,490]:List Int).any (fun x=>decide (1000<x)))=false;decide
 have h6:¬lS (oO rule a b):=by
  show¬(rule<1∨3<rule);omega
 have h7:¬g9 (oO rule a b):=by
  show¬((4:Int)<0∨(1000000:Int)<4∨(2:Int)<1∨(1000:Int)<2∨(40:Int)<0∨(100:Int)<40);omega
 unfold cR;rw [h1,h2,h3,h5,if_neg (by simp),if_neg (by simp),if_neg (by simp),if_neg h4,if_neg (by simp),if_neg h6,if_neg h7]
end Go.Proofs.YtmaijkoopjocdaaGreat
