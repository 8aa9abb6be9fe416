import Derived.Test.YtmaijkoopjocdaaGreatKV17
import Derived.Test.YtmaijkoopjocdaaGreatKV19
import Derived.Deep.CutBlock
set_option maxRecDepth 100000
set_option maxHeartbeats 64000000
namespace Go.Proofs.YtmaijkoopjocdaaGreat
open Go.RowKit Go.Lib
theorem PC.oQ {w:World} {g:Nat} {p:Prod} (hb:av w g 25 p.cells):PC w g p:=by
 have h:∀i,w.cell? ⟨g,i,none⟩=p.cells[i]? :=fun i=>hb.cell i;exact⟨h 0,h 1,h 2,h 3,h 4,h 5,h 6,h 7,h 8,h 9,h 10⟩
theorem YP {p:Prod} {inst:Int} (h1:0≤inst) (h2:inst<countP p) (h:(gf p inst).2.2=false):∃i:Nat,gf p inst=((i:Int),(i:Int),false)∧i<p.months.length:=by
 unfold gf at h⊢;rw [if_neg (by omega)]at h⊢;by_cases h3:inst<p.months.length
 ·rw [if_pos h3]
  exact⟨inst.toNat,by rw [Int.toNat_of_nonneg h1],by omega⟩
 ·rw [if_neg h3]at h;cases h
theorem ajV:∀n,n≤6→∀k,k<22→n+k<nR n→k=k4 n (Bl n k)+(J8 n k-(Bl n k+1)):=by decide
def JN (p:Prod) (near cC:Int):Prop:=0≤near∧near<cC∧cC<p.months.length
instance (p:Prod) (near cC:Int):Decidable (JN p near cC):=by unfold JN;infer_instance
def rO (p:Prod) (near cC:Int):Int×Bool:=
 if cR p=0∧JN p near cC then((p.months.length:Int)+(k4 p.months.length near.toNat:Nat)+(cC-near-1),true)else(0,false)
theorem ajW {p:Prod} (hz:cR p=0) {k:Nat} (hk:(k:Int)<countP p) (hn:p.months.length≤k) {near cC:Int} {i j:Int} {b:Bool} (mU:gf p (k:Int)=(i,j,b)) (h:i=near∧j=cC):rO p near cC=((k:Int),true):=by
 have hl:=pI hz;have hc:=yt hz;have hcb:=yN p.months.length hl.2;obtain⟨m,rfl⟩:∃m,k=p.months.length+m:=⟨k-p.months.length,by omega⟩;have hin:=ajV p.months.length hl.2 m (by omega) (by omega);have hbd:=Y6 p.months.length hl.2 m (by omega) (by omega);unfold gf at mU;rw [if_neg (by omega),if_neg (by omega),show(((p.months.length+m:Nat):Int)-(p.months.length:Int)).toNat=m by omega]at mU;injection mU with h1 h2;injection h2 with h2 _;obtain⟨rfl,rfl⟩:=h;rw [←h1,←h2];unfold rO;rw [if_pos ⟨hz,by unfold JN;omega⟩,Int.toNat_natCast]
 congr 1
 omega
theorem ajX {p:Prod} {near cC:Int} (hz:cR p=0) (h:∀k:Nat,p.months.length≤k→(k:Int)<countP p→¬((gf p (k:Int)).1=near∧(gf p (k:Int)).2.1=cC)):rO p near cC=(0,false):=by
 refine if_neg fun hh=>?_;obtain⟨_,h0,h1,h2⟩:=hh;obtain⟨i,rfl⟩:∃i:Nat,near=(i:Int):=⟨near.toNat,by omega⟩;obtain⟨j,rfl⟩:∃j:Nat,cC=(j:Int):=⟨cC.toNat,by omega⟩;have hl:=pI hz;have hc:=yt hz;have he:=M6 p.months.length hl.2;have hs:=JO p.months.length i;have hm:=M7 p.months.length (show i+1≤p.months.length by omega);have Cb:=Y7 (p:=p) (k:=k4 p.months.length i+(j-(i+1))) rfl hz (i:=i) (j:=j) (by omega) (by omega) rfl;refine h (p.months.length+(k4 p.months.length i+(j-(i+1)))) (by omega) (by omega) ?_;rw [show((p.months.length+(k4 p.months.length i+(j-(i+1))):Nat):Int)=(p.months.length:Int)+((k4 p.months.length i+(j-(i+1)):Nat):Int)by omega,Cb];exact⟨rfl,rfl⟩
theorem ahW (p:Prod) (near cC:Int) (w:World) (hp:gM w p):
 Calls Tryz.prog 132 #[p.agg,↑near,↑cC] w fun e w'=>e= .returned (.tuple #[.int .i64 (rO p near cC).1,.bool (rO p near cC).2])∧Below w.heap.size w w':=by
 have hs0:=St.new hp;unfold Prod.cells at hs0;have eE:=af hs0;have hJ:=af fun ax (h:gM ax p)=>KA p ax h;have hml:=hp.Cg;unfold Prod.agg Prod.cells at hJ⊢;clear hp hs0;by_cases hz:cR p=0
 ·have fN:=af fun(k:Int) ax (h:gM ax p)=>Hv p k ax h
  unfold Prod.agg Prod.cells at fN;have HD:=af fun(k:Nat) (h1:(k:Int)<countP p) (h2:p.months.length≤k) (i j:Int) (b:Bool) h3 h4=>ajW (near:=near) (cC:=cC) (i:=i) (j:=j) (b:=b) hz h1 h2 h3 h4;have lu:=af (ajX (near:=near) (cC:=cC) hz);have hcb:=BA p;have uI:(p.months.length:Int)≤countP p:=by have:=yN p.months.length (pI hz).2;rw [yt hz];omega
  obtain⟨c,hc⟩:∃c:Nat,countP p=(c:Int):=⟨(countP p).toNat,by omega⟩;rw [hc]at hJ HD lu hcb uI;clear hc hz;generalize rO p near cC=v at*;obtain⟨b0,b1,b2,b3,b4,bk,bw,bn,bC,bD,bu⟩:=eE.out.pc;go_enter Tryz.func132,Tryz.ntmps132
  go_wp2_with fail
  clear b0 b1 b2 b3 b4 bk bw bn bC bD bu;go_loopw [8] (fun i w'=>∃k:Nat,i=↑k∧p.months.length≤k∧k≤c∧St w w' p∧Hid (∀j:Nat,p.months.length≤j→j<k→¬((gf p (j:Int)).1=near∧(gf p (j:Int)).2.1=cC))) (fun i _=>c-(RowKit.intOf i).toNat)
  case atStart=>exact⟨p.months.length,rfl,Nat.le_refl _,by omega,eE.out,af fun j h1 h2=>by omega⟩
  case round=>
   clear eE;obtain⟨k,rfl,hkn,hk,hS,e7⟩:=hrel;obtain⟨ax,rfl⟩:=aj wr;have eE:=af hS;clear hS;obtain⟨b0,b1,b2,b3,b4,bk,bw,bn,bC,bD,bu⟩:=eE.out.pc;go_wp2_with fail
   refine(hJ.out _ eE.out.pv).mono ?_;rintro e w1 ⟨rfl,hb1⟩;have aD:=af (eE.out.next hb1);clear hb1 b0 b1 b2 b3 b4 bk bw bn bC bD bu;by_cases hkc:k<c
   ·have ajY:(k:Int)<(c:Int):=by omega
    have mU:=fN.out (k:Int) _ aD.out.pv;obtain⟨l0,l1,l2,hl⟩:∃l0 l1 l2,gf p (k:Int)=(l0,l1,l2):=⟨_,_,_,rfl⟩;rw [hl]at mU;have c6:=af hl;have en:=af fun h4=>HD.out k ajY hkn l0 l1 l2 hl h4;clear hl;obtain⟨b0,b1,b2,b3,b4,bk,bw,bn,bC,bD,bu⟩:=aD.out.pc;go_wp2_with fail
    refine mU.mono ?_;rintro e w2 ⟨rfl,hb2⟩;have cA:=af (aD.out.next hb2);clear mU hb2 b0 b1 b2 b3 b4 bk bw bn bC bD bu;by_cases h1:l0=near
    ·by_cases h2:l1=cC
     ·have hv:=en.out ⟨h1,h2⟩
      subst hv;have e1:(l0==near)=true:=by rw [beq_iff_eq];exact h1
      have e2:(l1==cC)=true:=by rw [beq_iff_eq];exact h2
      clear en h1 h2;go_wp2_with fail
      go_ret2
      exact⟨by rfl,cA.out.aJ⟩
     ·have e1:(l0==near)=true:=by rw [beq_iff_eq];exact h1
      have e2:(l1==cC)=false:=by rw [beq_eq_false_iff_ne];exact h2
      have bR:Hid (¬(l0=near∧l1=cC)):=af fun h=>h2 h.2;clear en h1 h2;go_wp2_with fail
      go_roundw
      case rel=>exact⟨k+1,by go_num,by omega,by omega,cA.out,af fun j sA hj2=>by
       by_cases pX:j<k
       ·exact e7.out j sA pX
       ·obtain rfl:j=k:=by omega
        rw [c6.out];exact bR.out⟩
      case measure=>simp [RowKit.intOf];omega
    ·have e1:(l0==near)=false:=by rw [beq_eq_false_iff_ne];exact h1
     have bR:Hid (¬(l0=near∧l1=cC)):=af fun h=>h1 h.1;clear en h1;go_wp2_with fail
     go_roundw
     case rel=>exact⟨k+1,by go_num,by omega,by omega,cA.out,af fun j sA hj2=>by
      by_cases pX:j<k
      ·exact e7.out j sA pX
      ·obtain rfl:j=k:=by omega
       rw [c6.out];exact bR.out⟩
     case measure=>simp [RowKit.intOf];omega
   ·obtain rfl:k=c:=by omega
    have hv:=lu.out fun j h1 h2=>e7.out j h1 (by omega);subst hv;go_wp2_with fail
    go_ret2
    exact⟨by rfl,aD.out.aJ⟩
 ·have dD:Hid (rO p near cC=(0,false)):=af (if_neg fun h=>hz h.1)
  rw [dD.out];rw [KB hz]at hJ;clear hz;obtain⟨b0,b1,b2,b3,b4,bk,bw,bn,bC,bD,bu⟩:=eE.out.pc;go_enter Tryz.func132,Tryz.ntmps132
  go_wp2_with fail
  clear b0 b1 b2 b3 b4 bk bw bn bC bD bu;go_loopw [8] (fun i w'=>i=↑p.months.length∧St w w' p) (fun _ _=>0)
  case atStart=>exact⟨rfl,eE.out⟩
  case round=>
   clear eE;obtain⟨rfl,hS⟩:=hrel;obtain⟨ax,rfl⟩:=aj wr;have eE:=af hS;clear hS;obtain⟨b0,b1,b2,b3,b4,bk,bw,bn,bC,bD,bu⟩:=eE.out.pc;go_wp2_with fail
   refine(hJ.out _ eE.out.pv).mono ?_;rintro e w1 ⟨rfl,hb1⟩;have aD:=af (eE.out.next hb1);clear hb1 b0 b1 b2 b3 b4 bk bw bn bC bD bu;go_wp2_with fail
   go_ret2
   exact⟨by rfl,aD.out.aJ⟩
structure dK where
 h0:Bool
 h1:Bool
 jh:Int
 p1:Int
 q0:Int
 q1:Int
deriving DecidableEq
structure dg where
 ap:Int
 aq:Int
 i0:Int
 s0:Int
 i1:Int
 s1:Int
deriving DecidableEq
def dK.cells (x:dK):List Value:= [.bool x.h0,.bool x.h1,.int .i64 x.jh,.int .i64 x.p1,.int .i64 x.q0,.int .i64 x.q1]
def dg.cells (x:dg):List Value:= [.int .i64 x.ap,.int .i64 x.aq,.int .i64 x.i0,.int .i64 x.s0,.int .i64 x.i1,.int .i64 x.s1]
def WE:dK:=⟨false,false,0,0,0,0⟩
def v7:dg:=⟨0,0,0,0,0,0⟩
theorem dK.kI (x:dK):∀u∈x.cells,u.oneCell'=true:=by
 intro u hu;simp only [dK.cells,List.mem_cons,List.not_mem_nil,or_false]at hu;rcases hu with rfl|rfl|rfl|rfl|rfl|rfl<;>rfl
theorem dg.kI (x:dg):∀u∈x.cells,u.oneCell'=true:=by
 intro u hu;simp only [dg.cells,List.mem_cons,List.not_mem_nil,or_false]at hu;rcases hu with rfl|rfl|rfl|rfl|rfl|rfl<;>rfl
def qW:bl dK:=⟨dK.cells,6,fun _=>rfl,dK.kI,by omega,185,125,.agg WE.cells.toArray,40,Tryz.underlying125,by kernel_rfl,by rfl,by omega⟩
def kz:bl dg:=⟨dg.cells,6,fun _=>rfl,dg.kI,by omega,192,132,.agg v7.cells.toArray,48,Tryz.underlying132,by kernel_rfl,by rfl,by omega⟩
def dK.has (x:dK) (k:Int):Bool:=if k=1 then x.h0 else x.h1
def dK.ap (x:dK) (k:Int):Int:=if k=1 then x.jh else x.p1
def dK.aq (x:dK) (k:Int):Int:=if k=1 then x.q0 else x.q1
structure dK.ok (x:dK):Prop where
 jh:cz x.jh
 p1:cz x.p1
 q0:cz x.q0
 q1:cz x.q1
def qh (L:List dK) (dA sa bi cr:Int) (less:Bool):Option dg:=
 match L[dA.toNat]?,L[bi.toNat]? with
 |some x,some y=>
  if x.has sa=true∧y.has cr=true then
   let r:=if less=true then qX (y.ap cr) (x.ap sa)else rN (x.ap sa) (y.ap cr)
   if r.2=true then some ⟨r.1,min (x.aq sa) (y.aq cr),dA,sa,bi,cr⟩else none
  else none
 |_,_=>none
theorem afd (s:Int) (w:World):
 Calls Tryz.prog 111 #[↑s] w fun e w'=>e= .returned (.int .i64 (wrap64 (3-s)))∧w=w':=by
 go_enter Tryz.func111,Tryz.ntmps111
 go_wp2_with fail
 go_ret;exact⟨by trivial,by trivial⟩
def WG (w:World) (b o:Nat) (x:dK):Prop:=w.cell? ⟨b,o,none⟩=some (.bool x.h0)∧w.cell? ⟨b,o+1,none⟩=some (.bool x.h1)∧w.cell? ⟨b,o+2,none⟩=some (.int .i64 x.jh)∧w.cell? ⟨b,o+3,none⟩=some (.int .i64 x.p1)∧w.cell? ⟨b,o+4,none⟩=some (.int .i64 x.q0)∧w.cell? ⟨b,o+5,none⟩=some (.int .i64 x.q1)
theorem iI.tp {w:World} {b o:Nat} {x:dK} (h:iI w b o x.cells):WG w b o x:=⟨h 0 _ rfl,h 1 _ rfl,h 2 _ rfl,h 3 _ rfl,h 4 _ rfl,h 5 _ rfl⟩
theorem dK.WH (x:dK) {k:Nat} (hk:k<2):x.cells.toArray[k]? =some (.bool (x.has (k+1))):=by
 have:k=0∨k=1:=by omega
 rcases this with rfl|rfl<;>rfl
theorem dK.GZ (x:dK) {k:Nat} (hk:k<2):x.cells.toArray[2+k]? =some (.int .i64 (x.ap (k+1))):=by
 have:k=0∨k=1:=by omega
 rcases this with rfl|rfl<;>rfl
theorem dK.WI (x:dK) {k:Nat} (hk:k<2):x.cells.toArray[4+k]? =some (.int .i64 (x.aq (k+1))):=by
 have:k=0∨k=1:=by omega
 rcases this with rfl|rfl<;>rfl
theorem dK.ok.ap {x:dK} (h:x.ok) (k:Int):cz (x.ap k):=by
 unfold dK.ap;split
 ·exact h.jh
 ·exact h.p1
theorem WJ {L:List dK} {dA bi:Nat} {sa cr:Int} {less:Bool} {x y:dK} (hx:L[dA]? =some x) (hy:L[bi]? =some y):qh L dA sa bi cr less=
 if x.has sa=true∧y.has cr=true then(if(if less=true then qX (y.ap cr) (x.ap sa)else rN (x.ap sa) (y.ap cr)).2=true then some ⟨(if less=true then qX (y.ap cr) (x.ap sa)else rN (x.ap sa) (y.ap cr)).1,min (x.aq sa) (y.aq cr),dA,sa,bi,cr⟩else none)else none:=by
 unfold qh;simp only [Int.toNat_natCast,hx,hy]
theorem M4 (w:World) (t1 t2:TypeId) (c1 c2:Array Value):av ((w.alloc (.cells c1 t1)).alloc (.cells c2 t2)) w.heap.size t1 c1∧av ((w.alloc (.cells c1 t1)).alloc (.cells c2 t2)) (w.heap.size+1) t2 c2∧Below w.heap.size w ((w.alloc (.cells c1 t1)).alloc (.cells c2 t2)):=by
 have s1:=ak;refine⟨(av.new _ _ _).alloc _,?_,(Below.aI _ _).alloc (by rw [s1];omega) _⟩;have:=av.new (w.alloc (.cells c1 t1)) t2 c2;rw [s1]at this;exact this
def qY (p:Prod) (L:List dK) (i:Nat) (side:Int):Nat→List dg
 |0=> []
 |k+1=>qY p L i side k++(qh L (rO p (i:Int) ((i+1+k:Nat):Int)).1 side ((i+1+k:Nat):Int) side false).toList
def uC (p:Prod) (L:List dK) (i:Nat) (side:Int):Nat→List dg
 |0=> []
 |k+1=>uC p L i side k++(qh L (rO p (k:Int) (i:Int)).1 (3-side) (k:Int) side true).toList
def CL (p:Prod) (L:List dK) (inst side:Int):Prop:=countP p=0∨(L.length:Int)≠countP p∨inst<0∨countP p≤inst∨(side≠1∧side≠2)
instance (p:Prod) (L:List dK) (inst side:Int):Decidable (CL p L inst side):=by unfold CL;infer_instance
def G0 (q:dg):dg:=⟨q.ap,q.aq,q.i1,q.s1,q.i0,q.s0⟩
def oM (p:Prod) (L:List dK) (inst side:Int):List dg:=
 if CL p L inst side then []else
 if(gf p inst).2.2=true then((qh L (gf p inst).2.1 (3-side) (gf p inst).1 side true).map G0).toList
 else qY p L inst.toNat side (p.months.length-(inst.toNat+1))++uC p L inst.toNat side inst.toNat
theorem Qn {α:Type} (o:Option α):o.toList.length≤1:=by cases o<;>simp
theorem Qo (p:Prod) (L:List dK) (i:Nat) (side:Int) (k:Nat):(qY p L i side k).length≤k:=by
 induction k with
 |zero=>simp [qY]
 |succ k ih=>have:=Qn (qh L (rO p (i:Int) ((i+1+k:Nat):Int)).1 side ((i+1+k:Nat):Int) side false);simp only [qY,List.length_append];omega
theorem WK (p:Prod) (L:List dK) (i:Nat) (side:Int) (k:Nat):(uC p L i side k).length≤k:=by
 induction k with
 |zero=>simp [uC]
 |succ k ih=>have:=Qn (qh L (rO p (k:Int) (i:Int)).1 (3-side) (k:Int) side true);simp only [uC,List.length_append];omega
theorem M5 {p:Prod} (hz:cR p=0) {i j:Nat} (hij:i<j) (hj:j<p.months.length):∃a:Nat,rO p (i:Int) (j:Int)=((a:Int),true)∧p.months.length≤a∧(a:Int)<countP p:=by
 have hl:=pI hz;have hok:JN p (i:Int) (j:Int):=⟨by omega,by omega,by omega⟩;refine⟨p.months.length+k4 p.months.length i+(j-i-1),?_,by omega,?_⟩
 ·unfold rO
  rw [if_pos ⟨hz,hok⟩,Int.toNat_natCast]
  congr 1
  omega
 ·rw [yt hz]
  have he:=M6 p.months.length hl.2;have hs:=JO p.months.length i;have hm:=M7 p.months.length (show i+1≤p.months.length by omega);omega
theorem afe (s:Int) (w:World) (hs:s=1∨s=2):
 Calls Tryz.prog 111 #[↑s] w fun e w'=>e= .returned (.int .i64 (3-s))∧w=w':=by
 have h:=afd s w;have e:wrap64 (3-s)=3-s:=by rw [←IntWalk.i64_left];exact IntWalk.i64_in _ (by rcases hs with rfl|rfl<;>omega)
 rw [e]at h;exact h
def uR (L:List dK) (dA sa bi cr how:Int):Option dg:=if how= -1 then(qh L bi cr dA sa true).map G0 else qh L dA sa bi cr (how==0)
def NR (a b how:Int):Int×Bool:=if how= -1 then qX a b else if how=0 then qX b a else rN a b
theorem ah7 {L:List dK} {dA bi:Nat} {sa cr how:Int} {x y:dK} (hx:L[dA]? =some x) (hy:L[bi]? =some y):uR L dA sa bi cr how=
 if x.has sa=true∧y.has cr=true then(if(NR (x.ap sa) (y.ap cr) how).2=true then some ⟨(NR (x.ap sa) (y.ap cr) how).1,min (x.aq sa) (y.aq cr),dA,sa,bi,cr⟩else none)else none:=by
 unfold uR NR;by_cases h1:how= -1
 ·rw [if_pos h1,if_pos h1]
  have e:=WJ (less:=true) (sa:=cr) (cr:=sa) hy hx;simp only [↓reduceIte]at e;rw [e];by_cases h2:x.has sa=true∧y.has cr=true
  ·rw [if_pos h2,if_pos (show y.has cr=true∧x.has sa=true from⟨h2.2,h2.1⟩)]
   generalize qX (x.ap sa) (y.ap cr)=r;by_cases h3:r.2=true
   ·rw [if_pos h3,if_pos h3]
    show some (G0 _)=_;unfold G0;rw [Int.min_comm]
   ·rw [if_neg h3,if_neg h3];rfl
  ·rw [if_neg h2,if_neg (fun h:y.has cr=true∧x.has sa=true=>h2 ⟨h.2,h.1⟩)];rfl
 ·rw [if_neg h1,if_neg h1,WJ hx hy]
  by_cases h2:how=0
  ·subst h2
   simp
  ·rw [if_neg h2]
   have:(how==0)=false:=by rw [beq_eq_false_iff_ne];exact h2
   rw [this];simp
theorem ahV (p:Prod) (inst:Int) (ta:Option Addr) (c:Nat) (L:List dK) (B:Nat) (v:Value) (O:List dg) (w:World) (hT:qW.fR w ta L) (hv:kz.Row w B v O) (hB:B≤w.heap.size) (ho:O.length≤1000)
 (dA bi ka kb:Nat) (how:Int) (x y:dK) (hx:L[dA]? =some x) (hy:L[bi]? =some y) (hka:ka<2) (hkb:kb<2) (yR:x.ok) (ND:y.ok) (hh:how=1∨how=0∨how= -1):
 Calls Tryz.prog 131 #[p.agg,.slice ta L.length c,↑inst,v,.agg #[↑dA,.int .i64 ((ka:Int)+1)],.agg #[↑bi,.int .i64 ((kb:Int)+1)],↑how] w fun e w'=>∃v',e= .returned v'∧kz.Row w' B v' (O++(uR L dA (ka+1) bi (kb+1) how).toList)∧Below w.heap.size w w':=by
 have s1:=ak;have ie:=af (ah7 (how:=how) (sa:=(ka:Int)+1) (cr:=(kb:Int)+1) hx hy);obtain⟨va,vc,gU⟩:=hv.form;subst gU;have dD:=af hv
 obtain⟨b,off,rfl,eU,YW⟩:∃b off,ta=some ⟨b,off,none⟩∧b<w.heap.size∧iI w b (off+dA*6) x.cells:=by
  obtain⟨b,off,h1,h2,h3⟩:=hT dA x hx;exact⟨b,off,h1,h2,h3⟩
 have YX:iI w b (off+bi*6) y.cells:=by
  obtain⟨b',off',h1,h2,h3⟩:=hT bi y hy;injection h1 with h1;injection h1 with h1 h4;subst h1;subst h4;exact h3
 have hal:(dA:Int)<(L.length:Int):=by have:=dM hx;omega
 have RL:(bi:Int)<(L.length:Int):=by have:=dM hy;omega
 have YY:=af fun(ax:World) (hb:Below w.heap.size w ax)=>(YW.below hb eU).tp;have YZ:=af fun(ax:World) (hb:Below w.heap.size w ax)=>(YX.below hb eU).tp;unfold Prod.agg Prod.cells;clear hx hy YW YX hv hT;go_enter Tryz.func131,Tryz.ntmps131
 go_upto_region 1 with(fail)
 have hw0:Below w.heap.size w (((w.alloc (.cells #[.string p.code,.slice p.ma p.months.length p.mc,↑p.tick,↑p.low,↑p.high,↑p.wide,↑p.rule,↑p.top,↑p.least,↑p.part,.slice p.sa p.settle.length p.sc] 25)).alloc (.cells #[↑dA,.int .i64 ((ka:Int)+1)] 189)).alloc (.cells #[↑bi,.int .i64 ((kb:Int)+1)] 189)):=((Below.aI _ _).alloc (by rw [s1];omega) _).alloc (by rw [s1,s1];omega) _;have h2:=M4 (w.alloc (.cells #[.string p.code,.slice p.ma p.months.length p.mc,↑p.tick,↑p.low,↑p.high,↑p.wide,↑p.rule,↑p.top,↑p.least,↑p.part,.slice p.sa p.settle.length p.sc] 25)) 189 189 #[↑dA,.int .i64 ((ka:Int)+1)] #[↑bi,.int .i64 ((kb:Int)+1)];rw [s1]at h2;have Hl:=h2.1;have NS:=h2.2.1;clear h2;generalize ((w.alloc (.cells #[.string p.code,.slice p.ma p.months.length p.mc,↑p.tick,↑p.low,↑p.high,↑p.wide,↑p.rule,↑p.top,↑p.least,↑p.part,.slice p.sa p.settle.length p.sc] 25)).alloc (.cells #[↑dA,.int .i64 ((ka:Int)+1)] 189)).alloc (.cells #[↑bi,.int .i64 ((kb:Int)+1)] 189)=w0 at*;have a0:w0.cell? ⟨w.heap.size+1,0,none⟩=some ↑dA:=Hl.cell 0;obtain⟨c0,c1,c2,c3,dH,b8⟩:=YY.out _ hw0;have cO:=af Hl;have aG:=af NS;have KE:=af hw0;clear Hl NS hw0;go_upto_region 2 with(fail)
 clear a0 c0 c1 c2 c3 dH b8;have hb1:Below w0.heap.size w0 (w0.alloc (.cells x.cells.toArray 185)):=Below.aI _ _;have a0:(w0.alloc (.cells #[↑x.h0,↑x.h1,↑x.jh,↑x.p1,↑x.q0,↑x.q1] 185)).cell? ⟨w.heap.size+1+1,0,none⟩=some ↑bi:=(aG.out.below hb1).cell 0;obtain⟨c0,c1,c2,c3,dH,b8⟩:WG (w0.alloc (.cells #[↑x.h0,↑x.h1,↑x.jh,↑x.p1,↑x.q0,↑x.q1] 185)) b (off+bi*6) y:=YZ.out _ (ag KE hb1).out;clear hb1;go_upto_region 3 with(fail)
 clear a0 c0 c1 c2 c3 dH b8;have h2:=M4 w0 185 185 x.cells.toArray y.cells.toArray;simp only [dK.cells]at h2;generalize (w0.alloc (.cells #[↑x.h0,↑x.h1,↑x.jh,↑x.p1,↑x.q0,↑x.q1] 185)).alloc (.cells #[↑y.h0,↑y.h1,↑y.jh,↑y.p1,↑y.q0,↑y.q1] 185)=w2 at*;have fy:Hid (av w2 w0.heap.size 185 x.cells.toArray):=af h2.1;have p7:Hid (av w2 (w0.heap.size+1) 185 y.cells.toArray):=af h2.2.1;have NT:=af (cO.out.below h2.2.2);have aS:=af (aG.out.below h2.2.2);have mE:=af (KE.out.trans (h2.2.2.mono KE.out.size));clear h2 cO aG KE YY YZ;generalize w0.heap.size=aL at*;obtain⟨fc,x7⟩:=ai (aL+1);rw [x7]at p7⊢;clear x7;obtain⟨ga,zG⟩:=ai (w.heap.size+1);rw [zG]at NT aS⊢;clear zG;obtain⟨bE,fT⟩:=ai (ga+1);rw [fT]at aS⊢;clear fT;have hx1:w2.cell? ⟨aL,ka,none⟩=some (.bool (x.has (ka+1))):=(fy.out.cell ka).trans (x.WH hka);have hy1:w2.cell? ⟨fc,kb,none⟩=some (.bool (y.has (kb+1))):=(p7.out.cell kb).trans (y.WH hkb);have yA:w2.cell? ⟨ga,1,none⟩=some (.int .i64 ((ka:Int)+1)):=NT.out.cell 1;have hb1:w2.cell? ⟨bE,1,none⟩=some (.int .i64 ((kb:Int)+1)):=aS.out.cell 1;have y1:IntKind.i64.wrap ((ka:Int)+1-1)=(ka:Int):=by rw [Int.add_sub_cancel];exact IntWalk.i64_in _ (by omega)
 have fI:IntKind.i64.wrap ((kb:Int)+1-1)=(kb:Int):=by rw [Int.add_sub_cancel];exact IntWalk.i64_in _ (by omega)
 have lF:IntKind.i64.wrap (ka:Int)=(ka:Int):=IntWalk.i64_in _ (by omega);have qb:IntKind.i64.wrap (kb:Int)=(kb:Int):=IntWalk.i64_in _ (by omega);have am0:(ka:Int)<2:=by omega
 have am1:(kb:Int)<2:=by omega
 have BB:Hid (∀ax,Below w2.heap.size w2 ax→uR L dA (ka+1) bi (kb+1) how=none→∃v',Ending.returned (.slice va O.length vc)= .returned v'∧kz.Row ax B v' (O++(uR L dA (ka+1) bi (kb+1) how).toList)∧Below w.heap.size w ax):=af fun ax hb hq=>by
  have aP:=mE.out.trans (hb.mono mE.out.size);refine⟨_,rfl,?_,aP⟩;rw [hq];simp only [Option.toList_none,List.append_nil];exact dD.out.below aP
 by_cases h1:x.has (ka+1)=true∧y.has (kb+1)=true
 case neg=>
  have o8:Hid (uR L dA (ka+1) bi (kb+1) how=none):=af (by rw [ie.out,if_neg h1])
  have hcs:x.has (ka+1)=false∨(x.has (ka+1)=true∧y.has (kb+1)=false):=by
   cases hp:x.has (ka+1)with
   |false=>exact .inl rfl
   |true=>exact .inr ⟨rfl,by
    cases hq:y.has (kb+1)with
    |false=>rfl
    |true=>exact absurd ⟨hp,hq⟩ h1⟩
  clear h1;rcases hcs with e1|⟨e1,e2⟩
  ·rw [e1]at hx1
   clear e1;go_wp2_with fail
   go_ret;exact BB.out _ (Below.refl _ _) o8.out
  ·rw [e1]at hx1
   rw [e2]at hy1;clear e1 e2;go_wp2_with fail
   go_ret;exact BB.out _ (Below.refl _ _) o8.out
 case pos=>
 obtain⟨e1,e2⟩:=h1;have HA:Hid (uR L dA (ka+1) bi (kb+1) how=_):=af (by rw [ie.out,if_pos ⟨e1,e2⟩]);rw [e1]at hx1;rw [e2]at hy1;clear e1 e2 ie;have uE:w2.cell? ⟨aL,2+ka,none⟩=some (.int .i64 (x.ap (ka+1))):=(fy.out.cell (2+ka)).trans (x.GZ hka);have x9:w2.cell? ⟨fc,2+kb,none⟩=some (.int .i64 (y.ap (kb+1))):=(p7.out.cell (2+kb)).trans (y.GZ hkb);obtain⟨cq,hpx⟩:=ai (x.ap (ka+1));obtain⟨vK,RM⟩:=ai (y.ap (kb+1));have NU:cz cq:=by rw [←hpx];exact yR.ap _
 have NV:cz vK:=by rw [←RM];exact ND.ap _
 rw [hpx]at uE HA;rw [RM]at x9 HA;have Y0:=af fun w=>afn cq vK w NU NV;have dW:=af fun w=>WT vK cq w NV NU;have cA:=af fun w=>WT cq vK w NU NV;clear hpx RM yR ND NU NV;obtain⟨cu,r1,hr⟩:∃cu r1,NR cq vK how=(cu,r1):=⟨_,_,rfl⟩;rw [hr]at HA;have bM:=af hr;clear hr;go_upto_region 5 with(fail)
 clear hx1 hy1;go_quiet (fail)
 clear uE x9 yA hb1;have aQ:Hid (Below w2.heap.size w2 (w2.drewN nq)):=af (Below.bO w2 nq);generalize w2.drewN nq=w3 at*;go_upto_block 0 with(go_at_call 145;refine(Y0.out _).mono ?_;rintro e az ⟨rfl,rfl⟩)
 clear Y0;go_cut [19,20] (fun u1 u2 wx=>u1=↑cu∧u2=↑r1∧w3=wx)
 case first=>
  rcases hh with rfl|rfl|rfl
  ·have hr:rN cq vK=(cu,r1):=bM.out
   rw [hr];clear hr;go_wp2_with fail
   go_meet;exact⟨rfl,rfl,rfl⟩
  ·have hr:qX vK cq=(cu,r1):=bM.out
   rw [hr]at dW;clear hr;generalize rN cq vK=ra at*;go_wp2_with (go_at_call 146;refine(dW.out _).mono ?_;rintro e az ⟨rfl,rfl⟩)
   go_meet;exact⟨rfl,rfl,rfl⟩
  ·have hr:qX cq vK=(cu,r1):=bM.out
   rw [hr]at cA;clear hr;generalize rN cq vK=ra at*;go_wp2_with (go_at_call 146;refine(cA.out _).mono ?_;rintro e az ⟨rfl,rfl⟩)
   go_meet;exact⟨rfl,rfl,rfl⟩
 case rest=>
 obtain⟨rfl,rfl,rfl⟩:=hcut;clear dW cA bM;cases r1 with
 |false=>
  have o8:Hid (uR L dA (ka+1) bi (kb+1) how=none):=af (by rw [HA.out,if_neg (by simp)]);go_wp2_with fail
  go_ret;exact BB.out _ aQ.out o8.out
 |true=>
  have BD:Hid (uR L dA (ka+1) bi (kb+1) how=some ⟨cu,min (x.aq (ka+1)) (y.aq (kb+1)),dA,ka+1,bi,kb+1⟩):=af (by rw [HA.out,if_pos rfl]);clear HA BB;have rW:=ah mE aQ;have HB:=af (fy.out.below aQ.out);have Y1:=af (p7.out.below aQ.out);have Eu:=af (NT.out.below aQ.out);have bN:=af (aS.out.below aQ.out);clear mE fy p7 NT aS aQ;obtain⟨mF,RN⟩:=ai (x.aq (ka+1));obtain⟨k8,RO⟩:=ai (y.aq (kb+1));have E8:w3.cell? ⟨aL,4+ka,none⟩=some ↑mF:=by rw [←RN];exact(HB.out.cell (4+ka)).trans (x.WI hka)
  have RP:Hid (∀ax,av ax fc 185 y.cells.toArray→ax.cell? ⟨fc,4+kb,none⟩=some ↑k8):=af fun ax h=>by rw [←RO];exact(h.cell (4+kb)).trans (y.WI hkb)
  rw [RN,RO]at BD;clear RN RO;have ha0:w3.cell? ↑ga=some ↑dA:=Eu.out.cell 0;have yA:w3.cell? ⟨ga,1,none⟩=some (.int .i64 ((ka:Int)+1)):=Eu.out.cell 1;have hb0:w3.cell? ↑bE=some ↑bi:=bN.out.cell 0;have hb1:w3.cell? ⟨bE,1,none⟩=some (.int .i64 ((kb:Int)+1)):=bN.out.cell 1;go_wp2_with fail
  refine cP (S:=fun w'=>w'.cell? ↑ga=some ↑dA∧w'.cell? ⟨ga,1,none⟩=some (.int .i64 ((ka:Int)+1))∧w'.cell? ↑bE=some ↑bi∧w'.cell? ⟨bE,1,none⟩=some (.int .i64 ((kb:Int)+1))∧w'.cell? ⟨aL,4+ka,none⟩=some ↑mF) ⟨ha0,yA,hb0,hb1,E8⟩ fun hHeld=>?_;refine au 0 ?_;refine au 1 ?_;refine au 2 ?_;refine au 3 ?_;refine au 4 ?_;refine au 5 ?_;refine au 6 ?_;refine au 7 ?_;refine au 8 ?_;refine au 9 ?_;refine au 10 ?_;refine aU 11 fun K hK=>?_;go_simp;have hbd:Below w3.heap.size w3 (w3.alloc (.cells #[.int .i64 0,.int .i64 0,.int .i64 0,.int .i64 0,.int .i64 0,.int .i64 0] 192)).drew:=(Below.aI w3 _).drew;have RQ:=Eu.out.below hbd;have EE:=bN.out.below hbd;have Y2:=(hbd.cell (p:=⟨aL,4+ka,none⟩) HB.out.lt).trans E8;refine hK.out _ _ ⟨RQ.cell 0,RQ.cell 1,EE.cell 0,EE.cell 1,Y2⟩ (fun hHeld=>?_);clear hK K;refine dY 12 fun K hK=>?_;go_simp;refine hK.out _ _ ?_;clear hK K RQ EE Y2 hbd ha0 yA hb0 hb1 E8;have hb4:Below w3.heap.size w3 (w3.alloc (.cells #[↑cu,↑mF,↑dA,.int .i64 ((ka:Int)+1),↑bi,.int .i64 ((kb:Int)+1)] 192)).drew:=(Below.aI w3 _).drew;have RR:Hid (av (w3.alloc (.cells #[↑cu,↑mF,↑dA,.int .i64 ((ka:Int)+1),↑bi,.int .i64 ((kb:Int)+1)] 192)).drew w3.heap.size 192 #[↑cu,↑mF,↑dA,.int .i64 ((ka:Int)+1),↑bi,.int .i64 ((kb:Int)+1)]):=af (av.new w3 _ _);have bY:=af (bN.out.below hb4);have RS:=af (Y1.out.below hb4);have zZ:=ag rW hb4;have uS:Hid (w.heap.size≤w3.heap.size):=af rW.out.size;clear hb4 bN Y1 rW HB Eu;generalize (w3.alloc (.cells #[↑cu,↑mF,↑dA,.int .i64 ((ka:Int)+1),↑bi,.int .i64 ((kb:Int)+1)] 192)).drew=az at*;generalize w3.heap.size=dU at*;have hb1:az.cell? ⟨bE,1,none⟩=some (.int .i64 ((kb:Int)+1)):=bY.out.cell 1;have Y3:=RP.out _ RS.out;have q1:az.cell? ⟨dU,1,none⟩=some ↑mF:=RR.out.cell 1;go_upto_region 15 with(fail)
  go_quiet (fail)
  clear hb1 Y3 q1;have bQ:Below az.heap.size az (az.drewN nq):=Below.bO az nq;generalize az.drewN nq=aA at*;have yw:=af (RR.out.below bQ);have b7:=af (bY.out.below bQ);have D7:=af (RS.out.below bQ);have E7:=ag zZ bQ;clear bQ RR bY RS zZ;obtain⟨k9,RT⟩:=ai (min mF k8);have RU:=af RT;rw [RT]at BD;clear RT;go_upto_if 106 with(fail)
  go_cut [106] (fun _ wx=>av wx dU 192 #[↑cu,↑k9,↑dA,.int .i64 ((ka:Int)+1),↑bi,.int .i64 ((kb:Int)+1)]∧Below w.heap.size w wx)
  case first=>
   have hb1:aA.cell? ⟨bE,1,none⟩=some (.int .i64 ((kb:Int)+1)):=b7.out.cell 1;have Y3:=RP.out _ D7.out;have q1:aA.cell? ⟨dU,1,none⟩=some ↑mF:=yw.out.cell 1;have f1:aA.frozen? ⟨dU,1,none⟩=false:=yw.out.frozen 1;by_cases hlt:k8<mF
   ·have hz:k8=k9:=by have:=RU.out;omega
    subst hz;go_wp2_with fail
    go_meet;have hk:aK (fun g=>g=dU) aA (aA.setCell ⟨dU,1,none⟩ ↑k8):=(aK.refl (fun g=>g=dU) aA).setCell (p:=⟨dU,1,none⟩) (fun _=>rfl) _;exact⟨yw.out.aW 1 ↑k8,E7.out.trans (hk.below (fun g hg=>by have hg':g=dU:=hg;have:=uS.out;omega) E7.out.size)⟩
   ·have hz:mF=k9:=by have:=RU.out;omega
    subst hz;go_wp2_with fail
    go_meet;exact⟨yw.out,E7.out⟩
  case rest=>
  obtain⟨Nb,r7⟩:=hcut;have Y4:=af Nb;have E9:=af r7;clear Nb r7 yw b7 D7 E7 RU RP uS
  have hac:va=none→vc=0:=by
   obtain⟨a',c',h1,h2,_⟩:=dD.out.rd;injection h1 with h3 _ h4;intro h;rw [h4];exact h2 (by rw [←h3];exact h)
  have Bx:=af hac
  have om:Hid (∀ax,Below w.heap.size w ax→kz.fR ax va O):=af fun ax hb=>by
   obtain⟨a',c',h1,_,h2⟩:=dD.out.rd;injection h1 with h3;rw [h3];exact h2.below hb
  have Bw:Hid (∀ad,va=some ad→∃b off,ad=⟨b,off,none⟩):=af fun ad h=>by
   rcases dD.out.2 with⟨h2,_⟩|⟨g,cap,cur,h2,_⟩
   ·injection h2 with h2;rw [h2]at h;cases h
   ·injection h2 with h2;rw [h2]at h;injection h with h;exact⟨g,0,h.symm⟩
  clear hac;have aD:Hid (∀w',av w' dU 192 #[↑cu,↑k9,↑dA,.int .i64 ((ka:Int)+1),↑bi,.int .i64 ((kb:Int)+1)]→w'.cell? ↑dU=some ↑cu∧w'.cell? ⟨dU,1,none⟩=some ↑k9∧w'.cell? ⟨dU,2,none⟩=some ↑dA∧w'.cell? ⟨dU,3,none⟩=some (.int .i64 ((ka:Int)+1))∧w'.cell? ⟨dU,4,none⟩=some ↑bi∧w'.cell? ⟨dU,5,none⟩=some (.int .i64 ((kb:Int)+1))):=af fun w' h=>⟨h.cell 0,h.cell 1,h.cell 2,h.cell 3,h.cell 4,h.cell 5⟩;have CV:=af (Y4.out.drew);have ah8:=af (E9.out.drew)
  have vT:Hid (∀v' ax,kz.Row ax wc.heap.size v' (O++ [⟨cu,k9,dA,ka+1,bi,kb+1⟩])→Below wc.heap.size wc ax→∃v'',Ending.returned v'= .returned v''∧kz.Row ax B v'' (O++(uR L dA (ka+1) bi (kb+1) how).toList)∧Below w.heap.size w ax):=af fun v' ax h hb=>by
   refine⟨v',rfl,?_,E9.out.trans (hb.mono E9.out.size)⟩;rw [BD.out];exact h.base (Nat.le_trans hB E9.out.size)
  go_wp2_with fail
  refine cP (S:=fun w'=>w'.cell? ↑dU=some ↑cu∧w'.cell? ⟨dU,1,none⟩=some ↑k9∧w'.cell? ⟨dU,2,none⟩=some ↑dA∧w'.cell? ⟨dU,3,none⟩=some (.int .i64 ((ka:Int)+1))∧w'.cell? ⟨dU,4,none⟩=some ↑bi∧w'.cell? ⟨dU,5,none⟩=some (.int .i64 ((kb:Int)+1))) (aD.out _ CV.out) fun hHeld=>?_;have jv:=af fun(ax:World) (hb:Below wc.heap.size wc ax)=>aD.out ax (Y4.out.below hb);have RV:=af fun(ax:World) (hb:Below wc.heap.size wc ax)=>om.out ax (ag E9 hb).out;clear aD om CV ah8 BD E9 dD;refine au 1 ?_;refine au 3 ?_;refine lZ 0 4 (fun K hK=>?_) fun K hK=>?_
  ·go_simp
   have xA:Below wc.heap.size wc (wc.alloc (.cells #[] 192)).drew:=(Below.aI wc _).drew;have hE:kz.Row (wc.alloc (.cells #[] 192)).drew wc.heap.size (.slice ↑wc.heap.size 0 0) []:=(bl.Row.empty (Y:=kz) wc).below (Below.refl _ _).drew;refine hK.out _ _ (jv.out _ xA) (fun hHeld=>?_);clear hK K;generalize (wc.alloc (.cells #[] 192)).drew=rX at*;obtain⟨g0,og⟩:=ai wc.heap.size;have pp:kz.Row rX wc.heap.size (.slice ↑g0 0 0) []:=by rw [←og];exact hE
   clear hE;have C3:=af og;refine lZ 2 4 (fun K hK=>?_) fun K hK=>?_
   ·rw [og]
    clear og;refine kz.steps rfl (.tmp 114) (.tmp 115) rfl wc.heap.size (.slice ↑g0 0 0) [] rfl pp va O.length vc O rfl rfl Bx.out (RV.out _ xA) Bw.out (by simp;omega) xA.size ?_;intro v1 qD mh eZ HC;rw [List.nil_append]at mh;have hb1:Below wc.heap.size wc qD:=xA.trans ((fK eZ).below (fun g hg=>by(have hg':some g0=some g:=hg);injection hg' with hg';have:=cS pp g0 rfl;omega) xA.size);clear HC;refine hK.out _ _ (jv.out _ hb1) (fun hHeld=>?_);clear hK K;refine aU 4 fun K hK=>?_;go_simp;have Ah:Below wc.heap.size wc (qD.alloc (.cells #[↑cu,↑k9,↑dA,.int .i64 ((ka:Int)+1),↑bi,.int .i64 ((kb:Int)+1)] 192)):=hb1.alloc hb1.size _;have iA:av (qD.alloc (.cells #[↑cu,↑k9,↑dA,.int .i64 ((ka:Int)+1),↑bi,.int .i64 ((kb:Int)+1)] 192)) qD.heap.size 192 #[↑cu,↑k9,↑dA,.int .i64 ((ka:Int)+1),↑bi,.int .i64 ((kb:Int)+1)]:=av.new _ _ _;have gv:=mh.below (Below.aI qD (.cells #[↑cu,↑k9,↑dA,.int .i64 ((ka:Int)+1),↑bi,.int .i64 ((kb:Int)+1)] 192));refine hK.out _ _ (jv.out _ Ah) (fun hHeld=>?_);clear hK K;generalize qD.alloc (.cells #[↑cu,↑k9,↑dA,.int .i64 ((ka:Int)+1),↑bi,.int .i64 ((kb:Int)+1)] 192)=sY at*;refine aU 5 fun K hK=>?_;refine kz.step rfl (.tmp 116) (.tmp 118) rfl wc.heap.size v1 O rfl gv qD.heap.size ⟨cu,k9,dA,ka+1,bi,kb+1⟩ rfl iA.lt iA.gH (by omega) Ah.size ?_;intro v2 KF jr cj yJ;have C4:Below wc.heap.size wc KF:=Ah.trans ((fK cj).below (fun g hg=>cS gv g hg) Ah.size);clear yJ;refine hK.out _ _ (jv.out _ C4) (fun hHeld=>?_);clear hK K;refine gu _ _ _ _ ?_;refine ej 6 ?_;refine gw ?_;clear hHeld;have bR:=af (vT.out _ _ jr C4);go_wp2_with fail
    go_ret;exact bR.out
   ·go_simp
    have Ah:Below wc.heap.size wc (rX.alloc (.cells #[↑cu,↑k9,↑dA,.int .i64 ((ka:Int)+1),↑bi,.int .i64 ((kb:Int)+1)] 192)):=xA.alloc xA.size _;have iA:av (rX.alloc (.cells #[↑cu,↑k9,↑dA,.int .i64 ((ka:Int)+1),↑bi,.int .i64 ((kb:Int)+1)] 192)) rX.heap.size 192 #[↑cu,↑k9,↑dA,.int .i64 ((ka:Int)+1),↑bi,.int .i64 ((kb:Int)+1)]:=av.new _ _ _;have gv:=pp.below (Below.aI rX (.cells #[↑cu,↑k9,↑dA,.int .i64 ((ka:Int)+1),↑bi,.int .i64 ((kb:Int)+1)] 192));have hne:g0<rX.heap.size:=ki pp g0 rfl;refine hK.out _ _ (jv.out _ Ah) (fun hHeld=>?_);clear hK K;clear og;generalize rX.alloc (.cells #[↑cu,↑k9,↑dA,.int .i64 ((ka:Int)+1),↑bi,.int .i64 ((kb:Int)+1)] 192)=sY at*;generalize rX.heap.size=gn at*;refine aU 2 fun K hK=>?_;refine kz.steps rfl (.tmp 114) (.tmp 115) rfl wc.heap.size (.slice ↑g0 0 0) [] rfl gv va O.length vc O rfl rfl Bx.out (RV.out _ Ah) Bw.out (by simp;omega) Ah.size ?_;intro v1 qD mh eZ HC;rw [List.nil_append]at mh;have hb1:Below wc.heap.size wc qD:=Ah.trans ((fK eZ).below (fun g hg=>by(have hg':some g0=some g:=hg);injection hg' with hg';have:=cS gv g0 rfl;omega) Ah.size);clear HC;have lD:av qD gn 192 #[↑cu,↑k9,↑dA,.int .i64 ((ka:Int)+1),↑bi,.int .i64 ((kb:Int)+1)]:=iA.keeps (fK eZ) (fun h=>by(have h':some g0=some gn:=h);injection h' with h';omega);refine hK.out _ _ (jv.out _ hb1) (fun hHeld=>?_);clear hK K;refine aU 5 fun K hK=>?_;refine kz.step rfl (.tmp 116) (.tmp 118) rfl wc.heap.size v1 O rfl mh gn ⟨cu,k9,dA,ka+1,bi,kb+1⟩ rfl lD.lt lD.gH (by omega) hb1.size ?_;intro v2 KF jr cj yJ;have C4:Below wc.heap.size wc KF:=hb1.trans ((fK cj).below (fun g hg=>cS mh g hg) hb1.size);clear yJ;refine hK.out _ _ (jv.out _ C4) (fun hHeld=>?_);clear hK K;refine gu _ _ _ _ ?_;refine ej 6 ?_;refine gw ?_;clear hHeld;have bR:=af (vT.out _ _ jr C4);go_wp2_with fail
    go_ret;exact bR.out
  ·go_simp
   have xA:Below wc.heap.size wc (wc.alloc (.cells #[↑cu,↑k9,↑dA,.int .i64 ((ka:Int)+1),↑bi,.int .i64 ((kb:Int)+1)] 192)).drew:=(Below.aI wc _).drew;have iA:av (wc.alloc (.cells #[↑cu,↑k9,↑dA,.int .i64 ((ka:Int)+1),↑bi,.int .i64 ((kb:Int)+1)] 192)).drew wc.heap.size 192 #[↑cu,↑k9,↑dA,.int .i64 ((ka:Int)+1),↑bi,.int .i64 ((kb:Int)+1)]:=av.new wc _ _;refine hK.out _ _ (jv.out _ xA) (fun hHeld=>?_);clear hK K;generalize (wc.alloc (.cells #[↑cu,↑k9,↑dA,.int .i64 ((ka:Int)+1),↑bi,.int .i64 ((kb:Int)+1)] 192)).drew=rX at*;obtain⟨gn,jz⟩:=ai wc.heap.size;have j5:av rX gn 192 #[↑cu,↑k9,↑dA,.int .i64 ((ka:Int)+1),↑bi,.int .i64 ((kb:Int)+1)]:=by rw [←jz];exact iA
   clear iA;rw [jz];have oo:=af jz;clear jz;refine aU 0 fun K hK=>?_;go_simp;have KG:Below wc.heap.size wc (rX.alloc (.cells #[] 192)):=xA.alloc xA.size _;have hE:kz.Row (rX.alloc (.cells #[] 192)) wc.heap.size (.slice ↑rX.heap.size 0 0) []:=(bl.Row.empty (Y:=kz) rX).base xA.size;have nM:=j5.below (Below.aI rX (.cells #[] 192));have hne:=j5.lt;refine hK.out _ _ (jv.out _ KG) (fun hHeld=>?_);clear hK K;generalize rX.alloc (.cells #[] 192)=am2 at*;generalize rX.heap.size=g0 at*;refine aU 2 fun K hK=>?_;refine kz.steps rfl (.tmp 114) (.tmp 115) rfl wc.heap.size (.slice ↑g0 0 0) [] rfl hE va O.length vc O rfl rfl Bx.out (RV.out _ KG) Bw.out (by simp;omega) KG.size ?_;intro v1 qD mh eZ HC;rw [List.nil_append]at mh;have hb1:Below wc.heap.size wc qD:=KG.trans ((fK eZ).below (fun g hg=>by(have hg':some g0=some g:=hg);injection hg' with hg';have:=cS hE g0 rfl;omega) KG.size);clear HC;have lD:av qD gn 192 #[↑cu,↑k9,↑dA,.int .i64 ((ka:Int)+1),↑bi,.int .i64 ((kb:Int)+1)]:=nM.keeps (fK eZ) (fun h=>by(have h':some g0=some gn:=h);injection h' with h';omega);refine hK.out _ _ (jv.out _ hb1) (fun hHeld=>?_);clear hK K;refine aU 5 fun K hK=>?_;refine kz.step rfl (.tmp 116) (.tmp 118) rfl wc.heap.size v1 O rfl mh gn ⟨cu,k9,dA,ka+1,bi,kb+1⟩ rfl lD.lt lD.gH (by omega) hb1.size ?_;intro v2 KF jr cj yJ;have C4:Below wc.heap.size wc KF:=hb1.trans ((fK cj).below (fun g hg=>cS mh g hg) hb1.size);clear yJ;refine hK.out _ _ (jv.out _ C4) (fun hHeld=>?_);clear hK K;refine gu _ _ _ _ ?_;refine ej 6 ?_;refine gw ?_;clear hHeld;have bR:=af (vT.out _ _ jr C4);go_wp2_with fail
   go_ret;exact bR.out
end Go.Proofs.YtmaijkoopjocdaaGreat
