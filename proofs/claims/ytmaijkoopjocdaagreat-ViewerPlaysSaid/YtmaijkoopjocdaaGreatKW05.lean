import Derived.Test.YtmaijkoopjocdaaGreatKW03
set_option maxRecDepth 100000
set_option maxHeartbeats 64000000
namespace Go.Proofs.YtmaijkoopjocdaaGreat
open Go.RowKit Go.Lib
structure St (w ax:World) (p:Prod):Prop where
 aJ:Below ↑w w ax
 pc:PC ax ↑w p
 pv:gM ax p
 lt:w.heap.size<ax.heap.size
theorem St.next {w ax wy:World} {p:Prod} (h:St w ax p) (hb:Below ↑ax ax wy):St w wy p:=
 ⟨h.aJ.trans (hb.mono h.aJ.size),h.pc.below hb h.lt,h.pv.below hb,Nat.lt_of_lt_of_le h.lt hb.size⟩
theorem St.new {w:World} {p:Prod} (hp:gM w p):St w (w.alloc (.cells p.cells 25)) p:=
 ⟨Below.aI _ _,PC.new w p,hp.below (Below.aI _ _),cU⟩
theorem J7 {p:Prod} (h:cR p=0):o6 p.code=true∧lp p.months=true∧nD p=true∧¬ix p∧o5 p=false∧¬lS p∧¬g9 p:=by
 unfold cR at h;cases h1:o6 p.code
 ·rw [h1,if_pos rfl]at h;omega
 rw [h1,if_neg cU]at h;cases h2:lp p.months
 ·rw [h2,if_pos rfl]at h;omega
 rw [h2,if_neg cU]at h;cases h3:nD p
 ·rw [h3,if_pos rfl]at h;omega
 rw [h3,if_neg cU]at h;by_cases h4:ix p
 ·rw [if_pos h4]at h;omega
 rw [if_neg h4]at h;cases h5:o5 p
 ·rw [h5,if_neg cU]at h;by_cases h6:lS p
  ·rw [if_pos h6]at h;omega
  rw [if_neg h6]at h;by_cases h7:g9 p
  ·rw [if_pos h7]at h;omega
  exact⟨rfl,rfl,rfl,h4,rfl,h6,h7⟩
 rw [h5,if_pos rfl]at h;omega
theorem pI {p:Prod} (h:cR p=0):2<=p.months.length∧p.months.length<=6:=T4 (J7 h).2.1
theorem ZW {p:Prod} (h:cR p=0):p.settle.length=p.months.length:=by
 have:=(J7 h).2.2.2.2.1;by_cases hl:p.settle.length=p.months.length
 ·exact hl
 rw [OV hl]at this;cases this
theorem Z1 {p:Prod} (h:cR p=0):1<=p.tick∧p.tick<=1000:=by have:=(J7 h).2.2.1;unfold nD at this;simp only [Bool.and_eq_true,decide_eq_true_eq]at this;omega
def nR (n:Nat):Nat:=n+n*(n-1) / 2
def countP (p:Prod):Int:=if cR p=0 then(nR p.months.length:Int)else 0
theorem Z4 (p:Prod) (w:World) (hp:gM w p):
 Calls Tryz.prog 34 #[p.agg] w fun e w'=>e= .returned (.int .i64 (countP p))∧Below ↑w w w':=by
 have hs0:=St.new hp;unfold Prod.cells at hs0;have D:=af hs0;have A:=T6 p _ hs0.pv;unfold Prod.agg Prod.cells at A⊢;clear hp hs0;by_cases hz:cR p=0
 ·have C:Ei (countP p=nR p.months.length):=af (if_pos hz);have hlen:=pI hz;have hn:p.months.length=2∨p.months.length=3∨p.months.length=4∨p.months.length=5∨p.months.length=6:=bh;have E:=af hz;clear hz hlen;go_enter Tryz.func34,Tryz.ntmps34;go_wp2_with fail;refine A.mono ?_;rw [E.o];rintro e w1 ⟨rfl,hb1⟩;have B:=af (D.o.next hb1);have b1:=B.o.pc.2.1;clear A hb1;rcases hn with hn|hn|hn|hn|hn;all_goals
   rw [hn]at b1;have HN:=af hn;clear hn;go_wp2_with fail;go_ret;exact⟨by rw [C.o,HN.o];rfl,B.o.aJ⟩
 have C:Ei (countP p=0):=af (if_neg hz);have hz1:(cR p==0)=false:=by rw [beq_eq_false_iff_ne];exact hz
 have F:(cR p !=0)=true:=by rw [bne_iff_ne];exact hz
 clear hz;generalize cR p=cp at*;go_enter Tryz.func34,Tryz.ntmps34;go_wp2_with fail;refine A.mono ?_;rintro e w1 ⟨rfl,hb1⟩;have B:=af (D.o.next hb1);clear A hb1;go_wp2_with fail;go_ret;exact⟨by rw [C.o];rfl,B.o.aJ⟩
def k4 (n i:Nat):Nat:=((List.range i).map (fun j=>n-1-j)).sum
theorem XA (n:Nat):k4 n 0=0:=rfl
theorem JO (n i:Nat):k4 n (i+1)=k4 n i+(n-1-i):=by unfold k4;rw [List.range_succ,List.map_append,List.sum_append];simp
theorem M6:∀n,n<=6->n+k4 n n=nR n:=b9
theorem Z5:∀n,n<=6->∀i,i<=n->k4 n i<=15:=b9
def Bl (n k:Nat):Nat:=((List.range n).find? (fun i=>decide (k<k4 n (i+1)))).getD 0
def J8 (n k:Nat):Nat:=Bl n k+1+(k-k4 n (Bl n k))
theorem Xx {n k i:Nat} (hi:i<n) (h1:k<k4 n (i+1)) (h2:∀j,j<i->¬k<k4 n (j+1)):Bl n k=i:=by
 unfold Bl;have:(List.range n).find? (fun i=>decide (k<k4 n (i+1)))=some i:=by
  rw [List.find?_eq_some_iff_append];refine⟨decide_eq_true h1,List.range i,(List.range' (i+1) (n-i-1)),?_,?_⟩
  ·rw [List.range_eq_range',List.range_eq_range',<-List.range'_succ,show n-i-1+1=n-i by omega];have:=List.range'_append (s:=0) (m:=i) (n:=n-i) (step:=1);rw [Nat.one_mul,Nat.zero_add,show i+(n-i)=n by omega]at this;exact this.symm
  intro j hj;rw [List.mem_range]at hj
  simpa using h2 j hj
 rw [this];rfl
def gf (p:Prod) (inst:Int):Int×Int×Bool:=
 if inst<0∨countP p<=inst then(0,0,false)else if inst<p.months.length then(inst,inst,false)else
  (Bl p.months.length (inst-p.months.length).toNat,J8 p.months.length (inst-p.months.length).toNat,true)
def pO (p:Prod):Prop:=p.tick<1∨1000<p.tick∨p.low.tmod p.tick≠0∨p.high.tmod p.tick≠0∨p.wide.tmod p.tick≠0
instance (p:Prod):Decidable (pO p):=by unfold pO;infer_instance
theorem ah2 {p:Prod} (h:pO p):nD p=false:=by
 unfold nD jQ;rcases h with h|h|h|h|h
 ·rw [decide_eq_false (show¬1<=p.tick by omega)];rfl
 ·rw [decide_eq_false (show¬p.tick<=1000 by omega),Bool.and_false];rfl
 ·rw [show(p.low.tmod p.tick !=0)=true from bne_iff_ne.2 h];simp
 ·rw [show(p.high.tmod p.tick !=0)=true from bne_iff_ne.2 h];simp
 rw [show(p.wide.tmod p.tick !=0)=true from bne_iff_ne.2 h];simp
theorem ah3 {p:Prod} (h:¬pO p):nD p= !p.settle.any (jQ p.tick):=by
 unfold pO at h;unfold nD;rw [decide_eq_true (bh:1<=p.tick),decide_eq_true (bh:p.tick<=1000)];have e:∀x:Int,x.tmod p.tick=0->jQ p.tick x=false:=fun x hx=>by unfold jQ;rw [hx];rfl
 rw [e p.low bh,e p.high bh,e p.wide bh];rfl
theorem Kz (p:Prod) (w:World) (hp:gM w p):
 Calls Tryz.prog 95 #[p.agg] w fun e w'=>e= .returned (.int .i64 (cR p))∧Below ↑w w w':=by
 have hs0:=St.new hp;unfold Prod.cells at hs0;have u:=af hs0;unfold Prod.agg Prod.cells;have jF:=hp.tick;have Cf:=hp.low;have mI:=hp.high;have KD:=hp.code;have hml:=hp.Cg;have hsl:=hp.F7;unfold cz at jF Cf mI;have H:Ei (cR p=if o6 p.code=false then 12 else if lp p.months=false then 1 else if nD p=false then 22 else if ix p then 23 else if o5 p=true then 1 else if lS p then 31 else if g9 p then 24 else 0):=af rfl;clear hp hs0;go_enter Tryz.func95,Tryz.ntmps95;go_wp2_with fail;refine(ah4 p.code _ (by unfold maxLen;omega)).mono ?_;rintro e ax ⟨rfl,hb1⟩;have A:=af (u.o.next hb1);obtain⟨b0,b1,b2,b3,b4,bk,O,bn,M,N,F⟩:=A.o.pc;clear hb1 u;cases hc:o6 p.code with
 |false=>have D:=af hc;clear hc;go_wp2_with fail;go_ret;exact⟨by rw [H.o,D.o];rfl,A.o.aJ⟩
 |true=>
  have D:=af hc;clear hc;by_cases uw:p.months.length<2
  ·have C:Ei (lp p.months=false):=af (by unfold lp;rw [decide_eq_false (show¬2<=p.months.length by omega)];simp);have q:(p.months.length:Int)<2:=bh;go_wp2_with fail;go_ret;exact⟨by rw [H.o,D.o,C.o];rfl,A.o.aJ⟩
  by_cases amZ:6<p.months.length
  ·have C:Ei (lp p.months=false):=af (by unfold lp;rw [decide_eq_false (show¬p.months.length<=6 by omega)];simp);have q:¬(p.months.length:Int)<2:=bh;have Y:(6:Int)<(p.months.length:Int):=bh;go_wp2_with fail;go_ret;exact⟨by rw [H.o,D.o,C.o];rfl,A.o.aJ⟩
  have q:¬(p.months.length:Int)<2:=bh;have Y:¬(6:Int)<(p.months.length:Int):=bh;go_wp2_with fail;clear b0 b1 b2 b3 b4 bk O bn M N F;go_loopw [3] (fun i w'=>∃k:Nat,i=↑k∧k<=p.months.length∧St w w' p∧Ei (∀j,j<k->wB p.months j=true)) (fun i _=>p.months.length-(RowKit.intOf i).toNat)
  case atStart=>exact⟨0,rfl,Nat.zero_le _,A.o,af fun j h=>bh⟩
  case round=>as_aux_lemma=>
   clear A;obtain⟨k,rfl,hk,hS,I⟩:=hrel;obtain⟨ax,rfl⟩:=aj wr;have A:=af hS;have b1:=hS.pc.2.1;clear hS;by_cases Q:k<p.months.length
   ·obtain⟨x,hx⟩:=GB p.months k Q;obtain⟨hok,b,off,ha,_,c0⟩:=A.o.pv.IB k x hx;have ya:(k:Int)<(p.months.length:Int):=bh;have C:=af (Yp hx);rw [ha]at b1;have cO:=af ha;clear ha;by_cases h1:x<0
    ·have G:Ei (lp p.months=false):=af (Hp Q (by rw [C.o,decide_eq_false (show¬0<=x by omega)];rfl));have d1:decide (x<0)=true:=decide_eq_true h1;clear hx hok;go_wp2_with fail;go_quiet (fail);clear d1;go_wp2_with fail;go_ret;exact⟨by rw [H.o,D.o,G.o];rfl,(A.o.next (Below.bO ax nq)).aJ⟩
    by_cases h2:1199<x
    ·have G:Ei (lp p.months=false):=af (Hp Q (by rw [C.o,decide_eq_false (show¬x<=1199 by omega),Bool.and_false];rfl));have d1:decide (x<0)=false:=decide_eq_false h1;have d2:decide (1199<x)=true:=decide_eq_true h2;clear hx hok;go_wp2_with fail;go_quiet (fail);clear d1 d2;go_wp2_with fail;go_ret;exact⟨by rw [H.o,D.o,G.o];rfl,(A.o.next (Below.bO ax nq)).aJ⟩
    by_cases S:k=0
    ·have G:Ei (wB p.months k=true):=af (by rw [C.o,decide_eq_true (bh:0<=x),decide_eq_true (bh:x<=1199),S];rfl);have Rl:=af S;have X:¬(0:Int)<(k:Int):=bh;have d1:decide (x<0)=false:=decide_eq_false h1;have d2:decide (1199<x)=false:=decide_eq_false h2;have d3:decide ((0:Int)<(k:Int))=false:=decide_eq_false X;have d4:decide (0<k)=false:=decide_eq_false bh;clear hx hok S;go_wp2_with fail;go_quiet (fail);clear d1 d2 d3 d4;go_wp2_with fail;go_roundw
     case rel=>exact⟨k+1,dR,bh,A.o.next (Below.bO ax nq),af fun j hj=>by
      obtain rfl:j=k:=by have:=Rl.o;omega
      exact G.o⟩
     exact Ej
    obtain⟨k,rfl⟩:∃k',k=k'+1:=⟨k-1,bh⟩;obtain⟨y,hy⟩:=GB p.months k bh;obtain⟨m,b2,off2,he,_,c1⟩:=A.o.pv.IB k y hy;obtain⟨rfl,rfl⟩:b=b2∧off=off2:=by rw [cO.o]at he;injection he with he;injection he with h1 h2;exact⟨h1,h2⟩
    have wC:Ei (p.months.getD k 0=y):=af (Bu hy);have X:(0:Int)<(k:Int)+1:=bh;have i1:IntKind.i64.wrap ((k:Int)+1-1)=(k:Int):=by rw [Int.add_sub_cancel];exact IntWalk.i64_in _ bh
    by_cases h3:x<=y
    ·have G:Ei (lp p.months=false):=af (Hp Q (by rw [C.o,Nat.add_sub_cancel,wC.o,decide_eq_false (show¬y<x by omega)];simp));have d1:decide (x<0)=false:=decide_eq_false h1;have d2:decide (1199<x)=false:=decide_eq_false h2;have d3:decide ((0:Int)<(k:Int)+1)=true:=decide_eq_true X;have d4:decide (x<=y)=true:=decide_eq_true h3;clear hx hy hok m he;go_wp2_with fail;go_quiet (fail);clear d1 d2 d3 d4 i1;go_wp2_with fail;go_ret;exact⟨by rw [H.o,D.o,G.o];rfl,(A.o.next (Below.bO ax nq)).aJ⟩
    have G:Ei (wB p.months (k+1)=true):=af (by rw [C.o,Nat.add_sub_cancel,wC.o,decide_eq_true (bh:0<=x),decide_eq_true (bh:x<=1199),decide_eq_true (bh:y<x)];simp);have d1:decide (x<0)=false:=decide_eq_false h1;have d2:decide (1199<x)=false:=decide_eq_false h2;have d3:decide ((0:Int)<(k:Int)+1)=true:=decide_eq_true X;have d4:decide (x<=y)=false:=decide_eq_false h3;clear hx hy hok m he;go_wp2_with fail;go_quiet (fail);clear d1 d2 d3 d4 i1;go_wp2_with fail;go_roundw
    case rel=>exact⟨k+2,dR,bh,A.o.next (Below.bO ax nq),af fun j hj=>by
     by_cases W:j<k+1
     ·exact I.o j W
     obtain rfl:j=k+1:=bh;exact G.o⟩
    exact Ej
   obtain rfl:k=p.months.length:=bh;have C:Ei (lp p.months=true):=af (by rw [Yo I.o,decide_eq_true (bh:2<=p.months.length),decide_eq_true (bh:p.months.length<=6)];rfl);clear I b1;obtain⟨b0,b1,b2,b3,b4,bk,O,bn,M,N,F⟩:=A.o.pc;go_upto_region 10 with(fail);obtain⟨bb,J⟩:=aj (decide (pO p));have B:=af J;clear J;go_cut [90] (fun v wx=>v=↑bb∧ax=wx)
   case first=>
    by_cases k0:p.tick<1
    ·go_wp2_with fail;go_meet;exact⟨congrArg Value.bool (by rw [B.o];exact(decide_eq_true (p:=pO p) (by unfold pO;omega)).symm),rfl⟩
    by_cases k1:1000<p.tick
    ·go_wp2_with fail;go_meet;exact⟨congrArg Value.bool (by rw [B.o];exact(decide_eq_true (p:=pO p) (by unfold pO;omega)).symm),rfl⟩
    have hz:(p.tick==0)=false:=by rw [beq_eq_false_iff_ne];omega
    have eg:(p.tick== -1)=false:=by rw [beq_eq_false_iff_ne];omega
    obtain⟨t1,z⟩:=ai (p.low.tmod p.tick);obtain⟨t2,nI⟩:=ai (p.high.tmod p.tick);obtain⟨t3,Rm⟩:=ai (p.wide.tmod p.tick);have wE:=af z;have n:=af nI;have rL:=af Rm;by_cases k2:t1=0
    ·have e1:(t1 !=0)=false:=by rw [k2];rfl
     by_cases P:t2=0
     ·have e2:(t2 !=0)=false:=by rw [P];rfl
      by_cases R:t3=0
      ·have bJ:(t3 !=0)=false:=by rw [R];rfl
       have DW:=af k2;have DX:=af P;have ol:=af R;clear k2 P R;go_wp2_with fail;go_meet;exact⟨congrArg Value.bool (by rw [B.o];exact(decide_eq_false (p:=pO p) (by unfold pO;have a:=DW.o;have b:=DX.o;have c:=ol.o;have d:=wE.o;have e:=n.o;have f:=rL.o;omega)).symm),rfl⟩
      have bJ:(t3 !=0)=true:=by rw [bne_iff_ne];exact R
      have K:=af R;clear R;go_wp2_with fail;go_meet;exact⟨congrArg Value.bool (by rw [B.o];exact(decide_eq_true (p:=pO p) (by unfold pO;have:=K.o;have h:=rL.o;omega)).symm),rfl⟩
     have e2:(t2 !=0)=true:=by rw [bne_iff_ne];exact P
     have K:=af P;clear P;go_wp2_with fail;go_meet;exact⟨congrArg Value.bool (by rw [B.o];exact(decide_eq_true (p:=pO p) (by unfold pO;have:=K.o;have h:=n.o;omega)).symm),rfl⟩
    have e1:(t1 !=0)=true:=by rw [bne_iff_ne];exact k2
    have K:=af k2;clear k2;go_wp2_with fail;go_meet;exact⟨congrArg Value.bool (by rw [B.o];exact(decide_eq_true (p:=pO p) (by unfold pO;have:=K.o;have h:=wE.o;omega)).symm),rfl⟩
   case rest=>as_aux_lemma=>
   obtain⟨rfl,rfl⟩:=hcut;clear b0 b1 b2 b3 b4 bk O bn M N F;cases bb with
   |true=>have L:=af (ah2 (of_decide_eq_true B.o.symm));go_wp2_with fail;go_ret;exact⟨by rw [H.o,D.o,C.o,L.o];rfl,A.o.aJ⟩
   |false=>
    have hnt:¬pO p:=of_decide_eq_false B.o.symm;have r:=af (ah3 hnt);unfold pO at hnt;have z:1<=p.tick∧p.tick<=1000:=bh;have hz:(p.tick==0)=false:=by rw [beq_eq_false_iff_ne];omega
    have eg:(p.tick== -1)=false:=by rw [beq_eq_false_iff_ne];omega
    clear hnt B;go_wp2_with fail;go_loopw [4] (fun i w'=>∃k:Nat,i=↑k∧k<=p.settle.length∧St w w' p∧Ei (∀(j:Nat) (x:Int),j<k->p.settle[j]? =some x->jQ p.tick x=false)) (fun i _=>p.settle.length-(RowKit.intOf i).toNat)
    case atStart=>exact⟨0,rfl,Nat.zero_le _,A.o,af fun j x h=>bh⟩
    case round=>as_aux_lemma=>
     clear A;obtain⟨k,rfl,hk,hS,I⟩:=hrel;obtain⟨ax,rfl⟩:=aj wr;have A:=af hS;obtain⟨_,_,b2,_,_,_,_,_,_,_,F⟩:=hS.pc;clear hS;by_cases Q:k<p.settle.length
     ·obtain⟨x,hx⟩:=GB p.settle k Q;obtain⟨hok,b,off,ha,_,c0⟩:=A.o.pv.aW k x hx;have ya:(k:Int)<(p.settle.length:Int):=bh;rw [ha]at F;clear ha;obtain⟨t,ht⟩:=ai (x.tmod p.tick);have s:Ei (jQ p.tick x=(t !=0)):=af (by unfold jQ;rw [ht]);have T:=af hx;clear hx hok;by_cases h0:t=0
      ·have e1:(t !=0)=false:=by rw [h0];rfl
       have Z:=af e1;clear h0;go_wp2_with fail;go_quiet (fail);go_wp2_with fail;go_roundw
       case rel=>exact⟨k+1,dR,bh,A.o.next (Below.bO ax nq),af fun j y hj hy=>by
        by_cases W:j<k
        ·exact I.o j y W hy
        obtain rfl:j=k:=bh;have:=T.o;rw [hy]at this;injection this with this;rw [this,s.o,Z.o]⟩
       exact Ej
      have e1:(t !=0)=true:=by rw [bne_iff_ne];exact h0
      have L:Ei (nD p=false):=af (by rw [r.o,any_some T.o (by rw [s.o,e1])];rfl);clear h0;go_wp2_with fail;go_quiet (fail);go_wp2_with fail;go_ret;exact⟨by rw [H.o,D.o,C.o,L.o];rfl,(A.o.next (Below.bO ax nq)).aJ⟩
     obtain rfl:k=p.settle.length:=bh;have L:Ei (nD p=true):=af (by rw [r.o,any_none fun j x hj=>I.o j x (dM hj) hj];rfl);clear I b2;obtain⟨b0,b1,b2,b3,b4,bk,O,bn,M,N,F⟩:=A.o.pc;go_upto_region 17 with(fail);obtain⟨bb,J⟩:=aj (decide (ix p));have B:=af J;clear J;go_cut [136] (fun v wx=>v=↑bb∧ax=wx)
     case first=>
      by_cases k0:p.low< -1000000
      ·go_wp2_with fail;go_meet;exact⟨congrArg Value.bool (by rw [B.o];exact(decide_eq_true (p:=ix p) (by unfold ix;omega)).symm),rfl⟩
      by_cases k1:p.high<=p.low
      ·go_wp2_with fail;go_meet;exact⟨congrArg Value.bool (by rw [B.o];exact(decide_eq_true (p:=ix p) (by unfold ix;omega)).symm),rfl⟩
      by_cases k2:1000000<p.high
      ·go_wp2_with fail;go_meet;exact⟨congrArg Value.bool (by rw [B.o];exact(decide_eq_true (p:=ix p) (by unfold ix;omega)).symm),rfl⟩
      by_cases P:p.wide<0
      ·go_wp2_with fail;go_meet;exact⟨congrArg Value.bool (by rw [B.o];exact(decide_eq_true (p:=ix p) (by unfold ix;omega)).symm),rfl⟩
      by_cases R:p.high-p.low<p.wide
      ·go_wp2_with fail;go_meet;exact⟨congrArg Value.bool (by rw [B.o];exact(decide_eq_true (p:=ix p) (by unfold ix;omega)).symm),rfl⟩
      go_wp2_with fail;go_meet;exact⟨congrArg Value.bool (by rw [B.o];exact(decide_eq_false (p:=ix p) (by unfold ix;omega)).symm),rfl⟩
     case rest=>as_aux_lemma=>
     obtain⟨rfl,rfl⟩:=hcut;clear b0 b1 b2 b3 b4 bk O bn M N F;cases bb with
     |true=>go_wp2_with fail;go_ret;exact⟨by rw [H.o,D.o,C.o,L.o,if_neg cU,if_neg cU,if_neg cU,if_pos (of_decide_eq_true B.o.symm)];rfl,A.o.aJ⟩
     |false=>
      have U:Ei (¬ix p):=af (of_decide_eq_false B.o.symm);have b1:=A.o.pc.2.1;have F:=A.o.pc.2.2.2.2.2.2.2.2.2.2;clear B;by_cases V:p.settle.length=p.months.length
      ·have hne:((p.settle.length:Int) !=(p.months.length:Int))=false:=by rw [V];simp
       have jR:=af V;clear V;go_wp2_with fail;clear hne b1 F;go_loopw [5] (fun i w'=>∃k:Nat,i=↑k∧k<=p.settle.length∧St w w' p∧Ei (∀(j:Nat) (x:Int),j<k->p.settle[j]? =some x->decide (x<p.low)=false∧decide (p.high<x)=false)) (fun i _=>p.settle.length-(RowKit.intOf i).toNat)
       case atStart=>exact⟨0,rfl,Nat.zero_le _,A.o,af fun j x h=>bh⟩
       case round=>as_aux_lemma=>
        clear A;obtain⟨k,rfl,hk,hS,I⟩:=hrel;obtain⟨ax,rfl⟩:=aj wr;have A:=af hS;obtain⟨_,_,_,b3,b4,_,_,_,_,_,F⟩:=hS.pc;clear hS;by_cases Q:k<p.settle.length
        ·obtain⟨x,hx⟩:=GB p.settle k Q;obtain⟨hok,b,off,ha,_,c0⟩:=A.o.pv.aW k x hx;have ya:(k:Int)<(p.settle.length:Int):=bh;rw [ha]at F;clear ha;have T:=af hx;clear hx hok;by_cases h1:x<p.low
         ·have G:Ei (o5 p=true):=af (by unfold o5;rw [any_some (f:=fun x=>decide (x<p.low)) T.o (decide_eq_true h1)];simp);have d1:decide (x<p.low)=true:=decide_eq_true h1;go_wp2_with fail;go_quiet (fail);clear d1;go_wp2_with fail;go_ret;exact⟨by rw [H.o,D.o,C.o,L.o,if_neg cU,if_neg cU,if_neg cU,if_neg U.o,G.o,if_pos rfl];rfl,(A.o.next (Below.bO ax nq)).aJ⟩
         by_cases h2:p.high<x
         ·have G:Ei (o5 p=true):=af (by unfold o5;rw [any_some (f:=fun x=>decide (p.high<x)) T.o (decide_eq_true h2)];simp);have d1:decide (x<p.low)=false:=decide_eq_false h1;have d2:decide (p.high<x)=true:=decide_eq_true h2;go_wp2_with fail;go_quiet (fail);clear d1 d2;go_wp2_with fail;go_ret;exact⟨by rw [H.o,D.o,C.o,L.o,if_neg cU,if_neg cU,if_neg cU,if_neg U.o,G.o,if_pos rfl];rfl,(A.o.next (Below.bO ax nq)).aJ⟩
         have E:Ei (decide (x<p.low)=false∧decide (p.high<x)=false):=af ⟨decide_eq_false h1,decide_eq_false h2⟩;have d1:decide (x<p.low)=false:=decide_eq_false h1;have d2:decide (p.high<x)=false:=decide_eq_false h2;go_wp2_with fail;go_quiet (fail);clear d1 d2;go_wp2_with fail;go_roundw
         case rel=>exact⟨k+1,dR,bh,A.o.next (Below.bO ax nq),af fun j y hj hy=>by
          by_cases W:j<k
          ·exact I.o j y W hy
          obtain rfl:j=k:=bh;have:=T.o;rw [hy]at this;injection this with this;rw [this];exact E.o⟩
         exact Ej
        obtain rfl:k=p.settle.length:=bh;have g:Ei (o5 p=false):=af (by unfold o5;rw [show(p.settle.length !=p.months.length)=false from by rw [jR.o];simp,any_none (f:=fun x=>decide (x<p.low)) fun j x hj=>(I.o j x (dM hj) hj).1,any_none (f:=fun x=>decide (p.high<x)) fun j x hj=>(I.o j x (dM hj) hj).2];rfl);clear I b3 b4 F;obtain⟨b0,b1,b2,b3,b4,bk,O,bn,M,N,F⟩:=A.o.pc;go_upto_region 26 with(fail);obtain⟨bb,J⟩:=aj (decide (lS p));have B:=af J;clear J;go_cut [176] (fun v wx=>v=↑bb∧ax=wx)
        case first=>
         by_cases k0:p.rule<1
         ·go_wp2_with fail;go_meet;exact⟨congrArg Value.bool (by rw [B.o];exact(decide_eq_true (p:=lS p) (by unfold lS;omega)).symm),rfl⟩
         by_cases k1:3<p.rule
         ·go_wp2_with fail;go_meet;exact⟨congrArg Value.bool (by rw [B.o];exact(decide_eq_true (p:=lS p) (by unfold lS;omega)).symm),rfl⟩
         go_wp2_with fail;go_meet;exact⟨congrArg Value.bool (by rw [B.o];exact(decide_eq_false (p:=lS p) (by unfold lS;omega)).symm),rfl⟩
        case rest=>as_aux_lemma=>
        obtain⟨rfl,rfl⟩:=hcut;clear b0 b1 b2 b3 b4 bk O bn M N F;cases bb with
        |true=>go_wp2_with fail;go_ret;exact⟨by rw [H.o,D.o,C.o,L.o,if_neg cU,if_neg cU,if_neg cU,if_neg U.o,g.o,if_neg cU,if_pos (of_decide_eq_true B.o.symm)];rfl,A.o.aJ⟩
        |false=>
         have l:Ei (¬lS p):=af (of_decide_eq_false B.o.symm);clear B;obtain⟨b0,b1,b2,b3,b4,bk,O,bn,M,N,F⟩:=A.o.pc;go_upto_region 28 with(fail);obtain⟨bb,J⟩:=aj (decide (g9 p));have B:=af J;clear J;go_cut [204] (fun v wx=>v=↑bb∧ax=wx)
         case first=>
          by_cases k0:p.top<0
          ·go_wp2_with fail;go_meet;exact⟨congrArg Value.bool (by rw [B.o];exact(decide_eq_true (p:=g9 p) (by unfold g9;omega)).symm),rfl⟩
          by_cases k1:1000000<p.top
          ·go_wp2_with fail;go_meet;exact⟨congrArg Value.bool (by rw [B.o];exact(decide_eq_true (p:=g9 p) (by unfold g9;omega)).symm),rfl⟩
          by_cases k2:p.least<1
          ·go_wp2_with fail;go_meet;exact⟨congrArg Value.bool (by rw [B.o];exact(decide_eq_true (p:=g9 p) (by unfold g9;omega)).symm),rfl⟩
          by_cases P:1000<p.least
          ·go_wp2_with fail;go_meet;exact⟨congrArg Value.bool (by rw [B.o];exact(decide_eq_true (p:=g9 p) (by unfold g9;omega)).symm),rfl⟩
          by_cases R:p.part<0
          ·go_wp2_with fail;go_meet;exact⟨congrArg Value.bool (by rw [B.o];exact(decide_eq_true (p:=g9 p) (by unfold g9;omega)).symm),rfl⟩
          by_cases lq:100<p.part
          ·go_wp2_with fail;go_meet;exact⟨congrArg Value.bool (by rw [B.o];exact(decide_eq_true (p:=g9 p) (by unfold g9;omega)).symm),rfl⟩
          go_wp2_with fail;go_meet;exact⟨congrArg Value.bool (by rw [B.o];exact(decide_eq_false (p:=g9 p) (by unfold g9;omega)).symm),rfl⟩
         case rest=>as_aux_lemma=>
         obtain⟨rfl,rfl⟩:=hcut;clear b0 b1 b2 b3 b4 bk O bn M N F;cases bb with
         |true=>go_wp2_with fail;go_ret;exact⟨by rw [H.o,D.o,C.o,L.o,if_neg cU,if_neg cU,if_neg cU,if_neg U.o,g.o,if_neg cU,if_neg l.o,if_pos (of_decide_eq_true B.o.symm)];rfl,A.o.aJ⟩
         |false=>go_wp2_with fail;go_ret;exact⟨by rw [H.o,D.o,C.o,L.o,if_neg cU,if_neg cU,if_neg cU,if_neg U.o,g.o,if_neg cU,if_neg l.o,if_neg (of_decide_eq_false B.o.symm)];rfl,A.o.aJ⟩
      have hne:((p.settle.length:Int) !=(p.months.length:Int))=true:=by rw [bne_iff_ne];omega
      have G:=af (OV V);clear V;go_wp2_with fail;go_ret;exact⟨by rw [H.o,D.o,C.o,L.o,if_neg cU,if_neg cU,if_neg cU,if_neg U.o,G.o,if_pos rfl];rfl,A.o.aJ⟩
end Go.Proofs.YtmaijkoopjocdaaGreat
