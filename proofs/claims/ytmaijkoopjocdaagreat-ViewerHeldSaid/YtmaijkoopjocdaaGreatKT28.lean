import Derived.Test.YtmaijkoopjocdaaGreatKT27
set_option maxRecDepth 100000
set_option maxHeartbeats 64000000
namespace Go.Proofs.YtmaijkoopjocdaaGreat
open Go.RowKit
theorem afz (p:Prod) (inst ag:Int) (w:World) (hp:fZ w p):
 Calls Tryz.prog 137 #[p.agg,.int .i64 inst,.int .i64 ag] w fun e w'=>e= .returned (.tuple #[.int .i64 (s3 p inst ag).1,.int .i64 (s3 p inst ag).2.1,.int .i64 (s3 p inst ag).2.2])∧Below w.heap.size w w':=by
 have hs0:=St.new hp;unfold Prod.cells at hs0;have eb:=af hs0;have cN:=IK p _ hs0.pv;have fc:=af fun ak (h:fZ ak p)=>FE p inst ak h;have jU:=af fun ak (h:fZ ak p)=>BV p inst ag ak h;unfold Prod.agg Prod.cells at cN fc jU⊢;clear hp hs0;by_cases hz:cz p=0
 ·have aU:=af hz
  rw [hz]at cN;by_cases hsp:(fB p inst).2.2=true
  ·obtain⟨_,i,j,lX,hij,hjn,hi1,hi2⟩:=Qj hsp
   rw [lX]at fc;have hsl:=adh hz;obtain⟨x,hx⟩:∃x,p.settle[j]? =some x:=⟨_,List.getElem?_eq_getElem (by omega)⟩;have Mc:=afv hz hx;have hbd:=Xh hz;have aji:(j:Int)<(p.settle.length:Int):=by omega
   by_cases Dv:eA p inst ag=0
   ·have ze:=afw Dv
    have hlo:Bm p inst= -p.wide∧Bn p inst=p.wide:=⟨if_pos hi1,if_pos hi1⟩;rw [hlo.1,hlo.2]at ze;rw [Dv]at jU
    have dm:Hid (s3 p inst ag=if p.high<x+ag then(p.high,p.high-ag,0)else if x+ag<p.low then(p.low,p.low-ag,0)else(x+ag,x,0)):=af (by
     unfold s3;rw [if_neg (by rw [hz];simp),if_neg (by rw [hsp];simp),if_neg (by rw [Dv];simp),lX];simp only [Int.toNat_natCast];rw [zD hx])
    have jd:=af hx;have lm: -2000000≤ag∧ag≤2000000:=by omega
    have ajj:=oC hz;have y0:IntKind.i64.wrap (x+ag)=x+ag:=IntWalk.i64_in _ (by omega);clear hsp lX Dv hz hlo ze hsl hi1 hi2 hij hx;by_cases k1:p.high<x+ag
    ·have uC:Hid (s3 p inst ag=(p.high,p.high-ag,0)):=af (by rw [dm.out,if_pos k1])
     have hn:¬p.high<p.low:=by omega
     have y1:IntKind.i64.wrap (x+ag-p.high)=x+ag-p.high:=IntWalk.i64_in _ (by omega);have dw:IntKind.i64.wrap (x-(x+ag-p.high))=p.high-ag:=by rw [show x-(x+ag-p.high)=p.high-ag by omega];exact IntWalk.i64_in _ (by omega)
     rw [uC.out];go_enter Tryz.func137,Tryz.ntmps137
     go_wp2_with fail
     refine cN.mono ?_;rintro e w1 ⟨rfl,hb1⟩;have c5:=af (eb.out.next hb1);obtain⟨b0,b1,b2,b3,b4,aW,bp,aX,bq,bt,bh⟩:=c5.out.pc;clear cN hb1;go_wp2_with fail
     refine(fc.out _ c5.out.pv).mono ?_;rintro e w2 ⟨rfl,hb2⟩;have cy:=af (c5.out.next hb2);clear b0 b1 b2 b3 b4 aW bp aX bq bt bh hb2;obtain⟨b0,b1,b2,b3,b4,aW,bp,aX,bq,bt,bh⟩:=cy.out.pc;go_wp2_with fail
     refine(jU.out _ cy.out.pv).mono ?_;rintro e w3 ⟨rfl,hb3⟩;have iu:=af (cy.out.next hb3);clear b0 b1 b2 b3 b4 aW bp aX bq bt bh hb3;obtain⟨b0,b1,b2,b3,b4,aW,bp,aX,bq,bt,bh⟩:=iu.out.pc;obtain⟨_,b,off,ha,_,c0⟩:=iu.out.pv.aQ j x jd.out;rw [ha]at bh;go_wp2_with fail
     go_ret3
     exact⟨by rfl,iu.out.aF⟩
    ·by_cases k2:x+ag<p.low
     ·have uC:Hid (s3 p inst ag=(p.low,p.low-ag,0)):=af (by rw [dm.out,if_neg k1,if_pos k2])
      have y1:IntKind.i64.wrap (p.low-(x+ag))=p.low-(x+ag):=IntWalk.i64_in _ (by omega);have dw:IntKind.i64.wrap (x+(p.low-(x+ag)))=p.low-ag:=by rw [show x+(p.low-(x+ag))=p.low-ag by omega];exact IntWalk.i64_in _ (by omega)
      rw [uC.out];go_enter Tryz.func137,Tryz.ntmps137
      go_wp2_with fail
      refine cN.mono ?_;rintro e w1 ⟨rfl,hb1⟩;have c5:=af (eb.out.next hb1);obtain⟨b0,b1,b2,b3,b4,aW,bp,aX,bq,bt,bh⟩:=c5.out.pc;clear cN hb1;go_wp2_with fail
      refine(fc.out _ c5.out.pv).mono ?_;rintro e w2 ⟨rfl,hb2⟩;have cy:=af (c5.out.next hb2);clear b0 b1 b2 b3 b4 aW bp aX bq bt bh hb2;obtain⟨b0,b1,b2,b3,b4,aW,bp,aX,bq,bt,bh⟩:=cy.out.pc;go_wp2_with fail
      refine(jU.out _ cy.out.pv).mono ?_;rintro e w3 ⟨rfl,hb3⟩;have iu:=af (cy.out.next hb3);clear b0 b1 b2 b3 b4 aW bp aX bq bt bh hb3;obtain⟨b0,b1,b2,b3,b4,aW,bp,aX,bq,bt,bh⟩:=iu.out.pc;obtain⟨_,b,off,ha,_,c0⟩:=iu.out.pv.aQ j x jd.out;rw [ha]at bh;go_wp2_with fail
      go_ret3
      exact⟨by rfl,iu.out.aF⟩
     ·have uC:Hid (s3 p inst ag=(x+ag,x,0)):=af (by rw [dm.out,if_neg k1,if_neg k2])
      rw [uC.out];go_enter Tryz.func137,Tryz.ntmps137
      go_wp2_with fail
      refine cN.mono ?_;rintro e w1 ⟨rfl,hb1⟩;have c5:=af (eb.out.next hb1);obtain⟨b0,b1,b2,b3,b4,aW,bp,aX,bq,bt,bh⟩:=c5.out.pc;clear cN hb1;go_wp2_with fail
      refine(fc.out _ c5.out.pv).mono ?_;rintro e w2 ⟨rfl,hb2⟩;have cy:=af (c5.out.next hb2);clear b0 b1 b2 b3 b4 aW bp aX bq bt bh hb2;obtain⟨b0,b1,b2,b3,b4,aW,bp,aX,bq,bt,bh⟩:=cy.out.pc;go_wp2_with fail
      refine(jU.out _ cy.out.pv).mono ?_;rintro e w3 ⟨rfl,hb3⟩;have iu:=af (cy.out.next hb3);clear b0 b1 b2 b3 b4 aW bp aX bq bt bh hb3;obtain⟨b0,b1,b2,b3,b4,aW,bp,aX,bq,bt,bh⟩:=iu.out.pc;obtain⟨_,b,off,ha,_,c0⟩:=iu.out.pv.aQ j x jd.out;rw [ha]at bh;go_wp2_with fail
      go_ret3
      exact⟨by rfl,iu.out.aF⟩
   ·have dm:Hid (s3 p inst ag=(0,0,eA p inst ag)):=af (by
     unfold s3;rw [if_neg (by rw [hz];simp),if_neg (by rw [hsp];simp),if_pos Dv])
    rw [dm.out];have IW:(eA p inst ag !=0)=true:=by rw [bne_iff_ne];exact Dv
    clear hsp lX Dv hz hx Mc hsl hi1 hi2 hij;generalize eA p inst ag=pr at*;go_enter Tryz.func137,Tryz.ntmps137
    go_wp2_with fail
    refine cN.mono ?_;rintro e w1 ⟨rfl,hb1⟩;have c5:=af (eb.out.next hb1);obtain⟨b0,b1,b2,b3,b4,aW,bp,aX,bq,bt,bh⟩:=c5.out.pc;clear cN hb1;go_wp2_with fail
    refine(fc.out _ c5.out.pv).mono ?_;rintro e w2 ⟨rfl,hb2⟩;have cy:=af (c5.out.next hb2);clear b0 b1 b2 b3 b4 aW bp aX bq bt bh hb2;obtain⟨b0,b1,b2,b3,b4,aW,bp,aX,bq,bt,bh⟩:=cy.out.pc;go_wp2_with fail
    refine(jU.out _ cy.out.pv).mono ?_;rintro e w3 ⟨rfl,hb3⟩;have iu:=af (cy.out.next hb3);clear b0 b1 b2 b3 b4 aW bp aX bq bt bh hb3;go_wp2_with fail
    go_ret3
    exact⟨by rfl,iu.out.aF⟩
  ·have IX:(fB p inst).2.2=false:=by simpa using hsp
   have dm:Hid (s3 p inst ag=(0,0,20)):=af (by
    unfold s3;rw [if_neg (by rw [hz];simp),if_pos IX])
   rw [dm.out];obtain⟨l0,l1,l2,hl⟩:∃l0 l1 l2,fB p inst=(l0,l1,l2):=⟨_,_,_,rfl⟩;rw [hl]at fc IX;replace IX:l2=false:=IX;subst IX;clear hsp hz hl;go_enter Tryz.func137,Tryz.ntmps137
   go_wp2_with fail
   refine cN.mono ?_;rintro e w1 ⟨rfl,hb1⟩;have c5:=af (eb.out.next hb1);obtain⟨b0,b1,b2,b3,b4,aW,bp,aX,bq,bt,bh⟩:=c5.out.pc;clear cN hb1;go_wp2_with fail
   refine(fc.out _ c5.out.pv).mono ?_;rintro e w2 ⟨rfl,hb2⟩;have cy:=af (c5.out.next hb2);clear b0 b1 b2 b3 b4 aW bp aX bq bt bh hb2;go_wp2_with fail
   go_ret3
   exact⟨by rfl,cy.out.aF⟩
 ·have dm:Hid (s3 p inst ag=(0,0,1)):=af (if_pos hz)
  rw [dm.out];have dG:(cz p !=0)=true:=by rw [bne_iff_ne];exact hz
  clear hz;generalize cz p=cp at*;go_enter Tryz.func137,Tryz.ntmps137
  go_wp2_with fail
  refine cN.mono ?_;rintro e w1 ⟨rfl,hb1⟩;have c5:=af (eb.out.next hb1);clear cN hb1;go_wp2_with fail
  go_ret3
  exact⟨by rfl,c5.out.aF⟩
theorem PC.nV {w:World} {g:Nat} {p:Prod} (hb:aj w g 25 p.cells):PC w g p:=by
 have h:∀i,w.cell? ⟨g,i,none⟩=p.cells[i]? :=fun i=>hb.cell i;exact⟨h 0,h 1,h 2,h 3,h 4,h 5,h 6,h 7,h 8,h 9,h 10⟩
theorem WY {p:Prod} {inst:Int} (h1:0≤inst) (h2:inst<countP p) (h:(fB p inst).2.2=false):∃i:Nat,fB p inst=((i:Int),(i:Int),false)∧i<p.months.length:=by
 unfold fB at h⊢;rw [if_neg (by omega)]at h⊢;by_cases h3:inst<p.months.length
 ·rw [if_pos h3]
  exact⟨inst.toNat,by rw [Int.toNat_of_nonneg h1],by omega⟩
 ·rw [if_neg h3]at h;cases h
theorem agy:∀n,n≤6→∀k,k<22→n+k<mZ n→k=j7 n (zu n k)+(Ih n k-(zu n k+1)):=by decide
def HR (p:Prod) (near cm:Int):Prop:=0≤near∧near<cm∧cm<p.months.length
instance (p:Prod) (near cm:Int):Decidable (HR p near cm):=by unfold HR;infer_instance
def qy (p:Prod) (near cm:Int):Int×Bool:=
 if cz p=0∧HR p near cm then((p.months.length:Int)+(j7 p.months.length near.toNat:Nat)+(cm-near-1),true)else(0,false)
theorem agz {p:Prod} (hz:cz p=0) {k:Nat} (hk:(k:Int)<countP p) (hn:p.months.length≤k) {near cm:Int} {i j:Int} {b:Bool} (lX:fB p (k:Int)=(i,j,b)) (h:i=near∧j=cm):qy p near cm=((k:Int),true):=by
 have hl:=oC hz;have hc:=wE hz;have hcb:=w6 p.months.length hl.2;obtain⟨m,rfl⟩:∃m,k=p.months.length+m:=⟨k-p.months.length,by omega⟩;have hin:=agy p.months.length hl.2 m (by omega) (by omega);have hbd:=Xi p.months.length hl.2 m (by omega) (by omega);unfold fB at lX;rw [if_neg (by omega),if_neg (by omega),show(((p.months.length+m:Nat):Int)-(p.months.length:Int)).toNat=m by omega]at lX;injection lX with h1 h2;injection h2 with h2 _;obtain⟨rfl,rfl⟩:=h;rw [←h1,←h2];unfold qy;rw [if_pos ⟨hz,by unfold HR;omega⟩,Int.toNat_natCast]
 congr 1
 omega
theorem agA {p:Prod} {near cm:Int} (hz:cz p=0) (h:∀k:Nat,p.months.length≤k→(k:Int)<countP p→¬((fB p (k:Int)).1=near∧(fB p (k:Int)).2.1=cm)):qy p near cm=(0,false):=by
 refine if_neg fun hh=>?_;obtain⟨_,h0,h1,h2⟩:=hh;obtain⟨i,rfl⟩:∃i:Nat,near=(i:Int):=⟨near.toNat,by omega⟩;obtain⟨j,rfl⟩:∃j:Nat,cm=(j:Int):=⟨cm.toNat,by omega⟩;have hl:=oC hz;have hc:=wE hz;have he:=Lf p.months.length hl.2;have hs:=HS p.months.length i;have hm:=Lg p.months.length (show i+1≤p.months.length by omega);have Ai:=Xj (p:=p) (k:=j7 p.months.length i+(j-(i+1))) rfl hz (i:=i) (j:=j) (by omega) (by omega) rfl;refine h (p.months.length+(j7 p.months.length i+(j-(i+1)))) (by omega) (by omega) ?_;rw [show((p.months.length+(j7 p.months.length i+(j-(i+1))):Nat):Int)=(p.months.length:Int)+((j7 p.months.length i+(j-(i+1)):Nat):Int)by omega,Ai];exact⟨rfl,rfl⟩
theorem afi (p:Prod) (near cm:Int) (w:World) (hp:fZ w p):
 Calls Tryz.prog 132 #[p.agg,.int .i64 near,.int .i64 cm] w fun e w'=>e= .returned (.tuple #[.int .i64 (qy p near cm).1,.bool (qy p near cm).2])∧Below w.heap.size w w':=by
 have hs0:=St.new hp;unfold Prod.cells at hs0;have eb:=af hs0;have gG:=af fun ak (h:fZ ak p)=>IL p ak h;have hml:=hp.Ao;unfold Prod.agg Prod.cells at gG⊢;clear hp hs0;by_cases hz:cz p=0
 ·have fc:=af fun(k:Int) ak (h:fZ ak p)=>FE p k ak h
  unfold Prod.agg Prod.cells at fc;have FK:=af fun(k:Nat) (h1:(k:Int)<countP p) (h2:p.months.length≤k) (i j:Int) (b:Bool) h3 h4=>agz (near:=near) (cm:=cm) (i:=i) (j:=j) (b:=b) hz h1 h2 h3 h4;have kv:=af (agA (near:=near) (cm:=cm) hz);have hcb:=zL p;have sQ:(p.months.length:Int)≤countP p:=by have:=w6 p.months.length (oC hz).2;rw [wE hz];omega
  obtain⟨c,hc⟩:∃c:Nat,countP p=(c:Int):=⟨(countP p).toNat,by omega⟩;rw [hc]at gG FK kv hcb sQ;clear hc hz;generalize qy p near cm=v at*;obtain⟨b0,b1,b2,b3,b4,aW,bp,aX,bq,bt,bh⟩:=eb.out.pc;go_enter Tryz.func132,Tryz.ntmps132
  go_wp2_with fail
  clear b0 b1 b2 b3 b4 aW bp aX bq bt bh;go_loopw [8] (fun i w'=>∃k:Nat,i= .int .i64 k∧p.months.length≤k∧k≤c∧St w w' p∧Hid (∀j:Nat,p.months.length≤j→j<k→¬((fB p (j:Int)).1=near∧(fB p (j:Int)).2.1=cm))) (fun i _=>c-(RowKit.intOf i).toNat)
  case atStart=>exact⟨p.months.length,rfl,Nat.le_refl _,by omega,eb.out,af fun j h1 h2=>by omega⟩
  case round=>
   clear eb;obtain⟨k,rfl,hkn,hk,hS,eY⟩:=hrel;obtain⟨ak,rfl⟩:∃bk:World,bk=wr:=⟨_,rfl⟩;have eb:=af hS;clear hS;obtain⟨b0,b1,b2,b3,b4,aW,bp,aX,bq,bt,bh⟩:=eb.out.pc;go_wp2_with fail
   refine(gG.out _ eb.out.pv).mono ?_;rintro e w1 ⟨rfl,hb1⟩;have aq:=af (eb.out.next hb1);clear hb1 b0 b1 b2 b3 b4 aW bp aX bq bt bh;by_cases hkc:k<c
   ·have agB:(k:Int)<(c:Int):=by omega
    have lX:=fc.out (k:Int) _ aq.out.pv;obtain⟨l0,l1,l2,hl⟩:∃l0 l1 l2,fB p (k:Int)=(l0,l1,l2):=⟨_,_,_,rfl⟩;rw [hl]at lX;have cX:=af hl;have dL:=af fun h4=>FK.out k agB hkn l0 l1 l2 hl h4;clear hl;obtain⟨b0,b1,b2,b3,b4,aW,bp,aX,bq,bt,bh⟩:=aq.out.pc;go_wp2_with fail
    refine lX.mono ?_;rintro e w2 ⟨rfl,hb2⟩;have cy:=af (aq.out.next hb2);clear lX hb2 b0 b1 b2 b3 b4 aW bp aX bq bt bh;by_cases h1:l0=near
    ·by_cases h2:l1=cm
     ·have hv:=dL.out ⟨h1,h2⟩
      subst hv;have e1:(l0==near)=true:=by rw [beq_iff_eq];exact h1
      have e2:(l1==cm)=true:=by rw [beq_iff_eq];exact h2
      clear dL h1 h2;go_wp2_with fail
      go_ret2
      exact⟨by rfl,cy.out.aF⟩
     ·have e1:(l0==near)=true:=by rw [beq_iff_eq];exact h1
      have e2:(l1==cm)=false:=by rw [beq_eq_false_iff_ne];exact h2
      have bH:Hid (¬(l0=near∧l1=cm)):=af fun h=>h2 h.2;clear dL h1 h2;go_wp2_with fail
      go_roundw
      case rel=>exact⟨k+1,by go_num,by omega,by omega,cy.out,af fun j rN hj2=>by
       by_cases oV:j<k
       ·exact eY.out j rN oV
       ·obtain rfl:j=k:=by omega
        rw [cX.out];exact bH.out⟩
      case measure=>simp [RowKit.intOf];omega
    ·have e1:(l0==near)=false:=by rw [beq_eq_false_iff_ne];exact h1
     have bH:Hid (¬(l0=near∧l1=cm)):=af fun h=>h1 h.1;clear dL h1;go_wp2_with fail
     go_roundw
     case rel=>exact⟨k+1,by go_num,by omega,by omega,cy.out,af fun j rN hj2=>by
      by_cases oV:j<k
      ·exact eY.out j rN oV
      ·obtain rfl:j=k:=by omega
       rw [cX.out];exact bH.out⟩
     case measure=>simp [RowKit.intOf];omega
   ·obtain rfl:k=c:=by omega
    have hv:=kv.out fun j h1 h2=>eY.out j h1 (by omega);subst hv;go_wp2_with fail
    go_ret2
    exact⟨by rfl,aq.out.aF⟩
 ·have dm:Hid (qy p near cm=(0,false)):=af (if_neg fun h=>hz h.1)
  rw [dm.out];rw [IM hz]at gG;clear hz;obtain⟨b0,b1,b2,b3,b4,aW,bp,aX,bq,bt,bh⟩:=eb.out.pc;go_enter Tryz.func132,Tryz.ntmps132
  go_wp2_with fail
  clear b0 b1 b2 b3 b4 aW bp aX bq bt bh;go_loopw [8] (fun i w'=>i= .int .i64 p.months.length∧St w w' p) (fun _ _=>0)
  case atStart=>exact⟨rfl,eb.out⟩
  case round=>
   clear eb;obtain⟨rfl,hS⟩:=hrel;obtain⟨ak,rfl⟩:∃bk:World,bk=wr:=⟨_,rfl⟩;have eb:=af hS;clear hS;obtain⟨b0,b1,b2,b3,b4,aW,bp,aX,bq,bt,bh⟩:=eb.out.pc;go_wp2_with fail
   refine(gG.out _ eb.out.pv).mono ?_;rintro e w1 ⟨rfl,hb1⟩;have aq:=af (eb.out.next hb1);clear hb1 b0 b1 b2 b3 b4 aW bp aX bq bt bh;go_wp2_with fail
   go_ret2
   exact⟨by rfl,aq.out.aF⟩
structure cZ where
 h0:Bool
 h1:Bool
 jO:Int
 p1:Int
 q0:Int
 q1:Int
deriving DecidableEq
structure cK where
 ag:Int
 ah:Int
 i0:Int
 s0:Int
 i1:Int
 s1:Int
deriving DecidableEq
def cZ.cells (x:cZ):List Value:= [.bool x.h0,.bool x.h1,.int .i64 x.jO,.int .i64 x.p1,.int .i64 x.q0,.int .i64 x.q1]
def cK.cells (x:cK):List Value:= [.int .i64 x.ag,.int .i64 x.ah,.int .i64 x.i0,.int .i64 x.s0,.int .i64 x.i1,.int .i64 x.s1]
def UO:cZ:=⟨false,false,0,0,0,0⟩
def ul:cK:=⟨0,0,0,0,0,0⟩
theorem cZ.jL (x:cZ):∀u∈x.cells,u.oneCell'=true:=by
 intro u hu;simp only [cZ.cells,List.mem_cons,List.not_mem_nil,or_false]at hu;rcases hu with rfl|rfl|rfl|rfl|rfl|rfl<;>rfl
theorem cK.jL (x:cK):∀u∈x.cells,u.oneCell'=true:=by
 intro u hu;simp only [cK.cells,List.mem_cons,List.not_mem_nil,or_false]at hu;rcases hu with rfl|rfl|rfl|rfl|rfl|rfl<;>rfl
def pV:aY cZ:=⟨cZ.cells,6,fun _=>rfl,cZ.jL,by omega,185,125,.agg UO.cells.toArray,40,Tryz.underlying125,by kernel_rfl,by rfl,by omega⟩
def jE:aY cK:=⟨cK.cells,6,fun _=>rfl,cK.jL,by omega,192,132,.agg ul.cells.toArray,48,Tryz.underlying132,by kernel_rfl,by rfl,by omega⟩
def cZ.has (x:cZ) (k:Int):Bool:=if k=1 then x.h0 else x.h1
def cZ.ag (x:cZ) (k:Int):Int:=if k=1 then x.jO else x.p1
def cZ.ah (x:cZ) (k:Int):Int:=if k=1 then x.q0 else x.q1
structure cZ.ok (x:cZ):Prop where
 jO:b8 x.jO
 p1:b8 x.p1
 q0:b8 x.q0
 q1:b8 x.q1
def ph (L:List cZ) (cU sa bi bZ:Int) (less:Bool):Option cK:=
 match L[cU.toNat]?,L[bi.toNat]? with
 |some x,some y=>
  if x.has sa=true∧y.has bZ=true then
   let r:=if less=true then pW (y.ag bZ) (x.ag sa)else qx (x.ag sa) (y.ag bZ)
   if r.2=true then some ⟨r.1,min (x.ah sa) (y.ah bZ),cU,sa,bi,bZ⟩else none
  else none
 |_,_=>none
theorem acq (s:Int) (w:World):
 Calls Tryz.prog 111 #[.int .i64 s] w fun e w'=>e= .returned (.int .i64 (wrap64 (3-s)))∧w=w':=by
 go_enter Tryz.func111,Tryz.ntmps111
 go_wp2_with fail
 go_ret;exact⟨by trivial,by trivial⟩
def UQ (w:World) (b o:Nat) (x:cZ):Prop:=w.cell? ⟨b,o,none⟩=some (.bool x.h0)∧w.cell? ⟨b,o+1,none⟩=some (.bool x.h1)∧w.cell? ⟨b,o+2,none⟩=some (.int .i64 x.jO)∧w.cell? ⟨b,o+3,none⟩=some (.int .i64 x.p1)∧w.cell? ⟨b,o+4,none⟩=some (.int .i64 x.q0)∧w.cell? ⟨b,o+5,none⟩=some (.int .i64 x.q1)
theorem gL.tp {w:World} {b o:Nat} {x:cZ} (h:gL w b o x.cells):UQ w b o x:=⟨h 0 _ rfl,h 1 _ rfl,h 2 _ rfl,h 3 _ rfl,h 4 _ rfl,h 5 _ rfl⟩
theorem cZ.UR (x:cZ) {k:Nat} (hk:k<2):x.cells.toArray[k]? =some (.bool (x.has (k+1))):=by
 have:k=0∨k=1:=by omega
 rcases this with rfl|rfl<;>rfl
theorem cZ.Fe (x:cZ) {k:Nat} (hk:k<2):x.cells.toArray[2+k]? =some (.int .i64 (x.ag (k+1))):=by
 have:k=0∨k=1:=by omega
 rcases this with rfl|rfl<;>rfl
theorem cZ.US (x:cZ) {k:Nat} (hk:k<2):x.cells.toArray[4+k]? =some (.int .i64 (x.ah (k+1))):=by
 have:k=0∨k=1:=by omega
 rcases this with rfl|rfl<;>rfl
theorem cZ.ok.ag {x:cZ} (h:x.ok) (k:Int):b8 (x.ag k):=by
 unfold cZ.ag;split
 ·exact h.jO
 ·exact h.p1
theorem UT {L:List cZ} {cU bi:Nat} {sa bZ:Int} {less:Bool} {x y:cZ} (hx:L[cU]? =some x) (hy:L[bi]? =some y):ph L cU sa bi bZ less=
 if x.has sa=true∧y.has bZ=true then(if(if less=true then pW (y.ag bZ) (x.ag sa)else qx (x.ag sa) (y.ag bZ)).2=true then some ⟨(if less=true then pW (y.ag bZ) (x.ag sa)else qx (x.ag sa) (y.ag bZ)).1,min (x.ah sa) (y.ah bZ),cU,sa,bi,bZ⟩else none)else none:=by
 unfold ph;simp only [Int.toNat_natCast,hx,hy]
theorem Ld (w:World) (t1 t2:TypeId) (c1 c2:Array Value):aj ((w.alloc (.cells c1 t1)).alloc (.cells c2 t2)) w.heap.size t1 c1∧aj ((w.alloc (.cells c1 t1)).alloc (.cells c2 t2)) (w.heap.size+1) t2 c2∧Below w.heap.size w ((w.alloc (.cells c1 t1)).alloc (.cells c2 t2)):=by
 have s1:∀(w:World) (o:Obj),(w.alloc o).heap.size=w.heap.size+1:=fun w o=>by simp
 refine⟨(aj.new _ _ _).alloc _,?_,(Below.aA _ _).alloc (by rw [s1];omega) _⟩;have:=aj.new (w.alloc (.cells c1 t1)) t2 c2;rw [s1]at this;exact this
def pX (p:Prod) (L:List cZ) (i:Nat) (side:Int):Nat→List cK
 |0=> []
 |k+1=>pX p L i side k++(ph L (qy p (i:Int) ((i+1+k:Nat):Int)).1 side ((i+1+k:Nat):Int) side false).toList
def sO (p:Prod) (L:List cZ) (i:Nat) (side:Int):Nat→List cK
 |0=> []
 |k+1=>sO p L i side k++(ph L (qy p (k:Int) (i:Int)).1 (3-side) (k:Int) side true).toList
def A3 (p:Prod) (L:List cZ) (inst side:Int):Prop:=countP p=0∨(L.length:Int)≠countP p∨inst<0∨countP p≤inst∨(side≠1∧side≠2)
instance (p:Prod) (L:List cZ) (inst side:Int):Decidable (A3 p L inst side):=by unfold A3;infer_instance
def Ff (q:cK):cK:=⟨q.ag,q.ah,q.i1,q.s1,q.i0,q.s0⟩
def nP (p:Prod) (L:List cZ) (inst side:Int):List cK:=
 if A3 p L inst side then []else
 if(fB p inst).2.2=true then((ph L (fB p inst).2.1 (3-side) (fB p inst).1 side true).map Ff).toList
 else pX p L inst.toNat side (p.months.length-(inst.toNat+1))++sO p L inst.toNat side inst.toNat
theorem OI {α:Type} (o:Option α):o.toList.length≤1:=by cases o<;>simp
theorem OJ (p:Prod) (L:List cZ) (i:Nat) (side:Int) (k:Nat):(pX p L i side k).length≤k:=by
 induction k with
 |zero=>simp [pX]
 |succ k ih=>have:=OI (ph L (qy p (i:Int) ((i+1+k:Nat):Int)).1 side ((i+1+k:Nat):Int) side false);simp only [pX,List.length_append];omega
theorem UU (p:Prod) (L:List cZ) (i:Nat) (side:Int) (k:Nat):(sO p L i side k).length≤k:=by
 induction k with
 |zero=>simp [sO]
 |succ k ih=>have:=OI (ph L (qy p (k:Int) (i:Int)).1 (3-side) (k:Int) side true);simp only [sO,List.length_append];omega
theorem Le {p:Prod} (hz:cz p=0) {i j:Nat} (hij:i<j) (hj:j<p.months.length):∃a:Nat,qy p (i:Int) (j:Int)=((a:Int),true)∧p.months.length≤a∧(a:Int)<countP p:=by
 have hl:=oC hz;have hok:HR p (i:Int) (j:Int):=⟨by omega,by omega,by omega⟩;refine⟨p.months.length+j7 p.months.length i+(j-i-1),?_,by omega,?_⟩
 ·unfold qy
  rw [if_pos ⟨hz,hok⟩,Int.toNat_natCast]
  congr 1
  omega
 ·rw [wE hz]
  have he:=Lf p.months.length hl.2;have hs:=HS p.months.length i;have hm:=Lg p.months.length (show i+1≤p.months.length by omega);omega
theorem acr (s:Int) (w:World) (hs:s=1∨s=2):
 Calls Tryz.prog 111 #[.int .i64 s] w fun e w'=>e= .returned (.int .i64 (3-s))∧w=w':=by
 have h:=acq s w;have e:wrap64 (3-s)=3-s:=by rw [←IntWalk.i64_left];exact IntWalk.i64_in _ (by rcases hs with rfl|rfl<;>omega)
 rw [e]at h;exact h
end Go.Proofs.YtmaijkoopjocdaaGreat
