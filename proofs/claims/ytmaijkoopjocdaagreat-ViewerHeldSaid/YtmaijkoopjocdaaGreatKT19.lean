import Derived.Test.YtmaijkoopjocdaaGreatKT18
import Derived.Test.YtmaijkoopjocdaaGreatKT17
import Derived.Laws.BytesArg
import Derived.Lib.Bytes
set_option maxRecDepth 100000
set_option maxHeartbeats 64000000
namespace Go.Proofs.YtmaijkoopjocdaaGreat
open Go.RowKit
def oJ (p:Prod):Prop:=p.tick<1∨1000<p.tick∨p.low.tmod p.tick≠0∨p.high.tmod p.tick≠0∨p.wide.tmod p.tick≠0
instance (p:Prod):Decidable (oJ p):=by unfold oJ;infer_instance
theorem afo {p:Prod} (h:oJ p):mF p=false:=by
 unfold mF iZ;rcases h with h|h|h|h|h
 ·rw [decide_eq_false (show¬1≤p.tick by omega)];rfl
 ·rw [decide_eq_false (show¬p.tick≤1000 by omega),Bool.and_false];rfl
 ·rw [show(p.low.tmod p.tick !=0)=true from bne_iff_ne.2 h];simp
 ·rw [show(p.high.tmod p.tick !=0)=true from bne_iff_ne.2 h];simp
 ·rw [show(p.wide.tmod p.tick !=0)=true from bne_iff_ne.2 h];simp
theorem afp {p:Prod} (h:¬oJ p):mF p= !p.settle.any (iZ p.tick):=by
 unfold oJ at h;unfold mF;rw [decide_eq_true (show 1≤p.tick by omega),decide_eq_true (show p.tick≤1000 by omega)];have e:∀x:Int,x.tmod p.tick=0→iZ p.tick x=false:=fun x hx=>by unfold iZ;rw [hx];rfl
 rw [e p.low (by omega),e p.high (by omega),e p.wide (by omega)];rfl
theorem IK (p:Prod) (w:World) (hp:fZ w p):
 Calls Tryz.prog 95 #[p.agg] w fun e w'=>e= .returned (.int .i64 (cz p))∧Below w.heap.size w w':=by
 have hs0:=St.new hp;unfold Prod.cells at hs0;have eb:=af hs0;unfold Prod.agg Prod.cells;have iR:=hp.tick;have Am:=hp.low;have lN:=hp.high;have ai8:=hp.code;have hml:=hp.Ao;have hsl:=hp.D9;unfold b8 at iR Am lN;have iQ:Hid (cz p=if n8 p.code=false then 12 else if ku p.months=false then 1 else if mF p=false then 22 else if gQ p then 23 else if n7 p=true then 1 else if kU p then 31 else if gD p then 24 else 0):=af rfl;clear hp hs0;go_enter Tryz.func95,Tryz.ntmps95
 go_wp2_with fail
 refine(afq p.code _ (by unfold maxLen;omega)).mono ?_;rintro e ak ⟨rfl,hb1⟩;have aq:=af (eb.out.next hb1);obtain⟨b0,b1,b2,b3,b4,aW,bp,aX,bq,bt,bh⟩:=aq.out.pc;clear hb1 eb;cases hc:n8 p.code with
 |false=>
  have aU:=af hc;clear hc;go_wp2_with fail
  go_ret;exact⟨by rw [iQ.out,aU.out];rfl,aq.out.aF⟩
 |true=>
  have aU:=af hc;clear hc;by_cases sC:p.months.length<2
  ·have cA:Hid (ku p.months=false):=af (by unfold ku;rw [decide_eq_false (show¬2≤p.months.length by omega)];simp)
   have W5:(p.months.length:Int)<2:=by omega
   go_wp2_with fail
   go_ret;exact⟨by rw [iQ.out,aU.out,cA.out];rfl,aq.out.aF⟩
  ·by_cases ai9:6<p.months.length
   ·have cA:Hid (ku p.months=false):=af (by unfold ku;rw [decide_eq_false (show¬p.months.length≤6 by omega)];simp)
    have W5:¬(p.months.length:Int)<2:=by omega
    have afr:(6:Int)<(p.months.length:Int):=by omega
    go_wp2_with fail
    go_ret;exact⟨by rw [iQ.out,aU.out,cA.out];rfl,aq.out.aF⟩
   ·have W5:¬(p.months.length:Int)<2:=by omega
    have afr:¬(6:Int)<(p.months.length:Int):=by omega
    go_wp2_with fail
    clear b0 b1 b2 b3 b4 aW bp aX bq bt bh;go_loopw [3] (fun i w'=>∃k:Nat,i= .int .i64 k∧k≤p.months.length∧St w w' p∧Hid (∀j,j<k→uB p.months j=true)) (fun i _=>p.months.length-(RowKit.intOf i).toNat)
    case atStart=>exact⟨0,rfl,Nat.zero_le _,aq.out,af fun j h=>by omega⟩
    case round=>as_aux_lemma=>
     clear aq;obtain⟨k,rfl,hk,hS,eY⟩:=hrel;obtain⟨ak,rfl⟩:∃bk:World,bk=wr:=⟨_,rfl⟩;have aq:=af hS;have b1:=hS.pc.2.1;clear hS;by_cases fP:k<p.months.length
     ·obtain⟨x,hx⟩:∃x,p.months[k]? =some x:=⟨_,List.getElem?_eq_getElem fP⟩
      obtain⟨hok,b,off,ha,_,c0⟩:=aq.out.pv.Gr k x hx;have vY:(k:Int)<(p.months.length:Int):=by omega
      have cA:=af (Wx hx);rw [ha]at b1;have cG:=af ha;clear ha;by_cases h1:x<0
      ·have aE:Hid (ku p.months=false):=af (Fy fP (by rw [cA.out,decide_eq_false (show¬0≤x by omega)];rfl))
       have d1:decide (x<0)=true:=decide_eq_true h1;clear hx hok;go_wp2_with fail
       go_quiet (fail)
       clear d1;go_wp2_with fail
       go_ret;exact⟨by rw [iQ.out,aU.out,aE.out];rfl,(aq.out.next (Below.bT ak nq)).aF⟩
      ·by_cases h2:1199<x
       ·have aE:Hid (ku p.months=false):=af (Fy fP (by rw [cA.out,decide_eq_false (show¬x≤1199 by omega),Bool.and_false];rfl))
        have d1:decide (x<0)=false:=decide_eq_false h1;have d2:decide (1199<x)=true:=decide_eq_true h2;clear hx hok;go_wp2_with fail
        go_quiet (fail)
        clear d1 d2;go_wp2_with fail
        go_ret;exact⟨by rw [iQ.out,aU.out,aE.out];rfl,(aq.out.next (Below.bT ak nq)).aF⟩
       ·by_cases jR:k=0
        ·have aE:Hid (uB p.months k=true):=af (by rw [cA.out,decide_eq_true (show 0≤x by omega),decide_eq_true (show x≤1199 by omega),jR];rfl)
         have PY:=af jR;have cJ:¬(0:Int)<(k:Int):=by omega
         have d1:decide (x<0)=false:=decide_eq_false h1;have d2:decide (1199<x)=false:=decide_eq_false h2;have d3:decide ((0:Int)<(k:Int))=false:=decide_eq_false cJ;have d4:decide (0<k)=false:=decide_eq_false (by omega);clear hx hok jR;go_wp2_with fail
         go_quiet (fail)
         clear d1 d2 d3 d4;go_wp2_with fail
         go_roundw
         case rel=>exact⟨k+1,by go_num,by omega,aq.out.next (Below.bT ak nq),af fun j hj=>by
          obtain rfl:j=k:=by have:=PY.out;omega
          exact aE.out⟩
         case measure=>simp [RowKit.intOf];omega
        ·obtain⟨k,rfl⟩:∃k',k=k'+1:=⟨k-1,by omega⟩
         obtain⟨y,hy⟩:∃y,p.months[k]? =some y:=⟨_,List.getElem?_eq_getElem (by omega)⟩;obtain⟨IC,b2,off2,he,_,c1⟩:=aq.out.pv.Gr k y hy;obtain⟨rfl,rfl⟩:b=b2∧off=off2:=by rw [cG.out]at he;injection he with he;injection he with h1 h2;exact⟨h1,h2⟩
         have zE:Hid (p.months.getD k 0=y):=af (zD hy);have cJ:(0:Int)<(k:Int)+1:=by omega
         have i1:IntKind.i64.wrap ((k:Int)+1-1)=(k:Int):=by rw [Int.add_sub_cancel];exact IntWalk.i64_in _ (by omega)
         by_cases h3:x≤y
         ·have aE:Hid (ku p.months=false):=af (Fy fP (by rw [cA.out,Nat.add_sub_cancel,zE.out,decide_eq_false (show¬y<x by omega)];simp))
          have d1:decide (x<0)=false:=decide_eq_false h1;have d2:decide (1199<x)=false:=decide_eq_false h2;have d3:decide ((0:Int)<(k:Int)+1)=true:=decide_eq_true cJ;have d4:decide (x≤y)=true:=decide_eq_true h3;clear hx hy hok IC he;go_wp2_with fail
          go_quiet (fail)
          clear d1 d2 d3 d4 i1;go_wp2_with fail
          go_ret;exact⟨by rw [iQ.out,aU.out,aE.out];rfl,(aq.out.next (Below.bT ak nq)).aF⟩
         ·have aE:Hid (uB p.months (k+1)=true):=af (by rw [cA.out,Nat.add_sub_cancel,zE.out,decide_eq_true (show 0≤x by omega),decide_eq_true (show x≤1199 by omega),decide_eq_true (show y<x by omega)];simp)
          have d1:decide (x<0)=false:=decide_eq_false h1;have d2:decide (1199<x)=false:=decide_eq_false h2;have d3:decide ((0:Int)<(k:Int)+1)=true:=decide_eq_true cJ;have d4:decide (x≤y)=false:=decide_eq_false h3;clear hx hy hok IC he;go_wp2_with fail
          go_quiet (fail)
          clear d1 d2 d3 d4 i1;go_wp2_with fail
          go_roundw
          case rel=>exact⟨k+2,by go_num,by omega,aq.out.next (Below.bT ak nq),af fun j hj=>by
           by_cases oV:j<k+1
           ·exact eY.out j oV
           ·obtain rfl:j=k+1:=by omega
            exact aE.out⟩
          case measure=>simp [RowKit.intOf];omega
     ·obtain rfl:k=p.months.length:=by omega
      have cA:Hid (ku p.months=true):=af (by rw [Ww eY.out,decide_eq_true (show 2≤p.months.length by omega),decide_eq_true (show p.months.length≤6 by omega)];rfl);clear eY b1;obtain⟨b0,b1,b2,b3,b4,aW,bp,aX,bq,bt,bh⟩:=aq.out.pc;go_upto_region 10 with(fail)
      obtain⟨bb,aJ⟩:∃bb,bb=decide (oJ p):=⟨_,rfl⟩;have bu:=af aJ;clear aJ;go_cut [90] (fun v wx=>v= .bool bb∧ak=wx)
      case first=>
       by_cases k0:p.tick<1
       ·go_wp2_with fail
        go_meet;exact⟨congrArg Value.bool (by rw [bu.out];exact(decide_eq_true (p:=oJ p) (by unfold oJ;omega)).symm),rfl⟩
       ·by_cases k1:1000<p.tick
        ·go_wp2_with fail
         go_meet;exact⟨congrArg Value.bool (by rw [bu.out];exact(decide_eq_true (p:=oJ p) (by unfold oJ;omega)).symm),rfl⟩
        ·have hz:(p.tick==0)=false:=by rw [beq_eq_false_iff_ne];omega
         have dG:(p.tick== -1)=false:=by rw [beq_eq_false_iff_ne];omega
         obtain⟨t1,jw⟩:∃t,p.low.tmod p.tick=t:=⟨_,rfl⟩;obtain⟨t2,oW⟩:∃t,p.high.tmod p.tick=t:=⟨_,rfl⟩;obtain⟨t3,PZ⟩:∃t,p.wide.tmod p.tick=t:=⟨_,rfl⟩;have yu:=af jw;have om:=af oW;have qw:=af PZ;by_cases k2:t1=0
         ·have e1:(t1 !=0)=false:=by rw [k2];rfl
          by_cases e7:t2=0
          ·have e2:(t2 !=0)=false:=by rw [e7];rfl
           by_cases gY:t3=0
           ·have bE:(t3 !=0)=false:=by rw [gY];rfl
            have Kj:=af k2;have Kk:=af e7;have uS:=af gY;clear k2 e7 gY;go_wp2_with fail
            go_meet;exact⟨congrArg Value.bool (by rw [bu.out];exact(decide_eq_false (p:=oJ p) (by unfold oJ;have a:=Kj.out;have b:=Kk.out;have c:=uS.out;have d:=yu.out;have e:=om.out;have f:=qw.out;omega)).symm),rfl⟩
           ·have bE:(t3 !=0)=true:=by rw [bne_iff_ne];exact gY
            have K:=af gY;clear gY;go_wp2_with fail
            go_meet;exact⟨congrArg Value.bool (by rw [bu.out];exact(decide_eq_true (p:=oJ p) (by unfold oJ;have:=K.out;have h:=qw.out;omega)).symm),rfl⟩
          ·have e2:(t2 !=0)=true:=by rw [bne_iff_ne];exact e7
           have K:=af e7;clear e7;go_wp2_with fail
           go_meet;exact⟨congrArg Value.bool (by rw [bu.out];exact(decide_eq_true (p:=oJ p) (by unfold oJ;have:=K.out;have h:=om.out;omega)).symm),rfl⟩
         ·have e1:(t1 !=0)=true:=by rw [bne_iff_ne];exact k2
          have K:=af k2;clear k2;go_wp2_with fail
          go_meet;exact⟨congrArg Value.bool (by rw [bu.out];exact(decide_eq_true (p:=oJ p) (by unfold oJ;have:=K.out;have h:=yu.out;omega)).symm),rfl⟩
      case rest=>as_aux_lemma=>
      obtain⟨rfl,rfl⟩:=hcut;clear b0 b1 b2 b3 b4 aW bp aX bq bt bh;cases bb with
      |true=>
       have bK:=af (afo (of_decide_eq_true bu.out.symm));go_wp2_with fail
       go_ret;exact⟨by rw [iQ.out,aU.out,cA.out,bK.out];rfl,aq.out.aF⟩
      |false=>
       have hnt:¬oJ p:=of_decide_eq_false bu.out.symm;have W6:=af (afp hnt);unfold oJ at hnt;have jw:1≤p.tick∧p.tick≤1000:=by omega
       have hz:(p.tick==0)=false:=by rw [beq_eq_false_iff_ne];omega
       have dG:(p.tick== -1)=false:=by rw [beq_eq_false_iff_ne];omega
       clear hnt bu;go_wp2_with fail
       go_loopw [4] (fun i w'=>∃k:Nat,i= .int .i64 k∧k≤p.settle.length∧St w w' p∧Hid (∀(j:Nat) (x:Int),j<k→p.settle[j]? =some x→iZ p.tick x=false)) (fun i _=>p.settle.length-(RowKit.intOf i).toNat)
       case atStart=>exact⟨0,rfl,Nat.zero_le _,aq.out,af fun j x h=>by omega⟩
       case round=>as_aux_lemma=>
        clear aq;obtain⟨k,rfl,hk,hS,eY⟩:=hrel;obtain⟨ak,rfl⟩:∃bk:World,bk=wr:=⟨_,rfl⟩;have aq:=af hS;obtain⟨_,_,b2,_,_,_,_,_,_,_,bh⟩:=hS.pc;clear hS;by_cases fP:k<p.settle.length
        ·obtain⟨x,hx⟩:∃x,p.settle[k]? =some x:=⟨_,List.getElem?_eq_getElem fP⟩
         obtain⟨hok,b,off,ha,_,c0⟩:=aq.out.pv.aQ k x hx;have vY:(k:Int)<(p.settle.length:Int):=by omega
         rw [ha]at bh;clear ha;obtain⟨t,ht⟩:∃t,x.tmod p.tick=t:=⟨_,rfl⟩;have e6:Hid (iZ p.tick x=(t !=0)):=af (by unfold iZ;rw [ht]);have bA:=af hx;clear hx hok;by_cases h0:t=0
         ·have e1:(t !=0)=false:=by rw [h0];rfl
          have afs:=af e1;clear h0;go_wp2_with fail
          go_quiet (fail)
          go_wp2_with fail
          go_roundw
          case rel=>exact⟨k+1,by go_num,by omega,aq.out.next (Below.bT ak nq),af fun j y hj hy=>by
           by_cases oV:j<k
           ·exact eY.out j y oV hy
           ·obtain rfl:j=k:=by omega
            have:=bA.out;rw [hy]at this;injection this with this;rw [this,e6.out,afs.out]⟩
          case measure=>simp [RowKit.intOf];omega
         ·have e1:(t !=0)=true:=by rw [bne_iff_ne];exact h0
          have bK:Hid (mF p=false):=af (by rw [W6.out,any_some bA.out (by rw [e6.out,e1])];rfl);clear h0;go_wp2_with fail
          go_quiet (fail)
          go_wp2_with fail
          go_ret;exact⟨by rw [iQ.out,aU.out,cA.out,bK.out];rfl,(aq.out.next (Below.bT ak nq)).aF⟩
        ·obtain rfl:k=p.settle.length:=by omega
         have bK:Hid (mF p=true):=af (by rw [W6.out,any_none fun j x hj=>eY.out j x (dc hj) hj];rfl);clear eY b2;obtain⟨b0,b1,b2,b3,b4,aW,bp,aX,bq,bt,bh⟩:=aq.out.pc;go_upto_region 17 with(fail)
         obtain⟨bb,aJ⟩:∃bb,bb=decide (gQ p):=⟨_,rfl⟩;have bu:=af aJ;clear aJ;go_cut [136] (fun v wx=>v= .bool bb∧ak=wx)
         case first=>
          by_cases k0:p.low< -1000000
          ·go_wp2_with fail
           go_meet;exact⟨congrArg Value.bool (by rw [bu.out];exact(decide_eq_true (p:=gQ p) (by unfold gQ;omega)).symm),rfl⟩
          ·by_cases k1:p.high≤p.low
           ·go_wp2_with fail
            go_meet;exact⟨congrArg Value.bool (by rw [bu.out];exact(decide_eq_true (p:=gQ p) (by unfold gQ;omega)).symm),rfl⟩
           ·by_cases k2:1000000<p.high
            ·go_wp2_with fail
             go_meet;exact⟨congrArg Value.bool (by rw [bu.out];exact(decide_eq_true (p:=gQ p) (by unfold gQ;omega)).symm),rfl⟩
            ·by_cases e7:p.wide<0
             ·go_wp2_with fail
              go_meet;exact⟨congrArg Value.bool (by rw [bu.out];exact(decide_eq_true (p:=gQ p) (by unfold gQ;omega)).symm),rfl⟩
             ·by_cases gY:p.high-p.low<p.wide
              ·go_wp2_with fail
               go_meet;exact⟨congrArg Value.bool (by rw [bu.out];exact(decide_eq_true (p:=gQ p) (by unfold gQ;omega)).symm),rfl⟩
              ·go_wp2_with fail
               go_meet;exact⟨congrArg Value.bool (by rw [bu.out];exact(decide_eq_false (p:=gQ p) (by unfold gQ;omega)).symm),rfl⟩
         case rest=>as_aux_lemma=>
         obtain⟨rfl,rfl⟩:=hcut;clear b0 b1 b2 b3 b4 aW bp aX bq bt bh;cases bb with
         |true=>
          go_wp2_with fail
          go_ret;exact⟨by rw [iQ.out,aU.out,cA.out,bK.out,if_neg (by simp),if_neg (by simp),if_neg (by simp),if_pos (of_decide_eq_true bu.out.symm)];rfl,aq.out.aF⟩
         |false=>
          have pK:Hid (¬gQ p):=af (of_decide_eq_false bu.out.symm);have b1:=aq.out.pc.2.1;have bh:=aq.out.pc.2.2.2.2.2.2.2.2.2.2;clear bu;by_cases lO:p.settle.length=p.months.length
          ·have hne:((p.settle.length:Int) !=(p.months.length:Int))=false:=by rw [lO];simp
           have jP:=af lO;clear lO;go_wp2_with fail
           clear hne b1 bh;go_loopw [5] (fun i w'=>∃k:Nat,i= .int .i64 k∧k≤p.settle.length∧St w w' p∧Hid (∀(j:Nat) (x:Int),j<k→p.settle[j]? =some x→decide (x<p.low)=false∧decide (p.high<x)=false)) (fun i _=>p.settle.length-(RowKit.intOf i).toNat)
           case atStart=>exact⟨0,rfl,Nat.zero_le _,aq.out,af fun j x h=>by omega⟩
           case round=>as_aux_lemma=>
            clear aq;obtain⟨k,rfl,hk,hS,eY⟩:=hrel;obtain⟨ak,rfl⟩:∃bk:World,bk=wr:=⟨_,rfl⟩;have aq:=af hS;obtain⟨_,_,_,b3,b4,_,_,_,_,_,bh⟩:=hS.pc;clear hS;by_cases fP:k<p.settle.length
            ·obtain⟨x,hx⟩:∃x,p.settle[k]? =some x:=⟨_,List.getElem?_eq_getElem fP⟩
             obtain⟨hok,b,off,ha,_,c0⟩:=aq.out.pv.aQ k x hx;have vY:(k:Int)<(p.settle.length:Int):=by omega
             rw [ha]at bh;clear ha;have bA:=af hx;clear hx hok;by_cases h1:x<p.low
             ·have aE:Hid (n7 p=true):=af (by unfold n7;rw [any_some (f:=fun x=>decide (x<p.low)) bA.out (decide_eq_true h1)];simp)
              have d1:decide (x<p.low)=true:=decide_eq_true h1;go_wp2_with fail
              go_quiet (fail)
              clear d1;go_wp2_with fail
              go_ret;exact⟨by rw [iQ.out,aU.out,cA.out,bK.out,if_neg (by simp),if_neg (by simp),if_neg (by simp),if_neg pK.out,aE.out,if_pos rfl];rfl,(aq.out.next (Below.bT ak nq)).aF⟩
             ·by_cases h2:p.high<x
              ·have aE:Hid (n7 p=true):=af (by unfold n7;rw [any_some (f:=fun x=>decide (p.high<x)) bA.out (decide_eq_true h2)];simp)
               have d1:decide (x<p.low)=false:=decide_eq_false h1;have d2:decide (p.high<x)=true:=decide_eq_true h2;go_wp2_with fail
               go_quiet (fail)
               clear d1 d2;go_wp2_with fail
               go_ret;exact⟨by rw [iQ.out,aU.out,cA.out,bK.out,if_neg (by simp),if_neg (by simp),if_neg (by simp),if_neg pK.out,aE.out,if_pos rfl];rfl,(aq.out.next (Below.bT ak nq)).aF⟩
              ·have E:Hid (decide (x<p.low)=false∧decide (p.high<x)=false):=af ⟨decide_eq_false h1,decide_eq_false h2⟩
               have d1:decide (x<p.low)=false:=decide_eq_false h1;have d2:decide (p.high<x)=false:=decide_eq_false h2;go_wp2_with fail
               go_quiet (fail)
               clear d1 d2;go_wp2_with fail
               go_roundw
               case rel=>exact⟨k+1,by go_num,by omega,aq.out.next (Below.bT ak nq),af fun j y hj hy=>by
                by_cases oV:j<k
                ·exact eY.out j y oV hy
                ·obtain rfl:j=k:=by omega
                 have:=bA.out;rw [hy]at this;injection this with this;rw [this];exact E.out⟩
               case measure=>simp [RowKit.intOf];omega
            ·obtain rfl:k=p.settle.length:=by omega
             have iF:Hid (n7 p=false):=af (by
              unfold n7;rw [show(p.settle.length !=p.months.length)=false from by rw [jP.out];simp,any_none (f:=fun x=>decide (x<p.low)) fun j x hj=>(eY.out j x (dc hj) hj).1,any_none (f:=fun x=>decide (p.high<x)) fun j x hj=>(eY.out j x (dc hj) hj).2];rfl)
             clear eY b3 b4 bh;obtain⟨b0,b1,b2,b3,b4,aW,bp,aX,bq,bt,bh⟩:=aq.out.pc;go_upto_region 26 with(fail)
             obtain⟨bb,aJ⟩:∃bb,bb=decide (kU p):=⟨_,rfl⟩;have bu:=af aJ;clear aJ;go_cut [176] (fun v wx=>v= .bool bb∧ak=wx)
             case first=>
              by_cases k0:p.rule<1
              ·go_wp2_with fail
               go_meet;exact⟨congrArg Value.bool (by rw [bu.out];exact(decide_eq_true (p:=kU p) (by unfold kU;omega)).symm),rfl⟩
              ·by_cases k1:3<p.rule
               ·go_wp2_with fail
                go_meet;exact⟨congrArg Value.bool (by rw [bu.out];exact(decide_eq_true (p:=kU p) (by unfold kU;omega)).symm),rfl⟩
               ·go_wp2_with fail
                go_meet;exact⟨congrArg Value.bool (by rw [bu.out];exact(decide_eq_false (p:=kU p) (by unfold kU;omega)).symm),rfl⟩
             case rest=>as_aux_lemma=>
             obtain⟨rfl,rfl⟩:=hcut;clear b0 b1 b2 b3 b4 aW bp aX bq bt bh;cases bb with
             |true=>
              go_wp2_with fail
              go_ret;exact⟨by rw [iQ.out,aU.out,cA.out,bK.out,if_neg (by simp),if_neg (by simp),if_neg (by simp),if_neg pK.out,iF.out,if_neg (by simp),if_pos (of_decide_eq_true bu.out.symm)];rfl,aq.out.aF⟩
             |false=>
              have Gs:Hid (¬kU p):=af (of_decide_eq_false bu.out.symm);clear bu;obtain⟨b0,b1,b2,b3,b4,aW,bp,aX,bq,bt,bh⟩:=aq.out.pc;go_upto_region 28 with(fail)
              obtain⟨bb,aJ⟩:∃bb,bb=decide (gD p):=⟨_,rfl⟩;have bu:=af aJ;clear aJ;go_cut [204] (fun v wx=>v= .bool bb∧ak=wx)
              case first=>
               by_cases k0:p.top<0
               ·go_wp2_with fail
                go_meet;exact⟨congrArg Value.bool (by rw [bu.out];exact(decide_eq_true (p:=gD p) (by unfold gD;omega)).symm),rfl⟩
               ·by_cases k1:1000000<p.top
                ·go_wp2_with fail
                 go_meet;exact⟨congrArg Value.bool (by rw [bu.out];exact(decide_eq_true (p:=gD p) (by unfold gD;omega)).symm),rfl⟩
                ·by_cases k2:p.least<1
                 ·go_wp2_with fail
                  go_meet;exact⟨congrArg Value.bool (by rw [bu.out];exact(decide_eq_true (p:=gD p) (by unfold gD;omega)).symm),rfl⟩
                 ·by_cases e7:1000<p.least
                  ·go_wp2_with fail
                   go_meet;exact⟨congrArg Value.bool (by rw [bu.out];exact(decide_eq_true (p:=gD p) (by unfold gD;omega)).symm),rfl⟩
                  ·by_cases gY:p.part<0
                   ·go_wp2_with fail
                    go_meet;exact⟨congrArg Value.bool (by rw [bu.out];exact(decide_eq_true (p:=gD p) (by unfold gD;omega)).symm),rfl⟩
                   ·by_cases kX:100<p.part
                    ·go_wp2_with fail
                     go_meet;exact⟨congrArg Value.bool (by rw [bu.out];exact(decide_eq_true (p:=gD p) (by unfold gD;omega)).symm),rfl⟩
                    ·go_wp2_with fail
                     go_meet;exact⟨congrArg Value.bool (by rw [bu.out];exact(decide_eq_false (p:=gD p) (by unfold gD;omega)).symm),rfl⟩
              case rest=>as_aux_lemma=>
              obtain⟨rfl,rfl⟩:=hcut;clear b0 b1 b2 b3 b4 aW bp aX bq bt bh;cases bb with
              |true=>
               go_wp2_with fail
               go_ret;exact⟨by rw [iQ.out,aU.out,cA.out,bK.out,if_neg (by simp),if_neg (by simp),if_neg (by simp),if_neg pK.out,iF.out,if_neg (by simp),if_neg Gs.out,if_pos (of_decide_eq_true bu.out.symm)];rfl,aq.out.aF⟩
              |false=>
               go_wp2_with fail
               go_ret;exact⟨by rw [iQ.out,aU.out,cA.out,bK.out,if_neg (by simp),if_neg (by simp),if_neg (by simp),if_neg pK.out,iF.out,if_neg (by simp),if_neg Gs.out,if_neg (of_decide_eq_false bu.out.symm)];rfl,aq.out.aF⟩
          ·have hne:((p.settle.length:Int) !=(p.months.length:Int))=true:=by rw [bne_iff_ne];omega
           have aE:=af (M2 lO);clear lO;go_wp2_with fail
           go_ret;exact⟨by rw [iQ.out,aU.out,cA.out,bK.out,if_neg (by simp),if_neg (by simp),if_neg (by simp),if_neg pK.out,aE.out,if_pos rfl];rfl,aq.out.aF⟩
theorem IL (p:Prod) (w:World) (hp:fZ w p):
 Calls Tryz.prog 51 #[p.agg] w fun e w'=>e= .returned (.int .i64 (countP p))∧Below w.heap.size w w':=by
 have hs0:=St.new hp;unfold Prod.cells at hs0;have eb:=af hs0;have cN:=IK p _ hs0.pv;unfold Prod.agg Prod.cells at cN⊢;clear hp hs0;by_cases hz:cz p=0
 ·have aU:Hid (countP p=mZ p.months.length):=af (if_pos hz)
  have hlen:=oC hz;have hn:p.months.length=2∨p.months.length=3∨p.months.length=4∨p.months.length=5∨p.months.length=6:=by omega
  have dI:=af hz;clear hz hlen;go_enter Tryz.func51,Tryz.ntmps51
  go_wp2_with fail
  refine cN.mono ?_;rw [dI.out];rintro e w1 ⟨rfl,hb1⟩;have aq:=af (eb.out.next hb1);have b1:=aq.out.pc.2.1;clear cN hb1;rcases hn with hn|hn|hn|hn|hn
  all_goals
   rw [hn]at b1;have HN:=af hn;clear hn;go_wp2_with fail
   go_ret;exact⟨by rw [aU.out,HN.out];rfl,aq.out.aF⟩
 ·have aU:Hid (countP p=0):=af (if_neg hz)
  have hz1:(cz p==0)=false:=by rw [beq_eq_false_iff_ne];exact hz
  have dG:(cz p !=0)=true:=by rw [bne_iff_ne];exact hz
  clear hz;generalize cz p=cp at*;go_enter Tryz.func51,Tryz.ntmps51
  go_wp2_with fail
  refine cN.mono ?_;rintro e w1 ⟨rfl,hb1⟩;have aq:=af (eb.out.next hb1);clear cN hb1;go_wp2_with fail
  go_ret;exact⟨by rw [aU.out];rfl,aq.out.aF⟩
end Go.Proofs.YtmaijkoopjocdaaGreat
namespace Go.Proofs.YtmaijkoopjocdaaGreat
open Go.RowKit Go.Lib
structure ajs (W w wr:World) (pr g2 gj n:Nat) (s0:cg) (k:Nat) (v:Value) (acc:List ax) (t:cg):Prop where
 rd:jg W wr pr t
 cY:aj wr gj 49 #[v,.int .i64 0,.int .i64 0,.int .i64 0,.bool false]
 br:aj wr g2 49 #[.slice none 0 0,.int .i64 0,.int .i64 0,.int .i64 0,.bool false]
 row:bL.Row wr w.heap.size v acc
 kK:aD (fun g=>g=pr) w wr
 e1:acc++(Bw (n-k) t).1=(Bw n s0).1
 e2:(Bw (n-k) t).2=(Bw n s0).2
 len:acc.length=k
def yj (w:World) (g:Nat) (v0 v1 v2 v3 v4:Value):World:=((((w.setCell ⟨g,0,none⟩ v0).setCell ⟨g,1,none⟩ v1).setCell ⟨g,2,none⟩ v2).setCell ⟨g,3,none⟩ v3).setCell ⟨g,4,none⟩ v4
def Da (w:World) (g:Nat) (v0 v1 v2 v3 v4:Value):World:=((((w.setCell ⟨g,5,none⟩ v0).setCell ⟨g,6,none⟩ v1).setCell ⟨g,7,none⟩ v2).setCell ⟨g,8,none⟩ v3).setCell ⟨g,9,none⟩ v4
theorem aD.yj (w:World) (g:Nat) (v0 v1 v2 v3 v4:Value):aD (fun k=>k=g) w (yj w g v0 v1 v2 v3 v4):=
 ((((bS w g 0 v0).trans (bS _ g 1 v1)).trans (bS _ g 2 v2)).trans (bS _ g 3 v3)).trans (bS _ g 4 v4)
theorem aD.Da (w:World) (g:Nat) (v0 v1 v2 v3 v4:Value):aD (fun k=>k=g) w (Da w g v0 v1 v2 v3 v4):=
 ((((bS w g 5 v0).trans (bS _ g 6 v1)).trans (bS _ g 7 v2)).trans (bS _ g 8 v3)).trans (bS _ g 9 v4)
theorem aj.yj {w:World} {g:Nat} {t:TypeId} {x0 x1 bl dK ew gV lG lH qZ Fg:Value} (h:aj w g t #[x0,x1,bl,dK,ew,gV,lG,lH,qZ,Fg]) (v0 v1 v2 v3 v4:Value):aj (Go.Proofs.YtmaijkoopjocdaaGreat.yj w g v0 v1 v2 v3 v4) g t #[v0,v1,v2,v3,v4,gV,lG,lH,qZ,Fg]:=by
 have h1:=((((h.aQ 0 v0).aQ 1 v1).aQ 2 v2).aQ 3 v3).aQ 4 v4;simp only [List.setIfInBounds_toArray,List.set_cons_zero,List.set_cons_succ]at h1;exact h1
theorem aj.Da {w:World} {g:Nat} {t:TypeId} {x0 x1 bl dK ew gV lG lH qZ Fg:Value} (h:aj w g t #[x0,x1,bl,dK,ew,gV,lG,lH,qZ,Fg]) (v0 v1 v2 v3 v4:Value):aj (Go.Proofs.YtmaijkoopjocdaaGreat.Da w g v0 v1 v2 v3 v4) g t #[x0,x1,bl,dK,ew,v0,v1,v2,v3,v4]:=by
 have h1:=((((h.aQ 5 v0).aQ 6 v1).aQ 7 v2).aQ 8 v3).aQ 9 v4;simp only [List.setIfInBounds_toArray,List.set_cons_zero,List.set_cons_succ]at h1;exact h1
structure ajt (W w:World) (pr c8 n:Nat) (s0:cg) (k:Nat) (v:Value) (f:Bool) (acc:bP) (t:cg):Prop where
 rd:jg W w pr t
 cY:aj w c8 43 #[v]
 fG:cl ei bL w W.heap.size v acc
 e1:acc++(z7 (n-k) t).1=(z7 n s0).1
 e2:(f&&(z7 (n-k) t).2.1)=(z7 n s0).2.1
 bE:(z7 (n-k) t).2.2=(z7 n s0).2.2
 len:acc.length=k
 le:g7 acc 255
theorem cl.Ls {F:Nat→Prop} {Z:aY bz} {Y:aY ax} {w w':World} {B:Nat} {v:Value} {V:bP} (h:cl Z Y w B v V) (hk:aD F w w') (hz:∀g,v.ownBlock=some g→¬F g) (hy:∀g,bV w g Y.t→¬F g):cl Z Y w' B v V:=by
 obtain⟨P,h1,h2,h3⟩:=h;exact⟨P,h1.zk hk hz,h2,fun j p x hp hx=>⟨(h3 j p x hp hx).1.keep hk hy,(h3 j p x hp hx).2.keep hk hy⟩⟩
structure Js (W w:World) (pr c8 kP:Nat) (v:Value) (acc:bP) (x y:eI) (t:cg):Prop where
 rd:jg W w pr t
 cY:aj w c8 43 #[v]
 fG:cl ei bL w W.heap.size v acc
 j8:∀g,v.ownBlock=some g→g≠kP
 bo:aj w kP 50 #[.slice x.a x.n x.c,.int .i64 x.im.ag,.int .i64 x.im.ah,.int .i64 x.im.count,.bool x.has,.slice y.a y.n y.c,.int .i64 y.im.ag,.int .i64 y.im.ah,.int .i64 y.im.count,.bool y.has]
section
variable {W w w':World} {pr c8 kP:Nat} {v:Value} {acc:bP} {x y:eI} {t t':cg}
theorem Js.left (h:Js W w pr c8 kP v acc x y t) (yt:c8≠kP) (np:pr≠kP) (hb:W.heap.size≤kP) (s:eI):Js W (yj w kP (.slice s.a s.n s.c) (.int .i64 s.im.ag) (.int .i64 s.im.ah) (.int .i64 s.im.count) (.bool s.has)) pr c8 kP v acc s y t:=by
 have hk:=aD.yj w kP (.slice s.a s.n s.c) (.int .i64 s.im.ag) (.int .i64 s.im.ah) (.int .i64 s.im.count) (.bool s.has);exact⟨h.rd.keep hk np (fun b hb e=>hb.ne h.bo.aC (by decide) e) (fun k hk=>by have hk2:k=kP:=hk;rw [hk2];exact hb),h.cY.keeps hk yt,h.fG.Ls hk (fun g hg e=>h.j8 g hg e) (fun g hg e=>hg.ne h.bo.aC (by decide) e),h.j8,h.bo.yj _ _ _ _ _⟩
theorem cl.snoc {B:Nat} {v':Value} {P:List bz} {p:bz} {d:aV×aV} (hr:ei.Row w B v' (P++ [p])) (hl:P.length=acc.length) (ho:∀(j:Nat) (p:bz) (x:aV×aV),P[j]? =some p→acc[j]? =some x→bN bL w B p.s x.1∧bN bL w B p.t x.2) (h1:bN bL w B p.s d.1) (h2:bN bL w B p.t d.2):cl ei bL w B v' (acc++ [d]):=by
 refine⟨_,hr,by rw [List.length_append,List.length_append,hl];rfl,fun j q z hq hz=>?_⟩;by_cases hj:j<P.length
 ·rw [List.getElem?_append_left hj]at hq
  rw [List.getElem?_append_left (by omega)]at hz;exact ho j q z hq hz
 ·rw [List.getElem?_append_right (by omega)]at hq
  rw [List.getElem?_append_right (by omega)]at hz;have hj0:j-P.length=0:=by have:=dc hq;simp at this;omega
  rw [hj0]at hq;rw [←hl,hj0]at hz;injection hq with hq;injection hz with hz;subst hq;subst hz;exact⟨h1,h2⟩
theorem Js.grow {wb au:World} {P:List bz} {v':Value} {d1 d2:aV} (h:Js W w pr c8 kP v acc x y t) (hb:Below w.heap.size w wb) (hP:ei.Row wb W.heap.size v P) (hl:P.length=acc.length) (hs:∀(j:Nat) (p:bz) (x:aV×aV),P[j]? =some p→acc[j]? =some x→bN bL wb W.heap.size p.s x.1∧bN bL wb W.heap.size p.t x.2)
 (h1:bN bL w W.heap.size x d1) (h2:bN bL w W.heap.size y d2) (hr:ei.Row au W.heap.size v' (P++ [⟨x,y⟩])) (hg:wb.grownBy au v.ownBlock) (gJ:W.heap.size≤c8) (yt:pr≠c8):
 jg W (au.setCell ⟨c8,0,none⟩ v') pr t∧aj (au.setCell ⟨c8,0,none⟩ v') c8 43 #[v']∧cl ei bL (au.setCell ⟨c8,0,none⟩ v') W.heap.size v' (acc++ [(d1,d2)])∧au.cell? ⟨c8,0,none⟩=some v∧au.frozen? ⟨c8,0,none⟩=false:=by
 have hk:=fe hg;have bI:∀g,v.ownBlock=some g→bV wb g ei.t:=fun g hg=>dR hP g hg;have dO:∀g,v.ownBlock=some g→W.heap.size≤g:=cx hP;have r1:=h.rd.below hb;have b1:=h.cY.below hb;have gu:=r1.keep hk (fun e=>(bI _ e).ne r1.aC (by decide) rfl) (fun b hb e=>(bI _ e).ne hb (by decide) rfl) dO;have aW:=b1.keeps hk (fun e=>(bI _ e).ne b1.aC (by decide) rfl);have fT:∀{s:eI} {d:aV},bN bL wb W.heap.size s d→bN bL au W.heap.size s d:=fun hh=>hh.keep hk (fun g hg e=>(bI _ e).ne hg (by decide) rfl);have CX:cl ei bL au W.heap.size v' (acc++ [(d1,d2)]):=cl.snoc hr hl (fun j p x hp hx=>⟨fT (hs j p x hp hx).1,fT (hs j p x hp hx).2⟩) (fT (h1.below hb)) (fT (h2.below hb));have fS:=bS au c8 0 v';have bF:=aW.aQ 0 v';simp only [List.setIfInBounds_toArray,List.set_cons_zero]at bF;exact⟨gu.keep fS yt (fun b hb e=>hb.ne aW.aC (by decide) e) (fun k hk=>by have hk2:k=c8:=hk;rw [hk2];exact gJ),bF,CX.keep fS (fun g hg e=>hg.ne aW.aC (by decide) e) (fun g hg e=>hg.ne aW.aC (by decide) e),aW.cell 0,aW.frozen 0⟩
end
end Go.Proofs.YtmaijkoopjocdaaGreat
