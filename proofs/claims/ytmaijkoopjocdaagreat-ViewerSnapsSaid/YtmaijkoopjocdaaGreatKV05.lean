import Derived.Test.YtmaijkoopjocdaaGreatKV04
set_option maxRecDepth 100000
set_option maxHeartbeats 64000000
namespace Go.Proofs.YtmaijkoopjocdaaGreat
open Go.RowKit Go.Lib
def pO (p:Prod):Prop:=p.tick<1∨1000<p.tick∨p.low.tmod p.tick≠0∨p.high.tmod p.tick≠0∨p.wide.tmod p.tick≠0
instance (p:Prod):Decidable (pO p):=by unfold pO;infer_instance
theorem ah2 {p:Prod} (h:pO p):nD p=false:=by
 unfold nD jQ;rcases h with h|h|h|h|h
 ·rw [decide_eq_false (show¬1≤p.tick by omega)];rfl
 ·rw [decide_eq_false (show¬p.tick≤1000 by omega),Bool.and_false];rfl
 ·rw [show(p.low.tmod p.tick !=0)=true from bne_iff_ne.2 h];simp
 ·rw [show(p.high.tmod p.tick !=0)=true from bne_iff_ne.2 h];simp
 ·rw [show(p.wide.tmod p.tick !=0)=true from bne_iff_ne.2 h];simp
theorem ah3 {p:Prod} (h:¬pO p):nD p= !p.settle.any (jQ p.tick):=by
 unfold pO at h;unfold nD;rw [decide_eq_true (show 1≤p.tick by omega),decide_eq_true (show p.tick≤1000 by omega)];have e:∀x:Int,x.tmod p.tick=0→jQ p.tick x=false:=fun x hx=>by unfold jQ;rw [hx];rfl
 rw [e p.low (by omega),e p.high (by omega),e p.wide (by omega)];rfl
theorem Kz (p:Prod) (w:World) (hp:gM w p):
 Calls Tryz.prog 95 #[p.agg] w fun e w'=>e= .returned (.int .i64 (cR p))∧Below w.heap.size w w':=by
 have hs0:=St.new hp;unfold Prod.cells at hs0;have eE:=af hs0;unfold Prod.agg Prod.cells;have jF:=hp.tick;have Cf:=hp.low;have mI:=hp.high;have KD:=hp.code;have hml:=hp.Cg;have hsl:=hp.F7;unfold cz at jF Cf mI;have iw:Hid (cR p=if o6 p.code=false then 12 else if lp p.months=false then 1 else if nD p=false then 22 else if ix p then 23 else if o5 p=true then 1 else if lS p then 31 else if g9 p then 24 else 0):=af rfl;clear hp hs0;go_enter Tryz.func95,Tryz.ntmps95
 go_wp2_with fail
 refine(ah4 p.code _ (by unfold maxLen;omega)).mono ?_;rintro e ax ⟨rfl,hb1⟩;have aD:=af (eE.out.next hb1);obtain⟨b0,b1,b2,b3,b4,bk,bw,bn,bC,bD,bu⟩:=aD.out.pc;clear hb1 eE;cases hc:o6 p.code with
 |false=>
  have bg:=af hc;clear hc;go_wp2_with fail
  go_ret;exact⟨by rw [iw.out,bg.out];rfl,aD.out.aJ⟩
 |true=>
  have bg:=af hc;clear hc;by_cases uw:p.months.length<2
  ·have cM:Hid (lp p.months=false):=af (by unfold lp;rw [decide_eq_false (show¬2≤p.months.length by omega)];simp)
   have YU:(p.months.length:Int)<2:=by omega
   go_wp2_with fail
   go_ret;exact⟨by rw [iw.out,bg.out,cM.out];rfl,aD.out.aJ⟩
  ·by_cases amZ:6<p.months.length
   ·have cM:Hid (lp p.months=false):=af (by unfold lp;rw [decide_eq_false (show¬p.months.length≤6 by omega)];simp)
    have YU:¬(p.months.length:Int)<2:=by omega
    have ah5:(6:Int)<(p.months.length:Int):=by omega
    go_wp2_with fail
    go_ret;exact⟨by rw [iw.out,bg.out,cM.out];rfl,aD.out.aJ⟩
   ·have YU:¬(p.months.length:Int)<2:=by omega
    have ah5:¬(6:Int)<(p.months.length:Int):=by omega
    go_wp2_with fail
    clear b0 b1 b2 b3 b4 bk bw bn bC bD bu;go_loopw [3] (fun i w'=>∃k:Nat,i=↑k∧k≤p.months.length∧St w w' p∧Hid (∀j,j<k→wB p.months j=true)) (fun i _=>p.months.length-(RowKit.intOf i).toNat)
    case atStart=>exact⟨0,rfl,Nat.zero_le _,aD.out,af fun j h=>by omega⟩
    case round=>as_aux_lemma=>
     clear aD;obtain⟨k,rfl,hk,hS,e7⟩:=hrel;obtain⟨ax,rfl⟩:=aj wr;have aD:=af hS;have b1:=hS.pc.2.1;clear hS;by_cases eR:k<p.months.length
     ·obtain⟨x,hx⟩:∃x,p.months[k]? =some x:=⟨_,List.getElem?_eq_getElem eR⟩
      obtain⟨hok,b,off,ha,_,c0⟩:=aD.out.pv.IB k x hx;have ya:(k:Int)<(p.months.length:Int):=by omega
      have cM:=af (Yp hx);rw [ha]at b1;have cO:=af ha;clear ha;by_cases h1:x<0
      ·have aG:Hid (lp p.months=false):=af (Hp eR (by rw [cM.out,decide_eq_false (show¬0≤x by omega)];rfl))
       have d1:decide (x<0)=true:=decide_eq_true h1;clear hx hok;go_wp2_with fail
       go_quiet (fail)
       clear d1;go_wp2_with fail
       go_ret;exact⟨by rw [iw.out,bg.out,aG.out];rfl,(aD.out.next (Below.bO ax nq)).aJ⟩
      ·by_cases h2:1199<x
       ·have aG:Hid (lp p.months=false):=af (Hp eR (by rw [cM.out,decide_eq_false (show¬x≤1199 by omega),Bool.and_false];rfl))
        have d1:decide (x<0)=false:=decide_eq_false h1;have d2:decide (1199<x)=true:=decide_eq_true h2;clear hx hok;go_wp2_with fail
        go_quiet (fail)
        clear d1 d2;go_wp2_with fail
        go_ret;exact⟨by rw [iw.out,bg.out,aG.out];rfl,(aD.out.next (Below.bO ax nq)).aJ⟩
       ·by_cases iQ:k=0
        ·have aG:Hid (wB p.months k=true):=af (by rw [cM.out,decide_eq_true (show 0≤x by omega),decide_eq_true (show x≤1199 by omega),iQ];rfl)
         have Rl:=af iQ;have cN:¬(0:Int)<(k:Int):=by omega
         have d1:decide (x<0)=false:=decide_eq_false h1;have d2:decide (1199<x)=false:=decide_eq_false h2;have d3:decide ((0:Int)<(k:Int))=false:=decide_eq_false cN;have d4:decide (0<k)=false:=decide_eq_false (by omega);clear hx hok iQ;go_wp2_with fail
         go_quiet (fail)
         clear d1 d2 d3 d4;go_wp2_with fail
         go_roundw
         case rel=>exact⟨k+1,by go_num,by omega,aD.out.next (Below.bO ax nq),af fun j hj=>by
          obtain rfl:j=k:=by have:=Rl.out;omega
          exact aG.out⟩
         case measure=>simp [RowKit.intOf];omega
        ·obtain⟨k,rfl⟩:∃k',k=k'+1:=⟨k-1,by omega⟩
         obtain⟨y,hy⟩:∃y,p.months[k]? =some y:=⟨_,List.getElem?_eq_getElem (by omega)⟩;obtain⟨Ks,b2,off2,he,_,c1⟩:=aD.out.pv.IB k y hy;obtain⟨rfl,rfl⟩:b=b2∧off=off2:=by rw [cO.out]at he;injection he with he;injection he with h1 h2;exact⟨h1,h2⟩
         have wC:Hid (p.months.getD k 0=y):=af (Bu hy);have cN:(0:Int)<(k:Int)+1:=by omega
         have i1:IntKind.i64.wrap ((k:Int)+1-1)=(k:Int):=by rw [Int.add_sub_cancel];exact IntWalk.i64_in _ (by omega)
         by_cases h3:x≤y
         ·have aG:Hid (lp p.months=false):=af (Hp eR (by rw [cM.out,Nat.add_sub_cancel,wC.out,decide_eq_false (show¬y<x by omega)];simp))
          have d1:decide (x<0)=false:=decide_eq_false h1;have d2:decide (1199<x)=false:=decide_eq_false h2;have d3:decide ((0:Int)<(k:Int)+1)=true:=decide_eq_true cN;have d4:decide (x≤y)=true:=decide_eq_true h3;clear hx hy hok Ks he;go_wp2_with fail
          go_quiet (fail)
          clear d1 d2 d3 d4 i1;go_wp2_with fail
          go_ret;exact⟨by rw [iw.out,bg.out,aG.out];rfl,(aD.out.next (Below.bO ax nq)).aJ⟩
         ·have aG:Hid (wB p.months (k+1)=true):=af (by rw [cM.out,Nat.add_sub_cancel,wC.out,decide_eq_true (show 0≤x by omega),decide_eq_true (show x≤1199 by omega),decide_eq_true (show y<x by omega)];simp)
          have d1:decide (x<0)=false:=decide_eq_false h1;have d2:decide (1199<x)=false:=decide_eq_false h2;have d3:decide ((0:Int)<(k:Int)+1)=true:=decide_eq_true cN;have d4:decide (x≤y)=false:=decide_eq_false h3;clear hx hy hok Ks he;go_wp2_with fail
          go_quiet (fail)
          clear d1 d2 d3 d4 i1;go_wp2_with fail
          go_roundw
          case rel=>exact⟨k+2,by go_num,by omega,aD.out.next (Below.bO ax nq),af fun j hj=>by
           by_cases pX:j<k+1
           ·exact e7.out j pX
           ·obtain rfl:j=k+1:=by omega
            exact aG.out⟩
          case measure=>simp [RowKit.intOf];omega
     ·obtain rfl:k=p.months.length:=by omega
      have cM:Hid (lp p.months=true):=af (by rw [Yo e7.out,decide_eq_true (show 2≤p.months.length by omega),decide_eq_true (show p.months.length≤6 by omega)];rfl);clear e7 b1;obtain⟨b0,b1,b2,b3,b4,bk,bw,bn,bC,bD,bu⟩:=aD.out.pc;go_upto_region 10 with(fail)
      obtain⟨bb,aP⟩:=aj (decide (pO p));have bp:=af aP;clear aP;go_cut [90] (fun v wx=>v=↑bb∧ax=wx)
      case first=>
       by_cases k0:p.tick<1
       ·go_wp2_with fail
        go_meet;exact⟨congrArg Value.bool (by rw [bp.out];exact(decide_eq_true (p:=pO p) (by unfold pO;omega)).symm),rfl⟩
       ·by_cases k1:1000<p.tick
        ·go_wp2_with fail
         go_meet;exact⟨congrArg Value.bool (by rw [bp.out];exact(decide_eq_true (p:=pO p) (by unfold pO;omega)).symm),rfl⟩
        ·have hz:(p.tick==0)=false:=by rw [beq_eq_false_iff_ne];omega
         have eg:(p.tick== -1)=false:=by rw [beq_eq_false_iff_ne];omega
         obtain⟨t1,jm⟩:=ai (p.low.tmod p.tick);obtain⟨t2,nI⟩:=ai (p.high.tmod p.tick);obtain⟨t3,Rm⟩:=ai (p.wide.tmod p.tick);have wE:=af jm;have nc:=af nI;have rL:=af Rm;by_cases k2:t1=0
         ·have e1:(t1 !=0)=false:=by rw [k2];rfl
          by_cases di:t2=0
          ·have e2:(t2 !=0)=false:=by rw [di];rfl
           by_cases jc:t3=0
           ·have bJ:(t3 !=0)=false:=by rw [jc];rfl
            have DW:=af k2;have DX:=af di;have ol:=af jc;clear k2 di jc;go_wp2_with fail
            go_meet;exact⟨congrArg Value.bool (by rw [bp.out];exact(decide_eq_false (p:=pO p) (by unfold pO;have a:=DW.out;have b:=DX.out;have c:=ol.out;have d:=wE.out;have e:=nc.out;have f:=rL.out;omega)).symm),rfl⟩
           ·have bJ:(t3 !=0)=true:=by rw [bne_iff_ne];exact jc
            have K:=af jc;clear jc;go_wp2_with fail
            go_meet;exact⟨congrArg Value.bool (by rw [bp.out];exact(decide_eq_true (p:=pO p) (by unfold pO;have:=K.out;have h:=rL.out;omega)).symm),rfl⟩
          ·have e2:(t2 !=0)=true:=by rw [bne_iff_ne];exact di
           have K:=af di;clear di;go_wp2_with fail
           go_meet;exact⟨congrArg Value.bool (by rw [bp.out];exact(decide_eq_true (p:=pO p) (by unfold pO;have:=K.out;have h:=nc.out;omega)).symm),rfl⟩
         ·have e1:(t1 !=0)=true:=by rw [bne_iff_ne];exact k2
          have K:=af k2;clear k2;go_wp2_with fail
          go_meet;exact⟨congrArg Value.bool (by rw [bp.out];exact(decide_eq_true (p:=pO p) (by unfold pO;have:=K.out;have h:=wE.out;omega)).symm),rfl⟩
      case rest=>as_aux_lemma=>
      obtain⟨rfl,rfl⟩:=hcut;clear b0 b1 b2 b3 b4 bk bw bn bC bD bu;cases bb with
      |true=>
       have bP:=af (ah2 (of_decide_eq_true bp.out.symm));go_wp2_with fail
       go_ret;exact⟨by rw [iw.out,bg.out,cM.out,bP.out];rfl,aD.out.aJ⟩
      |false=>
       have hnt:¬pO p:=of_decide_eq_false bp.out.symm;have YV:=af (ah3 hnt);unfold pO at hnt;have jm:1≤p.tick∧p.tick≤1000:=by omega
       have hz:(p.tick==0)=false:=by rw [beq_eq_false_iff_ne];omega
       have eg:(p.tick== -1)=false:=by rw [beq_eq_false_iff_ne];omega
       clear hnt bp;go_wp2_with fail
       go_loopw [4] (fun i w'=>∃k:Nat,i=↑k∧k≤p.settle.length∧St w w' p∧Hid (∀(j:Nat) (x:Int),j<k→p.settle[j]? =some x→jQ p.tick x=false)) (fun i _=>p.settle.length-(RowKit.intOf i).toNat)
       case atStart=>exact⟨0,rfl,Nat.zero_le _,aD.out,af fun j x h=>by omega⟩
       case round=>as_aux_lemma=>
        clear aD;obtain⟨k,rfl,hk,hS,e7⟩:=hrel;obtain⟨ax,rfl⟩:=aj wr;have aD:=af hS;obtain⟨_,_,b2,_,_,_,_,_,_,_,bu⟩:=hS.pc;clear hS;by_cases eR:k<p.settle.length
        ·obtain⟨x,hx⟩:∃x,p.settle[k]? =some x:=⟨_,List.getElem?_eq_getElem eR⟩
         obtain⟨hok,b,off,ha,_,c0⟩:=aD.out.pv.aW k x hx;have ya:(k:Int)<(p.settle.length:Int):=by omega
         rw [ha]at bu;clear ha;obtain⟨t,ht⟩:=ai (x.tmod p.tick);have e9:Hid (jQ p.tick x=(t !=0)):=af (by unfold jQ;rw [ht]);have bz:=af hx;clear hx hok;by_cases h0:t=0
         ·have e1:(t !=0)=false:=by rw [h0];rfl
          have ah6:=af e1;clear h0;go_wp2_with fail
          go_quiet (fail)
          go_wp2_with fail
          go_roundw
          case rel=>exact⟨k+1,by go_num,by omega,aD.out.next (Below.bO ax nq),af fun j y hj hy=>by
           by_cases pX:j<k
           ·exact e7.out j y pX hy
           ·obtain rfl:j=k:=by omega
            have:=bz.out;rw [hy]at this;injection this with this;rw [this,e9.out,ah6.out]⟩
          case measure=>simp [RowKit.intOf];omega
         ·have e1:(t !=0)=true:=by rw [bne_iff_ne];exact h0
          have bP:Hid (nD p=false):=af (by rw [YV.out,any_some bz.out (by rw [e9.out,e1])];rfl);clear h0;go_wp2_with fail
          go_quiet (fail)
          go_wp2_with fail
          go_ret;exact⟨by rw [iw.out,bg.out,cM.out,bP.out];rfl,(aD.out.next (Below.bO ax nq)).aJ⟩
        ·obtain rfl:k=p.settle.length:=by omega
         have bP:Hid (nD p=true):=af (by rw [YV.out,any_none fun j x hj=>e7.out j x (dM hj) hj];rfl);clear e7 b2;obtain⟨b0,b1,b2,b3,b4,bk,bw,bn,bC,bD,bu⟩:=aD.out.pc;go_upto_region 17 with(fail)
         obtain⟨bb,aP⟩:=aj (decide (ix p));have bp:=af aP;clear aP;go_cut [136] (fun v wx=>v=↑bb∧ax=wx)
         case first=>
          by_cases k0:p.low< -1000000
          ·go_wp2_with fail
           go_meet;exact⟨congrArg Value.bool (by rw [bp.out];exact(decide_eq_true (p:=ix p) (by unfold ix;omega)).symm),rfl⟩
          ·by_cases k1:p.high≤p.low
           ·go_wp2_with fail
            go_meet;exact⟨congrArg Value.bool (by rw [bp.out];exact(decide_eq_true (p:=ix p) (by unfold ix;omega)).symm),rfl⟩
           ·by_cases k2:1000000<p.high
            ·go_wp2_with fail
             go_meet;exact⟨congrArg Value.bool (by rw [bp.out];exact(decide_eq_true (p:=ix p) (by unfold ix;omega)).symm),rfl⟩
            ·by_cases di:p.wide<0
             ·go_wp2_with fail
              go_meet;exact⟨congrArg Value.bool (by rw [bp.out];exact(decide_eq_true (p:=ix p) (by unfold ix;omega)).symm),rfl⟩
             ·by_cases jc:p.high-p.low<p.wide
              ·go_wp2_with fail
               go_meet;exact⟨congrArg Value.bool (by rw [bp.out];exact(decide_eq_true (p:=ix p) (by unfold ix;omega)).symm),rfl⟩
              ·go_wp2_with fail
               go_meet;exact⟨congrArg Value.bool (by rw [bp.out];exact(decide_eq_false (p:=ix p) (by unfold ix;omega)).symm),rfl⟩
         case rest=>as_aux_lemma=>
         obtain⟨rfl,rfl⟩:=hcut;clear b0 b1 b2 b3 b4 bk bw bn bC bD bu;cases bb with
         |true=>
          go_wp2_with fail
          go_ret;exact⟨by rw [iw.out,bg.out,cM.out,bP.out,if_neg (by simp),if_neg (by simp),if_neg (by simp),if_pos (of_decide_eq_true bp.out.symm)];rfl,aD.out.aJ⟩
         |false=>
          have qE:Hid (¬ix p):=af (of_decide_eq_false bp.out.symm);have b1:=aD.out.pc.2.1;have bu:=aD.out.pc.2.2.2.2.2.2.2.2.2.2;clear bp;by_cases jw:p.settle.length=p.months.length
          ·have hne:((p.settle.length:Int) !=(p.months.length:Int))=false:=by rw [jw];simp
           have jR:=af jw;clear jw;go_wp2_with fail
           clear hne b1 bu;go_loopw [5] (fun i w'=>∃k:Nat,i=↑k∧k≤p.settle.length∧St w w' p∧Hid (∀(j:Nat) (x:Int),j<k→p.settle[j]? =some x→decide (x<p.low)=false∧decide (p.high<x)=false)) (fun i _=>p.settle.length-(RowKit.intOf i).toNat)
           case atStart=>exact⟨0,rfl,Nat.zero_le _,aD.out,af fun j x h=>by omega⟩
           case round=>as_aux_lemma=>
            clear aD;obtain⟨k,rfl,hk,hS,e7⟩:=hrel;obtain⟨ax,rfl⟩:=aj wr;have aD:=af hS;obtain⟨_,_,_,b3,b4,_,_,_,_,_,bu⟩:=hS.pc;clear hS;by_cases eR:k<p.settle.length
            ·obtain⟨x,hx⟩:∃x,p.settle[k]? =some x:=⟨_,List.getElem?_eq_getElem eR⟩
             obtain⟨hok,b,off,ha,_,c0⟩:=aD.out.pv.aW k x hx;have ya:(k:Int)<(p.settle.length:Int):=by omega
             rw [ha]at bu;clear ha;have bz:=af hx;clear hx hok;by_cases h1:x<p.low
             ·have aG:Hid (o5 p=true):=af (by unfold o5;rw [any_some (f:=fun x=>decide (x<p.low)) bz.out (decide_eq_true h1)];simp)
              have d1:decide (x<p.low)=true:=decide_eq_true h1;go_wp2_with fail
              go_quiet (fail)
              clear d1;go_wp2_with fail
              go_ret;exact⟨by rw [iw.out,bg.out,cM.out,bP.out,if_neg (by simp),if_neg (by simp),if_neg (by simp),if_neg qE.out,aG.out,if_pos rfl];rfl,(aD.out.next (Below.bO ax nq)).aJ⟩
             ·by_cases h2:p.high<x
              ·have aG:Hid (o5 p=true):=af (by unfold o5;rw [any_some (f:=fun x=>decide (p.high<x)) bz.out (decide_eq_true h2)];simp)
               have d1:decide (x<p.low)=false:=decide_eq_false h1;have d2:decide (p.high<x)=true:=decide_eq_true h2;go_wp2_with fail
               go_quiet (fail)
               clear d1 d2;go_wp2_with fail
               go_ret;exact⟨by rw [iw.out,bg.out,cM.out,bP.out,if_neg (by simp),if_neg (by simp),if_neg (by simp),if_neg qE.out,aG.out,if_pos rfl];rfl,(aD.out.next (Below.bO ax nq)).aJ⟩
              ·have E:Hid (decide (x<p.low)=false∧decide (p.high<x)=false):=af ⟨decide_eq_false h1,decide_eq_false h2⟩
               have d1:decide (x<p.low)=false:=decide_eq_false h1;have d2:decide (p.high<x)=false:=decide_eq_false h2;go_wp2_with fail
               go_quiet (fail)
               clear d1 d2;go_wp2_with fail
               go_roundw
               case rel=>exact⟨k+1,by go_num,by omega,aD.out.next (Below.bO ax nq),af fun j y hj hy=>by
                by_cases pX:j<k
                ·exact e7.out j y pX hy
                ·obtain rfl:j=k:=by omega
                 have:=bz.out;rw [hy]at this;injection this with this;rw [this];exact E.out⟩
               case measure=>simp [RowKit.intOf];omega
            ·obtain rfl:k=p.settle.length:=by omega
             have jv:Hid (o5 p=false):=af (by
              unfold o5;rw [show(p.settle.length !=p.months.length)=false from by rw [jR.out];simp,any_none (f:=fun x=>decide (x<p.low)) fun j x hj=>(e7.out j x (dM hj) hj).1,any_none (f:=fun x=>decide (p.high<x)) fun j x hj=>(e7.out j x (dM hj) hj).2];rfl)
             clear e7 b3 b4 bu;obtain⟨b0,b1,b2,b3,b4,bk,bw,bn,bC,bD,bu⟩:=aD.out.pc;go_upto_region 26 with(fail)
             obtain⟨bb,aP⟩:=aj (decide (lS p));have bp:=af aP;clear aP;go_cut [176] (fun v wx=>v=↑bb∧ax=wx)
             case first=>
              by_cases k0:p.rule<1
              ·go_wp2_with fail
               go_meet;exact⟨congrArg Value.bool (by rw [bp.out];exact(decide_eq_true (p:=lS p) (by unfold lS;omega)).symm),rfl⟩
              ·by_cases k1:3<p.rule
               ·go_wp2_with fail
                go_meet;exact⟨congrArg Value.bool (by rw [bp.out];exact(decide_eq_true (p:=lS p) (by unfold lS;omega)).symm),rfl⟩
               ·go_wp2_with fail
                go_meet;exact⟨congrArg Value.bool (by rw [bp.out];exact(decide_eq_false (p:=lS p) (by unfold lS;omega)).symm),rfl⟩
             case rest=>as_aux_lemma=>
             obtain⟨rfl,rfl⟩:=hcut;clear b0 b1 b2 b3 b4 bk bw bn bC bD bu;cases bb with
             |true=>
              go_wp2_with fail
              go_ret;exact⟨by rw [iw.out,bg.out,cM.out,bP.out,if_neg (by simp),if_neg (by simp),if_neg (by simp),if_neg qE.out,jv.out,if_neg (by simp),if_pos (of_decide_eq_true bp.out.symm)];rfl,aD.out.aJ⟩
             |false=>
              have IC:Hid (¬lS p):=af (of_decide_eq_false bp.out.symm);clear bp;obtain⟨b0,b1,b2,b3,b4,bk,bw,bn,bC,bD,bu⟩:=aD.out.pc;go_upto_region 28 with(fail)
              obtain⟨bb,aP⟩:=aj (decide (g9 p));have bp:=af aP;clear aP;go_cut [204] (fun v wx=>v=↑bb∧ax=wx)
              case first=>
               by_cases k0:p.top<0
               ·go_wp2_with fail
                go_meet;exact⟨congrArg Value.bool (by rw [bp.out];exact(decide_eq_true (p:=g9 p) (by unfold g9;omega)).symm),rfl⟩
               ·by_cases k1:1000000<p.top
                ·go_wp2_with fail
                 go_meet;exact⟨congrArg Value.bool (by rw [bp.out];exact(decide_eq_true (p:=g9 p) (by unfold g9;omega)).symm),rfl⟩
                ·by_cases k2:p.least<1
                 ·go_wp2_with fail
                  go_meet;exact⟨congrArg Value.bool (by rw [bp.out];exact(decide_eq_true (p:=g9 p) (by unfold g9;omega)).symm),rfl⟩
                 ·by_cases di:1000<p.least
                  ·go_wp2_with fail
                   go_meet;exact⟨congrArg Value.bool (by rw [bp.out];exact(decide_eq_true (p:=g9 p) (by unfold g9;omega)).symm),rfl⟩
                  ·by_cases jc:p.part<0
                   ·go_wp2_with fail
                    go_meet;exact⟨congrArg Value.bool (by rw [bp.out];exact(decide_eq_true (p:=g9 p) (by unfold g9;omega)).symm),rfl⟩
                   ·by_cases lq:100<p.part
                    ·go_wp2_with fail
                     go_meet;exact⟨congrArg Value.bool (by rw [bp.out];exact(decide_eq_true (p:=g9 p) (by unfold g9;omega)).symm),rfl⟩
                    ·go_wp2_with fail
                     go_meet;exact⟨congrArg Value.bool (by rw [bp.out];exact(decide_eq_false (p:=g9 p) (by unfold g9;omega)).symm),rfl⟩
              case rest=>as_aux_lemma=>
              obtain⟨rfl,rfl⟩:=hcut;clear b0 b1 b2 b3 b4 bk bw bn bC bD bu;cases bb with
              |true=>
               go_wp2_with fail
               go_ret;exact⟨by rw [iw.out,bg.out,cM.out,bP.out,if_neg (by simp),if_neg (by simp),if_neg (by simp),if_neg qE.out,jv.out,if_neg (by simp),if_neg IC.out,if_pos (of_decide_eq_true bp.out.symm)];rfl,aD.out.aJ⟩
              |false=>
               go_wp2_with fail
               go_ret;exact⟨by rw [iw.out,bg.out,cM.out,bP.out,if_neg (by simp),if_neg (by simp),if_neg (by simp),if_neg qE.out,jv.out,if_neg (by simp),if_neg IC.out,if_neg (of_decide_eq_false bp.out.symm)];rfl,aD.out.aJ⟩
          ·have hne:((p.settle.length:Int) !=(p.months.length:Int))=true:=by rw [bne_iff_ne];omega
           have aG:=af (OV jw);clear jw;go_wp2_with fail
           go_ret;exact⟨by rw [iw.out,bg.out,cM.out,bP.out,if_neg (by simp),if_neg (by simp),if_neg (by simp),if_neg qE.out,aG.out,if_pos rfl];rfl,aD.out.aJ⟩
end Go.Proofs.YtmaijkoopjocdaaGreat
