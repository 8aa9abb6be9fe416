import Derived.Test.YtmaijkoopjocdaaGreatKT29
set_option maxRecDepth 100000
set_option maxHeartbeats 64000000
namespace Go.Proofs.YtmaijkoopjocdaaGreat
open Go.RowKit
theorem Qh (p:Prod) (inst:Int) (ta:Option Addr) (c:Nat) (L:List cZ) (B:Nat) (v:Value) (O:List cK) (w:World) (hT:pV.fF w ta L) (hv:jE.Row w B v O) (hB:B≤w.heap.size) (ho:O.length≤1000)
 (cU bi:Nat) (sa bZ how:Int) (ha:cU<L.length) (hb:bi<L.length) (hsa:sa=1∨sa=2) (hsb:bZ=1∨bZ=2) (hok:∀x∈L,x.ok) (hh:how=1∨how=0∨how= -1):
 Calls Tryz.prog 131 #[p.agg,.slice ta L.length c,.int .i64 inst,v,.agg #[.int .i64 cU,.int .i64 sa],.agg #[.int .i64 bi,.int .i64 bZ],.int .i64 how] w fun e w'=>∃v',e= .returned v'∧jE.Row w' B v' (O++(sZ L cU sa bi bZ how).toList)∧Below w.heap.size w w':=by
 obtain⟨ka,hka,rfl⟩:∃ka:Nat,ka<2∧sa=(ka:Int)+1:=by
  rcases hsa with rfl|rfl
  ·exact⟨0,by omega,rfl⟩
  ·exact⟨1,by omega,rfl⟩
 obtain⟨kb,hkb,rfl⟩:∃kb:Nat,kb<2∧bZ=(kb:Int)+1:=by
  rcases hsb with rfl|rfl
  ·exact⟨0,by omega,rfl⟩
  ·exact⟨1,by omega,rfl⟩
 have hx:=List.getElem?_eq_getElem ha;have hy:=List.getElem?_eq_getElem hb;exact afh p inst ta c L B v O w hT hv hB ho cU bi ka kb how _ _ hx hy hka hkb (hok _ (List.mem_of_getElem? hx)) (hok _ (List.mem_of_getElem? hy)) hh
structure q6 (w w1:World) (p:Prod) (ta:Option Addr) (L:List cZ) (O:List cK) (v:Value):Prop where
 aF:Below w.heap.size w w1
 box:aj w1 w.heap.size 25 p.cells
 Dq:fZ w p
 row:jE.Row w1 w.heap.size v O
 A9:pV.fF w ta L
section
variable {w w1 w2:World} {p:Prod} {ta:Option Addr} {L:List cZ} {O O':List cK} {v v':Value}
theorem q6.pv (h:q6 w w1 p ta L O v):fZ w1 p:=h.Dq.below h.aF
theorem q6.pc (h:q6 w w1 p ta L O v):PC w1 w.heap.size p:=PC.nV h.box
theorem q6.rd (h:q6 w w1 p ta L O v):pV.fF w1 ta L:=h.A9.below h.aF
theorem q6.next (h:q6 w w1 p ta L O v) (hb:Below w1.heap.size w1 w2):q6 w w2 p ta L O v:=⟨h.aF.trans (hb.mono h.aF.size),h.box.below hb,h.Dq,h.row.below hb,h.A9⟩
theorem q6.made (h:q6 w w1 p ta L O v) (hr:jE.Row w2 w.heap.size v' O') (hb:Below w1.heap.size w1 w2):q6 w w2 p ta L O' v':=⟨h.aF.trans (hb.mono h.aF.size),h.box.below hb,h.Dq,hr,h.A9⟩
end
theorem WS (p:Prod) (inst side:Int) (ta:Option Addr) (c:Nat) (L:List cZ) (w:World) (hp:fZ w p) (hT:pV.fF w ta L) (hok:∀x∈L,x.ok) (hL:L.length≤1000000):
 Calls Tryz.prog 102 #[p.agg,.slice ta L.length c,.int .i64 inst,.int .i64 side] w fun e w'=>∃v,e= .returned v∧jE.Row w' w.heap.size v (nP p L inst side)∧Below w.heap.size w w':=by
 have s1:∀(w:World) (o:Obj),(w.alloc o).heap.size=w.heap.size+1:=fun w o=>by simp
 have hs0:q6 w (w.alloc (.cells #[.string p.code,.slice p.ma p.months.length p.mc,.int .i64 p.tick,.int .i64 p.low,.int .i64 p.high,.int .i64 p.wide,.int .i64 p.rule,.int .i64 p.top,.int .i64 p.least,.int .i64 p.part,.slice p.sa p.settle.length p.sc] 25)) p ta L [] (.slice none 0 0):=⟨Below.aA _ _,aj.new _ _ _,hp,aY.Row.nil _ _,hT⟩;have eb:=af hs0;have cN:=IK p _ hs0.pv;have gG:=af fun ak (h:fZ ak p)=>IL p ak h;unfold Prod.agg Prod.cells at cN gG⊢;have dX:=af hok;have hcb:=zL p;clear hp hT hok hs0;obtain⟨b0,b1,b2,b3,b4,aW,bp,aX,bq,bt,bh⟩:=eb.out.pc;by_cases hz:cz p=0
 case neg=>
  have dm:Hid (nP p L inst side= []):=af (if_pos (.inl (IM hz)));have hz1:(cz p !=0)=true:=by rw [bne_iff_ne];exact hz
  generalize cz p=cp at*;clear hz;go_enter Tryz.func102,Tryz.ntmps102
  go_wp2_with fail
  refine cN.mono ?_;rintro e w1 ⟨rfl,hb1⟩;have aq:=af (eb.out.next hb1);clear cN hb1 eb b0 b1 b2 b3 b4 aW bp aX bq bt bh;go_wp2_with fail
  go_ret;exact⟨_,rfl,by rw [dm.out];exact aY.Row.nil _ _,aq.out.aF⟩
 case pos=>
 rw [hz]at cN;by_cases hbad:A3 p L inst side
 ·have dm:Hid (nP p L inst side= []):=af (if_pos hbad)
  have hpos:=WT hz;unfold A3 at hbad;have hcs:¬(L.length:Int)=countP p∨((L.length:Int)=countP p∧inst<0)∨((L.length:Int)=countP p∧¬inst<0∧countP p≤inst)∨((L.length:Int)=countP p∧¬inst<0∧¬countP p≤inst∧¬side=1∧¬side=2):=by omega
  clear hbad hz hpos;generalize L.length=ln at*;obtain⟨n,hn⟩:∃n:Int,countP p=n:=⟨_,rfl⟩;rw [hn]at gG hcs hcb;clear hn;rcases hcs with h|⟨rfl,h⟩|⟨rfl,h1,h⟩|⟨rfl,h1,h2,h3,h4⟩
  ·have e2:((ln:Int) !=n)=true:=by rw [bne_iff_ne];exact h
   clear h;go_enter Tryz.func102,Tryz.ntmps102
   go_wp2_with fail
   refine cN.mono ?_;rintro e w1 ⟨rfl,hb1⟩;have aq:=af (eb.out.next hb1);clear cN hb1 eb;obtain⟨b0,b1,b2,b3,b4,aW,bp,aX,bq,bt,bh⟩:=aq.out.pc;go_wp2_with fail
   refine(gG.out _ aq.out.pv).mono ?_;rintro e w2 ⟨rfl,hb2⟩;have cy:=af (aq.out.next hb2);clear hb2 aq b0 b1 b2 b3 b4 aW bp aX bq bt bh;go_wp2_with fail
   go_ret;exact⟨_,rfl,by rw [dm.out];exact aY.Row.nil _ _,cy.out.aF⟩
  ·go_enter Tryz.func102,Tryz.ntmps102
   go_wp2_with fail
   refine cN.mono ?_;rintro e w1 ⟨rfl,hb1⟩;have aq:=af (eb.out.next hb1);clear cN hb1 eb;obtain⟨b0,b1,b2,b3,b4,aW,bp,aX,bq,bt,bh⟩:=aq.out.pc;go_wp2_with fail
   refine(gG.out _ aq.out.pv).mono ?_;rintro e w2 ⟨rfl,hb2⟩;have cy:=af (aq.out.next hb2);clear hb2 aq b0 b1 b2 b3 b4 aW bp aX bq bt bh;go_wp2_with fail
   go_ret;exact⟨_,rfl,by rw [dm.out];exact aY.Row.nil _ _,cy.out.aF⟩
  ·go_enter Tryz.func102,Tryz.ntmps102
   go_wp2_with fail
   refine cN.mono ?_;rintro e w1 ⟨rfl,hb1⟩;have aq:=af (eb.out.next hb1);clear cN hb1 eb;obtain⟨b0,b1,b2,b3,b4,aW,bp,aX,bq,bt,bh⟩:=aq.out.pc;go_wp2_with fail
   refine(gG.out _ aq.out.pv).mono ?_;rintro e w2 ⟨rfl,hb2⟩;have cy:=af (aq.out.next hb2);clear hb2 aq b0 b1 b2 b3 b4 aW bp aX bq bt bh;go_wp2_with fail
   go_ret;exact⟨_,rfl,by rw [dm.out];exact aY.Row.nil _ _,cy.out.aF⟩
  ·have bE:(side==1)=false:=by rw [beq_eq_false_iff_ne];exact h3
   have cw:(side==2)=false:=by rw [beq_eq_false_iff_ne];exact h4
   have sH:(side !=1)=true:=by rw [bne_iff_ne];exact h3
   have qU:(side !=2)=true:=by rw [bne_iff_ne];exact h4
   clear h3 h4;go_enter Tryz.func102,Tryz.ntmps102
   go_wp2_with fail
   refine cN.mono ?_;rintro e w1 ⟨rfl,hb1⟩;have aq:=af (eb.out.next hb1);clear cN hb1 eb;obtain⟨b0,b1,b2,b3,b4,aW,bp,aX,bq,bt,bh⟩:=aq.out.pc;go_wp2_with fail
   refine(gG.out _ aq.out.pv).mono ?_;rintro e w2 ⟨rfl,hb2⟩;have cy:=af (aq.out.next hb2);clear hb2 aq b0 b1 b2 b3 b4 aW bp aX bq bt bh;go_wp2_with fail
   go_ret;exact⟨_,rfl,by rw [dm.out];exact aY.Row.nil _ _,cy.out.aF⟩
 ·have WU:=af (show nP p L inst side=_ from if_neg hbad)
  unfold A3 at hbad;have hlc:(L.length:Int)=countP p:=by omega
  have ya:¬inst<0:=by omega
  have hi1:¬countP p≤inst:=by omega
  have gf:side=1∨side=2:=by omega
  obtain⟨i,rfl⟩:∃i:Nat,inst=(i:Int):=⟨inst.toNat,by omega⟩;have dm:=af WU.out;have q7:=af hlc;have hi2:¬(L.length:Int)≤(i:Int):=by omega
  have wT:=af hi2;have Qi:=af fun ak (h:fZ ak p)=>FE p i ak h;have L3:=af fun(a b:Int) ak (h:fZ ak p)=>afi p a b ak h;have jP:=af (oC hz);have dI:=af hz;have qO:=af gf;have WV:=af fun w=>acr side w gf;have WW:3-side=1∨3-side=2:=by omega
  have WX:=af WW;unfold Prod.agg Prod.cells at Qi L3;rw [←hlc]at gG;clear hbad hlc hi1 hz hcb gf WW WU;clear b0 b1 b2 b3 b4 aW bp aX bq bt bh;go_enter Tryz.func102,Tryz.ntmps102
  go_upto_region 1 with(fail)
  go_cut [46] (fun u wx=>u= .bool false∧q6 w wx p ta L [] (.slice none 0 0))
  case first=>
   have hlt:decide ((i:Int)<0)=false:=decide_eq_false (by omega);have hle:decide (L.length≤i)=false:=decide_eq_false (by omega);have kV:=af hlt;have sR:=af hle;clear hlt hle;rcases qO.out with rfl|rfl
   all_goals
    obtain⟨b0,b1,b2,b3,b4,aW,bp,aX,bq,bt,bh⟩:=eb.out.pc;go_wp2_with fail
    refine cN.mono ?_;rintro e w1 ⟨rfl,hb1⟩;have c5:=af (eb.out.next hb1);clear hb1 b0 b1 b2 b3 b4 aW bp aX bq bt bh;obtain⟨b0,b1,b2,b3,b4,aW,bp,aX,bq,bt,bh⟩:=c5.out.pc;go_wp2_with fail
    refine(gG.out _ c5.out.pv).mono ?_;rintro e w2 ⟨rfl,hb2⟩;have cy:=af (c5.out.next hb2);clear hb2 b0 b1 b2 b3 b4 aW bp aX bq bt bh;go_wp2_with fail
    go_meet;exact⟨by first|rfl|(rw [kV.out,sR.out];rfl),cy.out⟩
  case rest=>
  obtain⟨rfl,hS⟩:=hcut;have cy:=af hS;clear hS cN eb gG hi2;obtain⟨b0,b1,b2,b3,b4,aW,bp,aX,bq,bt,bh⟩:=cy.out.pc;go_wp2_with fail
  refine(Qi.out _ cy.out.pv).mono ?_;rintro e w3 ⟨rfl,hb⟩;have iu:=af (cy.out.next hb);clear hb b0 b1 b2 b3 b4 aW bp aX bq bt bh cy Qi;cases hsp:(fB p i).2.2 with
  |false=>
   have cA:=af (show i<p.months.length by
    obtain⟨i',h1,h2⟩:=WY (p:=p) (inst:=i) (by omega) (by have:=q7.out;have:=wT.out;omega) hsp;unfold fB at h1;rw [if_neg (by have:=q7.out;have:=wT.out;omega)]at h1;by_cases h3:(i:Int)<p.months.length
    ·omega
    ·rw [if_neg h3]at h1;injection h1 with _ h1;injection h1 with _ h1;cases h1)
   have Bh:Hid (nP p L i side=pX p L i side (p.months.length-(i+1))++sO p L i side i):=af (by rw [dm.out,if_neg (by rw [hsp];simp),Int.toNat_natCast]);have eK:=cA.out;have hmx:p.months.length≤6:=jP.out.2;clear dm hsp ya;go_wp2_with fail
   go_loopw [12,13] (fun o j w'=>∃(k:Nat) (v:Value),o=v∧j= .int .i64 ((i:Int)+1+(k:Int))∧i+1+k≤p.months.length∧q6 w w' p ta L (pX p L i side k) v) (fun _ j _=>p.months.length-(RowKit.intOf j).toNat)
   case atStart=>exact⟨0,_,rfl,congrArg (Value.int .i64) (by omega),by omega,iu.out⟩
   case round=>
    clear iu;obtain⟨k,v,ho,rfl,hk,hA⟩:=hrel;replace ho:=ho.symm;subst ho;obtain⟨ak,rfl⟩:∃bk:World,bk=wr:=⟨_,rfl⟩;have cG:=af hA;clear hA;have y1:IntKind.i64.wrap ((i:Int)+1+(k:Int)+1)=(i:Int)+1+(k:Int)+1:=IntWalk.i64_in _ (by omega);by_cases hkn:i+1+k<p.months.length
    ·have Fi:(i:Int)+1+(k:Int)<(p.months.length:Int):=by omega
     obtain⟨a,hsp,wO,LG⟩:=Le dI.out (show i<i+1+k by omega) hkn;have hs:=L3.out (i:Int) ((i:Int)+1+(k:Int)) _ cG.out.pv;have hnn:((i+1+k:Nat):Int)=(i:Int)+1+(k:Int):=by omega
     rw [hnn]at hsp;rw [hsp]at hs;have hal:a<L.length:=by have:=q7.out;omega
     have er:i+1+k<L.length:=by have:=q7.out;omega
     have hlen:=OJ p L i side k
     have tr:Hid (pX p L i side (k+1)=pX p L i side k++(sZ L (a:Int) side ((i:Int)+1+(k:Int)) side 1).toList):=af (by
      show pX p L i side k++(ph L (qy p (i:Int) ((i+1+k:Nat):Int)).1 side ((i+1+k:Nat):Int) side false).toList=_;rw [hnn,hsp];rfl)
     clear hsp wO LG;obtain⟨b0,b1,b2,b3,b4,aW,bp,aX,bq,bt,bh⟩:=cG.out.pc;go_wp2_with fail
     refine hs.mono ?_;rintro e av ⟨rfl,hb⟩;have nC:=af (cG.out.next hb);have hjn:=Qh p i ta c L w.heap.size v _ av nC.out.rd nC.out.row nC.out.aF.size (by omega:(pX p L i side k).length≤1000) a (i+1+k) side side 1 hal er qO.out qO.out dX.out (.inl rfl);rw [hnn]at hjn;unfold Prod.agg Prod.cells at hjn;have Bi:=af hjn;clear hb hs hjn hnn cG b0 b1 b2 b3 b4 aW bp aX bq bt bh;obtain⟨b0,b1,b2,b3,b4,aW,bp,aX,bq,bt,bh⟩:=nC.out.pc;go_wp2_with fail
     refine Bi.out.mono ?_;rintro e au ⟨v',rfl,hr,hb⟩;rw [←tr.out]at hr;have Bj:=af (nC.out.made hr hb);clear hr hb Bi nC b0 b1 b2 b3 b4 aW bp aX bq bt bh;go_wp2_with fail
     go_roundw
     case rel=>exact⟨k+1,v',rfl,congrArg (Value.int .i64) (by omega),by omega,Bj.out⟩
     case measure=>simp [RowKit.intOf];omega
    ·have Fi:¬(i:Int)+1+(k:Int)<(p.months.length:Int):=by omega
     obtain rfl:k=p.months.length-(i+1):=by omega
     have uP:Hid (p.months.length-(i+1)≤6):=af (by omega);have ai6:i≤6:=by omega
     generalize p.months.length-(i+1)=k at*;obtain⟨b0,b1,b2,b3,b4,aW,bp,aX,bq,bt,bh⟩:=cG.out.pc;go_wp2_with fail
     clear b0 b1 b2 b3 b4 aW bp aX bq bt bh;go_loopw [12,16] (fun o j w'=>∃(m:Nat) (v:Value),o=v∧j= .int .i64 m∧m≤i∧q6 w w' p ta L (pX p L i side k++sO p L i side m) v) (fun _ j _=>i-(RowKit.intOf j).toNat)
     case atStart=>exact⟨0,v,rfl,rfl,Nat.zero_le _,by rw [show sO p L i side 0= []from rfl,List.append_nil];exact cG.out⟩
     case round=>
      clear cG hk hkn Fi y1;obtain⟨m,v2,ho,rfl,hm,hA⟩:=hrel;replace ho:=ho.symm;subst ho;obtain⟨wy,rfl⟩:∃bk:World,bk=wr:=⟨_,rfl⟩;have cG:=af hA;clear hA;by_cases afj:m<i
      ·have ai7:(m:Int)<(i:Int):=by omega
       obtain⟨a,hsp,wO,LG⟩:=Le dI.out afj eK;have hs:=L3.out (m:Int) (i:Int) _ cG.out.pv;rw [hsp]at hs;have hal:a<L.length:=by have:=q7.out;omega
       have er:m<L.length:=by have:=wT.out;omega
       have hlen:(pX p L i side k++sO p L i side m).length≤1000:=by
        have h1:=OJ p L i side k;have h2:=UU p L i side m;rw [List.length_append];have:=uP.out;omega
       have tr:Hid (pX p L i side k++sO p L i side (m+1)=pX p L i side k++sO p L i side m++(sZ L (a:Int) (3-side) (m:Int) side 0).toList):=af (by
        show pX p L i side k++(sO p L i side m++(ph L (qy p (m:Int) (i:Int)).1 (3-side) (m:Int) side true).toList)=_;rw [hsp,List.append_assoc];rfl)
       clear hsp wO LG;obtain⟨b0,b1,b2,b3,b4,aW,bp,aX,bq,bt,bh⟩:=cG.out.pc;go_wp2_with fail
       refine hs.mono ?_;rintro e av ⟨rfl,hb⟩;have nC:=af ((cG.out.next hb).next (Below.bT av 1));have hjn:=Qh p i ta c L w.heap.size v2 _ (av.drewN 1) nC.out.rd nC.out.row nC.out.aF.size hlen a m (3-side) side 0 hal er WX.out qO.out dX.out (.inr (.inl rfl));unfold Prod.agg Prod.cells at hjn;have Bi:=af hjn;clear hb hs hjn cG b0 b1 b2 b3 b4 aW bp aX bq bt bh;go_wp2_with fail
       refine cF (S:=fun w'=>w'.cell? ⟨w.heap.size,0,none⟩=some (.string p.code)∧w'.cell? ⟨w.heap.size,1,none⟩=some (.slice p.ma p.months.length p.mc)∧w'.cell? ⟨w.heap.size,2,none⟩=some (.int .i64 p.tick)∧w'.cell? ⟨w.heap.size,3,none⟩=some (.int .i64 p.low)∧w'.cell? ⟨w.heap.size,4,none⟩=some (.int .i64 p.high)∧w'.cell? ⟨w.heap.size,5,none⟩=some (.int .i64 p.wide)∧w'.cell? ⟨w.heap.size,6,none⟩=some (.int .i64 p.rule)∧w'.cell? ⟨w.heap.size,7,none⟩=some (.int .i64 p.top)∧w'.cell? ⟨w.heap.size,8,none⟩=some (.int .i64 p.least)∧w'.cell? ⟨w.heap.size,9,none⟩=some (.int .i64 p.part)∧w'.cell? ⟨w.heap.size,10,none⟩=some (.slice p.sa p.settle.length p.sc)) (by kernel_rfl) nC.out.pc (fun hHeld=>?_);refine ai 0 ?_;refine ai 1 ?_;refine ai 2 ?_;refine ai 3 ?_;refine ai 4 ?_;refine ai 5 ?_;refine ai 8 ?_;refine ai 9 ?_;refine ai 10 ?_;refine aR 6 fun K hK=>?_;go_simp;go_at_call 111
       refine(WV.out _).mono ?_;rintro e afk ⟨rfl,rfl⟩;refine hK.out _ _ nC.out.pc (fun hHeld=>?_);clear hK K;refine ai 7 ?_;refine aR 11 fun K hK=>?_;go_simp;go_at_call 131
       refine Bi.out.mono ?_;rintro e au ⟨v',rfl,hr,hb⟩;rw [←tr.out]at hr;have Bj:=af (nC.out.made hr hb);clear hr hb Bi nC;refine hK.out _ _ Bj.out.pc (fun hHeld=>?_);clear hK K;refine gx _ _ _ _ ?_;refine eB 12 ?_;refine wpAnyH_done (by kernel_rfl) ?_ _;clear hHeld;go_wp2_with fail
       go_roundw
       case rel=>exact⟨m+1,v',rfl,by go_num,by omega,Bj.out⟩
       case measure=>simp [RowKit.intOf];omega
      ·obtain rfl:m=i:=by omega
       have hrow:=cG.out.row;rw [←Bh.out]at hrow;have cM:=af hrow;have gZ:=af cG.out.aF;clear hrow cG;go_wp2_with fail
       go_ret;exact⟨_,rfl,cM.out,gZ.out⟩
  |true=>
   obtain⟨_,n1,n2,lX,hij,hjn,_,_⟩:=Qj hsp;have hal:n1<L.length:=by have:=q7.out;have:=wE dI.out;have:=w6 p.months.length jP.out.2;omega
   have er:n2<L.length:=by have:=q7.out;have:=wE dI.out;have:=w6 p.months.length jP.out.2;omega
   have Bh:Hid (nP p L i side= []++(sZ L (n1:Int) side (n2:Int) (3-side) (-1)).toList):=af (by rw [dm.out,if_pos hsp,lX];rfl);rw [lX];have nC:=af (iu.out.next (Below.bT w3 1));have hjn:=Qh p i ta c L w.heap.size (.slice none 0 0) [] (w3.drewN 1) nC.out.rd nC.out.row nC.out.aF.size (Nat.zero_le _) n1 n2 side (3-side) (-1) hal er qO.out WX.out dX.out (.inr (.inr rfl));rw [←Bh.out]at hjn;unfold Prod.agg Prod.cells at hjn;have Bi:=af hjn;clear hsp lX dm hij hjn L3 wT iu;go_wp2_with fail
   refine cF (S:=fun w'=>w'.cell? ⟨w.heap.size,0,none⟩=some (.string p.code)∧w'.cell? ⟨w.heap.size,1,none⟩=some (.slice p.ma p.months.length p.mc)∧w'.cell? ⟨w.heap.size,2,none⟩=some (.int .i64 p.tick)∧w'.cell? ⟨w.heap.size,3,none⟩=some (.int .i64 p.low)∧w'.cell? ⟨w.heap.size,4,none⟩=some (.int .i64 p.high)∧w'.cell? ⟨w.heap.size,5,none⟩=some (.int .i64 p.wide)∧w'.cell? ⟨w.heap.size,6,none⟩=some (.int .i64 p.rule)∧w'.cell? ⟨w.heap.size,7,none⟩=some (.int .i64 p.top)∧w'.cell? ⟨w.heap.size,8,none⟩=some (.int .i64 p.least)∧w'.cell? ⟨w.heap.size,9,none⟩=some (.int .i64 p.part)∧w'.cell? ⟨w.heap.size,10,none⟩=some (.slice p.sa p.settle.length p.sc)) (by kernel_rfl) nC.out.pc (fun hHeld=>?_);refine ai 0 ?_;refine ai 1 ?_;refine ai 2 ?_;refine ai 3 ?_;refine ai 4 ?_;refine ai 5 ?_;refine ai 6 ?_;refine ai 7 ?_;refine aR 8 fun K hK=>?_;go_simp;go_at_call 111
   refine(WV.out _).mono ?_;rintro e afk ⟨rfl,rfl⟩;refine hK.out _ _ nC.out.pc (fun hHeld=>?_);clear hK K;refine ai 9 ?_;refine aR 10 fun K hK=>?_;go_simp;go_at_call 131
   refine Bi.out.mono ?_;rintro e au ⟨v',rfl,hr,hb⟩;have Bj:=af (nC.out.made hr hb);clear hr hb Bi nC;refine hK.out _ _ Bj.out.pc (fun hHeld=>?_);clear hK K;refine gx _ _ _ _ ?_;refine eB 11 ?_;refine wpAnyH_done (by kernel_rfl) ?_ _;clear hHeld;go_wp2_with fail
   go_ret;exact⟨_,rfl,Bj.out.row,Bj.out.aF⟩
def lF (p:Prod) (L:List cZ) (inst side:Int):List cK:=(nP p L inst side).filter (fun q=>eA p inst q.ag==0)
structure vv (w w1:World) (p:Prod) (va:Value) (A:List cK) (fG:Value) (O:List cK):Prop where
 aF:Below w.heap.size w w1
 box:aj w1 w.heap.size 25 p.cells
 Dq:fZ w p
 ra:jE.Row w1 w.heap.size va A
 ro:jE.Row w1 w.heap.size fG O
 j8:∀g,va.ownBlock=some g→fG.ownBlock≠some g
section
variable {w w1 w2 w3:World} {p:Prod} {va fG FL:Value} {A O:List cK}
theorem vv.pv (h:vv w w1 p va A fG O):fZ w1 p:=h.Dq.below h.aF
theorem vv.pc (h:vv w w1 p va A fG O):PC w1 w.heap.size p:=PC.nV h.box
theorem vv.next (h:vv w w1 p va A fG O) (hb:Below w1.heap.size w1 w2):vv w w2 p va A fG O:=
 ⟨h.aF.trans (hb.mono h.aF.size),h.box.below hb,h.Dq,h.ra.below hb,h.ro.below hb,h.j8⟩
theorem vv.push (h:vv w w1 p va A fG O) {q:cK} (hr:jE.Row w2 w.heap.size FL (O++ [q])) (hg:w1.grownBy w2 fG.ownBlock) (ho:FL.ownBlock=fG.ownBlock∨FL.ownBlock=some w1.heap.size):vv w w2 p va A FL (O++ [q]):=by
 have hk:=fe hg;have Xl:=cx h.ro;refine⟨h.aF.trans (hk.below Xl h.aF.size),h.box.keeps hk (fun hh=>(dR h.ro _ hh).ne h.box.aC (by decide) rfl),h.Dq,xK h.ra hk (fun g h1 h2=>h.j8 g h1 h2),hr,fun g h1 h2=>?_⟩;rcases ho with ho|ho
 ·rw [ho]at h2;exact h.j8 g h1 h2
 ·rw [ho]at h2
  injection h2 with h2;have:=jH h.ra g h1;omega
end
theorem Pz (p:Prod) (inst side:Int) (ta:Option Addr) (c:Nat) (L:List cZ) (w:World) (hp:fZ w p) (hT:pV.fF w ta L) (hok:∀x∈L,x.ok) (hL:L.length≤1000000) (hal:(nP p L inst side).length≤1000):
 Calls Tryz.prog 60 #[p.agg,.slice ta L.length c,.int .i64 inst,.int .i64 side] w fun e w'=>∃v,e= .returned v∧jE.Row w' w.heap.size v (lF p L inst side)∧Below w.heap.size w w':=by
 have s1:∀(w:World) (o:Obj),(w.alloc o).heap.size=w.heap.size+1:=fun w o=>by simp
 have hx0:aj (w.alloc (.cells #[.string p.code,.slice p.ma p.months.length p.mc,.int .i64 p.tick,.int .i64 p.low,.int .i64 p.high,.int .i64 p.wide,.int .i64 p.rule,.int .i64 p.top,.int .i64 p.least,.int .i64 p.part,.slice p.sa p.settle.length p.sc] 25)) w.heap.size 25 p.cells:=aj.new _ _ _;have hb0:Below w.heap.size w (w.alloc (.cells #[.string p.code,.slice p.ma p.months.length p.mc,.int .i64 p.tick,.int .i64 p.low,.int .i64 p.high,.int .i64 p.wide,.int .i64 p.rule,.int .i64 p.top,.int .i64 p.least,.int .i64 p.part,.slice p.sa p.settle.length p.sc] 25)):=Below.aA _ _;have QA:=af (WS p inst side ta c L _ (hp.below hb0) (hT.below hb0) hok hL);have jU:=af fun(x:Int) ak (h:fZ ak p)=>BV p inst x ak h;unfold Prod.agg Prod.cells at QA jU⊢;unfold lF;generalize nP p L inst side=A at*;have bA:=af hx0;have aE:=af hb0;have zw:=af hp;clear hp hT hok hL hx0 hb0;go_enter Tryz.func60,Tryz.ntmps60
 go_wp2_with fail
 refine QA.out.mono ?_;rintro e w1 ⟨va,rfl,C3,hb⟩;have hS:vv w w1 p va A (.slice none 0 0) []:=⟨aE.out.trans (hb.mono aE.out.size),bA.out.below hb,zw.out,⟨C3.1,C3.2.imp id (fun⟨g,c,Xm,h1,h2,h3⟩=>⟨g,c,Xm,h1,Nat.le_trans aE.out.size h2,h3⟩)⟩,aY.Row.nil _ _,fun g _ h=>by cases h⟩;have aq:=af hS;obtain⟨aa,ac,iN⟩:=C3.form;subst iN;clear hS C3 hb bA aE QA zw;go_wp2_with fail
 go_loopw [10,11] (fun o j w'=>∃(k:Nat) (fG:Value),fG=o∧j= .int .i64 k∧k≤A.length∧vv w w' p (.slice aa A.length ac) A fG ((A.take k).filter (fun q=>eA p inst q.ag==0))) (fun _ j _=>A.length-(RowKit.intOf j).toNat)
 case atStart=>exact⟨0,_,rfl,rfl,Nat.zero_le _,aq.out⟩
 case round=>
  clear aq;obtain⟨k,fG,ho,rfl,hk,hS⟩:=hrel;subst ho;obtain⟨ak,rfl⟩:∃bk:World,bk=wr:=⟨_,rfl⟩;have aq:=af hS;clear hS;by_cases hkn:k<A.length
  ·have Fi:(k:Int)<(A.length:Int):=by omega
   obtain⟨q,hq⟩:∃q,A[k]? =some q:=⟨_,List.getElem?_eq_getElem hkn⟩;obtain⟨g,cap,afA,c6,yx⟩:=aq.out.ra.at_ k q hq;injection afA with ua rD Dw;clear rD;subst ua;subst Dw
   have hlen:((A.take k).filter (fun q=>eA p inst q.ag==0)).length≤1000:=by
    have h1:=List.length_filter_le (fun q=>eA p inst q.ag==0) (A.take k);have h2:=List.length_take_le k A;omega
   have dh:Hid ((A.take (k+1)).filter (fun q=>eA p inst q.ag==0)=(A.take k).filter (fun q=>eA p inst q.ag==0)++(if(eA p inst q.ag==0)=true then [q]else [])):=af (by
    rw [List.take_add_one,hq,List.filter_append]
    congr 1
    show List.filter _ [q]=_;rw [List.filter_cons];rfl)
   generalize (A.take k).filter (fun q=>eA p inst q.ag==0)=O at*;have lm:=jU.out q.ag;obtain⟨pr,wz⟩:∃pr,eA p inst q.ag=pr:=⟨_,rfl⟩;rw [wz]at lm dh;have afB:=af lm;have jM:Hid (∀wv,Below ak.heap.size ak wv→gL wv g (k*6) q.cells):=af fun wv hb=>yx.below hb c6;clear wz lm yx hq;have c5:=af (aq.out.next (Below.bT ak 1));have c0:(ak.drewN 1).cell? ⟨g,k*6,none⟩=some (.int .i64 q.ag):=jM.out _ (Below.bT ak 1) 0 _ rfl;clear c6;go_wp2_with fail
   refine cF (S:=fun w'=>(w'.cell? ⟨w.heap.size,0,none⟩=some (.string p.code)∧w'.cell? ⟨w.heap.size,1,none⟩=some (.slice p.ma p.months.length p.mc)∧w'.cell? ⟨w.heap.size,2,none⟩=some (.int .i64 p.tick)∧w'.cell? ⟨w.heap.size,3,none⟩=some (.int .i64 p.low)∧w'.cell? ⟨w.heap.size,4,none⟩=some (.int .i64 p.high)∧w'.cell? ⟨w.heap.size,5,none⟩=some (.int .i64 p.wide)∧w'.cell? ⟨w.heap.size,6,none⟩=some (.int .i64 p.rule)∧w'.cell? ⟨w.heap.size,7,none⟩=some (.int .i64 p.top)∧w'.cell? ⟨w.heap.size,8,none⟩=some (.int .i64 p.least)∧w'.cell? ⟨w.heap.size,9,none⟩=some (.int .i64 p.part)∧w'.cell? ⟨w.heap.size,10,none⟩=some (.slice p.sa p.settle.length p.sc))∧w'.cell? ⟨g,k*6,none⟩=some (.int .i64 q.ag)) (by kernel_rfl) ⟨c5.out.pc,c0⟩ (fun hHeld=>?_);refine ai 0 ?_;refine ai 1 ?_;refine ai 2 ?_;refine ai 3 ?_;refine ai 4 ?_;refine ai 5 ?_;refine ai 6 ?_;refine aR 7 fun K hK=>?_;go_simp;go_at_call 67
   refine(afB.out _ c5.out.pv).mono ?_;rintro e av ⟨rfl,hb⟩;have Md:=af (c5.out.next hb);have bu:Hid (Below ak.heap.size ak av):=af ((Below.bT ak 1).trans hb);have c1:av.cell? ⟨g,k*6,none⟩=some (.int .i64 q.ag):=jM.out _ bu.out 0 _ rfl;refine hK.out _ _ ⟨Md.out.pc,c1⟩ (fun hHeld=>?_);clear hK K;refine gx _ _ _ _ ?_;refine eB 8 ?_;refine wpAnyH_done (by kernel_rfl) ?_ _;clear hHeld hb c0 c1 c5 aq;cases hz:(pr==0)with
   |false=>
    rw [hz,if_neg (by simp),List.append_nil]at dh;go_wp2_with fail
    go_roundw
    case rel=>exact⟨k+1,fG,rfl,by go_num,by omega,by rw [dh.out];exact Md.out⟩
    case measure=>simp [RowKit.intOf];omega
   |true=>
    rw [hz,if_pos rfl]at dh;have q0:av.cell? ⟨g,k*6,none⟩=some (.int .i64 q.ag):=jM.out _ bu.out 0 _ rfl;have q1:av.cell? ⟨g,k*6+1,none⟩=some (.int .i64 q.ah):=jM.out _ bu.out 1 _ rfl;have e5:av.cell? ⟨g,k*6+2,none⟩=some (.int .i64 q.i0):=jM.out _ bu.out 2 _ rfl;have um:av.cell? ⟨g,k*6+3,none⟩=some (.int .i64 q.s0):=jM.out _ bu.out 3 _ rfl;have w8:av.cell? ⟨g,k*6+4,none⟩=some (.int .i64 q.i1):=jM.out _ bu.out 4 _ rfl;have w9:av.cell? ⟨g,k*6+5,none⟩=some (.int .i64 q.s1):=jM.out _ bu.out 5 _ rfl;have hnew:aj (av.alloc (.cells #[.int .i64 q.ag,.int .i64 q.ah,.int .i64 q.i0,.int .i64 q.s0,.int .i64 q.i1,.int .i64 q.s1] 192)) av.heap.size 192 #[.int .i64 q.ag,.int .i64 q.ah,.int .i64 q.i0,.int .i64 q.s0,.int .i64 q.i1,.int .i64 q.s1]:=aj.new _ _ _;have wY:=af hnew;have Me:=af (Md.out.next (Below.aA av (.cells #[.int .i64 q.ag,.int .i64 q.ah,.int .i64 q.i0,.int .i64 q.s0,.int .i64 q.i1,.int .i64 q.s1] 192)));clear hnew
    go_wp2_with (first
     |(at_builtin;refine jE.push rfl (.tmp 32) (.tmp 37) rfl w.heap.size fG O rfl Me.out.ro av.heap.size q rfl wY.out.lt wY.out.fU (by omega) Me.out.aF.size ?_))
    intro FL aK bO cB ez;have A5:=af (Me.out.push bO cB (by rw [s1];exact ez));clear bO cB ez q0 q1 e5 um w8 w9 Me wY Md;rw [←dh.out]at A5;go_wp2_with fail
    go_roundw
    case rel=>exact⟨k+1,FL,rfl,by go_num,by omega,A5.out⟩
    case measure=>simp [RowKit.intOf];omega
  ·obtain rfl:k=A.length:=by omega
   have hro:=aq.out.ro;rw [List.take_length]at hro;have cM:=af hro;have gZ:=af aq.out.aF;clear hro aq;go_wp2_with fail
   go_ret;exact⟨_,rfl,cM.out,gZ.out⟩
end Go.Proofs.YtmaijkoopjocdaaGreat
