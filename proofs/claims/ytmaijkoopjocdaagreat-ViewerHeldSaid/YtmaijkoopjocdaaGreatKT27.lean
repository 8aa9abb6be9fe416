import Derived.Test.YtmaijkoopjocdaaGreatKT26
set_option maxRecDepth 100000
set_option maxHeartbeats 64000000
namespace Go.Proofs.YtmaijkoopjocdaaGreat
open Go.RowKit
theorem Xk {p:Prod} {inst:Int} (h0:0≤inst) (h1:inst<countP p):(fB p inst).2.2=decide ((p.months.length:Int)≤inst):=by
 unfold fB;rw [if_neg (by omega)];by_cases h:inst<p.months.length
 ·rw [if_pos h,decide_eq_false (by omega)]
 ·rw [if_neg h,decide_eq_true (by omega)]
theorem BV (p:Prod) (inst ag:Int) (w:World) (hp:fZ w p):
 Calls Tryz.prog 67 #[p.agg,.int .i64 inst,.int .i64 ag] w fun e w'=>e= .returned (.int .i64 (eA p inst ag))∧Below w.heap.size w w':=by
 have hs0:=St.new hp;unfold Prod.cells at hs0;have eb:=af hs0;have cN:=IK p _ hs0.pv;have gG:=af fun ak (h:fZ ak p)=>IL p ak h;have fc:=af fun ak (h:fZ ak p)=>FE p inst ak h;unfold Prod.agg Prod.cells at cN gG fc⊢;clear hp hs0;obtain⟨b0,b1,b2,b3,b4,aW,bp,aX,bq,bt,bh⟩:=eb.out.pc;by_cases hz:cz p=0
 ·rw [hz]at cN
  have ajg:=WT hz;have hcb:=zL p;by_cases hneg:inst<0
  ·have cX:Hid (eA p inst ag=20):=af (by unfold eA;rw [if_neg (by omega),if_pos (.inl hneg)])
   rw [cX.out];clear hz;go_enter Tryz.func67,Tryz.ntmps67
   go_wp2_with fail
   refine cN.mono ?_;rintro e w1 ⟨rfl,hb1⟩;have aq:=af (eb.out.next hb1);clear cN hb1 b0 b1 b2 b3 b4 aW bp aX bq bt bh;go_wp2_with fail
   go_ret;exact⟨by rfl,aq.out.aF⟩
  ·by_cases hge:countP p≤inst
   ·have cX:Hid (eA p inst ag=20):=af (by unfold eA;rw [if_neg (by omega),if_pos (.inr hge)])
    rw [cX.out];clear hz;generalize countP p=cp at*;go_enter Tryz.func67,Tryz.ntmps67
    go_wp2_with fail
    refine cN.mono ?_;rintro e w1 ⟨rfl,hb1⟩;have aq:=af (eb.out.next hb1);clear cN hb1 b0 b1 b2 b3 b4 aW bp aX bq bt bh;obtain⟨b0,b1,b2,b3,b4,aW,bp,aX,bq,bt,bh⟩:=aq.out.pc;go_wp2_with fail
    refine(gG.out _ aq.out.pv).mono ?_;rintro e w2 ⟨rfl,hb2⟩;have cy:=af (aq.out.next hb2);clear hb2 b0 b1 b2 b3 b4 aW bp aX bq bt bh;go_wp2_with fail
    go_ret;exact⟨by rfl,cy.out.aF⟩
   ·have k7:=adi hz
    have hbd:=Xh hz;have mW:=Xk (p:=p) (inst:=inst) (by omega) (by omega);have ajh:(p.tick==0)=false:=by rw [beq_eq_false_iff_ne];omega
    have tP:(p.tick== -1)=false:=by rw [beq_eq_false_iff_ne];omega
    obtain⟨t,ht⟩:∃t,ag.tmod p.tick=t:=⟨_,rfl⟩;have bK:=af ht;clear ht;have De:Hid (eA p inst ag=if t≠0 then 22 else if ag<Bm p inst∨Bn p inst<ag then 23 else 0):=af (by unfold eA;rw [if_neg (by omega),if_neg (by omega),bK.out]);by_cases ju:t=0
    ·have e1:(t !=0)=false:=by rw [ju];rfl
     have q7:Hid (eA p inst ag=if ag<Bm p inst∨Bn p inst<ag then 23 else 0):=af (by rw [De.out,if_neg (by simp [ju])]);clear ju;have y1:IntKind.i64.wrap (-p.wide)= -p.wide:=IntWalk.i64_in _ (by omega);by_cases hm:(p.months.length:Int)≤inst
     ·have hlo:Bm p inst= -p.wide:=if_pos hm
      have hhi:Bn p inst=p.wide:=if_pos hm;rw [decide_eq_true hm]at mW;obtain⟨l0,l1,l2,hl⟩:∃l0 l1 l2,fB p inst=(l0,l1,l2):=⟨_,_,_,rfl⟩;rw [hl]at fc mW;replace mW:l2=true:=mW;subst mW;rw [hlo,hhi]at q7;clear hz hl hlo hhi;generalize countP p=cp at*;by_cases k1:ag< -p.wide
      ·have cX:Hid (eA p inst ag=23):=af (by rw [q7.out,if_pos (.inl k1)])
       rw [cX.out];go_enter Tryz.func67,Tryz.ntmps67
       go_wp2_with fail
       refine cN.mono ?_;rintro e w1 ⟨rfl,hb1⟩;have aq:=af (eb.out.next hb1);clear cN hb1 b0 b1 b2 b3 b4 aW bp aX bq bt bh;obtain⟨b0,b1,b2,b3,b4,aW,bp,aX,bq,bt,bh⟩:=aq.out.pc;go_wp2_with fail
       refine(gG.out _ aq.out.pv).mono ?_;rintro e w2 ⟨rfl,hb2⟩;have cy:=af (aq.out.next hb2);clear hb2 b0 b1 b2 b3 b4 aW bp aX bq bt bh;obtain⟨b0,b1,b2,b3,b4,aW,bp,aX,bq,bt,bh⟩:=cy.out.pc;have ht:=bK.out;go_wp2_with fail
       clear ht;refine(fc.out _ cy.out.pv).mono ?_;rintro e w3 ⟨rfl,hb3⟩;have iu:=af (cy.out.next hb3);clear hb3 b0 b1 b2 b3 b4 aW bp aX bq bt bh;obtain⟨b0,b1,b2,b3,b4,aW,bp,aX,bq,bt,bh⟩:=iu.out.pc;go_wp2_with fail
       go_ret;exact⟨by rfl,iu.out.aF⟩
      ·by_cases k2:p.wide<ag
       ·have cX:Hid (eA p inst ag=23):=af (by rw [q7.out,if_pos (.inr k2)])
        rw [cX.out];go_enter Tryz.func67,Tryz.ntmps67
        go_wp2_with fail
        refine cN.mono ?_;rintro e w1 ⟨rfl,hb1⟩;have aq:=af (eb.out.next hb1);clear cN hb1 b0 b1 b2 b3 b4 aW bp aX bq bt bh;obtain⟨b0,b1,b2,b3,b4,aW,bp,aX,bq,bt,bh⟩:=aq.out.pc;go_wp2_with fail
        refine(gG.out _ aq.out.pv).mono ?_;rintro e w2 ⟨rfl,hb2⟩;have cy:=af (aq.out.next hb2);clear hb2 b0 b1 b2 b3 b4 aW bp aX bq bt bh;obtain⟨b0,b1,b2,b3,b4,aW,bp,aX,bq,bt,bh⟩:=cy.out.pc;have ht:=bK.out;go_wp2_with fail
        clear ht;refine(fc.out _ cy.out.pv).mono ?_;rintro e w3 ⟨rfl,hb3⟩;have iu:=af (cy.out.next hb3);clear hb3 b0 b1 b2 b3 b4 aW bp aX bq bt bh;obtain⟨b0,b1,b2,b3,b4,aW,bp,aX,bq,bt,bh⟩:=iu.out.pc;go_wp2_with fail
        go_ret;exact⟨by rfl,iu.out.aF⟩
       ·have cX:Hid (eA p inst ag=0):=af (by rw [q7.out,if_neg (by omega)])
        rw [cX.out];go_enter Tryz.func67,Tryz.ntmps67
        go_wp2_with fail
        refine cN.mono ?_;rintro e w1 ⟨rfl,hb1⟩;have aq:=af (eb.out.next hb1);clear cN hb1 b0 b1 b2 b3 b4 aW bp aX bq bt bh;obtain⟨b0,b1,b2,b3,b4,aW,bp,aX,bq,bt,bh⟩:=aq.out.pc;go_wp2_with fail
        refine(gG.out _ aq.out.pv).mono ?_;rintro e w2 ⟨rfl,hb2⟩;have cy:=af (aq.out.next hb2);clear hb2 b0 b1 b2 b3 b4 aW bp aX bq bt bh;obtain⟨b0,b1,b2,b3,b4,aW,bp,aX,bq,bt,bh⟩:=cy.out.pc;have ht:=bK.out;go_wp2_with fail
        clear ht;refine(fc.out _ cy.out.pv).mono ?_;rintro e w3 ⟨rfl,hb3⟩;have iu:=af (cy.out.next hb3);clear hb3 b0 b1 b2 b3 b4 aW bp aX bq bt bh;obtain⟨b0,b1,b2,b3,b4,aW,bp,aX,bq,bt,bh⟩:=iu.out.pc;go_wp2_with fail
        go_ret;exact⟨by rfl,iu.out.aF⟩
     ·have hlo:Bm p inst=p.low:=if_neg hm
      have hhi:Bn p inst=p.high:=if_neg hm;rw [decide_eq_false hm]at mW;obtain⟨l0,l1,l2,hl⟩:∃l0 l1 l2,fB p inst=(l0,l1,l2):=⟨_,_,_,rfl⟩;rw [hl]at fc mW;replace mW:l2=false:=mW;subst mW;rw [hlo,hhi]at q7;clear hz hl hlo hhi;generalize countP p=cp at*;by_cases k1:ag<p.low
      ·have cX:Hid (eA p inst ag=23):=af (by rw [q7.out,if_pos (.inl k1)])
       rw [cX.out];go_enter Tryz.func67,Tryz.ntmps67
       go_wp2_with fail
       refine cN.mono ?_;rintro e w1 ⟨rfl,hb1⟩;have aq:=af (eb.out.next hb1);clear cN hb1 b0 b1 b2 b3 b4 aW bp aX bq bt bh;obtain⟨b0,b1,b2,b3,b4,aW,bp,aX,bq,bt,bh⟩:=aq.out.pc;go_wp2_with fail
       refine(gG.out _ aq.out.pv).mono ?_;rintro e w2 ⟨rfl,hb2⟩;have cy:=af (aq.out.next hb2);clear hb2 b0 b1 b2 b3 b4 aW bp aX bq bt bh;obtain⟨b0,b1,b2,b3,b4,aW,bp,aX,bq,bt,bh⟩:=cy.out.pc;have ht:=bK.out;go_wp2_with fail
       clear ht;refine(fc.out _ cy.out.pv).mono ?_;rintro e w3 ⟨rfl,hb3⟩;have iu:=af (cy.out.next hb3);clear hb3 b0 b1 b2 b3 b4 aW bp aX bq bt bh;obtain⟨b0,b1,b2,b3,b4,aW,bp,aX,bq,bt,bh⟩:=iu.out.pc;go_wp2_with fail
       go_ret;exact⟨by rfl,iu.out.aF⟩
      ·by_cases k2:p.high<ag
       ·have cX:Hid (eA p inst ag=23):=af (by rw [q7.out,if_pos (.inr k2)])
        rw [cX.out];go_enter Tryz.func67,Tryz.ntmps67
        go_wp2_with fail
        refine cN.mono ?_;rintro e w1 ⟨rfl,hb1⟩;have aq:=af (eb.out.next hb1);clear cN hb1 b0 b1 b2 b3 b4 aW bp aX bq bt bh;obtain⟨b0,b1,b2,b3,b4,aW,bp,aX,bq,bt,bh⟩:=aq.out.pc;go_wp2_with fail
        refine(gG.out _ aq.out.pv).mono ?_;rintro e w2 ⟨rfl,hb2⟩;have cy:=af (aq.out.next hb2);clear hb2 b0 b1 b2 b3 b4 aW bp aX bq bt bh;obtain⟨b0,b1,b2,b3,b4,aW,bp,aX,bq,bt,bh⟩:=cy.out.pc;have ht:=bK.out;go_wp2_with fail
        clear ht;refine(fc.out _ cy.out.pv).mono ?_;rintro e w3 ⟨rfl,hb3⟩;have iu:=af (cy.out.next hb3);clear hb3 b0 b1 b2 b3 b4 aW bp aX bq bt bh;obtain⟨b0,b1,b2,b3,b4,aW,bp,aX,bq,bt,bh⟩:=iu.out.pc;go_wp2_with fail
        go_ret;exact⟨by rfl,iu.out.aF⟩
       ·have cX:Hid (eA p inst ag=0):=af (by rw [q7.out,if_neg (by omega)])
        rw [cX.out];go_enter Tryz.func67,Tryz.ntmps67
        go_wp2_with fail
        refine cN.mono ?_;rintro e w1 ⟨rfl,hb1⟩;have aq:=af (eb.out.next hb1);clear cN hb1 b0 b1 b2 b3 b4 aW bp aX bq bt bh;obtain⟨b0,b1,b2,b3,b4,aW,bp,aX,bq,bt,bh⟩:=aq.out.pc;go_wp2_with fail
        refine(gG.out _ aq.out.pv).mono ?_;rintro e w2 ⟨rfl,hb2⟩;have cy:=af (aq.out.next hb2);clear hb2 b0 b1 b2 b3 b4 aW bp aX bq bt bh;obtain⟨b0,b1,b2,b3,b4,aW,bp,aX,bq,bt,bh⟩:=cy.out.pc;have ht:=bK.out;go_wp2_with fail
        clear ht;refine(fc.out _ cy.out.pv).mono ?_;rintro e w3 ⟨rfl,hb3⟩;have iu:=af (cy.out.next hb3);clear hb3 b0 b1 b2 b3 b4 aW bp aX bq bt bh;obtain⟨b0,b1,b2,b3,b4,aW,bp,aX,bq,bt,bh⟩:=iu.out.pc;go_wp2_with fail
        go_ret;exact⟨by rfl,iu.out.aF⟩
    ·have e1:(t !=0)=true:=by rw [bne_iff_ne];exact ju
     have cX:Hid (eA p inst ag=22):=af (by rw [De.out,if_pos ju]);rw [cX.out];have FB:=af ju;clear hz mW ju FB;generalize countP p=cp at*;go_enter Tryz.func67,Tryz.ntmps67
     go_wp2_with fail
     refine cN.mono ?_;rintro e w1 ⟨rfl,hb1⟩;have aq:=af (eb.out.next hb1);clear cN hb1 b0 b1 b2 b3 b4 aW bp aX bq bt bh;obtain⟨b0,b1,b2,b3,b4,aW,bp,aX,bq,bt,bh⟩:=aq.out.pc;go_wp2_with fail
     refine(gG.out _ aq.out.pv).mono ?_;rintro e w2 ⟨rfl,hb2⟩;have cy:=af (aq.out.next hb2);clear hb2 b0 b1 b2 b3 b4 aW bp aX bq bt bh;have b2:=cy.out.pc.2.2.1;have ht:=bK.out;go_wp2_with fail
     go_ret;exact⟨by rfl,cy.out.aF⟩
 ·have cX:Hid (eA p inst ag=1):=af (if_pos (IM hz))
  rw [cX.out];have dG:(cz p !=0)=true:=by rw [bne_iff_ne];exact hz
  clear hz;generalize cz p=cp at*;go_enter Tryz.func67,Tryz.ntmps67
  go_wp2_with fail
  refine cN.mono ?_;rintro e w1 ⟨rfl,hb1⟩;have aq:=af (eb.out.next hb1);clear cN hb1 b0 b1 b2 b3 b4 aW bp aX bq bt bh;go_wp2_with fail
  go_ret;exact⟨by rfl,aq.out.aF⟩
end Go.Proofs.YtmaijkoopjocdaaGreat
namespace Go.Proofs.YtmaijkoopjocdaaGreat
open Go.RowKit Go.Lib
theorem Xv (side:Int) (h:side=1∨side=2) (w:World):
 Calls Tryz.prog 111 #[.int .i64 side] w fun e w'=>e= .returned (.int .i64 (3-side))∧w=w':=by
 go_enter Tryz.func111,Tryz.ntmps111
 rcases h with rfl|rfl
 ·go_wp2_with fail
  go_ret;exact⟨by go_num,by trivial⟩
 ·go_wp2_with fail
  go_ret;exact⟨by go_num,by trivial⟩
theorem XD (side x y:Int) (w:World):
 Calls Tryz.prog 135 #[.int .i64 side,.int .i64 x,.int .i64 y] w fun e w'=>e= .returned (.bool (!cV side x y))∧w=w':=by
 have aE:=af (Ex side x y w);go_enter Tryz.func135,Tryz.ntmps135
 go_wp2_with fail
 refine aE.out.mono ?_;rintro e w2 ⟨rfl,rfl⟩;go_wp2_with fail
 go_ret;exact⟨by try rfl,by trivial⟩
def ve (p:Prod) (S:List (List ay)) (i:Nat) (id side ag ah:Int):List (List ay)×Int:=
 if(gp id 0 S).isSome=true then(S,25)else if 250≤tot S then(S,13)else if eA p i ag≠0 then(S,eA p i ag)
 else(S.set i (lW (S.getD i []) id side ag ah).1,(lW (S.getD i []) id side ag ah).2)
section
variable {W w w':World} {ps pb:Nat} {p:Prod} {Q:List Nat} {S:List (List ay)} {L L':List ay}
theorem adQ (h:ek W w ps p Q S) (hl:S.length≤100) (hL:∀L∈S,L.length≤250) (ht:tot S≤100000) {i:Nat} (hi:i<S.length) (id side ag ah:Int):
 Calls Tryz.prog 113 #[.pointer (some ⟨ps,0,none⟩),.int .i64 i,.int .i64 id,.int .i64 side,.int .i64 ag,.int .i64 ah] w fun e w'=>e= .returned (.int .i64 (ve p S i id side ag ah).2)∧ek W w' ps p Q (ve p S i id side ag ah).1∧aD (fun g=>g∈Q) w w':=by
 have cn:=af (CI h hl hL id);have H:=af h;have js:=af hL;obtain⟨n,hn⟩:∃n,Q.length=n:=⟨_,rfl⟩;have hin:i<n:=by rw [←hn,h.len];exact hi
 have hil:(i:Int)<(n:Int):=by omega
 have h0:¬(i:Int)<0:=by omega
 obtain⟨a,c,aP,_⟩:=h.box;rw [hn]at aP;have dg:w.cell? ⟨ps,11,none⟩=some (.slice a n c):=aP.cell 11;have wD:=af hn;have bK:=af ht;have zi:=af hl;have jT:=af hi;have hnb:n≤100:=by rw [←hn,h.len];exact hl
 clear aP hn h hL ht hl hi;cases hf:gp id 0 S with
 |some qu=>
  obtain⟨j,x⟩:=qu;rw [hf]at cn;have cG:Hid (ve p S i id side ag ah=(S,25)):=af (by unfold ve;rw [hf];rfl);clear hf;obtain⟨oi,os,op,fk,p8⟩:=x;unfold u0 at cn;simp only at cn;go_enter Tryz.func113,Tryz.ntmps113
  go_wp2_with fail
  refine cn.out.mono ?_;rintro e w2 ⟨rfl,hb2⟩;have rH:Hid (aD (fun g=>g∈Q) w (w2.alloc (.cells #[.int .i64 oi,.int .i64 os,.int .i64 op,.int .i64 fk,.bool p8] 139))):=af (Below.keeps (hb2.trans ((Below.aA w2 _).mono hb2.size)));have H2:=af ((H.out.below hb2).below (Below.aA w2 (.cells #[.int .i64 oi,.int .i64 os,.int .i64 op,.int .i64 fk,.bool p8] 139)));clear hb2 cn;go_wp2_with fail
  go_ret;refine⟨?_,by rw [cG.out];exact H2.out,rH.out⟩;rw [cG.out];first|done|rfl
 |none=>
  rw [hf]at cn;have cG:Hid (ve p S i id side ag ah=if 250≤tot S then(S,13)else if eA p i ag≠0 then(S,eA p i ag)else(S.set i (lW (S.getD i []) id side ag ah).1,(lW (S.getD i []) id side ag ah).2)):=af (by unfold ve;rw [hf];rfl);clear hf;unfold u0 at cn;simp only at cn;go_enter Tryz.func113,Tryz.ntmps113
  go_wp2_with fail
  refine cn.out.mono ?_;rintro e w2 ⟨rfl,hb2⟩;have rH:Hid (aD (fun g=>g∈Q) w (w2.alloc (.cells #[.int .i64 0,.int .i64 0,.int .i64 0,.int .i64 0,.bool false] 139))):=af (Below.keeps (hb2.trans ((Below.aA w2 _).mono hb2.size)));have H2:=af ((H.out.below hb2).below (Below.aA w2 (.cells #[.int .i64 0,.int .i64 0,.int .i64 0,.int .i64 0,.bool false] 139)));clear hb2 cn;go_upto_region 6 with(fail)
  generalize w2.alloc (.cells _ 139)=w3 at*;have aU:=af (Sj H2.out zi.out bK.out);go_wp2_with fail
  refine aU.out.mono ?_;rintro e av ⟨rfl,rfl⟩;clear aU;obtain⟨t,BW⟩:∃t,tot S=t:=⟨_,rfl⟩;have htb:t≤100000:=by rw [←BW];exact bK.out
  rw [BW]at cG⊢;clear BW;by_cases hfull:250≤t
  ·have M6:(250:Int)≤(t:Int):=by omega
   rw [if_pos hfull]at cG;go_wp2_with fail
   go_ret;refine⟨?_,by rw [cG.out];exact H2.out,rH.out⟩;rw [cG.out];first|done|rfl
  ·have M6:¬(250:Int)≤(t:Int):=by omega
   rw [if_neg hfull]at cG;obtain⟨a2,c2,g5,_⟩:=H2.out.box;have b0:w3.cell? ⟨ps,0,none⟩=some (.string p.code):=g5.cell 0;have b1:w3.cell? ⟨ps,1,none⟩=some (.slice p.ma p.months.length p.mc):=g5.cell 1;have b2:w3.cell? ⟨ps,2,none⟩=some (.int .i64 p.tick):=g5.cell 2;have b3:w3.cell? ⟨ps,3,none⟩=some (.int .i64 p.low):=g5.cell 3;have b4:w3.cell? ⟨ps,4,none⟩=some (.int .i64 p.high):=g5.cell 4;have aW:w3.cell? ⟨ps,5,none⟩=some (.int .i64 p.wide):=g5.cell 5;have bp:w3.cell? ⟨ps,6,none⟩=some (.int .i64 p.rule):=g5.cell 6;have aX:w3.cell? ⟨ps,7,none⟩=some (.int .i64 p.top):=g5.cell 7;have bq:w3.cell? ⟨ps,8,none⟩=some (.int .i64 p.least):=g5.cell 8;have bt:w3.cell? ⟨ps,9,none⟩=some (.int .i64 p.part):=g5.cell 9;have bh:w3.cell? ⟨ps,10,none⟩=some (.slice p.sa p.settle.length p.sc):=g5.cell 10;have dy:=BV p i ag w3 (H2.out.pv.below H2.out.aF);have dy:=af dy;unfold Prod.agg Prod.cells at dy;clear g5;go_wp2_with fail
   clear b0 b1 b2 b3 b4 aW bp aX bq bt bh;refine dy.out.mono ?_;rintro e av ⟨rfl,hb4⟩;have x7:Hid (aD (fun g=>g∈Q) w av):=af (rH.out.trans (Below.keeps hb4));have H4:=af (H2.out.below hb4);clear hb4 dy rH H2;obtain⟨q,hq⟩:∃q,eA p i ag=q:=⟨_,rfl⟩;rw [hq]at cG⊢;clear hq;by_cases hz:q=0
   ·subst hz
    rw [if_neg (fun h=>h rfl)]at cG;obtain⟨pb,L,hpq,hs,hrb⟩:=H4.out.get jT.out;obtain⟨g,dn,Ri,hO,q0⟩:=H4.out.ptr hpq;rw [wD.out]at Ri hO;have Mw:av.cell? ⟨ps,11,none⟩=some (.slice (some ⟨g,0,none⟩) n dn):=Ri.cell 11;have gM:=af hpq;have aU:=af (afg hrb (js.out L (List.mem_of_getElem? hs)) id side ag ah);have hgd:S.getD i []=L:=by rw [List.getD_eq_getElem?_getD,hs];rfl
    rw [hgd]at cG;clear Ri hO hrb hpq hs hgd dg;go_wp2_with fail
    refine aU.out.mono ?_;rintro e au ⟨rfl,cS,nS⟩;have H5:=af (H4.out.Ox gM.out nS cS);have uh:Hid (aD (fun g=>g∈Q) w au):=af (x7.out.trans (nS.more fun k hk=>by have e:k=pb:=hk;rw [e];exact List.mem_of_getElem? gM.out));clear cS nS aU;go_wp2_with fail
    go_ret;refine⟨?_,by rw [cG.out];exact H5.out,uh.out⟩;rw [cG.out];first|done|rfl
   ·rw [if_pos hz]at cG
    go_wp2_with fail
    go_ret;refine⟨?_,by rw [cG.out];exact H4.out,x7.out⟩;rw [cG.out];first|done|rfl
end
end Go.Proofs.YtmaijkoopjocdaaGreat
namespace Go.Proofs.YtmaijkoopjocdaaGreat
open Go.RowKit
instance (n:Int):Decidable (b8 n):=by unfold b8;infer_instance
def nT (rule:Int) (a b:Nat):Prod:=⟨⟨#[67,76]⟩,some ⟨a,0,none⟩,[320,321,323],3,5,0,1000,200,rule,4,2,40,some ⟨b,0,none⟩,[500,505,490],3⟩
theorem V6 {w:World} {g:Nat} {t:TypeId} {L:List Int} (h:aj w g t (L.map (Value.int .i64)).toArray) (hok:∀x∈L,b8 x):qE w (some ⟨g,0,none⟩) L:=by
 intro j x hj;refine⟨hok x (List.mem_of_getElem? hj),g,0,rfl,h.lt,?_⟩;rw [Nat.zero_add,h.cell,List.getElem?_toArray,List.getElem?_map,hj];rfl
theorem ac4 (rule:Int) (w:World):
 Calls Tryz.prog 44 #[.int .i64 rule] w fun e w'=>∃a b,e= .returned (nT rule a b).agg∧fZ w' (nT rule a b)∧Below w.heap.size w w':=by
 go_enter Tryz.func44,Tryz.ntmps44
 go_wp2_with fail
 have s1:∀(w:World) (o:Obj),(w.alloc o).heap.size=w.heap.size+1:=fun w o=>by simp
 generalize hA:w.alloc (.cells #[.string ⟨#[67,76]⟩,.slice (some ⟨w.heap.size+1,0,none⟩) 3 3,.int .i64 5,.int .i64 0,.int .i64 1000,.int .i64 200,.int .i64 rule,.int .i64 4,.int .i64 2,.int .i64 40,.slice (some ⟨w.heap.size+1+1,0,none⟩) 3 3] 25)=wa;have dM:wa.heap.size=w.heap.size+1:=by rw [←hA];exact s1 _ _
 have hm:=aj.new wa 3 #[.int .i64 320,.int .i64 321,.int .i64 323];have hb1:Below w.heap.size w wa:=by rw [←hA];exact Below.aA _ _
 have jO:wa.heap[w.heap.size]? =some (.cells #[.string ⟨#[67,76]⟩,.slice (some ⟨w.heap.size+1,0,none⟩) 3 3,.int .i64 5,.int .i64 0,.int .i64 1000,.int .i64 200,.int .i64 rule,.int .i64 4,.int .i64 2,.int .i64 40,.slice (some ⟨w.heap.size+1+1,0,none⟩) 3 3] 25):=by rw [←hA];exact heap_alloc_new w _
 have hm2:aj ((wa.alloc (.cells #[.int .i64 320,.int .i64 321,.int .i64 323] 3)).alloc (.cells #[.int .i64 500,.int .i64 505,.int .i64 490] 2)) (w.heap.size+1) 3 (([320,321,323]:List Int).map (Value.int .i64)).toArray:=by rw [←dM];exact hm.alloc _
 have ic:aj ((wa.alloc (.cells #[.int .i64 320,.int .i64 321,.int .i64 323] 3)).alloc (.cells #[.int .i64 500,.int .i64 505,.int .i64 490] 2)) (w.heap.size+1+1) 2 (([500,505,490]:List Int).map (Value.int .i64)).toArray:=by
  have:=aj.new (wa.alloc (.cells #[.int .i64 320,.int .i64 321,.int .i64 323] 3)) 2 #[.int .i64 500,.int .i64 505,.int .i64 490];rw [s1,dM]at this;exact this
 have e1:∀x∈([320,321,323]:List Int),b8 x:=by decide
 have e2:∀x∈([500,505,490]:List Int),b8 x:=by decide
 have hp:∀i,i<11→((wa.alloc (.cells #[.int .i64 320,.int .i64 321,.int .i64 323] 3)).alloc (.cells #[.int .i64 500,.int .i64 505,.int .i64 490] 2)).cell? ⟨w.heap.size,i,none⟩=(nT rule (w.heap.size+1) (w.heap.size+1+1)).cells[i]? :=by
  intro i hi;have hb:aj wa w.heap.size 25 (nT rule (w.heap.size+1) (w.heap.size+1+1)).cells:=jO;exact((hb.alloc _).alloc _).cell i
 have c0:=hp 0 (by omega);have c1:=hp 1 (by omega);have c2:=hp 2 (by omega);have c3:=hp 3 (by omega);have dn:=hp 4 (by omega);have cj:=hp 5 (by omega);have fE:=hp 6 (by omega);have gP:=hp 7 (by omega);have iC:=hp 8 (by omega);have kT:=hp 9 (by omega);have ur:=hp 10 (by omega);have aJ:Below w.heap.size w ((wa.alloc (.cells #[.int .i64 320,.int .i64 321,.int .i64 323] 3)).alloc (.cells #[.int .i64 500,.int .i64 505,.int .i64 490] 2)):=(hb1.alloc hb1.size _).alloc (by rw [s1];omega) _
 have yd:fZ ((wa.alloc (.cells #[.int .i64 320,.int .i64 321,.int .i64 323] 3)).alloc (.cells #[.int .i64 500,.int .i64 505,.int .i64 490] 2)) (nT rule (w.heap.size+1) (w.heap.size+1+1)):=
  ⟨by show 2≤1000;omega,V6 hm2 e1,V6 ic e2,by show 3≤1000000;omega,by show 3≤1000000;omega,by show b8 5;decide,by show b8 0;decide,by show b8 1000;decide,by show b8 200;decide⟩
 clear hm hm2 ic jO hA hp;generalize ((wa.alloc (.cells #[.int .i64 320,.int .i64 321,.int .i64 323] 3)).alloc (.cells #[.int .i64 500,.int .i64 505,.int .i64 490] 2))=wc at*;simp only [nT,Prod.cells]at c0 c1 c2 c3 dn cj fE gP iC kT ur;exact bodyPost_ret (v:=(nT rule (w.heap.size+1) (w.heap.size+1+1)).agg) (by unfold nT Prod.agg Prod.cells;simp [results,Tryz.results44,go_sem, *]) rfl ⟨_,_,rfl,yd,aJ⟩
structure Zg where
 n:Nat
 tick:Int
 rule:Int
 top:Int
 least:Int
 part:Int
 wd:Int
structure Zg.ok (k:Zg):Prop where
 n:2≤k.n∧k.n≤5
 tick:1≤k.tick∧k.tick≤10
 rule:1≤k.rule∧k.rule≤3
 top:0≤k.top∧k.top≤9
 least:1≤k.least∧k.least≤5
 part:0≤k.part∧k.part≤100
 wd:5≤k.wd∧k.wd≤65
def qA (n:Nat):List Int:=(List.range n).map (fun(i:Nat)=>10*(i:Int)+3)
def nQ (tick:Int) (n:Nat):List Int:=(List.range n).map (fun(i:Nat)=>tick*(10+(i:Int)))
def Zg.prod (k:Zg) (ma:Option Addr) (mc:Nat) (sa:Option Addr) (sc:Nat):Prod:=⟨⟨#[206,169]⟩,ma,qA k.n,mc,k.tick,-20*k.tick,100*k.tick,k.tick*k.wd,k.rule,k.top,k.least,k.part,sa,nQ k.tick k.n,sc⟩
theorem acL (n:Nat):qA (n+1)=qA n++ [10*(n:Int)+3]:=by unfold qA;rw [List.range_succ,List.map_append];rfl
theorem acP (t:Int) (n:Nat):nQ t (n+1)=nQ t n++ [t*(10+(n:Int))]:=by unfold nQ;rw [List.range_succ,List.map_append];rfl
theorem Fj (n:Nat):(qA n).length=n:=by simp [qA]
theorem Fk (t:Int) (n:Nat):(nQ t n).length=n:=by simp [nQ]
theorem adD:∀n,n≤5→2≤n→ku (qA n)=true:=by decide
theorem adE:n8 ⟨#[206,169]⟩=true:=by decide+kernel
theorem adF:n8 ⟨#[67,76]⟩=true:=by decide+kernel
theorem Vo {t:Int} {n:Nat} {x:Int} (h:x∈nQ t n):∃i:Nat,i<n∧x=t*(10+(i:Int)):=by
 unfold nQ at h;rw [List.mem_map]at h;obtain⟨i,hi,rfl⟩:=h;exact⟨i,List.mem_range.1 hi,rfl⟩
theorem CV {t i:Int} (ht:1≤t) {a b:Int} (h1:a≤i) (h2:i≤b):t*a≤t*i∧t*i≤t*b:=⟨Int.mul_le_mul_of_nonneg_left h1 (by omega),Int.mul_le_mul_of_nonneg_left h2 (by omega)⟩
theorem LM (t i:Int):iZ t (t*i)=false:=by unfold iZ;rw [Int.mul_tmod_right];rfl
theorem adG (k:Zg) (h:k.ok) (ma:Option Addr) (mc:Nat) (sa:Option Addr) (sc:Nat):cz (k.prod ma mc sa sc)=0:=by
 obtain⟨hn,ht,hr,HJ,hl,aiM,hw⟩:=h;have h1:n8 (k.prod ma mc sa sc).code=true:=adE;have h2:ku (k.prod ma mc sa sc).months=true:=adD k.n hn.2 hn.1;have aiN:=CV ht.1 hw.1 hw.2
 have PA:∀x∈nQ k.tick k.n,iZ k.tick x=false∧k.tick*10≤x∧x≤k.tick*15:=by
  intro x hx;obtain⟨i,hi,rfl⟩:=Vo hx;have:=CV ht.1 (i:=10+(i:Int)) (a:=10) (b:=15) (by omega) (by omega);exact⟨LM _ _,this.1,this.2⟩
 have h3:mF (k.prod ma mc sa sc)=true:=by
  unfold mF;show(decide (1≤k.tick)&&decide (k.tick≤1000)&& !iZ k.tick (-20*k.tick)&& !iZ k.tick (100*k.tick)&& !iZ k.tick (k.tick*k.wd)&& !(nQ k.tick k.n).any (iZ k.tick))=true;rw [Int.mul_comm (-20),Int.mul_comm 100,LM,LM,LM,decide_eq_true ht.1,decide_eq_true (show k.tick≤1000 by omega),any_none fun j x hx=>(PA x (List.mem_of_getElem? hx)).1];rfl
 have h4:¬gQ (k.prod ma mc sa sc):=by
  unfold gQ;show¬(-20*k.tick< -1000000∨100*k.tick≤-20*k.tick∨1000000<100*k.tick∨k.tick*k.wd<0∨100*k.tick- -20*k.tick<k.tick*k.wd);omega
 have h5:n7 (k.prod ma mc sa sc)=false:=by
  unfold n7;show((nQ k.tick k.n).length !=(qA k.n).length||(nQ k.tick k.n).any (fun x=>decide (x< -20*k.tick))||(nQ k.tick k.n).any (fun x=>decide (100*k.tick<x)))=false;rw [Fk,Fj,any_none (f:=fun x=>decide (x< -20*k.tick)) fun j x hx=>decide_eq_false (by have:=PA x (List.mem_of_getElem? hx);omega),any_none (f:=fun x=>decide (100*k.tick<x)) fun j x hx=>decide_eq_false (by have:=PA x (List.mem_of_getElem? hx);omega)];simp
 have h6:¬kU (k.prod ma mc sa sc):=by
  unfold kU;show¬(k.rule<1∨3<k.rule);omega
 have h7:¬gD (k.prod ma mc sa sc):=by
  unfold gD;show¬(k.top<0∨1000000<k.top∨k.least<1∨1000<k.least∨k.part<0∨100<k.part);omega
 unfold cz;rw [h1,h2,h3,h5,if_neg (by simp),if_neg (by simp),if_neg (by simp),if_neg h4,if_neg (by simp),if_neg h6,if_neg h7]
theorem ac5 (rule:Int) (h:1≤rule∧rule≤3) (a b:Nat):cz (nT rule a b)=0:=by
 have h1:n8 (nT rule a b).code=true:=adF;have h2:ku (nT rule a b).months=true:=by show ku [320,321,323]=true;decide
 have h3:mF (nT rule a b)=true:=by
  show(decide ((1:Int)≤5)&&decide ((5:Int)≤1000)&& !iZ 5 0&& !iZ 5 1000&& !iZ 5 200&& !([500,505,490]:List Int).any (iZ 5))=true;decide
 have h4:¬gQ (nT rule a b):=by
  show¬((0:Int)< -1000000∨(1000:Int)≤0∨(1000000:Int)<1000∨(200:Int)<0∨(1000:Int)-0<200);omega
 have h5:n7 (nT rule a b)=false:=by
  show(([500,505,490]:List Int).length !=([320,321,323]:List Int).length||([500,505,490]:List Int).any (fun x=>decide (x<0))||([500,505,490]:List Int).any (fun x=>decide (1000<x)))=false;decide
 have h6:¬kU (nT rule a b):=by
  show¬(rule<1∨3<rule);omega
 have h7:¬gD (nT rule a b):=by
  show¬((4:Int)<0∨(1000000:Int)<4∨(2:Int)<1∨(1000:Int)<2∨(40:Int)<0∨(100:Int)<40);omega
 unfold cz;rw [h1,h2,h3,h5,if_neg (by simp),if_neg (by simp),if_neg (by simp),if_neg h4,if_neg (by simp),if_neg h6,if_neg h7]
def qx (a b:Int):Int×Bool:=if b8 (a+b)then(a+b,true)else(0,false)
def pW (a b:Int):Int×Bool:=if b8 (a-b)then(a-b,true)else(0,false)
theorem acC (a b:Int) (w:World) (ha:b8 a) (hb:b8 b):
 Calls Tryz.prog 145 #[.int .i64 a,.int .i64 b] w fun e w'=>e= .returned (.tuple #[.int .i64 (qx a b).1,.bool (qx a b).2])∧w=w':=by
 unfold b8 at ha hb;by_cases h1:0<b
 ·have y1:IntKind.i64.wrap (9223372036854775807-b)=9223372036854775807-b:=IntWalk.i64_in _ (by omega)
  have h2:¬b<0:=by omega
  by_cases hr:b8 (a+b)
  ·have hv:qx a b=(a+b,true):=if_pos hr
   rw [hv];have dw:IntKind.i64.wrap (a+b)=a+b:=IntWalk.i64_in _ hr;unfold b8 at hr;have h3:¬9223372036854775807-b<a:=by omega
   clear hr hv ha hb;go_enter Tryz.func145,Tryz.ntmps145
   go_wp2_with fail
   go_ret2
   exact⟨by trivial,by trivial⟩
  ·have hv:qx a b=(0,false):=if_neg hr
   rw [hv];unfold b8 at hr;have h3:9223372036854775807-b<a:=by omega
   clear hr hv ha hb;go_enter Tryz.func145,Tryz.ntmps145
   go_wp2_with fail
   go_ret2
   exact⟨by trivial,by trivial⟩
 ·by_cases h2:b<0
  ·have y1:IntKind.i64.wrap (-9223372036854775808-b)= -9223372036854775808-b:=IntWalk.i64_in _ (by omega)
   by_cases hr:b8 (a+b)
   ·have hv:qx a b=(a+b,true):=if_pos hr
    rw [hv];have dw:IntKind.i64.wrap (a+b)=a+b:=IntWalk.i64_in _ hr;unfold b8 at hr;have h3:¬a< -9223372036854775808-b:=by omega
    clear hr hv ha hb;go_enter Tryz.func145,Tryz.ntmps145
    go_wp2_with fail
    go_ret2
    exact⟨by trivial,by trivial⟩
   ·have hv:qx a b=(0,false):=if_neg hr
    rw [hv];unfold b8 at hr;have h3:a< -9223372036854775808-b:=by omega
    clear hr hv ha hb;go_enter Tryz.func145,Tryz.ntmps145
    go_wp2_with fail
    go_ret2
    exact⟨by trivial,by trivial⟩
  ·have hr:b8 (a+b):=by unfold b8;omega
   have hv:qx a b=(a+b,true):=if_pos hr;rw [hv];have dw:IntKind.i64.wrap (a+b)=a+b:=IntWalk.i64_in _ hr;clear hr hv ha hb;go_enter Tryz.func145,Tryz.ntmps145
   go_wp2_with fail
   go_ret2
   exact⟨by trivial,by trivial⟩
theorem U3 (a b:Int) (w:World) (ha:b8 a) (hb:b8 b):
 Calls Tryz.prog 146 #[.int .i64 a,.int .i64 b] w fun e w'=>e= .returned (.tuple #[.int .i64 (pW a b).1,.bool (pW a b).2])∧w=w':=by
 unfold b8 at ha hb;by_cases h1:b<0
 ·have y1:IntKind.i64.wrap (9223372036854775807+b)=9223372036854775807+b:=IntWalk.i64_in _ (by omega)
  have h2:¬0<b:=by omega
  by_cases hr:b8 (a-b)
  ·have hv:pW a b=(a-b,true):=if_pos hr
   rw [hv];have dw:IntKind.i64.wrap (a-b)=a-b:=IntWalk.i64_in _ hr;unfold b8 at hr;have h3:¬9223372036854775807+b<a:=by omega
   clear hr hv ha hb;go_enter Tryz.func146,Tryz.ntmps146
   go_wp2_with fail
   go_ret2
   exact⟨by trivial,by trivial⟩
  ·have hv:pW a b=(0,false):=if_neg hr
   rw [hv];unfold b8 at hr;have h3:9223372036854775807+b<a:=by omega
   clear hr hv ha hb;go_enter Tryz.func146,Tryz.ntmps146
   go_wp2_with fail
   go_ret2
   exact⟨by trivial,by trivial⟩
 ·by_cases h2:0<b
  ·have y1:IntKind.i64.wrap (-9223372036854775808+b)= -9223372036854775808+b:=IntWalk.i64_in _ (by omega)
   by_cases hr:b8 (a-b)
   ·have hv:pW a b=(a-b,true):=if_pos hr
    rw [hv];have dw:IntKind.i64.wrap (a-b)=a-b:=IntWalk.i64_in _ hr;unfold b8 at hr;have h3:¬a< -9223372036854775808+b:=by omega
    clear hr hv ha hb;go_enter Tryz.func146,Tryz.ntmps146
    go_wp2_with fail
    go_ret2
    exact⟨by trivial,by trivial⟩
   ·have hv:pW a b=(0,false):=if_neg hr
    rw [hv];unfold b8 at hr;have h3:a< -9223372036854775808+b:=by omega
    clear hr hv ha hb;go_enter Tryz.func146,Tryz.ntmps146
    go_wp2_with fail
    go_ret2
    exact⟨by trivial,by trivial⟩
  ·have hr:b8 (a-b):=by unfold b8;omega
   have hv:pW a b=(a-b,true):=if_pos hr;rw [hv];have dw:IntKind.i64.wrap (a-b)=a-b:=IntWalk.i64_in _ hr;clear hr hv ha hb;go_enter Tryz.func146,Tryz.ntmps146
   go_wp2_with fail
   go_ret2
   exact⟨by trivial,by trivial⟩
end Go.Proofs.YtmaijkoopjocdaaGreat
