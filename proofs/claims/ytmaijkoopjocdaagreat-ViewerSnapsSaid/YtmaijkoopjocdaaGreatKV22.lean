import Derived.Test.YtmaijkoopjocdaaGreatKV20
set_option maxRecDepth 100000
set_option maxHeartbeats 64000000
namespace Go.Proofs.YtmaijkoopjocdaaGreat
open Go.RowKit Go.Lib
theorem RG (p:Prod) (inst:Int) (ta:Option Addr) (c:Nat) (L:List dK) (B:Nat) (v:Value) (O:List dg) (w:World) (hT:qW.fR w ta L) (hv:kz.Row w B v O) (hB:B≤w.heap.size) (ho:O.length≤1000)
 (dA bi:Nat) (sa cr how:Int) (ha:dA<L.length) (hb:bi<L.length) (hsa:sa=1∨sa=2) (hsb:cr=1∨cr=2) (hok:∀x∈L,x.ok) (hh:how=1∨how=0∨how= -1):
 Calls Tryz.prog 131 #[p.agg,.slice ta L.length c,↑inst,v,.agg #[↑dA,↑sa],.agg #[↑bi,↑cr],↑how] w fun e w'=>∃v',e= .returned v'∧kz.Row w' B v' (O++(uR L dA sa bi cr how).toList)∧Below w.heap.size w w':=by
 obtain⟨ka,hka,rfl⟩:∃ka:Nat,ka<2∧sa=(ka:Int)+1:=by
  rcases hsa with rfl|rfl
  ·exact⟨0,by omega,rfl⟩
  ·exact⟨1,by omega,rfl⟩
 obtain⟨kb,hkb,rfl⟩:∃kb:Nat,kb<2∧cr=(kb:Int)+1:=by
  rcases hsb with rfl|rfl
  ·exact⟨0,by omega,rfl⟩
  ·exact⟨1,by omega,rfl⟩
 have hx:=List.getElem?_eq_getElem ha;have hy:=List.getElem?_eq_getElem hb;exact ahV p inst ta c L B v O w hT hv hB ho dA bi ka kb how _ _ hx hy hka hkb (hok _ (List.mem_of_getElem? hx)) (hok _ (List.mem_of_getElem? hy)) hh
structure sK (w w1:World) (p:Prod) (ta:Option Addr) (L:List dK) (O:List dg) (v:Value):Prop where
 aJ:Below w.heap.size w w1
 box:av w1 w.heap.size 25 p.cells
 E6:gM w p
 row:kz.Row w1 w.heap.size v O
 CT:qW.fR w ta L
section
variable {w w1 w2:World} {p:Prod} {ta:Option Addr} {L:List dK} {O O':List dg} {v v':Value}
theorem sK.pv (h:sK w w1 p ta L O v):gM w1 p:=h.E6.below h.aJ
theorem sK.pc (h:sK w w1 p ta L O v):PC w1 w.heap.size p:=PC.oQ h.box
theorem sK.rd (h:sK w w1 p ta L O v):qW.fR w1 ta L:=h.CT.below h.aJ
theorem sK.next (h:sK w w1 p ta L O v) (hb:Below w1.heap.size w1 w2):sK w w2 p ta L O v:=⟨h.aJ.trans (hb.mono h.aJ.size),h.box.below hb,h.E6,h.row.below hb,h.CT⟩
theorem sK.made (h:sK w w1 p ta L O v) (hr:kz.Row w2 w.heap.size v' O') (hb:Below w1.heap.size w1 w2):sK w w2 p ta L O' v':=⟨h.aJ.trans (hb.mono h.aJ.size),h.box.below hb,h.E6,hr,h.CT⟩
end
theorem YJ (p:Prod) (inst side:Int) (ta:Option Addr) (c:Nat) (L:List dK) (w:World) (hp:gM w p) (hT:qW.fR w ta L) (hok:∀x∈L,x.ok) (hL:L.length≤1000000):
 Calls Tryz.prog 102 #[p.agg,.slice ta L.length c,↑inst,↑side] w fun e w'=>∃v,e= .returned v∧kz.Row w' w.heap.size v (oM p L inst side)∧Below w.heap.size w w':=by
 have s1:=ak;have hs0:sK w (w.alloc (.cells #[.string p.code,.slice p.ma p.months.length p.mc,↑p.tick,↑p.low,↑p.high,↑p.wide,↑p.rule,↑p.top,↑p.least,↑p.part,.slice p.sa p.settle.length p.sc] 25)) p ta L [] (.slice none 0 0):=⟨Below.aI _ _,av.new _ _ _,hp,bl.Row.nil _ _,hT⟩;have eE:=af hs0;have dn:=Kz p _ hs0.pv;have hJ:=af fun ax (h:gM ax p)=>KA p ax h;unfold Prod.agg Prod.cells at dn hJ⊢;have dJ:=af hok;have hcb:=BA p;clear hp hT hok hs0;obtain⟨b0,b1,b2,b3,b4,bk,bw,bn,bC,bD,bu⟩:=eE.out.pc;by_cases hz:cR p=0
 case neg=>
  have dD:Hid (oM p L inst side= []):=af (if_pos (.inl (KB hz)));have hz1:(cR p !=0)=true:=by rw [bne_iff_ne];exact hz
  generalize cR p=cp at*;clear hz;go_enter Tryz.func102,Tryz.ntmps102
  go_wp2_with fail
  refine dn.mono ?_;rintro e w1 ⟨rfl,hb1⟩;have aD:=af (eE.out.next hb1);clear dn hb1 eE b0 b1 b2 b3 b4 bk bw bn bC bD bu;go_wp2_with fail
  go_ret;exact⟨_,rfl,by rw [dD.out];exact bl.Row.nil _ _,aD.out.aJ⟩
 case pos=>
 rw [hz]at dn;by_cases hbad:CL p L inst side
 ·have dD:Hid (oM p L inst side= []):=af (if_pos hbad)
  have hpos:=YK hz;unfold CL at hbad;have hcs:¬(L.length:Int)=countP p∨((L.length:Int)=countP p∧inst<0)∨((L.length:Int)=countP p∧¬inst<0∧countP p≤inst)∨((L.length:Int)=countP p∧¬inst<0∧¬countP p≤inst∧¬side=1∧¬side=2):=by omega
  clear hbad hz hpos;generalize L.length=ln at*;obtain⟨n,hn⟩:=ai (countP p:Int);rw [hn]at hJ hcs hcb;clear hn;rcases hcs with h|⟨rfl,h⟩|⟨rfl,h1,h⟩|⟨rfl,h1,h2,h3,h4⟩
  ·have e2:((ln:Int) !=n)=true:=by rw [bne_iff_ne];exact h
   clear h;go_enter Tryz.func102,Tryz.ntmps102
   go_wp2_with fail
   refine dn.mono ?_;rintro e w1 ⟨rfl,hb1⟩;have aD:=af (eE.out.next hb1);clear dn hb1 eE;obtain⟨b0,b1,b2,b3,b4,bk,bw,bn,bC,bD,bu⟩:=aD.out.pc;go_wp2_with fail
   refine(hJ.out _ aD.out.pv).mono ?_;rintro e w2 ⟨rfl,hb2⟩;have cA:=af (aD.out.next hb2);clear hb2 aD b0 b1 b2 b3 b4 bk bw bn bC bD bu;go_wp2_with fail
   go_ret;exact⟨_,rfl,by rw [dD.out];exact bl.Row.nil _ _,cA.out.aJ⟩
  ·go_enter Tryz.func102,Tryz.ntmps102
   go_wp2_with fail
   refine dn.mono ?_;rintro e w1 ⟨rfl,hb1⟩;have aD:=af (eE.out.next hb1);clear dn hb1 eE;obtain⟨b0,b1,b2,b3,b4,bk,bw,bn,bC,bD,bu⟩:=aD.out.pc;go_wp2_with fail
   refine(hJ.out _ aD.out.pv).mono ?_;rintro e w2 ⟨rfl,hb2⟩;have cA:=af (aD.out.next hb2);clear hb2 aD b0 b1 b2 b3 b4 bk bw bn bC bD bu;go_wp2_with fail
   go_ret;exact⟨_,rfl,by rw [dD.out];exact bl.Row.nil _ _,cA.out.aJ⟩
  ·go_enter Tryz.func102,Tryz.ntmps102
   go_wp2_with fail
   refine dn.mono ?_;rintro e w1 ⟨rfl,hb1⟩;have aD:=af (eE.out.next hb1);clear dn hb1 eE;obtain⟨b0,b1,b2,b3,b4,bk,bw,bn,bC,bD,bu⟩:=aD.out.pc;go_wp2_with fail
   refine(hJ.out _ aD.out.pv).mono ?_;rintro e w2 ⟨rfl,hb2⟩;have cA:=af (aD.out.next hb2);clear hb2 aD b0 b1 b2 b3 b4 bk bw bn bC bD bu;go_wp2_with fail
   go_ret;exact⟨_,rfl,by rw [dD.out];exact bl.Row.nil _ _,cA.out.aJ⟩
  ·have bJ:(side==1)=false:=by rw [beq_eq_false_iff_ne];exact h3
   have cV:(side==2)=false:=by rw [beq_eq_false_iff_ne];exact h4
   have su:(side !=1)=true:=by rw [bne_iff_ne];exact h3
   have vN:(side !=2)=true:=by rw [bne_iff_ne];exact h4
   clear h3 h4;go_enter Tryz.func102,Tryz.ntmps102
   go_wp2_with fail
   refine dn.mono ?_;rintro e w1 ⟨rfl,hb1⟩;have aD:=af (eE.out.next hb1);clear dn hb1 eE;obtain⟨b0,b1,b2,b3,b4,bk,bw,bn,bC,bD,bu⟩:=aD.out.pc;go_wp2_with fail
   refine(hJ.out _ aD.out.pv).mono ?_;rintro e w2 ⟨rfl,hb2⟩;have cA:=af (aD.out.next hb2);clear hb2 aD b0 b1 b2 b3 b4 bk bw bn bC bD bu;go_wp2_with fail
   go_ret;exact⟨_,rfl,by rw [dD.out];exact bl.Row.nil _ _,cA.out.aJ⟩
 ·have YL:=af (show oM p L inst side=_ from if_neg hbad)
  unfold CL at hbad;have hlc:(L.length:Int)=countP p:=by omega
  have zS:¬inst<0:=by omega
  have hi1:¬countP p≤inst:=by omega
  have e3:side=1∨side=2:=by omega
  obtain⟨i,rfl⟩:∃i:Nat,inst=(i:Int):=⟨inst.toNat,by omega⟩;have dD:=af YL.out;have sL:=af hlc;have hi2:¬(L.length:Int)≤(i:Int):=by omega
  have pZ:=af hi2;have RH:=af fun ax (h:gM ax p)=>Hv p i ax h;have Ae:=af fun(a b:Int) ax (h:gM ax p)=>ahW p a b ax h;have jR:=af (pI hz);have ec:=af hz;have m8:=af e3;have YM:=af fun w=>afe side w e3;have YN:3-side=1∨3-side=2:=by omega
  have YO:=af YN;unfold Prod.agg Prod.cells at RH Ae;rw [←hlc]at hJ;clear hbad hlc hi1 hz hcb e3 YN YL;clear b0 b1 b2 b3 b4 bk bw bn bC bD bu;go_enter Tryz.func102,Tryz.ntmps102
  go_upto_region 1 with(fail)
  go_cut [46] (fun u wx=>u= .bool false∧sK w wx p ta L [] (.slice none 0 0))
  case first=>
   have hlt:decide ((i:Int)<0)=false:=decide_eq_false (by omega);have hle:decide (L.length≤i)=false:=decide_eq_false (by omega);have m7:=af hlt;have uL:=af hle;clear hlt hle;rcases m8.out with rfl|rfl
   all_goals
    obtain⟨b0,b1,b2,b3,b4,bk,bw,bn,bC,bD,bu⟩:=eE.out.pc;go_wp2_with fail
    refine dn.mono ?_;rintro e w1 ⟨rfl,hb1⟩;have dW:=af (eE.out.next hb1);clear hb1 b0 b1 b2 b3 b4 bk bw bn bC bD bu;obtain⟨b0,b1,b2,b3,b4,bk,bw,bn,bC,bD,bu⟩:=dW.out.pc;go_wp2_with fail
    refine(hJ.out _ dW.out.pv).mono ?_;rintro e w2 ⟨rfl,hb2⟩;have cA:=af (dW.out.next hb2);clear hb2 b0 b1 b2 b3 b4 bk bw bn bC bD bu;go_wp2_with fail
    go_meet;exact⟨by first|rfl|(rw [m7.out,uL.out];rfl),cA.out⟩
  case rest=>
  obtain⟨rfl,hS⟩:=hcut;have cA:=af hS;clear hS dn eE hJ hi2;obtain⟨b0,b1,b2,b3,b4,bk,bw,bn,bC,bD,bu⟩:=cA.out.pc;go_wp2_with fail
  refine(RH.out _ cA.out.pv).mono ?_;rintro e w3 ⟨rfl,hb⟩;have iG:=af (cA.out.next hb);clear hb b0 b1 b2 b3 b4 bk bw bn bC bD bu cA RH;cases hsp:(gf p i).2.2 with
  |false=>
   have cM:=af (show i<p.months.length by
    obtain⟨i',h1,h2⟩:=YP (p:=p) (inst:=i) (by omega) (by have:=sL.out;have:=pZ.out;omega) hsp;unfold gf at h1;rw [if_neg (by have:=sL.out;have:=pZ.out;omega)]at h1;by_cases h3:(i:Int)<p.months.length
    ·omega
    ·rw [if_neg h3]at h1;injection h1 with _ h1;injection h1 with _ h1;cases h1)
   have yM:Hid (oM p L i side=qY p L i side (p.months.length-(i+1))++uC p L i side i):=af (by rw [dD.out,if_neg (by rw [hsp];simp),Int.toNat_natCast]);have gp:=cM.out;have hmx:p.months.length≤6:=jR.out.2;clear dD hsp zS;go_wp2_with fail
   go_loopw [12,13] (fun o j w'=>∃(k:Nat) (v:Value),o=v∧j= .int .i64 ((i:Int)+1+(k:Int))∧i+1+k≤p.months.length∧sK w w' p ta L (qY p L i side k) v) (fun _ j _=>p.months.length-(RowKit.intOf j).toNat)
   case atStart=>exact⟨0,_,rfl,congrArg (Value.int .i64) (by omega),by omega,iG.out⟩
   case round=>
    clear iG;obtain⟨k,v,ho,rfl,hk,hA⟩:=hrel;replace ho:=ho.symm;subst ho;obtain⟨ax,rfl⟩:=aj wr;have cO:=af hA;clear hA;have y1:IntKind.i64.wrap ((i:Int)+1+(k:Int)+1)=(i:Int)+1+(k:Int)+1:=IntWalk.i64_in _ (by omega);by_cases hkn:i+1+k<p.months.length
    ·have G1:(i:Int)+1+(k:Int)<(p.months.length:Int):=by omega
     obtain⟨a,hsp,yA,Nu⟩:=M5 ec.out (show i<i+1+k by omega) hkn;have hs:=Ae.out (i:Int) ((i:Int)+1+(k:Int)) _ cO.out.pv;have hnn:((i+1+k:Nat):Int)=(i:Int)+1+(k:Int):=by omega
     rw [hnn]at hsp;rw [hsp]at hs;have hal:a<L.length:=by have:=sL.out;omega
     have eU:i+1+k<L.length:=by have:=sL.out;omega
     have hlen:=Qo p L i side k
     have vr:Hid (qY p L i side (k+1)=qY p L i side k++(uR L (a:Int) side ((i:Int)+1+(k:Int)) side 1).toList):=af (by
      show qY p L i side k++(qh L (rO p (i:Int) ((i+1+k:Nat):Int)).1 side ((i+1+k:Nat):Int) side false).toList=_;rw [hnn,hsp];rfl)
     clear hsp yA Nu;obtain⟨b0,b1,b2,b3,b4,bk,bw,bn,bC,bD,bu⟩:=cO.out.pc;go_wp2_with fail
     refine hs.mono ?_;rintro e az ⟨rfl,hb⟩;have ow:=af (cO.out.next hb);have hjn:=RG p i ta c L w.heap.size v _ az ow.out.rd ow.out.row ow.out.aJ.size (by omega:(qY p L i side k).length≤1000) a (i+1+k) side side 1 hal eU m8.out m8.out dJ.out (.inl rfl);rw [hnn]at hjn;unfold Prod.agg Prod.cells at hjn;have C1:=af hjn;clear hb hs hjn hnn cO b0 b1 b2 b3 b4 bk bw bn bC bD bu;obtain⟨b0,b1,b2,b3,b4,bk,bw,bn,bC,bD,bu⟩:=ow.out.pc;go_wp2_with fail
     refine C1.out.mono ?_;rintro e aA ⟨v',rfl,hr,hb⟩;rw [←vr.out]at hr;have C2:=af (ow.out.made hr hb);clear hr hb C1 ow b0 b1 b2 b3 b4 bk bw bn bC bD bu;go_wp2_with fail
     go_roundw
     case rel=>exact⟨k+1,v',rfl,congrArg (Value.int .i64) (by omega),by omega,C2.out⟩
     case measure=>simp [RowKit.intOf];omega
    ·have G1:¬(i:Int)+1+(k:Int)<(p.months.length:Int):=by omega
     obtain rfl:k=p.months.length-(i+1):=by omega
     have wT:Hid (p.months.length-(i+1)≤6):=af (by omega);have amX:i≤6:=by omega
     generalize p.months.length-(i+1)=k at*;obtain⟨b0,b1,b2,b3,b4,bk,bw,bn,bC,bD,bu⟩:=cO.out.pc;go_wp2_with fail
     clear b0 b1 b2 b3 b4 bk bw bn bC bD bu;go_loopw [12,16] (fun o j w'=>∃(m:Nat) (v:Value),o=v∧j=↑m∧m≤i∧sK w w' p ta L (qY p L i side k++uC p L i side m) v) (fun _ j _=>i-(RowKit.intOf j).toNat)
     case atStart=>exact⟨0,v,rfl,rfl,Nat.zero_le _,by rw [show uC p L i side 0= []from rfl,List.append_nil];exact cO.out⟩
     case round=>
      clear cO hk hkn G1 y1;obtain⟨m,v2,ho,rfl,hm,hA⟩:=hrel;replace ho:=ho.symm;subst ho;obtain⟨wy,rfl⟩:=aj wr;have cO:=af hA;clear hA;by_cases ahX:m<i
      ·have amY:(m:Int)<(i:Int):=by omega
       obtain⟨a,hsp,yA,Nu⟩:=M5 ec.out ahX gp;have hs:=Ae.out (m:Int) (i:Int) _ cO.out.pv;rw [hsp]at hs;have hal:a<L.length:=by have:=sL.out;omega
       have eU:m<L.length:=by have:=pZ.out;omega
       have hlen:(qY p L i side k++uC p L i side m).length≤1000:=by
        have h1:=Qo p L i side k;have h2:=WK p L i side m;rw [List.length_append];have:=wT.out;omega
       have vr:Hid (qY p L i side k++uC p L i side (m+1)=qY p L i side k++uC p L i side m++(uR L (a:Int) (3-side) (m:Int) side 0).toList):=af (by
        show qY p L i side k++(uC p L i side m++(qh L (rO p (m:Int) (i:Int)).1 (3-side) (m:Int) side true).toList)=_;rw [hsp,List.append_assoc];rfl)
       clear hsp yA Nu;obtain⟨b0,b1,b2,b3,b4,bk,bw,bn,bC,bD,bu⟩:=cO.out.pc;go_wp2_with fail
       refine hs.mono ?_;rintro e az ⟨rfl,hb⟩;have ow:=af ((cO.out.next hb).next (Below.bO az 1));have hjn:=RG p i ta c L w.heap.size v2 _ (az.drewN 1) ow.out.rd ow.out.row ow.out.aJ.size hlen a m (3-side) side 0 hal eU YO.out m8.out dJ.out (.inr (.inl rfl));unfold Prod.agg Prod.cells at hjn;have C1:=af hjn;clear hb hs hjn cO b0 b1 b2 b3 b4 bk bw bn bC bD bu;go_wp2_with fail
       refine cP (S:=fun w'=>w'.cell? ↑w.heap.size=some (.string p.code)∧w'.cell? ⟨w.heap.size,1,none⟩=some (.slice p.ma p.months.length p.mc)∧w'.cell? ⟨w.heap.size,2,none⟩=some ↑p.tick∧w'.cell? ⟨w.heap.size,3,none⟩=some ↑p.low∧w'.cell? ⟨w.heap.size,4,none⟩=some ↑p.high∧w'.cell? ⟨w.heap.size,5,none⟩=some ↑p.wide∧w'.cell? ⟨w.heap.size,6,none⟩=some ↑p.rule∧w'.cell? ⟨w.heap.size,7,none⟩=some ↑p.top∧w'.cell? ⟨w.heap.size,8,none⟩=some ↑p.least∧w'.cell? ⟨w.heap.size,9,none⟩=some ↑p.part∧w'.cell? ⟨w.heap.size,10,none⟩=some (.slice p.sa p.settle.length p.sc)) ow.out.pc fun hHeld=>?_;refine au 0 ?_;refine au 1 ?_;refine au 2 ?_;refine au 3 ?_;refine au 4 ?_;refine au 5 ?_;refine au 8 ?_;refine au 9 ?_;refine au 10 ?_;refine aU 6 fun K hK=>?_;go_simp;go_at_call 111
       refine(YM.out _).mono ?_;rintro e ahY ⟨rfl,rfl⟩;refine hK.out _ _ ow.out.pc (fun hHeld=>?_);clear hK K;refine au 7 ?_;refine aU 11 fun K hK=>?_;go_simp;go_at_call 131
       refine C1.out.mono ?_;rintro e aA ⟨v',rfl,hr,hb⟩;rw [←vr.out]at hr;have C2:=af (ow.out.made hr hb);clear hr hb C1 ow;refine hK.out _ _ C2.out.pc (fun hHeld=>?_);clear hK K;refine gu _ _ _ _ ?_;refine ej 12 ?_;refine gw ?_;clear hHeld;go_wp2_with fail
       go_roundw
       case rel=>exact⟨m+1,v',rfl,by go_num,by omega,C2.out⟩
       case measure=>simp [RowKit.intOf];omega
      ·obtain rfl:m=i:=by omega
       have hrow:=cO.out.row;rw [←yM.out]at hrow;have bM:=af hrow;have iK:=af cO.out.aJ;clear hrow cO;go_wp2_with fail
       go_ret;exact⟨_,rfl,bM.out,iK.out⟩
  |true=>
   obtain⟨_,n1,n2,mU,hij,hjn,_,_⟩:=RI hsp;have hal:n1<L.length:=by have:=sL.out;have:=yt ec.out;have:=yN p.months.length jR.out.2;omega
   have eU:n2<L.length:=by have:=sL.out;have:=yt ec.out;have:=yN p.months.length jR.out.2;omega
   have yM:Hid (oM p L i side= []++(uR L (n1:Int) side (n2:Int) (3-side) (-1)).toList):=af (by rw [dD.out,if_pos hsp,mU];rfl);rw [mU];have ow:=af (iG.out.next (Below.bO w3 1));have hjn:=RG p i ta c L w.heap.size (.slice none 0 0) [] (w3.drewN 1) ow.out.rd ow.out.row ow.out.aJ.size (Nat.zero_le _) n1 n2 side (3-side) (-1) hal eU m8.out YO.out dJ.out (.inr (.inr rfl));rw [←yM.out]at hjn;unfold Prod.agg Prod.cells at hjn;have C1:=af hjn;clear hsp mU dD hij hjn Ae pZ iG;go_wp2_with fail
   refine cP (S:=fun w'=>w'.cell? ↑w.heap.size=some (.string p.code)∧w'.cell? ⟨w.heap.size,1,none⟩=some (.slice p.ma p.months.length p.mc)∧w'.cell? ⟨w.heap.size,2,none⟩=some ↑p.tick∧w'.cell? ⟨w.heap.size,3,none⟩=some ↑p.low∧w'.cell? ⟨w.heap.size,4,none⟩=some ↑p.high∧w'.cell? ⟨w.heap.size,5,none⟩=some ↑p.wide∧w'.cell? ⟨w.heap.size,6,none⟩=some ↑p.rule∧w'.cell? ⟨w.heap.size,7,none⟩=some ↑p.top∧w'.cell? ⟨w.heap.size,8,none⟩=some ↑p.least∧w'.cell? ⟨w.heap.size,9,none⟩=some ↑p.part∧w'.cell? ⟨w.heap.size,10,none⟩=some (.slice p.sa p.settle.length p.sc)) ow.out.pc fun hHeld=>?_;refine au 0 ?_;refine au 1 ?_;refine au 2 ?_;refine au 3 ?_;refine au 4 ?_;refine au 5 ?_;refine au 6 ?_;refine au 7 ?_;refine aU 8 fun K hK=>?_;go_simp;go_at_call 111
   refine(YM.out _).mono ?_;rintro e ahY ⟨rfl,rfl⟩;refine hK.out _ _ ow.out.pc (fun hHeld=>?_);clear hK K;refine au 9 ?_;refine aU 10 fun K hK=>?_;go_simp;go_at_call 131
   refine C1.out.mono ?_;rintro e aA ⟨v',rfl,hr,hb⟩;have C2:=af (ow.out.made hr hb);clear hr hb C1 ow;refine hK.out _ _ C2.out.pc (fun hHeld=>?_);clear hK K;refine gu _ _ _ _ ?_;refine ej 11 ?_;refine gw ?_;clear hHeld;go_wp2_with fail
   go_ret;exact⟨_,rfl,C2.out.row,C2.out.aJ⟩
def mA (p:Prod) (L:List dK) (inst side:Int):List dg:=(oM p L inst side).filter (fun q=>eW p inst q.ap==0)
structure xB (w w1:World) (p:Prod) (va:Value) (A:List dg) (fh:Value) (O:List dg):Prop where
 aJ:Below w.heap.size w w1
 box:av w1 w.heap.size 25 p.cells
 E6:gM w p
 ra:kz.Row w1 w.heap.size va A
 ro:kz.Row w1 w.heap.size fh O
 jP:∀g,va.ownBlock=some g→fh.ownBlock≠some g
section
variable {w w1 w2 w3:World} {p:Prod} {va fh HE:Value} {A O:List dg}
theorem xB.pv (h:xB w w1 p va A fh O):gM w1 p:=h.E6.below h.aJ
theorem xB.pc (h:xB w w1 p va A fh O):PC w1 w.heap.size p:=PC.oQ h.box
theorem xB.next (h:xB w w1 p va A fh O) (hb:Below w1.heap.size w1 w2):xB w w2 p va A fh O:=
 ⟨h.aJ.trans (hb.mono h.aJ.size),h.box.below hb,h.E6,h.ra.below hb,h.ro.below hb,h.jP⟩
theorem xB.push (h:xB w w1 p va A fh O) {q:dg} (hr:kz.Row w2 w.heap.size HE (O++ [q])) (hg:w1.grownBy w2 fh.ownBlock) (ho:HE.ownBlock=fh.ownBlock∨HE.ownBlock=some w1.heap.size):xB w w2 p va A HE (O++ [q]):=by
 have hk:=fK hg;have Y9:=cS h.ro;refine⟨h.aJ.trans (hk.below Y9 h.aJ.size),h.box.keeps hk (fun hh=>(eo h.ro _ hh).ne h.box.aE (by decide) rfl),h.E6,zv h.ra hk (fun g h1 h2=>h.jP g h1 h2),hr,fun g h1 h2=>?_⟩;rcases ho with ho|ho
 ·rw [ho]at h2;exact h.jP g h1 h2
 ·rw [ho]at h2
  injection h2 with h2;have:=ki h.ra g h1;omega
end
theorem Q2 (p:Prod) (inst side:Int) (ta:Option Addr) (c:Nat) (L:List dK) (w:World) (hp:gM w p) (hT:qW.fR w ta L) (hok:∀x∈L,x.ok) (hL:L.length≤1000000) (hal:(oM p L inst side).length≤1000):
 Calls Tryz.prog 60 #[p.agg,.slice ta L.length c,↑inst,↑side] w fun e w'=>∃v,e= .returned v∧kz.Row w' w.heap.size v (mA p L inst side)∧Below w.heap.size w w':=by
 have s1:=ak;have hx0:av (w.alloc (.cells #[.string p.code,.slice p.ma p.months.length p.mc,↑p.tick,↑p.low,↑p.high,↑p.wide,↑p.rule,↑p.top,↑p.least,↑p.part,.slice p.sa p.settle.length p.sc] 25)) w.heap.size 25 p.cells:=av.new _ _ _;have hb0:Below w.heap.size w (w.alloc (.cells #[.string p.code,.slice p.ma p.months.length p.mc,↑p.tick,↑p.low,↑p.high,↑p.wide,↑p.rule,↑p.top,↑p.least,↑p.part,.slice p.sa p.settle.length p.sc] 25)):=Below.aI _ _;have RY:=af (YJ p inst side ta c L _ (hp.below hb0) (hT.below hb0) hok hL);have kQ:=af fun(x:Int) ax (h:gM ax p)=>DM p inst x ax h;unfold Prod.agg Prod.cells at RY kQ⊢;unfold mA;generalize oM p L inst side=A at*;have bz:=af hx0;have aG:=af hb0;have Bo:=af hp;clear hp hT hok hL hx0 hb0;go_enter Tryz.func60,Tryz.ntmps60
 go_wp2_with fail
 refine RY.out.mono ?_;rintro e w1 ⟨va,rfl,EN,hb⟩;have hS:xB w w1 p va A (.slice none 0 0) []:=⟨aG.out.trans (hb.mono aG.out.size),bz.out.below hb,Bo.out,⟨EN.1,EN.2.imp id (fun⟨g,c,aif,h1,h2,h3⟩=>⟨g,c,aif,h1,Nat.le_trans aG.out.size h2,h3⟩)⟩,bl.Row.nil _ _,fun g _ h=>by cases h⟩;have aD:=af hS;obtain⟨aa,ac,gU⟩:=EN.form;subst gU;clear hS EN hb bz aG RY Bo;go_wp2_with fail
 go_loopw [10,11] (fun o j w'=>∃(k:Nat) (fh:Value),fh=o∧j=↑k∧k≤A.length∧xB w w' p (.slice aa A.length ac) A fh ((A.take k).filter (fun q=>eW p inst q.ap==0))) (fun _ j _=>A.length-(RowKit.intOf j).toNat)
 case atStart=>exact⟨0,_,rfl,rfl,Nat.zero_le _,aD.out⟩
 case round=>
  clear aD;obtain⟨k,fh,ho,rfl,hk,hS⟩:=hrel;subst ho;obtain⟨ax,rfl⟩:=aj wr;have aD:=af hS;clear hS;by_cases hkn:k<A.length
  ·have G1:(k:Int)<(A.length:Int):=by omega
   obtain⟨q,hq⟩:∃q,A[k]? =some q:=⟨_,List.getElem?_eq_getElem hkn⟩;obtain⟨g,cap,aih,dr,Ag⟩:=aD.out.ra.at_ k q hq;injection aih with vV s5 rY;clear s5;subst vV;subst rY
   have hlen:((A.take k).filter (fun q=>eW p inst q.ap==0)).length≤1000:=by
    have h1:=List.length_filter_le (fun q=>eW p inst q.ap==0) (A.take k);have h2:=List.length_take_le k A;omega
   have dN:Hid ((A.take (k+1)).filter (fun q=>eW p inst q.ap==0)=(A.take k).filter (fun q=>eW p inst q.ap==0)++(if(eW p inst q.ap==0)=true then [q]else [])):=af (by
    rw [List.take_add_one,hq,List.filter_append]
    congr 1
    show List.filter _ [q]=_;rw [List.filter_cons];rfl)
   generalize (A.take k).filter (fun q=>eW p inst q.ap==0)=O at*;have mo:=kQ.out q.ap;obtain⟨pr,yl⟩:=ai (eW p inst q.ap);rw [yl]at mo dN;have aii:=af mo;have kK:Hid (∀wv,Below ax.heap.size ax wv→iI wv g (k*6) q.cells):=af fun wv hb=>Ag.below hb dr;clear yl mo Ag hq;have dW:=af (aD.out.next (Below.bO ax 1));have c0:(ax.drewN 1).cell? ⟨g,k*6,none⟩=some ↑q.ap:=kK.out _ (Below.bO ax 1) 0 _ rfl;clear dr;go_wp2_with fail
   refine cP (S:=fun w'=>(w'.cell? ↑w.heap.size=some (.string p.code)∧w'.cell? ⟨w.heap.size,1,none⟩=some (.slice p.ma p.months.length p.mc)∧w'.cell? ⟨w.heap.size,2,none⟩=some ↑p.tick∧w'.cell? ⟨w.heap.size,3,none⟩=some ↑p.low∧w'.cell? ⟨w.heap.size,4,none⟩=some ↑p.high∧w'.cell? ⟨w.heap.size,5,none⟩=some ↑p.wide∧w'.cell? ⟨w.heap.size,6,none⟩=some ↑p.rule∧w'.cell? ⟨w.heap.size,7,none⟩=some ↑p.top∧w'.cell? ⟨w.heap.size,8,none⟩=some ↑p.least∧w'.cell? ⟨w.heap.size,9,none⟩=some ↑p.part∧w'.cell? ⟨w.heap.size,10,none⟩=some (.slice p.sa p.settle.length p.sc))∧w'.cell? ⟨g,k*6,none⟩=some ↑q.ap) ⟨dW.out.pc,c0⟩ fun hHeld=>?_;refine au 0 ?_;refine au 1 ?_;refine au 2 ?_;refine au 3 ?_;refine au 4 ?_;refine au 5 ?_;refine au 6 ?_;refine aU 7 fun K hK=>?_;go_simp;go_at_call 67
   refine(aii.out _ dW.out.pv).mono ?_;rintro e az ⟨rfl,hb⟩;have NY:=af (dW.out.next hb);have bp:Hid (Below ax.heap.size ax az):=af ((Below.bO ax 1).trans hb);have c1:az.cell? ⟨g,k*6,none⟩=some ↑q.ap:=kK.out _ bp.out 0 _ rfl;refine hK.out _ _ ⟨NY.out.pc,c1⟩ (fun hHeld=>?_);clear hK K;refine gu _ _ _ _ ?_;refine ej 8 ?_;refine gw ?_;clear hHeld hb c0 c1 dW aD;cases hz:(pr==0)with
   |false=>
    rw [hz,if_neg (by simp),List.append_nil]at dN;go_wp2_with fail
    go_roundw
    case rel=>exact⟨k+1,fh,rfl,by go_num,by omega,by rw [dN.out];exact NY.out⟩
    case measure=>simp [RowKit.intOf];omega
   |true=>
    rw [hz,if_pos rfl]at dN;have q0:az.cell? ⟨g,k*6,none⟩=some ↑q.ap:=kK.out _ bp.out 0 _ rfl;have q1:az.cell? ⟨g,k*6+1,none⟩=some ↑q.aq:=kK.out _ bp.out 1 _ rfl;have ic:az.cell? ⟨g,k*6+2,none⟩=some ↑q.i0:=kK.out _ bp.out 2 _ rfl;have uD:az.cell? ⟨g,k*6+3,none⟩=some ↑q.s0:=kK.out _ bp.out 3 _ rfl;have yP:az.cell? ⟨g,k*6+4,none⟩=some ↑q.i1:=kK.out _ bp.out 4 _ rfl;have yQ:az.cell? ⟨g,k*6+5,none⟩=some ↑q.s1:=kK.out _ bp.out 5 _ rfl;have hnew:av (az.alloc (.cells #[↑q.ap,↑q.aq,↑q.i0,↑q.s0,↑q.i1,↑q.s1] 192)) az.heap.size 192 #[↑q.ap,↑q.aq,↑q.i0,↑q.s0,↑q.i1,↑q.s1]:=av.new _ _ _;have yI:=af hnew;have Fb:=af (NY.out.next (Below.aI az (.cells #[↑q.ap,↑q.aq,↑q.i0,↑q.s0,↑q.i1,↑q.s1] 192)));clear hnew
    go_wp2_with (first
     |(at_builtin;refine kz.push rfl (.tmp 32) (.tmp 37) rfl w.heap.size fh O rfl Fb.out.ro az.heap.size q rfl yI.out.lt yI.out.gH (by omega) Fb.out.aJ.size ?_))
    intro HE aN bX cQ eG;have CO:=af (Fb.out.push bX cQ (by rw [s1];exact eG));clear bX cQ eG q0 q1 ic uD yP yQ Fb yI NY;rw [←dN.out]at CO;go_wp2_with fail
    go_roundw
    case rel=>exact⟨k+1,HE,rfl,by go_num,by omega,CO.out⟩
    case measure=>simp [RowKit.intOf];omega
  ·obtain rfl:k=A.length:=by omega
   have hro:=aD.out.ro;rw [List.take_length]at hro;have bM:=af hro;have iK:=af aD.out.aJ;clear hro aD;go_wp2_with fail
   go_ret;exact⟨_,rfl,bM.out,iK.out⟩
end Go.Proofs.YtmaijkoopjocdaaGreat
