import Derived.Test.YtmaijkoopjocdaaGreatKW33
set_option maxRecDepth 100000
set_option maxHeartbeats 64000000
namespace Go.Proofs.YtmaijkoopjocdaaGreat
open Go.RowKit Go.Lib
theorem RG (p:Prod) (inst:Int) (ta:Option Addr) (c:Nat) (L:List dK) (B:Nat) (v:Value) (O:List dg) (w:World) (hT:qW.fR w ta L) (hv:kz.Row w B v O) (hB:B<=w.heap.size) (ho:O.length<=1000)
 (A bi:Nat) (sa cr how:Int) (ha:A<L.length) (hb:bi<L.length) (hsa:sa=1∨sa=2) (hsb:cr=1∨cr=2) (hok:∀x∈L,x.ok) (hh:how=1∨how=0∨how= -1):
 Calls Tryz.prog 131 #[p.agg,.slice ta L.length c,↑inst,v,.agg #[↑A,↑sa],.agg #[↑bi,↑cr],↑how] w fun e w'=>∃v',e= .returned v'∧kz.Row w' B v' (O++(uR L A sa bi cr how).toList)∧Below ↑w w w':=by
 obtain⟨ka,hka,rfl⟩:∃ka:Nat,ka<2∧sa=(ka:Int)+1:=by
  rcases hsa with rfl|rfl
  ·exact⟨0,bh,rfl⟩
  exact⟨1,bh,rfl⟩
 obtain⟨kb,hkb,rfl⟩:∃kb:Nat,kb<2∧cr=(kb:Int)+1:=by
  rcases hsb with rfl|rfl
  ·exact⟨0,bh,rfl⟩
  exact⟨1,bh,rfl⟩
 have hx:=List.getElem?_eq_getElem ha;have hy:=List.getElem?_eq_getElem hb;exact ahV p inst ta c L B v O w hT hv hB ho A bi ka kb how _ _ hx hy hka hkb (hok _ (List.mem_of_getElem? hx)) (hok _ (List.mem_of_getElem? hy)) hh
structure sK (w w1:World) (p:Prod) (ta:Option Addr) (L:List dK) (O:List dg) (v:Value):Prop where
 aJ:Below ↑w w w1
 box:av w1 ↑w 25 p.cells
 E6:gM w p
 row:kz.Row w1 ↑w v O
 CT:qW.fR w ta L
section
variable {w w1 w2:World} {p:Prod} {ta:Option Addr} {L:List dK} {O O':List dg} {v v':Value}
theorem sK.pv (h:sK w w1 p ta L O v):gM w1 p:=h.E6.below h.aJ
theorem sK.pc (h:sK w w1 p ta L O v):PC w1 ↑w p:=PC.oQ h.box
theorem sK.rd (h:sK w w1 p ta L O v):qW.fR w1 ta L:=h.CT.below h.aJ
theorem sK.next (h:sK w w1 p ta L O v) (hb:Below ↑w1 w1 w2):sK w w2 p ta L O v:=⟨h.aJ.trans (hb.mono h.aJ.size),h.box.below hb,h.E6,h.row.below hb,h.CT⟩
theorem sK.made (h:sK w w1 p ta L O v) (hr:kz.Row w2 ↑w v' O') (hb:Below ↑w1 w1 w2):sK w w2 p ta L O' v':=⟨h.aJ.trans (hb.mono h.aJ.size),h.box.below hb,h.E6,hr,h.CT⟩
end
theorem YJ (p:Prod) (inst side:Int) (ta:Option Addr) (c:Nat) (L:List dK) (w:World) (hp:gM w p) (hT:qW.fR w ta L) (hok:∀x∈L,x.ok) (hL:L.length<=1000000):
 Calls Tryz.prog 102 #[p.agg,.slice ta L.length c,↑inst,↑side] w fun e w'=>∃v,e= .returned v∧kz.Row w' ↑w v (oM p L inst side)∧Below ↑w w w':=by
 have s1:=ak;have hs0:sK w (w.alloc (.cells ↑p 25)) p ta L [] (.slice none 0 0):=⟨Below.aI _ _,av.new _ _ _,hp,bl.Row.nil _ _,hT⟩;have J:=af hs0;have I:=Kz p _ hs0.pv;have N:=af fun ax (h:gM ax p)=>KA p ax h;unfold Prod.agg Prod.cells at I N⊢;have q:=af hok;have hcb:=BA p;clear hp hT hok hs0;obtain⟨b0,b1,b2,b3,b4,bk,D,bn,A,B,C⟩:=J.o.pc;by_cases hz:cR p=0
 case neg=>
  have M:Ei (oM p L inst side= []):=af (if_pos (.inl (KB hz)));have hz1:(cR p !=0)=true:=by rw [bne_iff_ne];exact hz
  generalize cR p=cp at*;clear hz;go_enter Tryz.func102,Tryz.ntmps102;go_wp2_with fail;refine I.mono ?_;rintro e w1 ⟨rfl,hb1⟩;have F:=af (J.o.next hb1);clear I hb1 J b0 b1 b2 b3 b4 bk D bn A B C;go_wp2_with fail;go_ret;exact⟨_,rfl,by rw [M.o];exact bl.Row.nil _ _,F.o.aJ⟩
 case pos=>
 rw [hz]at I;by_cases hbad:CL p L inst side
 ·have M:Ei (oM p L inst side= []):=af (if_pos hbad);have hpos:=YK hz;unfold CL at hbad;have hcs:¬(L.length:Int)=countP p∨((L.length:Int)=countP p∧inst<0)∨((L.length:Int)=countP p∧¬inst<0∧countP p<=inst)∨((L.length:Int)=countP p∧¬inst<0∧¬countP p<=inst∧¬side=1∧¬side=2):=bh;clear hbad hz hpos;generalize L.length=ln at*;obtain⟨n,hn⟩:=ai (countP p:Int);rw [hn]at N hcs hcb;clear hn;rcases hcs with h|⟨rfl,h⟩|⟨rfl,h1,h⟩|⟨rfl,h1,h2,h3,h4⟩
  ·have e2:((ln:Int) !=n)=true:=by rw [bne_iff_ne];exact h
   clear h;go_enter Tryz.func102,Tryz.ntmps102;go_wp2_with fail;refine I.mono ?_;rintro e w1 ⟨rfl,hb1⟩;have F:=af (J.o.next hb1);clear I hb1 J;obtain⟨b0,b1,b2,b3,b4,bk,D,bn,A,B,C⟩:=F.o.pc;go_wp2_with fail;refine(N.o _ F.o.pv).mono ?_;rintro e w2 ⟨rfl,hb2⟩;have H:=af (F.o.next hb2);clear hb2 F b0 b1 b2 b3 b4 bk D bn A B C;go_wp2_with fail;go_ret;exact⟨_,rfl,by rw [M.o];exact bl.Row.nil _ _,H.o.aJ⟩
  ·go_enter Tryz.func102,Tryz.ntmps102;go_wp2_with fail;refine I.mono ?_;rintro e w1 ⟨rfl,hb1⟩;have F:=af (J.o.next hb1);clear I hb1 J;obtain⟨b0,b1,b2,b3,b4,bk,D,bn,A,B,C⟩:=F.o.pc;go_wp2_with fail;refine(N.o _ F.o.pv).mono ?_;rintro e w2 ⟨rfl,hb2⟩;have H:=af (F.o.next hb2);clear hb2 F b0 b1 b2 b3 b4 bk D bn A B C;go_wp2_with fail;go_ret;exact⟨_,rfl,by rw [M.o];exact bl.Row.nil _ _,H.o.aJ⟩
  ·go_enter Tryz.func102,Tryz.ntmps102;go_wp2_with fail;refine I.mono ?_;rintro e w1 ⟨rfl,hb1⟩;have F:=af (J.o.next hb1);clear I hb1 J;obtain⟨b0,b1,b2,b3,b4,bk,D,bn,A,B,C⟩:=F.o.pc;go_wp2_with fail;refine(N.o _ F.o.pv).mono ?_;rintro e w2 ⟨rfl,hb2⟩;have H:=af (F.o.next hb2);clear hb2 F b0 b1 b2 b3 b4 bk D bn A B C;go_wp2_with fail;go_ret;exact⟨_,rfl,by rw [M.o];exact bl.Row.nil _ _,H.o.aJ⟩
  have bJ:(side==1)=false:=by rw [beq_eq_false_iff_ne];exact h3
  have cV:(side==2)=false:=by rw [beq_eq_false_iff_ne];exact h4
  have su:(side !=1)=true:=by rw [bne_iff_ne];exact h3
  have vN:(side !=2)=true:=by rw [bne_iff_ne];exact h4
  clear h3 h4;go_enter Tryz.func102,Tryz.ntmps102;go_wp2_with fail;refine I.mono ?_;rintro e w1 ⟨rfl,hb1⟩;have F:=af (J.o.next hb1);clear I hb1 J;obtain⟨b0,b1,b2,b3,b4,bk,D,bn,A,B,C⟩:=F.o.pc;go_wp2_with fail;refine(N.o _ F.o.pv).mono ?_;rintro e w2 ⟨rfl,hb2⟩;have H:=af (F.o.next hb2);clear hb2 F b0 b1 b2 b3 b4 bk D bn A B C;go_wp2_with fail;go_ret;exact⟨_,rfl,by rw [M.o];exact bl.Row.nil _ _,H.o.aJ⟩
 have YL:=af (show oM p L inst side=_ from if_neg hbad);unfold CL at hbad;have hlc:(L.length:Int)=countP p:=bh;have zS:¬inst<0:=bh;have hi1:¬countP p<=inst:=bh;have s:side=1∨side=2:=bh;obtain⟨i,rfl⟩:∃i:Nat,inst=(i:Int):=⟨inst.toNat,bh⟩;have M:=af YL.o;have Q:=af hlc;have hi2:¬(L.length:Int)<=(i:Int):=bh;have Y:=af hi2;have d:=af fun ax (h:gM ax p)=>Hv p i ax h;have U:=af fun(a b:Int) ax (h:gM ax p)=>ahW p a b ax h;have t:=af (pI hz);have W:=af hz;have T:=af s;have YM:=af fun w=>afe side w s;have YN:3-side=1∨3-side=2:=bh;have YO:=af YN;unfold Prod.agg Prod.cells at d U;rw [<-hlc]at N;clear hbad hlc hi1 hz hcb s YN YL;clear b0 b1 b2 b3 b4 bk D bn A B C;go_enter Tryz.func102,Tryz.ntmps102;go_upto_region 1 with(fail);go_cut [46] (fun u wx=>u= .bool false∧sK w wx p ta L [] (.slice none 0 0))
 case first=>
  have hlt:decide ((i:Int)<0)=false:=decide_eq_false bh;have hle:decide (L.length<=i)=false:=decide_eq_false bh;have m7:=af hlt;have uL:=af hle;clear hlt hle;rcases T.o with rfl|rfl;all_goals
   obtain⟨b0,b1,b2,b3,b4,bk,D,bn,A,B,C⟩:=J.o.pc;go_wp2_with fail;refine I.mono ?_;rintro e w1 ⟨rfl,hb1⟩;have r:=af (J.o.next hb1);clear hb1 b0 b1 b2 b3 b4 bk D bn A B C;obtain⟨b0,b1,b2,b3,b4,bk,D,bn,A,B,C⟩:=r.o.pc;go_wp2_with fail;refine(N.o _ r.o.pv).mono ?_;rintro e w2 ⟨rfl,hb2⟩;have H:=af (r.o.next hb2);clear hb2 b0 b1 b2 b3 b4 bk D bn A B C;go_wp2_with fail;go_meet;exact⟨by first|rfl|(rw [m7.o,uL.o];rfl),H.o⟩
 case rest=>
 obtain⟨rfl,hS⟩:=hcut;have H:=af hS;clear hS I J N hi2;obtain⟨b0,b1,b2,b3,b4,bk,D,bn,A,B,C⟩:=H.o.pc;go_wp2_with fail;refine(d.o _ H.o.pv).mono ?_;rintro e w3 ⟨rfl,hb⟩;have X:=af (H.o.next hb);clear hb b0 b1 b2 b3 b4 bk D bn A B C H d;cases hsp:(gf p i).2.2 with
 |false=>
  have cM:=af (show i<p.months.length by
   obtain⟨i',h1,h2⟩:=YP (p:=p) (inst:=i) bh (by have:=Q.o;have:=Y.o;omega) hsp;unfold gf at h1;rw [if_neg (by have:=Q.o;have:=Y.o;omega)]at h1;by_cases h3:(i:Int)<p.months.length
   ·omega
   rw [if_neg h3]at h1;injection h1 with _ h1;injection h1 with _ h1;cases h1)
  have yM:Ei (oM p L i side=qY p L i side (p.months.length-(i+1))++uC p L i side i):=af (by rw [M.o,if_neg (by rw [hsp];simp),Int.toNat_natCast]);have gp:=cM.o;have hmx:p.months.length<=6:=t.o.2;clear M hsp zS;go_wp2_with fail;go_loopw [12,13] (fun o j w'=>∃(k:Nat) (v:Value),o=v∧j=↑((i:Int)+1+(k:Int))∧i+1+k<=p.months.length∧sK w w' p ta L (qY p L i side k) v) (fun _ j _=>p.months.length-(RowKit.intOf j).toNat)
  case atStart=>exact⟨0,_,rfl,congrArg (Value.int .i64) bh,bh,X.o⟩
  clear X;obtain⟨k,v,ho,rfl,hk,hA⟩:=hrel;replace ho:=ho.symm;subst ho;obtain⟨ax,rfl⟩:=aj wr;have G:=af hA;clear hA;have y1:IntKind.i64.wrap ((i:Int)+1+(k:Int)+1)=(i:Int)+1+(k:Int)+1:=IntWalk.i64_in _ bh;by_cases hkn:i+1+k<p.months.length
  ·have G1:(i:Int)+1+(k:Int)<(p.months.length:Int):=by omega
   obtain⟨a,hsp,f,Z⟩:=M5 W.o (bh:i<i+1+k) hkn;have hs:=U.o (i:Int) ((i:Int)+1+(k:Int)) _ G.o.pv;have hnn:((i+1+k:Nat):Int)=(i:Int)+1+(k:Int):=bh;rw [hnn]at hsp;rw [hsp]at hs;have hal:a<L.length:=by have:=Q.o;omega
   have R:i+1+k<L.length:=by have:=Q.o;omega
   have hlen:=Qo p L i side k;have z:Ei (qY p L i side (k+1)=qY p L i side k++(uR L (a:Int) side ((i:Int)+1+(k:Int)) side 1).toList):=af (by show qY p L i side k++(qh L (rO p (i:Int) ((i+1+k:Nat):Int)).1 side ((i+1+k:Nat):Int) side false).toList=_;rw [hnn,hsp];rfl);clear hsp f Z;obtain⟨b0,b1,b2,b3,b4,bk,D,bn,A,B,C⟩:=G.o.pc;go_wp2_with fail;refine hs.mono ?_;rintro e V ⟨rfl,hb⟩;have E:=af (G.o.next hb);have hjn:=RG p i ta c L ↑w v _ V E.o.rd E.o.row E.o.aJ.size (bh:(qY p L i side k).length<=1000) a (i+1+k) side side 1 hal R T.o T.o q.o (.inl rfl);rw [hnn]at hjn;unfold Prod.agg Prod.cells at hjn;have O:=af hjn;clear hb hs hjn hnn G b0 b1 b2 b3 b4 bk D bn A B C;obtain⟨b0,b1,b2,b3,b4,bk,D,bn,A,B,C⟩:=E.o.pc;go_wp2_with fail;refine O.o.mono ?_;rintro e aA ⟨v',rfl,hr,hb⟩;rw [<-z.o]at hr;have P:=af (E.o.made hr hb);clear hr hb O E b0 b1 b2 b3 b4 bk D bn A B C;go_wp2_with fail;go_roundw
   case rel=>exact⟨k+1,v',rfl,congrArg (Value.int .i64) bh,bh,P.o⟩
   exact Ej
  have G1:¬(i:Int)+1+(k:Int)<(p.months.length:Int):=bh;obtain rfl:k=p.months.length-(i+1):=bh;have wT:Ei (p.months.length-(i+1)<=6):=af bh;have amX:i<=6:=bh;generalize p.months.length-(i+1)=k at*;obtain⟨b0,b1,b2,b3,b4,bk,D,bn,A,B,C⟩:=G.o.pc;go_wp2_with fail;clear b0 b1 b2 b3 b4 bk D bn A B C;go_loopw [12,16] (fun o j w'=>∃(m:Nat) (v:Value),o=v∧j=↑m∧m<=i∧sK w w' p ta L (qY p L i side k++uC p L i side m) v) (fun _ j _=>i-(RowKit.intOf j).toNat)
  case atStart=>exact⟨0,v,rfl,rfl,Nat.zero_le _,by rw [show uC p L i side 0= []from rfl,List.append_nil];exact G.o⟩
  clear G hk hkn G1 y1;obtain⟨m,v2,ho,rfl,hm,hA⟩:=hrel;replace ho:=ho.symm;subst ho;obtain⟨wy,rfl⟩:=aj wr;have G:=af hA;clear hA;by_cases g:m<i
  ·have amY:(m:Int)<(i:Int):=by omega
   obtain⟨a,hsp,f,Z⟩:=M5 W.o g gp;have hs:=U.o (m:Int) (i:Int) _ G.o.pv;rw [hsp]at hs;have hal:a<L.length:=by have:=Q.o;omega
   have R:m<L.length:=by have:=Y.o;omega
   have hlen:(qY p L i side k++uC p L i side m).length<=1000:=by have h1:=Qo p L i side k;have h2:=WK p L i side m;rw [List.length_append];have:=wT.o;omega
   have z:Ei (qY p L i side k++uC p L i side (m+1)=qY p L i side k++uC p L i side m++(uR L (a:Int) (3-side) (m:Int) side 0).toList):=af (by show qY p L i side k++(uC p L i side m++(qh L (rO p (m:Int) (i:Int)).1 (3-side) (m:Int) side true).toList)=_;rw [hsp,List.append_assoc];rfl);clear hsp f Z;obtain⟨b0,b1,b2,b3,b4,bk,D,bn,A,B,C⟩:=G.o.pc;go_wp2_with fail;refine hs.mono ?_;rintro e V ⟨rfl,hb⟩;have E:=af ((G.o.next hb).next (Below.bO V 1));have hjn:=RG p i ta c L ↑w v2 _ (V.drewN 1) E.o.rd E.o.row E.o.aJ.size hlen a m (3-side) side 0 hal R YO.o T.o q.o (.inr (.inl rfl));unfold Prod.agg Prod.cells at hjn;have O:=af hjn;clear hb hs hjn G b0 b1 b2 b3 b4 bk D bn A B C;go_wp2_with fail;refine cP (S:=fun w'=>w'.cell? ↑w.heap.size=some (.string p.code)∧w'.cell? ⟨w.heap.size,1,none⟩=some (.slice p.ma p.months.length p.mc)∧w'.cell? ⟨w.heap.size,2,none⟩=↑p.tick∧w'.cell? ⟨w.heap.size,3,none⟩=↑p.low∧w'.cell? ⟨w.heap.size,4,none⟩=↑p.high∧w'.cell? ⟨w.heap.size,5,none⟩=↑p.wide∧w'.cell? ⟨w.heap.size,6,none⟩=↑p.rule∧w'.cell? ⟨w.heap.size,7,none⟩=↑p.top∧w'.cell? ⟨w.heap.size,8,none⟩=↑p.least∧w'.cell? ⟨w.heap.size,9,none⟩=↑p.part∧w'.cell? ⟨w.heap.size,10,none⟩=some (.slice p.sa p.settle.length p.sc)) E.o.pc fun hHeld=>?_;refine eX [0,1,2,3,4,5,8,9,10] ?_;refine aU 6 fun K hK=>?_;go_simp;go_at_call 111;refine(YM.o _).mono ?_;rintro e l ⟨rfl,rfl⟩;refine hK.out _ _ E.o.pc (fun hHeld=>?_);clear hK K;refine eX [7] ?_;refine aU 11 fun K hK=>?_;go_simp;go_at_call 131;refine O.o.mono ?_;rintro e aA ⟨v',rfl,hr,hb⟩;rw [<-z.o]at hr;have P:=af (E.o.made hr hb);clear hr hb O E;refine hK.out _ _ P.o.pc (fun hHeld=>?_);clear hK K;refine gu _ _ _ _ ?_;refine ej 12 ?_;refine gw ?_;clear hHeld;go_wp2_with fail;go_roundw
   case rel=>exact⟨m+1,v',rfl,dR,bh,P.o⟩
   exact Ej
  obtain rfl:m=i:=bh;have hrow:=G.o.row;rw [<-yM.o]at hrow;have bM:=af hrow;have iK:=af G.o.aJ;clear hrow G;go_wp2_with fail;go_ret;exact⟨_,rfl,bM.o,iK.o⟩
 |true=>
  obtain⟨_,n1,n2,y,hij,hjn,_,_⟩:=RI hsp;have hal:n1<L.length:=by have:=Q.o;have:=yt W.o;have:=yN p.months.length t.o.2;omega
  have R:n2<L.length:=by have:=Q.o;have:=yt W.o;have:=yN p.months.length t.o.2;omega
  have yM:Ei (oM p L i side= []++(uR L (n1:Int) side (n2:Int) (3-side) (-1)).toList):=af (by rw [M.o,if_pos hsp,y];rfl);rw [y];have E:=af (X.o.next (Below.bO w3 1));have hjn:=RG p i ta c L ↑w (.slice none 0 0) [] (w3.drewN 1) E.o.rd E.o.row E.o.aJ.size (Nat.zero_le _) n1 n2 side (3-side) (-1) hal R T.o YO.o q.o (.inr (.inr rfl));rw [<-yM.o]at hjn;unfold Prod.agg Prod.cells at hjn;have O:=af hjn;clear hsp y M hij hjn U Y X;go_wp2_with fail;refine cP (S:=fun w'=>w'.cell? ↑w.heap.size=some (.string p.code)∧w'.cell? ⟨w.heap.size,1,none⟩=some (.slice p.ma p.months.length p.mc)∧w'.cell? ⟨w.heap.size,2,none⟩=↑p.tick∧w'.cell? ⟨w.heap.size,3,none⟩=↑p.low∧w'.cell? ⟨w.heap.size,4,none⟩=↑p.high∧w'.cell? ⟨w.heap.size,5,none⟩=↑p.wide∧w'.cell? ⟨w.heap.size,6,none⟩=↑p.rule∧w'.cell? ⟨w.heap.size,7,none⟩=↑p.top∧w'.cell? ⟨w.heap.size,8,none⟩=↑p.least∧w'.cell? ⟨w.heap.size,9,none⟩=↑p.part∧w'.cell? ⟨w.heap.size,10,none⟩=some (.slice p.sa p.settle.length p.sc)) E.o.pc fun hHeld=>?_;refine eX [0,1,2,3,4,5,6,7] ?_;refine aU 8 fun K hK=>?_;go_simp;go_at_call 111;refine(YM.o _).mono ?_;rintro e l ⟨rfl,rfl⟩;refine hK.out _ _ E.o.pc (fun hHeld=>?_);clear hK K;refine eX [9] ?_;refine aU 10 fun K hK=>?_;go_simp;go_at_call 131;refine O.o.mono ?_;rintro e aA ⟨v',rfl,hr,hb⟩;have P:=af (E.o.made hr hb);clear hr hb O E;refine hK.out _ _ P.o.pc (fun hHeld=>?_);clear hK K;refine gu _ _ _ _ ?_;refine ej 11 ?_;refine gw ?_;clear hHeld;go_wp2_with fail;go_ret;exact⟨_,rfl,P.o.row,P.o.aJ⟩
def mA (p:Prod) (L:List dK) (inst side:Int):List dg:=(oM p L inst side).filter (fun q=>eW p inst q.ap==0)
structure xB (w w1:World) (p:Prod) (va:Value) (A:List dg) (fh:Value) (O:List dg):Prop where
 aJ:Below ↑w w w1
 box:av w1 ↑w 25 p.cells
 E6:gM w p
 ra:kz.Row w1 ↑w va A
 ro:kz.Row w1 ↑w fh O
 jP:∀g,va.ownBlock=some g->fh.ownBlock≠some g
section
variable {w w1 w2 w3:World} {p:Prod} {va fh HE:Value} {A O:List dg}
theorem xB.pv (h:xB w w1 p va A fh O):gM w1 p:=h.E6.below h.aJ
theorem xB.pc (h:xB w w1 p va A fh O):PC w1 ↑w p:=PC.oQ h.box
theorem xB.next (h:xB w w1 p va A fh O) (hb:Below ↑w1 w1 w2):xB w w2 p va A fh O:=
 ⟨h.aJ.trans (hb.mono h.aJ.size),h.box.below hb,h.E6,h.ra.below hb,h.ro.below hb,h.jP⟩
theorem xB.push (h:xB w w1 p va A fh O) {q:dg} (hr:kz.Row w2 ↑w HE (O++ [q])) (hg:w1.grownBy w2 fh.ownBlock) (ho:HE.ownBlock=fh.ownBlock∨HE.ownBlock=some ↑w1):xB w w2 p va A HE (O++ [q]):=by
 have hk:=fK hg;have B:=cS h.ro;refine⟨h.aJ.trans (hk.below B h.aJ.size),h.box.keeps hk (fun hh=>(eo h.ro _ hh).ne h.box.aE b9 rfl),h.E6,zv h.ra hk (fun g h1 h2=>h.jP g h1 h2),hr,fun g h1 h2=>?_⟩;rcases ho with ho|ho
 ·rw [ho]at h2;exact h.jP g h1 h2
 rw [ho]at h2;injection h2 with h2;have:=ki h.ra g h1;omega
end
theorem Q2 (p:Prod) (inst side:Int) (ta:Option Addr) (c:Nat) (L:List dK) (w:World) (hp:gM w p) (hT:qW.fR w ta L) (hok:∀x∈L,x.ok) (hL:L.length<=1000000) (hal:(oM p L inst side).length<=1000):
 Calls Tryz.prog 60 #[p.agg,.slice ta L.length c,↑inst,↑side] w fun e w'=>∃v,e= .returned v∧kz.Row w' ↑w v (mA p L inst side)∧Below ↑w w w':=by
 have s1:=ak;have hx0:av (w.alloc (.cells ↑p 25)) ↑w 25 p.cells:=av.new _ _ _;have hb0:Below ↑w w (w.alloc (.cells ↑p 25)):=Below.aI _ _;have N:=af (YJ p inst side ta c L _ (hp.below hb0) (hT.below hb0) hok hL);have m:=af fun(x:Int) ax (h:gM ax p)=>DM p inst x ax h;unfold Prod.agg Prod.cells at N m⊢;unfold mA;generalize oM p L inst side=A at*;have Z:=af hx0;have J:=af hb0;have W:=af hp;clear hp hT hok hL hx0 hb0;go_enter Tryz.func60,Tryz.ntmps60;go_wp2_with fail;refine N.o.mono ?_;rintro e w1 ⟨va,rfl,G,hb⟩;have hS:xB w w1 p va A (.slice none 0 0) []:=⟨J.o.trans (hb.mono J.o.size),Z.o.below hb,W.o,⟨G.1,G.2.imp id (fun⟨g,c,P,h1,h2,h3⟩=>⟨g,c,P,h1,Nat.le_trans J.o.size h2,h3⟩)⟩,bl.Row.nil _ _,fun g _ h=>by cases h⟩;have C:=af hS;obtain⟨aa,ac,t⟩:=G.form;subst t;clear hS G hb Z J N W;go_wp2_with fail;go_loopw [10,11] (fun o j w'=>∃(k:Nat) (fh:Value),fh=o∧j=↑k∧k<=A.length∧xB w w' p (.slice aa A.length ac) A fh ((A.take k).filter (fun q=>eW p inst q.ap==0))) (fun _ j _=>A.length-(RowKit.intOf j).toNat)
 case atStart=>exact⟨0,_,rfl,rfl,Nat.zero_le _,C.o⟩
 clear C;obtain⟨k,fh,ho,rfl,hk,hS⟩:=hrel;subst ho;obtain⟨ax,rfl⟩:=aj wr;have C:=af hS;clear hS;by_cases hkn:k<A.length
 ·have G1:(k:Int)<(A.length:Int):=by omega
  obtain⟨q,hq⟩:=GB A k hkn;obtain⟨g,cap,Q,d,V⟩:=C.o.ra.at_ k q hq;injection Q with i a z;clear a;subst i;subst z;have hlen:((A.take k).filter (fun q=>eW p inst q.ap==0)).length<=1000:=by have h1:=List.length_filter_le (fun q=>eW p inst q.ap==0) (A.take k);have h2:=List.length_take_le k A;omega
  have F:Ei ((A.take (k+1)).filter (fun q=>eW p inst q.ap==0)=(A.take k).filter (fun q=>eW p inst q.ap==0)++(if(eW p inst q.ap==0)=true then [q]else [])):=af (by
   rw [List.take_add_one,hq,List.filter_append]
   congr 1
   show List.filter _ [q]=_;rw [List.filter_cons];rfl)
  generalize (A.take k).filter (fun q=>eW p inst q.ap==0)=O at*;have T:=m.o q.ap;obtain⟨pr,r⟩:=ai (eW p inst q.ap);rw [r]at T F;have R:=af T;have D:Ei (∀wv,Below ↑ax ax wv->iI wv g (k*6) q.cells):=af fun wv hb=>V.below hb d;clear r T V hq;have M:=af (C.o.next (Below.bO ax 1));have c0:(ax.drewN 1).cell? ↑(g,k*6)=↑q.ap:=D.o _ (Below.bO ax 1) 0 _ rfl;clear d;go_wp2_with fail;refine cP (S:=fun w'=>(w'.cell? ↑w.heap.size=some (.string p.code)∧w'.cell? ⟨w.heap.size,1,none⟩=some (.slice p.ma p.months.length p.mc)∧w'.cell? ⟨w.heap.size,2,none⟩=↑p.tick∧w'.cell? ⟨w.heap.size,3,none⟩=↑p.low∧w'.cell? ⟨w.heap.size,4,none⟩=↑p.high∧w'.cell? ⟨w.heap.size,5,none⟩=↑p.wide∧w'.cell? ⟨w.heap.size,6,none⟩=↑p.rule∧w'.cell? ⟨w.heap.size,7,none⟩=↑p.top∧w'.cell? ⟨w.heap.size,8,none⟩=↑p.least∧w'.cell? ⟨w.heap.size,9,none⟩=↑p.part∧w'.cell? ⟨w.heap.size,10,none⟩=some (.slice p.sa p.settle.length p.sc))∧w'.cell? ⟨g,k*6,none⟩=↑q.ap) ⟨M.o.pc,c0⟩ fun hHeld=>?_;refine eX [0,1,2,3,4,5,6] ?_;refine aU 7 fun K hK=>?_;go_simp;go_at_call 67;refine(R.o _ M.o.pv).mono ?_;rintro e B ⟨rfl,hb⟩;have I:=af (M.o.next hb);have E:Ei (Below ↑ax ax B):=af ((Below.bO ax 1).trans hb);have c1:B.cell? ↑(g,k*6)=↑q.ap:=D.o _ E.o 0 _ rfl;refine hK.out _ _ ⟨I.o.pc,c1⟩ (fun hHeld=>?_);clear hK K;refine gu _ _ _ _ ?_;refine ej 8 ?_;refine gw ?_;clear hHeld hb c0 c1 M C;cases hz:(pr==0)with
  |false=>
   rw [hz,if_neg cU,List.append_nil]at F;go_wp2_with fail;go_roundw
   case rel=>exact⟨k+1,fh,rfl,dR,bh,by rw [F.o];exact I.o⟩
   exact Ej
  |true=>
   rw [hz,if_pos rfl]at F;have q0:B.cell? ↑(g,k*6)=↑q.ap:=D.o _ E.o 0 _ rfl;have q1:B.cell? ↑(g,k*6+1)=↑q.aq:=D.o _ E.o 1 _ rfl;have y:B.cell? ↑(g,k*6+2)=↑q.i0:=D.o _ E.o 2 _ rfl;have f:B.cell? ↑(g,k*6+3)=↑q.s0:=D.o _ E.o 3 _ rfl;have n:B.cell? ↑(g,k*6+4)=↑q.i1:=D.o _ E.o 4 _ rfl;have yQ:B.cell? ↑(g,k*6+5)=↑q.s1:=D.o _ E.o 5 _ rfl;have hnew:av (B.alloc (.cells #[↑q.ap,↑q.aq,↑q.i0,↑q.s0,↑q.i1,↑q.s1] 192)) ↑B 192 #[↑q.ap,↑q.aq,↑q.i0,↑q.s0,↑q.i1,↑q.s1]:=av.new _ _ _;have U:=af hnew;have H:=af (I.o.next (Below.aI B (.cells #[↑q.ap,↑q.aq,↑q.i0,↑q.s0,↑q.i1,↑q.s1] 192)));clear hnew;go_wp2_with (first
    |(at_builtin;refine kz.push rfl (.tmp 32) (.tmp 37) rfl ↑w fh O rfl H.o.ro ↑B q rfl U.o.lt U.o.gH bh H.o.aJ.size ?_))
   intro HE aN Y b l;have X:=af (H.o.push Y b (by rw [s1];exact l));clear Y b l q0 q1 y f n yQ H U I;rw [<-F.o]at X;go_wp2_with fail;go_roundw
   case rel=>exact⟨k+1,HE,rfl,dR,bh,X.o⟩
   exact Ej
 obtain rfl:k=A.length:=bh;have hro:=C.o.ro;rw [List.take_length]at hro;have s:=af hro;have u:=af C.o.aJ;clear hro C;go_wp2_with fail;go_ret;exact⟨_,rfl,s.o,u.o⟩
end Go.Proofs.YtmaijkoopjocdaaGreat
