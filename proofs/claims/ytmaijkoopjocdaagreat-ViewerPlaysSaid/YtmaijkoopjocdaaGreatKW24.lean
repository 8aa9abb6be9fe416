import Derived.Test.YtmaijkoopjocdaaGreatKW18
import Derived.Test.YtmaijkoopjocdaaGreatKW23
set_option maxRecDepth 100000
set_option maxHeartbeats 64000000
namespace Go.Proofs.YtmaijkoopjocdaaGreat
open Go.RowKit Go.Lib
theorem L2 {w:World} {B:Nat} {v:Value} {V:bG} (h:cg eJ bK w B v V) (hB:B<=w.heap.size) (hl:V.length<=255) {K:Nat} (hK:fX V K) (A:K<=800000) (C:xU V) {m:aF} (hf:Az V.length m):
 Calls Tryz.prog 55 #[.agg #[v],m.agg] w fun e w'=>∃v',e= .returned (.tuple #[.agg #[v'],↑()])∧cg eJ bK w' B v' (gm m V)∧Below ↑w w w':=by
 obtain⟨f1,f2,f3,f4,f5,f6⟩:=hf;obtain⟨q,ii,d,p,t,c,im⟩:=m;dsimp only at f1 f2 f3 f4 f5 f6;obtain⟨i,rfl⟩:∃i:Nat,ii=i:=⟨ii.toNat,bh⟩;have hi:i<V.length:=bh;rcases f3 with rfl|rfl
 ·exact Le (s:=0) b9 h hB hl hK A C hi f4 f5 f6
 exact Le (s:=1) b9 h hB hl hK A C hi f4 f5 f6
theorem bl.Row.Gv {α:Type} {Y:bl α} {w:World} {B:Nat} {v:Value} {L:List α} (h:Y.Row w B v L) (hv:v.ownBlock≠none):∃g cap cur,v= .slice (some ⟨g,0,none⟩) L.length cap∧B<=g∧av w g Y.t cur:=by
 rcases h.2 with⟨rfl,h0⟩|⟨g,cap,cur,hv,hb,hh,_⟩
 ·exact absurd rfl hv
 exact⟨g,cap,cur,hv,hb,hh⟩
theorem bl.s9 {α:Type} (Y:bl α) {w:World} {ops:Array Oper} {o:Oper} {a:Act} {K:Act->World->Prop} {Q:Exit->Act->World->Prop} {E:Prop} (hgd:o.guard=none) (s x:Operand)
 (ho:o.op= .call {callee:= .builtin .append,args:=#[s,x],argTypes:=#[Y.ts,Y.ts]})
 (B g0 c0 n m:Nat) (L:List α) (hn:L.length=n) (hs:a.eval s= .slice ↑g0 n c0) (hown:Y.Row w B (.slice ↑g0 n c0) L)
 (b off c:Nat) (M:List α) (hm:M.length=m) (hx:a.eval x= .slice (some ⟨b,off,none⟩) m c) (hr:Y.fR w (some ⟨b,off,none⟩) M)
 (nm:Nat) (hnm:n+m=nm) (hle:n+m<=1000000) (hbase:B<=w.heap.size)
 (h:∀g cap w',Y.Row w' B (.slice (some ⟨g,0,none⟩) nm cap) (L++M)->w.grownBy w' (some g0)->(g=g0∨g=w.heap.size)->K (a.put o.dst (.slice (some ⟨g,0,none⟩) nm cap)) w'):
 if Region.wanted o (yielded ops a.tmps)=true then Oper.wp Tryz.prog o a w K Q else E:=by
 subst hn;subst hm;subst hnm;have hw:Region.wanted o (yielded ops a.tmps)=true:=by simp [Region.wanted,hgd]
 rw [if_pos hw];obtain⟨v',w',hrun,h2,h3,h5⟩:=Y.KH o.type hown ⟨b,off,none⟩ c M hr hle hbase;obtain⟨g,cap,cur,rfl,_,_⟩:=h2.Gv (by
  rcases h5 with h5|h5
  ·rw [h5];simp [Value.ownBlock]
  rw [h5];simp)
 unfold Oper.wp execOp;simp only [ho,resolve,invoke,builtin,Sem.run_bind,Sem.run_pure,Result.andThen_ok,List.map_toArray,List.map_cons,List.map_nil,hs,hx,hrun];rw [List.length_append]at h2⊢;refine h g cap w' h2 h3 ?_;rcases h5 with h5|h5
 ·have h6:some g=some g0:=h5;injection h6 with h6;exact .inl h6
 have h6:some g=some w.heap.size:=h5;injection h6 with h6;exact .inr h6
theorem L3 {q:Int} {H:List aF} (h:H.findIdx? (fun m=>m.seq==q)=none):fF q 0 H= -1:=by rw [vG,h]
theorem arQ {q:Int} {H:List aF} {k:Nat} (h:H.findIdx? (fun m=>m.seq==q)=some k):fF q 0 H=k:=by rw [vG,h];show((0+k:Nat):Int)=k;rw [Nat.zero_add]
theorem L4 {q:Int} {H:List aF} (h:∀m∈H,m.seq≠q):H.findIdx? (fun m=>m.seq==q)=none:=by rw [List.findIdx?_eq_none_iff];intro m hm;exact beq_eq_false_iff_ne.2 (h m hm)
theorem Mf {f:Nat} {s:ig} (h:s.H.findIdx? (fun m=>m.seq==s.seq+1)=none):RX f s=s:=by
 cases f with
 |zero=>rfl
 |succ f=>unfold RX;rw [h]
theorem arR {V:bG} {q:Int} {H:List aF} {k:Nat} {m:aF} (h:H.findIdx? (fun m=>m.seq==q+1)=some k) (hm:H[k]? =some m):
 RX H.length ⟨V,q,H⟩=RX (H.take k++H.drop (k+1)).length ⟨gm m V,q+1,H.take k++H.drop (k+1)⟩:=by
 have hl:H.length=(H.take k++H.drop (k+1)).length+1:=by have:=(Mh hm).length_eq;rwa [List.length_cons]at this
 generalize (H.take k++H.drop (k+1)).length=L at hl⊢;rw [hl]
 conv=>{lhs;unfold RX}
 dsimp only;rw [h];dsimp only;rw [hm]
structure IG (W w wr:World) (pw:Nat) (hw:Value) (s:ig) (k:Nat) (hw':Value) (V:bG) (q:Int) (H:List aF):Prop where
 rv:sM W wr pw hw' ⟨V,q,H⟩
 kN:aK (fun g=>g=pw) w wr
 own:∀g,hw'.ownBlock=some g->hw.ownBlock=some g∨w.heap.size<=g
 qO:RX H.length ⟨V,q,H⟩=RX s.H.length s
 len:H.length<=k
 vl:V.length=s.V.length
 oH:xU V
 sz:∃j,fX V j∧j+H.length<=500000
 JI:∀m∈H,Bc s.V.length m
 q0:0<=q
 q1:q<=9223372036854775807
section
variable {W w w':World} {pw:Nat} {hw:Value} {s:ig}
theorem JR (h:sM W w pw hw s) (hl:s.V.length<=255) (hsz:∃j,fX s.V j∧j+s.H.length<=500000) (n7:xU s.V) (Wv:∀m∈s.H,Bc s.V.length m) (jW:0<=s.seq) (hq1:s.seq<=9223372036854775807):
 Calls Tryz.prog 53 #[.pointer ↑pw] w fun e w'=>e= .returned (.tuple #[])∧∃hw',sM W w' pw hw' (RX s.H.length s)∧aK (fun g=>g=pw) w w'∧∀g,hw'.ownBlock=some g->hw.ownBlock=some g∨w.heap.size<=g:=by
 have Ww:Ei (IG W w w pw hw s s.H.length hw s.V s.seq s.H):=af ⟨h,aK.refl _ _,fun g hg=> .inl hg,rfl,Nat.le_refl _,rfl,n7,hsz,Wv,jW,hq1⟩;clear h hsz n7 Wv jW hq1;go_enter Tryz.func53,Tryz.ntmps53;go_wp2_with fail;go_loopg [] s.H.length (fun k wr=>∃(hw':Value) (V:bG) (q:Int) (H:List aF),IG W w wr pw hw s k hw' V q H)
 case atStart=>exact⟨_,_,_,_,Ww.o⟩
 clear Ww;obtain⟨hw1,V,q,H,hF⟩:=hrel;obtain⟨ax,rfl⟩:=aj wr;have A:=af hF;obtain⟨a,c,N,fj⟩:=hF.rv.box;obtain⟨jO,ch,gU⟩:=hF.rv.held.form;subst gU;have Q:=af N;have e5:=af fj;have jW:=hF.q0;have hq1:=hF.q1;have A2:H.length<=500000∨True:= .inr trivial;have O:H.length<=500000:=by obtain⟨j,_,hj2⟩:=hF.sz;omega
 have k1:=N.GD;clear N hF fj A2;by_cases hmx:q=9223372036854775807
 ·subst hmx;have lu:Ei (RX H.length ⟨V,9223372036854775807,H⟩=⟨V,9223372036854775807,H⟩):=af (Mf (L4 fun m hm=>by have:=(A.o.JI m hm).o.seq.2;dsimp only;omega));have C:=af (zj A.o.rv (by exact O) (-9223372036854775808));rw [L3 (L4 fun m hm=>by have:=(A.o.JI m hm).s1;omega)]at C;go_wp2_with fail;rw [show wrap64 9223372036854775808= -9223372036854775808 by first|rfl|decide|(unfold wrap64;decide)|simp [wrap64]];refine C.o.mono ?_;rintro e w2 ⟨rfl,rfl⟩;clear C;go_wp2_with fail;go_end0;refine⟨cF,_,?_,A.o.kN,A.o.own⟩;rw [<-A.o.qO,lu.o];exact A.o.rv
 have hq2:q+1<=9223372036854775807:=bh;have C:=af (zj A.o.rv (by exact O) (q+1));cases E:H.findIdx? (fun m=>m.seq==q+1)with
 |none=>have lu:Ei (RX H.length ⟨V,q,H⟩=⟨V,q,H⟩):=af (Mf E);rw [L3 E]at C;clear E;go_wp2_with fail;refine C.o.mono ?_;rintro e w2 ⟨rfl,rfl⟩;clear C;go_wp2_with fail;go_end0;refine⟨cF,_,?_,A.o.kN,A.o.own⟩;rw [<-A.o.qO,lu.o];exact A.o.rv
 |some k=>
  obtain⟨m,hm,hmem,sR⟩:=zk E;have Cx:=af (arR (V:=V) E hm);have cM:=af (A.o.JI m hmem);rw [arQ E]at C;have hk:k<H.length:=dM hm;have Yx:=af hm;obtain⟨g,cap,he,dr,hcs⟩:=A.o.rv.held.at_ k m hm;injection he with eb _ eS;subst eb;subst eS;have CJ:iI ax g (k*7) [↑m.seq,↑m.inst,↑m.side,↑m.ap,↑m.aq,↑m.count,↑m.imp]:=hcs;have L:=af CJ;have R:=af dr;have hkc:H.length<=ch:=by obtain⟨_,_,e,o,_⟩:=A.o.rv.held.sl;injection e with _ _ bJ;have:=o.2.2;rw [bJ];exact this
  clear E hm hmem sR hcs CJ dr;go_wp2_with fail;refine C.o.mono ?_;rintro e w2 ⟨rfl,rfl⟩;have z0:(0:Int)<=(k:Int):=bh;go_wp2_with fail;refine C.o.mono ?_;rintro e w2 ⟨rfl,rfl⟩;clear C;go_upto_region 2 with(fail);go_cut [31] (fun _ wx=>sM W wx pw (.slice (some ⟨g,0,none⟩) H.length ch) ⟨gm m V,q,H⟩∧aK (fun g=>g=pw) w wx)
  case first=>
   have z:Az V.length m:=by have h1:=A.o.vl;have h2:=cM.o.f;rw [<-h1]at h2;exact h2
   obtain⟨jj,sA,hj2⟩:=A.o.sz;have hap:=L2 (e5.o.below (Below.bO ax 1)) (B:=W.heap.size) (by exact A.o.rv.aJ.size) (by have:=A.o.vl;omega) sA bh A.o.oH z;unfold aF.agg at hap;have lO:=af hap;have U:Ei (∀wx,Below ↑ax ax wx->(fun w'=>w'.cell? ↑(pw,2)=some (.slice ↑g H.length ch)∧w'.cell? ↑(g,k*7)=↑m.seq∧w'.cell? ↑(g,k*7+1)=↑m.inst∧w'.cell? ↑(g,k*7+2)=↑m.side∧w'.cell? ↑(g,k*7+3)=↑m.ap∧w'.cell? ↑(g,k*7+4)=↑m.aq∧w'.cell? ↑(g,k*7+5)=↑m.count∧w'.cell? ↑(g,k*7+6)=↑m.imp) wx):=af fun wx hb=>by have hx:=Q.o.below hb;have hc:=L.o.below hb R.o;exact⟨hx.cell 2,hc 0 _ rfl,hc 1 _ rfl,hc 2 _ rfl,hc 3 _ rfl,hc 4 _ rfl,hc 5 _ rfl,hc 6 _ rfl⟩
   clear hap k1 sA hj2;refine cP (S:=fun w'=>w'.cell? ⟨pw,2,none⟩=some (.slice ↑g H.length ch)∧w'.cell? ⟨g,k*7,none⟩=↑m.seq∧w'.cell? ⟨g,k*7+1,none⟩=↑m.inst∧w'.cell? ⟨g,k*7+2,none⟩=↑m.side∧w'.cell? ⟨g,k*7+3,none⟩=↑m.ap∧w'.cell? ⟨g,k*7+4,none⟩=↑m.aq∧w'.cell? ⟨g,k*7+5,none⟩=↑m.count∧w'.cell? ⟨g,k*7+6,none⟩=↑m.imp) (U.o _ (Below.refl _ _).drew) fun hHeld=>?_;refine eX [0,1,2,3,5,6,7,8,9,10,11] ?_;refine aU 4 fun K hK=>?_;have b0:=Q.o.GC;go_simp;refine hK.out _ _ (U.o _ (Below.refl _ _).drew) (fun hHeld=>?_);clear hK K b0;refine aU 12 fun K hK=>?_;go_simp;refine lO.o.mono ?_;rintro e w3 ⟨v',rfl,J,hb3⟩;obtain⟨a3,c3,rfl⟩:=J.form;have I:Below ↑ax ax w3:=(Below.bO ax 1).trans hb3;refine hK.out _ _ (U.o _ I) (fun hHeld=>?_);clear hK K;have wW:Ei (sM W (w3.setCell ↑pw (.slice a3 (gm m V).length c3)) pw (.slice ↑g H.length ch) ⟨gm m V,q,H⟩):=af ((A.o.rv.below I).Sc J);have ol:Ei (aK (fun g=>g=pw) w (w3.setCell ↑pw (.slice a3 (gm m V).length c3))):=af (A.o.kN.trans ((Below.keeps I).trans (ct w3 pw 0 _)));have T:=Q.o.below I;have hne:g≠pw:=fun e=>(eo A.o.rv.held g rfl).ne Q.o.aE b9 e;have iG:=U.o _ I;have l:Ei ((fun w'=>w'.cell? ↑(pw,2)=some (.slice ↑g H.length ch)∧w'.cell? ↑(g,k*7)=↑m.seq∧w'.cell? ↑(g,k*7+1)=↑m.inst∧w'.cell? ↑(g,k*7+2)=↑m.side∧w'.cell? ↑(g,k*7+3)=↑m.ap∧w'.cell? ↑(g,k*7+4)=↑m.aq∧w'.cell? ↑(g,k*7+5)=↑m.count∧w'.cell? ↑(g,k*7+6)=↑m.imp) (w3.setCell ↑pw (.slice a3 (gm m V).length c3))):=af (by have WU:=(T.aW 0 (.slice a3 (gm m V).length c3)).cell 2;have F:=(L.o.below I R.o).keeps (ct w3 pw 0 (.slice a3 (gm m V).length c3)) (Nat.lt_of_lt_of_le R.o I.size) hne;exact⟨WU,F 0 _ rfl,F 1 _ rfl,F 2 _ rfl,F 3 _ rfl,F 4 _ rfl,F 5 _ rfl,F 6 _ rfl⟩);have q0:=T.GC;have k9:w3.frozen? ↑pw=false:=T.frozen 0;clear J hb3 I T lO hne;refine eX [13,14,16,17] ?_;refine lZ 15 18 (fun K hK=>?_) fun K hK=>?_
   ·go_simp;refine hK.out _ _ iG (fun hHeld=>?_);clear hK K;refine dY 18 fun K hK=>?_;go_simp;refine hK.out _ _ ?_;clear hK K hHeld q0 k9 iG l;go_wp2_with fail;go_meet;exact⟨wW.o,ol.o⟩
   go_simp;refine hK.out _ _ l.o (fun hHeld=>?_);clear hK K;refine dY 15 fun K hK=>?_;go_simp;refine hK.out _ _ ?_;clear hK K hHeld q0 k9 iG l;go_wp2_with fail;go_meet;exact⟨wW.o,ol.o⟩
  case rest=>
  obtain⟨M,P⟩:=hcut;obtain⟨p,rfl⟩:=aj wc;obtain⟨a5,b8,cx,_⟩:=M.box;have lq:=cx.GD;have z5:p.frozen? ↑(pw,1)=false:=cx.frozen 1;have Z:=af (M.Sb (q+1));have IP:=af (P.trans (ct p pw 1 (.int .i64 (q+1))));clear M P cx k1 Q e5 L R;go_upto_region 4 with(fail);clear lq z5;generalize p.setCell ⟨pw,1,none⟩ (.int .i64 (q+1))=D at*;obtain⟨a7,gL,bI,_⟩:=Z.o.box;have G:Ei (av D pw 116 #[.slice a7 (gm m V).length gL,.int .i64 (q+1),.slice ↑g H.length ch]):=af bI;have dN:Ei ((H.take k).length=k):=af (by rw [List.length_take];omega);have xb:Ei ((H.drop (k+1)).length=H.length-(k+1)):=af (by rw [List.length_drop]);obtain⟨off2,hoff⟩:∃off2,(if ch=k+1 then some (⟨g,0,none⟩:Addr)else some ⟨g,(k+1)*7,none⟩)=some ⟨g,off2,none⟩:=by by_cases h:ch=k+1;exact⟨0,if_pos h⟩;exact⟨(k+1)*7,if_neg h⟩
  have Cy:=af hoff;have om:Ei (hH.fR D ↑g H):=af (by obtain⟨a',c',e,_,hrd⟩:=Z.o.held.sl;injection e with e1 _ _;rw [e1];exact hrd);have D9:Ei (∀wx,Below ↑D D wx->hH.fR wx (some ⟨g,off2,none⟩) (H.drop (k+1))):=af (by
   intro wx N;have ho:=Cy.o;by_cases hcap:ch=k+1
   ·have h0:H.drop (k+1)= []:=List.eq_nil_of_length_eq_zero (by rw [xb.o];omega);rw [h0];exact bl.fR.nil
   rw [if_neg hcap]at ho;injection ho with ho;injection ho with _ ho;rw [<-ho];intro j e hj;rw [List.getElem?_drop]at hj;obtain⟨b,off,h1,h2,h3⟩:=(om.o.below N) (k+1+j) e hj;injection h1 with h1;injection h1 with h1 h4;subst h1 h4;refine⟨g,(k+1)*7,rfl,h2,?_⟩;rw [show(k+1)*7+j*hH.m=0+(k+1+j)*hH.m by show(k+1)*7+j*7=0+(k+1+j)*7;omega];exact h3)
  have fw:(0:Int)<=(k:Int)+1:=bh;have z2:k<=H.length:=bh;have z3:k<=ch:=bh;have z4:k+1<=H.length:=bh;have z5:(k:Int)+1<=(H.length:Int):=bh;have Gg:k+1<=ch:=bh;have AO:(k:Int)<=(H.length:Int):=bh;have z9:(k:Int)<=(ch:Int):=bh;have i:IntKind.i64.wrap ((k:Int)+1)=(k:Int)+1:=IntWalk.i64_in _ bh;have NI:=af (Below.bO D 1);clear bI;refine cP (S:=fun w'=>w'.cell? ⟨pw,2,none⟩=some (.slice ↑g H.length ch)) (G.o.cell 2) fun hHeld=>?_;refine eX [0,2,3,4,5,6,7,9,10,11,12,13,14,15] ?_;refine aU 1 fun K hK=>?_;go_simp;have hba:=Below.aI D.drew (.cells #[] 86);have r:Below ↑D D (D.alloc (.cells #[] 86)).drew:=NI.o.trans (hba.mono NI.o.size);refine hK.out _ _ ((G.o.below r).cell 2) (fun hHeld=>?_);clear hK K;have pp:hH.Row (D.alloc (.cells #[] 86)).drew D.heap.size (.slice ↑D.heap.size 0 0) []:=bl.Row.empty D.drew;obtain⟨ge,hge⟩:=ai D.heap.size;rw [hge]at pp;try rw [hge]
  have bL:=af hge;have bR:=af (pp.base (bh:D.heap.size<=ge));have X:=af r;clear hba r pp hge hoff;generalize (D.alloc (.cells #[] 86)).drew=fV at*;refine aU 8 fun K hK=>?_;refine hH.s9 dn (.tmp 44) (.tmp 50) dn D.heap.size ge 0 0 k [] rfl dn bR.o g 0 ch (H.take k) dN.o dn ((om.o.below X.o).take k) k bh bh X.o.size ?_;intro g1 m6 wf fk nL rF;rw [List.nil_append]at fk;have jL:=iJ nL X.o (cS bR.o);have n:=af fk;have Y:=af jL;refine hK.out _ _ ((G.o.below jL).cell 2) (fun hHeld=>?_);clear hK K fk jL nL rF;refine aU 16 fun K hK=>?_;refine hH.s9 dn (.tmp 51) (.tmp 58) dn D.heap.size g1 m6 k (H.length-(k+1)) (H.take k) dN.o dn n.o g off2 (ch-(k+1)) (H.drop (k+1)) xb.o dn (D9.o _ Y.o) (H.length-1) bh bh Y.o.size ?_;intro aV nN qM ux yc yd;have qN:=iJ yc Y.o (cS n.o);have Eb:=af ux;have zI:=af qN;have d:=af (G.o.below qN);have eA:Ei (D.heap.size<=aV):=af (cS ux aV rfl);have yq:=d.o.Je;have v:qM.frozen? ↑(pw,2)=false:=d.o.frozen 2;refine hK.out _ _ (d.o.cell 2) (fun hHeld=>?_);clear hK K ux qN yc yd;refine eX [17,18] ?_;refine dY 19 fun K hK=>?_;go_simp;refine hK.out _ _ ?_;clear hK K hHeld yq v;have y:=af ((Z.o.below zI.o).Ql (Eb.o.base (B':=W.heap.size) Z.o.aJ.size));have t:=af (IP.o.trans ((Below.keeps zI.o).trans (ct qM pw 2 (.slice ↑aV (H.length-1) nN))));have u:Ei (∀g,(Value.slice ↑aV (H.length-1) nN).ownBlock=some g->hw.ownBlock=some g∨w.heap.size<=g):=af fun g hg=>by
   have:aV=g:=by simpa [Value.ownBlock]using hg
   rw [<-this];exact .inr (Nat.le_trans IP.o.size eA.o)
  have jR:Ei ((H.take k++H.drop (k+1)).length=H.length-1):=af (by rw [List.length_append,dN.o,xb.o];omega);clear d Eb n bR Y X fw z2 z3 z4 z5 Gg AO z9 z0 i;go_wp2_with fail;go_roundg (gk-1)
  case measure=>have:=A.o.len;omega
  refine⟨_,gm m V,q+1,H.take k++H.drop (k+1),y.o,t.o,u.o,by rw [<-A.o.qO,Cx.o],by have:=A.o.len;rw [jR.o];omega,by rw [CK];exact A.o.vl,M2 cM.o.f.sd A.o.oH,?_,fun x hx=>?_,by have:=A.o.q0;omega,bh⟩
  ·obtain⟨j,h1,h2⟩:=A.o.sz;exact⟨j+1,GY h1,by rw [jR.o];omega⟩
  rcases List.mem_append.1 hx with h|h
  ·exact A.o.JI x (List.mem_of_mem_take h)
  exact A.o.JI x (List.mem_of_mem_drop h)
end
end Go.Proofs.YtmaijkoopjocdaaGreat
