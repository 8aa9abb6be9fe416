import Derived.Test.YtmaijkoopjocdaaGreatKW23
import Derived.Deep.CutBlock
set_option maxRecDepth 100000
set_option maxHeartbeats 64000000
namespace Go.Proofs.YtmaijkoopjocdaaGreat
open Go.RowKit Go.Lib
def pP (L:List aC):Int:=match L.findIdx? (fun o=>o.top)with|none=> -1|some i=>i
def Ba (p:Prod) (L:List aC) (q:Int):List Int:=
 if p.rule=1 then FB (L.map aC.aq) q else if p.rule=2 then FD (L.map aC.aq) (pP L) p.top p.least q else FC (L.map aC.aq) p.part p.least q
theorem JE (p:Prod) (L:List aC) (q:Int):(Ba p L q).length<=L.length:=by
 unfold Ba;have h:(L.map aC.aq).length=L.length:=List.length_map ..;split
 ·rw [<-h];exact aje _ _
 split
 ·rw [<-h];exact ajf _ _ _ _ _
 rw [<-h];exact ajg _ _ _ _
theorem ajh (L:List aC):pP L= -1∨∃t:Nat,pP L=t∧t<L.length:=by
 unfold pP;cases h:L.findIdx? (fun o=>o.top)with
 |none=>exact .inl rfl
 |some i=>exact .inr ⟨i,rfl,by obtain⟨h1,_⟩:=List.findIdx?_eq_some_iff_findIdx_eq.1 h;exact h1⟩
theorem C4 {L:List aC} (h:L.findIdx? (fun o=>o.top)=none):pP L= -1:=by unfold pP;rw [h]
theorem SE {L:List aC} {i:Nat} (h:L.findIdx? (fun o=>o.top)=some i):pP L=i:=by unfold pP;rw [h]
theorem aji (L:List aC) (o:aC):pP (L++ [o])=if o.top=true∧pP L<0 then(L.length:Int)else pP L:=by
 cases h:L.findIdx? (fun o=>o.top)with
 |some i=>rw [SE h,if_neg bh];exact SE (by rw [List.findIdx?_append,h];rfl)
 |none=>
  rw [C4 h];cases hb:o.top with
  |true=>rw [if_pos ⟨rfl,b9⟩];exact SE (by rw [List.findIdx?_append,h];simp [List.findIdx?_cons,hb])
  |false=>rw [if_neg cU];exact C4 (by rw [List.findIdx?_append,h];simp [List.findIdx?_cons,hb])
theorem ajj {p:Prod} (h:cR p=0):1<=p.rule∧p.rule<=3∧0<=p.top∧p.top<=1000000∧1<=p.least∧p.least<=1000∧0<=p.part∧p.part<=100:=by
 unfold cR at h;split at h<;>try cases h
 split at h<;>try cases h
 split at h<;>try cases h
 split at h<;>try cases h
 split at h<;>try cases h
 split at h
 ·cases h
 rename_i h1;split at h
 ·cases h
 rename_i h2;unfold lS at h1;unfold g9 at h2;omega
theorem VO {w:World} {p:Prod} {v:Value} {L:List aC} (h:gI.eT w v L) (hz:cR p=0) (hl:L.length<=250) (hx:∀o∈L,1<=o.aq∧o.aq<=1000000) (q:Int):
 Calls Tryz.prog 148 #[p.agg,v,↑q] w fun e w'=>∃v',e= .returned v'∧e8.Row w' ↑w v' (Ba p L q)∧Below ↑w w w':=by
 unfold Prod.agg Prod.cells;have d:Ei (Below ↑w w (w.alloc (.cells ↑p 25))):=af (Below.aI _ _);have j:Ei (av (w.alloc (.cells ↑p 25)) ↑w 25 p.cells):=af (av.new _ _ _);have V:=af (h.below d.o);have bz:=af hx;have yp:=af (ajj hz);obtain⟨a,c,rfl,_,_⟩:=h;obtain⟨n,hn⟩:=ai L.length;have U:Ei (∀x∈L.map aC.aq,1<=x∧x<=1000000):=af fun x gx=>by obtain⟨o,ho,rfl⟩:=List.mem_map.1 gx;exact hx o ho
 have Bh:Ei ((L.map aC.aq).length=n):=af (by rw [List.length_map];exact hn);have HV:Ei (pP L= -1∨∃t:Nat,pP L=t∧t<(L.map aC.aq).length):=af (by rw [List.length_map];exact ajh L);rw [hn]at V hl⊢;have hnb:(n:Int)<=250:=bh;have HN:=af hn;clear hx hz hn;go_enter Tryz.func148,Tryz.ntmps148;go_upto_region 1 with(fail);obtain⟨g0,u⟩:=ai w.heap.size;have C3:=af u;rw [u]at j⊢;clear u;unfold Prod.cells at j;generalize (w.alloc (.cells ↑p 25))=w1 at*;have iD:=af d.o.size;go_wp2_with fail;go_loopw [7,8,9] (fun v t i w'=>∃(k:Nat) (z:Int),z=pP (L.take k)∧t=↑z∧i=↑k∧k<=n∧e8.Row w' ↑w1 v ((L.take k).map aC.aq)∧Below ↑w1 w1 w') (fun _ _ i _=>n-(RowKit.intOf i).toNat)
 case atStart=>exact⟨0,-1,rfl,rfl,rfl,Nat.zero_le _,bl.Row.nil _ _,Below.refl _ _⟩
 obtain⟨k,z,hz,rfl,rfl,hk,hrow,hb⟩:=hrel;obtain⟨ax,rfl⟩:=aj wr;by_cases hlt:k<n
 ·have hlt':(k:Int)<(n:Int):=by omega
  obtain⟨o,hok⟩:=GB L k (by rw [HN.o];exact hlt);obtain⟨b,off,c',he,_,hc⟩:=(V.o.below hb).get hok;injection he with he hne eS;clear hne;subst he;subst eS;obtain⟨f0,f1,f2,f3,f4⟩:=o;have c3:ax.cell? ↑(b,off+k*5+3)=↑f3:=hc 3 _ rfl;have W:Ei (∀wv,Below ↑w1 w1 wv->wv.cell? ↑(b,off+k*5+4)=↑f4):=af fun wv hb=>by obtain⟨b',off',anp,he,_,hc⟩:=(V.o.below hb).get hok;injection he with he;injection he with he;injection he with e1 e2;subst e1;subst e2;exact hc 4 _ rfl
  have Y:Ei ((L.take (k+1)).map aC.aq=(L.take k).map aC.aq++ [f3]):=af (by rw [kH hok,List.map_append];rfl);have Q:Ei (pP (L.take (k+1))=if f4=true∧z<0 then(k:Int)else z):=af (by rw [kH hok,aji,<-hz,List.length_take,HN.o,Nat.min_eq_left (Nat.le_of_lt hlt)]);have jf:Ei (((L.take k).map aC.aq).length<=250):=af (by rw [List.length_map,List.length_take];omega);generalize (L.take k).map aC.aq=M at*;obtain⟨a1,c1,hv⟩:=hrow.form;obtain⟨m,hm⟩:=ai M.length;rw [hm]at hv;subst hv;have cM:=af hm;have E:=af hb;have hba:=Below.aI ax (.cells #[↑f3] 2);have g:=af (hrow.below hba);have X:=af (hb.trans (hba.mono hb.size));have Z:Ei (av (ax.alloc (.cells #[↑f3] 2)) ↑ax 2 (lA f3).toArray):=af (av.new _ _ _);clear hrow hb hz hok hm hc hba;go_wp2_with (first
   |(at_builtin;go_loud (refine e8.push rfl (.tmp 16) (.tmp 22) rfl ↑w1 (.slice a1 m c1) M rfl g.o ↑ax f3 rfl Z.o.lt Z.o.gH (by have:=jf.o;omega) X.o.size ?_)))
  intro v' aN f cQ eG;have S:=af f;have P:=af (iJ cQ X.o (cS g.o));clear f cQ eG c3 Z g X;have dH:=W.o _ P.o;cases f4 with
  |true=>
   by_cases hzl:z<0
   ·have D:Ei ((k:Int)=pP (L.take (k+1))):=af (by rw [Q.o,if_pos ⟨rfl,hzl⟩]);go_wp2_with fail;go_roundw
    case rel=>exact⟨k+1,_,D.o,rfl,dR,hlt,by rw [Y.o];exact S.o,P.o⟩
    exact Ej
   have D:Ei (z=pP (L.take (k+1))):=af (by rw [Q.o,if_neg (fun hh=>hzl hh.2)]);go_wp2_with fail;go_roundw
   case rel=>exact⟨k+1,_,D.o,rfl,dR,hlt,by rw [Y.o];exact S.o,P.o⟩
   exact Ej
  |false=>
   have D:Ei (z=pP (L.take (k+1))):=af (by rw [Q.o,if_neg (fun hh=>by cases hh.1)]);go_wp2_with fail;go_roundw
   case rel=>exact⟨k+1,_,D.o,rfl,dR,hlt,by rw [Y.o];exact S.o,P.o⟩
   exact Ej
 have hkn:k=n:=bh;rw [hkn,<-HN.o,List.take_length]at hrow hz;have E:=ag d hb;have G:=j.o.below hb;have bw:=G.Ji;have bn:=G.My;have bC:=G.MH;have bD:=G.MI;have hsl:=hrow.sl;have N:(L.map aC.aq).length<=250:=by rw [Bh.o];exact hl
 obtain⟨k1,k2,di,jc,l,jY,H,yq⟩:=yp.o;have O:=af (ai5 hsl N U.o q);have F:=af (ajc hsl N U.o (pP L) p.top p.least q HV.o ⟨di,bh⟩ l);have h12:=af (ai7 hsl N U.o p.part p.least q ⟨H,yq⟩ l);have D:Ei (pP L=z):=af hz.symm;rw [D.o]at F;have C:Ei (Ba p L q=if p.rule=1 then FB (L.map aC.aq) q else if p.rule=2 then FD (L.map aC.aq) z p.top p.least q else FC (L.map aC.aq) p.part p.least q):=af (by rw [<-D.o];rfl);obtain⟨R,s⟩:=ai (Ba p L q);rw [s]at C;have r:=af s;obtain⟨T,I⟩:=ai p.rule;rw [I]at C bw k1 k2;clear hkn hrow hb hz G hsl N s I di jc l jY H yq;have hcs:T=1∨T=2∨T=3:=bh;clear k1 k2;rcases hcs with rfl|rfl|rfl
 ·rw [if_pos rfl]at C;go_wp2_with fail;refine O.o.mono ?_;rintro e y ⟨v5,rfl,B,A⟩;have K:=af (B.base E.o.size);have J:=ag E A;clear B A O F h12;go_wp2_with fail;go_ret;exact⟨_,rfl,by rw [r.o,C.o];exact K.o,J.o⟩
 ·rw [if_neg bh,if_pos rfl]at C;go_wp2_with fail;refine F.o.mono ?_;rintro e y ⟨v5,rfl,B,A⟩;have K:=af (B.base E.o.size);have J:=ag E A;clear B A O F h12;go_wp2_with fail;go_ret;exact⟨_,rfl,by rw [r.o,C.o];exact K.o,J.o⟩
 rw [if_neg bh,if_neg bh]at C;go_wp2_with fail;refine h12.o.mono ?_;rintro e y ⟨v5,rfl,B,A⟩;have K:=af (B.base E.o.size);have J:=ag E A;clear B A O F h12;go_wp2_with fail;go_ret;exact⟨_,rfl,by rw [r.o,C.o];exact K.o,J.o⟩
def uR (L:List dK) (dA sa bi cr how:Int):Option dg:=if how= -1 then(qh L bi cr dA sa true).map G0 else qh L dA sa bi cr (how==0)
def NR (a b how:Int):Int×Bool:=if how= -1 then qX a b else if how=0 then qX b a else rN a b
theorem ah7 {L:List dK} {A bi:Nat} {sa cr how:Int} {x y:dK} (hx:L[A]? =some x) (hy:L[bi]? =some y):uR L A sa bi cr how=
 if x.has sa=true∧y.has cr=true then(if(NR (x.ap sa) (y.ap cr) how).2=true then some ⟨(NR (x.ap sa) (y.ap cr) how).1,min (x.aq sa) (y.aq cr),A,sa,bi,cr⟩else none)else none:=by
 unfold uR NR;by_cases h1:how= -1
 ·rw [if_pos h1,if_pos h1];have e:=WJ (less:=true) (sa:=cr) (cr:=sa) hy hx;simp only [↓reduceIte]at e;rw [e];by_cases h2:x.has sa=true∧y.has cr=true
  ·rw [if_pos h2,if_pos (show y.has cr=true∧x.has sa=true from⟨h2.2,h2.1⟩)];generalize qX (x.ap sa) (y.ap cr)=r;by_cases h3:r.2=true
   ·rw [if_pos h3,if_pos h3];show some (G0 _)=_;unfold G0;rw [Int.min_comm]
   rw [if_neg h3,if_neg h3];rfl
  rw [if_neg h2,if_neg (fun h:y.has cr=true∧x.has sa=true=>h2 ⟨h.2,h.1⟩)];rfl
 rw [if_neg h1,if_neg h1,WJ hx hy];by_cases h2:how=0
 ·subst h2;simp
 rw [if_neg h2];have:(how==0)=false:=by rw [beq_eq_false_iff_ne];exact h2
 rw [this];simp
theorem ahV (p:Prod) (inst:Int) (ta:Option Addr) (c:Nat) (L:List dK) (B:Nat) (v:Value) (O:List dg) (w:World) (hT:qW.fR w ta L) (hv:kz.Row w B v O) (hB:B<=w.heap.size) (ho:O.length<=1000)
 (A bi ka kb:Nat) (how:Int) (x y:dK) (hx:L[A]? =some x) (hy:L[bi]? =some y) (hka:ka<2) (hkb:kb<2) (yR:x.ok) (ND:y.ok) (hh:how=1∨how=0∨how= -1):
 Calls Tryz.prog 131 #[p.agg,.slice ta L.length c,↑inst,v,.agg #[↑A,↑((ka:Int)+1)],.agg #[↑bi,↑((kb:Int)+1)],↑how] w fun e w'=>∃v',e= .returned v'∧kz.Row w' B v' (O++(uR L A (ka+1) bi (kb+1) how).toList)∧Below ↑w w w':=by
 have s1:=ak;have ie:=af (ah7 (how:=how) (sa:=(ka:Int)+1) (cr:=(kb:Int)+1) hx hy);obtain⟨va,vc,gU⟩:=hv.form;subst gU;have u:=af hv;obtain⟨b,off,rfl,eU,YW⟩:∃b off,ta=some ⟨b,off,none⟩∧b<w.heap.size∧iI w b (off+A*6) x.cells:=by obtain⟨b,off,h1,h2,h3⟩:=hT A x hx;exact⟨b,off,h1,h2,h3⟩
 have YX:iI w b (off+bi*6) y.cells:=by obtain⟨b',off',h1,h2,h3⟩:=hT bi y hy;injection h1 with h1;injection h1 with h1 h4;subst h1;subst h4;exact h3
 have hal:(A:Int)<(L.length:Int):=by have:=dM hx;omega
 have RL:(bi:Int)<(L.length:Int):=by have:=dM hy;omega
 have YY:=af fun(ax:World) (hb:Below ↑w w ax)=>(YW.below hb eU).tp;have YZ:=af fun(ax:World) (hb:Below ↑w w ax)=>(YX.below hb eU).tp;unfold Prod.agg Prod.cells;clear hx hy YW YX hv hT;go_enter Tryz.func131,Tryz.ntmps131;go_upto_region 1 with(fail);have hw0:Below ↑w w (((w.alloc (.cells ↑p 25)).alloc (.cells #[↑A,↑((ka:Int)+1)] 189)).alloc (.cells #[↑bi,↑((kb:Int)+1)] 189)):=((Below.aI _ _).alloc (by rw [s1];omega) _).alloc (by rw [s1,s1];omega) _;have h2:=M4 (w.alloc (.cells ↑p 25)) 189 189 #[↑A,↑((ka:Int)+1)] #[↑bi,↑((kb:Int)+1)];rw [s1]at h2;have Hl:=h2.1;have NS:=h2.2.1;clear h2;generalize ((w.alloc (.cells ↑p 25)).alloc (.cells #[↑A,↑((ka:Int)+1)] 189)).alloc (.cells #[↑bi,↑((kb:Int)+1)] 189)=w0 at*;have a0:w0.cell? ↑(w.heap.size+1,0)=↑A:=Hl.cell 0;obtain⟨c0,c1,c2,c3,dH,b8⟩:=YY.o _ hw0;have cO:=af Hl;have aG:=af NS;have KE:=af hw0;clear Hl NS hw0;go_upto_region 2 with(fail);clear a0 c0 c1 c2 c3 dH b8;have hb1:Below ↑w0 w0 (w0.alloc (.cells x.cells.toArray 185)):=Below.aI _ _;have a0:(w0.alloc (.cells #[↑x.h0,↑x.h1,↑x.jh,↑x.p1,↑x.q0,↑x.q1] 185)).cell? ↑(w.heap.size+1+1,0)=↑bi:=(aG.o.below hb1).cell 0;obtain⟨c0,c1,c2,c3,dH,b8⟩:WG (w0.alloc (.cells #[↑x.h0,↑x.h1,↑x.jh,↑x.p1,↑x.q0,↑x.q1] 185)) b (off+bi*6) y:=YZ.o _ (ag KE hb1).o;clear hb1;go_upto_region 3 with(fail);clear a0 c0 c1 c2 c3 dH b8;have h2:=M4 w0 185 185 x.cells.toArray y.cells.toArray;simp only [dK.cells]at h2;generalize (w0.alloc (.cells #[↑x.h0,↑x.h1,↑x.jh,↑x.p1,↑x.q0,↑x.q1] 185)).alloc (.cells #[↑y.h0,↑y.h1,↑y.jh,↑y.p1,↑y.q0,↑y.q1] 185)=w2 at*;have fy:Ei (av w2 ↑w0 185 x.cells.toArray):=af h2.1;have k:Ei (av w2 (w0.heap.size+1) 185 y.cells.toArray):=af h2.2.1;have NT:=af (cO.o.below h2.2.2);have m:=af (aG.o.below h2.2.2);have mE:=af (KE.o.trans (h2.2.2.mono KE.o.size));clear h2 cO aG KE YY YZ;generalize w0.heap.size=aL at*;obtain⟨fc,x7⟩:=ai (aL+1);rw [x7]at k⊢;clear x7;obtain⟨ga,zG⟩:=ai (w.heap.size+1);rw [zG]at NT m⊢;clear zG;obtain⟨bE,fT⟩:=ai (ga+1);rw [fT]at m⊢;clear fT;have hx1:w2.cell? ↑(aL,ka)=some (.bool (x.has (ka+1))):=(fy.o.cell ka).trans (x.WH hka);have hy1:w2.cell? ↑(fc,kb)=some (.bool (y.has (kb+1))):=(k.o.cell kb).trans (y.WH hkb);have yA:=NT.o.GD;have hb1:=m.o.GD;have y1:IntKind.i64.wrap ((ka:Int)+1-1)=(ka:Int):=by rw [Int.add_sub_cancel];exact IntWalk.i64_in _ bh
 have fI:IntKind.i64.wrap ((kb:Int)+1-1)=(kb:Int):=by rw [Int.add_sub_cancel];exact IntWalk.i64_in _ bh
 have lF:IntKind.i64.wrap (ka:Int)=(ka:Int):=IntWalk.i64_in _ bh;have qb:IntKind.i64.wrap (kb:Int)=(kb:Int):=IntWalk.i64_in _ bh;have am0:(ka:Int)<2:=bh;have am1:(kb:Int)<2:=bh;have BB:Ei (∀ax,Below ↑w2 w2 ax->uR L A (ka+1) bi (kb+1) how=none->∃v',Ending.returned (.slice va O.length vc)= .returned v'∧kz.Row ax B v' (O++(uR L A (ka+1) bi (kb+1) how).toList)∧Below ↑w w ax):=af fun ax hb hq=>by have aP:=mE.o.trans (hb.mono mE.o.size);refine⟨_,rfl,?_,aP⟩;rw [hq];simp only [Option.toList_none,List.append_nil];exact u.o.below aP
 by_cases h1:x.has (ka+1)=true∧y.has (kb+1)=true
 case neg=>
  have o8:Ei (uR L A (ka+1) bi (kb+1) how=none):=af (by rw [ie.o,if_neg h1]);have hcs:x.has (ka+1)=false∨(x.has (ka+1)=true∧y.has (kb+1)=false):=by
   cases hp:x.has (ka+1)with
   |false=>exact .inl rfl
   |true=>exact .inr ⟨rfl,by
    cases hq:y.has (kb+1)with
    |false=>rfl
    |true=>exact absurd ⟨hp,hq⟩ h1⟩
  clear h1;rcases hcs with e1|⟨e1,e2⟩
  ·rw [e1]at hx1;clear e1;go_wp2_with fail;go_ret;exact BB.o _ (Below.refl _ _) o8.o
  rw [e1]at hx1;rw [e2]at hy1;clear e1 e2;go_wp2_with fail;go_ret;exact BB.o _ (Below.refl _ _) o8.o
 case pos=>
 obtain⟨e1,e2⟩:=h1;have X:Ei (uR L A (ka+1) bi (kb+1) how=_):=af (by rw [ie.o,if_pos ⟨e1,e2⟩]);rw [e1]at hx1;rw [e2]at hy1;clear e1 e2 ie;have uE:w2.cell? ↑(aL,2+ka)=some (.int .i64 (x.ap (ka+1))):=(fy.o.cell (2+ka)).trans (x.GZ hka);have x9:w2.cell? ↑(fc,2+kb)=some (.int .i64 (y.ap (kb+1))):=(k.o.cell (2+kb)).trans (y.GZ hkb);obtain⟨cq,hpx⟩:=ai (x.ap (ka+1));obtain⟨N,RM⟩:=ai (y.ap (kb+1));have NU:cz cq:=by rw [<-hpx];exact yR.ap _
 have NV:cz N:=by rw [<-RM];exact ND.ap _
 rw [hpx]at uE X;rw [RM]at x9 X;have Y0:=af fun w=>afn cq N w NU NV;have dW:=af fun w=>WT N cq w NV NU;have cA:=af fun w=>WT cq N w NU NV;clear hpx RM yR ND NU NV;obtain⟨C,r1,hr⟩:∃C r1,NR cq N how=(C,r1):=⟨_,_,rfl⟩;rw [hr]at X;have bM:=af hr;clear hr;go_upto_region 5 with(fail);clear hx1 hy1;go_quiet (fail);clear uE x9 yA hb1;have T:Ei (Below ↑w2 w2 (w2.drewN nq)):=af (Below.bO w2 nq);generalize w2.drewN nq=w3 at*;go_upto_block 0 with(go_at_call 145;refine(Y0.o _).mono ?_;rintro e R ⟨rfl,rfl⟩);clear Y0;go_cut [19,20] (fun u1 u2 wx=>u1=↑C∧u2=↑r1∧w3=wx)
 case first=>
  rcases hh with rfl|rfl|rfl
  ·have hr:rN cq N=(C,r1):=bM.o;rw [hr];clear hr;go_wp2_with fail;go_meet;exact⟨rfl,rfl,rfl⟩
  ·have hr:qX N cq=(C,r1):=bM.o;rw [hr]at dW;clear hr;generalize rN cq N=ra at*;go_wp2_with (go_at_call 146;refine(dW.o _).mono ?_;rintro e R ⟨rfl,rfl⟩);go_meet;exact⟨rfl,rfl,rfl⟩
  have hr:qX cq N=(C,r1):=bM.o;rw [hr]at cA;clear hr;generalize rN cq N=ra at*;go_wp2_with (go_at_call 146;refine(cA.o _).mono ?_;rintro e R ⟨rfl,rfl⟩);go_meet;exact⟨rfl,rfl,rfl⟩
 case rest=>
 obtain⟨rfl,rfl,rfl⟩:=hcut;clear dW cA bM;cases r1 with
 |false=>have o8:Ei (uR L A (ka+1) bi (kb+1) how=none):=af (by rw [X.o,if_neg cU]);go_wp2_with fail;go_ret;exact BB.o _ T.o o8.o
 |true=>
  have BD:Ei (uR L A (ka+1) bi (kb+1) how=some ⟨C,min (x.aq (ka+1)) (y.aq (kb+1)),A,ka+1,bi,kb+1⟩):=af (by rw [X.o,if_pos rfl]);clear X BB;have rW:=ah mE T;have HB:=af (fy.o.below T.o);have Y1:=af (k.o.below T.o);have Eu:=af (NT.o.below T.o);have q:=af (m.o.below T.o);clear mE fy k NT m T;obtain⟨P,RN⟩:=ai (x.aq (ka+1));obtain⟨Z,RO⟩:=ai (y.aq (kb+1));have E8:w3.cell? ↑(aL,4+ka)=↑P:=by rw [<-RN];exact(HB.o.cell (4+ka)).trans (x.WI hka)
  have RP:Ei (∀ax,av ax fc 185 y.cells.toArray->ax.cell? ↑(fc,4+kb)=↑Z):=af fun ax h=>by rw [<-RO];exact(h.cell (4+kb)).trans (y.WI hkb)
  rw [RN,RO]at BD;clear RN RO;have ha0:=Eu.o.GC;have yA:=Eu.o.GD;have hb0:=q.o.GC;have hb1:=q.o.GD;go_wp2_with fail;refine cP (S:=fun w'=>w'.cell? ↑ga=↑A∧w'.cell? ⟨ga,1,none⟩=↑((ka:Int)+1)∧w'.cell? ↑bE=↑bi∧w'.cell? ⟨bE,1,none⟩=↑((kb:Int)+1)∧w'.cell? ⟨aL,4+ka,none⟩=↑P) ⟨ha0,yA,hb0,hb1,E8⟩ fun hHeld=>?_;refine eX [0,1,2,3,4,5,6,7,8,9,10] ?_;refine aU 11 fun K hK=>?_;go_simp;have hbd:Below ↑w3 w3 (w3.alloc (.cells #[↑(),↑(),↑(),↑(),↑(),↑()] 192)).drew:=(Below.aI w3 _).drew;have RQ:=Eu.o.below hbd;have EE:=q.o.below hbd;have Y2:=(hbd.cell (p:=⟨aL,4+ka,none⟩) HB.o.lt).trans E8;refine hK.out _ _ ⟨RQ.cell 0,RQ.cell 1,EE.cell 0,EE.cell 1,Y2⟩ (fun hHeld=>?_);clear hK K;refine dY 12 fun K hK=>?_;go_simp;refine hK.out _ _ ?_;clear hK K RQ EE Y2 hbd ha0 yA hb0 hb1 E8;have hb4:Below ↑w3 w3 (w3.alloc (.cells #[↑C,↑P,↑A,↑((ka:Int)+1),↑bi,↑((kb:Int)+1)] 192)).drew:=(Below.aI w3 _).drew;have RR:Ei (av (w3.alloc (.cells #[↑C,↑P,↑A,↑((ka:Int)+1),↑bi,↑((kb:Int)+1)] 192)).drew w3.heap.size 192 #[↑C,↑P,↑A,↑((ka:Int)+1),↑bi,↑((kb:Int)+1)]):=af (av.new w3 _ _);have bY:=af (q.o.below hb4);have RS:=af (Y1.o.below hb4);have zZ:=ag rW hb4;have uS:Ei (w.heap.size<=w3.heap.size):=af rW.o.size;clear hb4 q Y1 rW HB Eu;generalize (w3.alloc (.cells #[↑C,↑P,↑A,↑((ka:Int)+1),↑bi,↑((kb:Int)+1)] 192)).drew=R at*;generalize w3.heap.size=E at*;have hb1:=bY.o.GD;have Y3:=RP.o _ RS.o;have q1:=RR.o.GD;go_upto_region 15 with(fail);go_quiet (fail);clear hb1 Y3 q1;have r:Below ↑R R (R.drewN nq):=Below.bO R nq;generalize R.drewN nq=aA at*;have yw:=af (RR.o.below r);have b7:=af (bY.o.below r);have D7:=af (RS.o.below r);have E7:=ag zZ r;clear r RR bY RS zZ;obtain⟨D,RT⟩:=ai (min P Z);have RU:=af RT;rw [RT]at BD;clear RT;go_upto_if 106 with(fail);go_cut [106] (fun _ wx=>av wx E 192 #[↑C,↑D,↑A,↑((ka:Int)+1),↑bi,↑((kb:Int)+1)]∧Below ↑w w wx)
  case first=>
   have hb1:=b7.o.GD;have Y3:=RP.o _ D7.o;have q1:=yw.o.GD;have f1:aA.frozen? ↑(E,1)=false:=yw.o.frozen 1;by_cases hlt:Z<P
   ·have hz:Z=D:=by have:=RU.o;omega
    subst hz;go_wp2_with fail;go_meet;have hk:aK (fun g=>g=E) aA (aA.setCell ↑(E,1) ↑Z):=(aK.refl (fun g=>g=E) aA).setCell (p:=⟨E,1,none⟩) (fun _=>rfl) _;exact⟨yw.o.aW 1 ↑Z,E7.o.trans (hk.below (fun g hg=>by have hg':g=E:=hg;have:=uS.o;omega) E7.o.size)⟩
   have hz:P=D:=by have:=RU.o;omega
   subst hz;go_wp2_with fail;go_meet;exact⟨yw.o,E7.o⟩
  case rest=>
  obtain⟨Nb,r7⟩:=hcut;have Y4:=af Nb;have W:=af r7;clear Nb r7 yw b7 D7 E7 RU RP uS;have hac:va=none->vc=0:=by obtain⟨a',c',h1,h2,_⟩:=u.o.rd;injection h1 with h3 _ h4;intro h;rw [h4];exact h2 (by rw [<-h3];exact h)
  have Bx:=af hac;have om:Ei (∀ax,Below ↑w w ax->kz.fR ax va O):=af fun ax hb=>by obtain⟨a',c',h1,_,h2⟩:=u.o.rd;injection h1 with h3;rw [h3];exact h2.below hb
  have Bw:Ei (∀ad,va=some ad->∃b off,ad=⟨b,off,none⟩):=af fun ad h=>by
   rcases u.o.2 with⟨h2,_⟩|⟨g,cap,cur,h2,_⟩
   ·injection h2 with h2;rw [h2]at h;cases h
   injection h2 with h2;rw [h2]at h;injection h with h;exact⟨g,0,h.symm⟩
  clear hac;have aD:Ei (∀w',av w' E 192 #[↑C,↑D,↑A,↑((ka:Int)+1),↑bi,↑((kb:Int)+1)]->w'.cell? ↑E=↑C∧w'.cell? ↑(E,1)=↑D∧w'.cell? ↑(E,2)=↑A∧w'.cell? ↑(E,3)=↑((ka:Int)+1)∧w'.cell? ↑(E,4)=↑bi∧w'.cell? ↑(E,5)=↑((kb:Int)+1)):=af fun w' h=>⟨h.cell 0,h.cell 1,h.cell 2,h.cell 3,h.cell 4,h.cell 5⟩;have CV:=af (Y4.o.drew);have ah8:=af (W.o.drew);have vT:Ei (∀v' ax,kz.Row ax ↑wc v' (O++ [⟨C,D,A,ka+1,bi,kb+1⟩])->Below ↑wc wc ax->∃v'',Ending.returned v'= .returned v''∧kz.Row ax B v'' (O++(uR L A (ka+1) bi (kb+1) how).toList)∧Below ↑w w ax):=af fun v' ax h hb=>by refine⟨v',rfl,?_,W.o.trans (hb.mono W.o.size)⟩;rw [BD.o];exact h.base (Nat.le_trans hB W.o.size)
  go_wp2_with fail;refine cP (S:=fun w'=>w'.cell? ↑E=↑C∧w'.cell? ⟨E,1,none⟩=↑D∧w'.cell? ⟨E,2,none⟩=↑A∧w'.cell? ⟨E,3,none⟩=↑((ka:Int)+1)∧w'.cell? ⟨E,4,none⟩=↑bi∧w'.cell? ⟨E,5,none⟩=↑((kb:Int)+1)) (aD.o _ CV.o) fun hHeld=>?_;have I:=af fun(ax:World) (hb:Below ↑wc wc ax)=>aD.o ax (Y4.o.below hb);have RV:=af fun(ax:World) (hb:Below ↑wc wc ax)=>om.o ax (ag W hb).o;clear aD om CV ah8 BD W u;refine eX [1,3] ?_;refine lZ 0 4 (fun K hK=>?_) fun K hK=>?_
  ·go_simp;have H:Below ↑wc wc (wc.alloc (.cells #[] 192)).drew:=(Below.aI wc _).drew;have hE:kz.Row (wc.alloc (.cells #[] 192)).drew wc.heap.size (.slice ↑wc.heap.size 0 0) []:=(bl.Row.empty (Y:=kz) wc).below (Below.refl _ _).drew;refine hK.out _ _ (I.o _ H) (fun hHeld=>?_);clear hK K;generalize (wc.alloc (.cells #[] 192)).drew=F at*;obtain⟨g0,i⟩:=ai wc.heap.size;have pp:kz.Row F ↑wc (.slice ↑g0 0 0) []:=by rw [<-i];exact hE
   clear hE;have C3:=af i;refine lZ 2 4 (fun K hK=>?_) fun K hK=>?_
   ·rw [i];clear i;refine kz.steps rfl (.tmp 114) (.tmp 115) rfl ↑wc (.slice ↑g0 0 0) [] rfl pp va O.length vc O rfl rfl Bx.o (RV.o _ H) (fun ad h _=>Bw.o ad h) (by simp;omega) H.size ?_;intro v1 G M U d;rw [List.nil_append]at M;have hb1:Below ↑wc wc G:=H.trans ((fK U).below (fun g hg=>by(have hg':some g0=some g:=hg);injection hg' with hg';have:=cS pp g0 rfl;omega) H.size);clear d;refine hK.out _ _ (I.o _ hb1) (fun hHeld=>?_);clear hK K;refine aU 4 fun K hK=>?_;go_simp;have J:Below ↑wc wc (G.alloc (.cells #[↑C,↑D,↑A,↑((ka:Int)+1),↑bi,↑((kb:Int)+1)] 192)):=hb1.alloc hb1.size _;have V:av (G.alloc (.cells #[↑C,↑D,↑A,↑((ka:Int)+1),↑bi,↑((kb:Int)+1)] 192)) ↑G 192 #[↑C,↑D,↑A,↑((ka:Int)+1),↑bi,↑((kb:Int)+1)]:=av.new _ _ _;have z:=M.below (Below.aI G (.cells #[↑C,↑D,↑A,↑((ka:Int)+1),↑bi,↑((kb:Int)+1)] 192));refine hK.out _ _ (I.o _ J) (fun hHeld=>?_);clear hK K;generalize G.alloc (.cells #[↑C,↑D,↑A,↑((ka:Int)+1),↑bi,↑((kb:Int)+1)] 192)=sY at*;refine aU 5 fun K hK=>?_;refine kz.step rfl (.tmp 116) (.tmp 118) rfl ↑wc v1 O rfl z ↑G ⟨C,D,A,ka+1,bi,kb+1⟩ rfl V.lt V.gH bh J.size ?_;intro v2 j a t n;have Q:Below ↑wc wc j:=J.trans ((fK t).below (fun g hg=>cS z g hg) J.size);clear n;refine hK.out _ _ (I.o _ Q) (fun hHeld=>?_);clear hK K;refine gu _ _ _ _ ?_;refine ej 6 ?_;refine gw ?_;clear hHeld;have s:=af (vT.o _ _ a Q);go_wp2_with fail;go_ret;exact s.o
   go_simp;have J:Below ↑wc wc (F.alloc (.cells #[↑C,↑D,↑A,↑((ka:Int)+1),↑bi,↑((kb:Int)+1)] 192)):=H.alloc H.size _;have V:av (F.alloc (.cells #[↑C,↑D,↑A,↑((ka:Int)+1),↑bi,↑((kb:Int)+1)] 192)) ↑F 192 #[↑C,↑D,↑A,↑((ka:Int)+1),↑bi,↑((kb:Int)+1)]:=av.new _ _ _;have z:=pp.below (Below.aI F (.cells #[↑C,↑D,↑A,↑((ka:Int)+1),↑bi,↑((kb:Int)+1)] 192));have hne:g0<F.heap.size:=ki pp g0 rfl;refine hK.out _ _ (I.o _ J) (fun hHeld=>?_);clear hK K;clear i;generalize F.alloc (.cells #[↑C,↑D,↑A,↑((ka:Int)+1),↑bi,↑((kb:Int)+1)] 192)=sY at*;generalize F.heap.size=gn at*;refine aU 2 fun K hK=>?_;refine kz.steps rfl (.tmp 114) (.tmp 115) rfl ↑wc (.slice ↑g0 0 0) [] rfl z va O.length vc O rfl rfl Bx.o (RV.o _ J) (fun ad h _=>Bw.o ad h) (by simp;omega) J.size ?_;intro v1 G M U d;rw [List.nil_append]at M;have hb1:Below ↑wc wc G:=J.trans ((fK U).below (fun g hg=>by(have hg':some g0=some g:=hg);injection hg' with hg';have:=cS z g0 rfl;omega) J.size);clear d;have f:av G gn 192 #[↑C,↑D,↑A,↑((ka:Int)+1),↑bi,↑((kb:Int)+1)]:=V.keeps (fK U) (fun h=>by(have h':some g0=some gn:=h);injection h' with h';omega);refine hK.out _ _ (I.o _ hb1) (fun hHeld=>?_);clear hK K;refine aU 5 fun K hK=>?_;refine kz.step rfl (.tmp 116) (.tmp 118) rfl ↑wc v1 O rfl M gn ⟨C,D,A,ka+1,bi,kb+1⟩ rfl f.lt f.gH bh hb1.size ?_;intro v2 j a t n;have Q:Below ↑wc wc j:=hb1.trans ((fK t).below (fun g hg=>cS M g hg) hb1.size);clear n;refine hK.out _ _ (I.o _ Q) (fun hHeld=>?_);clear hK K;refine gu _ _ _ _ ?_;refine ej 6 ?_;refine gw ?_;clear hHeld;have s:=af (vT.o _ _ a Q);go_wp2_with fail;go_ret;exact s.o
  go_simp;have H:Below ↑wc wc (wc.alloc (.cells #[↑C,↑D,↑A,↑((ka:Int)+1),↑bi,↑((kb:Int)+1)] 192)).drew:=(Below.aI wc _).drew;have V:av (wc.alloc (.cells #[↑C,↑D,↑A,↑((ka:Int)+1),↑bi,↑((kb:Int)+1)] 192)).drew wc.heap.size 192 #[↑C,↑D,↑A,↑((ka:Int)+1),↑bi,↑((kb:Int)+1)]:=av.new wc _ _;refine hK.out _ _ (I.o _ H) (fun hHeld=>?_);clear hK K;generalize (wc.alloc (.cells #[↑C,↑D,↑A,↑((ka:Int)+1),↑bi,↑((kb:Int)+1)] 192)).drew=F at*;obtain⟨gn,jz⟩:=ai wc.heap.size;have j5:av F gn 192 #[↑C,↑D,↑A,↑((ka:Int)+1),↑bi,↑((kb:Int)+1)]:=by rw [<-jz];exact V
  clear V;rw [jz];have oo:=af jz;clear jz;refine aU 0 fun K hK=>?_;go_simp;have l:Below ↑wc wc (F.alloc (.cells #[] 192)):=H.alloc H.size _;have hE:kz.Row (F.alloc (.cells #[] 192)) ↑wc (.slice ↑F.heap.size 0 0) []:=(bl.Row.empty (Y:=kz) F).base H.size;have nM:=j5.below (Below.aI F (.cells #[] 192));have hne:=j5.lt;refine hK.out _ _ (I.o _ l) (fun hHeld=>?_);clear hK K;generalize F.alloc (.cells #[] 192)=am2 at*;generalize F.heap.size=g0 at*;refine aU 2 fun K hK=>?_;refine kz.steps rfl (.tmp 114) (.tmp 115) rfl ↑wc (.slice ↑g0 0 0) [] rfl hE va O.length vc O rfl rfl Bx.o (RV.o _ l) (fun ad h _=>Bw.o ad h) (by simp;omega) l.size ?_;intro v1 G M U d;rw [List.nil_append]at M;have hb1:Below ↑wc wc G:=l.trans ((fK U).below (fun g hg=>by(have hg':some g0=some g:=hg);injection hg' with hg';have:=cS hE g0 rfl;omega) l.size);clear d;have f:av G gn 192 #[↑C,↑D,↑A,↑((ka:Int)+1),↑bi,↑((kb:Int)+1)]:=nM.keeps (fK U) (fun h=>by(have h':some g0=some gn:=h);injection h' with h';omega);refine hK.out _ _ (I.o _ hb1) (fun hHeld=>?_);clear hK K;refine aU 5 fun K hK=>?_;refine kz.step rfl (.tmp 116) (.tmp 118) rfl ↑wc v1 O rfl M gn ⟨C,D,A,ka+1,bi,kb+1⟩ rfl f.lt f.gH bh hb1.size ?_;intro v2 j a t n;have Q:Below ↑wc wc j:=hb1.trans ((fK t).below (fun g hg=>cS M g hg) hb1.size);clear n;refine hK.out _ _ (I.o _ Q) (fun hHeld=>?_);clear hK K;refine gu _ _ _ _ ?_;refine ej 6 ?_;refine gw ?_;clear hHeld;have s:=af (vT.o _ _ a Q);go_wp2_with fail;go_ret;exact s.o
def xy (side:Int) (x q:dg):dg:=if cT side q.ap x.ap=true then q else x
def qj (l:List dg) (side:Int):dg×Bool:=
 match l with
 | []=>(v7,false)
 |x::l'=>(l'.foldl (xy side) x,true)
def Af (l:List dg) (side:Int) (k:Nat):dg:=(l.take k).foldl (xy side) (l.headD v7)
theorem ahZ {l:List dg} {k:Nat} {q:dg} (side:Int) (h:l[k]? =some q):Af l side (k+1)=xy side (Af l side k) q:=by unfold Af;rw [List.take_add_one,h,List.foldl_append];rfl
theorem YQ (side x:Int):cT side x x=false:=by unfold cT;split<;>simp
theorem ah0 {l:List dg} (side:Int) (h:0<l.length):qj l side=(Af l side l.length,true):=by
 cases l with
 |nil=>simp at h
 |cons x l=>
  unfold qj Af;rw [List.take_length];show _=((l.foldl (xy side) (xy side x x)),true);have:xy side x x=x:=by unfold xy;rw [YQ,if_neg cU]
  rw [this]
theorem aK.KC (w:World) (g:Nat) (v0 v1 v2 v3 v4 v5:Value):aK (fun k=>k=g) w ((((((w.setCell ↑g v0).setCell ↑(g,1) v1).setCell ↑(g,2) v2).setCell ↑(g,3) v3).setCell ↑(g,4) v4).setCell ↑(g,5) v5):=
 ((((((aK.refl (fun k=>k=g) w).setCell (p:=⟨g,0,none⟩) (fun _=>rfl) v0).setCell (p:=⟨g,1,none⟩) (fun _=>rfl) v1).setCell (p:=⟨g,2,none⟩) (fun _=>rfl) v2).setCell (p:=⟨g,3,none⟩) (fun _=>rfl) v3).setCell (p:=⟨g,4,none⟩) (fun _=>rfl) v4).setCell (p:=⟨g,5,none⟩) (fun _=>rfl) v5
theorem av.KC {w:World} {g:Nat} {t:TypeId} {x0 x1 A B C D:Value} (h:av w g t #[x0,x1,A,B,C,D]) (v0 v1 v2 v3 v4 v5:Value):av ((((((w.setCell ↑g v0).setCell ↑(g,1) v1).setCell ↑(g,2) v2).setCell ↑(g,3) v3).setCell ↑(g,4) v4).setCell ↑(g,5) v5) g t #[v0,v1,v2,v3,v4,v5]:=by have h1:=(((((h.aW 0 v0).aW 1 v1).aW 2 v2).aW 3 v3).aW 4 v4).aW 5 v5;simp only [List.setIfInBounds_toArray,List.set_cons_zero,List.set_cons_succ]at h1;exact h1
def Hy (w:World) (g:Nat) (q:dg):Prop:=w.cell? ⟨g,0,none⟩=some (.int .i64 q.ap)∧w.cell? ⟨g,1,none⟩=some (.int .i64 q.aq)∧w.cell? ⟨g,2,none⟩=some (.int .i64 q.i0)∧w.cell? ⟨g,3,none⟩=some (.int .i64 q.s0)∧w.cell? ⟨g,4,none⟩=some (.int .i64 q.i1)∧w.cell? ⟨g,5,none⟩=some (.int .i64 q.s1)
theorem Hy.of {w:World} {g:Nat} {t:TypeId} {q:dg} (h:av w g t q.cells.toArray):Hy w g q:=⟨h.cell 0,h.cell 1,h.cell 2,h.cell 3,h.cell 4,h.cell 5⟩
structure Hz (W w:World) (gr bE:Nat) (aa:Option Addr) (A:List dg) (r x:dg):Prop where
 aJ:Below ↑W W w
 res:av w gr 192 r.cells.toArray
 best:av w bE 192 x.cells.toArray
 rd:kz.fR W aa A
 O9:W.heap.size<=gr
 RK:W.heap.size<=bE
 ne:gr≠bE
theorem Hz.next {W w w':World} {gr bE:Nat} {aa:Option Addr} {A:List dg} {r x:dg} (h:Hz W w gr bE aa A r x) (hb:Below ↑w w w'):Hz W w' gr bE aa A r x:=
 ⟨h.aJ.trans (hb.mono h.aJ.size),h.res.below hb,h.best.below hb,h.rd,h.O9,h.RK,h.ne⟩
theorem YR (A:List dg) (aa:Option Addr) (ac:Nat) (side:Int) (w:World) (hA:kz.fR w aa A) (hl:A.length<=1000000):
 Calls Tryz.prog 101 #[.slice aa A.length ac,↑side] w fun e w'=>e= .returned (.tuple #[.agg (qj A side).1.cells.toArray,.bool (qj A side).2])∧Below ↑w w w':=by
 have s1:=ak;have T:=af hA;clear hA;cases A with
 |nil=>go_enter Tryz.func101,Tryz.ntmps101;go_wp2_with fail;refine bodyPost_ret (v:= .tuple #[.agg v7.cells.toArray,.bool false]) (by simp [results,Tryz.results101,go_sem,v7,dg.cells]) rfl ?_;exact⟨rfl,(Below.aI w _)⟩
 |cons x l=>
  have hx:(x::l)[0]? =some x:=rfl;have X:=af fun(k:Nat) (q:dg) (h:(x::l)[k]? =some q)=>ahZ side h;have V:=af (ah0 (l:=x::l) side (Nat.zero_lt_succ _));have H0:Ei (Af (x::l) side 0=x):=af rfl;rw [V.o];clear V;generalize Y:x::l=A at*;have h0:0<A.length:=by rw [<-Y];exact Nat.zero_lt_succ _
  have e1:(A.length==0)=false:=by rw [beq_eq_false_iff_ne];omega
  have e2:((A.length:Int)==0)=false:=by rw [beq_eq_false_iff_ne];omega
  have h0':(0:Int)<(A.length:Int):=bh;clear Y;obtain⟨b,off,rfl,G,D⟩:=T.o 0 x hx;rw [Nat.zero_mul,Nat.add_zero]at D;have q0:w.cell? ↑(b,off)=↑x.ap:=D 0 _ rfl;have q1:w.cell? ↑(b,off+1)=↑x.aq:=D 1 _ rfl;have L:w.cell? ↑(b,off+2)=↑x.i0:=D 2 _ rfl;have O:w.cell? ↑(b,off+3)=↑x.s0:=D 3 _ rfl;have P:w.cell? ↑(b,off+4)=↑x.i1:=D 4 _ rfl;have Q:w.cell? ↑(b,off+5)=↑x.s1:=D 5 _ rfl;have hbd:=Below.aI w (.cells v7.cells.toArray 192);have g0:=(hbd.cell (p:=⟨b,off,none⟩) G).trans q0;have g1:=(hbd.cell (p:=⟨b,off+1,none⟩) G).trans q1;have g2:=(hbd.cell (p:=⟨b,off+2,none⟩) G).trans L;have aV:=(hbd.cell (p:=⟨b,off+3,none⟩) G).trans O;have c5:=(hbd.cell (p:=⟨b,off+4,none⟩) G).trans P;have bt:=(hbd.cell (p:=⟨b,off+5,none⟩) G).trans Q;have hres:av (w.alloc (.cells v7.cells.toArray 192)) ↑w 192 v7.cells.toArray:=av.new _ _ _;have J:=af hres;have M:=af hbd;have s:=af hx;clear D q0 q1 L O P Q hbd hres hx;simp only [v7,dg.cells]at g0 g1 g2 aV c5 bt;go_enter Tryz.func101,Tryz.ntmps101;go_upto_region 1 with(fail);simp only [v7,dg.cells]at J M;generalize hw0:w.alloc (.cells #[↑(),↑(),↑(),↑(),↑(),↑()] 192)=w0 at*;clear hw0;go_upto_region 4 with(fail);clear g0 g1 g2 aV c5 bt e1 e2;have y:w.heap.size<w0.heap.size:=J.o.lt;have hB:Hz w (w0.alloc (.cells #[↑x.ap,↑x.aq,↑x.i0,↑x.s0,↑x.i1,↑x.s1] 192)) ↑w w0.heap.size (some ⟨b,off,none⟩) A v7 x:=
   ⟨M.o.alloc M.o.size _,J.o.alloc _,av.new _ _ _,T.o,Nat.le_refl _,bh,bh⟩
  have C:=af hB;clear hB J M T;generalize w0.alloc (.cells #[↑x.ap,↑x.aq,↑x.i0,↑x.s0,↑x.i1,↑x.s1] 192)=w1 at*;generalize w0.heap.size=bE at*;go_wp2_with fail;have R:Ei (Af A side 1=x):=af (by rw [X.o 0 x s.o,H0.o];unfold xy;rw [YQ,if_neg cU]);go_loopw [7] (fun j w'=>∃k:Nat,j=↑k∧1<=k∧k<=A.length∧Hz w w' ↑w bE (some ⟨b,off,none⟩) A v7 (Af A side k)) (fun j _=>A.length-(RowKit.intOf j).toNat)
  case atStart=>exact⟨1,rfl,Nat.le_refl _,h0,by rw [R.o];exact C.o⟩
  clear C;obtain⟨k,rfl,u,hk,hB⟩:=hrel;obtain⟨ax,rfl⟩:=aj wr;by_cases hkn:k<A.length
  ·have t:(k:Int)<(A.length:Int):=by omega
   obtain⟨q,hq⟩:=GB A k hkn;have hto:=X.o k q hq;generalize Af A side k=z at*;have C:=af hB;have E:=af hto;clear hB hto;obtain⟨b',off',he,W,U⟩:=C.o.rd k q hq;injection he with he;injection he with c m;subst c;subst m;have F:Ei (∀wv,Below ↑w w wv->iI wv b (off+k*6) q.cells):=af fun wv hb=>U.below hb W;have q0:ax.cell? ↑(b,off+k*6)=↑q.ap:=F.o _ C.o.aJ 0 _ rfl;have c0:=C.o.best.GC;clear U hq W;have N:=af fun n=>(WA side q.ap z.ap (ax.drewN n)).mono fun e w' h=>(⟨h.1,h.2.symm⟩:e= .returned (.bool (cT side q.ap z.ap))∧w'=ax.drewN n);unfold xy at E;go_upto_region 7 with(fail);cases K:cT side q.ap z.ap with
   |false=>
    rw [K]at N E;rw [if_neg cU]at E;clear K;go_quiet ((go_at_call 72;exact Calls.quiet_of_same (N.o _)));have B:=af (C.o.next (Below.bO ax nq));clear q0 c0 C;go_wp2_with fail;go_roundw
    case rel=>exact⟨k+1,dR,bh,bh,by rw [E.o];exact B.o⟩
    exact Ej
   |true=>
    rw [K]at N E;rw [if_pos rfl]at E;clear K;go_quiet ((go_at_call 72;exact Calls.quiet_of_same (N.o _)));have B:=af (C.o.next (Below.bO ax nq));clear q0 c0 C;generalize ax.drewN nq=w3 at*;have q0:w3.cell? ↑(b,off+k*6)=↑q.ap:=F.o _ B.o.aJ 0 _ rfl;have q1:w3.cell? ↑(b,off+k*6+1)=↑q.aq:=F.o _ B.o.aJ 1 _ rfl;have L:w3.cell? ↑(b,off+k*6+2)=↑q.i0:=F.o _ B.o.aJ 2 _ rfl;have O:w3.cell? ↑(b,off+k*6+3)=↑q.s0:=F.o _ B.o.aJ 3 _ rfl;have P:w3.cell? ↑(b,off+k*6+4)=↑q.i1:=F.o _ B.o.aJ 4 _ rfl;have Q:w3.cell? ↑(b,off+k*6+5)=↑q.s1:=F.o _ B.o.aJ 5 _ rfl;obtain⟨c0,c1,c2,c3,I,H⟩:=Hy.of B.o.best;have fz:∀o,w3.frozen? ⟨bE,o,none⟩=false:=fun o=>B.o.best.frozen o;go_wp2_with fail;have S:Ei (Hz w ((((((w3.setCell ↑bE ↑q.ap).setCell ↑(bE,1) ↑q.aq).setCell ↑(bE,2) ↑q.i0).setCell ↑(bE,3) ↑q.s0).setCell ↑(bE,4) ↑q.i1).setCell ↑(bE,5) ↑q.s1) w.heap.size bE (some ⟨b,off,none⟩) A v7 q):=af (by have hk:=aK.KC w3 bE ↑q.ap ↑q.aq ↑q.i0 ↑q.s0 ↑q.i1 ↑q.s1;exact⟨B.o.aJ.trans (hk.below (fun g hg=>by have hg':g=bE:=hg;have:=B.o.RK;omega) B.o.aJ.size),B.o.res.keeps hk B.o.ne,B.o.best.KC _ _ _ _ _ _,B.o.rd,B.o.O9,B.o.RK,B.o.ne⟩);clear c0 c1 c2 c3 I H q0 q1 L O P Q fz B;go_roundw
    case rel=>exact⟨k+1,dR,bh,bh,by rw [E.o];exact S.o⟩
    exact Ej
  obtain rfl:k=A.length:=bh;obtain⟨z,hz⟩:=ai (Af A side A.length);rw [hz]at hB;have d:=af hz;clear hz;have C:=af hB;clear hB;obtain⟨c0,c1,c2,c3,I,H⟩:=Hy.of C.o.best;obtain⟨d0,d1,d2,d3,d4,d5⟩:=Hy.of C.o.res;have fz:∀o,ax.frozen? ⟨w.heap.size,o,none⟩=false:=fun o=>C.o.res.frozen o;go_wp2_with fail;clear c0 c1 c2 c3 I H d0 d1 d2 d3 d4 d5 fz;have hk:=aK.KC ax ↑w ↑z.ap ↑z.aq ↑z.i0 ↑z.s0 ↑z.i1 ↑z.s1;have r:=C.o.aJ.trans (hk.below (fun g hg=>by have hg':g=w.heap.size:=hg;omega) C.o.aJ.size);have Z:=C.o.res.KC ↑z.ap ↑z.aq ↑z.i0 ↑z.s0 ↑z.i1 ↑z.s1;clear hk;generalize ((((((ax.setCell ↑w.heap.size ↑z.ap).setCell ⟨w.heap.size,1,none⟩ ↑z.aq).setCell ⟨w.heap.size,2,none⟩ ↑z.i0).setCell ⟨w.heap.size,3,none⟩ ↑z.s0).setCell ⟨w.heap.size,4,none⟩ ↑z.i1).setCell ⟨w.heap.size,5,none⟩ ↑z.s1)=wf at*;obtain⟨c0,c1,c2,c3,I,H⟩:=Hy.of (q:=z) Z;clear Z;refine bodyPost_ret (v:= .tuple #[.agg #[↑z.ap,↑z.aq,↑z.i0,↑z.s0,↑z.i1,↑z.s1],.bool true]) (by simp [results,Tryz.results101,go_sem,c0,c1,c2,c3,I,H]) rfl ?_;exact⟨by rw [d.o];rfl,r⟩
structure pG where
 id:Int
 inst:Int
 side:Int
 ap:Int
 aq:Int
 left:Int
def pG.cells (x:pG):List Value:= [.int .i64 x.id,.int .i64 x.inst,.int .i64 x.side,.int .i64 x.ap,.int .i64 x.aq,.int .i64 x.left]
def ago:pG:=⟨0,0,0,0,0,0⟩
theorem pG.kI (x:pG):∀u∈x.cells,u.oneCell'=true:=by intro u hu;simp only [pG.cells,List.mem_cons,List.not_mem_nil,or_false]at hu;rcases hu with rfl|rfl|rfl|rfl|rfl|rfl<;>rfl
def qg:bl pG:=⟨pG.cells,6,fun _=>rfl,pG.kI,bh,208,204,.agg ago.cells.toArray,48,Tryz.underlying204,eP,dn,bh⟩
def pz (L:List aC) (z:List (aC×Int)):List aC:=z.foldl (fun L x=>if 0<x.2 then(pF L x.1.id x.2).1 else L) L
def GU (inst side ap:Int) (x:aC×Int):List pG:=if 0<x.2 then [⟨x.1.id,inst,side,ap,x.2,IntKind.i64.wrap (x.1.aq-x.2)⟩]else []
def vU (inst side ap:Int) (z:List (aC×Int)):List pG:=z.flatMap (GU inst side ap)
def sx (p:Prod) (L:List aC) (side ap q:Int):List (aC×Int):=(yo L side ap).zip (Ba p (yo L side ap) q)
def ou (p:Prod) (S:List (List aC)) (inst:Nat) (side ap q:Int):List (List aC)×List pG:=
 (S.set inst (pz (S.getD inst []) (sx p (S.getD inst []) side ap q)),vU inst side ap (sx p (S.getD inst []) side ap q))
theorem TL (L:List aC) (z:List (aC×Int)) (x:aC×Int):pz L (z++ [x])=if 0<x.2 then(pF (pz L z) x.1.id x.2).1 else pz L z:=by unfold pz;rw [List.foldl_append];rfl
theorem TM (i s p:Int) (z:List (aC×Int)) (x:aC×Int):vU i s p (z++ [x])=vU i s p z++GU i s p x:=by unfold vU;rw [List.flatMap_append];simp
theorem j8.pz {L:List aC} (h:j8 L) (z:List (aC×Int)):j8 (pz L z):=by
 unfold Go.Proofs.YtmaijkoopjocdaaGreat.pz;induction z generalizing L with
 |nil=>exact h
 |cons x t ih=>
  rw [List.foldl_cons];refine ih ?_;split
  ·exact h.fill _ _
  exact h
theorem MX (i s p:Int) (z:List (aC×Int)):(vU i s p z).length<=z.length:=by
 unfold vU;induction z with
 |nil=>exact Nat.le_refl _
 |cons x t ih=>
  rw [List.flatMap_cons,List.length_append,List.length_cons];have:(GU i s p x).length<=1:=by unfold GU;split<;>simp
  omega
theorem MT {L:List aC} (h:j8 L) (side ap:Int):(yo L side ap).length<=250∧∀o∈yo L side ap,1<=o.aq∧o.aq<=1000000:=
 ⟨Nat.le_trans (List.length_filter_le ..) h.len,fun o ho=>h.aq o (List.mem_filter.1 ho).1⟩
theorem MV {p:Prod} {L:List aC} (side ap q:Int):(sx p L side ap q).length=(Ba p (yo L side ap) q).length:=by unfold sx;rw [List.length_zip];exact Nat.min_eq_right (JE p _ q)
end Go.Proofs.YtmaijkoopjocdaaGreat
