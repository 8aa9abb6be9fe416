import Derived.Test.YtmaijkoopjocdaaGreatKT42
set_option maxRecDepth 100000
set_option maxHeartbeats 64000000
namespace Go.Proofs.YtmaijkoopjocdaaGreat
open Go.RowKit Go.Lib
structure Hd where
 a:Option Addr
 n:Nat
 c:Nat
def Hd.v (h:Hd):Value:= .slice h.a h.n h.c
def Hd.cells (h:Hd):List Value:= [.slice h.a h.n h.c]
theorem Hd.jL (h:Hd):∀u∈h.cells,u.oneCell'=true:=by
 intro u hu;simp only [Hd.cells,List.mem_cons,List.not_mem_nil,or_false]at hu;rw [hu];rfl
def CR:aY Hd:=⟨Hd.cells,1,fun _=>rfl,Hd.jL,by omega,37,28,.slice none 0 0,24,Tryz.underlying28,by kernel_rfl,by rfl,by omega⟩
def x9:aY Hd:=⟨Hd.cells,1,fun _=>rfl,Hd.jL,by omega,54,29,.agg #[.slice none 0 0],24,Tryz.underlying29,by kernel_rfl,by rfl,by omega⟩
def dB.list (c:dB):List Value:= [.int .i64 c.kind,.int .i64 c.id,.int .i64 c.inst,.int .i64 c.side,.int .i64 c.ag,.int .i64 c.ah,.int .i64 c.least,.int .i64 c.time,.string c.label]
theorem dB.jL (c:dB):∀u∈c.list,u.oneCell'=true:=by
 intro u hu;simp only [dB.list,List.mem_cons,List.not_mem_nil,or_false]at hu;rcases hu with rfl|rfl|rfl|rfl|rfl|rfl|rfl|rfl|rfl<;>rfl
def OH:aY dB:=⟨dB.list,9,fun _=>rfl,dB.jL,by omega,80,26,.agg Lc.list.toArray,80,Tryz.underlying26,by kernel_rfl,by rfl,by omega⟩
def lU (w:World) (B:Nat) (v:Value) (M:List aB):Prop:=
 ∃P:List Hd,CR.Row w B v P∧P.length=M.length∧∀(j:Nat) (h:Hd) (m:aB),P[j]? =some h→M[j]? =some m→e9.Row w B (.slice h.a h.n h.c) (j6 m)
def nO (w:World) (B:Nat) (v:Value) (V:List bP):Prop:=
 ∃P:List Hd,x9.Row w B v P∧P.length=V.length∧∀(j:Nat) (h:Hd) (x:bP),P[j]? =some h→V[j]? =some x→cl eF bC w B (.slice h.a h.n h.c) x
section
variable {w w':World} {B B':Nat} {v v':Value} {M:List aB} {V:List bP} {F:Nat→Prop}
theorem lU.nil (w:World) (B:Nat):lU w B (.slice none 0 0) []:=⟨[],aY.Row.nil w B,rfl,fun j h m hp=>by simp at hp⟩
theorem lU.keep (h:lU w B v M) (hk:aD F w w') (hv:∀g,v.ownBlock=some g→¬F g) (hy:∀g,bV w g e9.t→¬F g):lU w' B v M:=by
 obtain⟨P,h1,h2,h3⟩:=h;exact⟨P,h1.zk hk hv,h2,fun j x m hp hm=>(h3 j x m hp hm).keep hk hy⟩
theorem lU.below (h:lU w B v M) (hb:Below w.heap.size w w'):lU w' B v M:=
 h.keep (F:=fun _=>False) (Below.keeps hb) (fun _ _ x=>x) (fun _ _ x=>x)
theorem lU.base (h:lU w B v M) (hB:B'≤B):lU w B' v M:=by
 obtain⟨P,h1,h2,h3⟩:=h;exact⟨P,h1.base hB,h2,fun j x m hp hm=>(h3 j x m hp hm).base hB⟩
theorem lU.snoc {P:List Hd} {x:Hd} {m:aB} (hr:CR.Row w B v' (P++ [x])) (hl:P.length=M.length) (ho:∀(j:Nat) (h:Hd) (m:aB),P[j]? =some h→M[j]? =some m→e9.Row w B (.slice h.a h.n h.c) (j6 m)) (h1:e9.Row w B (.slice x.a x.n x.c) (j6 m)):lU w B v' (M++ [m]):=by
 refine⟨_,hr,by rw [List.length_append,List.length_append,hl];rfl,fun j q z hq hz=>?_⟩;by_cases hj:j<P.length
 ·rw [List.getElem?_append_left hj]at hq
  rw [List.getElem?_append_left (by omega)]at hz;exact ho j q z hq hz
 ·rw [List.getElem?_append_right (by omega)]at hq
  rw [List.getElem?_append_right (by omega)]at hz;have hj0:j-P.length=0:=by have:=dc hq;simp at this;omega
  rw [hj0]at hq;rw [←hl,hj0]at hz;injection hq with hq;injection hz with hz;subst hq;subst hz;exact h1
theorem nO.keep (h:nO w B v V) (hk:aD F w w') (hv:∀g,v.ownBlock=some g→¬F g) (hz:∀g,bV w g eF.t→¬F g) (hy:∀g,bV w g bC.t→¬F g):nO w' B v V:=by
 obtain⟨P,h1,h2,h3⟩:=h;exact⟨P,h1.zk hk hv,h2,fun j x m hp hm=>(h3 j x m hp hm).keep hk hz hy⟩
theorem nO.below (h:nO w B v V) (hb:Below w.heap.size w w'):nO w' B v V:=
 h.keep (F:=fun _=>False) (Below.keeps hb) (fun _ _ x=>x) (fun _ _ x=>x) (fun _ _ x=>x)
theorem nO.base (h:nO w B v V) (hB:B'≤B):nO w B' v V:=by
 obtain⟨P,h1,h2,h3⟩:=h;exact⟨P,h1.base hB,h2,fun j x m hp hm=>(h3 j x m hp hm).base hB⟩
theorem nO.snoc {P:List Hd} {x:Hd} {m:bP} (hr:x9.Row w B v' (P++ [x])) (hl:P.length=V.length) (ho:∀(j:Nat) (h:Hd) (m:bP),P[j]? =some h→V[j]? =some m→cl eF bC w B (.slice h.a h.n h.c) m) (h1:cl eF bC w B (.slice x.a x.n x.c) m):nO w B v' (V++ [m]):=by
 refine⟨_,hr,by rw [List.length_append,List.length_append,hl];rfl,fun j q z hq hz=>?_⟩;by_cases hj:j<P.length
 ·rw [List.getElem?_append_left hj]at hq
  rw [List.getElem?_append_left (by omega)]at hz;exact ho j q z hq hz
 ·rw [List.getElem?_append_right (by omega)]at hq
  rw [List.getElem?_append_right (by omega)]at hz;have hj0:j-P.length=0:=by have:=dc hq;simp at this;omega
  rw [hj0]at hq;rw [←hl,hj0]at hz;injection hq with hq;injection hz with hz;subst hq;subst hz;exact h1
theorem lU.get (h:lU w B v M) {j:Nat} {m:aB} (hj:M[j]? =some m):∃(g cap:Nat) (x:Hd),v= .slice (some ⟨g,0,none⟩) M.length cap∧g<w.heap.size∧w.cell? ⟨g,j,none⟩=some (.slice x.a x.n x.c)∧e9.Row w B (.slice x.a x.n x.c) (j6 m):=by
 obtain⟨P,h1,h2,h3⟩:=h;have hl:=dc hj;have hp:P[j]? =some (P[j]'(by omega)):=List.getElem?_eq_getElem (by omega);obtain⟨g,cap,e1,e2,bE⟩:=h1.at_ j _ hp;have cw:=bE 0 _ rfl;rw [show j*CR.m+0=j by show j*1+0=j;omega]at cw;exact⟨g,cap,_,by rw [e1,h2],e2,cw,h3 j _ m hp hj⟩
theorem nO.get (h:nO w B v V) {j:Nat} {m:bP} (hj:V[j]? =some m):∃(g cap:Nat) (x:Hd),v= .slice (some ⟨g,0,none⟩) V.length cap∧g<w.heap.size∧w.cell? ⟨g,j,none⟩=some (.slice x.a x.n x.c)∧cl eF bC w B (.slice x.a x.n x.c) m:=by
 obtain⟨P,h1,h2,h3⟩:=h;have hl:=dc hj;have hp:P[j]? =some (P[j]'(by omega)):=List.getElem?_eq_getElem (by omega);obtain⟨g,cap,e1,e2,bE⟩:=h1.at_ j _ hp;have cw:=bE 0 _ rfl;rw [show j*x9.m+0=j by show j*1+0=j;omega]at cw;exact⟨g,cap,_,by rw [e1,h2],e2,cw,h3 j _ m hp hj⟩
theorem lU.form (h:lU w B v M):∃a c,v= .slice a M.length c:=by
 obtain⟨P,h1,h2,_⟩:=h;obtain⟨a,c,e⟩:=h1.form;exact⟨a,c,by rw [e,h2]⟩
theorem nO.form (h:nO w B v V):∃a c,v= .slice a V.length c:=by
 obtain⟨P,h1,h2,_⟩:=h;obtain⟨a,c,e⟩:=h1.form;exact⟨a,c,by rw [e,h2]⟩
end
theorem acj {p:Prod} (hz:cz p=0) {L:List cZ} (h:∀x∈L,∀s,x.has s=false) (i:Nat) (s:Int):nP p L i s= []:=by
 refine List.eq_nil_iff_forall_not_mem.2 fun q hq=>?_;obtain⟨_,x,_,h2,_,h3,_⟩:=(UK hz hq).a;rw [h x (List.mem_of_getElem? h2)]at h3;cases h3
theorem ack {p:Prod} (hz:cz p=0) (n:Nat):cT p (List.replicate n [])=(qY n).V:=by
 have ht:∀x∈dF (List.replicate n ([]:List ay)),∀s,x.has s=false:=fun x hx s=>by
  unfold dF at hx;obtain⟨L,hL,rfl⟩:=List.mem_map.1 hx;rw [(List.mem_replicate.1 hL).2];unfold RG cZ.has;split<;>rfl
 have hs:∀i s,kL p (List.replicate n []) i s=tJ:=fun i s=>by
  have hq:lF p (dF (List.replicate n [])) i s= []:=by unfold lF;rw [acj hz ht];rfl
  have hg:(List.replicate n ([]:List ay)).getD i []= []:=by
   rw [List.getD_eq_getElem?_getD,List.getElem?_replicate];split<;>rfl
  unfold kL;rw [hq,hg];rfl
 unfold cT;rw [List.length_replicate];show _=List.replicate n (tJ,tJ);refine List.ext_getElem? fun j=>?_;rw [List.getElem?_map,List.getElem?_replicate];by_cases hj:j<n
 ·rw [List.getElem?_range hj,if_pos hj]
  simp only [Option.map_some,hs]
 ·rw [if_neg hj,List.getElem?_eq_none (by rw [List.length_range];omega)]
  rfl
def gK (k:Nat) (S:List (List ay)):Prop:=∀L∈S,L.length≤k
section
variable {p:Prod} {S:List (List ay)} {E:List Int} {k:Nat}
theorem gK.more (h:gK k S) {j:Nat} (hj:k≤j):gK j S:=fun L hL=>Nat.le_trans (h L hL) hj
theorem gK.at_ (h:gK k S) (i:Nat):(S.getD i []).length≤k:=by
 rw [List.getD_eq_getElem?_getD];cases hg:S[i]? with
 |none=>exact Nat.zero_le _
 |some L=>exact h L (List.mem_of_getElem? hg)
theorem gK.set (h:gK k S) {i:Nat} {L:List ay} (hL:L.length≤k):gK k (S.set i L):=fun K hK=>by
 rcases List.mem_or_eq_of_mem_set hK with h1|rfl
 ·exact h K h1
 ·exact hL
theorem VJ:∀(z:List (ay×Int)) (L:List ay),(ox L z).length≤L.length
 | [],_=>Nat.le_refl _
 |x::t,L=>by
  have h1:=VJ t (if 0<x.2 then(oz L x.1.id x.2).1 else L)
  have h2:(if 0<x.2 then(oz L x.1.id x.2).1 else L).length≤L.length:=by
   split
   ·exact VK ..
   ·exact Nat.le_refl _
  exact Nat.le_trans h1 h2
theorem gK.qD (h:gK k S) (i:Nat) (side ag q:Int):gK k (nA p S i side ag q).1:=
 h.set (Nat.le_trans (VJ _ _) (h.at_ i))
theorem gK.step (h:gK k S) {i:Nat} {side ag ah:Int} {r:List (List ay)×mq} (hr:sy p S i side ag ah=some r):gK k r.1:=by
 unfold sy at hr;split at hr
 ·injection hr with hr
  subst hr;exact h.qD _ _ _ _
 ·split at hr
  ·cases hr
  ·injection hr with hr
   subst hr;exact(h.qD _ _ _ _).qD _ _ _ _
theorem gK.gl (i:Nat) (side ag:Int):∀(f:Nat) {S:List (List ay)} (ah:Int),gK k S→gK k (gl p i side ag f S ah).1
 |0,_,_,h=>h
 |f+1,S,ah,h=>by
  unfold Go.Proofs.YtmaijkoopjocdaaGreat.gl;split
  ·exact h
  ·cases hr:sy p S i side ag ah with
   |none=>exact h
   |some r=>exact gK.gl i side ag f (ah-r.2.ah) (h.step hr)
theorem gK.Pk (h:gK k S) (i:Nat) (id side ag ah:Int):gK (k+1) (ve p S i id side ag ah).1:=by
 unfold ve;split
 ·exact h.more (Nat.le_succ _)
 ·split
  ·exact h.more (Nat.le_succ _)
  ·split
   ·exact h.more (Nat.le_succ _)
   ·exact(h.more (Nat.le_succ _)).set (Nat.le_trans (jm.adn ..) (Nat.succ_le_succ (h.at_ i)))
theorem gK.run (h:gK k S) (i:Nat) (c:dB):gK (k+1) (qh p S i c):=by
 have h1:=gK.gl (p:=p) i c.side c.ag c.ah.toNat c.ah h;unfold qh;split
 ·exact h1.Pk _ _ _ _ _
 ·exact h1.more (Nat.le_succ _)
theorem gK.take (h:gK k S) (id ah:Int):gK k (fA S id ah).1:=by
 unfold fA;split
 ·exact h
 ·exact h.set (Nat.le_trans (VK ..) (h.at_ _))
theorem gK.come (h:gK k S) (i:Nat) (c:dB):gK (k+1) (qN p S E i c).1:=by
 unfold qN
 repeat' split
 all_goals first|exact h.more (Nat.le_succ _)|exact h.run i c
theorem gK.Ii (h:gK k S) (c:dB):gK (k+1) (lC p S E c).1:=by
 unfold lC;split
 ·exact h.come _ c
 ·split
  ·exact h.more (Nat.le_succ _)
  ·repeat' split
   all_goals first|exact h.more (Nat.le_succ _)|exact(h.take _ _).more (Nat.le_succ _)|exact(h.take _ _).run _ _
theorem gK.look (h:gK k S):g7 (cT p S) k:=fun x hx=>by
 obtain⟨i,_,rfl⟩:=LD hx
 have hl:∀s,(j9 (S.getD i []) s).length≤k:=fun s=>by
  unfold j9;exact Nat.le_trans (Pm _) (Nat.le_trans (List.length_filter_le ..) (h.at_ i))
 exact⟨hl 1,hl 2⟩
end
theorem gK.new (n:Nat):gK 0 (List.replicate n ([]:List ay)):=fun L hL=>by
 rw [(List.mem_replicate.1 hL).2];exact Nat.le_refl _
section
variable {W w w':World} {pm ps pb:Nat} {p:Prod} {Q:List Nat} {S S':List (List ay)} {E:List Int}
theorem abS (h:ed W w pm ps p Q S E) (hz:cz p=0) (hS:dJ p S) (c:dB) (hc:wm S.length c) (hE:E.length≤90000) (qv:c.kind=1):
 Calls Tryz.prog 29 #[.pointer (some ⟨pm,0,none⟩),.agg c.cells] w fun e w'=>∃v,e= .returned v∧fQ W w w' pm ps p Q (lC p S E c).1 (lC p S E c).2:=by
 have hb0:=Below.aA w (.cells c.cells 80);have bD:=af hb0;have ie:=af h;have iT:=af (h.below hb0);have bY:Hid (aj (w.alloc (.cells c.cells 80)) w.heap.size 80 c.cells):=af (aj.new _ _ _);have cH:=af fun w=>E1 c hc (by have:=hS.le;omega) w;have dI:=af hz;have aq:=af hS;have bH:=af hE;have aU:=af hc;have gG:=af fun(wv:World) (hv:ed W wv pm ps p Q S E) (i:Nat) (jS:c.inst=i) (hi:i<S.length) (gf:c.side=1∨c.side=2) (iR:c.least≤c.ah)=>Eb hv hz hS c jS hi gf hc.ah.1 hc.ah.2 iR hE;obtain⟨R,hR⟩:∃R,lC p S E c=R:=⟨_,rfl⟩;have b9:Hid (R=if c.kind=1 then qN p S E c.inst.toNat c
 else match gp c.id 0 S with
  |none=>(S,E)
  |some (i,x)=>
   if c.kind=2∨(c.kind=3∧x.ah≤c.ah)then((fA S c.id x.ah).1,E)
   else if c.kind=3 then((fA S c.id c.ah).1,E)
   else if eA p i c.ag≠0 then(S,E)
   else if c.ag=x.ag∧c.ah≤x.ah then(if c.ah<x.ah then((fA S c.id (x.ah-c.ah)).1,E)else(S,E))
   else if rB p (fA S c.id x.ah).1 i x.side c.ag c.ah=true then(S,E)
   else(qh p (fA S c.id x.ah).1 i ⟨0,c.id,i,x.side,c.ag,c.ah,0,1,⟨#[]⟩⟩,E)):=af (by rw [←hR];rfl)
 rw [hR];have wo:=af qv;clear h hz hS hE hb0 hR hc qv;obtain⟨kd,id,inst,side,ag,ah,least,time,label⟩:=c;unfold dB.cells at*;dsimp only at*;go_enter Tryz.func29,Tryz.ntmps29
 go_upto_region 1 with(fail)
 obtain⟨aO,bU⟩:∃g,w.heap.size=g:=⟨_,rfl⟩;rw [bU]at bY⊢;clear bU;generalize w.alloc (.cells _ 80)=w1 at*;have c0:=bY.out.cell 0;have c1:=bY.out.cell 1;have c2:=bY.out.cell 2;have c3:=bY.out.cell 3;have dn:=bY.out.cell 4;have cj:=bY.out.cell 5;have fE:=bY.out.cell 6;have gP:=bY.out.cell 7;have iC:=bY.out.cell 8;have h6:=cH.out w1;go_wp2_with fail
 refine h6.mono ?_;rintro e w2 ⟨rfl,hb2⟩;have aT:=af (bD.out.trans (hb2.mono bD.out.size));have gH:=af (iT.out.below hb2);have ef:=af (bY.out.below hb2);clear c0 c1 c2 c3 dn cj fE gP iC h6 hb2 cH iT bY bD;have c0:=ef.out.cell 0;by_cases cJ:kd=1
 ·subst cJ
  rw [if_pos rfl]at b9;obtain⟨gf,_,⟨_,iR⟩,i,hin,hil⟩:=aU.out.new rfl;dsimp only at gf iR hin;have Oj:=gG.out w2 gH.out i hin hil gf iR;have Uf:R=qN p S E i ⟨1,id,inst,side,ag,ah,least,time,label⟩:=by rw [b9.out,hin,Int.toNat_natCast]
  rw [←Uf]at Oj;have c1:=ef.out.cell 1;have c2:=ef.out.cell 2;have c3:=ef.out.cell 3;have dn:=ef.out.cell 4;have cj:=ef.out.cell 5;have fE:=ef.out.cell 6;have gP:=ef.out.cell 7;have iC:=ef.out.cell 8;have tW:=af Oj;clear gf iR hin hil Uf Oj;go_wp2_with fail
  refine tW.out.mono ?_;rintro e w3 ⟨v,rfl,_,_,_,Ar⟩;have cn:=af ((fQ.qi ie.out gH.out (Below.keeps aT.out)).trans Ar aT.out.size);clear Ar c0 c1 c2 c3 dn cj fE gP iC;go_wp2_with fail
  go_ret;exact⟨_,rfl,cn.out⟩
 ·exact absurd wo.out cJ
theorem abT (h:ed W w pm ps p Q S E) (hz:cz p=0) (hS:dJ p S) (c:dB) (hc:wm S.length c) (hE:E.length≤90000) (qv:c.kind≠1) (hfind:gp c.id 0 S=none):
 Calls Tryz.prog 29 #[.pointer (some ⟨pm,0,none⟩),.agg c.cells] w fun e w'=>∃v,e= .returned v∧fQ W w w' pm ps p Q (lC p S E c).1 (lC p S E c).2:=by
 have hb0:=Below.aA w (.cells c.cells 80);have bD:=af hb0;have ie:=af h;have iT:=af (h.below hb0);have bY:Hid (aj (w.alloc (.cells c.cells 80)) w.heap.size 80 c.cells):=af (aj.new _ _ _);have cH:=af fun w=>E1 c hc (by have:=hS.le;omega) w;have dI:=af hz;have aq:=af hS;have bH:=af hE;have aU:=af hc;have gG:=af fun(wv:World) (hv:ed W wv pm ps p Q S E) (i:Nat) (jS:c.inst=i) (hi:i<S.length) (gf:c.side=1∨c.side=2) (iR:c.least≤c.ah)=>Eb hv hz hS c jS hi gf hc.ah.1 hc.ah.2 iR hE;obtain⟨R,hR⟩:∃R,lC p S E c=R:=⟨_,rfl⟩;have b9:Hid (R=if c.kind=1 then qN p S E c.inst.toNat c
 else match gp c.id 0 S with
  |none=>(S,E)
  |some (i,x)=>
   if c.kind=2∨(c.kind=3∧x.ah≤c.ah)then((fA S c.id x.ah).1,E)
   else if c.kind=3 then((fA S c.id c.ah).1,E)
   else if eA p i c.ag≠0 then(S,E)
   else if c.ag=x.ag∧c.ah≤x.ah then(if c.ah<x.ah then((fA S c.id (x.ah-c.ah)).1,E)else(S,E))
   else if rB p (fA S c.id x.ah).1 i x.side c.ag c.ah=true then(S,E)
   else(qh p (fA S c.id x.ah).1 i ⟨0,c.id,i,x.side,c.ag,c.ah,0,1,⟨#[]⟩⟩,E)):=af (by rw [←hR];rfl)
 rw [hR];have wo:=af qv;have pQ:=af hfind;clear h hz hS hE hb0 hR hc qv hfind gG;obtain⟨kd,id,inst,side,ag,ah,least,time,label⟩:=c;unfold dB.cells at*;dsimp only at*;go_enter Tryz.func29,Tryz.ntmps29
 go_upto_region 1 with(fail)
 obtain⟨aO,bU⟩:∃g,w.heap.size=g:=⟨_,rfl⟩;rw [bU]at bY⊢;clear bU;generalize w.alloc (.cells _ 80)=w1 at*;have c0:=bY.out.cell 0;have c1:=bY.out.cell 1;have c2:=bY.out.cell 2;have c3:=bY.out.cell 3;have dn:=bY.out.cell 4;have cj:=bY.out.cell 5;have fE:=bY.out.cell 6;have gP:=bY.out.cell 7;have iC:=bY.out.cell 8;have h6:=cH.out w1;go_wp2_with fail
 refine h6.mono ?_;rintro e w2 ⟨rfl,hb2⟩;have aT:=af (bD.out.trans (hb2.mono bD.out.size));have gH:=af (iT.out.below hb2);have ef:=af (bY.out.below hb2);clear c0 c1 c2 c3 dn cj fE gP iC h6 hb2 cH iT bY bD;have c0:=ef.out.cell 0;have cJ:¬kd=1:=wo.out;have uZ:(kd==1)=false:=by rw [beq_eq_false_iff_ne];exact cJ
 rw [if_neg cJ]at b9;have mW:kd=2∨kd=3∨kd=4:=by have:=aU.out.kind;dsimp only at this;omega
 go_upto_region 6 with(fail)
 clear c0 uZ;obtain⟨mb,sJ⟩:∃f,gp id 0 S=f:=⟨_,rfl⟩
 obtain⟨fi,o0,o1,o2,bx,dr,fb,jZ,pO⟩:∃(fi o0 o1 o2 bx:Int) (dr fb:Bool),u0 mb= .tuple #[.int .i64 fi,.agg #[.int .i64 o0,.int .i64 o1,.int .i64 o2,.int .i64 bx,.bool dr],.bool fb]∧((mb=none∧fb=false)∨∃(i:Nat),mb=some (i,⟨o0,o1,o2,bx,dr⟩)∧fb=true∧fi=i):=by
  cases mb with
  |none=>exact⟨0,0,0,0,0,false,false,rfl,.inl ⟨rfl,rfl⟩⟩
  |some qu=>
   obtain⟨i,x0,x1,bl,dK,ew⟩:=qu;exact⟨i,x0,x1,bl,dK,ew,true,rfl,.inr ⟨i,rfl,rfl,rfl⟩⟩
 have za:=af pO;have k5:=af sJ;clear pO sJ;go_cut [6,7,8] (fun u v b wx=>u= .int .i64 fi∧b= .bool fb∧(∃aI:Nat,v= .pointer (some ⟨aI,0,none⟩)∧aj wx aI 139 #[.int .i64 o0,.int .i64 o1,.int .i64 o2,.int .i64 bx,.bool dr])∧Below w2.heap.size w2 wx)
 case first=>
  have hd:=(Below.refl w2.heap.size w2).drew;have bf:=af (gH.out.below hd);have bQ:=af (ef.out.below hd);have dD:=af hd
  have iU:∀wv,ed W wv pm ps p Q S E→wv.cell? ⟨pm,11,none⟩=some (.pointer (some ⟨ps,0,none⟩)):=fun wv hv=>by
   obtain⟨_,_,h1,_⟩:=hv.box;exact h1.cell 11
  have g4:=af iU;have dg:=iU _ bf.out;have c1:w2.drew.cell? ⟨aO,1,none⟩=some (.int .i64 id):=bQ.out.cell 1;clear hd iU;refine cF (S:=(fun w'=>w'.cell? ⟨pm,11,none⟩=some (.pointer (some ⟨ps,0,none⟩))∧w'.cell? ⟨aO,1,none⟩=some (.int .i64 id))) (by kernel_rfl) ⟨dg,c1⟩ (fun hHeld=>?_);refine ai 0 ?_;refine ai 1 ?_;refine ai 2 ?_;refine ai 3 ?_;refine ai 4 ?_;refine ai 5 ?_;clear dg c1;generalize w2.drew=av at*
  have sK:Hid (∀wv,ed W wv pm ps p Q S E→Calls Tryz.prog 65 #[.pointer (some ⟨ps,0,none⟩),.int .i64 id] wv fun e w'=>e= .returned (.tuple #[.int .i64 fi,.agg #[.int .i64 o0,.int .i64 o1,.int .i64 o2,.int .i64 bx,.bool dr],.bool fb])∧Below wv.heap.size wv w'):=af fun wv hv=>by
   have:=CI hv.bZ (by have:=aq.out.le;omega) (fun L hL=>(aq.out.each L hL).len) id;rw [k5.out,jZ]at this;exact this
  refine jW 6 11 (fun K hK=>?_) fun K hK=>?_
  ·go_simp
   go_at_call 65
   refine(sK.out _ bf.out).mono ?_;rintro e wa ⟨rfl,hba⟩;have cP:=af hba;refine hK.out _ _ ⟨g4.out _ (bf.out.below hba),(bQ.out.below hba).cell 1⟩ (fun hHeld=>?_);clear hK K hba;refine ai 7 ?_;refine ai 8 ?_;refine ai 9 ?_;refine ai 10 ?_;refine aR 11 fun K hK=>?_;go_simp;have aJ:=Below.aA wa (.cells #[.int .i64 0,.int .i64 0,.int .i64 0,.int .i64 0,.bool false] 139);have cq:aj (wa.alloc (.cells #[.int .i64 0,.int .i64 0,.int .i64 0,.int .i64 0,.bool false] 139)) wa.heap.size 139 #[.int .i64 0,.int .i64 0,.int .i64 0,.int .i64 0,.bool false]:=aj.new _ _ _;have bu:=af (cP.out.trans (aJ.mono cP.out.size));refine hK.out _ _ ⟨g4.out _ (bf.out.below bu.out),(bQ.out.below bu.out).cell 1⟩ (fun hHeld=>?_);clear hK K aJ;obtain⟨aI,dY⟩:∃g,wa.heap.size=g:=⟨_,rfl⟩;have bB:Hid (av.heap.size≤aI):=af (by rw [←dY];exact cP.out.size);rw [dY]at cq⊢;clear dY;generalize wa.alloc (.cells #[.int .i64 0,.int .i64 0,.int .i64 0,.int .i64 0,.bool false] 139)=wb at*;refine ai 12 ?_;have e0:=cq.cell 0;have e1:=cq.cell 1;have e2:=cq.cell 2;have bE:=cq.cell 3;have cw:=cq.cell 4;have k6:=cq.frozen;have j0:=cq.rL (.int .i64 o0) (.int .i64 o1) (.int .i64 o2) (.int .i64 bx) (.bool dr);have c7:=af (((((bu.out.setCell (p:=⟨aI,0,none⟩) bB.out (.int .i64 o0)).setCell (p:=⟨aI,1,none⟩) bB.out (.int .i64 o1)).setCell (p:=⟨aI,2,none⟩) bB.out (.int .i64 o2)).setCell (p:=⟨aI,3,none⟩) bB.out (.int .i64 bx)).setCell (p:=⟨aI,4,none⟩) bB.out (.bool dr));have o7:=af j0;clear cq j0;refine aR 13 fun K hK=>?_;go_simp;clear e0 e1 e2 bE cw k6;refine hK.out _ _ ⟨g4.out _ (bf.out.below c7.out),(bQ.out.below c7.out).cell 1⟩ (fun hHeld=>?_);clear hK K;generalize (((((wb.setCell ⟨aI,0,none⟩ (.int .i64 o0)).setCell ⟨aI,1,none⟩ (.int .i64 o1)).setCell ⟨aI,2,none⟩ (.int .i64 o2)).setCell ⟨aI,3,none⟩ (.int .i64 bx)).setCell ⟨aI,4,none⟩ (.bool dr))=wf at*;refine gx _ _ _ _ ?_;refine eB 14 ?_;refine wpAnyH_done (by kernel_rfl) ?_ _;clear hHeld;have kJ:=af (dD.out.trans (c7.out.mono dD.out.size));go_wp2_with fail
   go_meet;exact⟨by trivial,by trivial,⟨aI,rfl,o7.out⟩,kJ.out⟩
  ·go_simp
   have aJ:=Below.aA av (.cells #[.int .i64 0,.int .i64 0,.int .i64 0,.int .i64 0,.bool false] 139);have o8:aj (av.alloc (.cells #[.int .i64 0,.int .i64 0,.int .i64 0,.int .i64 0,.bool false] 139)) av.heap.size 139 #[.int .i64 0,.int .i64 0,.int .i64 0,.int .i64 0,.bool false]:=aj.new _ _ _;have cP:=af aJ;refine hK.out _ _ ⟨g4.out _ (bf.out.below aJ),(bQ.out.below aJ).cell 1⟩ (fun hHeld=>?_);clear hK K aJ;obtain⟨aI,dY⟩:∃g,av.heap.size=g:=⟨_,rfl⟩;have bB:Hid (av.heap.size≤aI):=af (by rw [←dY];exact Nat.le_refl _);rw [dY]at o8⊢;clear dY;generalize av.alloc (.cells #[.int .i64 0,.int .i64 0,.int .i64 0,.int .i64 0,.bool false] 139)=wa at*;refine aR 6 fun K hK=>?_;go_simp;go_at_call 65
   refine(sK.out _ (bf.out.below cP.out)).mono ?_;rintro e wb ⟨rfl,aJ⟩;have bu:=af (cP.out.trans (aJ.mono cP.out.size));have cq:=o8.below aJ;refine hK.out _ _ ⟨g4.out _ (bf.out.below bu.out),(bQ.out.below bu.out).cell 1⟩ (fun hHeld=>?_);clear hK K aJ o8;refine ai 7 ?_;refine ai 8 ?_;refine ai 9 ?_;refine ai 10 ?_;refine ai 12 ?_;have e0:=cq.cell 0;have e1:=cq.cell 1;have e2:=cq.cell 2;have bE:=cq.cell 3;have cw:=cq.cell 4;have k6:=cq.frozen;have j0:=cq.rL (.int .i64 o0) (.int .i64 o1) (.int .i64 o2) (.int .i64 bx) (.bool dr);have c7:=af (((((bu.out.setCell (p:=⟨aI,0,none⟩) bB.out (.int .i64 o0)).setCell (p:=⟨aI,1,none⟩) bB.out (.int .i64 o1)).setCell (p:=⟨aI,2,none⟩) bB.out (.int .i64 o2)).setCell (p:=⟨aI,3,none⟩) bB.out (.int .i64 bx)).setCell (p:=⟨aI,4,none⟩) bB.out (.bool dr));have o7:=af j0;clear cq j0;refine aR 13 fun K hK=>?_;go_simp;clear e0 e1 e2 bE cw k6;refine hK.out _ _ ⟨g4.out _ (bf.out.below c7.out),(bQ.out.below c7.out).cell 1⟩ (fun hHeld=>?_);clear hK K;generalize (((((wb.setCell ⟨aI,0,none⟩ (.int .i64 o0)).setCell ⟨aI,1,none⟩ (.int .i64 o1)).setCell ⟨aI,2,none⟩ (.int .i64 o2)).setCell ⟨aI,3,none⟩ (.int .i64 bx)).setCell ⟨aI,4,none⟩ (.bool dr))=wf at*;refine gx _ _ _ _ ?_;refine eB 14 ?_;refine wpAnyH_done (by kernel_rfl) ?_ _;clear hHeld;have kJ:=af (dD.out.trans (c7.out.mono dD.out.size));go_wp2_with fail
   go_meet;exact⟨by trivial,by trivial,⟨aI,rfl,o7.out⟩,kJ.out⟩
 case rest=>
 obtain⟨rfl,rfl,⟨aI,rfl,sL⟩,dA⟩:=hcut;have aN:=af (aT.out.trans (dA.mono aT.out.size));have ix:=af (gH.out.below dA);have eW:=af (ef.out.below dA);have mg:=af sL;clear dA sL gH ef aT;generalize wc=w3 at*;rw [k5.out]at b9;rcases za.out with⟨rfl,rfl⟩|⟨i,rfl,rfl,rfl⟩
 ·dsimp only at b9
  have c1:=eW.out.cell 1;have kv:=Ap id 26 w3;go_wp2_with fail
  refine kv.mono ?_;rintro e wn ⟨v,rfl,_,bR⟩;have iG:=af (aN.out.trans (bR.mono aN.out.size));clear c1 kv bR;go_wp2_with fail
  go_ret;exact⟨_,rfl,by rw [b9.out];exact fQ.qi ie.out (ie.out.below iG.out) (Below.keeps iG.out)⟩
 ·exact absurd (pQ.out.symm.trans k5.out) (by simp)
end
end Go.Proofs.YtmaijkoopjocdaaGreat
