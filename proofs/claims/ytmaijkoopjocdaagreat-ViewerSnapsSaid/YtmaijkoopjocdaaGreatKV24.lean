import Derived.Test.YtmaijkoopjocdaaGreatKV23
import Derived.Test.YtmaijkoopjocdaaGreatKV18
import Derived.Test.YtmaijkoopjocdaaGreatKV20
set_option maxRecDepth 100000
set_option maxHeartbeats 64000000
namespace Go.Proofs.YtmaijkoopjocdaaGreat
open Go.RowKit Go.Lib
theorem aaz {w:World} {a:Option Addr} {n c:Nat} {L:List Int} (hn:L.length=n) (ho:DJ a n c) (h:cZ.fR w a L):(convert 37 9 (.slice a n c)).run Tryz.prog w= .ok (.string (strOfNums L)) w:=by
 cases a with
 |none=>
  have:L= []:=List.length_eq_zero_iff.1 (hn.trans (ho.1 rfl).1);subst this;exact run_convert_bytes_nil (P:=Tryz.prog) w _ _ Tryz.underlying37 Tryz.underlying5 n c _ Tryz.underlying9
 |some ad=>
  obtain⟨b,off,rfl⟩:=ho.2.1 ad rfl;refine run_convert_bytes_arg (P:=Tryz.prog) w _ _ Tryz.underlying37 Tryz.underlying5 b off n c L hn (fun i hi=>?_) _ Tryz.underlying9;have hi':i<L.length:=by omega
  obtain⟨b',off',he,_,hc⟩:=h i (L[i]) (List.getElem?_eq_getElem hi');injection he with he;injection he with h1 h2;subst h1;subst h2;have:=hc.one;rw [show off+i*cZ.m=off+i by show off+i*1=_;omega]at this;rw [this,List.getD_eq_getElem?_getD,List.getElem?_eq_getElem hi'];rfl
theorem ajC:∀{L M:List Int},(∀z∈L,isByte z)→(∀z∈M,isByte z)→strOfNums L=strOfNums M→L=M:=by
 intro L M hL fF h
 have h2:(L.map fun n=>UInt8.ofNat n.toNat)=(M.map fun n=>UInt8.ofNat n.toNat):=by
  have:=congrArg (fun s:ByteArray=>s.data.toList) h;exact this
 clear h
 induction L generalizing M with
 |nil=>cases M with
  |nil=>rfl
  |cons y M=>cases h2
 |cons x L ih=>cases M with
  |nil=>cases h2
  |cons y M=>
   rw [List.map_cons,List.map_cons]at h2;injection h2 with h3 h4;have hx:=hL x (List.mem_cons_self);have hy:=fF y (List.mem_cons_self);unfold isByte at hx hy;have h5:=congrArg UInt8.toNat h3;simp only [UInt8.toNat_ofNat']at h5
   have:x=y:=by
    have e1:x.toNat % 2^8=x.toNat:=Nat.mod_eq_of_lt (by omega);have e2:y.toNat % 2^8=y.toNat:=Nat.mod_eq_of_lt (by omega);omega
   rw [this,ih (fun z hz=>hL z (List.mem_cons_of_mem _ hz)) (fun z hz=>fF z (List.mem_cons_of_mem _ hz)) h4]
theorem ajD {L M:List Int} (hL:∀z∈L,isByte z) (fF:∀z∈M,isByte z):((strOfNums L).toList==(strOfNums M).toList)=decide (L=M):=by
 rw [Bool.eq_iff_iff,beq_iff_eq,decide_eq_true_eq,strOfNums_toList,strOfNums_toList];constructor
 ·intro h
  refine ajC hL fF ?_;unfold Lib.bytesOf at h;unfold strOfNums;rw [h]
 ·intro h;rw [h]
def H7 (q:Int) (r:bG×Bool×bH):Int×bG×Int:=if r.2.1=true∧r.2.2.bad=false∧r.2.2.bs= []∧ql r.1=true then(0,r.1,q)else(12,[],0)
theorem ajE {b:List Int} (h:b.length<4):ld b=(14,[],0):=if_pos h
theorem ajF {b:List Int} {m:Nat} (h:b.length=m+4) (hs:r3 (rB (b.take m))≠b.drop m):ld b=(14,[],0):=by
 unfold ld;rw [if_neg (by omega),show b.length-4=m by omega,if_pos hs]
theorem ajG {b:List Int} {m:Nat} {q n:Int} {s1 s2:bH} (h:b.length=m+4) (hs:r3 (rB (b.take m))=b.drop m) (h1:(⟨b.take m,false⟩:bH).long=(q,s1)) (h2:s1.num 1=(n,s2)):ld b=H7 q (m3 n.toNat s2):=by
 unfold ld;rw [if_neg (by omega),show b.length-4=m by omega,if_neg (fun h=>h hs)];simp only [h1,h2];rfl
theorem ajH {q:Int} {V:bG} {t:bH}:H7 q (V,false,t)=(12,[],0):=if_neg (fun h=>by cases h.1)
theorem ajI {q:Int} {V:bG} {t:bH} {f:Bool} (h:¬zx t=0):H7 q (V,f,t)=(12,[],0):=if_neg fun k=>h (Po.2 fun h1=>by
 rcases h1 with h1|h1
 ·have:=k.2.1;dsimp only at this;rw [this]at h1;cases h1
 ·exact h1 k.2.2.1)
theorem ajJ {q:Int} {V:bG} {t:bH} (h:zx t=0):H7 q (V,true,t)=if ql V=true then(0,V,q)else(12,[],0):=by
 have h1:=Po.1 h;have h2:t.bad=false:=by cases hb:t.bad with|false=>rfl|true=>exact(h1 (.inl hb)).elim
 have h3:t.bs= []:=Classical.byContradiction fun hc=>h1 (.inr hc);unfold H7;by_cases hv:ql V=true
 ·rw [if_pos ⟨rfl,h2,h3,hv⟩,if_pos hv]
 ·rw [if_neg (fun k=>hv k.2.2.2),if_neg hv]
theorem aaA {s:bH} (h:s.ok):(mm s).1.lv.length≤255:=by
 have hb:=bH.Lm h;have e:∀(l:List aB) (t:bH),(xH l t).1.lv=l:=fun l t=>by unfold xH;split<;>rfl
 unfold mm;rw [e,aar];omega
theorem aaB {s:bH} (h:s.ok):(mY s).2.ok:=bH.Oc (bH.Oc (bH.Oc h))
theorem aaC:∀(n:Nat) {s:bH},s.ok→(oX n s).2.ok
 |0,_,h=>h
 |n+1,_,h=>aaC n (aaB h)
theorem ajK {l:List aB} {s:bH} (h:s.ok):(xH l s).2.2.ok:=by
 unfold xH;split
 ·exact aaB (bH.Od h)
 ·exact bH.Od h
theorem ajL {s:bH} (h:s.ok):(mm s).2.2.ok:=ajK (aaC _ (bH.Od h))
def xo (w:World) (g:Nat) (v0 v1 v2 v3 v4:Value):World:=((((w.setCell ⟨g,0,none⟩ v0).setCell ⟨g,1,none⟩ v1).setCell ⟨g,2,none⟩ v2).setCell ⟨g,3,none⟩ v3).setCell ⟨g,4,none⟩ v4
def xp (w:World) (g:Nat) (v0 v1 v2 v3 v4:Value):World:=((((w.setCell ⟨g,5,none⟩ v0).setCell ⟨g,6,none⟩ v1).setCell ⟨g,7,none⟩ v2).setCell ⟨g,8,none⟩ v3).setCell ⟨g,9,none⟩ v4
theorem aK.xo (w:World) (g:Nat) (v0 v1 v2 v3 v4:Value):aK (fun k=>k=g) w (xo w g v0 v1 v2 v3 v4):=
 ((((ct w g 0 v0).trans (ct _ g 1 v1)).trans (ct _ g 2 v2)).trans (ct _ g 3 v3)).trans (ct _ g 4 v4)
theorem aK.xp (w:World) (g:Nat) (v0 v1 v2 v3 v4:Value):aK (fun k=>k=g) w (xp w g v0 v1 v2 v3 v4):=
 ((((ct w g 5 v0).trans (ct _ g 6 v1)).trans (ct _ g 7 v2)).trans (ct _ g 8 v3)).trans (ct _ g 9 v4)
theorem av.xo {w:World} {g:Nat} {t:TypeId} {x0 x1 aZ cl cw eK gF g5 k5 sB:Value} (h:av w g t #[x0,x1,aZ,cl,cw,eK,gF,g5,k5,sB]) (v0 v1 v2 v3 v4:Value):av (Go.Proofs.YtmaijkoopjocdaaGreat.xo w g v0 v1 v2 v3 v4) g t #[v0,v1,v2,v3,v4,eK,gF,g5,k5,sB]:=by
 have h1:=((((h.aW 0 v0).aW 1 v1).aW 2 v2).aW 3 v3).aW 4 v4;simp only [List.setIfInBounds_toArray,List.set_cons_zero,List.set_cons_succ]at h1;exact h1
theorem av.xp {w:World} {g:Nat} {t:TypeId} {x0 x1 aZ cl cw eK gF g5 k5 sB:Value} (h:av w g t #[x0,x1,aZ,cl,cw,eK,gF,g5,k5,sB]) (v0 v1 v2 v3 v4:Value):av (Go.Proofs.YtmaijkoopjocdaaGreat.xp w g v0 v1 v2 v3 v4) g t #[x0,x1,aZ,cl,cw,v0,v1,v2,v3,v4]:=by
 have h1:=((((h.aW 5 v0).aW 6 v1).aW 7 v2).aW 8 v3).aW 9 v4;simp only [List.setIfInBounds_toArray,List.set_cons_zero,List.set_cons_succ]at h1;exact h1
structure SQ (W w:World) (pr cI n:Nat) (s0:bH) (k:Nat) (v:Value) (f:Bool) (acc:bG) (t:bH):Prop where
 rd:iV W w pr t
 cW:av w cI 43 #[v]
 fh:cg ey bS w W.heap.size v acc
 e1:acc++(m3 (n-k) t).1=(m3 n s0).1
 e2:(f&&(m3 (n-k) t).2.1)=(m3 n s0).2.1
 bJ:(m3 (n-k) t).2.2=(m3 n s0).2.2
 len:acc.length=k
 le:fX acc 255
theorem cg.JZ {F:Nat→Prop} {Z:bl bB} {Y:bl aB} {w w':World} {B:Nat} {v:Value} {V:bG} (h:cg Z Y w B v V) (hk:aK F w w') (hz:∀g,v.ownBlock=some g→¬F g) (hy:∀g,ck w g Y.t→¬F g):cg Z Y w' B v V:=by
 obtain⟨P,h1,h2,h3⟩:=h;exact⟨P,h1.Bd hk hz,h2,fun j p x hp hx=>⟨(h3 j p x hp hx).1.keep hk hy,(h3 j p x hp hx).2.keep hk hy⟩⟩
structure wL (W w:World) (pr cI dB:Nat) (v:Value) (acc:bG) (x y:eO) (t:bH):Prop where
 rd:iV W w pr t
 cW:av w cI 43 #[v]
 fh:cg ey bS w W.heap.size v acc
 jP:∀g,v.ownBlock=some g→g≠dB
 bo:av w dB 50 #[.slice x.a x.n x.c,↑x.im.ap,↑x.im.aq,↑x.im.count,↑x.has,.slice y.a y.n y.c,↑y.im.ap,↑y.im.aq,↑y.im.count,↑y.has]
section
variable {W w w':World} {pr cI dB:Nat} {v:Value} {acc:bG} {x y:eO} {t t':bH}
theorem wL.read (h:wL W w pr cI dB v acc x y t) (sI:cI≠pr) (R9:dB≠pr) (hr:iV W w' pr t') (hk:aK (fun g=>g=pr) w w'):wL W w' pr cI dB v acc x y t':=
 ⟨hr,h.cW.keeps hk sI,h.fh.keep hk (fun g hg e=>hg.ne h.rd.aE (by decide) e) (fun g hg e=>hg.ne h.rd.aE (by decide) e),h.jP,h.bo.keeps hk R9⟩
theorem wL.left (h:wL W w pr cI dB v acc x y t) (sI:cI≠dB) (np:pr≠dB) (hb:W.heap.size≤dB) (s:eO):wL W (xo w dB (.slice s.a s.n s.c) ↑s.im.ap ↑s.im.aq ↑s.im.count ↑s.has) pr cI dB v acc s y t:=by
 have hk:=aK.xo w dB (.slice s.a s.n s.c) ↑s.im.ap ↑s.im.aq ↑s.im.count ↑s.has;exact⟨h.rd.keep hk np (fun b hb e=>hb.ne h.bo.aE (by decide) e) (fun k hk=>by have hk2:k=dB:=hk;rw [hk2];exact hb),h.cW.keeps hk sI,h.fh.JZ hk (fun g hg e=>h.jP g hg e) (fun g hg e=>hg.ne h.bo.aE (by decide) e),h.jP,h.bo.xo _ _ _ _ _⟩
theorem wL.right (h:wL W w pr cI dB v acc x y t) (sI:cI≠dB) (np:pr≠dB) (hb:W.heap.size≤dB) (s:eO):wL W (xp w dB (.slice s.a s.n s.c) ↑s.im.ap ↑s.im.aq ↑s.im.count ↑s.has) pr cI dB v acc x s t:=by
 have hk:=aK.xp w dB (.slice s.a s.n s.c) ↑s.im.ap ↑s.im.aq ↑s.im.count ↑s.has;exact⟨h.rd.keep hk np (fun b hb e=>hb.ne h.bo.aE (by decide) e) (fun k hk=>by have hk2:k=dB:=hk;rw [hk2];exact hb),h.cW.keeps hk sI,h.fh.JZ hk (fun g hg e=>h.jP g hg e) (fun g hg e=>hg.ne h.bo.aE (by decide) e),h.jP,h.bo.xp _ _ _ _ _⟩
theorem cg.snoc {B:Nat} {v':Value} {P:List bB} {p:bB} {d:aX×aX} (hr:ey.Row w B v' (P++ [p])) (hl:P.length=acc.length) (ho:∀(j:Nat) (p:bB) (x:aX×aX),P[j]? =some p→acc[j]? =some x→bV bS w B p.s x.1∧bV bS w B p.t x.2) (h1:bV bS w B p.s d.1) (h2:bV bS w B p.t d.2):cg ey bS w B v' (acc++ [d]):=by
 refine⟨_,hr,by rw [List.length_append,List.length_append,hl];rfl,fun j q z hq hz=>?_⟩;by_cases hj:j<P.length
 ·rw [List.getElem?_append_left hj]at hq
  rw [List.getElem?_append_left (by omega)]at hz;exact ho j q z hq hz
 ·rw [List.getElem?_append_right (by omega)]at hq
  rw [List.getElem?_append_right (by omega)]at hz;have hj0:j-P.length=0:=by have:=dM hq;simp at this;omega
  rw [hj0]at hq;rw [←hl,hj0]at hz;injection hq with hq;injection hz with hz;subst hq;subst hz;exact⟨h1,h2⟩
theorem wL.grow {wb aA:World} {P:List bB} {v':Value} {d1 d2:aX} (h:wL W w pr cI dB v acc x y t) (hb:Below w.heap.size w wb) (hP:ey.Row wb W.heap.size v P) (hl:P.length=acc.length) (hs:∀(j:Nat) (p:bB) (x:aX×aX),P[j]? =some p→acc[j]? =some x→bV bS wb W.heap.size p.s x.1∧bV bS wb W.heap.size p.t x.2)
 (h1:bV bS w W.heap.size x d1) (h2:bV bS w W.heap.size y d2) (hr:ey.Row aA W.heap.size v' (P++ [⟨x,y⟩])) (hg:wb.grownBy aA v.ownBlock) (gC:W.heap.size≤cI) (sI:pr≠cI):
 iV W (aA.setCell ↑cI v') pr t∧av (aA.setCell ↑cI v') cI 43 #[v']∧cg ey bS (aA.setCell ↑cI v') W.heap.size v' (acc++ [(d1,d2)])∧aA.cell? ↑cI=some v∧aA.frozen? ↑cI=false:=by
 have hk:=fK hg;have bT:∀g,v.ownBlock=some g→ck wb g ey.t:=fun g hg=>eo hP g hg;have dw:∀g,v.ownBlock=some g→W.heap.size≤g:=cS hP;have r1:=h.rd.below hb;have b1:=h.cW.below hb;have gT:=r1.keep hk (fun e=>(bT _ e).ne r1.aE (by decide) rfl) (fun b hb e=>(bT _ e).ne hb (by decide) rfl) dw;have bk:=b1.keeps hk (fun e=>(bT _ e).ne b1.aE (by decide) rfl);have gX:∀{s:eO} {d:aX},bV bS wb W.heap.size s d→bV bS aA W.heap.size s d:=fun hh=>hh.keep hk (fun g hg e=>(bT _ e).ne hg (by decide) rfl);have EG:cg ey bS aA W.heap.size v' (acc++ [(d1,d2)]):=cg.snoc hr hl (fun j p x hp hx=>⟨gX (hs j p x hp hx).1,gX (hs j p x hp hx).2⟩) (gX (h1.below hb)) (gX (h2.below hb));have fu:=ct aA cI 0 v';have bI:=bk.aW 0 v';simp only [List.setIfInBounds_toArray,List.set_cons_zero]at bI;exact⟨gT.keep fu sI (fun b hb e=>hb.ne bk.aE (by decide) e) (fun k hk=>by have hk2:k=cI:=hk;rw [hk2];exact gC),bI,EG.keep fu (fun g hg e=>hg.ne bk.aE (by decide) e) (fun g hg e=>hg.ne bk.aE (by decide) e),bk.cell 0,bk.frozen 0⟩
end
section
variable {W w w':World} {pw:Nat} {L:List aC}
theorem Wg (h:g4 W w pw L) (hl:L.length≤250) (hn:(L.map aC.id).Nodup) (hq:∀o∈L,1≤o.aq∧o.aq≤1000000) (id aq:Int):
 Calls Tryz.prog 108 #[.pointer ↑pw,↑id,↑aq] w fun e w'=>e= .returned (.int .i64 (pF L id aq).2)∧g4 W w' pw (pF L id aq).1∧aK (fun g=>g=pw) w w':=by
 cases hf:L.find? (fun o=>o.id==id)with
 |none=>
  rw [Ya hf];exact(ahL h hl id aq hf).mono fun _ _ ⟨h1,h2⟩=>⟨h1,h2▸h,h2▸aK.refl _ _⟩
 |some o=>
  by_cases hb:aq<1∨o.aq<aq
  ·rw [NC hf,if_pos hb]
   exact(ahM h hl id aq hf hb).mono fun _ _ ⟨h1,h2⟩=>⟨h1,h2▸h,h2▸aK.refl _ _⟩
  ·have hc:(pF L id aq).2=0:=by
    rw [NC hf,if_neg hb];split<;>rfl
   rw [hc];exact ahN h hl hn id aq hf (by omega) (hq o (List.mem_of_find?_eq_some hf)).2 _ rfl
theorem g4.aE (h:g4 W w pw L):ck w pw 181:=by
 obtain⟨⟨a,c,h1,_⟩,_⟩:=h;exact h1.aE
theorem ahU (h:g4 W w pw L) (hl:L.length≤250) (id side ap aq:Int):
 Calls Tryz.prog 139 #[.pointer ↑pw,↑id,↑side,↑ap,↑aq] w fun e w'=>e= .returned (.int .i64 (mT L id side ap aq).2)∧g4 W w' pw (mT L id side ap aq).1∧aK (fun g=>g=pw) w w':=by
 cases hb:z8 side with
 |false=>
  rw [ahz hb];exact(ahB w pw id side ap aq hb).mono fun _ _ ⟨h1,h2⟩=>⟨h1,h2▸h,h2▸aK.refl _ _⟩
 |true=>
  have hs:side=1∨side=2:=by
   unfold z8 at hb
   simpa using hb
  by_cases hq:aq<1∨1000000<aq
  ·rw [ahA hb hq]
   exact(ahC w pw id side ap aq hs hq).mono fun _ _ ⟨h1,h2⟩=>⟨h1,h2▸h,h2▸aK.refl _ _⟩
  ·have xW:1≤aq∧aq≤1000000:=by omega
   cases ht:(L.find? (fun o=>o.id==id)).isSome with
   |true=>
    rw [show mT L id side ap aq=(L,25)by unfold mT;rw [hb,if_neg (by simp),if_neg hq,if_pos ht]];exact(ahD h hl id side ap aq hs xW ht).mono fun _ _ ⟨h1,h2⟩=>⟨h1,h2▸h,h2▸aK.refl _ _⟩
   |false=>
    by_cases hf:250≤L.length
    ·rw [show mT L id side ap aq=(L,13)by unfold mT;rw [hb,if_neg (by simp),if_neg hq,ht,if_neg (by simp),if_pos hf]]
     exact(ahE h (by omega) id side ap aq hs xW ht).mono fun _ _ ⟨h1,h2⟩=>⟨h1,h2▸h,h2▸aK.refl _ _⟩
    ·have he:mT L id side ap aq=((if mS L side ap=true then L.map (mg side)else L).take (nU L side ap)++ [⟨id,side,ap,aq,mS L side ap⟩]++(if mS L side ap=true then L.map (mg side)else L).drop (nU L side ap),0):=by
      unfold mT;rw [hb,if_neg (by simp),if_neg hq,ht,if_neg (by simp),if_neg hf]
     rw [he];exact ahF h (by omega) id side ap aq hs xW ht _ rfl
end
def Lr (x:Nat):List Value:= [.pointer (some ⟨x,0,none⟩)]
theorem aj5 (x:Nat):∀u∈Lr x,u.oneCell'=true:=by
 intro u hu;simp only [Lr,List.mem_cons,List.not_mem_nil,or_false]at hu;rw [hu];rfl
def Dm:bl Nat:=⟨Lr,1,fun _=>rfl,aj5,by omega,134,127,.pointer none,8,Tryz.underlying127,by kernel_rfl,by rfl,by omega⟩
def ve (p:Prod) (v:Value):Array Value:=#[.string p.code,.slice p.ma p.months.length p.mc,.int .i64 p.tick,.int .i64 p.low,.int .i64 p.high,.int .i64 p.wide,.int .i64 p.rule,.int .i64 p.top,.int .i64 p.least,.int .i64 p.part,.slice p.sa p.settle.length p.sc,v]
structure eH (W w:World) (ps:Nat) (p:Prod) (Q:List Nat) (S:List (List aC)):Prop where
 box:∃a c,av w ps 129 (ve p (.slice a Q.length c))∧Dm.Row w W.heap.size (.slice a Q.length c) Q
 len:Q.length=S.length
 nd:Q.Nodup
 Et:∀(i pb:Nat) (L:List aC),Q[i]? =some pb→S[i]? =some L→g4 W w pb L
 pv:gM W p
 base:W.heap.size≤ps
 aJ:Below W.heap.size W w
section
variable {W w w':World} {ps pb:Nat} {p:Prod} {Q:List Nat} {S:List (List aC)} {L L':List aC}
theorem g4.keep {F:Nat→Prop} (h:g4 W w pb L) (hk:aK F w w') (hp:¬F pb) (hr:∀g,ck w g gI.t→¬F g) (hF:∀g,F g→W.heap.size≤g):g4 W w' pb L:=by
 obtain⟨⟨a,c,h1,h2⟩,h3,h4⟩:=h;exact⟨⟨a,c,h1.keeps hk hp,h2.keep hk hr⟩,h3,h4.trans (hk.below hF h4.size)⟩
theorem g4.Hg {jJ:World} (h:g4 W w pb L) (hb:Below jJ.heap.size jJ W):g4 jJ w pb L:=by
 obtain⟨⟨a,c,h1,h2⟩,h3,h4⟩:=h;exact⟨⟨a,c,h1,h2.base hb.size⟩,Nat.le_trans hb.size h3,hb.trans (h4.mono hb.size)⟩
theorem eH.aE (h:eH W w ps p Q S):ck w ps 129:=by
 obtain⟨a,c,h1,_⟩:=h.box;exact h1.aE
theorem eH.get (h:eH W w ps p Q S) {i:Nat} (hi:i<S.length):∃pb L,Q[i]? =some pb∧S[i]? =some L∧g4 W w pb L:=by
 have hq:i<Q.length:=by rw [h.len];exact hi
 exact⟨_,_,List.getElem?_eq_getElem hq,List.getElem?_eq_getElem hi,h.Et i _ _ (List.getElem?_eq_getElem hq) (List.getElem?_eq_getElem hi)⟩
theorem eH.py (h:eH W w ps p Q S) {g:Nat} (hg:g∈Q):ck w g 181∧W.heap.size≤g:=by
 obtain⟨i,hi,he⟩:=List.getElem_of_mem hg;have hs:i<S.length:=by rw [←h.len];exact hi
 have:=h.Et i g _ (by rw [List.getElem?_eq_getElem hi,he]) (List.getElem?_eq_getElem hs);exact⟨this.aE,this.base⟩
theorem eH.aj6 {F:Nat→Prop} (h:eH W w ps p Q S) (hk:aK F w w') (hF:∀g,F g→ck w g 181∧g ∉ Q∧W.heap.size≤g):eH W w' ps p Q S:=by
 obtain⟨a,c,h1,h2⟩:=h.box;refine⟨⟨a,c,h1.keeps hk (fun e=>(hF _ e).1.ne h1.aE (by decide) rfl),h2.keep hk (fun g hg e=>hg.ne (hF _ e).1 (by decide) rfl)⟩,h.len,h.nd,fun i pb L hq hs=>?_,h.pv,h.base,h.aJ.trans (hk.below (fun g e=>(hF g e).2.2) h.aJ.size)⟩;exact(h.Et i pb L hq hs).keep hk (fun e=>(hF _ e).2.1 (List.mem_of_getElem? hq)) (fun g hg e=>hg.ne (hF _ e).1 (by decide) rfl) (fun g e=>(hF g e).2.2)
theorem eH.below (h:eH W w ps p Q S) (hb:Below w.heap.size w w'):eH W w' ps p Q S:=
 h.aj6 (F:=fun _=>False) (Below.keeps hb) (fun _ e=>e.elim)
theorem eH.Qe (h:eH W w ps p Q S) {i:Nat} (hq:Q[i]? =some pb) (hk:aK (fun g=>g=pb) w w') (hr:g4 W w' pb L'):eH W w' ps p Q (S.set i L'):=by
 obtain⟨a,c,h1,h2⟩:=h.box;have ht:=h.py (List.mem_of_getElem? hq);refine⟨⟨a,c,h1.keeps hk (fun e=>h1.aE.ne ht.1 (by decide) e),h2.keep hk (fun g hg e=>hg.ne ht.1 (by decide) e)⟩,by rw [List.length_set];exact h.len,h.nd,fun j g K hj hs=>?_,h.pv,h.base,h.aJ.trans (hk.below (fun g e=>by have e2:g=pb:=e;rw [e2];exact ht.2) h.aJ.size)⟩;by_cases hij:i=j
 ·subst hij
  rw [hq]at hj;injection hj with hj;subst hj;rw [List.getElem?_set_self (by have:=dM hq;rw [←h.len];exact this)]at hs;injection hs with hs;subst hs;exact hr
 ·rw [List.getElem?_set_ne hij]at hs
  refine(h.Et j g K hj hs).keep hk (fun e=>?_) (fun g hg e=>hg.ne ht.1 (by decide) e) (fun g e=>by have e2:g=pb:=e;rw [e2];exact ht.2);have e2:g=pb:=e;subst e2;obtain⟨h3,h4⟩:=lB hq;obtain⟨h5,h6⟩:=lB hj;exact hij ((List.getElem_inj h.nd).1 (h4.trans h6.symm))
end
section
variable {W w w':World} {ps pb:Nat} {p:Prod} {Q:List Nat} {S:List (List aC)} {L L':List aC}
theorem eH.push {wb aA:World} {a:Option Addr} {c fS:Nat} {v':Value} (h:eH W w ps p Q S) (aT:av w ps 129 (ve p (.slice a Q.length c))) (hb:Below w.heap.size w wb) (hn:w.heap.size≤fS) (AH:g4 W wb fS L)
 (hrow:Dm.Row wb W.heap.size (.slice a Q.length c) Q) (hr:Dm.Row aA W.heap.size v' (Q++ [fS])) (hg:wb.grownBy aA (Value.slice a Q.length c).ownBlock):
 eH W (aA.setCell ⟨ps,11,none⟩ v') ps p (Q++ [fS]) (S++ [L])∧aA.cell? ⟨ps,11,none⟩=some (.slice a Q.length c)∧aA.frozen? ⟨ps,11,none⟩=false∧av (aA.setCell ⟨ps,11,none⟩ v') ps 129 (ve p v'):=by
 have hk:=fK hg;have bT:∀g,(Value.slice a Q.length c).ownBlock=some g→ck wb g Dm.t:=eo hrow;have dw:=cS hrow;have Ls:=aT.below hb;have xK:=Ls.keeps hk (fun e=>(bT _ e).ne Ls.aE (by decide) rfl);have jY:=ct aA ps 11 v';have Dn:=xK.aW 11 v'
 have hrb:∀{g:Nat} {K:List aC},g4 W wb g K→g4 W (aA.setCell ⟨ps,11,none⟩ v') g K:=fun {g K} h1=>by
  have h5:=h1.keep hk (fun e=>(bT _ e).ne h1.aE (by decide) rfl) (fun g hg e=>(bT _ e).ne hg (by decide) rfl) dw;exact h5.keep jY (fun e=>h5.aE.ne xK.aE (by decide) e) (fun g hg e=>hg.ne xK.aE (by decide) e) (fun g e=>by have e2:g=ps:=e;rw [e2];exact h.base)
 obtain⟨a',c',dF⟩:=hr.form;subst dF;have EF:=((h.aJ.trans (hb.mono h.aJ.size)).trans (hk.below dw (Nat.le_trans h.aJ.size hb.size))).setCell (p:=⟨ps,11,none⟩) h.base (.slice a' (Q++ [fS]).length c')
 have aaP:av (aA.setCell ⟨ps,11,none⟩ (.slice a' (Q++ [fS]).length c')) ps 129 (ve p (.slice a' (Q++ [fS]).length c')):=by
  unfold ve at Dn⊢;simp only [List.setIfInBounds_toArray,List.set_cons_zero,List.set_cons_succ]at Dn;exact Dn
 refine⟨⟨⟨a',c',?_,hr.keep jY (fun g hg e=>hg.ne xK.aE (by decide) e)⟩,by rw [List.length_append,List.length_append,h.len];rfl,?_,fun i g K hq hs=>?_,h.pv,h.base,EF⟩,xK.cell 11,xK.frozen 11,aaP⟩
 ·exact aaP
 ·rw [List.nodup_append]
  refine⟨h.nd,by simp,fun x hx y hy=>?_⟩;rw [List.mem_singleton]at hy;subst hy;rintro rfl;have:=(h.py hx).1.lt;omega
 ·by_cases hi:i<Q.length
  ·rw [List.getElem?_append_left hi]at hq
   rw [List.getElem?_append_left (by rw [←h.len];exact hi)]at hs;exact hrb ((h.Et i g K hq hs).below hb)
  ·rw [List.getElem?_append_right (by omega)]at hq
   rw [List.getElem?_append_right (by rw [←h.len];omega),←h.len]at hs;have zS:i-Q.length=0:=by have:=dM hq;simp at this;omega
   rw [zS]at hq hs;injection hq with hq;injection hs with hs;subst hq;subst hs;exact hrb AH
theorem aj7 (h:g4 W w pb L):
 Calls Tryz.prog 109 #[.pointer ↑pb] w fun e w'=>∃fS,e= .returned (.pointer (some ⟨fS,0,none⟩))∧g4 W w' fS L∧w.heap.size≤fS∧Below w.heap.size w w':=by
 obtain⟨a,c,hb,hr⟩:=h.box;have k0:w.cell? ↑pb=some (.slice a L.length c):=hb.cell 0;have H:=af h;have bM:=af hr;clear h hb hr;go_enter Tryz.func109,Tryz.ntmps109
 go_wp2_with fail
 go_ret;have hba:=Below.aI w (.cells #[.slice a L.length c] 181);exact⟨_,rfl,⟨⟨a,c,av.new _ _ _,bM.out.below hba⟩,H.out.aJ.size,H.out.aJ.trans (hba.mono H.out.aJ.size)⟩,Nat.le_refl _,hba⟩
theorem agz (p:Prod) (w:World) (hp:gM w p):
 Calls Tryz.prog 57 #[p.agg] w fun e w'=>∃ps Q,e= .returned (.pointer (some ⟨ps,0,none⟩))∧eH w w' ps p Q (List.replicate (countP p).toNat []):=by
 obtain⟨n,hn,anw⟩:=aiB p;have HN:=af hn;rw [hn,Int.toNat_natCast];have hz:=ak;have hb1:=Below.aI w (.cells p.cells 25);have hb2:=hb1.trans ((Below.aI (w.alloc (.cells p.cells 25)) (.cells (ve p (.slice none 0 0)) 129)).mono hb1.size)
 have Dp:Hid (eH w ((w.alloc (.cells p.cells 25)).alloc (.cells (ve p (.slice none 0 0)) 129)) (w.heap.size+1) p [] (List.replicate 0 [])):=af
  ⟨⟨none,0,by have:=av.new (w.alloc (.cells p.cells 25)) 129 (ve p (.slice none 0 0));rwa [hz]at this,bl.Row.nil _ _⟩,rfl,List.nodup_nil,fun i pb L h=>by simp at h,hp,by omega,hb2⟩
 have bU:Hid (av ((w.alloc (.cells p.cells 25)).alloc (.cells (ve p (.slice none 0 0)) 129)) w.heap.size 25 p.cells):=af ((av.new w _ _).alloc _);have dx:=af hp;clear hz hb1 hb2 hp hn;unfold Prod.agg Prod.cells ve at*;go_enter Tryz.func57,Tryz.ntmps57
 go_upto_region 2 with(fail)
 obtain⟨ps,hps⟩:=ai (w.heap.size+1);rw [hps]at Dp⊢;obtain⟨aR,nT⟩:=ai w.heap.size;rw [nT]at bU;rw [show(Value.pointer ↑w.heap.size)= .pointer ↑aR by rw [nT]];clear hps nT;generalize (w.alloc (.cells _ 25)).alloc (.cells _ 129)=w1 at*;go_wp2_with fail
 go_loopw [4] (fun i w'=>∃(k:Nat) (Q:List Nat),i=↑k∧k≤n∧eH w w' ps p Q (List.replicate k [])∧av w' aR 25 p.cells) (fun i _=>n-(RowKit.intOf i).toNat)
 case atStart=>exact⟨0,[],rfl,Nat.zero_le _,Dp.out,bU.out⟩
 case round=>
  clear Dp bU;obtain⟨k,Q,rfl,hk,hS,hG⟩:=hrel;obtain⟨ax,rfl⟩:=aj wr;have pK:=af hS;have cm:=af hG;have Ia:Q.length=k:=by rw [hS.len,List.length_replicate]
  have jZ:=KA p ax (dx.out.below hS.aJ);unfold Prod.agg Prod.cells at jZ;rw [HN.out]at jZ;have oc:=af jZ;have vg:=af Ia;clear hS jZ Ia;obtain⟨b0,b1,b2,b3,b4,bk,bw,bn,bC,bD,bu⟩:=hG.amD;clear hG;by_cases hlt:k<n
  ·have hlt':(k:Int)<(n:Int):=by omega
   go_wp2_with fail
   refine oc.out.mono ?_;rintro e w2 ⟨rfl,hb2⟩;have kR:=af (pK.out.below hb2);have dG:=af (cm.out.below hb2);obtain⟨a,c,aT,hrow⟩:=kR.out.box;rw [vg.out]at aT hrow;have dS:w2.cell? ⟨ps,11,none⟩=some (.slice a k c):=aT.cell 11;have hba:=Below.aI w2 (.cells #[.slice none 0 0] 181);have aP:=hba.trans ((Below.aI (w2.alloc (.cells #[.slice none 0 0] 181)) (.cells #[.pointer ↑w2.heap.size] 134)).mono hba.size);have hz:(w2.alloc (.cells #[.slice none 0 0] 181)).heap.size=w2.heap.size+1:=by simp
   have c8:Hid (av ((w2.alloc (.cells #[.slice none 0 0] 181)).alloc (.cells #[.pointer ↑w2.heap.size] 134)) (w2.heap.size+1) 134 (Lr w2.heap.size).toArray):=af (by
    have:=av.new (w2.alloc (.cells #[.slice none 0 0] 181)) 134 #[.pointer ↑w2.heap.size];rw [hz]at this;exact this)
   have uJ:Hid (g4 w ((w2.alloc (.cells #[.slice none 0 0] 181)).alloc (.cells #[.pointer ↑w2.heap.size] 134)) w2.heap.size []):=af
    ⟨⟨none,0,(av.new w2 _ _).alloc _,bl.Row.nil _ _⟩,kR.out.aJ.size,kR.out.aJ.trans (aP.mono kR.out.aJ.size)⟩
   have cY:=af (hrow.below aP);have jX:=af aT;have bp:=af aP;clear hb2 aT hrow hba aP hz oc b0 b1 b2 b3 b4 bk bw bn bC bD bu pK cm
   go_wp2_with (first
    |(at_builtin;go_loud (refine Dm.push rfl (.tmp 18) (.tmp 21) rfl w.heap.size (.slice a k c) Q rfl cY.out (w2.heap.size+1) w2.heap.size rfl c8.out.lt c8.out.gH (by rw [vg.out];omega) (Nat.le_trans kR.out.aJ.size bp.out.size) ?_)))
   intro v' aA dl gb _;obtain⟨a5,b8,hM⟩:=dl.form;rw [List.length_append,List.length_singleton,vg.out]at hM;subst hM;have Lt:=kR.out.push (v':= .slice a5 (k+1) b8) (by rw [vg.out];exact jX.out) bp.out (Nat.le_refl _) uJ.out (by rw [vg.out];exact cY.out) dl (by rw [vg.out];exact gb);rw [vg.out]at Lt;obtain⟨h1,lq,z5,_⟩:=Lt
   have G6:Hid (eH w (aA.setCell ⟨ps,11,none⟩ (.slice a5 (k+1) b8)) ps p (Q++ [w2.heap.size]) (List.replicate (k+1) [])):=af (by
    rw [List.replicate_succ'];exact h1)
   have JX:=((dG.out.below bp.out).keeps (fK gb) (fun e=>(eo cY.out _ e).ne (dG.out.below bp.out).aE (by decide) rfl)).keeps (ct aA ps 11 (.slice a5 (k+1) b8)) (fun e=>(dG.out.aE).ne kR.out.aE (by decide) e);have mJ:=af JX;clear h1 dl gb JX c8 uJ cY jX bp kR dG dS;go_wp2_with fail
   go_roundw
   case rel=>exact⟨k+1,_,by go_num,hlt,G6.out,mJ.out⟩
   case measure=>simp [RowKit.intOf];omega
  ·have hkn:k=n:=by omega
   subst hkn;go_wp2_with fail
   refine oc.out.mono ?_;rintro e w2 ⟨rfl,hb2⟩;have kR:=af (pK.out.below hb2);clear hb2 oc b0 b1 b2 b3 b4 bk bw bn bC bD bu;go_wp2_with fail
   go_ret;exact⟨ps,Q,rfl,kR.out⟩
end
section
variable {W w w':World} {ps pb:Nat} {p:Prod} {Q:List Nat} {S:List (List aC)} {L L':List aC}
def tot (S:List (List aC)):Nat:=(S.map List.length).sum
theorem aj8 {k:Nat} (h:S[k]? =some L):tot (S.take (k+1))=tot (S.take k)+L.length:=by
 unfold tot;rw [kH h,List.map_append,List.sum_append];simp
theorem aaQ (k:Nat):tot (S.take k)≤tot S:=by
 unfold tot
 conv=>{rhs;rw [←List.take_append_drop k S]}
 rw [List.map_append,List.sum_append];omega
theorem Lu {B g n cap k x:Nat} (h:Dm.Row w B (.slice ↑g n cap) Q) (hx:Q[k]? =some x):w.cell? ⟨g,k,none⟩=some (.pointer ↑x):=by
 obtain⟨g1,m6,e1,_,hc⟩:=h.at_ k x hx;have h1:g1=g:=by injection e1 with e1;injection e1 with e1;injection e1 with e1;exact e1.symm
 subst h1;have rq:iI w g1 (k*1) [.pointer ↑x]:=hc;have:=rq 0 _ rfl
 rwa [Nat.mul_one,Nat.add_zero]at this
theorem eH.ptr (h:eH W w ps p Q S) {k x:Nat} (hx:Q[k]? =some x):∃g c,av w ps 129 (ve p (.slice (some ⟨g,0,none⟩) Q.length c))∧Dm.Row w W.heap.size (.slice (some ⟨g,0,none⟩) Q.length c) Q∧w.cell? ⟨g,k,none⟩=some (.pointer ↑x):=by
 obtain⟨a,c,h1,h2⟩:=h.box;obtain⟨g,cap,e,_,_⟩:=h2.at_ k x hx;injection e with e1 _ bJ;subst e1;subst bJ;exact⟨g,c,h1,h2,Lu h2 hx⟩
theorem Ub (h:eH W w ps p Q S) (hl:S.length≤100) (ht:tot S≤100000):
 Calls Tryz.prog 105 #[.pointer ↑ps] w fun e w'=>e= .returned (.int .i64 (tot S))∧w=w':=by
 obtain⟨a,c,aT,_⟩:=h.box;have H:=af h;have bP:=af ht;obtain⟨n,hn⟩:=ai Q.length;have q4:S.length=n:=by rw [←h.len];exact hn
 rw [hn]at aT;have dS:w.cell? ⟨ps,11,none⟩=some (.slice a n c):=aT.cell 11;have oP:=af q4;have rH:=af hn;rw [q4]at hl;clear aT h ht q4 hn;go_enter Tryz.func105,Tryz.ntmps105
 go_wp2_with fail
 go_loopw [4,3] (fun i y w'=>∃k t:Nat,i=↑k∧y=↑t∧k≤n∧t=tot (S.take k)∧w=w') (fun i _ _=>n-(RowKit.intOf i).toNat)
 case atStart=>exact⟨0,0,rfl,rfl,Nat.zero_le _,rfl,rfl⟩
 case round=>
  obtain⟨k,t,rfl,rfl,hk,hte,rfl⟩:=hrel;have uX:=af hte;have htb:t≤100000:=by have:=aaQ (S:=S) k;have:=bP.out;omega
  clear hte;by_cases hlt:k<n
  ·have hlt':(k:Int)<(n:Int):=by omega
   obtain⟨x,L,hq,hs,hrb⟩:=H.out.get (by rw [oP.out];exact hlt);obtain⟨g,c1,hb1,mh,q0⟩:=H.out.ptr hq;obtain⟨a2,c2,hb2,_⟩:=hrb.box;have CH:w.cell? ⟨ps,11,none⟩=some (.slice ↑g n c1):=by have:=hb1.cell 11;rw [rH.out]at this;exact this
   have he:a=some ⟨g,0,none⟩∧c=c1:=by rw [dS]at CH;injection CH with e;injection e with e1 _ bJ;exact⟨e1,bJ⟩
   obtain⟨rfl,rfl⟩:=he;have y0:w.cell? ↑x=some (.slice a2 L.length c2):=hb2.cell 0;have hst:=aj8 hs;have gG:=af hst;have hlb:t+L.length≤100000:=by have:=aaQ (S:=S) (k+1);have:=bP.out;have:=uX.out;omega
   clear hq hs hrb hb1 mh hb2 CH hst;go_wp2_with fail
   go_roundw
   case rel=>exact⟨k+1,t+L.length,by go_num,by go_num,hlt,by rw [gG.out,uX.out],by trivial⟩
   case measure=>simp [RowKit.intOf];omega
  ·have hkn:k=n:=by omega
   have bR:Hid (t=tot S):=af (by rw [uX.out,hkn,←oP.out,List.take_length]);clear hkn;go_wp2_with fail
   go_ret;exact⟨by rw [bR.out];try rfl,by trivial⟩
theorem Pf (h:eH W w ps p Q S) (hl:S.length≤100):
 Calls Tryz.prog 68 #[.pointer ↑ps] w fun e w'=>∃fS o7,e= .returned (.pointer (some ⟨fS,0,none⟩))∧eH W w' fS p o7 S∧(∀g∈o7,w.heap.size≤g)∧w.heap.size≤fS∧Below w.heap.size w w':=by
 obtain⟨a,c,aT,hrow⟩:=h.box;obtain⟨n,hn⟩:=ai Q.length;have q4:S.length=n:=by rw [←h.len];exact hn
 rw [hn]at aT hrow;have jX:=af aT;have cY:=af hrow;have H:=af h;clear hrow;have hba:=Below.aI w (.cells (ve p (.slice none 0 0)) 129)
 have Dp:Hid (eH W (w.alloc (.cells (ve p (.slice none 0 0)) 129)) w.heap.size p [] (S.take 0)):=af
  ⟨⟨none,0,av.new _ _ _,bl.Row.nil _ _⟩,by rw [List.take_zero];rfl,List.nodup_nil,fun i pb L h=>by simp at h,h.pv,h.aJ.size,h.aJ.trans (hba.mono h.aJ.size)⟩
 have bA:=af hba;have oP:=af q4;have rH:=af hn;rw [q4]at hl;obtain⟨b0,b1,b2,b3,b4,bk,bw,bn,bC,bD,bu⟩:=aT.amD;clear hba h aT q4 hn;unfold ve at Dp bA;go_enter Tryz.func68,Tryz.ntmps68
 go_upto_region 2 with(fail)
 obtain⟨fS,nG⟩:=ai w.heap.size;have l9:=af nG;rw [nG]at Dp⊢;clear nG b0 b1 b2 b3 b4 bk bw bn bC bD bu;have aaR:Hid ((w.alloc (.cells #[.string p.code,.slice p.ma p.months.length p.mc,↑p.tick,↑p.low,↑p.high,↑p.wide,↑p.rule,↑p.top,↑p.least,↑p.part,.slice p.sa p.settle.length p.sc,.slice none 0 0] 129)).cell? ⟨fS,11,none⟩=some (.slice none 0 0)):=af (by rw [←l9.out];exact(av.new w 129 #[.string p.code,.slice p.ma p.months.length p.mc,↑p.tick,↑p.low,↑p.high,↑p.wide,↑p.rule,↑p.top,↑p.least,↑p.part,.slice p.sa p.settle.length p.sc,.slice none 0 0]).cell 11);generalize w.alloc (.cells _ 129)=w1 at*;go_wp2_with fail
 go_loopw [4] (fun i w'=>∃(k:Nat) (o7:List Nat),i=↑k∧k≤n∧eH W w' fS p o7 (S.take k)∧(∃a2 c2,w'.cell? ⟨fS,11,none⟩=some (.slice a2 k c2)∧∀g,(Value.slice a2 k c2).ownBlock=some g→w.heap.size≤g)∧(∀g∈o7,w.heap.size≤g)∧Below w.heap.size w w') (fun i _=>n-(RowKit.intOf i).toNat)
 case atStart=>exact⟨0,[],rfl,Nat.zero_le _,Dp.out,⟨none,0,aaR.out,fun g hg=>(by cases hg)⟩,fun g hg=>(by cases hg),bA.out⟩
 case round=>
  clear Dp aaR bA;obtain⟨k,o7,rfl,hk,hS,⟨a2,c2,vZ,aaS⟩,aaT,hB⟩:=hrel;obtain⟨ax,rfl⟩:=aj wr;have pK:=af hS;have aaU:=af (H.out.below hB);have qV:=af vZ;have N8:=af aaS;have o8:=af aaT;have aG:=af hB;have dS:ax.cell? ⟨ps,11,none⟩=some (.slice a n c):=(jX.out.below hB).cell 11;clear hS aaT hB vZ aaS;by_cases hlt:k<n
  ·have hlt':(k:Int)<(n:Int):=by omega
   obtain⟨x,L,hq,hs,hrb⟩:=aaU.out.get (by rw [oP.out];exact hlt);obtain⟨g,m6,e,dr,_⟩:=cY.out.at_ k x hq;rw [rH.out]at e;injection e with e1 _ bJ;subst e1;subst bJ;have hb1:=jX.out.below aG.out;have mh:=cY.out.below aG.out;have tr:g<w.heap.size:=ki cY.out g rfl;have mM:=af tr;have ie:=af hq;have q0:ax.cell? ⟨g,k,none⟩=some (.pointer ↑x):=Lu mh hq;have dN:Hid (S.take (k+1)=S.take k++ [L]):=af (kH hs);have Ia:o7.length=k:=by rw [pK.out.len,List.length_take,oP.out];omega
   have vg:=af Ia;obtain⟨aj9,aka,cn,Dq⟩:=pK.out.box;rw [Ia]at cn Dq;have he:a2=aj9∧c2=aka:=by have:=cn.cell 11;rw [qV.out]at this;injection this with e;injection e with e1 _ bJ;exact⟨e1,bJ⟩
   obtain⟨rfl,rfl⟩:=he;have je:=af cn;have lU:=af Dq;have bg:=af (aj7 (hrb.below (Below.bO ax 1)))
   have aD:Hid (∀wx,Below ax.heap.size ax wx→(fun w'=>w'.cell? ⟨fS,11,none⟩=some (.slice a2 k c2)∧w'.cell? ⟨ps,11,none⟩=some (.slice ↑g n c)∧w'.cell? ⟨g,k,none⟩=some (.pointer ↑x)) wx):=af fun wx hb=>by
    have h1:=(je.out.below hb).cell 11;have h2:=(hb1.below hb).cell 11;have h3:=Lu (mh.below hb) hq;exact⟨h1,h2,h3⟩
   clear Ia cn Dq hrb hs hb1 mh hq dr tr;go_upto_region 5 with(fail)
   refine cP (S:=fun w'=>w'.cell? ⟨fS,11,none⟩=some (.slice a2 k c2)∧w'.cell? ⟨ps,11,none⟩=some (.slice ↑g n c)∧w'.cell? ⟨g,k,none⟩=some (.pointer ↑x)) (aD.out _ (Below.refl _ _).drew) fun hHeld=>?_;refine au 0 ?_;refine au 1 ?_;refine au 2 ?_;refine au 3 ?_;refine au 4 ?_;refine au 5 ?_;refine au 6 ?_;refine au 7 ?_;refine au 8 ?_;refine au 9 ?_;refine au 10 ?_;refine au 11 ?_;refine aU 12 fun K hK=>?_;go_simp;refine bg.out.mono ?_;rintro e w3 ⟨pm,rfl,aaV,aaW,hb3⟩;have q3:=(Below.bO ax 1).trans hb3;refine hK.out _ _ (aD.out _ q3) (fun hHeld=>?_);clear hK K;have hba:=Below.aI w3 (.cells #[.pointer ↑pm] 134);have hb4:=q3.trans (hba.mono q3.size);have c8:Hid (av (w3.alloc (.cells #[.pointer ↑pm] 134)) w3.heap.size 134 (Lr pm).toArray):=af (av.new _ _ _);have bN:=af hb4;have aaX:=af (aaV.below hba);have aaY:Hid (ax.heap.size≤pm):=af aaW;refine aU 13 fun K hK=>?_;go_simp;refine hK.out _ _ (aD.out _ hb4) (fun hHeld=>?_);clear hK K aaV aaW hb3 q3 hba hb4 bg;have S0:=af (lU.out.below bN.out);refine aU 14 fun K hK=>?_;refine Dm.step (by rfl) (.tmp 24) (.tmp 33) (by rfl) W.heap.size (.slice a2 k c2) o7 (by rfl) S0.out w3.heap.size pm (by rfl) c8.out.lt c8.out.gH (by rw [vg.out];omega) (Nat.le_trans pK.out.aJ.size bN.out.size) ?_;intro v' aA dl gb Nm;obtain⟨a5,b8,hM⟩:=dl.form;rw [List.length_append,List.length_singleton,vg.out]at hM;subst hM;have Lt:=pK.out.push (v':= .slice a5 (k+1) b8) (by rw [vg.out];exact je.out) bN.out aaY.out aaX.out (by rw [vg.out];exact S0.out) dl (by rw [vg.out];exact gb);rw [vg.out,←dN.out]at Lt;obtain⟨h1,lq,z5,bI⟩:=Lt;have G6:=af h1;have sw:=fK gb;have cx:Below w.heap.size w aA:=(ah aG bN).out.trans (sw.below N8.out (Nat.le_trans aG.out.size bN.out.size));have JU:=jX.out.below cx;have bX:=cY.out.below cx
   have akb:Hid (∀g,(Value.slice a5 (k+1) b8).ownBlock=some g→w.heap.size≤g):=af fun g hg=>by
    rcases Nm with h|h
    ·exact N8.out g (by rw [←h];exact hg)
    ·rw [hg]at h
     injection h with h;rw [h];exact Nat.le_trans aG.out.size bN.out.size
   have bY:Hid (Below w.heap.size w (aA.setCell ⟨fS,11,none⟩ (.slice a5 (k+1) b8))):=af (cx.setCell (p:=⟨fS,11,none⟩) (Nat.le_of_eq l9.out) _);have AI:Hid ((aA.setCell ⟨fS,11,none⟩ (.slice a5 (k+1) b8)).cell? ⟨fS,11,none⟩=some (.slice a5 (k+1) b8)):=af (bI.cell 11)
   have akc:Hid (∀g∈o7++ [pm],w.heap.size≤g):=af fun g hg=>by
    rcases List.mem_append.1 hg with h|h
    ·exact o8.out g h
    ·rw [List.mem_singleton]at h
     rw [h];exact Nat.le_trans aG.out.size aaY.out
   refine hK.out _ _ ⟨lq,JU.cell 11,Lu bX ie.out⟩ (fun hHeld=>?_);clear hK K cx JU bX dl gb Nm sw h1 bI;refine au 15 ?_;refine au 16 ?_;refine dY 17 fun K hK=>?_;go_simp;refine hK.out _ _ ?_;clear hK K hHeld lq z5 dS q0 c8 aaX S0 je lU pK aaU;go_wp2_with fail
   go_roundw
   case rel=>exact⟨k+1,_,by go_num,hlt,G6.out,⟨a5,b8,AI.out,akb.out⟩,akc.out,bY.out⟩
   case measure=>simp [RowKit.intOf];omega
  ·have hkn:k=n:=by omega
   subst hkn;have J5:Hid (eH W ax fS p o7 S):=af (by have:=pK.out;rwa [←oP.out,List.take_length]at this);go_wp2_with fail
   go_ret;exact⟨fS,o7,rfl,J5.out,o8.out,Nat.le_of_eq l9.out,aG.out⟩
end
def xj (L:List aC):dK:=⟨(jS L 1).2,(jS L 2).2,(jS L 1).1.ap,(jS L 2).1.ap,(jS L 1).1.aq,(jS L 2).1.aq⟩
def ef (S:List (List aC)):List dK:=S.map xj
def Dr (L:List aC) (m:Nat):dK:=⟨if 0<m then(jS L 1).2 else false,if 1<m then(jS L 2).2 else false,if 0<m then(jS L 1).1.ap else 0,if 1<m then(jS L 2).1.ap else 0,if 0<m then(jS L 1).1.aq else 0,if 1<m then(jS L 2).1.aq else 0⟩
theorem akf (L:List aC):Dr L 2=xj L:=rfl
section
variable {W w w':World} {ps pb:Nat} {p:Prod} {Q:List Nat} {S:List (List aC)} {L L':List aC}
theorem akg {k:Nat} (h:S[k]? =some L):ef (S.take (k+1))=ef (S.take k)++ [xj L]:=by
 unfold ef;rw [kH h,List.map_append];rfl
theorem Q0 (h:eH W w ps p Q S) (hl:S.length≤100) (hL:∀L∈S,L.length≤250∧∀o∈L,1≤o.aq∧o.aq≤1000000):
 Calls Tryz.prog 58 #[.pointer ↑ps] w fun e w'=>∃v,e= .returned v∧qW.Row w' w.heap.size v (ef S)∧Below w.heap.size w w':=by
 have H:=af h;have iu:=af hL;obtain⟨n,hn⟩:=ai Q.length;have q4:S.length=n:=by rw [←h.len];exact hn
 have oP:=af q4;have rH:=af hn;rw [q4]at hl;clear h hL q4 hn;go_enter Tryz.func58,Tryz.ntmps58
 go_wp2_with fail
 go_loopw [4,3] (fun i v w'=>∃k:Nat,i=↑k∧k≤n∧qW.Row w' w.heap.size v (ef (S.take k))∧Below w.heap.size w w') (fun i _ _=>n-(RowKit.intOf i).toNat)
 case atStart=>exact⟨0,rfl,Nat.zero_le _,by rw [List.take_zero];exact bl.Row.nil _ _,Below.refl _ _⟩
 case round=>
  obtain⟨k,rfl,hk,hr,hb⟩:=hrel;obtain⟨ax,rfl⟩:=aj wr;have bM:=af hr;have aG:=af hb;obtain⟨a,c,aT,hrow⟩:=(H.out.below hb).box;rw [rH.out]at aT hrow;have dS:ax.cell? ⟨ps,11,none⟩=some (.slice a n c):=aT.cell 11;clear hr hb aT hrow;by_cases hlt:k<n
  ·have hlt':(k:Int)<(n:Int):=by omega
   go_upto_region 6 with(fail)
   obtain⟨pb,L,hq,hs,hrb⟩:=(H.out.below aG.out).get (by rw [oP.out];exact hlt);have EW:=iu.out L (List.mem_of_getElem? hs);have sJ:=af (akg hs);obtain⟨g,c1,hb1,mh,q0⟩:=(H.out.below aG.out).ptr hq;have aaZ:=af hrb;have ie:=af hq;have aa0:Hid (av (ax.alloc (.cells #[.bool false,.bool false,.int .i64 0,.int .i64 0,.int .i64 0,.int .i64 0] 185)) ax.heap.size 185 (Dr L 0).cells.toArray):=af (av.new _ _ _);have bA:Hid (Below ax.heap.size ax (ax.alloc (.cells #[.bool false,.bool false,.int .i64 0,.int .i64 0,.int .i64 0,.int .i64 0] 185))):=af (Below.aI ax _);obtain⟨gt,hgt⟩:=ai ax.heap.size;have nV:=af hgt;rw [rH.out]at hb1;have Ok:ax.cell? ⟨ps,11,none⟩=some (.slice ↑g n c1):=hb1.cell 11;have he:a=some ⟨g,0,none⟩∧c=c1:=by rw [dS]at Ok;injection Ok with e;injection e with e1 _ bJ;exact⟨e1,bJ⟩
   obtain⟨rfl,rfl⟩:=he;rw [hgt]at aa0⊢;clear hgt hq hs hrb mh Ok dS q0 hb1;generalize ax.alloc (.cells _ 185)=w1 at*;go_wp2_with fail
   go_loopw [6] (fun s w'=>∃m:Nat,s= .int .i64 ((m:Int)+1)∧m≤2∧av w' gt 185 (Dr L m).cells.toArray∧Below ax.heap.size ax w') (fun s _=>4-(RowKit.intOf s).toNat)
   case atStart=>exact⟨0,rfl,by omega,aa0.out,bA.out⟩
   case round=>
    obtain⟨m,rfl,hm,g7,ep⟩:=hrel;obtain⟨wy,rfl⟩:=aj wr;have nK:=af g7;have dO:=af ep;have H2:=af ((H.out.below aG.out).below ep);have S2:=af (aaZ.out.below ep);obtain⟨g2,c2,hb2,_,q0⟩:=H2.out.ptr ie.out;rw [rH.out]at hb2;have dS:wy.cell? ⟨ps,11,none⟩=some (.slice ↑g2 n c2):=hb2.cell 11;clear g7 ep hb2;have jq:m=0∨m=1∨m=2:=by omega
    rcases jq with rfl|rfl|rfl
    ·have bg:=af (Ru S2.out EW.1 EW.2 1)
     obtain⟨bo,BK⟩:=ai (jS L 1);obtain⟨⟨fl,gj,lc⟩,lb⟩:=bo;go_wp2_with fail
     refine bg.out.mono ?_;rintro e w2 ⟨he,hb2⟩;rw [BK]at he;simp only [aB.cells,List.toArray]at he;subst he;have hba:=Below.aI w2 (.cells #[↑fl,↑gj,↑lc] 101);have AX:Hid (av (w2.alloc (.cells #[↑fl,↑gj,↑lc] 101)) w2.heap.size 101 #[↑fl,↑gj,↑lc]):=af (av.new _ _ _);have rL:=af ((nK.out.below hb2).below hba);have aQ:=af ((ag dO hb2).out.trans (hba.mono (ag dO hb2).out.size));have m7:Hid (gt<w2.heap.size):=af (Nat.lt_of_lt_of_le nK.out.lt hb2.size);clear hb2 hba bg;go_upto_region 10 with(fail)
     obtain⟨aM,fC⟩:=ai w2.heap.size;rw [fC]at AX m7⊢;clear fC;have n1:aM≠gt:=by have:=m7.out;omega
     have n2:gt≠aM:=by have:=m7.out;omega
     generalize w2.alloc (.cells _ 101)=w3 at*;have v0:w3.cell? ↑aM=some ↑fl:=AX.out.cell 0;have v1:w3.cell? ⟨aM,1,none⟩=some ↑gj:=AX.out.cell 1;have t0:w3.cell? ↑gt=some (.bool false):=rL.out.cell 0;have t2:w3.cell? ⟨gt,2,none⟩=some (.int .i64 0):=rL.out.cell 2;have t4:w3.cell? ⟨gt,4,none⟩=some (.int .i64 0):=rL.out.cell 4;have fz:∀o,w3.frozen? ⟨gt,o,none⟩=false:=fun o=>rL.out.frozen o;go_wp2_with fail
     go_roundw
     case rel=>
      have hb3:=((rL.out.aW 0 ↑lb).aW 2 ↑fl).aW 4 ↑gj;have jm:Dr L 1=⟨lb,false,fl,0,gj,0⟩:=by unfold Dr;rw [BK];rfl
      refine⟨1,rfl,by omega,by rw [jm];exact hb3,?_⟩;exact aQ.out.trans (((((aK.refl (fun k=>k=gt) w3).setCell (p:=⟨gt,0,none⟩) (fun _=>rfl) _).setCell (p:=⟨gt,2,none⟩) (fun _=>rfl) _).setCell (p:=⟨gt,4,none⟩) (fun _=>rfl) _).below (B:=ax.heap.size) (fun k hk=>by have e:k=gt:=hk;rw [e];exact Nat.le_of_eq nV.out) aQ.out.size)
     case measure=>simp [RowKit.intOf]
    ·have bg:=af (Ru S2.out EW.1 EW.2 2)
     obtain⟨bo,BK⟩:=ai (jS L 2);obtain⟨⟨fl,gj,lc⟩,lb⟩:=bo;go_wp2_with fail
     refine bg.out.mono ?_;rintro e w2 ⟨he,hb2⟩;rw [BK]at he;simp only [aB.cells,List.toArray]at he;subst he;have hba:=Below.aI w2 (.cells #[↑fl,↑gj,↑lc] 101);have AX:Hid (av (w2.alloc (.cells #[↑fl,↑gj,↑lc] 101)) w2.heap.size 101 #[↑fl,↑gj,↑lc]):=af (av.new _ _ _);have rL:=af ((nK.out.below hb2).below hba);have aQ:=af ((ag dO hb2).out.trans (hba.mono (ag dO hb2).out.size));have m7:Hid (gt<w2.heap.size):=af (Nat.lt_of_lt_of_le nK.out.lt hb2.size);clear hb2 hba bg;go_upto_region 10 with(fail)
     obtain⟨aM,fC⟩:=ai w2.heap.size;rw [fC]at AX m7⊢;clear fC;have n1:aM≠gt:=by have:=m7.out;omega
     have n2:gt≠aM:=by have:=m7.out;omega
     generalize w2.alloc (.cells _ 101)=w3 at*;have v0:w3.cell? ↑aM=some ↑fl:=AX.out.cell 0;have v1:w3.cell? ⟨aM,1,none⟩=some ↑gj:=AX.out.cell 1;have t0:w3.cell? ⟨gt,1,none⟩=some (.bool false):=rL.out.cell 1;have t2:w3.cell? ⟨gt,3,none⟩=some (.int .i64 0):=rL.out.cell 3;have t4:w3.cell? ⟨gt,5,none⟩=some (.int .i64 0):=rL.out.cell 5;have fz:∀o,w3.frozen? ⟨gt,o,none⟩=false:=fun o=>rL.out.frozen o;go_wp2_with fail
     go_roundw
     case rel=>
      have hb3:=((rL.out.aW 1 ↑lb).aW 3 ↑fl).aW 5 ↑gj;have jm:Dr L 2=⟨(jS L 1).2,lb,(jS L 1).1.ap,fl,(jS L 1).1.aq,gj⟩:=by unfold Dr;rw [BK];rfl
      refine⟨2,rfl,by omega,by rw [jm];exact hb3,?_⟩;exact aQ.out.trans (((((aK.refl (fun k=>k=gt) w3).setCell (p:=⟨gt,1,none⟩) (fun _=>rfl) _).setCell (p:=⟨gt,3,none⟩) (fun _=>rfl) _).setCell (p:=⟨gt,5,none⟩) (fun _=>rfl) _).below (B:=ax.heap.size) (fun k hk=>by have e:k=gt:=hk;rw [e];exact Nat.le_of_eq nV.out) aQ.out.size)
     case measure=>simp [RowKit.intOf]
    ·obtain⟨x0,x1,aZ,cl,cw,eK,hT⟩:∃x0 x1 aZ cl cw eK,Dr L 2=⟨x0,x1,aZ,cl,cw,eK⟩:=⟨_,_,_,_,_,_,rfl⟩
     have Ds:=nK.out;rw [hT]at Ds;obtain⟨t0,t1,t2,t3,t4,t5⟩:=Ds.amy;have uX:Hid (ef (S.take (k+1))=ef (S.take k)++ [⟨x0,x1,aZ,cl,cw,eK⟩]):=af (by rw [sJ.out,←akf,hT]);have jf:Hid ((ef (S.take k)).length≤100):=af (by unfold ef;rw [List.length_map,List.length_take];have:=oP.out;omega);have hba:=Below.aI wy (.cells #[↑x0,↑x1,↑aZ,↑cl,↑cw,↑eK] 185);have hbz:Below w.heap.size w wy:=aG.out.trans (dO.out.mono aG.out.size);have iz:=af ((bM.out.below dO.out).below hba);have b7:=af (hbz.trans (hba.mono hbz.size));have c8:Hid (av (wy.alloc (.cells #[↑x0,↑x1,↑aZ,↑cl,↑cw,↑eK] 185)) wy.heap.size 185 (⟨x0,x1,aZ,cl,cw,eK⟩:dK).cells.toArray):=af (av.new _ _ _);clear hT Ds sJ hba hbz EW S2 aaZ H2 q0 nK ie;generalize ef (S.take k)=M at*;obtain⟨a1,c1,hv⟩:=bM.out.form;subst hv
     go_wp2_with (first
      |(at_builtin;go_loud (refine qW.push rfl (.tmp 51) (.tmp 53) rfl w.heap.size _ M rfl iz.out wy.heap.size ⟨x0,x1,aZ,cl,cw,eK⟩ rfl c8.out.lt c8.out.gH (by have:=jf.out;omega) b7.out.size ?_)))
     intro v' aN bX cQ eG;have cL:=af bX;have dP:=af (iJ cQ b7.out (cS iz.out));clear bX cQ eG;go_wp2_with fail
     go_roundw
     case rel=>exact⟨k+1,by go_num,hlt,by rw [uX.out];exact cL.out,dP.out⟩
     case measure=>simp [RowKit.intOf];omega
  ·have hkn:k=n:=by omega
   have bR:Hid (ef (S.take k)=ef S):=af (by rw [hkn,←oP.out,List.take_length]);clear hkn;go_wp2_with fail
   go_ret;exact⟨_,rfl,by rw [←bR.out];exact bM.out,aG.out⟩
end
end Go.Proofs.YtmaijkoopjocdaaGreat
