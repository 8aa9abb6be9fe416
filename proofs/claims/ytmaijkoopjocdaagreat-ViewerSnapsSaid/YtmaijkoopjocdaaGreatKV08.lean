import Derived.Test.YtmaijkoopjocdaaGreatKV07
import Derived.Test.YtmaijkoopjocdaaGreatKV06
import Derived.Laws.BytesArg
import Derived.Lib.Bytes
set_option maxRecDepth 100000
set_option maxHeartbeats 64000000
namespace Go.Proofs.YtmaijkoopjocdaaGreat
open Go.RowKit Go.Lib
section
variable {W w w':World} {pr:Nat} {s:bH}
theorem adi (h:iV W w pr s):
 Calls Tryz.prog 81 #[.pointer ↑pr] w fun e w'=>e= .returned (.int .i64 (s.num 1).1)∧iV W w' pr (s.num 1).2∧aK (fun g=>g=pr) w w':=by
 have bP:=af (acs h 1 (Nat.le_refl 1) (by decide));have hr:=bH.Lm h.ok;generalize (s.num 1).1=x at*;generalize (s.num 1).2=s' at*;have y1:IntKind.i64.wrap x=x:=IntWalk.i64_in _ (by omega);clear h;go_enter Tryz.func81,Tryz.ntmps81
 go_wp2_with fail
 refine bP.out.mono ?_;rintro e w1 ⟨rfl,hrd,hk⟩;have bM:=af hrd;have e7:=af hk;clear hrd hk bP;go_wp2_with fail
 go_ret;exact⟨by trivial,bM.out,e7.out⟩
theorem adh (h:iV W w pr s):
 Calls Tryz.prog 80 #[.pointer ↑pr] w fun e w'=>e= .returned (.int .i64 s.long.1)∧iV W w' pr s.long.2∧aK (fun g=>g=pr) w w':=by
 have bP:=af (acs h 8 (by decide) (Nat.le_refl 8));have e1:Hid (s.long.1=IntKind.i64.wrap (s.num 8).1):=af rfl;have e2:Hid (s.long.2=(s.num 8).2):=af rfl;rw [e1.out,e2.out];clear e1 e2;generalize (s.num 8).1=x at*;generalize (s.num 8).2=s' at*;have eI:Hid (IntKind.i64.wrap x=wrap64 x):=af (IntWalk.i64_left x);rw [eI.out];clear h;go_enter Tryz.func80,Tryz.ntmps80
 go_wp2_with fail
 refine bP.out.mono ?_;rintro e w1 ⟨rfl,hrd,hk⟩;have bM:=af hrd;have e7:=af hk;clear hrd hk bP;go_wp2_with fail
 go_ret;exact⟨by trivial,bM.out,e7.out⟩
def zx (s:bH):Int:=if s.bad=true then 10 else if s.bs= []then 0 else 15
theorem UC (h:iV W w pr s):
 Calls Tryz.prog 82 #[.pointer ↑pr] w fun e w'=>e= .returned (.int .i64 (zx s))∧w=w':=by
 obtain⟨bs,bad⟩:=s;obtain⟨a,c,hb,_,_,_,_⟩:=h.box;dsimp only at hb;have c0:w.cell? ↑pr=some (.slice a bs.length c):=hb.cell 0;have c1:w.cell? ⟨pr,1,none⟩=some ↑bad:=hb.cell 1;clear hb h;cases bad with
 |true=>
  go_enter Tryz.func82,Tryz.ntmps82
  go_wp2_with fail
  go_ret;exact⟨by rfl,by trivial⟩
 |false=>
  cases bs with
  |nil=>
   replace c0:w.cell? ↑pr=some (.slice a 0 c):=c0;go_enter Tryz.func82,Tryz.ntmps82
   go_wp2_with fail
   go_ret;exact⟨by rfl,by trivial⟩
  |cons x t=>
   obtain⟨n,hn⟩:=ai ((x::t).length);rw [hn]at c0;have hn0:(0:Int)<(n:Int):=by rw [←hn,List.length_cons];omega
   clear hn;go_enter Tryz.func82,Tryz.ntmps82
   go_wp2_with fail
   go_ret;exact⟨by rfl,by trivial⟩
theorem Ux {v:Value} {bs:List Int} (h:cZ.eT w v bs) (hl:bs.length≤900000) (hok:∀z∈bs,isByte z):
 Calls Tryz.prog 79 #[v] w fun e w'=>∃pr,e= .returned (.pointer (some ⟨pr,0,none⟩))∧iV w w' pr ⟨bs,false⟩:=by
 have bg:=af (T7 h hl);have c6:=af hl;have e9:=af hok;clear h hl hok;go_enter Tryz.func79,Tryz.ntmps79
 go_wp2_with fail
 refine bg.out.mono ?_;rintro e w1 ⟨v',rfl,hr,hb⟩;have bM:=af hr;have aG:=af hb;clear hr hb bg;obtain⟨a,c,rfl⟩:=bM.out.form;go_wp2_with fail
 go_ret;refine⟨_,rfl,?_⟩;have h1:=bM.out.below (Below.aI w1 (.cells #[.slice a bs.length c,.bool false] 215));obtain⟨a',c',e1,e2,bJ⟩:=h1.sl;injection e1 with e1 _ cV;subst e1;subst cV;refine⟨⟨a,c,av.new w1 _ _,e2,?_,bJ,fun b off e=>?_⟩,aG.out.size,aG.out.trans ((Below.aI w1 _).mono aG.out.size),e9.out,c6.out⟩
 ·rcases bM.out.2 with⟨h2,h3⟩|⟨g,cap,cur,h2,h3,h4,h5,_⟩
  ·dsimp only;omega
  ·injection h2 with _ _ h2;subst h2;exact h5
 ·exact eo h1 b (by rw [e];simp [Value.ownBlock])
end
section
variable {W w w':World} {pr:Nat} {s s':bH} {x:Int}
theorem Cm (h:iV W w pr s) (he:s.long=(x,s')):
 Calls Tryz.prog 80 #[.pointer ↑pr] w fun e w'=>e= .returned ↑x∧iV W w' pr s'∧aK (fun g=>g=pr) w w':=by
 have:=adh h;rw [he]at this;exact this
theorem Ge (h:iV W w pr s) (he:s.num 1=(x,s')):
 Calls Tryz.prog 81 #[.pointer ↑pr] w fun e w'=>e= .returned ↑x∧iV W w' pr s'∧aK (fun g=>g=pr) w w':=by
 have:=adi h;rw [he]at this;exact this
theorem Uv {s s1 s2 kT Cn Mk Ml o9:bH} {q i d p t c n:Int} (h1:s.long=(q,s1)) (h2:s1.num 1=(i,s2)) (h3:s2.num 1=(d,kT)) (h4:kT.long=(p,Cn)) (h5:Cn.long=(t,Mk)) (h6:Mk.long=(c,Ml)) (h7:Ml.num 1=(n,o9)):
 AK s=(⟨q,i,d,p,t,c,n==1⟩,n,o9):=by
 unfold AK;simp only [h1,h2,h3,h4,h5,h6,h7]
def Co (m:aF) (n:Int) (s:bH):Option aF:=if(s.bad=true∨s.bs≠ [])∨1<n∨¬(m.side=1∨m.side=2)then none else some m
theorem Uw {b:List Int} {m:aF} {n:Int} {s:bH} (h:AK ⟨b,false⟩=(m,n,s)):pg b=Co m n s:=by
 unfold pg Co;rw [h]
def Cp (o:Option aF):Value:= .tuple #[.agg (o.getD DU).cells.toArray,.int .i64 (if o.isSome=true then 0 else 12)]
theorem Po {s:bH}:zx s=0↔¬(s.bad=true∨s.bs≠ []):=by
 unfold zx;by_cases h1:s.bad=true
 ·simp [h1]
 ·by_cases h2:s.bs= []
  ·simp [h1,h2]
  ·simp [h1,h2]
theorem DV {w:World} {v:Value} {b:List Int} (h:cZ.eT w v b) (hl:b.length≤900000) (hok:∀z∈b,isByte z):
 Calls Tryz.prog 35 #[v] w fun e w'=>e= .returned (Cp (pg b))∧Below w.heap.size w w':=by
 obtain⟨q,s1,h1⟩:∃q s1,(⟨b,false⟩:bH).long=(q,s1):=⟨_,_,rfl⟩;obtain⟨i,s2,h2⟩:∃q t,s1.num 1=(q,t):=⟨_,_,rfl⟩;obtain⟨d,kT,h3⟩:∃q t,s2.num 1=(q,t):=⟨_,_,rfl⟩;obtain⟨p,Cn,h4⟩:∃q t,kT.long=(q,t):=⟨_,_,rfl⟩;obtain⟨t,Mk,h5⟩:∃q t,Cn.long=(q,t):=⟨_,_,rfl⟩;obtain⟨c,Ml,h6⟩:∃q t,Mk.long=(q,t):=⟨_,_,rfl⟩;obtain⟨n,o9,h7⟩:∃q t,Ml.num 1=(q,t):=⟨_,_,rfl⟩;rw [Uw (Uv h1 h2 h3 h4 h5 h6 h7)];obtain⟨jI,hfl⟩:=ai (n==1);rw [hfl];have H1:=af h1;have H2:=af h2;have H3:=af h3;have H4:=af h4;have H5:=af h5;have IK:=af h6;have s6:=af h7;clear h1 h2 h3 h4 h5 h6 h7;have iK:=af (Below.aI w (.cells DU.cells.toArray 86));have bU:Hid (av (w.alloc (.cells DU.cells.toArray 86)) w.heap.size 86 DU.cells.toArray):=af (av.new _ _ _);have zy:=af (Ux (h.below iK.out) hl hok);clear h hl hok;unfold DU aF.cells at iK bU zy;dsimp only at iK bU zy;go_enter Tryz.func35,Tryz.ntmps35
 go_wp2_with fail
 refine zy.out.mono ?_;rintro e w1 ⟨pr,rfl,hr⟩;obtain⟨g,hg⟩:=ai w.heap.size;have hne:g≠pr:=by have:=hr.base;have:=bU.out.lt;omega
 have ju:av w1 g 86 #[.int .i64 0,.int .i64 0,.int .i64 0,.int .i64 0,.int .i64 0,.int .i64 0,.bool false]:=by rw [←hg];exact bU.out.below hr.aJ
 have hb1:Below w.heap.size w w1:=iK.out.trans (hr.aJ.mono iK.out.size);rw [hg]at⊢;have Uy:=af ju;have R0:=af hr;have Pp:=af hb1;have Uz:=af hne;have p0:=af hg;have eI:Hid (w.heap.size≤_):=af iK.out.size;have dO:=iK;clear hr hne ju hb1 hg zy bU iK;generalize w.alloc _=jJ at*;go_wp2_with fail
 refine(Cm R0.out H1.out).mono ?_;rintro e w2 ⟨rfl,hr,hk⟩;have IL:=af hr;have DW:=af hk;clear hr hk;go_wp2_with fail
 refine(Ge IL.out H2.out).mono ?_;rintro e w3 ⟨rfl,hr,hk⟩;have IM:=af hr;have DX:=af (DW.out.trans hk);clear hr hk IL DW;go_wp2_with fail
 refine(Ge IM.out H3.out).mono ?_;rintro e az ⟨rfl,hr,hk⟩;have wW:=af hr;have ol:=af (DX.out.trans hk);clear hr hk IM DX;go_wp2_with fail
 refine(Cm wW.out H4.out).mono ?_;rintro e aA ⟨rfl,hr,hk⟩;have vA:=af hr;have rD:=af (ol.out.trans hk);clear hr hk wW ol;go_wp2_with fail
 refine(Cm vA.out H5.out).mono ?_;rintro e aN ⟨rfl,hr,hk⟩;have zz:=af hr;have AL:=af (rD.out.trans hk);clear hr hk vA rD;go_wp2_with fail
 refine(Cm zz.out IK.out).mono ?_;rintro e bf ⟨rfl,hr,hk⟩;have zA:=af hr;have IP:=af (AL.out.trans hk);clear hr hk zz AL;go_upto_region 3 with(fail)
 have ju:=Uy.out.keeps IP.out Uz.out;have hba:=Below.aI bf (.cells #[↑q,↑i,↑d,↑p,↑t,↑c,.bool false] 86);have Cq:av (bf.alloc (.cells #[↑q,↑i,↑d,↑p,↑t,↑c,.bool false] 86)) bf.heap.size 86 #[↑q,↑i,↑d,↑p,↑t,↑c,.bool false]:=av.new _ _ _;have jn:Below w.heap.size w bf:=Pp.out.trans ((IP.out.below (B:=w.heap.size) (fun k hk=>by have hk':k=pr:=hk;rw [hk'];exact Nat.le_trans eI.out R0.out.base) Pp.out.size));obtain⟨ay,dL⟩:=ai bf.heap.size;have Gf:=af (zA.out.below hba);have UA:=af (ju.below hba);have rE:=af (jn.trans (hba.mono jn.size));have fQ:Hid (ay≠pr):=af (by obtain⟨a,c,h,_⟩:=zA.out.box;have:=h.lt;omega);have zo:Hid (ay≠g):=af (by have:=ju.lt;omega);have adj:Hid (jJ.heap.size≤ay):=af (by have:=zA.out.aJ.size;omega);have jT:Hid (w.heap.size≤ay):=af (by have:=jn.size;omega);rw [dL]at Cq⊢;have UB:=af Cq;clear ju hba Cq jn dL zA IP Uy Pp;generalize bf.alloc _=vC at*;go_wp2_with fail
 refine(Ge Gf.out s6.out).mono ?_;rintro e bZ ⟨rfl,hr,hk⟩;have IQ:=UB.out.keeps hk fQ.out;have Cr:=UA.out.keeps hk Uz.out;have mH:=rE.out.trans (hk.below (B:=w.heap.size) (fun k hk=>by have hk':k=pr:=hk;rw [hk'];exact Nat.le_trans eI.out R0.out.base) rE.out.size);have adk:=af (hr.keep (ct bZ ay 6 ↑jI) (Ne.symm fQ.out) (fun b ht e=>ht.ne IQ.aE (by decide) e) (fun k hk=>by have hk':k=ay:=hk;rw [hk'];exact adj.out));have Pq:=IQ.aW 6 ↑jI;simp only [List.setIfInBounds_toArray,List.set_cons_zero,List.set_cons_succ]at Pq;have DY:=af Pq;have vD:=af (Cr.cC (p:=⟨ay,6,none⟩) (Ne.symm zo.out) ↑jI);have zB:=af (mH.setCell (p:=⟨ay,6,none⟩) jT.out ↑jI);have adl:bZ.frozen? ⟨ay,6,none⟩=false:=IQ.frozen 6;have adn:bZ.cell? ⟨ay,6,none⟩=some (.bool false):=IQ.cell 6;clear hr hk IQ Pq Cr mH Gf UB UA rE;go_upto_region 5 with(fail)
 clear adl adn hfl;generalize bZ.setCell ⟨ay,6,none⟩ ↑jI=bW at*;obtain⟨m0,m1,m2,eN,ea,eY,dV⟩:=DY.out.amz;obtain⟨l0,l1,l2,l3,l4,gX,IR⟩:=vD.out.amz;have fz:∀o,bW.frozen? ⟨g,o,none⟩=false:=fun o=>vD.out.frozen o;have bR:=af (UC adk.out);have xY:=Po (s:=o9);by_cases e0:zx o9=0
 ·have hnb:=xY.1 e0
  rw [e0]at bR;by_cases e1:1<n
  ·have dD:Hid (Co ⟨q,i,d,p,t,c,jI⟩ n o9=none):=af (if_pos (.inr (.inl e1)))
   clear e0 hnb;clear xY;go_wp2_with fail
   refine bR.out.mono ?_;rintro e AE ⟨rfl,rfl⟩;clear bR;go_wp2_with fail
   clear fz l0 l1 l2 l3 l4 gX IR m0 m1 m2 eN ea eY dV;have hz:=vD.out.xZ (.int .i64 0) (.int .i64 0) (.int .i64 0) (.int .i64 0) (.int .i64 0) (.int .i64 0) (.bool false);have hbz:=zB.out.trans ((aK.xZ bW g (.int .i64 0) (.int .i64 0) (.int .i64 0) (.int .i64 0) (.int .i64 0) (.int .i64 0) (.bool false)).below (B:=w.heap.size) (fun k hk=>by have hk2:k=g:=hk;rw [hk2];exact Nat.le_of_eq p0.out) zB.out.size);generalize (((((((bW.setCell ↑g (.int .i64 0)).setCell ⟨g,1,none⟩ (.int .i64 0)).setCell ⟨g,2,none⟩ (.int .i64 0)).setCell ⟨g,3,none⟩ (.int .i64 0)).setCell ⟨g,4,none⟩ (.int .i64 0)).setCell ⟨g,5,none⟩ (.int .i64 0)).setCell ⟨g,6,none⟩ (.bool false))=ax at*;obtain⟨k0,k1,k2,di,jc,lq,jY⟩:=hz.amz;refine bodyPost_ret (v:= .tuple #[.agg #[.int .i64 0,.int .i64 0,.int .i64 0,.int .i64 0,.int .i64 0,.int .i64 0,.bool false],.int .i64 12]) (by simp [results,Tryz.results35,go_sem,k0,k1,k2,di,jc,lq,jY]) rfl ⟨by rw [dD.out];rfl,hbz⟩
  ·by_cases e2:d=1
   ·have dD:Hid (Co ⟨q,i,d,p,t,c,jI⟩ n o9=some ⟨q,i,d,p,t,c,jI⟩):=af (if_neg (by rintro(h|h|h);exact hnb h;exact e1 h;exact h (.inl e2)))
    have ado:(d !=1)=false:=by rw [e2];rfl
    clear e0 hnb e2;clear xY;go_wp2_with fail
    refine bR.out.mono ?_;rintro e AE ⟨rfl,rfl⟩;clear bR;go_wp2_with fail
    clear fz l0 l1 l2 l3 l4 gX IR m0 m1 m2 eN ea eY dV;have hz:=vD.out.xZ ↑q ↑i ↑d ↑p ↑t ↑c ↑jI;have hbz:=zB.out.trans ((aK.xZ bW g ↑q ↑i ↑d ↑p ↑t ↑c ↑jI).below (B:=w.heap.size) (fun k hk=>by have hk2:k=g:=hk;rw [hk2];exact Nat.le_of_eq p0.out) zB.out.size);generalize (((((((bW.setCell ↑g ↑q).setCell ⟨g,1,none⟩ ↑i).setCell ⟨g,2,none⟩ ↑d).setCell ⟨g,3,none⟩ ↑p).setCell ⟨g,4,none⟩ ↑t).setCell ⟨g,5,none⟩ ↑c).setCell ⟨g,6,none⟩ ↑jI)=ax at*;obtain⟨k0,k1,k2,di,jc,lq,jY⟩:=hz.amz;refine bodyPost_ret (v:= .tuple #[.agg #[↑q,↑i,↑d,↑p,↑t,↑c,↑jI],.int .i64 0]) (by simp [results,Tryz.results35,go_sem,k0,k1,k2,di,jc,lq,jY]) rfl ⟨by rw [dD.out];rfl,hbz⟩
   ·have ado:(d !=1)=true:=by simpa using e2
    by_cases bJ:d=2
    ·have dD:Hid (Co ⟨q,i,d,p,t,c,jI⟩ n o9=some ⟨q,i,d,p,t,c,jI⟩):=af (if_neg (by rintro(h|h|h);exact hnb h;exact e1 h;exact h (.inr bJ)))
     have adp:(d !=2)=false:=by rw [bJ];rfl
     clear e0 hnb e2 bJ;clear xY;go_wp2_with fail
     refine bR.out.mono ?_;rintro e AE ⟨rfl,rfl⟩;clear bR;go_wp2_with fail
     clear fz l0 l1 l2 l3 l4 gX IR m0 m1 m2 eN ea eY dV;have hz:=vD.out.xZ ↑q ↑i ↑d ↑p ↑t ↑c ↑jI;have hbz:=zB.out.trans ((aK.xZ bW g ↑q ↑i ↑d ↑p ↑t ↑c ↑jI).below (B:=w.heap.size) (fun k hk=>by have hk2:k=g:=hk;rw [hk2];exact Nat.le_of_eq p0.out) zB.out.size);generalize (((((((bW.setCell ↑g ↑q).setCell ⟨g,1,none⟩ ↑i).setCell ⟨g,2,none⟩ ↑d).setCell ⟨g,3,none⟩ ↑p).setCell ⟨g,4,none⟩ ↑t).setCell ⟨g,5,none⟩ ↑c).setCell ⟨g,6,none⟩ ↑jI)=ax at*;obtain⟨k0,k1,k2,di,jc,lq,jY⟩:=hz.amz;refine bodyPost_ret (v:= .tuple #[.agg #[↑q,↑i,↑d,↑p,↑t,↑c,↑jI],.int .i64 0]) (by simp [results,Tryz.results35,go_sem,k0,k1,k2,di,jc,lq,jY]) rfl ⟨by rw [dD.out];rfl,hbz⟩
    ·have adp:(d !=2)=true:=by simpa using bJ
     have dD:Hid (Co ⟨q,i,d,p,t,c,jI⟩ n o9=none):=af (if_pos (.inr (.inr (by rintro(h|h);exact e2 h;exact bJ h))));clear e0 hnb e2 bJ;clear xY;go_wp2_with fail
     refine bR.out.mono ?_;rintro e AE ⟨rfl,rfl⟩;clear bR;go_wp2_with fail
     clear fz l0 l1 l2 l3 l4 gX IR m0 m1 m2 eN ea eY dV;have hz:=vD.out.xZ (.int .i64 0) (.int .i64 0) (.int .i64 0) (.int .i64 0) (.int .i64 0) (.int .i64 0) (.bool false);have hbz:=zB.out.trans ((aK.xZ bW g (.int .i64 0) (.int .i64 0) (.int .i64 0) (.int .i64 0) (.int .i64 0) (.int .i64 0) (.bool false)).below (B:=w.heap.size) (fun k hk=>by have hk2:k=g:=hk;rw [hk2];exact Nat.le_of_eq p0.out) zB.out.size);generalize (((((((bW.setCell ↑g (.int .i64 0)).setCell ⟨g,1,none⟩ (.int .i64 0)).setCell ⟨g,2,none⟩ (.int .i64 0)).setCell ⟨g,3,none⟩ (.int .i64 0)).setCell ⟨g,4,none⟩ (.int .i64 0)).setCell ⟨g,5,none⟩ (.int .i64 0)).setCell ⟨g,6,none⟩ (.bool false))=ax at*;obtain⟨k0,k1,k2,di,jc,lq,jY⟩:=hz.amz;refine bodyPost_ret (v:= .tuple #[.agg #[.int .i64 0,.int .i64 0,.int .i64 0,.int .i64 0,.int .i64 0,.int .i64 0,.bool false],.int .i64 12]) (by simp [results,Tryz.results35,go_sem,k0,k1,k2,di,jc,lq,jY]) rfl ⟨by rw [dD.out];rfl,hbz⟩
 ·have dD:Hid (Co ⟨q,i,d,p,t,c,jI⟩ n o9=none):=af (if_pos (.inl (Decidable.not_not.1 fun h=>e0 (xY.2 h))))
  have alU:(zx o9 !=0)=true:=by simpa using e0
  generalize zx o9=ev at*;clear e0;clear xY;go_wp2_with fail
  refine bR.out.mono ?_;rintro e AE ⟨rfl,rfl⟩;clear bR;go_wp2_with fail
  clear fz l0 l1 l2 l3 l4 gX IR m0 m1 m2 eN ea eY dV;have hz:=vD.out.xZ (.int .i64 0) (.int .i64 0) (.int .i64 0) (.int .i64 0) (.int .i64 0) (.int .i64 0) (.bool false);have hbz:=zB.out.trans ((aK.xZ bW g (.int .i64 0) (.int .i64 0) (.int .i64 0) (.int .i64 0) (.int .i64 0) (.int .i64 0) (.bool false)).below (B:=w.heap.size) (fun k hk=>by have hk2:k=g:=hk;rw [hk2];exact Nat.le_of_eq p0.out) zB.out.size);generalize (((((((bW.setCell ↑g (.int .i64 0)).setCell ⟨g,1,none⟩ (.int .i64 0)).setCell ⟨g,2,none⟩ (.int .i64 0)).setCell ⟨g,3,none⟩ (.int .i64 0)).setCell ⟨g,4,none⟩ (.int .i64 0)).setCell ⟨g,5,none⟩ (.int .i64 0)).setCell ⟨g,6,none⟩ (.bool false))=ax at*;obtain⟨k0,k1,k2,di,jc,lq,jY⟩:=hz.amz;refine bodyPost_ret (v:= .tuple #[.agg #[.int .i64 0,.int .i64 0,.int .i64 0,.int .i64 0,.int .i64 0,.int .i64 0,.bool false],.int .i64 12]) (by simp [results,Tryz.results35,go_sem,k0,k1,k2,di,jc,lq,jY]) rfl ⟨by rw [dD.out];rfl,hbz⟩
end
def bB.put (p:bB) (s:Nat) (x:eO):bB:=if s=0 then⟨x,p.t⟩else⟨p.s,x⟩
def c9 (x:aX×aX) (s:Nat):aX:=if s=0 then x.1 else x.2
def Me (x:aX×aX) (s:Nat) (d:aX):aX×aX:=if s=0 then(d,x.2)else(x.1,d)
theorem bB.Ma (p:bB) (s:Nat) (x y:eO):(p.put s x).put s y=p.put s y:=by unfold bB.put;split<;>rfl
theorem bB.Av (p:bB) (s:Nat) (x:eO):(p.put s x).sh s=x:=by unfold bB.put bB.sh;split<;>rfl
section
variable {w w':World} {B go cap i s:Nat} {P:List bB} {p:bB} {V:bG}
theorem pR {α:Type} {L:List α} {i:Nat} {x:α} (h:L[i]? =some x) (y:α):(L.set i y)[i]? =some y:=by
 rw [List.getElem?_set_self (by have:=dM h;exact this)]
theorem Row.DB (h:ey.Row w B (.slice ↑go V.length cap) P) (hp:P[i]? =some p) (hs:s<2) {f:Nat} (hf:f<5) {x:eO} {u:Value} (he:x.cells=(p.sh s).cells.set f u):
 ey.Row (w.setCell ⟨go,i*10+s*5+f,none⟩ u) B (.slice ↑go V.length cap) (P.set i (p.put s x)):=by
 rw [show i*10+s*5+f=i*ey.m+(s*5+f)by show _=i*10+(s*5+f);omega];refine h.aW hp (by show s*5+f<10;omega) ?_;have e:∀q:bB,ey.cells q=q.s.cells++q.t.cells:=fun _=>rfl;have gX:∀y:eO,y.cells.length=5:=fun _=>rfl;rw [e,e];rcases(show s=0∨s=1 by omega)with rfl|rfl
 ·show x.cells++p.t.cells=_
  rw [List.set_append_left _ _ (by rw [gX];omega),he,show 0*5+f=f by omega];rfl
 ·show p.s.cells++x.cells=_
  rw [List.set_append_right _ _ (by rw [gX];omega),he,gX,show 1*5+f-5=f by omega];rfl
theorem Row.TV (h:ey.Row w B (.slice ↑go V.length cap) P) (hp:P[i]? =some p) (hs:s<2) (l:aB):
 ey.Row (((w.setCell ⟨go,i*10+s*5+1,none⟩ ↑l.ap).setCell ⟨go,i*10+s*5+1+1,none⟩ ↑l.aq).setCell ⟨go,i*10+s*5+1+2,none⟩ ↑l.count) B (.slice ↑go V.length cap) (P.set i (p.put s ⟨(p.sh s).a,(p.sh s).n,(p.sh s).c,l,(p.sh s).has⟩)):=by
 have h1:=Row.DB h hp hs (f:=1) (by decide) (x:=⟨(p.sh s).a,(p.sh s).n,(p.sh s).c,⟨l.ap,(p.sh s).im.aq,(p.sh s).im.count⟩,(p.sh s).has⟩) (u:=↑l.ap) rfl;have h2:=Row.DB h1 (pR hp _) hs (f:=2) (by decide) (x:=⟨(p.sh s).a,(p.sh s).n,(p.sh s).c,⟨l.ap,l.aq,(p.sh s).im.count⟩,(p.sh s).has⟩) (u:=↑l.aq) (by rw [bB.Av];rfl);rw [List.set_set,bB.Ma]at h2;have h3:=Row.DB h2 (pR hp _) hs (f:=3) (by decide) (x:=⟨(p.sh s).a,(p.sh s).n,(p.sh s).c,l,(p.sh s).has⟩) (u:=↑l.count) (by rw [bB.Av];rfl);rw [List.set_set,bB.Ma]at h3;exact h3
theorem L6 (w:World) (go o:Nat) (a b c:Value):aK (fun g=>g=go) w (((w.setCell ⟨go,o+1,none⟩ a).setCell ⟨go,o+1+1,none⟩ b).setCell ⟨go,o+1+2,none⟩ c):=
 ((ct w go _ a).trans (ct _ go _ b)).trans (ct _ go _ c)
theorem nB (h:ey.Row w B (.slice ↑go V.length cap) P) (hp:P[i]? =some p) (hs:s<2) {f:Nat} {u:Value} (he:(p.sh s).cells[f]? =some u):w.cell? ⟨go,i*10+s*5+f,none⟩=some u:=by
 obtain⟨g',cap',e1,_,bJ⟩:=h.at_ i p hp;have ju:g'=go:=by injection e1 with e1;injection e1 with e1;injection e1 with e1;exact e1.symm
 subst ju;have hf:f<5:=by have:=dM he;exact this
 have:=bJ (s*5+f) u (by
  have e:ey.cells p=p.s.cells++p.t.cells:=rfl;have gX:∀y:eO,y.cells.length=5:=fun _=>rfl;rw [e];rcases(show s=0∨s=1 by omega)with rfl|rfl
  ·rw [List.getElem?_append_left (by rw [gX];omega),show 0*5+f=f by omega];exact he
  ·rw [List.getElem?_append_right (by rw [gX];omega),gX,show 1*5+f-5=f by omega];exact he)
 rw [show i*10+s*5+f=i*ey.m+(s*5+f)by show _=i*10+(s*5+f);omega];exact this
theorem F5.fin {x:aX×aX} {sh:eO} {d:aX} {F:Nat→Prop} (hl:P.length=V.length) (hsh:∀(j:Nat) (p:bB) (x:aX×aX),P[j]? =some p→V[j]? =some x→bV bS w B p.s x.1∧bV bS w B p.t x.2) (hap:Iz P (2*V.length))
 (hp:P[i]? =some p) (hx:V[i]? =some x) (hs:s<2) (hk:aK F w w') (hF:∀g,ck w g bS.t→F g→(p.sh s).own=some g)
 (hr:ey.Row w' B (.slice ↑go V.length cap) (P.set i (p.put s sh))) (hd:bV bS w' B sh d):cg ey bS w' B (.slice ↑go V.length cap) (V.set i (Me x s d)):=by
 have hil:=dM hx
 have Mf:∀(j t:Nat) (q:bB) (y:aX×aX),P[j]? =some q→V[j]? =some y→t<2→2*j+t≠2*i+s→bV bS w' B (q.sh t) (c9 y t):=by
  intro j t q y hq hy ht hne;have hjl:=dM hy
  have hh:bV bS w B (q.sh t) (c9 y t):=by
   have:=hsh j q y hq hy;unfold bB.sh c9;split
   ·exact this.1
   ·exact this.2
  refine⟨hh.n,zv hh.row hk fun g hg hf=>?_,hh.im,hh.has⟩;have h1:=hF g (eo hh.row g hg) hf;exact hap j i t s q p g hq hp ht hs (by omega) (by omega) hne (by unfold eO.own;exact hg) h1
 refine⟨P.set i (p.put s sh),hr,by rw [List.length_set,List.length_set];exact hl,fun j q y hq hy=>?_⟩;by_cases hj:j=i
 ·subst hj
  rw [pR hp]at hq;rw [pR hx]at hy;injection hq with hq;injection hy with hy;subst hq;subst hy;rcases(show s=0∨s=1 by omega)with rfl|rfl
  ·exact⟨hd,Mf j 1 p x hp hx (by decide) (by omega)⟩
  ·exact⟨Mf j 0 p x hp hx (by decide) (by omega),hd⟩
 ·rw [List.getElem?_set_ne (Ne.symm hj)]at hq hy
  exact⟨Mf j 0 q y hq hy (by decide) (by omega),Mf j 1 q y hq hy (by decide) (by omega)⟩
theorem T3 {m:aF} {x:aX×aX} (hi:m.inst=i) (hs:m.side=(s:Int)+1) (fD:s<2) (hx:V[i]? =some x):gm m V=V.set i (Me x s ((c9 x s).app m)):=by
 unfold gm;rw [hi,Int.toNat_natCast];apply List.ext_getElem?;intro j;rw [List.getElem?_modify];by_cases hj:i=j
 ·subst hj
  rw [pR hx,hx];simp only [if_true,Option.map_eq_map,Option.map_some];unfold vv Me c9;rcases(show s=0∨s=1 by omega)with rfl|rfl
  ·rw [if_pos (by omega)];rfl
  ·rw [if_neg (by omega)];rfl
 ·rw [List.getElem?_set_ne hj]
  simp only [hj,if_false];cases V[j]? <;>rfl
structure sS (w0 w:World) (aM ay gr aH go cap:Nat) (V:bG) (P:List bB) (q p t c:Int) (i s:Nat) (im:Bool):Prop where
 bv:av w aM 43 #[.slice ↑go V.length cap]
 bm:av w ay 86 #[↑q,↑i,.int .i64 ((s:Int)+1),↑p,↑t,↑c,↑im]
 br:av w gr 43 #[.slice none 0 0]
 nA:av w aH 47 #[↑p,↑t,↑c]
 row:ey.Row w w0.heap.size (.slice ↑go V.length cap) P
 sh:∀(j:Nat) (p:bB) (x:aX×aX),P[j]? =some p→V[j]? =some x→bV bS w w0.heap.size p.s x.1∧bV bS w w0.heap.size p.t x.2
 aJ:Below w0.heap.size w0 w
theorem sS.below {w0 w w':World} {aM ay gr aH go cap:Nat} {V:bG} {P:List bB} {q p t c:Int} {i s:Nat} {im:Bool} (h:sS w0 w aM ay gr aH go cap V P q p t c i s im) (hb:Below w.heap.size w w'):sS w0 w' aM ay gr aH go cap V P q p t c i s im:=
 ⟨h.bv.below hb,h.bm.below hb,h.br.below hb,h.nA.below hb,h.row.below hb,fun j p x hp hx=>⟨(h.sh j p x hp hx).1.below hb,(h.sh j p x hp hx).2.below hb⟩,h.aJ.trans (hb.mono h.aJ.size)⟩
theorem sS.fz {w0 w:World} {aM ay gr aH go cap:Nat} {V:bG} {P:List bB} {q p t c:Int} {i s:Nat} {im:Bool} (h:sS w0 w aM ay gr aH go cap V P q p t c i s im) {bx:bB} (hp:P[i]? =some bx) (o:Nat):w.frozen? ⟨go,o,none⟩=false:=by
 obtain⟨g',cap',cur,cV,_,hbk⟩:=h.row.Cd (by intro h0;rw [h0]at hp;simp at hp);injection cV with cV;injection cV with cV;injection cV with cV;subst cV;exact hbk.frozen _
theorem Row.Ip {w:World} {B go n cap i:Nat} {P:List bB} {bx:bB} (h:ey.Row w B (.slice ↑go n cap) P) (hp:P[i]? =some bx) (o:Nat):w.frozen? ⟨go,o,none⟩=false:=by
 obtain⟨g',cap',cur,cV,_,hbk⟩:=h.Cd (by intro h0;rw [h0]at hp;simp at hp);injection cV with cV;injection cV with cV;injection cV with cV;subst cV;exact hbk.frozen _
theorem sS.oZ {w0 w:World} {aM ay gr aH go cap:Nat} {V:bG} {P:List bB} {q p t c:Int} {i s:Nat} {im:Bool} (h:sS w0 w aM ay gr aH go cap V P q p t c i s im) {bx:bB} {x:aX×aX} (hp:P[i]? =some bx) (hx:V[i]? =some x):bV bS w w0.heap.size (bx.sh s) (c9 x s):=by
 have:=h.sh i bx x hp hx;unfold bB.sh c9;split
 ·exact this.1
 ·exact this.2
theorem sS.done {w0 w w':World} {aM ay gr aH go cap:Nat} {V:bG} {P:List bB} {q p t c:Int} {i s:Nat} {im:Bool} (h:sS w0 w aM ay gr aH go cap V P q p t c i s im) {bx:bB} {x:aX×aX} (hl:P.length=V.length) (hap:Iz P (2*V.length)) (hp:P[i]? =some bx) (hx:V[i]? =some x) (hs:s<2) {F:Nat→Prop} (hk:aK F w w') (hF:∀g,ck w g bS.t→F g→(bx.sh s).own=some g)
 {sh:eO} {d:aX} (hr:ey.Row w' w0.heap.size (.slice ↑go V.length cap) (P.set i (bx.put s sh))) (hd:bV bS w' w0.heap.size sh d) (xT:ck w' gr 43) (hm:(c9 x s).app ⟨q,i,(s:Int)+1,p,t,c,im⟩=d) (u:Value):
 cg ey bS (w'.setCell ↑gr u) w0.heap.size (.slice ↑go V.length cap) (gm ⟨q,i,(s:Int)+1,p,t,c,im⟩ V):=by
 rw [T3 (m:=⟨q,i,(s:Int)+1,p,t,c,im⟩) rfl rfl hs hx,hm];have h1:=F5.fin (w':=w') (F:=F) hl h.sh hap hp hx hs hk hF hr hd;exact h1.keep (ct w' gr 0 u) (fun g hg e=>hg.ne xT (by decide) e) (fun g hg e=>hg.ne xT (by decide) e)
theorem DD {w:World} {B g n cap k:Nat} {L:List aB} {z:aB} (h:bS.Row w B (.slice ↑g n cap) L) (hz:L[k]? =some z):w.cell? ⟨g,k*3,none⟩=some ↑z.ap∧w.cell? ⟨g,k*3+1,none⟩=some ↑z.aq∧w.cell? ⟨g,k*3+2,none⟩=some ↑z.count∧∀o,w.frozen? ⟨g,o,none⟩=false:=by
 obtain⟨g1,m6,e1,_,hc⟩:=h.at_ k z hz;obtain⟨g2,oD,cur,e2,_,hbk⟩:=h.Cd (by intro h0;rw [h0]at hz;simp at hz);have h1:g1=g:=by injection e1 with e1;injection e1 with e1;injection e1 with e1;exact e1.symm
 have h2:g2=g:=by injection e2 with e2;injection e2 with e2;injection e2 with e2;exact e2.symm
 subst h1;rw [h2]at hbk;have rq:iI w g1 (k*3) [↑z.ap,↑z.aq,↑z.count]:=hc;refine⟨?_,rq 1 _ rfl,rq 2 _ rfl,fun o=>hbk.frozen o⟩;have:=rq 0 _ rfl
 rwa [Nat.add_zero]at this
theorem acG {w:World} {B g n cap k:Nat} {L:List aB} {z:aB} (h:bS.Row w B (.slice ↑g n cap) L) (hz:L[k]? =some z) (l:aB):
 bS.Row (((w.setCell ⟨g,k*3,none⟩ ↑l.ap).setCell ⟨g,k*3+1,none⟩ ↑l.aq).setCell ⟨g,k*3+2,none⟩ ↑l.count) B (.slice ↑g n cap) (L.set k l):=by
 have h1:=h.aW (e':=⟨l.ap,z.aq,z.count⟩) (k:=0) (u:=↑l.ap) hz (by decide) rfl;have h2:=h1.aW (e':=⟨l.ap,l.aq,z.count⟩) (k:=1) (u:=↑l.aq) (pR hz _) (by decide) rfl;rw [List.set_set]at h2;have h3:=h2.aW (e':=l) (k:=2) (u:=↑l.count) (pR hz _) (by decide) rfl;rw [List.set_set]at h3;have e0:k*bS.m+0=k*3:=by show k*3+0=k*3;omega
 have e1:k*bS.m+1=k*3+1:=rfl;have e2:k*bS.m+2=k*3+2:=rfl;rw [e0,e1,e2]at h3;exact h3
theorem acF (w:World) (g o:Nat) (a b c:Value):aK (fun k=>k=g) w (((w.setCell ⟨g,o,none⟩ a).setCell ⟨g,o+1,none⟩ b).setCell ⟨g,o+2,none⟩ c):=
 ((ct w g _ a).trans (ct _ g _ b)).trans (ct _ g _ c)
theorem TY {P:List bB} {i s:Nat} {bx:bB} (h:P[i]? =some bx):P.set i (bx.put s (bx.sh s))=P:=by
 have e:bx.put s (bx.sh s)=bx:=by unfold bB.put bB.sh;split<;>rfl
 rw [e];apply List.ext_getElem?;intro j;by_cases hj:i=j
 ·subst hj;rw [pR h,h]
 ·rw [List.getElem?_set_ne hj]
end
theorem ae7 {l:List aB} {k:Nat} {x:aB} {q:Int} (h:l[k]? =some x) (hf:fp l q=fp (l.drop k) q):fp l q=if x.ap=q then x else fp (l.drop (k+1)) q:=by
 obtain⟨h1,h2⟩:=List.getElem?_eq_some_iff.1 h;rw [hf,List.drop_eq_getElem_cons h1,h2,pn]
theorem Vt {w:World} {a:Option Addr} {c:Nat} {L:List aB} (h:bK.eT w (.slice a L.length c) L) (hl:L.length≤1000000) (q:Int):
 Calls Tryz.prog 73 #[.slice a L.length c,↑q] w fun e w'=>e= .returned (.agg #[.int .i64 (fp L q).ap,.int .i64 (fp L q).aq,.int .i64 (fp L q).count])∧Below w.heap.size w w':=by
 have hba:=Below.aI w (.cells #[.int .i64 0,.int .i64 0,.int .i64 0] 101);have aD:=af (h.below hba);have aG:=af hba;have bU:Hid (av (w.alloc (.cells #[.int .i64 0,.int .i64 0,.int .i64 0] 101)) w.heap.size 101 #[.int .i64 0,.int .i64 0,.int .i64 0]):=af (av.new _ _ _);obtain⟨n,hn⟩:=ai L.length;rw [hn]at aD hl⊢;have HN:=af hn;obtain⟨r,hr⟩:=ai (fp L q);rw [hr];have bM:=af hr;clear h hba hn hr;go_enter Tryz.func73,Tryz.ntmps73
 go_upto_region 1 with(fail)
 obtain⟨g,hg⟩:=ai w.heap.size;have p0:=af hg;rw [hg]at bU⊢;clear hg;generalize w.alloc (.cells _ 101)=w1 at*;have f0:∀o,w1.frozen? ⟨g,o,none⟩=false:=fun o=>bU.out.frozen o;obtain⟨c0,c1,c2⟩:=bU.out.amv;go_wp2_with fail
 go_loopw [5] (fun i w'=>∃k:Nat,i=↑k∧k≤n∧fp L q=fp (L.drop k) q∧w1=w') (fun i _=>n-(RowKit.intOf i).toNat)
 case atStart=>exact⟨0,rfl,Nat.zero_le _,rfl,rfl⟩
 case round=>
  obtain⟨k,rfl,hk,hf,rfl⟩:=hrel;have b5:=af hf;clear hf;by_cases hlt:k<n
  ·have hlt':(k:Int)<(n:Int):=by omega
   obtain⟨x,hx⟩:∃x,L[k]? =some x:=⟨_,List.getElem?_eq_getElem (by rw [HN.out];exact hlt)⟩;have dI:=af (ae7 hx b5.out);obtain⟨b,off,c',he,_,hc⟩:=aD.out.get hx;injection he with he hne eS;clear hne;subst he;subst eS;obtain⟨x0,x1,aZ⟩:=x;have d0:w1.cell? ⟨b,off+k*3,none⟩=some ↑x0:=hc 0 _ rfl;have d1:w1.cell? ⟨b,off+k*3+1,none⟩=some ↑x1:=hc 1 _ rfl;have d2:w1.cell? ⟨b,off+k*3+2,none⟩=some ↑aZ:=hc 2 _ rfl;clear hc hx;by_cases he:x0=q
   ·subst he
    have kS:Hid (r=⟨x0,x1,aZ⟩):=af (by rw [←bM.out,dI.out,if_pos rfl]);go_wp2_with fail
    have cj:=bU.out.vP ↑x0 ↑x1 ↑aZ;have kr:=aG.out.trans ((aK.vP w1 g ↑x0 ↑x1 ↑aZ).below (B:=w.heap.size) (fun k hk=>by have e:k=g:=hk;rw [e];exact Nat.le_of_eq p0.out) aG.out.size);have e0:=cj.cell 0;have e1:=cj.cell 1;have e2:=cj.cell 2;refine bodyPost_ret (v:= .agg #[↑x0,↑x1,↑aZ]) (by simp [results,Tryz.results73,go_sem,e0,e1,e2]) rfl ⟨by rw [kS.out],kr⟩
   ·rw [if_neg he]at dI
    have he':(x0==q)=false:=by rw [beq_eq_false_iff_ne];exact he
    go_wp2_with fail
    go_roundw
    case rel=>exact⟨k+1,by go_num,hlt,dI.out,by trivial⟩
    case measure=>simp [RowKit.intOf];omega
  ·have hkn:k=n:=by omega
   have kS:Hid (r=⟨q,0,0⟩):=af (by rw [←bM.out,b5.out,hkn,←HN.out,List.drop_length];rfl);clear hkn;go_wp2_with fail
   have cj:=bU.out.vP ↑q (.int .i64 0) (.int .i64 0);have kr:=aG.out.trans ((aK.vP w1 g ↑q (.int .i64 0) (.int .i64 0)).below (B:=w.heap.size) (fun k hk=>by have e:k=g:=hk;rw [e];exact Nat.le_of_eq p0.out) aG.out.size);have e0:=cj.cell 0;have e1:=cj.cell 1;have e2:=cj.cell 2;refine bodyPost_ret (v:= .agg #[↑q,.int .i64 0,.int .i64 0]) (by simp [results,Tryz.results73,go_sem,e0,e1,e2]) rfl ⟨by rw [kS.out],kr⟩
end Go.Proofs.YtmaijkoopjocdaaGreat
