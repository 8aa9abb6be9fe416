import Derived.Test.YtmaijkoopjocdaaGreatKV13
import Derived.Test.YtmaijkoopjocdaaGreatKV05
set_option maxRecDepth 100000
set_option maxHeartbeats 64000000
namespace Go.Proofs.YtmaijkoopjocdaaGreat
open Go.RowKit Go.Lib
def jo (n:Int):Nat→List Int
 |0=> []
 |k+1=>n % 256::jo (n / 256) k
theorem uu:∀(n:Int) (k:Nat),(jo n k).length=k
 |_,0=>rfl
 |n,k+1=>by rw [jo,List.length_cons,uu]
theorem Oe:∀(n:Int) (k:Nat),∀z∈jo n k,isByte z
 |_,0,z,h=>by simp [jo]at h
 |n,k+1,z,h=>by
  rcases List.mem_cons.1 h with rfl|h
  ·unfold isByte;omega
  ·exact Oe _ k z h
def nH (n:Int) (k:Nat):Int:=n / 256^k
theorem Pm:∀(n:Int) (k:Nat),jo n (k+1)=jo n k++ [nH n k % 256]
 |n,0=>by simp [jo,nH]
 |n,k+1=>by
  rw [jo,Pm (n / 256) k,jo];unfold nH;rw [List.cons_append,Int.ediv_ediv_of_nonneg (by decide),Int.pow_succ,Int.mul_comm 256]
theorem Pn (n:Int) (k:Nat):nH n (k+1)=nH n k / 256:=by
 unfold nH;rw [Int.ediv_ediv_of_nonneg (Int.le_of_lt (Int.pow_pos (by decide))),Int.pow_succ]
theorem acu {n:Int} (h:0≤n) (k:Nat):0≤nH n k:=Int.ediv_nonneg h (Int.le_of_lt (Int.pow_pos (by decide)))
theorem acv {n:Int} (h:0≤n):∀k,nH n k≤n
 |0=>by simp [nH]
 |k+1=>by rw [Pn];have:=acv h k;have:=acu h k;omega
theorem SS (c:Int):r3 c=jo c 4:=by
 simp only [r3,jo,List.cons.injEq,and_true,true_and];refine⟨?_,?_⟩<;>omega
structure At (W w:World) (pw:Nat) (L:List Int):Prop where
 box:∃v,av w pw 223 #[v]∧cZ.Row w W.heap.size v L
 base:W.heap.size≤pw
 aJ:Below W.heap.size W w
section
variable {W w w':World} {pw:Nat} {L:List Int}
theorem At.below (h:At W w pw L) (hb:Below w.heap.size w w'):At W w' pw L:=by
 obtain⟨⟨v,h1,h2⟩,h3,h4⟩:=h;exact⟨⟨v,h1.below hb,h2.below hb⟩,h3,h4.trans (hb.mono h4.size)⟩
theorem ajN (w:World):Calls Tryz.prog 89 #[] w fun e w'=>∃pw,e= .returned (.pointer (some ⟨pw,0,none⟩))∧At w w' pw []:=by
 go_enter Tryz.func89,Tryz.ntmps89
 go_wp2_with fail
 go_ret;exact⟨_,rfl,⟨_,av.new w _ _,bl.Row.nil _ _⟩,Nat.le_refl _,Below.aI w _⟩
theorem alP (h:At W w pw L) (n:Int) (hn0:0≤n) (E4:n<18446744073709551616) (k:Nat) (hk:k≤8) (hl:L.length≤900000):
 Calls Tryz.prog 126 #[.pointer ↑pw,.int .u64 n,↑k] w fun e w'=>e= .returned (.tuple #[])∧At W w' pw (L++jo n k):=by
 have H:=af h;have c6:=af hl;have HN:=af (And.intro hn0 E4);clear h hl hn0 E4;go_enter Tryz.func126,Tryz.ntmps126
 go_wp2_with fail
 go_loopw [1,7] (fun y i w'=>∃j:Nat,i=↑j∧y= .int .u64 (nH n j)∧j≤k∧At W w' pw (L++jo n j)) (fun _ i _=>k-(RowKit.intOf i).toNat)
 case atStart=>exact⟨0,rfl,by rw [show nH n 0=n by simp [nH]],Nat.zero_le _,by rw [show jo n 0= []from rfl,List.append_nil];exact H.out⟩
 case round=>
  obtain⟨j,rfl,rfl,hj,hw⟩:=hrel;obtain⟨ax,rfl⟩:=aj wr;have H1:=af hw;by_cases hlt:j<k
  ·have hlt':(j:Int)<(k:Int):=by omega
   obtain⟨v,hb,hr⟩:=hw.box;obtain⟨a,c,rfl⟩:=hr.form;have aD:Hid (nH n (j+1)=nH n j / 256):=af (Pn n j);have bP:Hid (jo n (j+1)=jo n j++ [nH n j % 256]):=af (Pm n j);have q0:=acu HN.out.1 j;have q1:=acv HN.out.1 j;have OI:Hid ((jo n j).length=j):=af (uu n j);have hq1:nH n j<18446744073709551616:=by have:=HN.out.2;omega
   generalize nH n j=y at*;have Pk:IntKind.u8.wrap y=y % 256:=IntKind.wrap_u8 y;have Uu:y.fdiv 256=y / 256:=Int.fdiv_eq_ediv_of_nonneg y (by decide);obtain⟨M,fF⟩:=ai (L++jo n j);rw [fF]at hr hb H1;have cM:=af fF;have jf:Hid (M.length≤900008):=af (by rw [←fF,List.length_append,OI.out];have:=c6.out;omega);clear fF;obtain⟨m,hm⟩:=ai M.length;rw [hm]at hr hb;have c0:ax.cell? ↑pw=some (.slice a m c):=hb.cell 0;have aG:=af hb;have EF:=Below.aI ax (.cells #[.int .u8 (y % 256)] 5);have cK:=af EF;have c8:Hid (av (ax.alloc (.cells #[.int .u8 (y % 256)] 5)) ax.heap.size 5 (DS (y % 256)).toArray):=af (av.new _ _ _);have iz:=af (hr.below EF);have rC:=af hr;clear hb hr EF hw
   go_wp2_with (first
    |(at_builtin;go_loud (refine cZ.push rfl (.tmp 13) (.tmp 16) rfl W.heap.size (.slice a m c) M rfl iz.out ax.heap.size (y % 256) rfl c8.out.lt c8.out.gH (by have:=jf.out;omega) (cK.out.mono H1.out.aJ.size |>.size |> Nat.le_trans H1.out.aJ.size) ?_)))
   intro v' aN bX cQ eG;obtain⟨a',c',hv⟩:=bX.form;rw [show(M++ [y % 256]).length=m+1 by rw [List.length_append,hm];rfl]at hv;subst hv;have hbk:=JW rC.out cQ aG.out (by decide);have acw:=af hbk;have fJ:aN.cell? ↑pw=some (.slice a m c):=hbk.cell 0;have fz:∀o,aN.frozen? ⟨pw,o,none⟩=false:=fun o=>hbk.frozen o;have cL:=af bX;have b7:=af (QA rC.out cQ H1.out.aJ);clear bX cQ eG hbk c8 iz cK c0;go_wp2_with fail
   go_roundw
   case rel=>
    refine⟨j+1,by go_num,by rw [aD.out],hlt,?_⟩;rw [bP.out,←List.append_assoc,cM.out];exact⟨⟨_,acw.out.aW 0 _,JY cL.out acw.out (by decide) 0 _⟩,H1.out.base,b7.out.setCell (p:=⟨pw,0,none⟩) H1.out.base _⟩
   case measure=>simp [RowKit.intOf];omega
  ·obtain rfl:j=k:=by omega
   go_wp2_with fail
   go_end0
   exact⟨by trivial,H1.out⟩
theorem ajO (h:At W w pw L) (c:Int) (hc:qJ c) (hl:L.length≤900000):
 Calls Tryz.prog 90 #[.pointer ↑pw,.int .u32 c] w fun e w'=>e= .returned (.tuple #[])∧At W w' pw (L++r3 c):=by
 have y1:IntKind.u64.wrap c=c:=u64_wrap_id c hc.1 (by have:=hc.2;omega);have bP:=af (alP h c hc.1 (by have:=hc.2;omega) 4 (by decide) hl);rw [SS];clear h hc hl;go_enter Tryz.func90,Tryz.ntmps90
 go_wp2_with fail
 refine bP.out.mono ?_;rintro e w1 ⟨rfl,hw⟩;have eI:=af hw;clear hw bP;go_wp2_with fail
 go_end0
 exact⟨by trivial,eI.out⟩
theorem ajQ (h:At W w pw L) (hl:L.length≤900000):
 Calls Tryz.prog 92 #[.pointer ↑pw] w fun e w'=>∃v',e= .returned v'∧cZ.Row w' w.heap.size v' L∧Below w.heap.size w w':=by
 obtain⟨v,hb,hr⟩:=h.box;have c0:w.cell? ↑pw=some v:=hb.cell 0;have bg:=af (T7 hr.sl hl);obtain⟨a,c,rfl⟩:=hr.form;clear h hl hb hr;go_enter Tryz.func92,Tryz.ntmps92
 go_wp2_with fail
 refine bg.out.mono ?_;rintro e w1 ⟨v',rfl,hr,hb⟩;have bM:=af hr;have aG:=af hb;clear hr hb bg;go_wp2_with fail
 go_ret;exact⟨_,rfl,bM.out,aG.out⟩
end
theorem akI {W w:World} {pv n:Nat} {hv:Value} {s:ig} (h:fA W w pv n hv s) {v:Value} {b:List Int} (hsl:cZ.eT w v b) (hl:b.length≤900000) (hok:∀z∈b,isByte z) (hd:pg b=none):
 Calls Tryz.prog 11 #[.pointer ↑pv,v] w fun e w'=>e= .returned (.int .i64 (12))∧∃dF,fA W w' pv n dF s∧aK (wo pv hv) w w'∧∀g,dF.ownBlock=some g→hv.ownBlock=some g∨w.heap.size≤g:=by
 have hdec:=DV hsl hl hok;rw [hd]at hdec;unfold Cp at hdec;simp only [Option.getD_none,Option.isSome_none,Bool.false_eq_true,if_false]at hdec;unfold aF.cells DU at hdec;dsimp only at hdec;have oy:=af hdec;have H0:=af h;clear hdec h hsl hl hok hd;go_enter Tryz.func11,Tryz.ntmps11
 go_wp2_with fail
 refine oy.out.mono ?_;rintro e w1 ⟨rfl,hb⟩;have bA:=af hb;obtain⟨ay,dL⟩:=ai w1.heap.size;clear hb;go_wp2_with fail
 go_ret;have hba:=bA.out.trans ((Below.aI w1 (.cells #[.int .i64 0,.int .i64 0,.int .i64 0,.int .i64 0,.int .i64 0,.int .i64 0,.bool false] 86)).mono bA.out.size);exact⟨by trivial,hv,H0.out.below hba,Below.keeps hba,fun g hg=> .inl hg⟩
theorem akJ {W w:World} {pv n:Nat} {hv:Value} {s:ig} (h:fA W w pv n hv s) {cc:Nat} (hk:pL n cc s) (lf:sG s.H) {v:Value} {b:List Int} (hsl:cZ.eT w v b) (hl:b.length≤900000) (hok:∀z∈b,isByte z) {q ii sd p t c:Int} {im:Bool} (hd:pg b=some ⟨q,ii,sd,p,t,c,im⟩) (hq:q<1):
 Calls Tryz.prog 11 #[.pointer ↑pv,v] w fun e w'=>e= .returned (.int .i64 (12))∧∃dF,fA W w' pv n dF s∧aK (wo pv hv) w w'∧∀g,dF.ownBlock=some g→hv.ownBlock=some g∨w.heap.size≤g:=by
 have hdec:=DV hsl hl hok;rw [hd]at hdec;unfold Cp at hdec;simp only [Option.getD_some,Option.isSome_some,if_true]at hdec;unfold aF.cells at hdec;dsimp only at hdec;have hmo:=(FQ hok hd).1;have uW:=af hmo;have oy:=af hdec;have H0:=af h;have dJ:=af hk;have B1:=af lf;have hlv:=hk.len;clear hdec h hk hsl hl hok hd hmo lf;go_enter Tryz.func11,Tryz.ntmps11
 go_wp2_with fail
 refine oy.out.mono ?_;rintro e w1 ⟨rfl,hb⟩;have bA:=af hb;obtain⟨ay,dL⟩:=ai w1.heap.size;go_upto_region 2 with(fail)
 have hba:=Below.aI w1 (.cells #[↑q,↑ii,↑sd,↑p,↑t,↑c,↑im] 86);have fT:av (w1.alloc (.cells #[↑q,↑ii,↑sd,↑p,↑t,↑c,↑im] 86)) w1.heap.size 86 #[↑q,↑ii,↑sd,↑p,↑t,↑c,↑im]:=av.new w1 _ _;rw [dL]at fT;have dc:=af fT;have bL:Hid (w.heap.size≤ay):=af (by rw [←dL];exact hb.size);have aS:=af (hb.trans (hba.mono hb.size));clear hb hba fT dL bA oy;generalize w1.alloc (.cells #[↑q,↑ii,↑sd,↑p,↑t,↑c,↑im] 86)=w2 at*;have ot:=af (H0.out.below aS.out);obtain⟨a2,c2,aT,_⟩:=H0.out.below aS.out |>.box;have jA:=af aT;obtain⟨m0,m1,m2,eN,ea,eY,dV⟩:=dc.out.amz;have k0:w2.cell? ↑pv=some ↑n:=aT.cell 0;clear aT;have hq2:decide (q<1)=true:=decide_eq_true hq;clear hq;go_wp2_with fail
 go_quiet (fail)
 go_wp2_with fail
 go_ret;have hba:=aS.out.trans ((Below.bO w2 nq).mono aS.out.size);exact⟨by trivial,hv,H0.out.below hba,Below.keeps hba,fun g hg=> .inl hg⟩
section
variable {W w w':World} {pv n:Nat} {hv:Value} {s:ig}
theorem Nn (h:fA W w pv n hv s):Calls Tryz.prog 12 #[.pointer ↑pv] w fun e w'=>e= .returned (.bool (decide (s.H.length=0)))∧w=w':=by
 obtain⟨a,c,hb,_⟩:=h.box;obtain⟨jO,ch,rfl⟩:=h.held.form;have di:w.cell? ⟨pv,3,none⟩=some (.slice jO s.H.length ch):=hb.cell 3;have hd:((s.H.length:Int)==0)=decide (s.H.length=0):=by rw [Bool.eq_iff_iff];simp
 have dI:=af hd;obtain⟨y,hy⟩:=ai ((s.H.length:Int)==0);rw [←dI.out,hy];clear hb h hd;go_enter Tryz.func12,Tryz.ntmps12
 go_wp2_with fail
 go_ret;exact⟨by rw [←hy];try rfl,by trivial⟩
theorem Np (h:fA W w pv n hv s):Calls Tryz.prog 13 #[.pointer ↑pv] w fun e w'=>e= .returned ↑s.seq∧w=w':=by
 obtain⟨a,c,hb,_⟩:=h.box;have k2:w.cell? ⟨pv,2,none⟩=some ↑s.seq:=hb.cell 2;clear hb h;go_enter Tryz.func13,Tryz.ntmps13
 go_wp2_with fail
 go_ret;exact⟨by trivial,by trivial⟩
theorem ak5 (h:fA W w pv n hv s):Calls Tryz.prog 19 #[.pointer ↑pv] w fun e w'=>e= .returned ↑s.H.length∧w=w':=by
 obtain⟨a,c,hb,_⟩:=h.box;obtain⟨jO,ch,rfl⟩:=h.held.form;have di:w.cell? ⟨pv,3,none⟩=some (.slice jO s.H.length ch):=hb.cell 3;clear hb h;go_enter Tryz.func19,Tryz.ntmps19
 go_wp2_with fail
 go_ret;exact⟨by trivial,by trivial⟩
theorem Nq (h:fA W w pv n hv s) (hl:s.V.length≤255) {K:Nat} (hK:fX s.V K) (n5:K≤800000):Calls Tryz.prog 15 #[.pointer ↑pv] w fun e w'=>∃v',e= .returned (.agg #[v'])∧cg ey bS w' w.heap.size v' s.V∧Below w.heap.size w w':=by
 have hba:=Below.aI w (.cells #[.slice none 0 0] 43);obtain⟨a,c,hb,fj⟩:=(h.below hba).box;have bg:=af (Dz fj hl hK (by omega));have aG:=af hb;have cK:=af hba;have bU:Hid (av (w.alloc (.cells #[.slice none 0 0] 43)) w.heap.size 43 #[.slice none 0 0]):=af (av.new _ _ _);clear h hba hb fj hK;go_enter Tryz.func15,Tryz.ntmps15
 go_upto_region 1 with(fail)
 obtain⟨gr,fe⟩:=ai w.heap.size;have bL:=af (Nat.le_of_eq fe);rw [fe]at bU⊢;clear fe;generalize w.alloc (.cells #[.slice none 0 0] 43)=w1 at*;have k1:w1.cell? ⟨pv,1,none⟩=some (.slice a s.V.length c):=aG.out.cell 1;go_wp2_with fail
 refine bg.out.mono ?_;rintro e w2 ⟨v',rfl,Fe,hb2⟩;have Tx:=Fe.fh;obtain⟨a2,c2,rfl⟩:=Tx.form;have fY:=bU.out.below hb2;have cu:w2.cell? ↑gr=some (.slice none 0 0):=fY.cell 0;have sU:w2.frozen? ↑gr=false:=fY.frozen 0;have hgt:ck w2 gr 43:=fY.aE;have dD:=af ((Tx.base (B':=w.heap.size) cK.out.size).keep (ct w2 gr 0 (.slice a2 s.V.length c2)) (fun g hg e=>hg.ne hgt (by decide) e) (fun g hg e=>hg.ne hgt (by decide) e));have cH:=af ((ag cK hb2).out.setCell (p:=⟨gr,0,none⟩) bL.out (.slice a2 s.V.length c2));have yb:Hid (av (w2.setCell ↑gr (.slice a2 s.V.length c2)) gr 43 #[.slice a2 s.V.length c2]):=af (fY.aW 0 _);clear Fe Tx fY hgt hb2 bg aG bU cK k1;go_wp2_with fail
 clear cu sU;generalize w2.setCell ↑gr (.slice a2 s.V.length c2)=wf at*;have f0:wf.cell? ↑gr=some (.slice a2 s.V.length c2):=yb.out.cell 0;refine bodyPost_ret (v:= .agg #[.slice a2 s.V.length c2]) (by simp [results,Tryz.results15,go_sem,f0]) rfl ⟨_,rfl,dD.out,cH.out⟩
end
theorem agw (n:Nat):madeCells (Value.agg ke.cells.toArray).cells (n*10)=((List.replicate n ke).flatMap bB.cells).toArray:=by
 apply Array.toList_inj.1;apply List.ext_getElem?;intro j;by_cases hj:j<n*10
 ·have h:=NA bB.cells 10 (fun _=>rfl) (List.replicate n ke) (j / 10) (j % 10) (by simp;omega) (by omega)
  rw [show j / 10*10+j % 10=j by omega,List.getElem_replicate]at h;show _=((List.replicate n ke).flatMap bB.cells)[j]?;rw [h];simp only [madeCells,Array.toList_map,Array.toList_range,List.getElem?_map,List.getElem?_range hj,Option.map_some];have hr:j % 10<10:=Nat.mod_lt _ (by omega);show some ((ke.cells.toArray)[j % 10]!)=_;generalize j % 10=r at hr;have h8:r=0∨r=1∨r=2∨r=3∨r=4∨r=5∨r=6∨r=7∨r=8∨r=9:=by omega
  rcases h8 with rfl|rfl|rfl|rfl|rfl|rfl|rfl|rfl|rfl|rfl<;>rfl
 ·have h1:(madeCells (Value.agg ke.cells.toArray).cells (n*10)).toList.length=n*10:=by rw [Array.length_toList,size_madeCells]
  rw [List.getElem?_eq_none (by omega),List.getElem?_eq_none (by
   show((List.replicate n ke).flatMap bB.cells).length≤j;rw [mK bB.cells 10 (fun _=>rfl)];simp;omega)]
theorem cg.made {Z:bl bB} {Y:bl aB} (w:World) (hZ:Z.cells=bB.cells) (hm:Z.m=10) (n:Nat) (hn:n≤255):cg Z Y (w.alloc (.cells ((List.replicate n ke).flatMap bB.cells).toArray Z.t)) w.heap.size (.slice ↑w.heap.size n n) (List.replicate n (vI,vI)):=by
 refine⟨List.replicate n ke,?_,by simp,fun j p x hp hx=>?_⟩
 ·unfold bl.Row
  rw [hZ,hm,List.length_replicate];have hfl:((List.replicate n ke).flatMap bB.cells).length=n*10:=by rw [mK bB.cells 10 (fun _=>rfl),List.length_replicate]
  exact⟨hfl,.inr ⟨w.heap.size,n,_,rfl,Nat.le_refl _,av.new w _ _,Nat.le_refl _,by unfold maxLen;omega,by rw [List.size_toArray,hfl],by rw [List.take_of_length_le (by rw [hfl];exact Nat.le_refl _)]⟩⟩
 ·rw [List.getElem?_replicate]at hp hx
  split at hp
  ·injection hp with hp
   rw [if_pos (by assumption)]at hx;injection hx with hx;subst hp;subst hx;exact⟨bV.zero _ _,bV.zero _ _⟩
  ·cases hp
theorem agx:(Tryz.prog.info? 50).map (fun i=>(i.zero,i.size,i.bytes))=some (some (.agg ke.cells.toArray),10,112):=by kernel_rfl
theorem X9 {n:Nat} (h:n≤6):nR n≤21:=by
 have:n=0∨n=1∨n=2∨n=3∨n=4∨n=5∨n=6:=by omega
 rcases this with rfl|rfl|rfl|rfl|rfl|rfl|rfl<;>decide
theorem Xn (p:Prod) (w:World) (hp:gM w p) (hz:cR p=0):
 Calls Tryz.prog 10 #[p.agg] w fun e w'=>∃pv,e= .returned (.tuple #[.pointer (some ⟨pv,0,none⟩),.int .i64 0])∧fA w w' pv (nR p.months.length) (.slice none 0 0) (rM (nR p.months.length)):=by
 unfold Prod.agg Prod.cells;have fE:Hid (Below w.heap.size w (w.alloc (.cells #[.string p.code,.slice p.ma p.months.length p.mc,↑p.tick,↑p.low,↑p.high,↑p.wide,↑p.rule,↑p.top,↑p.least,↑p.part,.slice p.sa p.settle.length p.sc] 25))):=af (Below.aI _ _);have DH:Hid (PC (w.alloc (.cells #[.string p.code,.slice p.ma p.months.length p.mc,↑p.tick,↑p.low,↑p.high,↑p.wide,↑p.rule,↑p.top,↑p.least,↑p.part,.slice p.sa p.settle.length p.sc] 25)) w.heap.size p):=af (PC.new w p);have m7:Hid (w.heap.size<(w.alloc (.cells #[.string p.code,.slice p.ma p.months.length p.mc,↑p.tick,↑p.low,↑p.high,↑p.wide,↑p.rule,↑p.top,↑p.least,↑p.part,.slice p.sa p.settle.length p.sc] 25)).heap.size):=af (by simp);have wU:=af (hp.below fE.out);have dn:=T6 p _ wU.out;unfold Prod.agg Prod.cells at dn;rw [hz]at dn;have yp:=af dn;have uI:=X9 (pI hz).2;have Jt:Hid (countP p=nR p.months.length):=af (if_pos hz);obtain⟨i0,hi,dm,hz1,eg⟩:=info_parts agx;have hmk:=fun w=>run_makeSlice (P:=Tryz.prog) w 41 50 i0 _ Tryz.underlying41 hi dm .i64 .i64 (nR p.months.length) (nR p.months.length) (by omega) (by omega) (by rw [hz1];omega) (by rw [eg];omega) (by omega);rw [hz1,Int.toNat_natCast,agw]at hmk;have D4:=af hmk;obtain⟨n,hn⟩:=ai (nR p.months.length);rw [hn]at D4 Jt uI⊢;clear hp dn hz hi dm hz1 eg hmk hn;go_enter Tryz.func10,Tryz.ntmps10
 go_wp2_with fail
 refine yp.out.mono ?_;rintro e w1 ⟨rfl,hb1⟩;have bA:=ag fE hb1;obtain⟨b0,b1,b2,b3,b4,bk,bw,bn,bC,bD,bu⟩:=DH.out.below hb1 m7.out;have zw:=af (wU.out.below hb1);have eZ:w.heap.size<w1.heap.size:=Nat.lt_of_lt_of_le m7.out hb1.size;have jZ:=afY p w1 zw.out;unfold Prod.agg Prod.cells at jZ;rw [Jt.out]at jZ;have oc:=af jZ;clear jZ hb1 yp;go_wp2_with fail
 refine oc.out.mono ?_;rintro e w2 ⟨rfl,hb2⟩;have aS:=ag bA hb2;clear hb2 oc b0 b1 b2 b3 b4 bk bw bn bC bD bu zw bA eZ fE DH m7 wU;have hmk:=D4.out w2;go_wp2_with fail
 go_ret2
 have fj:=cg.made (Z:=ey) (Y:=bS) w2 rfl rfl n (by omega);have hb3:=Below.aI w2 (.cells ((List.replicate n ke).flatMap bB.cells).toArray 50);have hb4:=Below.aI (w2.alloc (.cells ((List.replicate n ke).flatMap bB.cells).toArray 50)) (.cells #[↑n,.slice ↑w2.heap.size n n,.int .i64 0,.slice none 0 0] 90);have aT:=av.new (w2.alloc (.cells ((List.replicate n ke).flatMap bB.cells).toArray 50)) 90 #[↑n,.slice ↑w2.heap.size n n,.int .i64 0,.slice none 0 0];rw [show(w2.alloc (.cells ((List.replicate n ke).flatMap bB.cells).toArray 50)).heap.size=w2.heap.size+1 by simp]at aT;have hlen:(rM n).V.length=n:=List.length_replicate;have fD:=aS.out.size;refine⟨_,rfl,⟨some ⟨w2.heap.size,0,none⟩,n,?_,?_⟩,bl.Row.nil _ _,by omega,aS.out.trans ((hb3.trans (hb4.mono hb3.size)).mono aS.out.size)⟩
 ·rw [hlen];exact aT
 ·rw [hlen];exact(fj.below hb4).base fD
structure sM (W w:World) (pw:Nat) (hw:Value) (s:ig):Prop where
 box:∃(a:Option Addr) (c:Nat),av w pw 116 #[.slice a s.V.length c,↑s.seq,hw]∧cg eJ bK w W.heap.size (.slice a s.V.length c) s.V
 held:hH.Row w W.heap.size hw s.H
 base:W.heap.size≤pw
 aJ:Below W.heap.size W w
section
variable {W w w':World} {pw:Nat} {hw:Value} {s:ig}
theorem sM.keep {F:Nat→Prop} (h:sM W w pw hw s) (hk:aK F w w') (hp:¬F pw) (hh:∀g,hw.ownBlock=some g→¬F g) (hy:∀g,ck w g eJ.t→¬F g) (hz:∀g,ck w g bK.t→¬F g) (hF:∀g,F g→W.heap.size≤g):sM W w' pw hw s:=by
 obtain⟨⟨a,c,h1,h2⟩,h3,h4,h5⟩:=h;exact⟨⟨a,c,h1.keeps hk hp,h2.keep hk hy hz⟩,h3.Bd hk hh,h4,h5.trans (hk.below hF h5.size)⟩
theorem sM.below (h:sM W w pw hw s) (hb:Below w.heap.size w w'):sM W w' pw hw s:=
 h.keep (F:=fun _=>False) (Below.keeps hb) (fun x=>x) (fun _ _ x=>x) (fun _ _ x=>x) (fun _ _ x=>x) (fun _ x=>x.elim)
theorem sM.Sb (h:sM W w pw hw s) (q:Int):sM W (w.setCell ⟨pw,1,none⟩ ↑q) pw hw ⟨s.V,q,s.H⟩:=by
 obtain⟨⟨a,c,h1,h2⟩,h3,h4,h5⟩:=h;have hk:=ct w pw 1 ↑q;have hb:=h1.aW 1 ↑q;simp only [List.setIfInBounds_toArray,List.set_cons_zero,List.set_cons_succ]at hb;exact⟨⟨a,c,hb,h2.keep hk (fun g hg e=>hg.ne h1.aE (by decide) e) (fun g hg e=>hg.ne h1.aE (by decide) e)⟩,h3.keep hk (fun g hg e=>hg.ne h1.aE (by decide) e),h4,h5.setCell (p:=⟨pw,1,none⟩) h4 _⟩
theorem sM.Sc {V:bG} {a:Option Addr} {c:Nat} (h:sM W w pw hw s) (kf:cg eJ bK w W.heap.size (.slice a V.length c) V):sM W (w.setCell ↑pw (.slice a V.length c)) pw hw ⟨V,s.seq,s.H⟩:=by
 obtain⟨⟨a0,c0,h1,h2⟩,h3,h4,h5⟩:=h;have hk:=ct w pw 0 (.slice a V.length c);have hb:=h1.aW 0 (.slice a V.length c);simp only [List.setIfInBounds_toArray,List.set_cons_zero]at hb;exact⟨⟨a,c,hb,kf.keep hk (fun g hg e=>hg.ne h1.aE (by decide) e) (fun g hg e=>hg.ne h1.aE (by decide) e)⟩,h3.keep hk (fun g hg e=>hg.ne h1.aE (by decide) e),h4,h5.setCell (p:=⟨pw,0,none⟩) h4 _⟩
theorem sM.Ql {H:List aF} {hw':Value} (h:sM W w pw hw s) (hr:hH.Row w W.heap.size hw' H):sM W (w.setCell ⟨pw,2,none⟩ hw') pw hw' ⟨s.V,s.seq,H⟩:=by
 obtain⟨⟨a,c,h1,h2⟩,h3,h4,h5⟩:=h;have hk:=ct w pw 2 hw';have hb:=h1.aW 2 hw';simp only [List.setIfInBounds_toArray,List.set_cons_zero,List.set_cons_succ]at hb;exact⟨⟨a,c,hb,h2.keep hk (fun g hg e=>hg.ne h1.aE (by decide) e) (fun g hg e=>hg.ne h1.aE (by decide) e)⟩,hr.keep hk (fun g hg e=>hg.ne h1.aE (by decide) e),h4,h5.setCell (p:=⟨pw,2,none⟩) h4 _⟩
theorem aiB (p:Prod):∃n:Nat,countP p=n∧n≤21:=by
 unfold countP;split
 ·rename_i h;exact⟨_,rfl,X9 (pI h).2⟩
 ·exact⟨0,rfl,by decide⟩
end
theorem bl.Row.Gv {α:Type} {Y:bl α} {w:World} {B:Nat} {v:Value} {L:List α} (h:Y.Row w B v L) (hv:v.ownBlock≠none):∃g cap cur,v= .slice (some ⟨g,0,none⟩) L.length cap∧B≤g∧av w g Y.t cur:=by
 rcases h.2 with⟨rfl,h0⟩|⟨g,cap,cur,hv,hb,hh,_⟩
 ·exact absurd rfl hv
 ·exact⟨g,cap,cur,hv,hb,hh⟩
theorem bl.s9 {α:Type} (Y:bl α) {w:World} {ops:Array Oper} {o:Oper} {a:Act} {K:Act→World→Prop} {Q:Exit→Act→World→Prop} {E:Prop} (hgd:o.guard=none) (s x:Operand)
 (ho:o.op= .call {callee:= .builtin .append,args:=#[s,x],argTypes:=#[Y.ts,Y.ts]})
 (B g0 c0 n m:Nat) (L:List α) (hn:L.length=n) (hs:a.eval s= .slice ↑g0 n c0) (hown:Y.Row w B (.slice ↑g0 n c0) L)
 (b off c:Nat) (M:List α) (hm:M.length=m) (hx:a.eval x= .slice (some ⟨b,off,none⟩) m c) (hr:Y.fR w (some ⟨b,off,none⟩) M)
 (nm:Nat) (hnm:n+m=nm) (hle:n+m≤1000000) (hbase:B≤w.heap.size)
 (h:∀g cap w',Y.Row w' B (.slice (some ⟨g,0,none⟩) nm cap) (L++M)→w.grownBy w' (some g0)→(g=g0∨g=w.heap.size)→K (a.put o.dst (.slice (some ⟨g,0,none⟩) nm cap)) w'):
 if Region.wanted o (yielded ops a.tmps)=true then Oper.wp Tryz.prog o a w K Q else E:=by
 subst hn;subst hm;subst hnm;have hw:Region.wanted o (yielded ops a.tmps)=true:=by simp [Region.wanted,hgd]
 rw [if_pos hw];obtain⟨v',w',hrun,h2,h3,h5⟩:=Y.KH o.type hown ⟨b,off,none⟩ c M ⟨b,off,rfl⟩ hr hle hbase
 obtain⟨g,cap,cur,rfl,_,_⟩:=h2.Gv (by
  rcases h5 with h5|h5
  ·rw [h5];simp [Value.ownBlock]
  ·rw [h5];simp)
 unfold Oper.wp execOp;simp only [ho,resolve,invoke,builtin,Sem.run_bind,Sem.run_pure,Result.andThen_ok,List.map_toArray,List.map_cons,List.map_nil,hs,hx,hrun];rw [List.length_append]at h2⊢;refine h g cap w' h2 h3 ?_;rcases h5 with h5|h5
 ·have h6:some g=some g0:=h5
  injection h6 with h6;exact .inl h6
 ·have h6:some g=some w.heap.size:=h5
  injection h6 with h6;exact .inr h6
structure am4 (W w wr:World) (pw:Nat) (hw:Value) (s:ig) (k:Nat) (hw':Value) (V:bG) (q:Int) (H:List aF):Prop where
 rv:sM W wr pw hw' ⟨V,q,H⟩
 kN:aK (fun g=>g=pw) w wr
 own:∀g,hw'.ownBlock=some g→hw.ownBlock=some g∨w.heap.size≤g
 qO:RX H.length ⟨V,q,H⟩=RX s.H.length s
 len:H.length≤k
 vl:V.length=s.V.length
 oH:xU V
 sz:∃j,fX V j∧j+H.length≤500000
 JI:∀m∈H,Bc s.V.length m
 q0:0≤q
 q1:q≤9223372036854775807
end Go.Proofs.YtmaijkoopjocdaaGreat
namespace Go.Proofs.YtmaijkoopjocdaaGreat
open Go Go.Lib
theorem ab9:∀(k:Nat) (n:Int),0≤n→n<256^k→leZ (jo n k)=n
 |0,n,h0,h1=>by rw [Int.pow_zero]at h1;rw [jo,aly];omega
 |k+1,n,h0,h1=>by
  rw [Int.pow_succ]at h1;have:=ab9 k (n / 256) (by omega) (by omega);rw [jo,leZ,this];omega
def q6 (z:Int):List Int:=jo (z % 18446744073709551616) 8
theorem KN (z:Int):(q6 z).length=8:=uu _ 8
theorem Io (z:Int):∀x∈q6 z,isByte x:=Oe _ 8
theorem acd (l t:List Int):(⟨l++t,false⟩:bH).take l.length=(l,⟨t,false⟩):=by
 unfold bH.take;rw [if_neg (by simp)];simp
theorem Dy {z:Int} (h:eB z) (t:List Int):(⟨q6 z++t,false⟩:bH).long=(z,⟨t,false⟩):=by
 have h1:=acd (q6 z) t;rw [KN]at h1;unfold bH.long bH.num;rw [h1];have h3:(256:Int)^8=18446744073709551616:=by decide
 have h2:leZ (q6 z)=z % 18446744073709551616:=ab9 8 _ (by omega) (by rw [h3];omega);show(IntKind.i64.wrap (leZ (q6 z)),(⟨t,false⟩:bH))=_;rw [h2]
 congr 1
 rw [IntKind.wrap_i64];unfold eB at h;omega
theorem F1 (x:Int) (t:List Int):(⟨x::t,false⟩:bH).num 1=(x,⟨t,false⟩):=by
 have h1:=acd [x] t;rw [List.length_singleton]at h1;unfold bH.num;rw [show x::t= [x]++t from rfl,h1]
 congr 1
 show x+256*0=x;omega
def fL (m:aF):List Int:=q6 m.seq++(m.inst % 256::m.side % 256::(q6 m.ap++(q6 m.aq++(q6 m.count++ [if m.imp=true then 1 else 0]))))
theorem Nl (m:aF):(fL m).length=35:=by
 unfold fL;simp only [List.length_append,List.length_cons,KN,List.length_nil]
theorem EO (m:aF):∀x∈fL m,isByte x:=by
 intro x hx;unfold fL at hx;simp only [List.mem_append,List.mem_cons,List.not_mem_nil,or_false]at hx;rcases hx with h|h|h|h|h|h|h
 ·exact Io _ x h
 ·unfold isByte;omega
 ·unfold isByte;omega
 ·exact Io _ x h
 ·exact Io _ x h
 ·exact Io _ x h
 ·rw [h];unfold isByte;split<;>omega
theorem Nj {m:aF} (ho:m.Gl) (hs:m.side=1∨m.side=2):pg (fL m)=some m:=by
 obtain⟨q,i,d,p,t,c,im⟩:=m;obtain⟨h1,h2,h3,h4,h5⟩:=ho;dsimp only at h1 h2 h3 h4 h5 hs;have e2:i % 256=i:=by omega
 have bJ:d % 256=d:=by omega
 have hr:=Uv (Dy h1 (i % 256::d % 256::(q6 p++(q6 t++(q6 c++ [if im=true then 1 else 0]))))) (F1 _ _) (F1 _ _) (Dy h3 _) (Dy h4 _) (Dy h5 _) (F1 _ []);have:=Uw (b:=fL ⟨q,i,d,p,t,c,im⟩) hr;rw [this];unfold Co;rw [e2,bJ];rw [if_neg]
 ·cases im<;>rfl
 ·rintro(h|h|h)
  ·simp at h
  ·cases im<;>simp at h
  ·exact h hs
def nw (l:aB):List Int:=q6 l.ap++(q6 l.aq++q6 l.count)
def mW (x:aX):List Int:=((x.lv.length:Int) % 256)::(x.lv.flatMap nw++(if x.has=true then 1::nw x.im else [0]))
def tO (p:aX×aX):List Int:=mW p.1++mW p.2
def r0 (V:bG) (q:Int):List Int:=q6 q++(((V.length:Int) % 256)::V.flatMap tO)
def lK (V:bG) (q:Int):List Int:=r0 V q++r3 (rB (r0 V q))
def OL (l:aB):Prop:=eB l.ap∧eB l.aq∧eB l.count
def TQ (x:aX):Prop:=(∀l∈x.lv,OL l)∧OL x.im
def QW (V:bG):Prop:=∀p∈V,TQ p.1∧TQ p.2
theorem R3 (l:aB):(nw l).length=24:=by
 unfold nw;simp only [List.length_append,KN]
theorem ace (l:aB):∀x∈nw l,isByte x:=by
 intro x hx;unfold nw at hx;simp only [List.mem_append]at hx;rcases hx with h|h|h<;>exact Io _ x h
theorem acf (s:aX):∀x∈mW s,isByte x:=by
 intro x hx;unfold mW at hx;rcases List.mem_cons.1 hx with h|h
 ·rw [h];unfold isByte;omega
 ·rcases List.mem_append.1 h with h|h
  ·obtain⟨l,_,hl⟩:=List.mem_flatMap.1 h
   exact ace l x hl
  ·split at h
   ·rcases List.mem_cons.1 h with h|h
    ·rw [h];unfold isByte;omega
    ·exact ace _ x h
   ·rw [List.mem_singleton]at h;rw [h];unfold isByte;omega
theorem alz (p:aX×aX):∀x∈tO p,isByte x:=by
 intro x hx;rcases List.mem_append.1 hx with h|h
 ·exact acf _ x h
 ·exact acf _ x h
theorem Zl (V:bG) (q:Int):∀x∈r0 V q,isByte x:=by
 intro x hx;rcases List.mem_append.1 hx with h|h
 ·exact Io _ x h
 ·rcases List.mem_cons.1 h with h|h
  ·rw [h];unfold isByte;omega
  ·obtain⟨p,_,hp⟩:=List.mem_flatMap.1 h
   exact alz p x hp
theorem alA (c:Int):∀x∈r3 c,isByte x:=by
 intro x hx;rw [SS]at hx;exact Oe _ _ x hx
theorem alj (V:bG) (q:Int):∀x∈lK V q,isByte x:=by
 intro x hx;rcases List.mem_append.1 hx with h|h
 ·exact Zl V q x h
 ·exact alA _ x h
theorem alB (V:bG) (q:Int):4≤(lK V q).length:=by
 unfold lK;rw [List.length_append];show 4≤(r0 V q).length+4;omega
theorem KO {α:Type} {f:α→List Int} {k:Nat}:∀{l:List α},(∀x∈l,(f x).length≤k)→(l.flatMap f).length≤l.length*k
 | [],_=>by simp
 |x::t,h=>by
  rw [List.flatMap_cons,List.length_append,List.length_cons,Nat.succ_mul];have h1:=h x (List.mem_cons_self ..);have h2:=KO (f:=f) (k:=k) (l:=t) (fun y hy=>h y (List.mem_cons_of_mem _ hy));omega
theorem KP {s:aX} {k:Nat} (h:s.lv.length≤k):(mW s).length≤26+k*24:=by
 unfold mW;rw [List.length_cons,List.length_append];have h1:=KO (f:=nw) (k:=24) (l:=s.lv) (fun x _=>Nat.le_of_eq (R3 x))
 have h2:(if s.has=true then 1::nw s.im else [0]:List Int).length≤25:=by
  split
  ·rw [List.length_cons,R3];omega
  ·decide
 have h3:s.lv.length*24≤k*24:=Nat.mul_le_mul_right 24 h;omega
theorem ak7 {V:bG} {k:Nat} (q:Int) (h:fX V k):(r0 V q).length≤9+V.length*(52+k*48):=by
 unfold r0;rw [List.length_append,List.length_cons,KN]
 have:=KO (f:=tO) (k:=52+k*48) (l:=V) (fun x hx=>by
  have h1:=KP (h x hx).1;have h2:=KP (h x hx).2;unfold tO;rw [List.length_append];omega)
 omega
theorem acg {l:aB} (h:OL l) (t:List Int):mY ⟨nw l++t,false⟩=(l,⟨t,false⟩):=by
 obtain⟨h1,h2,h3⟩:=h;unfold mY nw;rw [List.append_assoc,List.append_assoc];simp only [Dy h1,Dy h2,Dy h3]
theorem ach:∀(L:List aB) (t:List Int),(∀l∈L,OL l)→oX L.length ⟨L.flatMap nw++t,false⟩=(L,⟨t,false⟩)
 | [],t,_=>rfl
 |l::r,t,h=>by
  have h1:=acg (h l (List.mem_cons_self ..)) (r.flatMap nw++t);have h2:=ach r t (fun x hx=>h x (List.mem_cons_of_mem _ hx));rw [List.flatMap_cons,List.append_assoc,List.length_cons];show((mY ⟨nw l++(r.flatMap nw++t),false⟩).1::(oX r.length (mY ⟨nw l++(r.flatMap nw++t),false⟩).2).1,(oX r.length (mY ⟨nw l++(r.flatMap nw++t),false⟩).2).2)=_;rw [h1];dsimp only;rw [h2]
theorem aci {s:aX} (h:TQ s) {side:Int} (hr:ji side s=true) (t:List Int):mm ⟨mW s++t,false⟩=(s,true,⟨t,false⟩):=by
 obtain⟨L,im,has⟩:=s;obtain⟨h1,h2⟩:=h;unfold ji at hr;rw [Bool.and_eq_true,Bool.and_eq_true]at hr;dsimp only at h1 h2 hr;have hl:L.length≤255:=of_decide_eq_true hr.1.2;have e1:((L.length:Int) % 256)=L.length:=by omega
 unfold mm mW;dsimp only;rw [e1,List.cons_append,F1];dsimp only;rw [Int.toNat_natCast,List.append_assoc,ach L _ h1];dsimp only;unfold xH;cases has with
 |true=>
  rw [if_pos rfl,List.cons_append,F1];dsimp only;rw [if_pos rfl,acg h2]
 |false=>
  have hz:im=jD:=of_decide_eq_true hr.2;subst hz;rw [show(if false=true then(1:Int)::nw jD else [0])= [0]from rfl,List.cons_append,F1,List.nil_append];dsimp only;rw [if_neg (by decide)];rfl
theorem acj:∀(V:bG) (t:List Int),QW V→(∀p∈V,ji 1 p.1=true∧ji 2 p.2=true)→m3 V.length ⟨V.flatMap tO++t,false⟩=(V,true,⟨t,false⟩)
 | [],t,_,_=>rfl
 |p::r,t,h,hr=>by
  have g1:=h p (List.mem_cons_self ..);have g2:=hr p (List.mem_cons_self ..);have h1:=aci g1.1 g2.1 (mW p.2++(r.flatMap tO++t));have h2:=aci g1.2 g2.2 (r.flatMap tO++t);have h3:=acj r t (fun x hx=>h x (List.mem_cons_of_mem _ hx)) (fun x hx=>hr x (List.mem_cons_of_mem _ hx));rw [List.flatMap_cons,List.append_assoc,List.length_cons];have e:tO p++(r.flatMap tO++t)=mW p.1++(mW p.2++(r.flatMap tO++t)):=by unfold tO;rw [List.append_assoc]
  rw [e];unfold m3;simp only [h1,h2,h3];rfl
theorem alC {V:bG} {q:Int} (hv:QW V) (hr:ql V=true) (hq:eB q):ld (lK V q)=(0,V,q):=by
 have hr':=hr;unfold ql at hr';rw [Bool.and_eq_true]at hr';have hl:V.length≤255:=of_decide_eq_true hr'.2
 have ha:∀p∈V,ji 1 p.1=true∧ji 2 p.2=true:=by
  intro p hp;have:=List.all_eq_true.1 hr'.1 p hp;rw [Bool.and_eq_true]at this;exact this
 have e1:(lK V q).length=(r0 V q).length+4:=by unfold lK;rw [List.length_append];rfl
 have e2:(lK V q).take ((lK V q).length-4)=r0 V q:=by
  rw [e1,Nat.add_sub_cancel];unfold lK;exact List.take_left' rfl
 have bJ:(lK V q).drop ((lK V q).length-4)=r3 (rB (r0 V q)):=by
  rw [e1,Nat.add_sub_cancel];unfold lK;exact List.drop_left' rfl
 have cV:(⟨r0 V q,false⟩:bH).long=(q,⟨((V.length:Int) % 256)::V.flatMap tO,false⟩):=Dy hq _;have su:((V.length:Int) % 256)=V.length:=by omega
 have vN:=acj V [] hv ha;rw [List.append_nil]at vN;unfold ld;rw [if_neg (by have:=alB V q;omega),e2,bJ,if_neg (fun h=>h rfl),cV];simp only [F1,su,Int.toNat_natCast,vN];rw [if_pos ⟨trivial,trivial,trivial,hr⟩]
end Go.Proofs.YtmaijkoopjocdaaGreat
