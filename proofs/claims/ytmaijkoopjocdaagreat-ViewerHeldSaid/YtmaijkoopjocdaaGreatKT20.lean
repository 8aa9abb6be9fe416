import Derived.Test.YtmaijkoopjocdaaGreatKT19
set_option maxRecDepth 100000
set_option maxHeartbeats 64000000
namespace Go.Proofs.YtmaijkoopjocdaaGreat
open Go.RowKit Go.Lib
theorem adR (n:Nat):madeCells (Value.agg k9.cells.toArray).cells (n*10)=((List.replicate n k9).flatMap bz.cells).toArray:=by
 apply Array.toList_inj.1;apply List.ext_getElem?;intro j;by_cases hj:j<n*10
 ·have h:=LN bz.cells 10 (fun _=>rfl) (List.replicate n k9) (j / 10) (j % 10) (by simp;omega) (by omega)
  rw [show j / 10*10+j % 10=j by omega,List.getElem_replicate]at h;show _=((List.replicate n k9).flatMap bz.cells)[j]?;rw [h];simp only [madeCells,Array.toList_map,Array.toList_range,List.getElem?_map,List.getElem?_range hj,Option.map_some];have hr:j % 10<10:=Nat.mod_lt _ (by omega);show some ((k9.cells.toArray)[j % 10]!)=_;generalize j % 10=r at hr;have h8:r=0∨r=1∨r=2∨r=3∨r=4∨r=5∨r=6∨r=7∨r=8∨r=9:=by omega
  rcases h8 with rfl|rfl|rfl|rfl|rfl|rfl|rfl|rfl|rfl|rfl<;>rfl
 ·have h1:(madeCells (Value.agg k9.cells.toArray).cells (n*10)).toList.length=n*10:=by rw [Array.length_toList,size_madeCells]
  rw [List.getElem?_eq_none (by omega),List.getElem?_eq_none (by
   show((List.replicate n k9).flatMap bz.cells).length≤j;rw [lQ bz.cells 10 (fun _=>rfl)];simp;omega)]
theorem cl.made {Z:aY bz} {Y:aY ax} (w:World) (hZ:Z.cells=bz.cells) (hm:Z.m=10) (n:Nat) (hn:n≤255):cl Z Y (w.alloc (.cells ((List.replicate n k9).flatMap bz.cells).toArray Z.t)) w.heap.size (.slice (some ⟨w.heap.size,0,none⟩) n n) (List.replicate n (tJ,tJ)):=by
 refine⟨List.replicate n k9,?_,by simp,fun j p x hp hx=>?_⟩
 ·unfold aY.Row
  rw [hZ,hm,List.length_replicate];have hfl:((List.replicate n k9).flatMap bz.cells).length=n*10:=by rw [lQ bz.cells 10 (fun _=>rfl),List.length_replicate]
  exact⟨hfl,.inr ⟨w.heap.size,n,_,rfl,Nat.le_refl _,aj.new w _ _,Nat.le_refl _,by unfold maxLen;omega,by rw [List.size_toArray,hfl],by rw [List.take_of_length_le (by rw [hfl];exact Nat.le_refl _)]⟩⟩
 ·rw [List.getElem?_replicate]at hp hx
  split at hp
  ·injection hp with hp
   rw [if_pos (by assumption)]at hx;injection hx with hx;subst hp;subst hx;exact⟨bN.zero _ _,bN.zero _ _⟩
  ·cases hp
theorem adS:(Tryz.prog.info? 50).map (fun i=>(i.zero,i.size,i.bytes))=some (some (.agg k9.cells.toArray),10,112):=by kernel_rfl
theorem Wg {n:Nat} (h:n≤6):mZ n≤21:=by
 have:n=0∨n=1∨n=2∨n=3∨n=4∨n=5∨n=6:=by omega
 rcases this with rfl|rfl|rfl|rfl|rfl|rfl|rfl<;>decide
theorem Vu (p:Prod) (w:World) (hp:fZ w p) (hz:cz p=0):
 Calls Tryz.prog 10 #[p.agg] w fun e w'=>∃pv,e= .returned (.tuple #[.pointer (some ⟨pv,0,none⟩),.int .i64 0])∧fq w w' pv (mZ p.months.length) (.slice none 0 0) (qY (mZ p.months.length)):=by
 unfold Prod.agg Prod.cells;have e3:Hid (Below w.heap.size w (w.alloc (.cells #[.string p.code,.slice p.ma p.months.length p.mc,.int .i64 p.tick,.int .i64 p.low,.int .i64 p.high,.int .i64 p.wide,.int .i64 p.rule,.int .i64 p.top,.int .i64 p.least,.int .i64 p.part,.slice p.sa p.settle.length p.sc] 25))):=af (Below.aA _ _);have BR:Hid (PC (w.alloc (.cells #[.string p.code,.slice p.ma p.months.length p.mc,.int .i64 p.tick,.int .i64 p.low,.int .i64 p.high,.int .i64 p.wide,.int .i64 p.rule,.int .i64 p.top,.int .i64 p.least,.int .i64 p.part,.slice p.sa p.settle.length p.sc] 25)) w.heap.size p):=af (PC.new w p);have kV:Hid (w.heap.size<(w.alloc (.cells #[.string p.code,.slice p.ma p.months.length p.mc,.int .i64 p.tick,.int .i64 p.low,.int .i64 p.high,.int .i64 p.wide,.int .i64 p.rule,.int .i64 p.top,.int .i64 p.least,.int .i64 p.part,.slice p.sa p.settle.length p.sc] 25)).heap.size):=af (by simp);have uQ:=af (hp.below e3.out);have cN:=Sf p _ uQ.out;unfold Prod.agg Prod.cells at cN;rw [hz]at cN;have wC:=af cN;have sQ:=Wg (oC hz).2;have Hw:Hid (countP p=mZ p.months.length):=af (if_pos hz);obtain⟨i0,hi,cQ,hz1,dG⟩:=info_parts adS;have hmk:=fun w=>run_makeSlice (P:=Tryz.prog) w 41 50 i0 _ Tryz.underlying41 hi cQ .i64 .i64 (mZ p.months.length) (mZ p.months.length) (by omega) (by omega) (by rw [hz1];omega) (by rw [dG];omega) (by omega);rw [hz1,Int.toNat_natCast,adR]at hmk;have Cb:=af hmk;obtain⟨n,hn⟩:∃n,mZ p.months.length=n:=⟨_,rfl⟩;rw [hn]at Cb Hw sQ⊢;clear hp cN hz hi cQ hz1 dG hmk hn;go_enter Tryz.func10,Tryz.ntmps10
 go_wp2_with fail
 refine wC.out.mono ?_;rintro e w1 ⟨rfl,hb1⟩;have bD:=af (e3.out.trans (hb1.mono e3.out.size));obtain⟨b0,b1,b2,b3,b4,aW,bp,aX,bq,bt,bh⟩:=BR.out.below hb1 kV.out;have xL:=af (uQ.out.below hb1);have dz:w.heap.size<w1.heap.size:=Nat.lt_of_lt_of_le kV.out hb1.size;have jh:=adj p w1 xL.out;unfold Prod.agg Prod.cells at jh;rw [Hw.out]at jh;have nr:=af jh;clear jh hb1 wC;go_wp2_with fail
 refine nr.out.mono ?_;rintro e w2 ⟨rfl,hb2⟩;have aT:=af (bD.out.trans (hb2.mono bD.out.size));clear hb2 nr b0 b1 b2 b3 b4 aW bp aX bq bt bh xL bD dz e3 BR kV uQ;have hmk:=Cb.out w2;go_wp2_with fail
 go_ret2
 have fh:=cl.made (Z:=ei) (Y:=bL) w2 rfl rfl n (by omega);have hb3:=Below.aA w2 (.cells ((List.replicate n k9).flatMap bz.cells).toArray 50);have hb4:=Below.aA (w2.alloc (.cells ((List.replicate n k9).flatMap bz.cells).toArray 50)) (.cells #[.int .i64 n,.slice (some ⟨w2.heap.size,0,none⟩) n n,.int .i64 0,.slice none 0 0] 90);have aP:=aj.new (w2.alloc (.cells ((List.replicate n k9).flatMap bz.cells).toArray 50)) 90 #[.int .i64 n,.slice (some ⟨w2.heap.size,0,none⟩) n n,.int .i64 0,.slice none 0 0];rw [show(w2.alloc (.cells ((List.replicate n k9).flatMap bz.cells).toArray 50)).heap.size=w2.heap.size+1 by simp]at aP;have hlen:(qY n).V.length=n:=List.length_replicate;have ic:=aT.out.size;refine⟨_,rfl,⟨some ⟨w2.heap.size,0,none⟩,n,?_,?_⟩,aY.Row.nil _ _,by omega,aT.out.trans ((hb3.trans (hb4.mono hb3.size)).mono aT.out.size)⟩
 ·rw [hlen];exact aP
 ·rw [hlen];exact(fh.below hb4).base ic
structure q8 (W w:World) (pw:Nat) (hw:Value) (s:jn):Prop where
 box:∃(a:Option Addr) (c:Nat),aj w pw 116 #[.slice a s.V.length c,.int .i64 s.seq,hw]∧cl eF bC w W.heap.size (.slice a s.V.length c) s.V
 held:gb.Row w W.heap.size hw s.H
 base:W.heap.size≤pw
 aF:Below W.heap.size W w
section
variable {W w w':World} {pw:Nat} {hw:Value} {s:jn}
theorem q8.keep {F:Nat→Prop} (h:q8 W w pw hw s) (hk:aD F w w') (hp:¬F pw) (hh:∀g,hw.ownBlock=some g→¬F g) (hy:∀g,bV w g eF.t→¬F g) (hz:∀g,bV w g bC.t→¬F g) (hF:∀g,F g→W.heap.size≤g):q8 W w' pw hw s:=by
 obtain⟨⟨a,c,h1,h2⟩,h3,h4,h5⟩:=h;exact⟨⟨a,c,h1.keeps hk hp,h2.keep hk hy hz⟩,h3.zk hk hh,h4,h5.trans (hk.below hF h5.size)⟩
theorem q8.below (h:q8 W w pw hw s) (hb:Below w.heap.size w w'):q8 W w' pw hw s:=
 h.keep (F:=fun _=>False) (Below.keeps hb) (fun x=>x) (fun _ _ x=>x) (fun _ _ x=>x) (fun _ _ x=>x) (fun _ x=>x.elim)
theorem q8.Xq (h:q8 W w pw hw s) (q:Int):q8 W (w.setCell ⟨pw,1,none⟩ (.int .i64 q)) pw hw ⟨s.V,q,s.H⟩:=by
 obtain⟨⟨a,c,h1,h2⟩,h3,h4,h5⟩:=h;have hk:=bS w pw 1 (.int .i64 q);have hb:=h1.aQ 1 (.int .i64 q);simp only [List.setIfInBounds_toArray,List.set_cons_zero,List.set_cons_succ]at hb;exact⟨⟨a,c,hb,h2.keep hk (fun g hg e=>hg.ne h1.aC (by decide) e) (fun g hg e=>hg.ne h1.aC (by decide) e)⟩,h3.keep hk (fun g hg e=>hg.ne h1.aC (by decide) e),h4,h5.setCell (p:=⟨pw,1,none⟩) h4 _⟩
theorem q8.Xr {V:bP} {a:Option Addr} {c:Nat} (h:q8 W w pw hw s) (jq:cl eF bC w W.heap.size (.slice a V.length c) V):q8 W (w.setCell ⟨pw,0,none⟩ (.slice a V.length c)) pw hw ⟨V,s.seq,s.H⟩:=by
 obtain⟨⟨a0,c0,h1,h2⟩,h3,h4,h5⟩:=h;have hk:=bS w pw 0 (.slice a V.length c);have hb:=h1.aQ 0 (.slice a V.length c);simp only [List.setIfInBounds_toArray,List.set_cons_zero]at hb;exact⟨⟨a,c,hb,jq.keep hk (fun g hg e=>hg.ne h1.aC (by decide) e) (fun g hg e=>hg.ne h1.aC (by decide) e)⟩,h3.keep hk (fun g hg e=>hg.ne h1.aC (by decide) e),h4,h5.setCell (p:=⟨pw,0,none⟩) h4 _⟩
theorem q8.OG {H:List aB} {hw':Value} (h:q8 W w pw hw s) (hr:gb.Row w W.heap.size hw' H):q8 W (w.setCell ⟨pw,2,none⟩ hw') pw hw' ⟨s.V,s.seq,H⟩:=by
 obtain⟨⟨a,c,h1,h2⟩,h3,h4,h5⟩:=h;have hk:=bS w pw 2 hw';have hb:=h1.aQ 2 hw';simp only [List.setIfInBounds_toArray,List.set_cons_zero,List.set_cons_succ]at hb;exact⟨⟨a,c,hb,h2.keep hk (fun g hg e=>hg.ne h1.aC (by decide) e) (fun g hg e=>hg.ne h1.aC (by decide) e)⟩,hr.keep hk (fun g hg e=>hg.ne h1.aC (by decide) e),h4,h5.setCell (p:=⟨pw,2,none⟩) h4 _⟩
theorem afG (p:Prod):∃n:Nat,countP p=n∧n≤21:=by
 unfold countP;split
 ·rename_i h;exact⟨_,rfl,Wg (oC h).2⟩
 ·exact⟨0,rfl,by decide⟩
end
end Go.Proofs.YtmaijkoopjocdaaGreat
namespace Go.Proofs.YtmaijkoopjocdaaGreat
open Go.RowKit
def fX:aY ay:=⟨ay.cells,5,fun _=>rfl,ay.jL,by omega,139,179,.agg PJ.cells.toArray,40,Tryz.underlying179,by kernel_rfl,by rfl,by omega⟩
structure gC (W w:World) (pw:Nat) (L:List ay):Prop where
 box:∃a c,aj w pw 181 #[.slice a L.length c]∧fX.Row w W.heap.size (.slice a L.length c) L
 base:W.heap.size≤pw
 aF:Below W.heap.size W w
section
variable {W w w':World} {pw:Nat} {L:List ay}
theorem gC.below (h:gC W w pw L) (hb:Below w.heap.size w w'):gC W w' pw L:=by
 obtain⟨⟨a,c,h1,h2⟩,h3,h4⟩:=h;exact⟨⟨a,c,h1.below hb,h2.below hb⟩,h3,h4.trans (hb.mono h4.size)⟩
theorem Ex (side x y:Int) (w:World):
 Calls Tryz.prog 72 #[.int .i64 side,.int .i64 x,.int .i64 y] w fun e w'=>e= .returned (.bool (cV side x y))∧w=w':=by
 unfold cV;by_cases h:side=1
 ·subst h
  go_enter Tryz.func72,Tryz.ntmps72
  go_wp2_with fail
  go_ret;exact⟨by trivial,by trivial⟩
 ·have hb:(side==1)=false:=by rw [beq_eq_false_iff_ne];exact h
  rw [if_neg h];go_enter Tryz.func72,Tryz.ntmps72
  go_wp2_with fail
  go_ret;exact⟨by trivial,by trivial⟩
theorem Be (h:gC W w pw L) (hl:L.length≤250) (id:Int):
 Calls Tryz.prog 134 #[.pointer (some ⟨pw,0,none⟩),.int .i64 id] w fun e w'=>(∃r,e= .returned (.int .i64 r)∧((r= -1∧L.find? (fun o=>o.id==id)=none)∨∃(k:Nat) (o:ay),r=k∧L[k]? =some o∧o.id=id∧L.find? (fun o=>o.id==id)=some o))∧w=w':=by
 obtain⟨a,c,hb,hr⟩:=h.box;obtain⟨a',c',he,hac,hrd⟩:=hr.rd;injection he with ej _ jK;subst ej jK;have jD:w.cell? ⟨pw,0,none⟩=some (.slice a L.length c):=hb.cell 0;have R:=af hrd;clear hb hr h hrd hac;go_enter Tryz.func134,Tryz.ntmps134
 go_wp2_with fail
 go_loopw [5] (fun i w'=>∃k:Nat,i= .int .i64 k∧k≤L.length∧(L.find? (fun o=>o.id==id)=(L.drop k).find? (fun o=>o.id==id))∧w=w') (fun i _=>L.length-(RowKit.intOf i).toNat)
 case atStart=>exact⟨0,rfl,Nat.zero_le _,rfl,rfl⟩
 case round=>
  obtain⟨k,rfl,hk,hf,rfl⟩:=hrel;have cn:=af hf;clear hf;by_cases hlt:k<L.length
  ·have hlt':(k:Int)<(L.length:Int):=by omega
   obtain⟨o,ho⟩:∃o,L[k]? =some o:=⟨_,List.getElem?_eq_getElem hlt⟩;obtain⟨g,off,rfl,_,hc⟩:=R.out k o ho
   have hd:L.drop k=o::L.drop (k+1):=by
    obtain⟨h1,h2⟩:=lq ho;rw [List.drop_eq_getElem_cons h1,h2]
   have e6:=af ho;obtain⟨oi,vW⟩:∃y,o.id=y:=⟨_,rfl⟩;have c0:w.cell? ⟨g,off+k*5,none⟩=some (.int .i64 oi):=vW▸hc 0 _ rfl;have ID:=af vW;have dD:=af hd;clear hc ho vW hd;by_cases he:oi=id
   ·subst he
    go_wp2_with fail
    go_ret;refine⟨⟨_,by trivial,.inr ⟨k,o,rfl,e6.out,ID.out,?_⟩⟩,by trivial⟩;rw [cn.out,dD.out,List.find?_cons_of_pos (by rw [ID.out];simp)]
   ·have LW:(oi==id)=false:=by rw [beq_eq_false_iff_ne];exact he
    go_wp2_with fail
    go_roundw
    case rel=>exact⟨k+1,by go_num,by omega,by rw [cn.out,dD.out,List.find?_cons_of_neg (by rw [ID.out,LW];simp)],by trivial⟩
    case measure=>simp [RowKit.intOf];omega
  ·go_wp2_with fail
   go_ret;refine⟨⟨_,by trivial,.inl ⟨by trivial,?_⟩⟩,by trivial⟩;rw [cn.out,List.drop_of_length_le (by omega)];rfl
theorem aeB (h:gC W w pw L) (hl:L.length≤250) (id:Int):
 Calls Tryz.prog 107 #[.pointer (some ⟨pw,0,none⟩),.int .i64 id] w fun e w'=>e= .returned (.tuple #[.agg (tV L id).1.cells.toArray,.bool (tV L id).2])∧Below w.heap.size w w':=by
 have gZ:=af (Below.aA w (.cells #[.int .i64 0,.int .i64 0,.int .i64 0,.int .i64 0,.bool false] 139));have H1:=af (h.below gZ.out);have en:Hid (aj (w.alloc (.cells #[.int .i64 0,.int .i64 0,.int .i64 0,.int .i64 0,.bool false] 139)) w.heap.size 139 #[.int .i64 0,.int .i64 0,.int .i64 0,.int .i64 0,.bool false]):=af (aj.new _ _ _);clear h;cases hf:L.find? (fun o=>o.id==id)with
 |none=>
  have bH:Hid (tV L id=(PJ,false)):=af (by unfold tV;rw [hf]);have cn:=af hf;clear hf;go_enter Tryz.func107,Tryz.ntmps107
  go_upto_region 1 with(fail)
  obtain⟨az,c6⟩:∃az,w.heap.size=az:=⟨_,rfl⟩;have bB:Hid (w.heap.size≤az):=af (by omega);replace en:Hid (aj (w.alloc (.cells #[.int .i64 0,.int .i64 0,.int .i64 0,.int .i64 0,.bool false] 139)) az 139 #[.int .i64 0,.int .i64 0,.int .i64 0,.int .i64 0,.bool false]):=af (by rw [←c6];exact en.out);rw [c6];clear c6;generalize w.alloc (.cells #[.int .i64 0,.int .i64 0,.int .i64 0,.int .i64 0,.bool false] 139)=w1 at*;have hfr:=Be H1.out hl id;go_wp2_with fail
  refine hfr.mono ?_;rintro e w2 ⟨⟨r,rfl,hr⟩,rfl⟩;clear hfr
  obtain rfl:r= -1:=by
   rcases hr with⟨rfl,_⟩|⟨k,o,_,_,_,h1⟩
   ·rfl
   ·rw [cn.out]at h1;cases h1
  clear hr;have l0:w1.cell? ⟨az,0,none⟩=some (.int .i64 0):=en.out.cell 0;have l1:w1.cell? ⟨az,1,none⟩=some (.int .i64 0):=en.out.cell 1;have l2:w1.cell? ⟨az,2,none⟩=some (.int .i64 0):=en.out.cell 2;have l3:w1.cell? ⟨az,3,none⟩=some (.int .i64 0):=en.out.cell 3;have l4:w1.cell? ⟨az,4,none⟩=some (.bool false):=en.out.cell 4;have fz:∀o,w1.frozen? ⟨az,o,none⟩=false:=fun o=>en.out.frozen o;go_wp2_with fail
  clear l0 l1 l2 l3 l4 fz;have hz:=((((en.out.aQ 0 (.int .i64 0)).aQ 1 (.int .i64 0)).aQ 2 (.int .i64 0)).aQ 3 (.int .i64 0)).aQ 4 (.bool false);have hbz:=((((gZ.out.setCell (p:=⟨az,0,none⟩) bB.out (.int .i64 0)).setCell (p:=⟨az,1,none⟩) bB.out (.int .i64 0)).setCell (p:=⟨az,2,none⟩) bB.out (.int .i64 0)).setCell (p:=⟨az,3,none⟩) bB.out (.int .i64 0)).setCell (p:=⟨az,4,none⟩) bB.out (.bool false);generalize ((((w1.setCell ⟨az,0,none⟩ (.int .i64 0)).setCell ⟨az,1,none⟩ (.int .i64 0)).setCell ⟨az,2,none⟩ (.int .i64 0)).setCell ⟨az,3,none⟩ (.int .i64 0)).setCell ⟨az,4,none⟩ (.bool false)=ak at*;have k0:ak.cell? ⟨az,0,none⟩=some (.int .i64 0):=hz.cell 0;have k1:ak.cell? ⟨az,1,none⟩=some (.int .i64 0):=hz.cell 1;have k2:ak.cell? ⟨az,2,none⟩=some (.int .i64 0):=hz.cell 2;have e7:ak.cell? ⟨az,3,none⟩=some (.int .i64 0):=hz.cell 3;have gY:ak.cell? ⟨az,4,none⟩=some (.bool false):=hz.cell 4;refine bodyPost_ret (v:= .tuple #[.agg #[.int .i64 0,.int .i64 0,.int .i64 0,.int .i64 0,.bool false],.bool false]) (by simp [results,Tryz.results107,go_sem,k0,k1,k2,e7,gY]) rfl ⟨by rw [bH.out];rfl,hbz⟩
 |some o=>
  have bH:Hid (tV L id=(o,true)):=af (by unfold tV;rw [hf]);have cn:=af hf;clear hf;go_enter Tryz.func107,Tryz.ntmps107
  go_upto_region 1 with(fail)
  obtain⟨az,c6⟩:∃az,w.heap.size=az:=⟨_,rfl⟩;have bB:Hid (w.heap.size≤az):=af (by omega);replace en:Hid (aj (w.alloc (.cells #[.int .i64 0,.int .i64 0,.int .i64 0,.int .i64 0,.bool false] 139)) az 139 #[.int .i64 0,.int .i64 0,.int .i64 0,.int .i64 0,.bool false]):=af (by rw [←c6];exact en.out);rw [c6];clear c6;generalize w.alloc (.cells #[.int .i64 0,.int .i64 0,.int .i64 0,.int .i64 0,.bool false] 139)=w1 at*;have hfr:=Be H1.out hl id;go_wp2_with fail
  refine hfr.mono ?_;rintro e w2 ⟨⟨r,rfl,hr⟩,rfl⟩;clear hfr
  obtain⟨k,rfl,ho⟩:∃k:Nat,r=k∧L[k]? =some o:=by
   rcases hr with⟨_,h1⟩|⟨k,o',rfl,h2,_,h1⟩
   ·rw [cn.out]at h1;cases h1
   ·rw [cn.out]at h1;injection h1 with h1;subst h1;exact⟨k,rfl,h2⟩
  have fP:(k:Int)<(L.length:Int):=by have:=dc ho;omega
  obtain⟨a,c,hb,hrw⟩:=H1.out.box;obtain⟨a',c',he,hac,hrd⟩:=hrw.rd;injection he with ej _ jK;subst ej jK;obtain⟨g,off,rfl,_,hc⟩:=hrd k o ho;obtain⟨f0,f1,f2,f3,f4⟩:=o;have c0:w1.cell? ⟨g,off+k*5,none⟩=some (.int .i64 f0):=hc 0 _ rfl;have c1:w1.cell? ⟨g,off+k*5+1,none⟩=some (.int .i64 f1):=hc 1 _ rfl;have c2:w1.cell? ⟨g,off+k*5+2,none⟩=some (.int .i64 f2):=hc 2 _ rfl;have c3:w1.cell? ⟨g,off+k*5+3,none⟩=some (.int .i64 f3):=hc 3 _ rfl;have dn:w1.cell? ⟨g,off+k*5+4,none⟩=some (.bool f4):=hc 4 _ rfl;have jD:w1.cell? ⟨pw,0,none⟩=some (.slice (some ⟨g,off,none⟩) L.length c):=hb.cell 0;clear hc hb hrw hrd ho hr;have l0:w1.cell? ⟨az,0,none⟩=some (.int .i64 0):=en.out.cell 0;have l1:w1.cell? ⟨az,1,none⟩=some (.int .i64 0):=en.out.cell 1;have l2:w1.cell? ⟨az,2,none⟩=some (.int .i64 0):=en.out.cell 2;have l3:w1.cell? ⟨az,3,none⟩=some (.int .i64 0):=en.out.cell 3;have l4:w1.cell? ⟨az,4,none⟩=some (.bool false):=en.out.cell 4;have fz:∀o,w1.frozen? ⟨az,o,none⟩=false:=fun o=>en.out.frozen o;go_wp2_with fail
  clear l0 l1 l2 l3 l4 fz c0 c1 c2 c3 dn jD;have hz:=((((en.out.aQ 0 (.int .i64 f0)).aQ 1 (.int .i64 f1)).aQ 2 (.int .i64 f2)).aQ 3 (.int .i64 f3)).aQ 4 (.bool f4);have hbz:=((((gZ.out.setCell (p:=⟨az,0,none⟩) bB.out (.int .i64 f0)).setCell (p:=⟨az,1,none⟩) bB.out (.int .i64 f1)).setCell (p:=⟨az,2,none⟩) bB.out (.int .i64 f2)).setCell (p:=⟨az,3,none⟩) bB.out (.int .i64 f3)).setCell (p:=⟨az,4,none⟩) bB.out (.bool f4);generalize ((((w1.setCell ⟨az,0,none⟩ (.int .i64 f0)).setCell ⟨az,1,none⟩ (.int .i64 f1)).setCell ⟨az,2,none⟩ (.int .i64 f2)).setCell ⟨az,3,none⟩ (.int .i64 f3)).setCell ⟨az,4,none⟩ (.bool f4)=ak at*;have k0:ak.cell? ⟨az,0,none⟩=some (.int .i64 f0):=hz.cell 0;have k1:ak.cell? ⟨az,1,none⟩=some (.int .i64 f1):=hz.cell 1;have k2:ak.cell? ⟨az,2,none⟩=some (.int .i64 f2):=hz.cell 2;have e7:ak.cell? ⟨az,3,none⟩=some (.int .i64 f3):=hz.cell 3;have gY:ak.cell? ⟨az,4,none⟩=some (.bool f4):=hz.cell 4;refine bodyPost_ret (v:= .tuple #[.agg #[.int .i64 f0,.int .i64 f1,.int .i64 f2,.int .i64 f3,.bool f4],.bool true]) (by simp [results,Tryz.results107,go_sem,k0,k1,k2,e7,gY]) rfl ⟨by rw [bH.out];rfl,hbz⟩
end
section
variable {W w w':World} {pw:Nat} {L:List ay}
def wX (side ag:Int) (o:ay):Bool:=decide (o.side=side∧o.ag=ag)
theorem Wz {p:ay→Bool} {k:Nat} {o:ay} (h:L[k]? =some o):(L.take (k+1)).filter p=(L.take k).filter p++(if p o=true then [o]else []):=by
 rw [lp h,List.filter_append]
 congr 1
 by_cases hp:p o=true
 ·rw [if_pos hp];simp [hp]
 ·rw [if_neg hp];simp [hp]
theorem ab4 (h:gC W w pw L) (hl:L.length≤250) (side ag:Int):
 Calls Tryz.prog 147 #[.pointer (some ⟨pw,0,none⟩),.int .i64 side,.int .i64 ag] w fun e w'=>∃v,e= .returned v∧fX.Row w' w.heap.size v (wB L side ag)∧Below w.heap.size w w':=by
 have H:=af h;clear h;have cG:Hid (wB L side ag=L.filter (wX side ag)):=af rfl;go_enter Tryz.func147,Tryz.ntmps147
 go_wp2_with fail
 go_loopw [7,8] (fun v j w'=>∃k:Nat,j= .int .i64 k∧k≤L.length∧fX.Row w' w.heap.size v ((L.take k).filter (wX side ag))∧Below w.heap.size w w') (fun _ j _=>L.length-(RowKit.intOf j).toNat)
 case atStart=>exact⟨0,rfl,Nat.zero_le _,aY.Row.nil _ _,Below.refl _ _⟩
 case round=>
  obtain⟨k,rfl,hk,hrow,hb⟩:=hrel;obtain⟨ak,rfl⟩:∃bk:World,bk=wr:=⟨_,rfl⟩;have ec:=af hrow;have gZ:=af hb;obtain⟨a,c,aP,hrw⟩:=(H.out.below hb).box;obtain⟨a',c',he,_,hrd⟩:=hrw.rd;injection he with ej _ jK;subst ej jK;have jD:ak.cell? ⟨pw,0,none⟩=some (.slice a L.length c):=aP.cell 0;clear hrow hb aP hrw;by_cases hlt:k<L.length
  ·have hlt':(k:Int)<(L.length:Int):=by omega
   obtain⟨o,ho⟩:∃o,L[k]? =some o:=⟨_,List.getElem?_eq_getElem hlt⟩;obtain⟨g,off,rfl,_,hc⟩:=hrd k o ho;have dh:=af (Wz (p:=wX side ag) ho);have ye:Hid (((L.take k).filter (wX side ag)).length≤250):=af (Nat.le_trans (List.length_filter_le _ _) (by rw [List.length_take];omega));obtain⟨f0,f1,f2,f3,f4⟩:=o;have c0:ak.cell? ⟨g,off+k*5,none⟩=some (.int .i64 f0):=hc 0 _ rfl;have c1:ak.cell? ⟨g,off+k*5+1,none⟩=some (.int .i64 f1):=hc 1 _ rfl;have c2:ak.cell? ⟨g,off+k*5+2,none⟩=some (.int .i64 f2):=hc 2 _ rfl;have c3:ak.cell? ⟨g,off+k*5+3,none⟩=some (.int .i64 f3):=hc 3 _ rfl;have dn:ak.cell? ⟨g,off+k*5+4,none⟩=some (.bool f4):=hc 4 _ rfl;clear hc ho hrd;by_cases hs:f1=side
   ·by_cases hp:f2=ag
    ·subst hs
     subst hp;have dy:Hid (wX f1 f2 ⟨f0,f1,f2,f3,f4⟩=true):=af (decide_eq_true ⟨rfl,rfl⟩);generalize (L.take k).filter (wX f1 f2)=nB at*;have hnew:aj (ak.alloc (.cells #[.int .i64 f0,.int .i64 f1,.int .i64 f2,.int .i64 f3,.bool f4] 139)) ak.heap.size 139 (⟨f0,f1,f2,f3,f4⟩:ay).cells.toArray:=aj.new _ _ _;have wY:=af hnew;have hba:=Below.aA ak (.cells #[.int .i64 f0,.int .i64 f1,.int .i64 f2,.int .i64 f3,.bool f4] 139);have fL:=af (ec.out.below hba);have bM:=af (gZ.out.trans (hba.mono gZ.out.size));clear hnew hba
     go_wp2_with (first
      |(at_builtin;go_loud (refine fX.push rfl (.tmp 40) (.tmp 48) rfl w.heap.size u7 nB rfl fL.out ak.heap.size ⟨f0,f1,f2,f3,f4⟩ rfl wY.out.lt wY.out.fU (by have:=ye.out;omega) bM.out.size ?_)))
     intro v' aK bO cB ez;have l5:fX.Row aK w.heap.size v' ((L.take (k+1)).filter (wX f1 f2)):=by rw [dh.out,if_pos dy.out];exact bO
     have cH:=af l5;have cC:=af (gF cB bM.out (cx fL.out));clear bO l5 cB ez wY fL bM c0 c1 c2 c3 dn jD ec gZ;go_wp2_with fail
     go_roundw
     case rel=>exact⟨k+1,by go_num,by omega,cH.out,cC.out⟩
     case measure=>simp [RowKit.intOf];omega
    ·have ze:(f2==ag)=false:=by rw [beq_eq_false_iff_ne];exact hp
     have dy:Hid (¬wX side ag ⟨f0,f1,f2,f3,f4⟩=true):=af (by unfold wX;simp [hp]);go_wp2_with fail
     go_roundw
     case rel=>exact⟨k+1,by go_num,by omega,by rw [dh.out,if_neg dy.out,List.append_nil];exact ec.out,gZ.out⟩
     case measure=>simp [RowKit.intOf];omega
   ·have hsb:(f1==side)=false:=by rw [beq_eq_false_iff_ne];exact hs
    have dy:Hid (¬wX side ag ⟨f0,f1,f2,f3,f4⟩=true):=af (by unfold wX;simp [hs]);go_wp2_with fail
    go_roundw
    case rel=>exact⟨k+1,by go_num,by omega,by rw [dh.out,if_neg dy.out,List.append_nil];exact ec.out,gZ.out⟩
    case measure=>simp [RowKit.intOf];omega
  ·obtain rfl:k=L.length:=by omega
   have hrow:=ec.out;rw [List.take_length]at hrow;have iH:=af hrow;clear hrow;go_wp2_with fail
   go_ret;exact⟨_,rfl,by rw [cG.out];exact iH.out,gZ.out⟩
end
end Go.Proofs.YtmaijkoopjocdaaGreat
