import Derived.Test.YtmaijkoopjocdaaGreatKT38
set_option maxRecDepth 100000
set_option maxHeartbeats 64000000
namespace Go.Proofs.YtmaijkoopjocdaaGreat
open Go.RowKit Go.Lib
theorem Pc (m:aB) (w:World) (hi:0≤m.inst∧m.inst≤255) (hs:m.side=1∨m.side=2):
 Calls Tryz.prog 32 #[m.agg] w fun e w'=>∃v,e= .returned (.tuple #[v,.int .i64 0])∧e9.Row w' w.heap.size v (j6 m)∧Below w.heap.size w w':=by
 obtain⟨q,i,d,p,t,c,im⟩:=m;unfold aB.agg;dsimp only at hi hs⊢;have aE:Hid (Below w.heap.size w (w.alloc (.cells #[.int .i64 q,.int .i64 i,.int .i64 d,.int .i64 p,.int .i64 t,.int .i64 c,.bool im] 86))):=af (Below.aA _ _);have cv:Hid (aj (w.alloc (.cells #[.int .i64 q,.int .i64 i,.int .i64 d,.int .i64 p,.int .i64 t,.int .i64 c,.bool im] 86)) w.heap.size 86 #[.int .i64 q,.int .i64 i,.int .i64 d,.int .i64 p,.int .i64 t,.int .i64 c,.bool im]):=af (aj.new _ _ _);have qO:=af hs;have y1:¬(i<0):=by omega
 have dw:¬(255<i):=by omega
 clear hs hi;go_enter Tryz.func32,Tryz.ntmps32
 go_upto_region 1 with(fail)
 obtain⟨g,hg⟩:∃g,w.heap.size=g:=⟨_,rfl⟩;rw [hg]at cv⊢;generalize w.alloc (.cells #[.int .i64 q,.int .i64 i,.int .i64 d,.int .i64 p,.int .i64 t,.int .i64 c,.bool im] 86)=w1 at*;have m1:w1.cell? ⟨g,1,none⟩=some (.int .i64 i):=cv.out.cell 1;have m2:w1.cell? ⟨g,2,none⟩=some (.int .i64 d):=cv.out.cell 2;go_cut [22] (fun u wx=>u= .bool false∧w1=wx)
 case first=>
  rcases qO.out with rfl|rfl
  all_goals
   go_wp2_with fail
   go_meet;exact⟨by rfl,rfl⟩
 case rest=>
 obtain⟨rfl,rfl⟩:=hcut;clear m1 m2 y1 dw;go_upto_region 3 with(fail)
 have kZ:=af (Kf (v:= .slice none 0 0) (L:= []) (w:=w1.drewN 1) aY.e8.nil (by decide) q);refine cF (S:=fun w'=>w'.cell? ⟨g,0,none⟩=some (.int .i64 q)∧w'.cell? ⟨g,1,none⟩=some (.int .i64 i)∧w'.cell? ⟨g,2,none⟩=some (.int .i64 d)) (by kernel_rfl) ⟨cv.out.cell 0,cv.out.cell 1,cv.out.cell 2⟩ (fun hHeld=>?_);refine ai 0 ?_;refine ai 1 ?_;refine ai 3 ?_;refine ai 4 ?_;refine ai 6 ?_;refine ai 7 ?_;refine aR 2 fun K hK=>?_;go_simp;refine kZ.out.mono ?_;rintro e w2 ⟨v1,rfl,hr,hb⟩;have hb2:=(Below.bT w1 1).trans hb;have ef:=af (cv.out.below hb2);have aT:=af (aE.out.trans (hb2.mono aE.out.size));have Bk:=af (Ke hr.sl (by rw [List.nil_append,yY];omega) i);refine hK.out _ _ ⟨ef.out.cell 0,ef.out.cell 1,ef.out.cell 2⟩ (fun hHeld=>?_);clear hK K hr hb hb2 kZ cv aE;refine aR 5 fun K hK=>?_;go_simp;refine Bk.out.mono ?_;rintro e w3 ⟨v2,rfl,hr,hb⟩;have eW:=af (ef.out.below hb);have aN:=af (aT.out.trans (hb.mono aT.out.size));have Dr:=af (Ke hr.sl (by simp only [List.length_append,List.length_cons,List.length_nil,yY];omega) d);refine hK.out _ _ ⟨eW.out.cell 0,eW.out.cell 1,eW.out.cell 2⟩ (fun hHeld=>?_);clear hK K hr hb Bk ef aT;refine aR 8 fun K hK=>?_;go_simp;refine Dr.out.mono ?_;rintro e av ⟨v3,rfl,hr,hb⟩;have wQ:=af (eW.out.below hb);have bM:=af (aN.out.trans (hb.mono aN.out.size));have fL:=af hr;refine hK.out _ _ ⟨wQ.out.cell 0,wQ.out.cell 1,wQ.out.cell 2⟩ (fun hHeld=>?_);clear hK K hr hb Dr eW aN;refine cO 9 fun K hK=>?_;go_simp;refine hK.out _ _ ?_;clear hK K hHeld;go_upto_region 4 with(fail)
 have kZ:=af (Kf (w:=av.drewN 1) (fL.out.sl.below (Below.bT av 1)) (by simp only [List.length_append,List.length_cons,List.length_nil,yY];omega) p);refine cF (S:=fun w'=>w'.cell? ⟨g,3,none⟩=some (.int .i64 p)∧w'.cell? ⟨g,4,none⟩=some (.int .i64 t)∧w'.cell? ⟨g,5,none⟩=some (.int .i64 c)) (by kernel_rfl) ⟨wQ.out.cell 3,wQ.out.cell 4,wQ.out.cell 5⟩ (fun hHeld=>?_);refine ai 0 ?_;refine ai 1 ?_;refine ai 2 ?_;refine ai 4 ?_;refine ai 5 ?_;refine ai 7 ?_;refine ai 8 ?_;refine aR 3 fun K hK=>?_;go_simp;refine kZ.out.mono ?_;rintro e au ⟨v4,rfl,hr,hb⟩;have hb2:=(Below.bT av 1).trans hb;have sw:=af (wQ.out.below hb2);have cD:=af (bM.out.trans (hb2.mono bM.out.size));have yh:=af (Kf hr.sl (by simp only [List.length_append,List.length_cons,List.length_nil,yY];omega) t);refine hK.out _ _ ⟨sw.out.cell 3,sw.out.cell 4,sw.out.cell 5⟩ (fun hHeld=>?_);clear hK K hr hb hb2 kZ wQ bM fL;refine aR 6 fun K hK=>?_;go_simp;refine yh.out.mono ?_;rintro e aK ⟨v5,rfl,hr,hb⟩;have rC:=af (sw.out.below hb);have cC:=af (cD.out.trans (hb.mono cD.out.size));have Ds:=af (Kf hr.sl (by simp only [List.length_append,List.length_cons,List.length_nil,yY];omega) c);refine hK.out _ _ ⟨rC.out.cell 3,rC.out.cell 4,rC.out.cell 5⟩ (fun hHeld=>?_);clear hK K hr hb yh sw cD;refine aR 9 fun K hK=>?_;go_simp;refine Ds.out.mono ?_;rintro e bw ⟨v6,rfl,hr,hb⟩;have n9:=af (rC.out.below hb);have fw:=af (cC.out.trans (hb.mono cC.out.size));have jP:Hid (([]++lu (q % 18446744073709551616) 8++ [i % 256]++ [d % 256]++lu (p % 18446744073709551616) 8++lu (t % 18446744073709551616) 8++lu (c % 18446744073709551616) 8).length=34):=af (by simp only [List.length_append,List.length_cons,List.length_nil,yY]);have qL:=af hr;refine hK.out _ _ ⟨n9.out.cell 3,n9.out.cell 4,n9.out.cell 5⟩ (fun hHeld=>?_);clear hK K hr hb Ds rC cC;refine cO 10 fun K hK=>?_;go_simp;refine hK.out _ _ ?_;clear hK K hHeld;have dH:bw.cell? ⟨g,6,none⟩=some (.bool im):=n9.out.cell 6;cases im with
 |true=>
  have kZ:=af (Ke qL.out.sl (by rw [jP.out];decide) 1);go_wp2_with fail
  refine kZ.out.mono ?_;rintro e bW ⟨kM,rfl,hr,hb⟩;have ig:=af (fw.out.trans (hb.mono fw.out.size));have oR:=af (hr.base fw.out.size);clear hr hb;go_wp2_with fail
  go_ret2
  refine⟨kM,rfl,?_,ig.out⟩;have:=oR.out;simp only [List.append_assoc,List.nil_append,List.cons_append]at this;exact this
 |false=>
  have kZ:=af (Ke qL.out.sl (by rw [jP.out];decide) 0);go_wp2_with fail
  refine kZ.out.mono ?_;rintro e bW ⟨kM,rfl,hr,hb⟩;have ig:=af (fw.out.trans (hb.mono fw.out.size));have oR:=af (hr.base fw.out.size);clear hr hb;go_wp2_with fail
  go_ret2
  refine⟨kM,rfl,?_,ig.out⟩;have:=oR.out;simp only [List.append_assoc,List.nil_append,List.cons_append]at this;exact this
end Go.Proofs.YtmaijkoopjocdaaGreat
