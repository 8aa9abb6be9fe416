import Derived.Test.YtmaijkoopjocdaaGreatKT03
import Derived.Lib.SliceRun
import Derived.IntWalk
import Derived.Deep.DeepCutAuto
set_option maxRecDepth 100000
set_option maxHeartbeats 64000000
namespace Go.Proofs.YtmaijkoopjocdaaGreat
open Go.RowKit
def Ea (a:Option Addr) (n c:Nat):Prop:=(a=none→n=0∧c=0)∧(∀ad,a=some ad→∃b off,ad=⟨b,off,none⟩)∧n≤c
section
variable {α:Type} {Y:aY α} {w w':World} {B:Nat} {v:Value} {L:List α} {F:Nat→Prop}
def aY.e8 (Y:aY α) (w:World) (v:Value) (L:List α):Prop:=∃a c,v= .slice a L.length c∧Ea a L.length c∧Y.fF w a L
theorem aY.Row.sl (h:Y.Row w B v L):Y.e8 w v L:=by
 obtain⟨a,c,hv,hac,hrd⟩:=h.rd;refine⟨a,c,hv,⟨fun ha=>?_,fun ad ha=>?_,?_⟩,hrd⟩
 ·refine⟨?_,hac ha⟩
  rcases h.2 with⟨h1,h2⟩|⟨g,cap,cur,h1,_⟩
  ·exact h2
  ·rw [hv,ha]at h1;injection h1 with h1;cases h1
 ·rcases h.2 with⟨h1,h2⟩|⟨g,cap,cur,h1,_⟩
  ·rw [hv,ha]at h1;injection h1 with h1;cases h1
  ·rw [hv,ha]at h1;injection h1 with h1;injection h1 with h1;exact⟨g,0,h1⟩
 ·rcases h.2 with⟨h1,h2⟩|⟨g,cap,cur,h1,_,_,h3,_⟩
  ·omega
  ·rw [hv]at h1;injection h1 with _ _ h1;rw [h1];exact h3
theorem aY.e8.below (h:Y.e8 w v L) (hb:Below w.heap.size w w'):Y.e8 w' v L:=by
 obtain⟨a,c,h1,h2,h3⟩:=h;exact⟨a,c,h1,h2,h3.below hb⟩
theorem aY.e8.nil:Y.e8 w (.slice none 0 0) []:=⟨none,0,rfl,⟨fun _=>⟨rfl,rfl⟩,fun _ h=>(by cases h),Nat.le_refl 0⟩,aY.fF.nil⟩
theorem aY.e8.get {k:Nat} {x:α} (h:Y.e8 w v L) (hk:L[k]? =some x):∃b off c,v= .slice (some ⟨b,off,none⟩) L.length c∧b<w.heap.size∧gL w b (off+k*Y.m) (Y.cells x):=by
 obtain⟨a,c,h1,_,h3⟩:=h;obtain⟨b,off,rfl,h4,h5⟩:=h3 k x hk;exact⟨b,off,c,h1,h4,h5⟩
end
theorem aal {w:World} {v:Value} {L:List Int} (h:e9.e8 w v L) (hl:L.length≤900000):
 Calls Tryz.prog 117 #[v] w fun e w'=>∃v',e= .returned v'∧e9.Row w' w.heap.size v' L∧Below w.heap.size w w':=by
 obtain⟨a,c,rfl,ho,hrd⟩:=h;cases a with
 |none=>
  obtain⟨h0,rfl⟩:=ho.1 rfl;obtain rfl:L= []:=List.length_eq_zero_iff.1 h0;have BT:∀(w:World) (a:Option Addr) (n c:Nat),(binOp .eql 37 (.slice a n c) (.slice none 0 0)).run Tryz.prog w= .ok (.bool a.isNone) w:=fun w a n c=>Lib.run_eql_slice_nil w _ _ a n c 0 0 Tryz.underlying37;go_enter Tryz.func117,Tryz.ntmps117
  go_wp2_with fail
  go_ret;exact⟨_,rfl,aY.Row.nil _ _,Below.refl _ _⟩
 |some ad=>
  obtain⟨b,off,rfl⟩:=ho.2.1 _ rfl;have H0:=af (aY.Row.empty (Y:=e9) w);have aE:=af (Below.aA w (.cells #[] 5));have cM:=af (hrd.below aE.out);have cX:=af hl;clear hrd ho hl;have BT:∀(w:World) (a:Option Addr) (n c:Nat),(binOp .eql 37 (.slice a n c) (.slice none 0 0)).run Tryz.prog w= .ok (.bool a.isNone) w:=fun w a n c=>Lib.run_eql_slice_nil w _ _ a n c 0 0 Tryz.underlying37;go_enter Tryz.func117,Tryz.ntmps117
  go_wp2_with (first
   |(at_builtin;go_loud (refine e9.vN rfl (.tmp 5) (.tmp 6) rfl w.heap.size (.slice (some ⟨w.heap.size,0,none⟩) 0 0) [] rfl H0.out (some ⟨b,off,none⟩) c L rfl (fun h=>by cases h) cM.out (fun ad h=>by injection h with h;exact⟨b,off,h.symm⟩) (by have:=cX.out;simp;omega) aE.out.size ?_)))
  intro v' aK bO cB ez;have cH:=af bO;have cC:=af (gF cB aE.out (cx H0.out));clear bO cB ez;go_wp2_with fail
  go_ret;exact⟨_,rfl,cH.out,cC.out⟩
theorem aam {w:World} {v:Value} {L:List ax} (h:bL.e8 w v L) (hl:L.length≤900000):
 Calls Tryz.prog 88 #[v] w fun e w'=>∃v',e= .returned v'∧bL.Row w' w.heap.size v' L∧Below w.heap.size w w':=by
 obtain⟨a,c,rfl,ho,hrd⟩:=h;cases a with
 |none=>
  obtain⟨h0,rfl⟩:=ho.1 rfl;obtain rfl:L= []:=List.length_eq_zero_iff.1 h0;have BT:∀(w:World) (a:Option Addr) (n c:Nat),(binOp .eql 45 (.slice a n c) (.slice none 0 0)).run Tryz.prog w= .ok (.bool a.isNone) w:=fun w a n c=>Lib.run_eql_slice_nil w _ _ a n c 0 0 Tryz.underlying45;go_enter Tryz.func88,Tryz.ntmps88
  go_wp2_with fail
  go_ret;exact⟨_,rfl,aY.Row.nil _ _,Below.refl _ _⟩
 |some ad=>
  obtain⟨b,off,rfl⟩:=ho.2.1 _ rfl;have H0:=af (aY.Row.empty (Y:=bL) w);have aE:=af (Below.aA w (.cells #[] 47));have cM:=af (hrd.below aE.out);have cX:=af hl;clear hrd ho hl;have BT:∀(w:World) (a:Option Addr) (n c:Nat),(binOp .eql 45 (.slice a n c) (.slice none 0 0)).run Tryz.prog w= .ok (.bool a.isNone) w:=fun w a n c=>Lib.run_eql_slice_nil w _ _ a n c 0 0 Tryz.underlying45;go_enter Tryz.func88,Tryz.ntmps88
  go_wp2_with (first
   |(at_builtin;go_loud (refine bL.vN rfl (.tmp 5) (.tmp 6) rfl w.heap.size (.slice (some ⟨w.heap.size,0,none⟩) 0 0) [] rfl H0.out (some ⟨b,off,none⟩) c L rfl (fun h=>by cases h) cM.out (fun ad h=>by injection h with h;exact⟨b,off,h.symm⟩) (by have:=cX.out;simp;omega) aE.out.size ?_)))
  intro v' aK bO cB ez;have cH:=af bO;have cC:=af (gF cB aE.out (cx H0.out));clear bO cB ez;go_wp2_with fail
  go_ret;exact⟨_,rfl,cH.out,cC.out⟩
theorem aan {w:World} {v:Value} {L:List bz} (h:ei.e8 w v L) (hl:L.length≤900000):
 Calls Tryz.prog 87 #[v] w fun e w'=>∃v',e= .returned v'∧ei.Row w' w.heap.size v' L∧Below w.heap.size w w':=by
 obtain⟨a,c,rfl,ho,hrd⟩:=h;cases a with
 |none=>
  obtain⟨h0,rfl⟩:=ho.1 rfl;obtain rfl:L= []:=List.length_eq_zero_iff.1 h0;have BT:∀(w:World) (a:Option Addr) (n c:Nat),(binOp .eql 41 (.slice a n c) (.slice none 0 0)).run Tryz.prog w= .ok (.bool a.isNone) w:=fun w a n c=>Lib.run_eql_slice_nil w _ _ a n c 0 0 Tryz.underlying41;go_enter Tryz.func87,Tryz.ntmps87
  go_wp2_with fail
  go_ret;exact⟨_,rfl,aY.Row.nil _ _,Below.refl _ _⟩
 |some ad=>
  obtain⟨b,off,rfl⟩:=ho.2.1 _ rfl;have H0:=af (aY.Row.empty (Y:=ei) w);have aE:=af (Below.aA w (.cells #[] 50));have cM:=af (hrd.below aE.out);have cX:=af hl;clear hrd ho hl;have BT:∀(w:World) (a:Option Addr) (n c:Nat),(binOp .eql 41 (.slice a n c) (.slice none 0 0)).run Tryz.prog w= .ok (.bool a.isNone) w:=fun w a n c=>Lib.run_eql_slice_nil w _ _ a n c 0 0 Tryz.underlying41;go_enter Tryz.func87,Tryz.ntmps87
  go_wp2_with (first
   |(at_builtin;go_loud (refine ei.vN rfl (.tmp 5) (.tmp 6) rfl w.heap.size (.slice (some ⟨w.heap.size,0,none⟩) 0 0) [] rfl H0.out (some ⟨b,off,none⟩) c L rfl (fun h=>by cases h) cM.out (fun ad h=>by injection h with h;exact⟨b,off,h.symm⟩) (by have:=cX.out;simp;omega) aE.out.size ?_)))
  intro v' aK bO cB ez;have cH:=af bO;have cC:=af (gF cB aE.out (cx H0.out));clear bO cB ez;go_wp2_with fail
  go_ret;exact⟨_,rfl,cH.out,cC.out⟩
theorem Sg {w:World} {v:Value} {L:List aB} (h:gb.e8 w v L) (hl:L.length≤900000):
 Calls Tryz.prog 84 #[v] w fun e w'=>∃v',e= .returned v'∧gb.Row w' w.heap.size v' L∧Below w.heap.size w w':=by
 obtain⟨a,c,rfl,ho,hrd⟩:=h;cases a with
 |none=>
  obtain⟨h0,rfl⟩:=ho.1 rfl;obtain rfl:L= []:=List.length_eq_zero_iff.1 h0;have BT:∀(w:World) (a:Option Addr) (n c:Nat),(binOp .eql 82 (.slice a n c) (.slice none 0 0)).run Tryz.prog w= .ok (.bool a.isNone) w:=fun w a n c=>Lib.run_eql_slice_nil w _ _ a n c 0 0 Tryz.underlying82;go_enter Tryz.func84,Tryz.ntmps84
  go_wp2_with fail
  go_ret;exact⟨_,rfl,aY.Row.nil _ _,Below.refl _ _⟩
 |some ad=>
  obtain⟨b,off,rfl⟩:=ho.2.1 _ rfl;have H0:=af (aY.Row.empty (Y:=gb) w);have aE:=af (Below.aA w (.cells #[] 86));have cM:=af (hrd.below aE.out);have cX:=af hl;clear hrd ho hl;have BT:∀(w:World) (a:Option Addr) (n c:Nat),(binOp .eql 82 (.slice a n c) (.slice none 0 0)).run Tryz.prog w= .ok (.bool a.isNone) w:=fun w a n c=>Lib.run_eql_slice_nil w _ _ a n c 0 0 Tryz.underlying82;go_enter Tryz.func84,Tryz.ntmps84
  go_wp2_with (first
   |(at_builtin;go_loud (refine gb.vN rfl (.tmp 5) (.tmp 6) rfl w.heap.size (.slice (some ⟨w.heap.size,0,none⟩) 0 0) [] rfl H0.out (some ⟨b,off,none⟩) c L rfl (fun h=>by cases h) cM.out (fun ad h=>by injection h with h;exact⟨b,off,h.symm⟩) (by have:=cX.out;simp;omega) aE.out.size ?_)))
  intro v' aK bO cB ez;have cH:=af bO;have cC:=af (gF cB aE.out (cx H0.out));clear bO cB ez;go_wp2_with fail
  go_ret;exact⟨_,rfl,cH.out,cC.out⟩
end Go.Proofs.YtmaijkoopjocdaaGreat
namespace Go.Proofs.YtmaijkoopjocdaaGreat
open Go.RowKit Go.Lib
structure jg (W w:World) (pr:Nat) (s:cg):Prop where
 box:∃a c,aj w pr 215 #[.slice a s.bs.length c,.bool s.bad]∧Ea a s.bs.length c∧s.bs.length≤c∧e9.fF w a s.bs∧(∀b off,a=some ⟨b,off,none⟩→bV w b 5)
 base:W.heap.size≤pr
 aF:Below W.heap.size W w
 ok:s.ok
 len:s.bs.length≤900000
section
variable {W w w':World} {pr:Nat} {s:cg}
theorem LV {w w':World} {a:Option Addr} {L:List Int} {F:Nat→Prop} (h:e9.fF w a L) (hk:aD F w w') (hf:∀b off,a=some ⟨b,off,none⟩→L≠ []→¬F b):e9.fF w' a L:=by
 intro j e hj;obtain⟨b,off,h1,h2,h3⟩:=h j e hj;exact⟨b,off,h1,Nat.lt_of_lt_of_le h2 hk.size,h3.keeps hk h2 (hf b off h1 (by rintro rfl;simp at hj))⟩
theorem bV.lt {w:World} {g:Nat} {t:TypeId} (h:bV w g t):g<w.heap.size:=by
 obtain⟨cs,h⟩:=h;exact aj.lt h
theorem bV.keep {w w':World} {g:Nat} {t:TypeId} {F:Nat→Prop} (h:bV w g t) (hk:aD F w w') (hf:¬F g):bV w' g t:=by
 obtain⟨cs,h⟩:=h;exact⟨cs,aj.keeps h hk hf⟩
theorem jg.keep {F:Nat→Prop} (h:jg W w pr s) (hk:aD F w w') (hp:¬F pr) (hf:∀b,bV w b 5→¬F b) (hF:∀k,F k→W.heap.size≤k):jg W w' pr s:=by
 obtain⟨⟨a,c,h1,h2,hc,h3,h4⟩,h5,h6,h7,h8⟩:=h;exact⟨⟨a,c,h1.keeps hk hp,h2,hc,LV h3 hk fun b off e _=>hf b (h4 b off e),fun b off e=>(h4 b off e).keep hk (hf b (h4 b off e))⟩,h5,h6.trans (hk.below hF h6.size),h7,h8⟩
theorem jg.below (h:jg W w pr s) (hb:Below w.heap.size w w'):jg W w' pr s:=
 h.keep (F:=fun _=>False) (Below.keeps hb) (fun h=>h) (fun _ _ h=>h) (fun _ h=>h.elim)
theorem jg.ne {a:Option Addr} {c:Nat} {bs:List Int} {v:Value} (h:aj w pr 215 #[.slice a bs.length c,v]) (ht:∀b off,a=some ⟨b,off,none⟩→bV w b 5):∀b off,a=some ⟨b,off,none⟩→b≠pr:=fun b off e=>(ht b off e).ne h.aC (by decide)
theorem Ea.drop {b off n c k:Nat} (hn:n≤c-k):Ea (if c=k then some (⟨b,off,none⟩:Addr)else some ⟨b,off+k,none⟩) n (c-k):=by
 refine⟨?_,?_,hn⟩
 ·intro h;split at h<;>cases h
 ·intro ad h
  split at h<;>(injection h with h;subst h;exact⟨_,_,rfl⟩)
theorem ah1 {b off:Nat} {L:List Int} {c k:Nat} (h:e9.fF w (some ⟨b,off,none⟩) L) (hc:L.length≤c):e9.fF w (if c=k then some ⟨b,off,none⟩else some ⟨b,off+k,none⟩) (L.drop k):=by
 intro j e hj;have hl:=dc hj;rw [List.length_drop]at hl;rw [if_neg (by omega)];rw [List.getElem?_drop]at hj;obtain⟨b',off',h1,h2,h3⟩:=h _ e hj;have e1:b=b'∧off=off':=by injection h1 with h1;injection h1 with x y;exact⟨x,y⟩
 obtain⟨rfl,rfl⟩:=e1;refine⟨b,off+k,rfl,h2,?_⟩;rw [show off+k+j*e9.m=off+(k+j)*e9.m by show off+k+j*1=off+(k+j)*1;omega];exact h3
theorem ah2 (h:jg W w pr s) (n:Nat) (hn:1≤n) (MZ:n≤8):
 Calls Tryz.prog 141 #[.pointer (some ⟨pr,0,none⟩),.int .i64 n] w fun e w'=>∃v,e= .returned v∧e9.e8 w' v (s.take n).1∧jg W w' pr (s.take n).2∧aD (fun g=>g=pr) w w':=by
 obtain⟨bs,bad⟩:=s;obtain⟨⟨a,c,hb,ho,hlc,hrd,bI⟩,h5,h6,h7,h8⟩:=h;dsimp only at*;have hne:=jg.ne hb bI;have c0:w.cell? ⟨pr,0,none⟩=some (.slice a bs.length c):=hb.cell 0;have c1:w.cell? ⟨pr,1,none⟩=some (.bool bad):=hb.cell 1;have fz:∀o,w.frozen? ⟨pr,o,none⟩=false:=fun o=>hb.frozen o
 have hbad:jg W (w.setCell ⟨pr,1,none⟩ (.bool true)) pr ⟨bs,true⟩:=by
  have hk:=bS w pr 1 (.bool true);exact⟨⟨a,c,hb.aQ 1 (.bool true),ho,hlc,LV hrd hk fun b off e _=>hne b off e,fun b off e=>(bI b off e).keep hk (hne b off e)⟩,h5,h6.setCell (p:=⟨pr,1,none⟩) h5 _,h7,h8⟩
 have R4:=af hbad;have eY:Hid (aD (fun g=>g=pr) w (w.setCell ⟨pr,1,none⟩ (.bool true))):=af (bS w pr 1 (.bool true));clear hbad;cases bad with
 |true=>
  have bK:Hid ((⟨bs,true⟩:cg).take n=([],⟨bs,true⟩)):=af (cg.ahZ rfl);rw [bK.out];clear hb ho hrd hne bI h5 h6 h7 h8;go_enter Tryz.func141,Tryz.ntmps141
  go_wp2_with fail
  go_ret;exact⟨_,rfl,aY.e8.nil,R4.out,eY.out⟩
 |false=>
  by_cases hlt:bs.length<n
  ·have bK:Hid ((⟨bs,false⟩:cg).take n=([],⟨bs,true⟩)):=af (if_pos (.inr hlt))
   rw [bK.out];have hlt':(bs.length:Int)<(n:Int):=by omega
   clear hb ho hrd hne bI h5 h6 h7 h8;go_enter Tryz.func141,Tryz.ntmps141
   go_wp2_with fail
   go_ret;exact⟨_,rfl,aY.e8.nil,R4.out,eY.out⟩
  ·have bK:Hid ((⟨bs,false⟩:cg).take n=(bs.take n,⟨bs.drop n,false⟩)):=af (if_neg (by rintro(h|h);cases h;exact hlt h))
   rw [bK.out];have hlt':¬(bs.length:Int)<(n:Int):=by omega
   have dM:n≤bs.length:=by omega
   have z2:n≤c:=by omega
   cases a with
   |none=>
    have:=(ho.1 rfl).1;omega
   |some ad=>
    obtain⟨b,off,rfl⟩:=ho.2.1 ad rfl;have H1:=af hb;have H2:=af hrd;have H4:=af hlc;have H3:=af hne;have ah3:=af bI;have H5:=af h5;have Gx:=af h6;have rE:=af h7;have Br:=af h8;clear hb ho hrd hne bI h5 h6 h7 h8 R4 eY;go_enter Tryz.func141,Tryz.ntmps141
    go_wp2_with fail
    all_goals (
     go_ret;have hk:=(bS w pr 1 (.bool false)).trans (bS _ pr 0 (.slice (if c=n then some (⟨b,off,none⟩:Addr)else some ⟨b,off+n,none⟩) (bs.length-n) (c-n)));have hs:=((H1.out.aQ 1 (.bool false)).aQ 0 (.slice (if c=n then some (⟨b,off,none⟩:Addr)else some ⟨b,off+n,none⟩) (bs.length-n) (c-n)));have hr:=LV H2.out hk fun b off e _=>H3.out b off e;have er:=(Gx.out.setCell (p:=⟨pr,1,none⟩) H5.out (.bool false)).setCell (p:=⟨pr,0,none⟩) H5.out (.slice (if c=n then some (⟨b,off,none⟩:Addr)else some ⟨b,off+n,none⟩) (bs.length-n) (c-n));have hd:(bs.drop n).length=bs.length-n:=List.length_drop
     have bR:∀b' off',(if c=n then some (⟨b,off,none⟩:Addr)else some ⟨b,off+n,none⟩)=some ⟨b',off',none⟩→bV ((w.setCell ⟨pr,1,none⟩ (.bool false)).setCell ⟨pr,0,none⟩ (.slice (if c=n then some (⟨b,off,none⟩:Addr)else some ⟨b,off+n,none⟩) (bs.length-n) (c-n))) b' 5:=by
      intro b' off' e;split at e<;>(injection e with e;injection e with e1 e2;rw [←e1];exact(ah3.out b off rfl).keep hk (H3.out b off rfl))
     have hok:cg.ok ⟨bs.drop n,false⟩:=fun z hz=>rE.out z (List.mem_of_mem_drop hz);have aP:jg W _ pr ⟨bs.drop n,false⟩:=⟨⟨_,_,by rw [hd];exact hs,Ea.drop (by dsimp only;omega),by dsimp only;omega,ah1 hr H4.out,bR⟩,H5.out,er,hok,by dsimp only;have:=Br.out;omega⟩;have htl:(bs.take n).length=n:=by rw [List.length_take];omega
     have hsl:e9.e8 _ (.slice (some ⟨b,off,none⟩) n c) (bs.take n):=⟨_,_,by rw [htl],⟨fun h=>(by cases h),fun ad h=>⟨b,off,by injection h with h;exact h.symm⟩,by omega⟩,hr.take n⟩;by_cases sQ:c=n
     ·first
       |contradiction
       |(have e0:c-n=0:=by omega
         rw [if_pos sQ,e0]at hk aP hsl;rw [sQ]at hsl;exact⟨_,rfl,hsl,aP,hk⟩)
     ·first
       |contradiction
       |(rw [if_neg sQ]at hk aP hsl;exact⟨_,rfl,hsl,aP,hk⟩))
theorem ah4 {k:Nat} (hk:k<8) {y z:Int} (hy:0≤y) (Ce:y<256^k) (hz:isByte z):bits .or .u64 y (z*256^k)=y+z*256^k:=by
 have e:(256:Int)^k=2^(8*k):=by rw [Int.pow_mul];rfl
 unfold isByte at hz;have hp:(0:Int)<2^(8*k):=Int.pow_pos (by decide);have ah5:(2:Int)^(8*k)≤2^56:=by exact_mod_cast Nat.pow_le_pow_right (n:=2) (by decide) (show 8*k≤56 by omega)
 have hz1:0≤z*2^(8*k):=Int.mul_nonneg hz.1 (Int.le_of_lt hp);have dG:z*2^(8*k)≤255*2^(8*k):=Int.mul_le_mul_of_nonneg_right hz.2 (Int.le_of_lt hp);have aj8:(2:Int)^64=256*2^56:=by decide
 rw [e]at Ce⊢;exact bits_join_low .u64 64 (by decide) wraps_u64 (8*k) y (z*2^(8*k)) hy Ce (by omega) hz1 (Int.mul_emod_left _ _) (by omega)
theorem ZV:∀(l:List Int) (z:Int),leZ (l++ [z])=leZ l+z*256^l.length
 | [],z=>by simp [leZ]
 |x::t,z=>by
  rw [List.cons_append,leZ,ZV t z,leZ,List.length_cons,Int.pow_succ,Int.mul_add,Int.add_assoc,show z*(256^t.length*256)=256*(z*256^t.length)by rw [←Int.mul_assoc,Int.mul_comm _ 256]]
theorem ZW (h:jg W w pr s) (n:Nat) (hn:1≤n) (MZ:n≤8):
 Calls Tryz.prog 118 #[.pointer (some ⟨pr,0,none⟩),.int .i64 n] w fun e w'=>e= .returned (.int .u64 (s.num n).1)∧jg W w' pr (s.num n).2∧aD (fun g=>g=pr) w w':=by
 have H:=af h;have pK:=af hn;have ah6:=af MZ;have hok:=cg.C5 (n:=n) h.ok;have hlen:=cg.take_len n s;have e1:Hid ((s.num n).1=leZ (s.take n).1):=af rfl;have e2:Hid ((s.num n).2=(s.take n).2):=af rfl;rw [e1.out,e2.out];have bK:=af (ah2 h n hn MZ);clear e1 e2 h H pK ah6;generalize (s.take n).1=x at*;generalize (s.take n).2=s' at*;have e6:=af hok.2;have cX:Hid (x.length≤8):=af (by omega);clear hok hlen hn MZ;go_enter Tryz.func118,Tryz.ntmps118
 go_wp2_with fail
 refine bK.out.mono ?_;rintro e w1 ⟨v,rfl,hsl,hrd,hk⟩;have aq:=af hsl;have cM:=af hrd;have eY:=af hk;clear hsl hrd hk bK;obtain⟨a,c,rfl,_,hrd⟩:=aq.out;have rI:=af hrd;clear hrd;go_wp2_with fail
 go_loopw [5,12] (fun y i w'=>∃k:Nat,i= .int .i64 k∧y= .int .u64 (leZ (x.take k))∧k≤x.length∧w1=w') (fun _ i _=>x.length-(RowKit.intOf i).toNat)
 case atStart=>exact⟨0,rfl,rfl,Nat.zero_le _,rfl⟩
 case round=>
  obtain⟨k,rfl,rfl,hk,rfl⟩:=hrel;by_cases hlt:k<x.length
  ·have hlt':(k:Int)<(x.length:Int):=by omega
   have xJ:k<8:=by have:=cX.out;omega
   obtain⟨z,hz⟩:∃z,x[k]? =some z:=⟨_,List.getElem?_eq_getElem hlt⟩;obtain⟨g,off,rfl,_,hc⟩:=rI.out k z hz
   have c0:w1.cell? ⟨g,off+k,none⟩=some (.int .u8 z):=by
    have:=hc 0 _ rfl
    rwa [show off+k*e9.m+0=off+k from by show off+k*1+0=off+k;omega]at this
   have tO:isByte z:=e6.out z (List.mem_of_getElem? hz)
   have k7:x.take (k+1)=x.take k++ [z]:=by
    obtain⟨h1,h2⟩:=lq hz;rw [List.take_succ_eq_append_getElem h1,h2]
   have htl:(x.take k).length=k:=by rw [List.length_take];omega
   have lA:=R2 (x.take k) (fun q hq=>e6.out q (List.mem_of_mem_take hq));rw [htl]at lA;have kx:Hid (bits .or .u64 (leZ (x.take k)) (z*256^k)=leZ (x.take (k+1))):=af (by rw [ah4 xJ lA.1 lA.2 tO,k7,ZV,htl]);have dy:Hid ((2:Int)^(8*k)=256^k):=af (by rw [Int.pow_mul];rfl)
   have ah7:Hid (IntKind.u64.wrap (z*256^k)=z*256^k):=af (by
    have e:(2:Int)^(8*k)=256^k:=by rw [Int.pow_mul];rfl
    have ah5:(2:Int)^(8*k)≤2^56:=by exact_mod_cast Nat.pow_le_pow_right (n:=2) (by decide) (show 8*k≤56 by omega)
    have hp:(0:Int)<2^(8*k):=Int.pow_pos (by decide);have hz1:0≤z*2^(8*k):=Int.mul_nonneg tO.1 (Int.le_of_lt hp);have dG:z*2^(8*k)≤255*2^(8*k):=Int.mul_le_mul_of_nonneg_right tO.2 (Int.le_of_lt hp);rw [←e];exact u64_wrap_id _ hz1 (by omega))
   have Ll:=af tO;have y1:IntKind.i64.wrap (8*(k:Int))=8*(k:Int):=IntWalk.i64_in _ (by omega);have dw:IntKind.u64.wrap z=z:=u64_wrap_id z (by have:=tO.1;omega) (by have:=tO.2;omega);clear hc hz tO k7 htl lA;generalize leZ (x.take k)=yk at*;go_wp2_with fail
   go_roundw
   case rel=>exact⟨k+1,by go_num,by rw [dy.out,ah7.out,kx.out],hlt,by trivial⟩
   case measure=>simp [RowKit.intOf];omega
  ·clear rI
   obtain rfl:k=x.length:=by omega
   rw [List.take_length];go_wp2_with fail
   go_ret;exact⟨by trivial,cM.out,eY.out⟩
end
section
variable {W w w':World} {pr:Nat} {s:cg}
theorem aaF (h:jg W w pr s):
 Calls Tryz.prog 81 #[.pointer (some ⟨pr,0,none⟩)] w fun e w'=>e= .returned (.int .i64 (s.num 1).1)∧jg W w' pr (s.num 1).2∧aD (fun g=>g=pr) w w':=by
 have bK:=af (ZW h 1 (Nat.le_refl 1) (by decide));have hr:=cg.ZN h.ok;generalize (s.num 1).1=x at*;generalize (s.num 1).2=s' at*;have y1:IntKind.i64.wrap x=x:=IntWalk.i64_in _ (by omega);clear h;go_enter Tryz.func81,Tryz.ntmps81
 go_wp2_with fail
 refine bK.out.mono ?_;rintro e w1 ⟨rfl,hrd,hk⟩;have cM:=af hrd;have eY:=af hk;clear hrd hk bK;go_wp2_with fail
 go_ret;exact⟨by trivial,cM.out,eY.out⟩
theorem aaE (h:jg W w pr s):
 Calls Tryz.prog 80 #[.pointer (some ⟨pr,0,none⟩)] w fun e w'=>e= .returned (.int .i64 s.long.1)∧jg W w' pr s.long.2∧aD (fun g=>g=pr) w w':=by
 have bK:=af (ZW h 8 (by decide) (Nat.le_refl 8));have e1:Hid (s.long.1=IntKind.i64.wrap (s.num 8).1):=af rfl;have e2:Hid (s.long.2=(s.num 8).2):=af rfl;rw [e1.out,e2.out];clear e1 e2;generalize (s.num 8).1=x at*;generalize (s.num 8).2=s' at*;have kZ:Hid (IntKind.i64.wrap x=wrap64 x):=af (IntWalk.i64_left x);rw [kZ.out];clear h;go_enter Tryz.func80,Tryz.ntmps80
 go_wp2_with fail
 refine bK.out.mono ?_;rintro e w1 ⟨rfl,hrd,hk⟩;have cM:=af hrd;have eY:=af hk;clear hrd hk bK;go_wp2_with fail
 go_ret;exact⟨by trivial,cM.out,eY.out⟩
def Eg (s:cg):Int:=if s.bad=true then 10 else if s.bs= []then 0 else 15
theorem aaM (h:jg W w pr s):
 Calls Tryz.prog 82 #[.pointer (some ⟨pr,0,none⟩)] w fun e w'=>e= .returned (.int .i64 (Eg s))∧w=w':=by
 obtain⟨bs,bad⟩:=s;obtain⟨a,c,hb,_,_,_,_⟩:=h.box;dsimp only at hb;have c0:w.cell? ⟨pr,0,none⟩=some (.slice a bs.length c):=hb.cell 0;have c1:w.cell? ⟨pr,1,none⟩=some (.bool bad):=hb.cell 1;clear hb h;cases bad with
 |true=>
  go_enter Tryz.func82,Tryz.ntmps82
  go_wp2_with fail
  go_ret;exact⟨by rfl,by trivial⟩
 |false=>
  cases bs with
  |nil=>
   replace c0:w.cell? ⟨pr,0,none⟩=some (.slice a 0 c):=c0;go_enter Tryz.func82,Tryz.ntmps82
   go_wp2_with fail
   go_ret;exact⟨by rfl,by trivial⟩
  |cons x t=>
   obtain⟨n,hn⟩:∃n,(x::t).length=n:=⟨_,rfl⟩;rw [hn]at c0;have hn0:(0:Int)<(n:Int):=by rw [←hn,List.length_cons];omega
   clear hn;go_enter Tryz.func82,Tryz.ntmps82
   go_wp2_with fail
   go_ret;exact⟨by rfl,by trivial⟩
theorem aaH {v:Value} {bs:List Int} (h:e9.e8 w v bs) (hl:bs.length≤900000) (hok:∀z∈bs,isByte z):
 Calls Tryz.prog 79 #[v] w fun e w'=>∃pr,e= .returned (.pointer (some ⟨pr,0,none⟩))∧jg w w' pr ⟨bs,false⟩:=by
 have aU:=af (aal h hl);have cX:=af hl;have e6:=af hok;clear h hl hok;go_enter Tryz.func79,Tryz.ntmps79
 go_wp2_with fail
 refine aU.out.mono ?_;rintro e w1 ⟨v',rfl,hr,hb⟩;have cM:=af hr;have aE:=af hb;clear hr hb aU;obtain⟨a,c,rfl⟩:=cM.out.form;go_wp2_with fail
 go_ret;refine⟨_,rfl,?_⟩;have h1:=cM.out.below (Below.aA w1 (.cells #[.slice a bs.length c,.bool false] 215));obtain⟨a',c',e1,e2,bE⟩:=h1.sl;injection e1 with e1 _ cw;subst e1;subst cw;refine⟨⟨a,c,aj.new w1 _ _,e2,?_,bE,fun b off e=>?_⟩,aE.out.size,aE.out.trans ((Below.aA w1 _).mono aE.out.size),e6.out,cX.out⟩
 ·rcases cM.out.2 with⟨h2,h3⟩|⟨g,cap,cur,h2,h3,h4,h5,_⟩
  ·dsimp only;omega
  ·injection h2 with _ _ h2;subst h2;exact h5
 ·exact dR h1 b (by rw [e];simp [Value.ownBlock])
end
def lu (n:Int):Nat→List Int
 |0=> []
 |k+1=>n % 256::lu (n / 256) k
theorem yY:∀(n:Int) (k:Nat),(lu n k).length=k
 |_,0=>rfl
 |n,k+1=>by rw [lu,List.length_cons,yY]
theorem ZH:∀(n:Int) (k:Nat),∀z∈lu n k,isByte z
 |_,0,z,h=>by simp [lu]at h
 |n,k+1,z,h=>by
  rcases List.mem_cons.1 h with rfl|h
  ·unfold isByte;omega
  ·exact ZH _ k z h
def uR (n:Int) (k:Nat):Int:=n / 256^k
theorem SC:∀(n:Int) (k:Nat),lu n (k+1)=lu n k++ [uR n k % 256]
 |n,0=>by simp [lu,uR]
 |n,k+1=>by
  rw [lu,SC (n / 256) k,lu];unfold uR;rw [List.cons_append,Int.ediv_ediv_of_nonneg (by decide),Int.pow_succ,Int.mul_comm 256]
theorem aaD (n:Int) (k:Nat):uR n (k+1)=uR n k / 256:=by
 unfold uR;rw [Int.ediv_ediv_of_nonneg (Int.le_of_lt (Int.pow_pos (by decide))),Int.pow_succ]
structure R5 (W w:World) (pw:Nat) (L:List Int):Prop where
 box:∃v,aj w pw 223 #[v]∧e9.Row w W.heap.size v L
 base:W.heap.size≤pw
 aF:Below W.heap.size W w
section
variable {W w w':World} {pw:Nat} {L:List Int}
theorem R5.below (h:R5 W w pw L) (hb:Below w.heap.size w w'):R5 W w' pw L:=by
 obtain⟨⟨v,h1,h2⟩,h3,h4⟩:=h;exact⟨⟨v,h1.below hb,h2.below hb⟩,h3,h4.trans (hb.mono h4.size)⟩
end
theorem lp {α:Type} {l:List α} {k:Nat} {x:α} (h:l[k]? =some x):l.take (k+1)=l.take k++ [x]:=by
 obtain⟨h1,h2⟩:=lq h;rw [List.take_succ_eq_append_getElem h1,h2]
def kC (x:Int):List Value:= [.int .i64 x]
theorem agv (x:Int):∀u∈kC x,u.oneCell'=true:=by
 intro u hu;simp only [kC,List.mem_cons,List.not_mem_nil,or_false]at hu;rw [hu];rfl
def eJ:aY Int:=⟨kC,1,fun _=>rfl,agv,by omega,2,23,.int .i64 0,8,Tryz.underlying23,by kernel_rfl,by rfl,by omega⟩
theorem pT {w:World} {a:Option Addr} {n c k:Nat} {L:List Int} {x:Int} (h:eJ.e8 w (.slice a n c) L) (hk:L[k]? =some x):∃b off,a=some ⟨b,off,none⟩∧w.cell? ⟨b,off+k,none⟩=some (.int .i64 x):=by
 obtain⟨b,off,c',h1,_,h3⟩:=h.get hk;injection h1 with h1;refine⟨b,off,h1,?_⟩;have:=h3 0 _ rfl;rw [show off+k*eJ.m+0=off+k by show off+k*1+0=off+k;omega]at this;exact this
theorem X2 {x q b:Int} (h1:0≤x) (h2: -b≤q) (h3:q≤b): -b≤lg x q∧lg x q≤b:=by unfold lg;split<;>omega
theorem Q8 {w:World} {v:Value} {l:List Int} (h:eJ.e8 w v l) (hl:l.length≤250) (hx:∀x∈l,0≤x∧x≤1000000) (q:Int) (h1: -1000000000≤q) (h2:q≤1000000000):
 Calls Tryz.prog 155 #[v,.int .i64 q] w fun e w'=>∃v',e= .returned v'∧eJ.Row w' w.heap.size v' (jF l q)∧Below w.heap.size w w':=by
 have aq:=af h;have bA:=af hx;have cX:=af hl;have gM:Hid (∀k,-1000000000≤n3 (l.take k) q∧n3 (l.take k) q≤1000000000):=af fun k=>Mt (fun x fN=>(hx x (List.mem_of_mem_take fN)).1) h1 h2 (by omega);obtain⟨a,c,rfl,_,_⟩:=h;obtain⟨n,hn⟩:∃n,l.length=n:=⟨_,rfl⟩;rw [hn]at aq⊢;have hnb:n≤250:=by omega
 have HN:=af hn;clear hx h1 h2 hn hl;go_enter Tryz.func155,Tryz.ntmps155
 go_wp2_with fail
 go_loopw [5,6,1] (fun v i y w'=>∃(k:Nat) (z:Int),z=n3 (l.take k) q∧y= .int .i64 z∧i= .int .i64 k∧k≤n∧eJ.Row w' w.heap.size v (jF (l.take k) q)∧Below w.heap.size w w') (fun _ i _ _=>n-(RowKit.intOf i).toNat)
 case atStart=>exact⟨0,q,rfl,rfl,rfl,Nat.zero_le _,aY.Row.nil _ _,Below.refl _ _⟩
 case round=>
  obtain⟨k,z,hz,rfl,rfl,hk,hrow,hb⟩:=hrel;obtain⟨ak,rfl⟩:∃bk:World,bk=wr:=⟨_,rfl⟩;by_cases hlt:k<n
  ·have hlt':(k:Int)<(n:Int):=by omega
   obtain⟨x,gN⟩:∃x,l[k]? =some x:=⟨_,List.getElem?_eq_getElem (by rw [HN.out];exact hlt)⟩;obtain⟨b,off,rfl,c0⟩:=pT (aq.out.below hb) gN;obtain⟨hx0,hx1⟩:=bA.out x (List.mem_of_getElem? gN);obtain⟨cQ,hz1⟩:=gM.out k;rw [←hz]at cQ hz1;have bK:Hid (jF (l.take (k+1)) q=jF (l.take k) q++ [lg x z]):=af (by rw [lp gN,Yj,hz]);have bH:Hid (z-lg x z=n3 (l.take (k+1)) q):=af (by rw [lp gN,Yk,hz]);have iI:Hid ((jF (l.take k) q).length≤250):=af (by rw [r0,List.length_take];have:=cX.out;omega);generalize jF (l.take k) q=M at*;obtain⟨a1,c1,hv⟩:=hrow.form;obtain⟨m,hm⟩:∃m,M.length=m:=⟨_,rfl⟩;rw [hm]at hv;subst hv;have cA:=af hm;have aE:=af hb;have ec:=af hrow;clear hrow hb hz gN hm;by_cases hq:z<x
   ·have hmn:lg x z=z:=if_pos hq
    rw [hmn]at bK bH;have hba:=Below.aA ak (.cells #[.int .i64 z] 2);have iH:=af (ec.out.below hba);have cC:=af (aE.out.trans (hba.mono aE.out.size));have dN:Hid (aj (ak.alloc (.cells #[.int .i64 z] 2)) ak.heap.size 2 (kC z).toArray):=af (aj.new _ _ _);clear hba hmn
    go_wp2_with (first
     |(at_builtin;go_loud (refine eJ.push rfl (.tmp 22) (.tmp 24) rfl w.heap.size (.slice a1 m c1) M rfl iH.out ak.heap.size z rfl dN.out.lt dN.out.fU (by have:=iI.out;omega) cC.out.size ?_)))
    intro v' aK bO cB ez;have cH:=af bO;have fw:=af (gF cB cC.out (cx iH.out));clear bO cB ez;go_wp2_with fail
    go_roundw
    case rel=>exact⟨k+1,_,bH.out,by go_num,by go_num,hlt,by rw [bK.out];exact cH.out,fw.out⟩
    case measure=>simp [RowKit.intOf];omega
   ·have hmn:lg x z=x:=if_neg hq
    rw [hmn]at bK bH;have hba:=Below.aA ak (.cells #[.int .i64 x] 2);have iH:=af (ec.out.below hba);have cC:=af (aE.out.trans (hba.mono aE.out.size));have dN:Hid (aj (ak.alloc (.cells #[.int .i64 x] 2)) ak.heap.size 2 (kC x).toArray):=af (aj.new _ _ _);clear hba hmn
    go_wp2_with (first
     |(at_builtin;go_loud (refine eJ.push rfl (.tmp 22) (.tmp 24) rfl w.heap.size (.slice a1 m c1) M rfl iH.out ak.heap.size x rfl dN.out.lt dN.out.fU (by have:=iI.out;omega) cC.out.size ?_)))
    intro v' aK bO cB ez;have cH:=af bO;have fw:=af (gF cB cC.out (cx iH.out));clear bO cB ez;go_wp2_with fail
    go_roundw
    case rel=>exact⟨k+1,_,bH.out,by go_num,by go_num,hlt,by rw [bK.out];exact cH.out,fw.out⟩
    case measure=>simp [RowKit.intOf];omega
  ·have hkn:k=n:=by omega
   rw [hkn,←HN.out,List.take_length]at hrow;have cM:=af hrow;have aE:=af hb;clear hkn hrow hb hz;go_wp2_with fail
   go_ret;exact⟨_,rfl,cM.out,aE.out⟩
end Go.Proofs.YtmaijkoopjocdaaGreat
