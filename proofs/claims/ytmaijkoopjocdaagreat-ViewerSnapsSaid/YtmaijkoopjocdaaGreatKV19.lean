import Derived.Test.YtmaijkoopjocdaaGreatKV05
import Derived.Test.YtmaijkoopjocdaaGreatKV16
import Derived.Deep.CutRange
set_option maxRecDepth 100000
set_option maxHeartbeats 64000000
namespace Go.Proofs.YtmaijkoopjocdaaGreat
open Go.RowKit Go.Lib
def rN (a b:Int):Int×Bool:=if cz (a+b)then(a+b,true)else(0,false)
def qX (a b:Int):Int×Bool:=if cz (a-b)then(a-b,true)else(0,false)
theorem afn (a b:Int) (w:World) (ha:cz a) (hb:cz b):
 Calls Tryz.prog 145 #[↑a,↑b] w fun e w'=>e= .returned (.tuple #[.int .i64 (rN a b).1,.bool (rN a b).2])∧w=w':=by
 unfold cz at ha hb;by_cases h1:0<b
 ·have y1:IntKind.i64.wrap (9223372036854775807-b)=9223372036854775807-b:=IntWalk.i64_in _ (by omega)
  have h2:¬b<0:=by omega
  by_cases hr:cz (a+b)
  ·have hv:rN a b=(a+b,true):=if_pos hr
   rw [hv];have fI:IntKind.i64.wrap (a+b)=a+b:=IntWalk.i64_in _ hr;unfold cz at hr;have h3:¬9223372036854775807-b<a:=by omega
   clear hr hv ha hb;go_enter Tryz.func145,Tryz.ntmps145
   go_wp2_with fail
   go_ret2
   exact⟨by trivial,by trivial⟩
  ·have hv:rN a b=(0,false):=if_neg hr
   rw [hv];unfold cz at hr;have h3:9223372036854775807-b<a:=by omega
   clear hr hv ha hb;go_enter Tryz.func145,Tryz.ntmps145
   go_wp2_with fail
   go_ret2
   exact⟨by trivial,by trivial⟩
 ·by_cases h2:b<0
  ·have y1:IntKind.i64.wrap (-9223372036854775808-b)= -9223372036854775808-b:=IntWalk.i64_in _ (by omega)
   by_cases hr:cz (a+b)
   ·have hv:rN a b=(a+b,true):=if_pos hr
    rw [hv];have fI:IntKind.i64.wrap (a+b)=a+b:=IntWalk.i64_in _ hr;unfold cz at hr;have h3:¬a< -9223372036854775808-b:=by omega
    clear hr hv ha hb;go_enter Tryz.func145,Tryz.ntmps145
    go_wp2_with fail
    go_ret2
    exact⟨by trivial,by trivial⟩
   ·have hv:rN a b=(0,false):=if_neg hr
    rw [hv];unfold cz at hr;have h3:a< -9223372036854775808-b:=by omega
    clear hr hv ha hb;go_enter Tryz.func145,Tryz.ntmps145
    go_wp2_with fail
    go_ret2
    exact⟨by trivial,by trivial⟩
  ·have hr:cz (a+b):=by unfold cz;omega
   have hv:rN a b=(a+b,true):=if_pos hr;rw [hv];have fI:IntKind.i64.wrap (a+b)=a+b:=IntWalk.i64_in _ hr;clear hr hv ha hb;go_enter Tryz.func145,Tryz.ntmps145
   go_wp2_with fail
   go_ret2
   exact⟨by trivial,by trivial⟩
theorem WT (a b:Int) (w:World) (ha:cz a) (hb:cz b):
 Calls Tryz.prog 146 #[↑a,↑b] w fun e w'=>e= .returned (.tuple #[.int .i64 (qX a b).1,.bool (qX a b).2])∧w=w':=by
 unfold cz at ha hb;by_cases h1:b<0
 ·have y1:IntKind.i64.wrap (9223372036854775807+b)=9223372036854775807+b:=IntWalk.i64_in _ (by omega)
  have h2:¬0<b:=by omega
  by_cases hr:cz (a-b)
  ·have hv:qX a b=(a-b,true):=if_pos hr
   rw [hv];have fI:IntKind.i64.wrap (a-b)=a-b:=IntWalk.i64_in _ hr;unfold cz at hr;have h3:¬9223372036854775807+b<a:=by omega
   clear hr hv ha hb;go_enter Tryz.func146,Tryz.ntmps146
   go_wp2_with fail
   go_ret2
   exact⟨by trivial,by trivial⟩
  ·have hv:qX a b=(0,false):=if_neg hr
   rw [hv];unfold cz at hr;have h3:9223372036854775807+b<a:=by omega
   clear hr hv ha hb;go_enter Tryz.func146,Tryz.ntmps146
   go_wp2_with fail
   go_ret2
   exact⟨by trivial,by trivial⟩
 ·by_cases h2:0<b
  ·have y1:IntKind.i64.wrap (-9223372036854775808+b)= -9223372036854775808+b:=IntWalk.i64_in _ (by omega)
   by_cases hr:cz (a-b)
   ·have hv:qX a b=(a-b,true):=if_pos hr
    rw [hv];have fI:IntKind.i64.wrap (a-b)=a-b:=IntWalk.i64_in _ hr;unfold cz at hr;have h3:¬a< -9223372036854775808+b:=by omega
    clear hr hv ha hb;go_enter Tryz.func146,Tryz.ntmps146
    go_wp2_with fail
    go_ret2
    exact⟨by trivial,by trivial⟩
   ·have hv:qX a b=(0,false):=if_neg hr
    rw [hv];unfold cz at hr;have h3:a< -9223372036854775808+b:=by omega
    clear hr hv ha hb;go_enter Tryz.func146,Tryz.ntmps146
    go_wp2_with fail
    go_ret2
    exact⟨by trivial,by trivial⟩
  ·have hr:cz (a-b):=by unfold cz;omega
   have hv:qX a b=(a-b,true):=if_pos hr;rw [hv];have fI:IntKind.i64.wrap (a-b)=a-b:=IntWalk.i64_in _ hr;clear hr hv ha hb;go_enter Tryz.func146,Tryz.ntmps146
   go_wp2_with fail
   go_ret2
   exact⟨by trivial,by trivial⟩
structure Qv (p:Prod):Prop where
 Cg:p.months.length≤9223372036854775807
 tick:cz p.tick
 wide:cz p.wide
 rule:cz p.rule
 top:cz p.top
 least:cz p.least
 part:cz p.part
theorem av.fill {w:World} {g:Nat} {t:TypeId} {x0 x1 aZ cl cw eK gF g5 k5 sB Na:Value} (h:av w g t #[x0,x1,aZ,cl,cw,eK,gF,g5,k5,sB,Na]) (v0 v1 v2 v3 v4 v5 v6 jt lH v9 v10:Value):av (((((((((((w.setCell ↑g v0).setCell ⟨g,1,none⟩ v1).setCell ⟨g,2,none⟩ v2).setCell ⟨g,3,none⟩ v3).setCell ⟨g,4,none⟩ v4).setCell ⟨g,5,none⟩ v5).setCell ⟨g,6,none⟩ v6).setCell ⟨g,7,none⟩ jt).setCell ⟨g,8,none⟩ lH).setCell ⟨g,9,none⟩ v9).setCell ⟨g,10,none⟩ v10) g t #[v0,v1,v2,v3,v4,v5,v6,jt,lH,v9,v10]:=by
 have h1:=(((((((((((h.aW 0 v0).aW 1 v1).aW 2 v2).aW 3 v3).aW 4 v4).aW 5 v5).aW 6 v6).aW 7 jt).aW 8 lH).aW 9 v9).aW 10 v10);simp only [List.setIfInBounds_toArray,List.set_cons_zero,List.set_cons_succ]at h1;exact h1
theorem aK.fill (w:World) (g:Nat) (v0 v1 v2 v3 v4 v5 v6 jt lH v9 v10:Value):aK (fun k=>k=g) w (((((((((((w.setCell ↑g v0).setCell ⟨g,1,none⟩ v1).setCell ⟨g,2,none⟩ v2).setCell ⟨g,3,none⟩ v3).setCell ⟨g,4,none⟩ v4).setCell ⟨g,5,none⟩ v5).setCell ⟨g,6,none⟩ v6).setCell ⟨g,7,none⟩ jt).setCell ⟨g,8,none⟩ lH).setCell ⟨g,9,none⟩ v9).setCell ⟨g,10,none⟩ v10):=
 ((((((((((((aK.refl (fun k=>k=g) w).setCell (p:=⟨g,0,none⟩) (fun _=>rfl) v0).setCell (p:=⟨g,1,none⟩) (fun _=>rfl) v1).setCell (p:=⟨g,2,none⟩) (fun _=>rfl) v2).setCell (p:=⟨g,3,none⟩) (fun _=>rfl) v3).setCell (p:=⟨g,4,none⟩) (fun _=>rfl) v4).setCell (p:=⟨g,5,none⟩) (fun _=>rfl) v5).setCell (p:=⟨g,6,none⟩) (fun _=>rfl) v6).setCell (p:=⟨g,7,none⟩) (fun _=>rfl) jt).setCell (p:=⟨g,8,none⟩) (fun _=>rfl) lH).setCell (p:=⟨g,9,none⟩) (fun _=>rfl) v9).setCell (p:=⟨g,10,none⟩) (fun _=>rfl) v10)
def kc (tick rule top least part wide:Int) (ma:Option Addr) (mc:Nat) (sa:Option Addr) (sc k:Nat):Array Value:=#[.string ⟨#[206,169]⟩,.slice ma k mc,.int .i64 tick,.int .i64 (-20*tick),.int .i64 (100*tick),.int .i64 wide,.int .i64 rule,.int .i64 top,.int .i64 least,.int .i64 part,.slice sa k sc]
theorem afo (p:Prod) (w:World) (hx:Qv p):
 Calls Tryz.prog 8 #[p.agg] w fun e w'=>∃(k:xk) (ma:Option Addr) (mc:Nat) (sa:Option Addr) (sc:Nat),k.ok∧e= .returned (k.prod ma mc sa sc).agg∧gM w' (k.prod ma mc sa sc)∧Below w.heap.size w w':=by
 obtain⟨hx0,hx1,uE,JT,WU,JU,JV⟩:=hx;unfold Prod.agg Prod.cells;have s1:=ak;have DH:Hid (PC (w.alloc (.cells #[.string p.code,.slice p.ma p.months.length p.mc,↑p.tick,↑p.low,↑p.high,↑p.wide,↑p.rule,↑p.top,↑p.least,↑p.part,.slice p.sa p.settle.length p.sc] 25)) w.heap.size p):=af (PC.new w p);have fE:Hid (Below w.heap.size w (w.alloc (.cells #[.string p.code,.slice p.ma p.months.length p.mc,↑p.tick,↑p.low,↑p.high,↑p.wide,↑p.rule,↑p.top,↑p.least,↑p.part,.slice p.sa p.settle.length p.sc] 25))):=af (Below.aI _ _);have Qw:Hid ((w.alloc (.cells #[.string p.code,.slice p.ma p.months.length p.mc,↑p.tick,↑p.low,↑p.high,↑p.wide,↑p.rule,↑p.top,↑p.least,↑p.part,.slice p.sa p.settle.length p.sc] 25)).heap.size=w.heap.size+1):=af (s1 _ _);have hw1:=oq (p.months.length:Int) 0 3 (by omega);obtain⟨n,hn⟩:∃n:Nat,2+ew (p.months.length:Int) 0 3=(n:Int):=⟨(2+ew (p.months.length:Int) 0 3).toNat,by omega⟩;have vH:=oq p.tick 0 9 (by omega);obtain⟨tick,WV⟩:=ai (1+ew p.tick 0 9:Int);have JS:=oq p.rule 0 2 (by omega);have Qx:=oq p.top 0 9 (by omega);have WW:=oq p.least 0 4 (by omega);have r7:=oq p.part 0 100 (by omega);have aml:=oq p.wide 0 60 (by omega);have H1:=af fun w=>v8 (p.months.length:Int) 0 3 w (by omega) (by omega) (by omega) (by omega) (by omega);have H2:=af fun w=>v8 p.tick 0 9 w hx1.1 hx1.2 (by omega) (by omega) (by omega);have s6:=af fun w=>v8 p.wide 0 60 w uE.1 uE.2 (by omega) (by omega) (by omega);have HN:=af hn;have dN:=af WV;have hnb:2≤n∧n≤5:=by omega
 have htb:1≤tick∧tick≤10:=by omega
 have Cw: -9223372036854775808≤p.rule∧p.rule≤9223372036854775807:=JT;have w8: -9223372036854775808≤p.top∧p.top≤9223372036854775807:=WU;have afp: -9223372036854775808≤p.least∧p.least≤9223372036854775807:=JU;have Nb: -9223372036854775808≤p.part∧p.part≤9223372036854775807:=JV;clear hx0 hx1 uE JT WU JU JV hn WV hw1 vH;generalize ew (p.months.length:Int) 0 3=v1 at*;generalize ew p.tick 0 9=v2 at*;generalize ew p.wide 0 60=jt at*;have x1:IntKind.i64.wrap (2+v1)=(n:Int):=by rw [←HN.out];exact IntWalk.i64_in _ (by have:=HN.out;omega)
 have aZ:IntKind.i64.wrap (1+v2)=tick:=by rw [←dN.out];exact IntWalk.i64_in _ (by have:=dN.out;omega)
 go_enter Tryz.func8,Tryz.ntmps8
 go_wp2_with fail
 refine(H1.out _).mono ?_;rintro e w1 ⟨rfl,rfl⟩;go_wp2_with fail
 refine(H2.out _).mono ?_;rintro e w1 ⟨rfl,rfl⟩;go_upto_region 3 with(fail)
 have hz1:((w.alloc (.cells #[.string p.code,.slice p.ma p.months.length p.mc,↑p.tick,↑p.low,↑p.high,↑p.wide,↑p.rule,↑p.top,↑p.least,↑p.part,.slice p.sa p.settle.length p.sc] 25)).alloc (.cells #[.string ⟨#[]⟩,.slice none 0 0,.int .i64 0,.int .i64 0,.int .i64 0,.int .i64 0,.int .i64 0,.int .i64 0,.int .i64 0,.int .i64 0,.slice none 0 0] 25)).heap.size=w.heap.size+2:=by rw [s1,s1]
 have oF:Below w.heap.size w ((w.alloc (.cells #[.string p.code,.slice p.ma p.months.length p.mc,↑p.tick,↑p.low,↑p.high,↑p.wide,↑p.rule,↑p.top,↑p.least,↑p.part,.slice p.sa p.settle.length p.sc] 25)).alloc (.cells #[.string ⟨#[]⟩,.slice none 0 0,.int .i64 0,.int .i64 0,.int .i64 0,.int .i64 0,.int .i64 0,.int .i64 0,.int .i64 0,.int .i64 0,.slice none 0 0] 25)):=fE.out.alloc fE.out.size _;have iR:PC ((w.alloc (.cells #[.string p.code,.slice p.ma p.months.length p.mc,↑p.tick,↑p.low,↑p.high,↑p.wide,↑p.rule,↑p.top,↑p.least,↑p.part,.slice p.sa p.settle.length p.sc] 25)).alloc (.cells #[.string ⟨#[]⟩,.slice none 0 0,.int .i64 0,.int .i64 0,.int .i64 0,.int .i64 0,.int .i64 0,.int .i64 0,.int .i64 0,.int .i64 0,.slice none 0 0] 25)) w.heap.size p:=DH.out.below (Below.aI _ _) (by rw [Qw.out];omega)
 have fY:av ((w.alloc (.cells #[.string p.code,.slice p.ma p.months.length p.mc,↑p.tick,↑p.low,↑p.high,↑p.wide,↑p.rule,↑p.top,↑p.least,↑p.part,.slice p.sa p.settle.length p.sc] 25)).alloc (.cells #[.string ⟨#[]⟩,.slice none 0 0,.int .i64 0,.int .i64 0,.int .i64 0,.int .i64 0,.int .i64 0,.int .i64 0,.int .i64 0,.int .i64 0,.slice none 0 0] 25)) (w.heap.size+1) 25 #[.string ⟨#[]⟩,.slice none 0 0,.int .i64 0,.int .i64 0,.int .i64 0,.int .i64 0,.int .i64 0,.int .i64 0,.int .i64 0,.int .i64 0,.slice none 0 0]:=by
  have:=av.new (w.alloc (.cells #[.string p.code,.slice p.ma p.months.length p.mc,↑p.tick,↑p.low,↑p.high,↑p.wide,↑p.rule,↑p.top,↑p.least,↑p.part,.slice p.sa p.settle.length p.sc] 25)) 25 #[.string ⟨#[]⟩,.slice none 0 0,.int .i64 0,.int .i64 0,.int .i64 0,.int .i64 0,.int .i64 0,.int .i64 0,.int .i64 0,.int .i64 0,.slice none 0 0];rw [Qw.out]at this;exact this
 clear DH fE Qw;generalize ((w.alloc (.cells #[.string p.code,.slice p.ma p.months.length p.mc,↑p.tick,↑p.low,↑p.high,↑p.wide,↑p.rule,↑p.top,↑p.least,↑p.part,.slice p.sa p.settle.length p.sc] 25)).alloc (.cells #[.string ⟨#[]⟩,.slice none 0 0,.int .i64 0,.int .i64 0,.int .i64 0,.int .i64 0,.int .i64 0,.int .i64 0,.int .i64 0,.int .i64 0,.slice none 0 0] 25))=wb at*;have zL:=af hz1;have Nc:=af oF;have sC:=af iR;have dG:=af fY;obtain⟨b0,b1,b2,b3,b4,bk,bw,bn,bC,bD,bu⟩:=iR;clear b0 b1 b2 b3 b4 bu hz1 oF fY;have y1:IntKind.i64.wrap (-20*tick)= -20*tick:=IntWalk.i64_in _ (by omega);have fI:IntKind.i64.wrap (100*tick)=100*tick:=IntWalk.i64_in _ (by omega);have lF:IntKind.i64.wrap (1+ew p.rule 0 2)=1+ew p.rule 0 2:=IntWalk.i64_in _ (by omega);have CN:IntKind.i64.wrap (1+ew p.least 0 4)=1+ew p.least 0 4:=IntWalk.i64_in _ (by omega);go_cut [5] (fun v wx=>v= .pointer ↑wb.heap.size∧wx=(wb.alloc (.cells (kc tick (1+ew p.rule 0 2) (ew p.top 0 9) (1+ew p.least 0 4) (ew p.part 0 100) 0 none 0 none 0 0) 25)).drew)
 case first=>
  have Nd:Hid (∀o:Obj,(wb.alloc o).cell? ⟨w.heap.size,6,none⟩=some ↑p.rule∧(wb.alloc o).cell? ⟨w.heap.size,7,none⟩=some ↑p.top∧(wb.alloc o).cell? ⟨w.heap.size,8,none⟩=some ↑p.least∧(wb.alloc o).cell? ⟨w.heap.size,9,none⟩=some ↑p.part):=af fun o=>by
   obtain⟨_,_,_,_,_,_,fJ,gL,iC,kp,_⟩:=sC.out.below (Below.aI wb o) (by rw [zL.out];omega);exact⟨fJ,gL,iC,kp⟩
  go_region_held3 (fun w'=>w'.cell? ⟨w.heap.size,6,none⟩=some ↑p.rule∧w'.cell? ⟨w.heap.size,7,none⟩=some ↑p.top∧w'.cell? ⟨w.heap.size,8,none⟩=some ↑p.least∧w'.cell? ⟨w.heap.size,9,none⟩=some ↑p.part)
   (first
    |exact⟨bw,bn,bC,bD⟩
    |exact Nd.out _)
   (first
    |(go_at_call 14;refine(v8 _ _ _ _ (by omega) (by omega) (by omega) (by omega) (by omega)).mono ?_;rintro e aA ⟨rfl,rfl⟩))
  all_goals (go_wp2_with fail;go_meet)
  all_goals exact⟨rfl,rfl⟩
 case rest=>
 obtain⟨rfl,rfl⟩:=hcut;clear bw bn bC bD bk y1 fI lF CN Cw w8 afp Nb;generalize ew p.rule 0 2=v3 at*;generalize ew p.top 0 9=v4 at*;generalize ew p.least 0 4=v5 at*;generalize ew p.part 0 100=v6 at*;have hD:Below wb.heap.size wb (wb.alloc (.cells (kc tick (1+v3) v4 (1+v5) v6 0 none 0 none 0 0) 25)).drew:=(Below.aI _ _).drew;have hP:av (wb.alloc (.cells (kc tick (1+v3) v4 (1+v5) v6 0 none 0 none 0 0) 25)).drew wb.heap.size 25 (kc tick (1+v3) v4 (1+v5) v6 0 none 0 none 0 0):=av.new wb _ _;generalize (wb.alloc (.cells (kc tick (1+v3) v4 (1+v5) v6 0 none 0 none 0 0) 25)).drew=wc at*;have WX:=sC.out.below hD (by rw [zL.out];omega);have bk:=WX.2.2.2.2.2.1;have uF:=ag Nc hD;have eA:=af (dG.out.keeps (Below.keeps (F:=fun _=>False) hD) (fun x=>x));obtain⟨wd,hwd⟩:=ai (5+jt:Int);have eK:IntKind.i64.wrap (5+jt)=wd:=by rw [←hwd];exact IntWalk.i64_in _ (by omega)
 have Qy:5≤wd∧wd≤65:=by omega
 have amm:=ED htb.1 Qy.1 Qy.2;have gF:IntKind.i64.wrap (tick*wd)=tick*wd:=IntWalk.i64_in _ (by omega);have we:wb.heap.size=w.heap.size+2:=zL.out;rw [we]at hP⊢;have b8:wc.cell? ⟨w.heap.size+2,5,none⟩=some (.int .i64 0):=by rw [hP.cell];rfl
 have f5:wc.frozen? ⟨w.heap.size+2,5,none⟩=false:=hP.frozen 5;have sZ:=af hP;have afq:w.heap.size+3≤wc.heap.size:=by have:=hP.lt;omega
 clear hP hD WX hwd sC dG zL Nc we;go_wp2_with fail
 refine(s6.out _).mono ?_;rintro e aN ⟨rfl,rfl⟩;go_wp2_with fail
 have Qz:av (wc.setCell ⟨w.heap.size+2,5,none⟩ (.int .i64 (tick*wd))) (w.heap.size+2) 25 (kc tick (1+v3) v4 (1+v5) v6 (tick*wd) none 0 none 0 0):=sZ.out.aW 5 (.int .i64 (tick*wd));have WY:Below w.heap.size w (wc.setCell ⟨w.heap.size+2,5,none⟩ (.int .i64 (tick*wd))):=uF.out.setCell (p:=⟨w.heap.size+2,5,none⟩) (by show w.heap.size≤w.heap.size+2;omega) _;have zT:av (wc.setCell ⟨w.heap.size+2,5,none⟩ (.int .i64 (tick*wd))) (w.heap.size+1) 25 #[.string ⟨#[]⟩,.slice none 0 0,.int .i64 0,.int .i64 0,.int .i64 0,.int .i64 0,.int .i64 0,.int .i64 0,.int .i64 0,.int .i64 0,.slice none 0 0]:=eA.out.cC (p:=⟨w.heap.size+2,5,none⟩) (by show w.heap.size+1≠w.heap.size+2;omega) _;have afr:w.heap.size+3≤(wc.setCell ⟨w.heap.size+2,5,none⟩ (.int .i64 (tick*wd))).heap.size:=by have:=Qz.lt;omega
 clear sZ uF eA bk b8 f5 afq;generalize wc.setCell ⟨w.heap.size+2,5,none⟩ (.int .i64 (tick*wd))=amn at*;go_loopw [6] (fun i w'=>∃k:Nat,i=↑k∧k≤n∧∃ma mc sa sc,av w' (w.heap.size+2) 25 (kc tick (1+v3) v4 (1+v5) v6 (tick*wd) ma mc sa sc k)∧q2 w' w.heap.size 3 (.slice ma k mc) (rP k)∧q2 w' w.heap.size 2 (.slice sa k sc) (oN tick k)∧Below w.heap.size w w'∧av w' (w.heap.size+1) 25 #[.string ⟨#[]⟩,.slice none 0 0,.int .i64 0,.int .i64 0,.int .i64 0,.int .i64 0,.int .i64 0,.int .i64 0,.int .i64 0,.int .i64 0,.slice none 0 0]) (fun i _=>n-(RowKit.intOf i).toNat)
 case atStart=>exact⟨0,rfl,Nat.zero_le _,none,0,none,0,Qz,World.ownsRow_nil _ _ _ _,World.ownsRow_nil _ _ _ _,WY,zT⟩
 case round=>
  clear Qz WY zT afr;obtain⟨k,rfl,hk,ma,mc,sa,sc,hP,fF,hS,hB,hG⟩:=hrel;obtain⟨bh,rfl⟩:=aj wr;have dx:=af hP;have cM:=af fF;have aD:=af hS;have aG:=af hB;have bU:=af hG;clear hP fF hS hB hG;by_cases hkn:k<n
  ·have G1:(k:Int)<(n:Int):=by omega
   have c1:bh.cell? ⟨w.heap.size+2,1,none⟩=some (.slice ma k mc):=by rw [dx.out.cell];rfl
   have amo:=dx.out.lt
   go_wp2_with (first
    |(at_builtin;refine afs rfl (.tmp 49) (.tmp 53) rfl w.heap.size ma mc k (rP k) (G2 k) rfl (Nf cM.out (Below.aI _ _)) bh.heap.size (10*(k:Int)+3) rfl (by rw [(av.new bh 3 #[.int .i64 (10*(k:Int)+3)]).cell];rfl) (by omega) (by rw [s1];omega) ?_))
   intro g1 m6 aA dl gb aft;have rz:=JW cM.out gb dx.out (by decide);have JX:=JW cM.out gb bU.out (by decide);have WZ:q2 aA w.heap.size 2 (.slice sa k sc) (oN tick k):=W0 cM.out gb aD.out (by decide);have EE:=QA cM.out gb aG.out;rw [←afu]at dl;have b8:aA.cell? ⟨w.heap.size+2,1,none⟩=some (.slice ma k mc):=by rw [rz.cell];rfl
   have f5:aA.frozen? ⟨w.heap.size+2,1,none⟩=false:=rz.frozen 1;have W3:=rz.aW 1 (.slice ↑g1 (k+1) m6);have W4:q2 (aA.setCell ⟨w.heap.size+2,1,none⟩ (.slice ↑g1 (k+1) m6)) w.heap.size 3 (.slice ↑g1 (k+1) m6) (rP (k+1)):=JY dl rz (by decide) 1 _;have W5:q2 (aA.setCell ⟨w.heap.size+2,1,none⟩ (.slice ↑g1 (k+1) m6)) w.heap.size 2 (.slice sa k sc) (oN tick k):=JY WZ rz (by decide) 1 _;have W6:=JX.cC (p:=⟨w.heap.size+2,1,none⟩) (by show w.heap.size+1≠w.heap.size+2;omega) (.slice ↑g1 (k+1) m6);have W7:=EE.setCell (p:=⟨w.heap.size+2,1,none⟩) (by show w.heap.size≤w.heap.size+2;omega) (.slice ↑g1 (k+1) m6);have Ng:=af W3;have O1:=af W4;have CO:=af W5;have m9:=af W6;have b7:=af W7;have amq:w.heap.size≤aA.heap.size:=EE.size;clear W3 W4 W5 W6 W7 rz JX WZ EE dl gb aft c1;obtain⟨sv,QB⟩:=ai (tick*(10+(k:Int)):Int);have hsb:=ED htb.1 (i:=10+(k:Int)) (a:=10) (b:=15) (by omega) (by omega);have g5:IntKind.i64.wrap (tick*(10+(k:Int)))=sv:=by rw [←QB];exact IntWalk.i64_in _ (by omega)
   have afv:=af QB;clear QB;go_upto_region 9 with(fail)
   clear b8 f5;generalize aA.setCell ⟨w.heap.size+2,1,none⟩ (.slice ↑g1 (k+1) m6)=aN at*;have wh:aN.cell? ⟨w.heap.size+2,10,none⟩=some (.slice sa k sc):=by rw [Ng.out.cell];rfl
   go_wp2_with (first
    |(at_builtin;refine afw rfl (.tmp 57) (.tmp 62) rfl w.heap.size sa sc k (oN tick k) (G3 tick k) rfl (Nf CO.out (Below.aI _ _)) aN.heap.size sv rfl (by rw [(av.new aN 2 #[↑sv]).cell];rfl) (by omega) (by rw [s1];have:=b7.out.size;omega) ?_))
   intro g2 oD bf lQ er afx;have zU:=JW CO.out er Ng.out (by decide);have W8:=JW CO.out er m9.out (by decide);have W9:q2 bf w.heap.size 3 (.slice ↑g1 (k+1) m6) (rP (k+1)):=W0 CO.out er O1.out (by decide);have Xa:=QA CO.out er b7.out;rw [←afv.out,←afy]at lQ;have gL:bf.cell? ⟨w.heap.size+2,10,none⟩=some (.slice sa k sc):=by rw [zU.cell];rfl
   have f7:bf.frozen? ⟨w.heap.size+2,10,none⟩=false:=zU.frozen 10;have Xb:=zU.aW 10 (.slice ↑g2 (k+1) oD);have Xc:q2 (bf.setCell ⟨w.heap.size+2,10,none⟩ (.slice ↑g2 (k+1) oD)) w.heap.size 3 (.slice ↑g1 (k+1) m6) (rP (k+1)):=JY W9 zU (by decide) 10 _;have Cc:q2 (bf.setCell ⟨w.heap.size+2,10,none⟩ (.slice ↑g2 (k+1) oD)) w.heap.size 2 (.slice ↑g2 (k+1) oD) (oN tick (k+1)):=JY lQ zU (by decide) 10 _;have Xd:=W8.cC (p:=⟨w.heap.size+2,10,none⟩) (by show w.heap.size+1≠w.heap.size+2;omega) (.slice ↑g2 (k+1) oD);have Xe:=Xa.setCell (p:=⟨w.heap.size+2,10,none⟩) (by show w.heap.size≤w.heap.size+2;omega) (.slice ↑g2 (k+1) oD);have afz:=af Xb;have Ci:=af Xc;have tE:=af Cc;have qF:=af Xd;have lz:=af Xe;clear Xb Xc Cc Xd Xe zU W8 W9 Xa lQ er afx wh;go_wp2_with fail
   go_roundw
   case rel=>exact⟨k+1,by go_num,by omega,_,_,_,_,afz.out,Ci.out,tE.out,lz.out,qF.out⟩
   case measure=>simp [RowKit.intOf];omega
  ·obtain rfl:k=n:=by omega
   have hnn:¬(k:Int)<(k:Int):=by omega
   obtain⟨b0,b1,b2,b3,b4,bk,bw,bn,bC,bD,bu⟩:PC bh (w.heap.size+2) ((⟨k,tick,1+v3,v4,1+v5,v6,wd⟩:xk).prod ma mc sa sc):=by
    have h:∀i,bh.cell? ⟨w.heap.size+2,i,none⟩=(kc tick (1+v3) v4 (1+v5) v6 (tick*wd) ma mc sa sc k)[i]? :=fun i=>dx.out.cell i;unfold PC xk.prod;simp only [G2,G3];exact⟨h 0,h 1,h 2,h 3,h 4,h 5,h 6,h 7,h 8,h 9,h 10⟩
   simp only [xk.prod,G2,G3]at b0 b1 b2 b3 b4 bk bw bn bC bD bu;have hg:∀i,bh.cell? ⟨w.heap.size+1,i,none⟩=(#[.string ⟨#[]⟩,.slice none 0 0,.int .i64 0,.int .i64 0,.int .i64 0,.int .i64 0,.int .i64 0,.int .i64 0,.int .i64 0,.int .i64 0,.slice none 0 0]:Array Value)[i]? :=fun i=>bU.out.cell i;have d0:=hg 0;have d1:=hg 1;have d2:=hg 2;have d3:=hg 3;have d4:=hg 4;have d5:=hg 5;have d6:=hg 6;have d7:=hg 7;have d8:=hg 8;have d9:=hg 9;have d10:=hg 10;have fz:∀i,bh.frozen? ⟨w.heap.size+1,i,none⟩=false:=fun i=>bU.out.frozen i;clear hg;go_wp2_with fail
   clear d0 d1 d2 d3 d4 d5 d6 d7 d8 d9 d10 fz b0 b1 b2 b3 b4 bk bw bn bC bD bu;have hk:aK (fun g=>g=w.heap.size+1) bh (((((((((((bh.setCell ⟨w.heap.size+1,0,none⟩ (.string ⟨#[206,169]⟩)).setCell ⟨w.heap.size+1,1,none⟩ (.slice ma k mc)).setCell ⟨w.heap.size+1,2,none⟩ ↑tick).setCell ⟨w.heap.size+1,3,none⟩ (.int .i64 (-20*tick))).setCell ⟨w.heap.size+1,4,none⟩ (.int .i64 (100*tick))).setCell ⟨w.heap.size+1,5,none⟩ (.int .i64 (tick*wd))).setCell ⟨w.heap.size+1,6,none⟩ (.int .i64 (1+v3))).setCell ⟨w.heap.size+1,7,none⟩ ↑v4).setCell ⟨w.heap.size+1,8,none⟩ (.int .i64 (1+v5))).setCell ⟨w.heap.size+1,9,none⟩ ↑v6).setCell ⟨w.heap.size+1,10,none⟩ (.slice sa k sc)):=aK.fill _ _ _ _ _ _ _ _ _ _ _ _ _;have hB:av (((((((((((bh.setCell ⟨w.heap.size+1,0,none⟩ (.string ⟨#[206,169]⟩)).setCell ⟨w.heap.size+1,1,none⟩ (.slice ma k mc)).setCell ⟨w.heap.size+1,2,none⟩ ↑tick).setCell ⟨w.heap.size+1,3,none⟩ (.int .i64 (-20*tick))).setCell ⟨w.heap.size+1,4,none⟩ (.int .i64 (100*tick))).setCell ⟨w.heap.size+1,5,none⟩ (.int .i64 (tick*wd))).setCell ⟨w.heap.size+1,6,none⟩ (.int .i64 (1+v3))).setCell ⟨w.heap.size+1,7,none⟩ ↑v4).setCell ⟨w.heap.size+1,8,none⟩ (.int .i64 (1+v5))).setCell ⟨w.heap.size+1,9,none⟩ ↑v6).setCell ⟨w.heap.size+1,10,none⟩ (.slice sa k sc)) (w.heap.size+1) 25 (kc tick (1+v3) v4 (1+v5) v6 (tick*wd) ma mc sa sc k):=bU.out.fill _ _ _ _ _ _ _ _ _ _ _;generalize (((((((((((bh.setCell ⟨w.heap.size+1,0,none⟩ (.string ⟨#[206,169]⟩)).setCell ⟨w.heap.size+1,1,none⟩ (.slice ma k mc)).setCell ⟨w.heap.size+1,2,none⟩ ↑tick).setCell ⟨w.heap.size+1,3,none⟩ (.int .i64 (-20*tick))).setCell ⟨w.heap.size+1,4,none⟩ (.int .i64 (100*tick))).setCell ⟨w.heap.size+1,5,none⟩ (.int .i64 (tick*wd))).setCell ⟨w.heap.size+1,6,none⟩ (.int .i64 (1+v3))).setCell ⟨w.heap.size+1,7,none⟩ ↑v4).setCell ⟨w.heap.size+1,8,none⟩ (.int .i64 (1+v5))).setCell ⟨w.heap.size+1,9,none⟩ ↑v6).setCell ⟨w.heap.size+1,10,none⟩ (.slice sa k sc))=wf at*;have fF:q2 wf w.heap.size 3 (.slice ma k mc) (rP k):=zv cM.out hk fun g h1 h2=>(eo cM.out g h1).ne bU.out.aE (by decide) h2;have hS:q2 wf w.heap.size 2 (.slice sa k sc) (oN tick k):=zv aD.out hk fun g h1 h2=>(eo aD.out g h1).ne bU.out.aE (by decide) h2;have EF:Below w.heap.size w wf:=aG.out.trans (hk.below (fun g hg=>by rw [hg];omega) aG.out.size);have c:∀i,wf.cell? ⟨w.heap.size+1,i,none⟩=(kc tick (1+v3) v4 (1+v5) v6 (tick*wd) ma mc sa sc k)[i]? :=fun i=>hB.cell i;have c0:=c 0;have c1:=c 1;have c2:=c 2;have c3:=c 3;have dH:=c 4;have b8:=c 5;have fJ:=c 6;have gL:=c 7;have iC:=c 8;have kp:=c 9;have wh:=c 10;simp only [kc]at c0 c1 c2 c3 dH b8 fJ gL iC kp wh;have hok:(⟨k,tick,1+v3,v4,1+v5,v6,wd⟩:xk).ok:=⟨hnb,htb,by show 1≤1+v3∧1+v3≤3;omega,Qx,by show 1≤1+v5∧1+v5≤5;omega,r7,Qy⟩
   have e1:∀x∈rP k,cz x:=by
    intro x hx;unfold rP at hx;rw [List.mem_map]at hx;obtain⟨i,hi,rfl⟩:=hx;rw [List.mem_range]at hi;unfold cz;omega
   have e2:∀x∈oN tick k,cz x:=by
    intro x hx;obtain⟨i,hi,rfl⟩:=Xf hx;have:=ED htb.1 (i:=10+(i:Int)) (a:=10) (b:=15) (by omega) (by omega);unfold cz;omega
   have sD:gM wf ((⟨k,tick,1+v3,v4,1+v5,v6,wd⟩:xk).prod ma mc sa sc):=
    ⟨by show 2≤1000;omega,fF.ints e1,hS.ints e2,by show(rP k).length≤_;rw [G2];omega,by show(oN tick k).length≤_;rw [G3];omega,by show cz tick;unfold cz;omega,by show cz (-20*tick);unfold cz;omega,by show cz (100*tick);unfold cz;omega,by show cz (tick*wd);unfold cz;omega⟩
   clear fF hS hB c hk e1 e2 dx cM aD aG bU;refine bodyPost_ret (v:= .agg #[.string ⟨#[206,169]⟩,.slice ma k mc,↑tick,.int .i64 (-20*tick),.int .i64 (100*tick),.int .i64 (tick*wd),.int .i64 (1+v3),↑v4,.int .i64 (1+v5),↑v6,.slice sa k sc]) (by simp [results,Tryz.results8,go_sem,c0,c1,c2,c3,dH,b8,fJ,gL,iC,kp,wh]) rfl ?_;refine⟨⟨k,tick,1+v3,v4,1+v5,v6,wd⟩,hok,ma,mc,sa,sc,?_,sD,EF⟩;simp only [xk.prod,G2,G3]
end Go.Proofs.YtmaijkoopjocdaaGreat
