import Derived.Test.YtmaijkoopjocdaaGreatKV16
import Derived.Test.YtmaijkoopjocdaaGreatKV05
set_option maxRecDepth 100000
set_option maxHeartbeats 64000000
namespace Go.Proofs.YtmaijkoopjocdaaGreat
open Go.RowKit Go.Lib
theorem SC {w:World} {v:Value} {l:List Int} (h:e8.eT w v l) (hl:l.length≤250) (hx:∀x∈l,1≤x∧x≤1000000) (q:Int):
 Calls Tryz.prog 154 #[v,↑q] w fun e w'=>e= .returned (.bool (decide (0≤q∧q≤l.sum)))∧w=w':=by
 have aD:=af h;have bz:=af hx
 have HR:Hid (∀k,(l.take k).sum≤250000000∧0≤(l.take k).sum):=af fun k=>by
  have h1:=BR (l:=l.take k) (b:=1000000) fun x gx=>(hx x (List.mem_of_mem_take gx)).2;have h2:=Fy (l:=l.take k) fun x gx=>by have:=(hx x (List.mem_of_mem_take gx)).1;omega
  have h3:((l.take k).length:Int)≤250:=by rw [List.length_take];omega
  exact⟨by omega,h2⟩
 obtain⟨a,c,rfl,_,_⟩:=h;obtain⟨n,hn⟩:=ai l.length;rw [hn]at aD hl⊢;have HN:=af hn;have hnb:(n:Int)≤250:=by omega
 clear hx hn;by_cases hq:q<0
 ·have bM:Hid (decide (0≤q∧q≤l.sum)=false):=af (decide_eq_false (by omega))
  rw [bM.out];go_enter Tryz.func154,Tryz.ntmps154
  go_wp2_with fail
  go_ret;exact⟨by trivial,by trivial⟩
 ·go_enter Tryz.func154,Tryz.ntmps154
  go_wp2_with fail
  go_loopw [5,6] (fun t i w'=>∃(k:Nat) (z:Int),z=(l.take k).sum∧t=↑z∧i=↑k∧k≤n∧w=w') (fun _ i _=>n-(RowKit.intOf i).toNat)
  case atStart=>exact⟨0,0,by simp,rfl,rfl,Nat.zero_le _,rfl⟩
  case round=>
   obtain⟨k,z,hz,rfl,rfl,hk,rfl⟩:=hrel;obtain⟨hz1,dm⟩:=HR.out k;rw [←hz]at dm hz1;by_cases hlt:k<n
   ·have hlt':(k:Int)<(n:Int):=by omega
    obtain⟨x,ij⟩:∃x,l[k]? =some x:=⟨_,List.getElem?_eq_getElem (by rw [HN.out];exact hlt)⟩;obtain⟨b,off,rfl,c0⟩:=qU aD.out ij;obtain⟨hx0,hx1⟩:=bz.out x (List.mem_of_getElem? ij);have d0:¬x<1:=by omega
    have d1:¬1000000<x:=by omega
    have bR:Hid (z+x=(l.take (k+1)).sum):=af (by rw [kH ij,SA,hz]);clear ij hz;go_wp2_with fail
    go_roundw
    case rel=>exact⟨k+1,_,bR.out,by go_num,by go_num,hlt,by trivial⟩
    case measure=>simp [RowKit.intOf];omega
   ·have hkn:k=n:=by omega
    rw [hkn,←HN.out,List.take_length]at hz;have ec:=af hz;clear hz hkn;go_wp2_with fail
    go_ret;refine⟨?_,by trivial⟩;rw [←ec.out];have:(0≤q∧q≤z)↔q≤z:=⟨fun h=>h.2,fun h=>⟨by omega,h⟩⟩;simp only [this];rfl
theorem ai4 {w:World} {v:Value} {l:List Int} (h:e8.eT w v l) (hl:l.length≤250) (hx:∀x∈l,0≤x∧x≤1000000):
 Calls Tryz.prog 160 #[v] w fun e w'=>e= .returned (.tuple #[↑l.sum,.bool true])∧w=w':=by
 have aD:=af h;have bz:=af hx
 have HR:Hid (∀k,(l.take k).sum≤250000000∧0≤(l.take k).sum):=af fun k=>by
  have h1:=BR (l:=l.take k) (b:=1000000) fun x gx=>(hx x (List.mem_of_mem_take gx)).2;have h2:=Fy (l:=l.take k) fun x gx=>(hx x (List.mem_of_mem_take gx)).1;have h3:((l.take k).length:Int)≤250:=by rw [List.length_take];omega
  exact⟨by omega,h2⟩
 obtain⟨a,c,rfl,_,_⟩:=h;obtain⟨n,hn⟩:=ai l.length;rw [hn]at aD hl⊢;have HN:=af hn;have hnb:(n:Int)≤250:=by omega
 clear hx hn;go_enter Tryz.func160,Tryz.ntmps160
 go_wp2_with fail
 go_loopw [4,5,6] (fun hi t i w'=>∃(k:Nat) (z:Int),z=(l.take k).sum∧hi= .int .i64 0∧t= .int .u64 z∧i=↑k∧k≤n∧w=w') (fun _ _ i _=>n-(RowKit.intOf i).toNat)
 case atStart=>exact⟨0,0,by simp,rfl,rfl,rfl,Nat.zero_le _,rfl⟩
 case round=>
  obtain⟨k,z,hz,rfl,rfl,rfl,hk,rfl⟩:=hrel;obtain⟨hz1,dm⟩:=HR.out k;rw [←hz]at dm hz1;by_cases hlt:k<n
  ·have hlt':(k:Int)<(n:Int):=by omega
   obtain⟨x,ij⟩:∃x,l[k]? =some x:=⟨_,List.getElem?_eq_getElem (by rw [HN.out];exact hlt)⟩;obtain⟨b,off,rfl,c0⟩:=qU aD.out ij;obtain⟨hx0,hx1⟩:=bz.out x (List.mem_of_getElem? ij);have d0:¬x<0:=by omega
   have y0:x % 18446744073709551616=x:=by omega
   have y1:(z+x) % 18446744073709551616=z+x:=by omega
   have d1:¬z+x<z:=by omega
   have bR:Hid (z+x=(l.take (k+1)).sum):=af (by rw [kH ij,SA,hz]);clear ij hz;go_wp2_with fail
   go_roundw
   case rel=>exact⟨k+1,_,bR.out,rfl,by go_num,by go_num,hlt,by trivial⟩
   case measure=>simp [RowKit.intOf];omega
  ·have hkn:k=n:=by omega
   rw [hkn,←HN.out,List.take_length]at hz;have ec:=af hz;have d1:z≤9223372036854775807:=by omega
   clear hz hkn;go_wp2_with fail
   go_ret2
   exact⟨by rw [←ec.out];rfl,by trivial⟩
theorem add_div {X Y c:Int} (hc:0<c):(X+Y) / c=X / c+Y / c+(if c≤X % c+Y % c then 1 else 0)∧(X+Y) % c=X % c+Y % c-(if c≤X % c+Y % c then c else 0):=by
 have h1:=Int.mul_ediv_add_emod X c;have h2:=Int.mul_ediv_add_emod Y c;have h3:=Int.emod_nonneg X (Int.ne_of_gt hc);have h4:=Int.emod_nonneg Y (Int.ne_of_gt hc);have h5:=Int.emod_lt_of_pos X hc;have h6:=Int.emod_lt_of_pos Y hc;have e:X+Y=c*(X / c+Y / c)+(X % c+Y % c):=by rw [Int.mul_add];omega
 split
 ·rename_i h
  have e2:X+Y=(X % c+Y % c-c)+c*(X / c+Y / c+1):=by rw [e,Int.mul_add c _ 1,Int.mul_one];omega
  constructor
  ·rw [e2,Int.add_mul_ediv_left _ _ (Int.ne_of_gt hc),Int.ediv_eq_zero_of_lt (by omega) (by omega)];omega
  ·rw [e2,Int.add_mul_emod_self_left,Int.emod_eq_of_lt (by omega) (by omega)]
 ·rename_i h
  have e2:X+Y=(X % c+Y % c)+c*(X / c+Y / c):=by omega
  constructor
  ·rw [e2,Int.add_mul_ediv_left _ _ (Int.ne_of_gt hc),Int.ediv_eq_zero_of_lt (by omega) (by omega)];omega
  ·rw [e2,Int.add_mul_emod_self_left,Int.emod_eq_of_lt (by omega) (by omega)];omega
theorem aal (b:Int) (j:Nat):b / 2^j=2*(b / 2^(j+1))+b / 2^j % 2:=by
 have:b / 2^(j+1)=b / 2^j / 2:=by rw [Int.pow_succ,Int.ediv_ediv_of_nonneg (by exact Int.le_of_lt (Int.pow_pos (by omega)))]
 rw [this];omega
def qv (a b c:Int) (j:Nat):Int:=a*(b / 2^j) / c
def qw (a b c:Int) (j:Nat):Int:=a*(b / 2^j) % c
theorem ajl (a b c:Int) (j:Nat) (hc:0<c):a*(2*(b / 2^(j+1))) / c=(if c≤2*qw a b c (j+1)then 2*qv a b c (j+1)+1 else 2*qv a b c (j+1))∧
 a*(2*(b / 2^(j+1))) % c=(if c≤2*qw a b c (j+1)then 2*qw a b c (j+1)-c else 2*qw a b c (j+1)):=by
 have h:=add_div (X:=a*(b / 2^(j+1))) (Y:=a*(b / 2^(j+1))) hc;rw [←Int.two_mul,show 2*(a*(b / 2^(j+1)))=a*(2*(b / 2^(j+1)))by rw [Int.mul_left_comm]]at h;unfold qv qw;obtain⟨h1,h2⟩:=h;rw [h1,h2];constructor<;>(split<;>split<;>omega)
theorem ajm (a b c:Int) (j:Nat) (h:b / 2^j % 2=0):qv a b c j=a*(2*(b / 2^(j+1))) / c∧qw a b c j=a*(2*(b / 2^(j+1))) % c:=by
 unfold qv qw;rw [aal b j,h,Int.add_zero];exact⟨rfl,rfl⟩
theorem ajn (a b c:Int) (j:Nat) (hc:0<c) (h:b / 2^j % 2=1):qv a b c j=(if c≤a*(2*(b / 2^(j+1))) % c+a % c then a*(2*(b / 2^(j+1))) / c+a / c+1 else a*(2*(b / 2^(j+1))) / c+a / c)∧
 qw a b c j=(if c≤a*(2*(b / 2^(j+1))) % c+a % c then a*(2*(b / 2^(j+1))) % c+a % c-c else a*(2*(b / 2^(j+1))) % c+a % c):=by
 have e:=add_div (X:=a*(2*(b / 2^(j+1)))) (Y:=a) hc;unfold qv qw;rw [aal b j,h,Int.mul_add,Int.mul_one,e.1,e.2];constructor<;>(split<;>omega)
theorem ajo {a b c:Int} (j:Nat) (ha:0≤a∧a≤1000000000) (hb:0≤b∧b≤1000000000) (hc:1≤c):0≤qv a b c j∧qv a b c j≤1000000000000000000∧0≤qw a b c j∧qw a b c j<c:=by
 have hp:(0:Int)<2^j:=Int.pow_pos (by omega);have h1:0≤b / 2^j:=Int.ediv_nonneg hb.1 (Int.le_of_lt hp);have h2:b / 2^j≤b:=Int.ediv_le_self _ hb.1;have h3:0≤a*(b / 2^j):=Int.mul_nonneg ha.1 h1;have h4:a*(b / 2^j)≤1000000000*1000000000:=Int.le_trans (Int.mul_le_mul_of_nonneg_right ha.2 h1) (Int.mul_le_mul_of_nonneg_left (by omega) (by omega));have h5:qv a b c j≤a*(b / 2^j):=Int.ediv_le_self _ h3;exact⟨Int.ediv_nonneg h3 (by omega),by omega,Int.emod_nonneg _ (by omega),Int.emod_lt_of_pos _ (by omega)⟩
theorem ZZ (a b c:Int) (w:World) (ha:0≤a∧a≤1000000000) (hb:0≤b∧b≤1000000000) (hc:1≤c∧c≤1000000000):
 Calls Tryz.prog 159 #[↑a,↑b,↑c] w fun e w'=>e= .returned (.tuple #[.int .i64 (a*b / c),.bool true])∧w=w':=by
 have mL:=af fun j=>ajo j ha hb hc.1;obtain⟨ha0,yA⟩:=ha;obtain⟨hb0,hb1⟩:=hb;obtain⟨hc0,anq⟩:=hc;have d0:¬a<0:=by omega
 have d1:¬b<0:=by omega
 have d2:¬c<1:=by omega
 have y0:a % 18446744073709551616=a:=by omega
 have y1:c % 18446744073709551616=c:=by omega
 have d3:¬c=0:=by omega
 go_enter Tryz.func159,Tryz.ntmps159
 go_wp2_with fail
 go_loopw [8,9,13] (fun q r i w'=>∃(j:Nat) (x y t:Int),x=qv a b c j∧y=qw a b c j∧t+1=j∧q= .int .u64 x∧r= .int .u64 y∧i=↑t∧j≤63∧w=w') (fun _ _ i _=>(RowKit.intOf i+1).toNat)
 case atStart=>
  have h0:b / 2^63=0:=Int.ediv_eq_zero_of_lt hb0 (by omega);exact⟨63,0,0,62,by unfold qv;rw [h0];simp,by unfold qw;rw [h0];simp,rfl,rfl,rfl,rfl,by omega,rfl⟩
 case round=>
  obtain⟨j,x,y,t,hx,hy,ht,rfl,rfl,rfl,hj,rfl⟩:=hrel;obtain⟨hx0,hx1,hy0,hy1⟩:=mL.out j;rw [←hx]at hx0 hx1;rw [←hy]at hy0 hy1;by_cases hz:j=0
  ·subst hz
   have jm:t= -1:=by omega
   subst jm;have bR:Hid (a*b / c=x):=af (by rw [hx];unfold qv;rw [Int.pow_zero,Int.ediv_one]);clear hx hy mL;have e1:x≤9223372036854775807:=by omega
   go_wp2_with fail
   go_ret2
   exact⟨by rw [bR.out];rfl,by trivial⟩
  ·obtain⟨m,rfl⟩:∃m,j=m+1:=⟨j-1,by omega⟩
   have jm:t=(m:Int):=by omega
   subst jm;have hm:m≤62:=by omega
   have cA:=af (ajl a b c m (by omega));have h0:=ajm a b c m;have h1:=ajn a b c m (by omega);have aS:=mL.out m;obtain⟨X,hX⟩:=ai (a*(2*(b / 2^(m+1))) / c);obtain⟨Y,hY⟩:=ai (a*(2*(b / 2^(m+1))) % c);rw [←hx,←hy,hX,hY]at cA;rw [hX,hY]at h0 h1;have e1:¬9223372036854775808≤x:=by omega
   have e2:2*x % 18446744073709551616=2*x:=by omega
   have bJ:2*y % 18446744073709551616=2*y:=by omega
   have cV:(m:Int) % 18446744073709551616=(m:Int):=by omega
   have Dh:=af h0;have Di:=af h1;have bp:=af aS;clear hx hy hX hY mL h0 h1 aS;have hu0:0≤a / c:=Int.ediv_nonneg ha0 (by omega);have hu1:a / c≤1000000000:=Int.le_trans (Int.ediv_le_self _ ha0) yA;have hv0:0≤a % c:=Int.emod_nonneg _ (by omega);have hv1:a % c<c:=Int.emod_lt_of_pos _ (by omega);have NS:0≤b / 2^m:=Int.ediv_nonneg hb0 (Int.le_of_lt (Int.pow_pos (by omega)));have anr:b / 2^m≤1000000000:=Int.le_trans (Int.ediv_le_self _ hb0) hb1;have q1:bits .and .i64 (b / 2^m) 1=b / 2^m % 2:=bits_mask .i64 62 (by decide) (fun n h0 h1=>IntWalk.i64_in n (by omega)) 1 (by decide) _ NS (by omega);by_cases hd:c≤2*y
   ·rw [if_pos hd,if_pos hd]at cA
    obtain⟨Lg,Lh⟩:=cA.out;rw [Lg,Lh]at Dh Di;clear cA Lg Lh;by_cases g7:b / 2^m % 2=1
    ·have SI:(b / 2^m % 2==1)=true:=by rw [g7];rfl
     obtain⟨g1,g2⟩:=Di.out g7;clear g7 Dh Di;by_cases hk:c≤2*y-c+a % c
     ·rw [if_pos hk]at g1 g2
      have bz:Hid (2*x+1+a / c+1=qv a b c m):=af g1.symm;have yZ:Hid (2*y-c+a % c-c=qw a b c m):=af g2.symm;clear g1 g2;go_wp2_with fail
      go_roundw
      case rel=>exact⟨m,_,_,_,bz.out,yZ.out,by omega,by go_num,by go_num,rfl,by omega,by trivial⟩
      case measure=>simp [RowKit.intOf]
     ·rw [if_neg hk]at g1 g2
      have bz:Hid (2*x+1+a / c=qv a b c m):=af g1.symm;have yZ:Hid (2*y-c+a % c=qw a b c m):=af g2.symm;clear g1 g2;go_wp2_with fail
      go_roundw
      case rel=>exact⟨m,_,_,_,bz.out,yZ.out,by omega,by go_num,by go_num,rfl,by omega,by trivial⟩
      case measure=>simp [RowKit.intOf]
    ·have SI:(b / 2^m % 2==1)=false:=by rw [beq_eq_false_iff_ne];exact g7
     obtain⟨g1,g2⟩:=Dh.out (by omega);have bz:Hid (2*x+1=qv a b c m):=af g1.symm;have yZ:Hid (2*y-c=qw a b c m):=af g2.symm;clear g7 Dh Di g1 g2;go_wp2_with fail
     go_roundw
     case rel=>exact⟨m,_,_,_,bz.out,yZ.out,by omega,by go_num,by go_num,rfl,by omega,by trivial⟩
     case measure=>simp [RowKit.intOf]
   ·rw [if_neg hd,if_neg hd]at cA
    obtain⟨Lg,Lh⟩:=cA.out;rw [Lg,Lh]at Dh Di;clear cA Lg Lh;by_cases g7:b / 2^m % 2=1
    ·have SI:(b / 2^m % 2==1)=true:=by rw [g7];rfl
     obtain⟨g1,g2⟩:=Di.out g7;clear g7 Dh Di;by_cases hk:c≤2*y+a % c
     ·rw [if_pos hk]at g1 g2
      have bz:Hid (2*x+a / c+1=qv a b c m):=af g1.symm;have yZ:Hid (2*y+a % c-c=qw a b c m):=af g2.symm;clear g1 g2;go_wp2_with fail
      go_roundw
      case rel=>exact⟨m,_,_,_,bz.out,yZ.out,by omega,by go_num,by go_num,rfl,by omega,by trivial⟩
      case measure=>simp [RowKit.intOf]
     ·rw [if_neg hk]at g1 g2
      have bz:Hid (2*x+a / c=qv a b c m):=af g1.symm;have yZ:Hid (2*y+a % c=qw a b c m):=af g2.symm;clear g1 g2;go_wp2_with fail
      go_roundw
      case rel=>exact⟨m,_,_,_,bz.out,yZ.out,by omega,by go_num,by go_num,rfl,by omega,by trivial⟩
      case measure=>simp [RowKit.intOf]
    ·have SI:(b / 2^m % 2==1)=false:=by rw [beq_eq_false_iff_ne];exact g7
     obtain⟨g1,g2⟩:=Dh.out (by omega);have bz:Hid (2*x=qv a b c m):=af g1.symm;have yZ:Hid (2*y=qw a b c m):=af g2.symm;clear g7 Dh Di g1 g2;go_wp2_with fail
     go_roundw
     case rel=>exact⟨m,_,_,_,bz.out,yZ.out,by omega,by go_num,by go_num,rfl,by omega,by trivial⟩
     case measure=>simp [RowKit.intOf]
structure xF (l:List Int) (q:Int):Prop where
 len:l.length≤250
 each:∀x∈l,0≤x∧x≤1000000
 q0:0≤q
 q1:q≤250000000
 all:l.sum≤0∨q≤l.sum
theorem xF.part {l:List Int} {q least:Int} (h:xF l q) (hl:1≤least):∀x∈l,0≤lM least q l.sum x∧lM least q l.sum x≤x:=
 fun x hx=>ai3 hl (h.each x hx).1 h.q0 h.all
theorem xF.parts {l:List Int} {q least:Int} (h:xF l q) (hl:1≤least):∀y∈nY l least q,0≤y∧y≤1000000:=by
 intro y hy;unfold nY at hy;obtain⟨x,hx,rfl⟩:=List.mem_map.1 hy;have:=h.part hl x hx;have:=(h.each x hx).2;omega
theorem xF.rest {l:List Int} {q least:Int} (h:xF l q) (hl:1≤least):∀y∈iN l (nY l least q),0≤y∧y≤1000000:=by
 intro y hy;obtain⟨k,hk,rfl⟩:=List.getElem_of_mem hy;have hk2:k<l.length:=by rwa [tQ _ _ (Lb l least q)]at hk
 have e:(iN l (nY l least q))[k]? =some (l[k]-lM least q l.sum l[k]):=ZX (List.getElem?_eq_getElem hk2) (by unfold nY;rw [List.getElem?_map,List.getElem?_eq_getElem hk2];rfl);rw [List.getElem?_eq_getElem hk]at e;injection e with e;rw [e];have:=h.part hl _ (List.getElem_mem hk2);have:=h.each _ (List.getElem_mem hk2);omega
theorem xF.ZY {l:List Int} {q least:Int} (h:xF l q) (hl:1≤least) (k:Nat):0≤(nY (l.take k) least q).sum∧((l.take k).map (lM least q l.sum)).sum≤250000000∧0≤((l.take k).map (lM least q l.sum)).sum:=by
 have h1:∀y∈(l.take k).map (lM least q l.sum),0≤y∧y≤1000000:=fun y hy=>by
  obtain⟨x,hx,rfl⟩:=List.mem_map.1 hy;have:=h.part hl x (List.mem_of_mem_take hx);have:=(h.each x (List.mem_of_mem_take hx)).2;omega
 have h2:=BR (b:=1000000) fun y hy=>(h1 y hy).2;have h3:=Fy fun y hy=>(h1 y hy).1;rw [List.length_map,List.length_take]at h2;have:=h.len;refine⟨?_,by omega,h3⟩;have h4:0≤(l.take k).sum:=Fy fun x hx=>(h.each x (List.mem_of_mem_take hx)).1
 exact Fy fun y hy=>by
  unfold nY at hy;obtain⟨x,hx,rfl⟩:=List.mem_map.1 hy;unfold lM;by_cases hz:0<(l.take k).sum
  ·rw [if_pos hz]
   have:0≤x*q / (l.take k).sum:=Int.ediv_nonneg (Int.mul_nonneg (h.each x (List.mem_of_mem_take hx)).1 h.q0) (by omega);split<;>omega
  ·rw [if_neg hz];split<;>omega
theorem HQ {w:World} {v:Value} {l:List Int} (h:e8.eT w v l) {least q:Int} (hB:xF l q) (hl:1≤least):
 Calls Tryz.prog 157 #[v,↑least,↑q] w fun e w'=>∃v',e= .returned v'∧e8.Row w' w.heap.size v' (xG l least q)∧Below w.heap.size w w':=by
 have aD:=af h;have dx:=af (hB.part hl);have e6:=af (hB.parts hl);have qp:=af (hB.rest hl);have HR:=af (hB.ZY hl);have bz:=af hB.each;have oG:=af hB;have N9:=af (ai4 h hB.len hB.each);have hs0:0≤l.sum:=Fy fun x hx=>(hB.each x hx).1
 have hs1:l.sum≤250000000:=by
  have:=BR (b:=1000000) fun x hx=>(hB.each x hx).2;have:=hB.len;omega
 have jW:=hB.q0;have hq1:=hB.q1;have jR:=af hB.len;obtain⟨a,c,rfl,_,_⟩:=h;obtain⟨n,hn⟩:=ai l.length;obtain⟨S,hS⟩:=ai l.sum;unfold xG nY at*;simp only [hS]at dx e6 qp HR hs0 hs1 N9⊢;rw [hn]at aD N9⊢;have hnb:(n:Int)≤250:=by have:=jR.out;omega
 have HN:=af hn;obtain⟨R,oT⟩:=ai (oV (l.map (lM least q S)) (kC (iN l (l.map (lM least q S))) (q-(l.map (lM least q S)).sum)));rw [oT];have nW:=af oT;clear hn hS hB oT;go_enter Tryz.func157,Tryz.ntmps157
 go_wp2_with fail
 refine N9.out.mono ?_;rintro e w2 ⟨rfl,rfl⟩;clear N9;go_wp2_with fail
 go_loopw [9,10,11] (fun v y i w'=>∃(k:Nat) (z:Int),z=q-((l.take k).map (lM least q S)).sum∧y=↑z∧i=↑k∧k≤n∧e8.Row w' w.heap.size v ((l.take k).map (lM least q S))∧Below w.heap.size w w') (fun _ _ i _=>n-(RowKit.intOf i).toNat)
 case atStart=>exact⟨0,q,by simp,rfl,rfl,Nat.zero_le _,bl.Row.nil _ _,Below.refl _ _⟩
 case round=>
  obtain⟨k,z,hz,rfl,rfl,hk,hrow,hb⟩:=hrel;obtain⟨ax,rfl⟩:=aj wr;have oF:=(HR.out k).2;have dm: -250000000≤z:=by omega
  have hz1:z≤250000000:=by omega
  clear oF;by_cases hlt:k<n
  ·have hlt':(k:Int)<(n:Int):=by omega
   obtain⟨x,ij⟩:∃x,l[k]? =some x:=⟨_,List.getElem?_eq_getElem (by rw [HN.out];exact hlt)⟩;obtain⟨b,off,rfl,c0⟩:=qU (aD.out.below hb) ij;obtain⟨hx0,hx1⟩:=bz.out x (List.mem_of_getElem? ij);obtain⟨uq,KI⟩:=dx.out x (List.mem_of_getElem? ij);obtain⟨P,hP⟩:=ai (lM least q S x);rw [hP]at uq KI;have bP:Hid ((l.take (k+1)).map (lM least q S)=(l.take k).map (lM least q S)++ [P]):=af (by rw [kH ij,List.map_append,←hP];rfl);have bR:Hid (z-P=q-((l.take (k+1)).map (lM least q S)).sum):=af (by rw [bP.out,SA,hz];omega);have jf:Hid (((l.take k).map (lM least q S)).length≤250):=af (by rw [List.length_map,List.length_take];have:=jR.out;omega);generalize (l.take k).map (lM least q S)=M at*;obtain⟨a1,c1,hv⟩:=hrow.form;obtain⟨m,hm⟩:=ai M.length;rw [hm]at hv;subst hv;have cM:=af hm;have aG:=af hb;have cY:=af hrow;have Ak:=af hP;clear hrow hb hz ij hm hP;by_cases hS:0<S
   ·have bg:=af (ZZ x q S ax (by omega) (by omega) (by omega))
    unfold lM at Ak;rw [if_pos hS]at Ak;go_wp2_with fail
    refine bg.out.mono ?_;rintro e w2 ⟨rfl,rfl⟩;clear bg;obtain⟨t,ht⟩:=ai (x*q / S);rw [ht]at Ak⊢;clear ht;by_cases htl:t<least
    ·rw [if_pos htl]at Ak
     obtain rfl:=Ak.out;have hba:=Below.aI ax (.cells #[.int .i64 0] 2);have iz:=af (cY.out.below hba);have b7:=ag aG hba;have c8:Hid (av (ax.alloc (.cells #[.int .i64 0] 2)) ax.heap.size 2 (lA 0).toArray):=af (av.new _ _ _);clear hba
     go_wp2_with (first
      |(at_builtin;go_loud (refine e8.push rfl (.tmp 40) (.tmp 42) rfl w.heap.size (.slice a1 m c1) M rfl iz.out ax.heap.size 0 rfl c8.out.lt c8.out.gH (by have:=jf.out;omega) b7.out.size ?_)))
     intro v' aN bX cQ eG;have cL:=af bX;have dP:=af (iJ cQ b7.out (cS iz.out));clear bX cQ eG;go_wp2_with fail
     go_roundw
     case rel=>exact⟨k+1,_,bR.out,by go_num,by go_num,hlt,by rw [bP.out];exact cL.out,dP.out⟩
     case measure=>simp [RowKit.intOf];omega
    ·rw [if_neg htl]at Ak
     obtain rfl:=Ak.out;have hba:=Below.aI ax (.cells #[↑t] 2);have iz:=af (cY.out.below hba);have b7:=ag aG hba;have c8:Hid (av (ax.alloc (.cells #[↑t] 2)) ax.heap.size 2 (lA t).toArray):=af (av.new _ _ _);clear hba
     go_wp2_with (first
      |(at_builtin;go_loud (refine e8.push rfl (.tmp 40) (.tmp 42) rfl w.heap.size (.slice a1 m c1) M rfl iz.out ax.heap.size t rfl c8.out.lt c8.out.gH (by have:=jf.out;omega) b7.out.size ?_)))
     intro v' aN bX cQ eG;have cL:=af bX;have dP:=af (iJ cQ b7.out (cS iz.out));clear bX cQ eG;go_wp2_with fail
     go_roundw
     case rel=>exact⟨k+1,_,bR.out,by go_num,by go_num,hlt,by rw [bP.out];exact cL.out,dP.out⟩
     case measure=>simp [RowKit.intOf];omega
   ·unfold lM at Ak
    rw [if_neg hS,if_pos (by omega)]at Ak;have htl:(0:Int)<least:=by omega
    obtain rfl:=Ak.out;have hba:=Below.aI ax (.cells #[.int .i64 0] 2);have iz:=af (cY.out.below hba);have b7:=ag aG hba;have c8:Hid (av (ax.alloc (.cells #[.int .i64 0] 2)) ax.heap.size 2 (lA 0).toArray):=af (av.new _ _ _);clear hba
    go_wp2_with (first
     |(at_builtin;go_loud (refine e8.push rfl (.tmp 40) (.tmp 42) rfl w.heap.size (.slice a1 m c1) M rfl iz.out ax.heap.size 0 rfl c8.out.lt c8.out.gH (by have:=jf.out;omega) b7.out.size ?_)))
    intro v' aN bX cQ eG;have cL:=af bX;have dP:=af (iJ cQ b7.out (cS iz.out));clear bX cQ eG;go_wp2_with fail
    go_roundw
    case rel=>exact⟨k+1,_,bR.out,by go_num,by go_num,hlt,by rw [bP.out];exact cL.out,dP.out⟩
    case measure=>simp [RowKit.intOf];omega
  ·have hkn:k=n:=by omega
   rw [hkn,←HN.out,List.take_length]at hrow;rw [hkn,←HN.out,List.take_length]at hz;have bM:=af hrow;have aG:=af hb;have Lc:(l.map (lM least q S)).length=l.length:=by rw [List.length_map]
   have gq:=af Lc;have bg:=af (Fz (aD.out.below hb) hrow.sl Lc jR.out (fun x hx=>by have:=bz.out x hx;unfold ox;omega) (fun y hy=>by have:=e6.out y hy;unfold ox;omega));have ec:=af hz;generalize l.map (lM least q S)=M at*;obtain⟨a1,c1,hv⟩:=hrow.form;rw [gq.out,HN.out]at hv;subst hv;clear hkn hrow hb hz Lc;go_wp2_with fail
   refine bg.out.mono ?_;rintro e w2 ⟨v2,rfl,gv,hb2⟩;have hrl:(iN l M).length≤250:=by rw [tQ _ _ gq.out];exact jR.out
   have qV:=af (SB gv.sl hrl qp.out z (by omega) (by omega));have aS:=ag aG hb2;have kS:=af (bM.out.below hb2);have nJ:Hid ((kC (iN l M) z).length=M.length):=af (by rw [tT,tQ _ _ gq.out,gq.out])
   have BO:Hid (∀y∈kC (iN l M) z,ox y):=af fun y hy=>by
    obtain⟨j,hj,rfl⟩:=List.getElem_of_mem hy;have hj2:j<(iN l M).length:=by rwa [tT]at hj
    have e:=Oa (q:=z) (List.getElem?_eq_getElem hj2);rw [List.getElem?_eq_getElem hj]at e;injection e with e;rw [e];have h1:=qp.out _ (List.getElem_mem hj2);have h2:=Ob (l:=(iN l M).take j) (q:=z) (b:=250000000) (fun y hy=>(qp.out y (List.mem_of_mem_take hy)).1) (by omega) (by omega) (by omega);have h3:=Z0 (b:=250000000) h1.1 h2.1 h2.2;unfold ox;omega
   clear gv hb2 bg hrl;go_wp2_with fail
   refine qV.out.mono ?_;rintro e w3 ⟨v3,rfl,jr,hb3⟩;have Z1:=af (FA (kS.out.below hb3).sl jr.sl nJ.out (by rw [gq.out];exact jR.out) (fun y hy=>by have:=e6.out y hy;unfold ox;omega) BO.out);have aQ:=ag aS hb3;clear jr hb3 qV;go_wp2_with fail
   refine Z1.out.mono ?_;rintro e az ⟨v4,rfl,gJ,hb4⟩;have fM:=af (gJ.base aQ.out.size);have bN:=ag aQ hb4;clear gJ hb4 Z1;go_wp2_with fail
   go_ret;exact⟨_,rfl,by rw [←nW.out,←ec.out];exact fM.out,bN.out⟩
theorem KA (p:Prod) (w:World) (hp:gM w p):
 Calls Tryz.prog 51 #[p.agg] w fun e w'=>e= .returned (.int .i64 (countP p))∧Below w.heap.size w w':=by
 have hs0:=St.new hp;unfold Prod.cells at hs0;have eE:=af hs0;have dn:=Kz p _ hs0.pv;unfold Prod.agg Prod.cells at dn⊢;clear hp hs0;by_cases hz:cR p=0
 ·have bg:Hid (countP p=nR p.months.length):=af (if_pos hz)
  have hlen:=pI hz;have hn:p.months.length=2∨p.months.length=3∨p.months.length=4∨p.months.length=5∨p.months.length=6:=by omega
  have ec:=af hz;clear hz hlen;go_enter Tryz.func51,Tryz.ntmps51
  go_wp2_with fail
  refine dn.mono ?_;rw [ec.out];rintro e w1 ⟨rfl,hb1⟩;have aD:=af (eE.out.next hb1);have b1:=aD.out.pc.2.1;clear dn hb1;rcases hn with hn|hn|hn|hn|hn
  all_goals
   rw [hn]at b1;have HN:=af hn;clear hn;go_wp2_with fail
   go_ret;exact⟨by rw [bg.out,HN.out];rfl,aD.out.aJ⟩
 ·have bg:Hid (countP p=0):=af (if_neg hz)
  have hz1:(cR p==0)=false:=by rw [beq_eq_false_iff_ne];exact hz
  have eg:(cR p !=0)=true:=by rw [bne_iff_ne];exact hz
  clear hz;generalize cR p=cp at*;go_enter Tryz.func51,Tryz.ntmps51
  go_wp2_with fail
  refine dn.mono ?_;rintro e w1 ⟨rfl,hb1⟩;have aD:=af (eE.out.next hb1);clear dn hb1;go_wp2_with fail
  go_ret;exact⟨by rw [bg.out];rfl,aD.out.aJ⟩
theorem KB {p:Prod} (h:cR p≠0):countP p=0:=if_neg h
theorem yt {p:Prod} (h:cR p=0):countP p=nR p.months.length:=if_pos h
theorem yN:∀n,n≤6→nR n≤21∧n≤nR n:=by decide
theorem BA (p:Prod):0≤countP p∧countP p≤21:=by
 unfold countP;split
 ·rename_i h
  have:=pI h;have:=yN p.months.length (by omega);omega
 ·omega
theorem Y5 {p:Prod} (h:cR p=0): -1000000≤p.low∧p.low<p.high∧p.high≤1000000∧0≤p.wide∧p.wide≤p.high-p.low:=by
 have:=(J7 h).2.2.2.1;unfold ix at this;omega
theorem ah9 {p:Prod} (h:cR p=0) {j:Nat} {x:Int} (hx:p.settle[j]? =some x):p.low≤x∧x≤p.high:=by
 have:=(J7 h).2.2.2.2.1;unfold o5 at this;simp only [Bool.or_eq_false_iff,List.any_eq_false,decide_eq_true_eq]at this;have hm:=List.mem_of_getElem? hx;have h1:=this.1.2 x hm;have h2:=this.2 x hm;omega
theorem RW {p:Prod} (h:countP p≠0):cR p=0:=by
 by_cases hz:cR p=0
 ·exact hz
 ·exact absurd (KB hz) h
theorem YK {p:Prod} (h:cR p=0):0<countP p:=by
 have:=pI h;have:=yN p.months.length (by omega);rw [yt h];omega
def C5 (p:Prod) (inst:Int):Int:=if(p.months.length:Int)≤inst then-p.wide else p.low
def C6 (p:Prod) (inst:Int):Int:=if(p.months.length:Int)≤inst then p.wide else p.high
def eW (p:Prod) (inst ap:Int):Int:=
 if countP p=0 then 1 else if inst<0∨countP p≤inst then 20 else if ap.tmod p.tick≠0 then 22 else if ap<C5 p inst∨C6 p inst<ap then 23 else 0
theorem Y6:∀n,n≤6→∀k,k<22→n+k<nR n→Bl n k<J8 n k∧J8 n k<n:=by decide
theorem RI {p:Prod} {inst:Int} (h:(gf p inst).2.2=true):cR p=0∧∃i j:Nat,gf p inst=((i:Int),(j:Int),true)∧i<j∧j<p.months.length∧(p.months.length:Int)≤inst∧inst<countP p:=by
 unfold gf at h⊢;by_cases h1:inst<0∨countP p≤inst
 ·rw [if_pos h1]at h;cases h
 ·rw [if_neg h1]at h⊢
  by_cases h2:inst<p.months.length
  ·rw [if_pos h2]at h;cases h
  ·rw [if_neg h2]
   have hz:cR p=0:=RW (by omega);have hl:=pI hz;have hc:=yt hz;have uI:=yN p.months.length hl.2;have:=Y6 p.months.length hl.2 (inst-p.months.length).toNat (by omega) (by omega);exact⟨hz,_,_,rfl,this.1,this.2,by omega,by omega⟩
def uT (p:Prod) (inst ap:Int):Int×Int×Int:=
 if cR p≠0 then(0,0,1)else if(gf p inst).2.2=false then(0,0,20)else if eW p inst ap≠0 then(0,0,eW p inst ap)else
  if p.high<p.settle.getD (gf p inst).2.1.toNat 0+ap then(p.high,p.high-ap,0)else
   if p.settle.getD (gf p inst).2.1.toNat 0+ap<p.low then(p.low,p.low-ap,0)else(p.settle.getD (gf p inst).2.1.toNat 0+ap,p.settle.getD (gf p inst).2.1.toNat 0,0)
theorem aia {p:Prod} {inst ap:Int} (h:eW p inst ap=0):cR p=0∧0≤inst∧inst<countP p∧ap.tmod p.tick=0∧C5 p inst≤ap∧ap≤C6 p inst:=by
 unfold eW at h;by_cases h1:countP p=0
 ·rw [if_pos h1]at h;omega
 rw [if_neg h1]at h;by_cases h2:inst<0∨countP p≤inst
 ·rw [if_pos h2]at h;omega
 rw [if_neg h2]at h;by_cases h3:ap.tmod p.tick≠0
 ·rw [if_pos h3]at h;omega
 rw [if_neg h3]at h;by_cases h4:ap<C5 p inst∨C6 p inst<ap
 ·rw [if_pos h4]at h;omega
 exact⟨RW h1,by omega,by omega,by omega,by omega,by omega⟩
theorem M7 (n:Nat) {a b:Nat} (h:a≤b):k4 n a≤k4 n b:=by
 induction b with
 |zero=>obtain rfl:a=0:=by omega
        exact Nat.le_refl _
 |succ b ih=>
  by_cases hab:a=b+1
  ·rw [hab];exact Nat.le_refl _
  ·have:=ih (by omega)
   rw [JO];omega
theorem Y7 {p:Prod} {n k i j:Nat} (hn:p.months.length=n) (hz:cR p=0) (hi:i+1≤j) (hj:j<n) (hk:k=k4 n i+(j-(i+1))):gf p ((n:Int)+(k:Int))=((i:Int),(j:Int),true):=by
 subst hn;have hs:=JO p.months.length i;have hl:=pI hz;have he:=M6 p.months.length hl.2;have hm:=M7 p.months.length (show i+1≤p.months.length by omega);have hc:=yt hz
 have iA:Bl p.months.length k=i:=af0 (by omega) (by omega) fun j' hj'=>by
  have:=M7 p.months.length (show j'+1≤i by omega);omega
 unfold gf;rw [if_neg (by omega),if_neg (by omega),show((p.months.length:Int)+(k:Int)-(p.months.length:Int)).toNat=k by omega];unfold J8;rw [iA,show i+1+(k-k4 p.months.length i)=j by omega]
theorem aib {p:Prod} {n k:Nat} (hn:p.months.length=n) (hz:cR p=0) (hk:k4 n n≤k):gf p ((n:Int)+(k:Int))=(0,0,false):=by
 subst hn;have hl:=pI hz;have he:=M6 p.months.length hl.2;have hc:=yt hz;exact if_pos (by omega)
theorem Hv (p:Prod) (inst:Int) (w:World) (hp:gM w p):
 Calls Tryz.prog 71 #[p.agg,↑inst] w fun e w'=>e= .returned (.tuple #[.int .i64 (gf p inst).1,.int .i64 (gf p inst).2.1,.bool (gf p inst).2.2])∧Below w.heap.size w w':=by
 have hs0:=St.new hp;unfold Prod.cells at hs0;have eE:=af hs0;have dn:=Kz p _ hs0.pv;unfold Prod.agg Prod.cells at dn⊢;have hml:=hp.Cg;clear hp hs0;have hcb:=BA p;obtain⟨b0,b1,b2,b3,b4,bk,bw,bn,bC,bD,bu⟩:=eE.out.pc;by_cases hz:cR p=0
 ·rw [hz]at dn
  by_cases hneg:inst<0
  ·have c6:Hid (gf p inst=(0,0,false)):=af (if_pos (.inl hneg))
   rw [c6.out];clear hz;go_enter Tryz.func71,Tryz.ntmps71
   go_wp2_with fail
   refine dn.mono ?_;rintro e w1 ⟨rfl,hb1⟩;have aD:=af (eE.out.next hb1);clear dn hb1 b0 b1 b2 b3 b4 bk bw bn bC bD bu;go_wp2_with fail
   go_ret3
   exact⟨by rfl,aD.out.aJ⟩
  ·have hlen:=pI hz
   have uI:=yN p.months.length hlen.2;have hcs:=yt hz;by_cases hm:inst<p.months.length
   ·have c6:Hid (gf p inst=(inst,inst,false)):=af (by unfold gf;rw [if_neg (by omega),if_pos hm])
    rw [c6.out];clear hz hcs uI;go_enter Tryz.func71,Tryz.ntmps71
    go_wp2_with fail
    refine dn.mono ?_;rintro e w1 ⟨rfl,hb1⟩;have aD:=af (eE.out.next hb1);clear dn hb1 b0 b1 b2 b3 b4 bk bw bn bC bD bu;go_wp2_with fail
    go_ret3
    exact⟨by rfl,aD.out.aJ⟩
   ·obtain⟨k,hk⟩:∃k:Nat,inst=(p.months.length:Int)+(k:Int):=⟨(inst-p.months.length).toNat,by omega⟩
    subst hk;have HD:=af fun(i j:Nat) (hi:i+1≤j) (hj:j<p.months.length) (hk:k=k4 p.months.length i+(j-(i+1)))=>Y7 rfl hz hi hj hk;have aic:=af fun(hk:k4 p.months.length p.months.length≤k)=>aib rfl hz hk;have uL:=af (afZ p.months.length hlen.2);clear hz hcs uI hcb;generalize hv:gf p ((p.months.length:Int)+(k:Int))=v at*;clear hv;go_enter Tryz.func71,Tryz.ntmps71
    go_wp2_with fail
    refine dn.mono ?_;rintro e w1 ⟨rfl,hb1⟩;have aD:=af (eE.out.next hb1);clear dn hb1 b0 b1 b2 b3 b4 bk bw bn bC bD bu;generalize hn:p.months.length=n at*;clear hn;go_wp2_with fail
    go_loop [8,9] (fun at_ i=>∃j:Nat,i=↑j∧j≤n∧at_= .int .i64 ((n:Int)+(k4 n j:Nat))∧k4 n j≤k) (fun _ i=>n-(RowKit.intOf i).toNat)
    case atStart=>exact⟨0,rfl,Nat.zero_le _,congrArg (Value.int .i64) (by rw [XA];simp),by rw [XA];omega⟩
    case round=>
     obtain⟨i,rfl,hi,rfl,hle⟩:=hrel;by_cases hin:i<n
     ·have am3:(i:Int)<(n:Int):=by omega
      have HC:=uL.out i (by omega);have uv:=af (JO n i);have Kt:Hid (∀j,i+1≤j→j<n→k=k4 n i+(j-(i+1))→v=((i:Int),(j:Int),true)):=af fun j h1 h2 h3=>HD.out i j h1 h2 h3;generalize k4 n i=o at*;go_wp2_with fail
      go_loop [8,10] (fun at_ j'=>∃j:Nat,j'=↑j∧i+1≤j∧j≤n∧at_= .int .i64 ((n:Int)+(o:Int)+((j:Int)-((i:Int)+1)))∧o+(j-(i+1))≤k) (fun _ j'=>n-(RowKit.intOf j').toNat)
      case atStart=>exact⟨i+1,by go_num,by omega,by omega,congrArg (Value.int .i64) (by omega),by omega⟩
      case round=>
       obtain⟨j,rfl,sA,hj2,rfl,pX⟩:=hrel;by_cases hjn:j<n
       ·have aid:(j:Int)<(n:Int):=by omega
        by_cases heq:k=o+(j-(i+1))
        ·have hv:=Kt.out j sA hjn heq
         have he:((n:Int)+(o:Int)+((j:Int)-((i:Int)+1))==(n:Int)+(k:Int))=true:=by rw [beq_iff_eq];omega
         subst hv;clear heq;go_wp2_with fail
         go_ret3
         exact⟨by rfl,aD.out.aJ⟩
        ·have he:((n:Int)+(o:Int)+((j:Int)-((i:Int)+1))==(n:Int)+(k:Int))=false:=by rw [beq_eq_false_iff_ne];omega
         go_wp2_with fail
         go_round
         case rel=>exact⟨j+1,by go_num,by omega,by omega,congrArg (Value.int .i64) (by omega),by omega⟩
         case measure=>simp [RowKit.intOf];omega
       ·obtain rfl:j=n:=by omega
        have w9:=uv.out;go_wp2_with fail
        go_round
        case rel=>exact⟨i+1,by go_num,by omega,congrArg (Value.int .i64) (by omega),by omega⟩
        case measure=>simp [RowKit.intOf];omega
     ·obtain rfl:i=n:=by omega
      have hv:v=(0,0,false):=aic.out hle;subst hv;clear hle;go_wp2_with fail
      go_ret3
      exact⟨by rfl,aD.out.aJ⟩
 ·have c6:Hid (gf p inst=(0,0,false)):=af (by have:=KB hz;exact if_pos (by omega))
  rw [c6.out];have eg:(cR p !=0)=true:=by rw [bne_iff_ne];exact hz
  clear hz;generalize cR p=cp at*;go_enter Tryz.func71,Tryz.ntmps71
  go_wp2_with fail
  refine dn.mono ?_;rintro e w1 ⟨rfl,hb1⟩;have aD:=af (eE.out.next hb1);clear dn hb1 b0 b1 b2 b3 b4 bk bw bn bC bD bu;go_wp2_with fail
  go_ret3
  exact⟨by rfl,aD.out.aJ⟩
theorem Y8 {p:Prod} {inst:Int} (h0:0≤inst) (h1:inst<countP p):(gf p inst).2.2=decide ((p.months.length:Int)≤inst):=by
 unfold gf;rw [if_neg (by omega)];by_cases h:inst<p.months.length
 ·rw [if_pos h,decide_eq_false (by omega)]
 ·rw [if_neg h,decide_eq_true (by omega)]
theorem DM (p:Prod) (inst ap:Int) (w:World) (hp:gM w p):
 Calls Tryz.prog 67 #[p.agg,↑inst,↑ap] w fun e w'=>e= .returned (.int .i64 (eW p inst ap))∧Below w.heap.size w w':=by
 have hs0:=St.new hp;unfold Prod.cells at hs0;have eE:=af hs0;have dn:=Kz p _ hs0.pv;have hJ:=af fun ax (h:gM ax p)=>KA p ax h;have fN:=af fun ax (h:gM ax p)=>Hv p inst ax h;unfold Prod.agg Prod.cells at dn hJ fN⊢;clear hp hs0;obtain⟨b0,b1,b2,b3,b4,bk,bw,bn,bC,bD,bu⟩:=eE.out.pc;by_cases hz:cR p=0
 ·rw [hz]at dn
  have am5:=YK hz;have hcb:=BA p;by_cases hneg:inst<0
  ·have c6:Hid (eW p inst ap=20):=af (by unfold eW;rw [if_neg (by omega),if_pos (.inl hneg)])
   rw [c6.out];clear hz;go_enter Tryz.func67,Tryz.ntmps67
   go_wp2_with fail
   refine dn.mono ?_;rintro e w1 ⟨rfl,hb1⟩;have aD:=af (eE.out.next hb1);clear dn hb1 b0 b1 b2 b3 b4 bk bw bn bC bD bu;go_wp2_with fail
   go_ret;exact⟨by rfl,aD.out.aJ⟩
  ·by_cases hge:countP p≤inst
   ·have c6:Hid (eW p inst ap=20):=af (by unfold eW;rw [if_neg (by omega),if_pos (.inr hge)])
    rw [c6.out];clear hz;generalize countP p=cp at*;go_enter Tryz.func67,Tryz.ntmps67
    go_wp2_with fail
    refine dn.mono ?_;rintro e w1 ⟨rfl,hb1⟩;have aD:=af (eE.out.next hb1);clear dn hb1 b0 b1 b2 b3 b4 bk bw bn bC bD bu;obtain⟨b0,b1,b2,b3,b4,bk,bw,bn,bC,bD,bu⟩:=aD.out.pc;go_wp2_with fail
    refine(hJ.out _ aD.out.pv).mono ?_;rintro e w2 ⟨rfl,hb2⟩;have cA:=af (aD.out.next hb2);clear hb2 b0 b1 b2 b3 b4 bk bw bn bC bD bu;go_wp2_with fail
    go_ret;exact⟨by rfl,cA.out.aJ⟩
   ·have kX:=afX hz
    have hbd:=Y5 hz;have mO:=Y8 (p:=p) (inst:=inst) (by omega) (by omega);have am6:(p.tick==0)=false:=by rw [beq_eq_false_iff_ne];omega
    have vM:(p.tick== -1)=false:=by rw [beq_eq_false_iff_ne];omega
    obtain⟨t,ht⟩:=ai (ap.tmod p.tick);have bP:=af ht;clear ht;have EU:Hid (eW p inst ap=if t≠0 then 22 else if ap<C5 p inst∨C6 p inst<ap then 23 else 0):=af (by unfold eW;rw [if_neg (by omega),if_neg (by omega),bP.out]);by_cases ko:t=0
    ·have e1:(t !=0)=false:=by rw [ko];rfl
     have sL:Hid (eW p inst ap=if ap<C5 p inst∨C6 p inst<ap then 23 else 0):=af (by rw [EU.out,if_neg (by simp [ko])]);clear ko;have y1:IntKind.i64.wrap (-p.wide)= -p.wide:=IntWalk.i64_in _ (by omega);by_cases hm:(p.months.length:Int)≤inst
     ·have hlo:C5 p inst= -p.wide:=if_pos hm
      have hhi:C6 p inst=p.wide:=if_pos hm;rw [decide_eq_true hm]at mO;obtain⟨l0,l1,l2,hl⟩:∃l0 l1 l2,gf p inst=(l0,l1,l2):=⟨_,_,_,rfl⟩;rw [hl]at fN mO;replace mO:l2=true:=mO;subst mO;rw [hlo,hhi]at sL;clear hz hl hlo hhi;generalize countP p=cp at*;by_cases k1:ap< -p.wide
      ·have c6:Hid (eW p inst ap=23):=af (by rw [sL.out,if_pos (.inl k1)])
       rw [c6.out];go_enter Tryz.func67,Tryz.ntmps67
       go_wp2_with fail
       refine dn.mono ?_;rintro e w1 ⟨rfl,hb1⟩;have aD:=af (eE.out.next hb1);clear dn hb1 b0 b1 b2 b3 b4 bk bw bn bC bD bu;obtain⟨b0,b1,b2,b3,b4,bk,bw,bn,bC,bD,bu⟩:=aD.out.pc;go_wp2_with fail
       refine(hJ.out _ aD.out.pv).mono ?_;rintro e w2 ⟨rfl,hb2⟩;have cA:=af (aD.out.next hb2);clear hb2 b0 b1 b2 b3 b4 bk bw bn bC bD bu;obtain⟨b0,b1,b2,b3,b4,bk,bw,bn,bC,bD,bu⟩:=cA.out.pc;have ht:=bP.out;go_wp2_with fail
       clear ht;refine(fN.out _ cA.out.pv).mono ?_;rintro e w3 ⟨rfl,hb3⟩;have iG:=af (cA.out.next hb3);clear hb3 b0 b1 b2 b3 b4 bk bw bn bC bD bu;obtain⟨b0,b1,b2,b3,b4,bk,bw,bn,bC,bD,bu⟩:=iG.out.pc;go_wp2_with fail
       go_ret;exact⟨by rfl,iG.out.aJ⟩
      ·by_cases k2:p.wide<ap
       ·have c6:Hid (eW p inst ap=23):=af (by rw [sL.out,if_pos (.inr k2)])
        rw [c6.out];go_enter Tryz.func67,Tryz.ntmps67
        go_wp2_with fail
        refine dn.mono ?_;rintro e w1 ⟨rfl,hb1⟩;have aD:=af (eE.out.next hb1);clear dn hb1 b0 b1 b2 b3 b4 bk bw bn bC bD bu;obtain⟨b0,b1,b2,b3,b4,bk,bw,bn,bC,bD,bu⟩:=aD.out.pc;go_wp2_with fail
        refine(hJ.out _ aD.out.pv).mono ?_;rintro e w2 ⟨rfl,hb2⟩;have cA:=af (aD.out.next hb2);clear hb2 b0 b1 b2 b3 b4 bk bw bn bC bD bu;obtain⟨b0,b1,b2,b3,b4,bk,bw,bn,bC,bD,bu⟩:=cA.out.pc;have ht:=bP.out;go_wp2_with fail
        clear ht;refine(fN.out _ cA.out.pv).mono ?_;rintro e w3 ⟨rfl,hb3⟩;have iG:=af (cA.out.next hb3);clear hb3 b0 b1 b2 b3 b4 bk bw bn bC bD bu;obtain⟨b0,b1,b2,b3,b4,bk,bw,bn,bC,bD,bu⟩:=iG.out.pc;go_wp2_with fail
        go_ret;exact⟨by rfl,iG.out.aJ⟩
       ·have c6:Hid (eW p inst ap=0):=af (by rw [sL.out,if_neg (by omega)])
        rw [c6.out];go_enter Tryz.func67,Tryz.ntmps67
        go_wp2_with fail
        refine dn.mono ?_;rintro e w1 ⟨rfl,hb1⟩;have aD:=af (eE.out.next hb1);clear dn hb1 b0 b1 b2 b3 b4 bk bw bn bC bD bu;obtain⟨b0,b1,b2,b3,b4,bk,bw,bn,bC,bD,bu⟩:=aD.out.pc;go_wp2_with fail
        refine(hJ.out _ aD.out.pv).mono ?_;rintro e w2 ⟨rfl,hb2⟩;have cA:=af (aD.out.next hb2);clear hb2 b0 b1 b2 b3 b4 bk bw bn bC bD bu;obtain⟨b0,b1,b2,b3,b4,bk,bw,bn,bC,bD,bu⟩:=cA.out.pc;have ht:=bP.out;go_wp2_with fail
        clear ht;refine(fN.out _ cA.out.pv).mono ?_;rintro e w3 ⟨rfl,hb3⟩;have iG:=af (cA.out.next hb3);clear hb3 b0 b1 b2 b3 b4 bk bw bn bC bD bu;obtain⟨b0,b1,b2,b3,b4,bk,bw,bn,bC,bD,bu⟩:=iG.out.pc;go_wp2_with fail
        go_ret;exact⟨by rfl,iG.out.aJ⟩
     ·have hlo:C5 p inst=p.low:=if_neg hm
      have hhi:C6 p inst=p.high:=if_neg hm;rw [decide_eq_false hm]at mO;obtain⟨l0,l1,l2,hl⟩:∃l0 l1 l2,gf p inst=(l0,l1,l2):=⟨_,_,_,rfl⟩;rw [hl]at fN mO;replace mO:l2=false:=mO;subst mO;rw [hlo,hhi]at sL;clear hz hl hlo hhi;generalize countP p=cp at*;by_cases k1:ap<p.low
      ·have c6:Hid (eW p inst ap=23):=af (by rw [sL.out,if_pos (.inl k1)])
       rw [c6.out];go_enter Tryz.func67,Tryz.ntmps67
       go_wp2_with fail
       refine dn.mono ?_;rintro e w1 ⟨rfl,hb1⟩;have aD:=af (eE.out.next hb1);clear dn hb1 b0 b1 b2 b3 b4 bk bw bn bC bD bu;obtain⟨b0,b1,b2,b3,b4,bk,bw,bn,bC,bD,bu⟩:=aD.out.pc;go_wp2_with fail
       refine(hJ.out _ aD.out.pv).mono ?_;rintro e w2 ⟨rfl,hb2⟩;have cA:=af (aD.out.next hb2);clear hb2 b0 b1 b2 b3 b4 bk bw bn bC bD bu;obtain⟨b0,b1,b2,b3,b4,bk,bw,bn,bC,bD,bu⟩:=cA.out.pc;have ht:=bP.out;go_wp2_with fail
       clear ht;refine(fN.out _ cA.out.pv).mono ?_;rintro e w3 ⟨rfl,hb3⟩;have iG:=af (cA.out.next hb3);clear hb3 b0 b1 b2 b3 b4 bk bw bn bC bD bu;obtain⟨b0,b1,b2,b3,b4,bk,bw,bn,bC,bD,bu⟩:=iG.out.pc;go_wp2_with fail
       go_ret;exact⟨by rfl,iG.out.aJ⟩
      ·by_cases k2:p.high<ap
       ·have c6:Hid (eW p inst ap=23):=af (by rw [sL.out,if_pos (.inr k2)])
        rw [c6.out];go_enter Tryz.func67,Tryz.ntmps67
        go_wp2_with fail
        refine dn.mono ?_;rintro e w1 ⟨rfl,hb1⟩;have aD:=af (eE.out.next hb1);clear dn hb1 b0 b1 b2 b3 b4 bk bw bn bC bD bu;obtain⟨b0,b1,b2,b3,b4,bk,bw,bn,bC,bD,bu⟩:=aD.out.pc;go_wp2_with fail
        refine(hJ.out _ aD.out.pv).mono ?_;rintro e w2 ⟨rfl,hb2⟩;have cA:=af (aD.out.next hb2);clear hb2 b0 b1 b2 b3 b4 bk bw bn bC bD bu;obtain⟨b0,b1,b2,b3,b4,bk,bw,bn,bC,bD,bu⟩:=cA.out.pc;have ht:=bP.out;go_wp2_with fail
        clear ht;refine(fN.out _ cA.out.pv).mono ?_;rintro e w3 ⟨rfl,hb3⟩;have iG:=af (cA.out.next hb3);clear hb3 b0 b1 b2 b3 b4 bk bw bn bC bD bu;obtain⟨b0,b1,b2,b3,b4,bk,bw,bn,bC,bD,bu⟩:=iG.out.pc;go_wp2_with fail
        go_ret;exact⟨by rfl,iG.out.aJ⟩
       ·have c6:Hid (eW p inst ap=0):=af (by rw [sL.out,if_neg (by omega)])
        rw [c6.out];go_enter Tryz.func67,Tryz.ntmps67
        go_wp2_with fail
        refine dn.mono ?_;rintro e w1 ⟨rfl,hb1⟩;have aD:=af (eE.out.next hb1);clear dn hb1 b0 b1 b2 b3 b4 bk bw bn bC bD bu;obtain⟨b0,b1,b2,b3,b4,bk,bw,bn,bC,bD,bu⟩:=aD.out.pc;go_wp2_with fail
        refine(hJ.out _ aD.out.pv).mono ?_;rintro e w2 ⟨rfl,hb2⟩;have cA:=af (aD.out.next hb2);clear hb2 b0 b1 b2 b3 b4 bk bw bn bC bD bu;obtain⟨b0,b1,b2,b3,b4,bk,bw,bn,bC,bD,bu⟩:=cA.out.pc;have ht:=bP.out;go_wp2_with fail
        clear ht;refine(fN.out _ cA.out.pv).mono ?_;rintro e w3 ⟨rfl,hb3⟩;have iG:=af (cA.out.next hb3);clear hb3 b0 b1 b2 b3 b4 bk bw bn bC bD bu;obtain⟨b0,b1,b2,b3,b4,bk,bw,bn,bC,bD,bu⟩:=iG.out.pc;go_wp2_with fail
        go_ret;exact⟨by rfl,iG.out.aJ⟩
    ·have e1:(t !=0)=true:=by rw [bne_iff_ne];exact ko
     have c6:Hid (eW p inst ap=22):=af (by rw [EU.out,if_pos ko]);rw [c6.out];have Hs:=af ko;clear hz mO ko Hs;generalize countP p=cp at*;go_enter Tryz.func67,Tryz.ntmps67
     go_wp2_with fail
     refine dn.mono ?_;rintro e w1 ⟨rfl,hb1⟩;have aD:=af (eE.out.next hb1);clear dn hb1 b0 b1 b2 b3 b4 bk bw bn bC bD bu;obtain⟨b0,b1,b2,b3,b4,bk,bw,bn,bC,bD,bu⟩:=aD.out.pc;go_wp2_with fail
     refine(hJ.out _ aD.out.pv).mono ?_;rintro e w2 ⟨rfl,hb2⟩;have cA:=af (aD.out.next hb2);clear hb2 b0 b1 b2 b3 b4 bk bw bn bC bD bu;have b2:=cA.out.pc.2.2.1;have ht:=bP.out;go_wp2_with fail
     go_ret;exact⟨by rfl,cA.out.aJ⟩
 ·have c6:Hid (eW p inst ap=1):=af (if_pos (KB hz))
  rw [c6.out];have eg:(cR p !=0)=true:=by rw [bne_iff_ne];exact hz
  clear hz;generalize cR p=cp at*;go_enter Tryz.func67,Tryz.ntmps67
  go_wp2_with fail
  refine dn.mono ?_;rintro e w1 ⟨rfl,hb1⟩;have aD:=af (eE.out.next hb1);clear dn hb1 b0 b1 b2 b3 b4 bk bw bn bC bD bu;go_wp2_with fail
  go_ret;exact⟨by rfl,aD.out.aJ⟩
end Go.Proofs.YtmaijkoopjocdaaGreat
