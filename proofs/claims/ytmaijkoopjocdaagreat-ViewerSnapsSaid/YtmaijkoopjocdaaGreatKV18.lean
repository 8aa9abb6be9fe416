import Derived.Test.YtmaijkoopjocdaaGreatKV17
import Derived.Test.YtmaijkoopjocdaaGreatKV15
import Derived.Test.YtmaijkoopjocdaaGreatKV14
set_option maxRecDepth 100000
set_option maxHeartbeats 64000000
namespace Go.Proofs.YtmaijkoopjocdaaGreat
open Go.RowKit Go.Lib
theorem HS {l:List Int} {q:Int} (hl:l.length≤250) (hx:∀x∈l,1≤x∧x≤1000000):yX l q=decide (0≤q∧q≤l.sum):=by
 unfold yX;rw [decide_eq_decide];exact⟨fun h=>⟨h.2.1,h.2.2.2⟩,fun h=>⟨hl,h.1,hx,h.2⟩⟩
theorem ai5 {w:World} {v:Value} {l:List Int} (h:e8.eT w v l) (hl:l.length≤250) (hx:∀x∈l,1≤x∧x≤1000000) (q:Int):
 Calls Tryz.prog 150 #[v,↑q] w fun e w'=>∃v',e= .returned v'∧e8.Row w' w.heap.size v' (FB l q)∧Below w.heap.size w w':=by
 have bg:=af (SC h hl hx q);rw [←HS hl hx]at bg;have mX:=BR (b:=1000000) fun x gx=>(hx x gx).2;by_cases hr:yX l q=true
 ·have hd:=hr
  rw [HS hl hx,decide_eq_true_eq]at hd;have b5:=af (SB h hl (fun x gx=>⟨by have:=(hx x gx).1;omega,(hx x gx).2⟩) q (by omega) (by omega));have bR:Hid (FB l q=kC l q):=af (if_pos hr);rw [hr]at bg;rw [bR.out];clear hx hd hr;go_enter Tryz.func150,Tryz.ntmps150
  go_wp2_with fail
  refine bg.out.mono ?_;rintro e w2 ⟨rfl,rfl⟩;clear bg;go_wp2_with fail
  refine b5.out.mono ?_;rintro e w3 ⟨v',rfl,jr,hb3⟩;have rG:=af jr;have aQ:=af hb3;clear jr hb3 b5;go_wp2_with fail
  go_ret;exact⟨_,rfl,rG.out,aQ.out⟩
 ·have gv:yX l q=false:=by rw [Bool.not_eq_true]at hr;exact hr
  have bR:Hid (FB l q= []):=af (if_neg hr);rw [gv]at bg;rw [bR.out];clear hx hr gv;go_enter Tryz.func150,Tryz.ntmps150
  go_wp2_with fail
  refine bg.out.mono ?_;rintro e w2 ⟨rfl,rfl⟩;clear bg;go_wp2_with fail
  go_ret;exact⟨_,rfl,bl.Row.nil _ _,Below.refl _ _⟩
theorem Z2 {l b:List Int} {q k:Int} (hl:l.length≤250) (eU:b.length=l.length) (hx:∀x∈l,1≤x∧x≤1000000) (hb:∀(j:Nat) (x y:Int),l[j]? =some x→b[j]? =some y→0≤y∧y≤x) (hs:b.sum=k) (h0:k≤q) (h1:q≤l.sum) (hk:0≤k):
 xF (iN l b) (q-k)∧∀x∈iN l b,ox x:=by
 have mX:=BR (b:=1000000) fun x gx=>(hx x gx).2
 have he:∀x∈iN l b,0≤x∧x≤1000000:=fun x gx=>by
  obtain⟨j,hj,rfl⟩:=List.getElem_of_mem gx;have hj2:j<l.length:=by rwa [tQ _ _ eU]at hj
  have e:=ZX (List.getElem?_eq_getElem hj2) (List.getElem?_eq_getElem (show j<b.length by omega));rw [List.getElem?_eq_getElem hj]at e;injection e with e;rw [e];have:=hb j _ _ (List.getElem?_eq_getElem hj2) (List.getElem?_eq_getElem (show j<b.length by omega));have:=hx _ (List.getElem_mem hj2);omega
 refine⟨⟨by rw [tQ _ _ eU];exact hl,he,by omega,by omega,.inr ?_⟩,fun x gx=>by have:=he x gx;unfold ox;omega⟩;rw [Z3 l b eU,hs];omega
theorem HT {l:List Int} {q least:Int} (h:xF l q) (hl:1≤least):∀y∈xG l least q,ox y:=by
 intro y hy;obtain⟨j,hj,rfl⟩:=List.getElem_of_mem hy;have hj2:j<l.length:=by rwa [BS]at hj
 have Z4:j<(iN l (nY l least q)).length:=by rw [tQ _ _ (Lb l least q)];exact hj2
 have e1:(nY l least q)[j]? =some (lM least q l.sum l[j]):=by unfold nY;rw [List.getElem?_map,List.getElem?_eq_getElem hj2];rfl
 have e2:=Oa (q:=q-(nY l least q).sum) (List.getElem?_eq_getElem Z4);have e:=ai6 e1 e2;rw [show(oV (nY l least q) (kC (iN l (nY l least q)) (q-(nY l least q).sum)))=xG l least q from rfl,List.getElem?_eq_getElem hj]at e;injection e with e;rw [e];have h1:=h.rest hl _ (List.getElem_mem Z4);have h3:=h.part hl _ (List.getElem_mem hj2);have h4:=h.each _ (List.getElem_mem hj2);have h5:=(h.ZY hl l.length).2;rw [List.take_length]at h5;have h6:(nY l least q).sum=(l.map (lM least q l.sum)).sum:=rfl;have q0:=h.q0;have q1:=h.q1;have h2:=Ob (l:=(iN l (nY l least q)).take j) (q:=q-(nY l least q).sum) (b:=250000000) (fun y hy=>(h.rest hl y (List.mem_of_mem_take hy)).1) (by omega) (by omega) (by omega);have h7:=Z0 (b:=250000000) h1.1 h2.1 h2.2;unfold ox;omega
theorem ai7 {w:World} {v:Value} {l:List Int} (h:e8.eT w v l) (hl:l.length≤250) (hx:∀x∈l,1≤x∧x≤1000000) (part least q:Int) (hp:0≤part∧part≤100) (hle:1≤least):
 Calls Tryz.prog 152 #[v,↑part,↑least,↑q] w fun e w'=>∃v',e= .returned v'∧e8.Row w' w.heap.size v' (FC l part least q)∧Below w.heap.size w w':=by
 have bg:=af (SC h hl hx q);rw [←HS hl hx]at bg;have mX:=BR (b:=1000000) fun x gx=>(hx x gx).2;have bz:=af hx;have d0:¬part<0:=by omega
 have d1:¬100<part:=by omega
 have d2:¬least<1:=by omega
 by_cases hr:yX l q=true
 ·have hd:=hr
  rw [HS hl hx,decide_eq_true_eq]at hd;have bR:Hid (FC l part least q=oV (kC l (q*part / 100)) (xG (iN l (kC l (q*part / 100))) least (q-q*part / 100))):=af (if_pos ⟨hr,hp.1,hp.2,hle⟩);rw [hr]at bg;have l7:=af (fun w=>ZZ q part 100 w (by omega) (by omega) (by omega));have iQ:0≤q*part / 100:=Int.ediv_nonneg (Int.mul_nonneg hd.1 hp.1) (by omega);have cN:q*part / 100≤q:=Int.ediv_le_of_le_mul (by omega) (Int.mul_le_mul_of_nonneg_left hp.2 hd.1);obtain⟨k,hk⟩:=ai (q*part / 100);simp only [hk]at l7 bR iQ cN;have b5:=af (fun w h=>SB (w:=w) (v:=v) (l:=l) h hl (fun x gx=>⟨by have:=(hx x gx).1;omega,(hx x gx).2⟩) k (by omega) (by omega));have hfe:=(SD (l:=l) (q:=k) (fun x gx=>by have:=(hx x gx).1;omega) iQ);have Z5:(kC l k).sum=k:=by have:=hfe.2.2 (by omega);omega
  have GI:∀(j:Nat) (x y:Int),l[j]? =some x→(kC l k)[j]? =some y→0≤y∧y≤x:=fun j x y h1 h2=>by
   rw [Oa h1]at h2;injection h2 with h2;have h3:=(SD (l:=l.take j) (q:=k) (fun x gx=>by have:=(hx x (List.mem_of_mem_take gx)).1;omega) iQ).2.1;have h4:=(hx x (List.mem_of_getElem? h1)).1;rw [←h2];exact⟨ai8 (by omega) h3,(Z6 _ _).1⟩
  have fB:=Z2 (q:=q) (k:=k) hl (tT l k) hx GI Z5 cN hd.2 iQ
  have CW:∀y∈kC l k,ox y:=fun y hy=>by
   obtain⟨j,hj,rfl⟩:=List.getElem_of_mem hy;have hj2:j<l.length:=by rwa [tT]at hj
   have:=GI j _ _ (List.getElem?_eq_getElem hj2) (List.getElem?_eq_getElem hj);have:=hx _ (List.getElem_mem hj2);unfold ox;omega
  have Z7:=af CW;have bA:=af fB;have aD:=af h;have c6:=af hl;rw [bR.out];have uy:Hid (∀x∈l,ox x):=af fun x gx=>by have:=hx x gx;unfold ox;omega
  clear hx hr hfe Z5 GI fB CW h;go_enter Tryz.func152,Tryz.ntmps152
  go_wp2_with fail
  refine bg.out.mono ?_;rintro e w2 ⟨rfl,rfl⟩;have wu:=l7.out w;clear bg;go_wp2_with fail
  refine wu.mono ?_;rintro e w2 ⟨rfl,rfl⟩;clear wu l7 hk;have Z8:=b5.out w aD.out;go_wp2_with fail
  refine Z8.mono ?_;rintro e w3 ⟨v3,rfl,jr,hb3⟩;have rG:=af jr;have aQ:=af hb3;have nJ:=Fz (aD.out.below hb3) jr.sl (tT l k) hl uy.out Z7.out;clear Z8 b5 jr hb3;go_wp2_with fail
  refine nJ.mono ?_;rintro e az ⟨v4,rfl,gJ,hb4⟩;have fM:=af (rG.out.below hb4);have bN:=ag aQ hb4;have dO:=HQ gJ.sl bA.out.1 hle;clear nJ gJ hb4;go_wp2_with fail
  refine dO.mono ?_;rintro e aA ⟨v5,rfl,dl,cx⟩;have bY:=ag bN cx;have oG:=FA (fM.out.below cx).sl dl.sl (by rw [BS,tQ _ _ (tT l k),tT]) (by rw [tT];exact hl) Z7.out (HT bA.out.1 hle);clear dO dl cx;go_wp2_with fail
  refine oG.mono ?_;rintro e aN ⟨v6,rfl,bX,bI⟩;have cL:=af (bX.base bY.out.size);have b7:=ag bY bI;clear oG bX bI;go_wp2_with fail
  go_ret;exact⟨_,rfl,cL.out,b7.out⟩
 ·have gv:yX l q=false:=by rw [Bool.not_eq_true]at hr;exact hr
  have bR:Hid (FC l part least q= []):=af (if_neg fun hh=>hr hh.1);rw [gv]at bg;rw [bR.out];clear hx hr gv;go_enter Tryz.func152,Tryz.ntmps152
  go_wp2_with fail
  refine bg.out.mono ?_;rintro e w2 ⟨rfl,rfl⟩;clear bg;go_wp2_with fail
  go_ret;exact⟨_,rfl,bl.Row.nil _ _,Below.refl _ _⟩
theorem ada {w:World} {v:Value} {bs:List Int} (h:cZ.eT w v bs) (hl:bs.length≤900000) (hok:∀z∈bs,isByte z):
 Calls Tryz.prog 49 #[v] w fun e w'=>e= .returned (.int .u32 (rB bs))∧w=w':=by
 have aD:=af h;have e9:=af hok;have Ck:Hid (∀k,qJ (oh 4294967295 (bs.take k))):=af fun k=>Pj (by unfold qJ;decide);have dx:Hid (rB bs=bits .xor .u32 (oh 4294967295 bs) 4294967295):=af (by rw [adb];rfl);rw [dx.out];clear dx;obtain⟨a,c,rfl,_,_⟩:=h;clear hok;go_enter Tryz.func49,Tryz.ntmps49
 go_wp2_with fail
 go_loopw [3,4] (fun y i w'=>∃k:Nat,i=↑k∧y= .int .u32 (oh 4294967295 (bs.take k))∧k≤bs.length∧w=w') (fun _ i _=>bs.length-(RowKit.intOf i).toNat)
 case atStart=>exact⟨0,rfl,rfl,Nat.zero_le _,rfl⟩
 case round=>
  obtain⟨k,rfl,rfl,hk,rfl⟩:=hrel;by_cases hlt:k<bs.length
  ·have hlt':(k:Int)<(bs.length:Int):=by omega
   obtain⟨z,hz⟩:∃z,bs[k]? =some z:=⟨_,List.getElem?_eq_getElem hlt⟩;have dN:Hid (oh 4294967295 (bs.take (k+1))=pY 8 (bits .xor .u32 (oh 4294967295 (bs.take k)) z)):=af (by rw [kH hz,Ur,Uq]);have oF:=e9.out z (List.mem_of_getElem? hz);have y1:IntKind.u32.wrap z=z:=u32_wrap_id z (by have:=oF.1;omega) (by have:=oF.2;omega);obtain⟨b,off,c',he,c0⟩:=Ut aD.out hz;injection he with he _ eS;subst he;subst eS;generalize oh 4294967295 (bs.take k)=y at*;have bz:=af (Gd .xor y z);clear hz oF;go_wp2_with fail
   generalize bits .xor .u32 y z=x0 at*;go_loopw [3,5] (fun y i w'=>∃j:Nat,i=↑j∧y= .int .u32 (pY j x0)∧j≤8∧w=w') (fun _ i _=>8-(RowKit.intOf i).toNat)
   case atStart=>exact⟨0,rfl,rfl,Nat.zero_le _,by trivial⟩
   case round=>
    obtain⟨j,rfl,rfl,hj,rfl⟩:=hrel;have hr:=Ph bz.out j;have iy:Hid (pY (j+1) x0=vB (pY j x0)):=af rfl;have IJ:Hid (j=8→oh 4294967295 (bs.take (k+1))=pY j x0):=af (by rintro rfl;exact dN.out);generalize pY j x0=t at*;by_cases h8:j<8
    ·have ac9:(j:Int)<8:=by omega
     have q1:bits .and .u32 t 1=t % 2:=Us hr;have Uu:t.fdiv 2=t / 2:=Int.fdiv_eq_ediv_of_nonneg t (by decide);by_cases ho:t % 2=1
     ·have ho':(t % 2==1)=true:=by rw [ho];rfl
      have pZ:Hid (pY (j+1) x0=bits .xor .u32 (t / 2) 3988292384):=af (by rw [iy.out];exact if_pos ho);have bM:=af hr;clear hr ho iy;go_wp2_with fail
      go_roundw
      case rel=>exact⟨j+1,by go_num,by rw [pZ.out],h8,by trivial⟩
      case measure=>simp [RowKit.intOf];omega
     ·have ho':(t % 2==1)=false:=by rw [beq_eq_false_iff_ne];exact ho
      have pZ:Hid (pY (j+1) x0=t / 2):=af (by rw [iy.out];exact if_neg ho);have bM:=af hr;clear hr ho iy;go_wp2_with fail
      go_roundw
      case rel=>exact⟨j+1,by go_num,by rw [pZ.out],h8,by trivial⟩
      case measure=>simp [RowKit.intOf];omega
    ·obtain rfl:j=8:=by omega
     have nc:Hid (oh 4294967295 (bs.take (k+1))=t):=af (IJ.out rfl);clear IJ;go_wp2_with fail
     go_roundw
     case rel=>exact⟨k+1,by go_num,by rw [nc.out],hlt,by trivial⟩
     case measure=>simp [RowKit.intOf];omega
  ·obtain rfl:k=bs.length:=by omega
   go_wp2_with fail
   go_ret;exact⟨by trivial,by trivial⟩
theorem xX {w:World} {v:Value} {L:List Int} (h:cZ.eT w v L) (hl:L.length≤900000) (n:Int):
 Calls Tryz.prog 46 #[v,↑n] w fun e w'=>∃v',e= .returned v'∧cZ.Row w' w.heap.size v' (L++ [n % 256])∧Below w.heap.size w w':=by
 obtain⟨a,c,rfl,ho,hrd⟩:=h;have dJ:=af ho;have H0:=af (bl.Row.empty (Y:=cZ) w);have aG:=af (Below.aI w (.cells #[] 5));have bM:=af (hrd.below aG.out);have c6:=af hl;have Pk:IntKind.u8.wrap n=n % 256:=IntKind.wrap_u8 n;clear hrd ho hl;go_enter Tryz.func46,Tryz.ntmps46
 go_wp2_with (first
  |(at_builtin;go_loud (refine cZ.wV rfl (.tmp 5) (.tmp 6) rfl w.heap.size (.slice (some ⟨w.heap.size,0,none⟩) 0 0) [] rfl H0.out a c L rfl (fun h=>(dJ.out.1 h).2) bM.out dJ.out.2.1 (by have:=c6.out;simp;omega) aG.out.size ?_)))
 intro v' aN bX cQ eG;obtain⟨a',c',rfl⟩:=bX.form;have bI:=iJ cQ aG.out (cS H0.out);have hba:=Below.aI aN (.cells #[.int .u8 (n % 256)] 5);have cL:=af (bX.below hba);have b7:=af (bI.trans (hba.mono bI.size));have c8:Hid (av (aN.alloc (.cells #[.int .u8 (n % 256)] 5)) aN.heap.size 5 (DS (n % 256)).toArray):=af (av.new _ _ _);clear bX cQ eG bI hba H0 aG bM
 go_wp2_with (first
  |(at_builtin;go_loud (refine cZ.push rfl (.tmp 7) (.tmp 10) rfl w.heap.size _ L rfl cL.out aN.heap.size (n % 256) rfl c8.out.lt c8.out.gH (by have:=c6.out;omega) b7.out.size ?_)))
 intro v' bf lQ er DT;have m5:=af lQ;have dP:=af (iJ er b7.out (cS cL.out));clear lQ er DT cL c8 b7;go_wp2_with fail
 go_ret;exact⟨_,rfl,m5.out,dP.out⟩
theorem ade (n:Int):IntKind.u64.wrap n=n % 18446744073709551616:=IntKind.wrap_u64 n
theorem adf (u:Int) (j:Nat):u / 2^(8*j) % 256=nH u j % 256:=by
 unfold nH;rw [Int.pow_mul];rfl
theorem Cl {w:World} {v:Value} {L:List Int} (h:cZ.eT w v L) (hl:L.length≤900000) (n:Int):
 Calls Tryz.prog 47 #[v,↑n] w fun e w'=>∃v',e= .returned v'∧cZ.Row w' w.heap.size v' (L++jo (n % 18446744073709551616) 8)∧Below w.heap.size w w':=by
 obtain⟨a,c,rfl,ho,hrd⟩:=h;have dJ:=af ho;have H0:=af (bl.Row.empty (Y:=cZ) w);have aG:=af (Below.aI w (.cells #[] 5));have bM:=af (hrd.below aG.out);have c6:=af hl;obtain⟨u,hu⟩:=ai (n % 18446744073709551616);have adg:=ade n;rw [hu]at adg⊢;clear hrd ho hl hu;go_enter Tryz.func47,Tryz.ntmps47
 go_wp2_with (first
  |(at_builtin;go_loud (refine cZ.wV rfl (.tmp 7) (.tmp 8) rfl w.heap.size (.slice (some ⟨w.heap.size,0,none⟩) 0 0) [] rfl H0.out a c L rfl (fun h=>(dJ.out.1 h).2) bM.out dJ.out.2.1 (by have:=c6.out;simp;omega) aG.out.size ?_)))
 intro v' aN bX cQ eG;have cL:=af bX;have b7:=af (iJ cQ aG.out (cS H0.out));clear bX cQ eG H0 aG bM;go_wp2_with fail
 go_loopw [5,6] (fun y i w'=>∃j:Nat,i= .int .u64 (8*(j:Int))∧j≤8∧cZ.Row w' w.heap.size y (L++jo u j)∧Below w.heap.size w w') (fun _ i _=>64-(RowKit.intOf i).toNat)
 case atStart=>exact⟨0,rfl,Nat.zero_le _,by rw [show jo u 0= []from rfl,List.append_nil];exact cL.out,b7.out⟩
 case round=>
  clear cL b7;obtain⟨j,rfl,hj,hr,hb⟩:=hrel;obtain⟨ax,rfl⟩:=aj wr;obtain⟨a1,c1,hv⟩:=hr.form;obtain⟨m,hm⟩:=ai ((L++jo u j).length);rw [hm]at hv;subst hv;have jd:=af hm;clear hm;by_cases hlt:j<8
  ·have hlt':8*(j:Int)<64:=by omega
   have bP:Hid (jo u (j+1)=jo u j++ [nH u j % 256]):=af (Pm u j);have jf:Hid ((L++jo u j).length≤900008):=af (by rw [List.length_append,uu];have:=c6.out;omega);have aD:Hid (nH u (j+1)=nH u j / 256):=af (Pn u j);have Pk:=adf u j;have alT:(8*(j:Int)+8) % 18446744073709551616=8*(j:Int)+8:=by omega
   obtain⟨M,fF⟩:=ai (L++jo u j);rw [fF]at hr jf;have cM:=af fF;clear fF;have rC:=af hr;have oG:=af hb;generalize nH u j % 256=x at*;have hba:=Below.aI ax (.cells #[.int .u8 x] 5);have iz:=af (hr.below hba);have b7:=af (hb.trans (hba.mono hb.size));have c8:Hid (av (ax.alloc (.cells #[.int .u8 x] 5)) ax.heap.size 5 (DS x).toArray):=af (av.new _ _ _);clear hr hb hba
   go_wp2_with (first
    |(at_builtin;go_loud (refine cZ.push rfl (.tmp 14) (.tmp 20) rfl w.heap.size (.slice a1 m c1) M rfl iz.out ax.heap.size x rfl c8.out.lt c8.out.gH (by have:=jf.out;omega) b7.out.size ?_)))
   intro v' aN bX cQ eG;have cL:=af bX;have dP:=af (iJ cQ b7.out (cS iz.out));clear bX cQ eG;go_wp2_with fail
   go_roundw
   case rel=>exact⟨j+1,by go_num,hlt,by rw [bP.out,←List.append_assoc,cM.out];exact cL.out,dP.out⟩
   case measure=>simp [RowKit.intOf];omega
  ·obtain rfl:j=8:=by omega
   have rC:=af hr;have oG:=af hb;clear hr hb;go_wp2_with fail
   go_ret;exact⟨_,rfl,rC.out,oG.out⟩
theorem NK {L:List aC} {k:Nat} {o:aC} (h:L[k]? =some o):L=L.take k++o::L.drop (k+1):=by
 obtain⟨h1,h2⟩:=lB h;rw [←h2,←List.drop_eq_getElem_cons h1,List.take_append_drop]
theorem Yz {L:List aC} (hn:(L.map aC.id).Nodup) {k:Nat} {o:aC} (h:L[k]? =some o):(∀x∈L.take k,x.id≠o.id)∧∀x∈L.drop (k+1),x.id≠o.id:=by
 rw [NK h,List.map_append,List.map_cons,List.nodup_append,List.nodup_cons]at hn;obtain⟨_,⟨h2,_⟩,h3⟩:=hn;refine⟨fun x hx he=>h3 x.id (List.mem_map.2 ⟨x,hx,rfl⟩) o.id (List.mem_cons_self ..) he,fun x hx he=>h2 (List.mem_map.2 ⟨x,hx,he⟩)⟩
theorem ahJ {L:List aC} (hn:(L.map aC.id).Nodup) {k:Nat} {o:aC} (h:L[k]? =some o):L.filter (fun x=>decide (x.id≠o.id))=L.take k++L.drop (k+1):=by
 obtain⟨h1,h2⟩:=Yz hn h
 conv=>lhs;rw [NK h]
 rw [List.filter_append,List.filter_cons_of_neg (by simp),List.filter_eq_self.2 fun x hx=>decide_eq_true (h1 x hx),List.filter_eq_self.2 fun x hx=>decide_eq_true (h2 x hx)]
theorem ahK {L:List aC} (hn:(L.map aC.id).Nodup) {k:Nat} {o:aC} (h:L[k]? =some o) (f:aC→aC):L.map (fun x=>if x.id=o.id then f x else x)=L.set k (f o):=by
 obtain⟨h1,h2⟩:=Yz hn h;have hk:=dM h
 conv=>lhs;rw [NK h]
 conv=>rhs;rw [NK h]
 rw [List.map_append,List.map_cons,if_pos rfl,List.set_append_right _ _ (by rw [List.length_take];omega),List.length_take,Nat.min_eq_left (by omega),Nat.sub_self];show _=L.take k++f o::L.drop (k+1)
 congr 1
 ·conv=>rhs;rw [←List.map_id' (L.take k)]
  exact List.map_congr_left fun x hx=>if_neg (h1 x hx)
 ·congr 1
  conv=>rhs;rw [←List.map_id' (L.drop (k+1))]
  exact List.map_congr_left fun x hx=>if_neg (h2 x hx)
section
variable {W w w':World} {pw:Nat} {L:List aC}
theorem ahL (h:g4 W w pw L) (hl:L.length≤250) (id aq:Int) (hf:L.find? (fun o=>o.id==id)=none):
 Calls Tryz.prog 108 #[.pointer ↑pw,↑id,↑aq] w fun e w'=>e= .returned (.int .i64 26)∧w=w':=by
 have hfr:=CX h hl id;have b5:=af hf;clear h hf;go_enter Tryz.func108,Tryz.ntmps108
 go_wp2_with fail
 refine hfr.mono ?_;rintro e w2 ⟨⟨r,rfl,hr⟩,rfl⟩
 obtain rfl:r= -1:=by
  rcases hr with⟨h1,_⟩|⟨k,o',_,_,_,h1⟩
  ·exact h1
  ·have:=b5.out;rw [h1]at this;cases this
 clear hr hfr;go_wp2_with fail
 go_ret;exact⟨by trivial,by trivial⟩
theorem ahM (h:g4 W w pw L) (hl:L.length≤250) (id aq:Int) {o:aC} (hf:L.find? (fun o=>o.id==id)=some o) (hq:aq<1∨o.aq<aq):
 Calls Tryz.prog 108 #[.pointer ↑pw,↑id,↑aq] w fun e w'=>e= .returned (.int .i64 24)∧w=w':=by
 have hfr:=CX h hl id;have b5:=af hf;have en:=af h;clear h hf;go_enter Tryz.func108,Tryz.ntmps108
 go_wp2_with fail
 refine hfr.mono ?_;rintro e w2 ⟨⟨r,rfl,hr⟩,rfl⟩
 obtain⟨k,rfl,ho⟩:∃k:Nat,r=k∧L[k]? =some o:=by
  rcases hr with⟨_,h1⟩|⟨k,o',rfl,h2,_,h1⟩
  ·rw [b5.out]at h1;cases h1
  ·rw [b5.out]at h1;injection h1 with h1;subst h1;exact⟨k,rfl,h2⟩
 have eR:(k:Int)<(L.length:Int):=by have:=dM ho;omega
 have iQ:¬(k:Int)<0:=by omega
 obtain⟨a,c,aT,hrw⟩:=en.out.box;obtain⟨_,_,he,_,hrd⟩:=hrw.rd;injection he with eb _ iU;subst eb iU;obtain⟨g,off,rfl,_,hc⟩:=hrd k o ho;obtain⟨fP,hoq⟩:=ai o.aq;have jA:w.cell? ↑pw=some (.slice (some ⟨g,off,none⟩) L.length c):=aT.cell 0;have c3:w.cell? ⟨g,off+k*5+3,none⟩=some ↑fP:=hoq▸hc 3 _ rfl;rw [hoq]at hq;clear hr hfr hc aT hrw hrd ho hoq;rcases hq with hq|hq
 ·go_wp2_with fail
  go_ret;exact⟨by trivial,by trivial⟩
 ·by_cases hq1:aq<1
  ·go_wp2_with fail
   go_ret;exact⟨by trivial,by trivial⟩
  ·go_wp2_with fail
   go_ret;exact⟨by trivial,by trivial⟩
theorem ahN (h:g4 W w pw L) (hl:L.length≤250) (hn:(L.map aC.id).Nodup) (id aq:Int) {o:aC} (hf:L.find? (fun o=>o.id==id)=some o) (hq:1≤aq∧aq≤o.aq) (Bz:o.aq≤1000000) (R:List aC) (oT:R=(pF L id aq).1):
 Calls Tryz.prog 108 #[.pointer ↑pw,↑id,↑aq] w fun e w'=>e= .returned (.int .i64 0)∧g4 W w' pw R∧aK (fun g=>g=pw) w w':=by
 have hfr:=CX h hl id;have b5:=af hf;have en:=af h;have ahO:o.id=id:=by simpa using List.find?_some hf
 have nW:Hid (∀k,L[k]? =some o→R=if o.aq=aq then L.take k++L.drop (k+1)else L.set k {o with aq:=o.aq-aq}):=af fun k hk=>by
  rw [oT,NC hf,if_neg (by omega)];subst ahO;split
  ·exact ahJ hn hk
  ·exact ahK hn hk fun x=>{x with aq:=x.aq-aq}
 have YA:=af h.box;clear h hf oT hn;go_enter Tryz.func108,Tryz.ntmps108
 go_wp2_with fail
 refine hfr.mono ?_;rintro e w2 ⟨⟨r,rfl,hr⟩,rfl⟩
 obtain⟨k,rfl,ho⟩:∃k:Nat,r=k∧L[k]? =some o:=by
  rcases hr with⟨_,h1⟩|⟨k,o',rfl,h2,_,h1⟩
  ·rw [b5.out]at h1;cases h1
  ·rw [b5.out]at h1;injection h1 with h1;subst h1;exact⟨k,rfl,h2⟩
 have eR:(k:Int)<(L.length:Int):=by have:=dM ho;omega
 have iQ:¬(k:Int)<0:=by omega
 have YB:=af (nW.out k ho);obtain⟨a,c,aT,hrw⟩:=YA.out;obtain⟨_,_,he,hac,hrd⟩:=hrw.rd;injection he with eb _ iU;subst eb iU;obtain⟨g,off,rfl,_,hc⟩:=hrd k o ho;obtain⟨f0,f1,f2,fP,f4⟩:=o;have hq1:¬aq<1:=by omega
 have hq2:¬fP<aq:=by have:=hq.2;dsimp only at this;omega
 have Cw:1≤aq:=hq.1;have w8:fP≤1000000:=Bz;have e9:=af ho;have g6:=af aT;have jA:w.cell? ↑pw=some (.slice (some ⟨g,off,none⟩) L.length c):=aT.cell 0;have c3:w.cell? ⟨g,off+k*5+3,none⟩=some ↑fP:=hc 3 _ rfl
 have ahP:off=0:=by
  rcases hrw.2 with⟨hv,_⟩|⟨cI,AY,Mt,hv,_⟩
  ·injection hv with hv;cases hv
  ·injection hv with hv;injection hv with hv;injection hv with _ hv
 have om:=af hrd;have Bx:=af hac;clear hr hfr hc aT hrw hrd ho hq Bz hac YA nW;subst ahP;rw [Nat.zero_add]at c3;go_upto_region 6 with(fail)
 clear c3;have hba:=Below.aI w (.cells #[] 139);have CY:=af (om.out.below hba);have gY:Hid (gI.Row (w.alloc (.cells #[] 139)) w.heap.size (.slice ↑w.heap.size 0 0) []):=af (bl.Row.empty w);have aS:=af hba;have Rw:=(hba.cell (p:=⟨pw,0,none⟩) g6.out.lt).trans jA;have Bw:Hid (∀ad,(some ⟨g,0,none⟩:Option Addr)=some ad→∃b off,ad=⟨b,off,none⟩):=af fun ad hab=>by injection hab with hab;exact⟨g,0,hab.symm⟩
 clear hba
 go_wp2_with (first
  |(at_builtin;go_loud (refine gI.wV rfl (.tmp 28) (.tmp 32) rfl w.heap.size (.slice ↑w.heap.size 0 0) [] rfl gY.out ↑g c L rfl Bx.out CY.out Bw.out (by have h0:([]:List aC).length=0:=rfl;omega) aS.out.size ?_)))
 intro v' w3 jr cj yJ;try rw [List.nil_append]at jr
 obtain⟨aH,cap,_,rfl,dr,_⟩:=jr.Gv (by
  rcases yJ with h5|h5
  ·rw [h5];simp [Value.ownBlock]
  ·rw [h5];simp)
 have hb3:=iJ cj aS.out (cS gY.out);have RA:=g6.out.below hb3;have rG:=af jr;have aQ:=af hb3;have sZ:=af RA;have By:Hid (w.heap.size≤aH):=af dr;have NL:Hid (pw<w.heap.size):=af g6.out.lt;have ahQ:w3.cell? ↑pw=some (.slice ↑g L.length c):=RA.cell 0;have vo:∀o,w3.frozen? ⟨pw,o,none⟩=false:=fun o=>sZ.out.frozen o;clear jr cj yJ hb3 RA dr om CY gY aS Bx Bw Rw jA;go_upto_region 7 with(fail)
 clear ahQ vo;have RB:=sZ.out.aW 0 (.slice ↑aH L.length cap);have gJ:gI.Row (w3.setCell ↑pw (.slice ↑aH L.length cap)) w.heap.size (.slice ↑aH L.length cap) L:=Hr rG.out (p:=⟨pw,0,none⟩) (fun hy=>by have h0:some aH=some pw:=hy;injection h0 with h0;have h1:=NL.out;have h2:=By.out;omega) _;have iZ:aK (fun g=>g=pw∨w.heap.size≤g) w (w3.setCell ↑pw (.slice ↑aH L.length cap)):=(Below.keeps (F:=fun g=>g=pw∨w.heap.size≤g) aQ.out).setCell (p:=⟨pw,0,none⟩) (fun _=> .inl rfl) _;generalize w3.setCell ↑pw (.slice ↑aH L.length cap)=az at*;have YC:Hid (av az pw 181 #[.slice ↑aH L.length cap]):=af RB;have fM:=af gJ;have zP:=af iZ;obtain⟨Yy,oD,_,kf,_,hgt⟩:=gJ.Gv (by simp [Value.ownBlock]);injection kf with kf Hj NM;injection kf with kf;injection kf with kf;subst kf;clear Hj NM;have nV:=af hgt;have YD:az.cell? ↑pw=some (.slice ↑aH L.length cap):=RB.cell 0
 have c3:az.cell? ⟨aH,k*5+3,none⟩=some ↑fP:=by
  obtain⟨cB,ahR,h1,_,h3⟩:=gJ.rd_some k _ e9.out;injection h1 with h1;injection h1 with h1 h4;subst h1 h4;have:=h3 3 _ rfl;rw [Nat.zero_add]at this;exact this
 have fz:∀o,az.frozen? ⟨aH,o,none⟩=false:=fun o=>nV.out.frozen o;clear RB gJ iZ hgt aQ rG sZ;refine cP (S:=fun w'=>w'.cell? ↑pw=some (.slice ↑aH L.length cap)∧w'.cell? ⟨aH,k*5+3,none⟩=some ↑fP) ⟨YD,c3⟩ fun hHeld=>?_;refine au 0 ?_;refine au 1 ?_;refine au 2 ?_;refine au 3 ?_;refine au 4 ?_;refine au 5 ?_;refine au 6 ?_;refine au 7 ?_;refine au 8 ?_;refine au 9 ?_;refine au 10 ?_;refine au 11 ?_;refine au 12 ?_;refine au 13 ?_;refine au 14 ?_;refine au 15 ?_;refine au 16 ?_;refine dY 17 fun K hK=>?_;go_simp;try rw [show IntKind.i64.wrap (fP-aq)=fP-aq from IntWalk.i64_in _ (by omega)]
 refine hK.out _ _ ?_;clear hK K hHeld YD c3 fz;have dl:gI.Row ((az.setCell ⟨aH,k*5+3,none⟩ (.int .i64 (fP-aq))).drew) w.heap.size (.slice ↑aH L.length cap) (L.set k ⟨f0,f1,f2,fP-aq,f4⟩):=(bl.Row.aW fM.out (e':=(⟨f0,f1,f2,fP-aq,f4⟩:aC)) (k:=3) (u:= .int .i64 (fP-aq)) e9.out (by decide) rfl).below (Below.bO _ 1);have rz:av ((az.setCell ⟨aH,k*5+3,none⟩ (.int .i64 (fP-aq))).drew) pw 181 #[.slice ↑aH L.length cap]:=(YC.out.keeps ((aK.refl (fun k=>k=aH) az).setCell (p:=⟨aH,k*5+3,none⟩) (fun _=>rfl) (.int .i64 (fP-aq))) (fun h=>by have h1:=NL.out;have h2:=By.out;omega)).below (Below.bO _ 1);have ja:aK (fun g=>g=pw∨w.heap.size≤g) w ((az.setCell ⟨aH,k*5+3,none⟩ (.int .i64 (fP-aq))).drew):=(zP.out.setCell (p:=⟨aH,k*5+3,none⟩) (fun _=> .inr By.out) (.int .i64 (fP-aq))).trans (Below.keeps (Below.bO _ 1));generalize (az.setCell ⟨aH,k*5+3,none⟩ (.int .i64 (fP-aq))).drew=aA at*;have k7:=af dl;have RC:=af rz;have vX:=af ja;have ahS:Hid ((L.set k ⟨f0,f1,f2,fP-aq,f4⟩)[k]? =some (⟨f0,f1,f2,fP-aq,f4⟩:aC)):=af (by rw [List.getElem?_set_self (dM e9.out)]);have YE:aA.cell? ↑pw=some (.slice ↑aH L.length cap):=rz.cell 0
 have b8:aA.cell? ⟨aH,k*5+3,none⟩=some (.int .i64 (fP-aq)):=by
  obtain⟨cB,ahR,h1,_,h3⟩:=dl.rd_some k _ ahS.out;injection h1 with h1;injection h1 with h1 h4;subst h1 h4;have:=h3 3 _ rfl;rw [Nat.zero_add]at this;exact this
 have RD:Hid (W.heap.size≤w.heap.size):=af en.out.aJ.size
 have vT:Hid (∀(wx:World) (L':List aC) (g' n' c':Nat),L'.length=n'→av wx pw 181 #[.slice (some ⟨g',0,none⟩) n' c']→gI.Row wx w.heap.size (.slice (some ⟨g',0,none⟩) n' c') L'→aK (fun g=>g=pw∨w.heap.size≤g) w wx→g4 W wx pw L'∧aK (fun g=>g=pw) w wx):=af fun wx L' g' n' c' hl' h1 h2 h3=>by
  subst hl';refine⟨⟨⟨_,_,h1,h2.base RD.out⟩,en.out.base,en.out.aJ.trans (h3.below (fun g hg=>?_) RD.out)⟩,h3.os,h3.tape,h3.output,h3.size,fun k hk hf=>h3.block k hk fun hF=>?_⟩
  ·have h5:=en.out.base
   have h6:=RD.out;rcases hg with rfl|hg<;>omega
  ·rcases hF with hF|hF
   ·exact hf hF
   ·omega
 clear dl rz ja fM YC zP;by_cases hz:fP=aq
 ·have uN:Hid (R=L.take k++L.drop (k+1)):=af (by rw [YB.out,if_pos hz])
  have dm:fP-aq=0:=by omega
  rw [dm]at b8;have wE:Hid ((L.set k ⟨f0,f1,f2,fP-aq,f4⟩).take k=L.take k):=af (by exact List.take_set_of_le (Nat.le_refl _));have nc:Hid ((L.set k ⟨f0,f1,f2,fP-aq,f4⟩).drop (k+1)=L.drop (k+1)):=af (by exact List.drop_set_of_lt (Nat.lt_succ_self _));have Ax:Hid ((L.set k (⟨f0,f1,f2,fP-aq,f4⟩:aC)).length=L.length):=af (List.length_set ..);generalize L.set k ⟨f0,f1,f2,fP-aq,f4⟩=eX at*;clear hz dm;have E4:k+1≤L.length:=by omega
  have hcap:L.length≤cap:=by
   rcases k7.out.2 with⟨hv,_⟩|⟨cI,AY,Mt,hv,_,_,hh,_⟩
   ·injection hv with hv;cases hv
   ·injection hv with _ _ hv;rw [hv,←Ax.out];exact hh
  have i1:IntKind.i64.wrap ((k:Int)+1)=(k:Int)+1:=IntWalk.i64_in _ (by omega);have i2:0≤(k:Int)+1:=by omega
  have i3:((k:Int)+1).toNat=k+1:=by omega
  have i4:(k:Int)+1≤(L.length:Int):=by omega
  have i6:(k:Int)≤(L.length:Int):=by omega
  have i7:(0:Int)≤(k:Int):=by omega
  have i8:(k:Int)≤(cap:Int):=by omega
  have i9:(L.length:Int)≤(cap:Int):=by omega
  have j1:k≤cap:=by omega
  have j2:k+1≤cap:=by omega
  have RE:k≤k+1:=by omega
  obtain⟨off2,hoff⟩:=aj (if cap=k+1 then 0 else(k+1)*5)
  have Vm:(if cap=k+1 then(some ⟨aH,0,none⟩:Option Addr)else some ⟨aH,(k+1)*5,none⟩)=some ⟨aH,off2,none⟩:=by
   rw [hoff];split<;>rfl
  have Cy:=af hoff;clear hoff;go_upto_region 9 with(fail)
  clear b8;refine cP (S:=fun w'=>w'.cell? ↑pw=some (.slice ↑aH L.length cap)) YE fun hHeld=>?_;clear YE;have cL:Hid (gI.Row aA.drew w.heap.size (.slice ↑aH L.length cap) eX):=af (k7.out.below (Below.bO aA 1));have Ng:Hid (av aA.drew pw 181 #[.slice ↑aH L.length cap]):=af (RC.out.below (Below.bO aA 1));have wT:Hid (aK (fun g=>g=pw∨w.heap.size≤g) w aA.drew):=af (vX.out.trans (Below.keeps (Below.bO aA 1)));clear k7 RC vX;generalize aA.drew=aN at*;have dN:Hid ((eX.take k).length=k):=af (by rw [List.length_take,Ax.out];omega);have xb:Hid ((eX.drop (k+1)).length=L.length-(k+1)):=af (by rw [List.length_drop,Ax.out])
  have D9:Hid (gI.fR aN (some ⟨aH,off2,none⟩) (eX.drop (k+1))):=af (by
   rw [Cy.out];by_cases YF:cap=k+1
   ·rw [if_pos YF]
    have h0:eX.drop (k+1)= []:=List.eq_nil_of_length_eq_zero (by rw [xb.out];omega);rw [h0];exact bl.fR.nil
   ·rw [if_neg YF]
    intro j e hj;rw [List.getElem?_drop]at hj;obtain⟨b,off,h1,h2,h3⟩:=cL.out.rd_some (k+1+j) e hj;injection h1 with h1;injection h1 with h1 h4;subst h1 h4;refine⟨aH,(k+1)*5,rfl,h2,?_⟩;rw [show(k+1)*5+j*gI.m=0+(k+1+j)*gI.m by rw [Nat.add_mul (k+1) j,Nat.zero_add];rfl];exact h3)
  refine au 0 ?_;refine au 1 ?_;refine au 2 ?_;refine au 3 ?_;refine au 4 ?_;refine au 5 ?_;refine au 6 ?_;refine au 7 ?_;refine au 8 ?_;refine au 9 ?_;refine au 10 ?_;refine au 11 ?_;refine au 12 ?_;refine au 13 ?_;refine aU 14 fun K hK=>?_;refine gI.s9 (by rfl) (.tmp 68) (.tmp 75) (by rfl) w.heap.size aH cap k (L.length-(k+1)) (eX.take k) dN.out (by rfl) (cL.out.front (by rw [Ax.out];omega)) aH off2 (cap-(k+1)) (eX.drop (k+1)) xb.out (by rfl) D9.out (L.length-1) (by omega) (by omega) wT.out.size ?_;intro aO YG bf lQ er DT;have RF:=fK er;have zU:=Ng.out.keeps RF (fun hy=>by injection hy with hy;have h1:=NL.out;have h2:=By.out;omega);have m5:=af lQ;have YH:=af zU;have pS:=af (wT.out.trans (RF.more fun g' hg'=> .inr (by injection hg' with hg';rw [←hg'];exact By.out)));have jx:Hid (w.heap.size≤aO):=af (cS lQ aO rfl);have YI:bf.cell? ↑pw=some (.slice ↑aH L.length cap):=zU.cell 0;have ahT:∀o,bf.frozen? ⟨pw,o,none⟩=false:=fun o=>YH.out.frozen o;refine hK.out _ _ YI (fun hHeld=>?_);clear hK K lQ er DT RF zU;refine au 15 ?_;refine au 16 ?_;refine dY 17 fun K hK=>?_;go_simp;refine hK.out _ _ ?_;clear hK K hHeld YI ahT;have bz:=af (vT.out (bf.setCell ↑pw (.slice ↑aO (L.length-1) YG)) (eX.take k++eX.drop (k+1)) aO (L.length-1) YG (by rw [List.length_append,dN.out,xb.out];omega) (YH.out.aW 0 _) (Hr m5.out (p:=⟨pw,0,none⟩) (fun hy=>by have h0:some aO=some pw:=hy;injection h0 with h0;have h1:=NL.out;have h2:=jx.out;omega) _) (pS.out.setCell (p:=⟨pw,0,none⟩) (fun _=> .inl rfl) _));go_wp2_with fail
  go_ret;exact⟨by trivial,by rw [uN.out,←wE.out,←nc.out];exact bz.out.1,bz.out.2⟩
 ·have uN:Hid (R=L.set k ⟨f0,f1,f2,fP-aq,f4⟩):=af (by rw [YB.out,if_neg hz])
  have dm:(fP-aq==0)=false:=by rw [beq_eq_false_iff_ne];omega
  have bz:=af (vT.out aA _ aH L.length cap (List.length_set ..) RC.out k7.out vX.out);go_wp2_with fail
  go_ret;exact⟨by trivial,by rw [uN.out];exact bz.out.1,bz.out.2⟩
end
theorem aie (p:Prod) (inst ap:Int) (w:World) (hp:gM w p):
 Calls Tryz.prog 137 #[p.agg,↑inst,↑ap] w fun e w'=>e= .returned (.tuple #[.int .i64 (uT p inst ap).1,.int .i64 (uT p inst ap).2.1,.int .i64 (uT p inst ap).2.2])∧Below w.heap.size w w':=by
 have hs0:=St.new hp;unfold Prod.cells at hs0;have eE:=af hs0;have dn:=Kz p _ hs0.pv;have fN:=af fun ax (h:gM ax p)=>Hv p inst ax h;have kQ:=af fun ax (h:gM ax p)=>DM p inst ap ax h;unfold Prod.agg Prod.cells at dn fN kQ⊢;clear hp hs0;by_cases hz:cR p=0
 ·have bg:=af hz
  rw [hz]at dn;by_cases hsp:(gf p inst).2.2=true
  ·obtain⟨_,i,j,mU,hij,hjn,hi1,hi2⟩:=RI hsp
   rw [mU]at fN;have hsl:=afW hz;obtain⟨x,hx⟩:∃x,p.settle[j]? =some x:=⟨_,List.getElem?_eq_getElem (by omega)⟩;have NW:=ah9 hz hx;have hbd:=Y5 hz;have am7:(j:Int)<(p.settle.length:Int):=by omega
   by_cases Fa:eW p inst ap=0
   ·have A7:=aia Fa
    have hlo:C5 p inst= -p.wide∧C6 p inst=p.wide:=⟨if_pos hi1,if_pos hi1⟩;rw [hlo.1,hlo.2]at A7;rw [Fa]at kQ
    have dD:Hid (uT p inst ap=if p.high<x+ap then(p.high,p.high-ap,0)else if x+ap<p.low then(p.low,p.low-ap,0)else(x+ap,x,0)):=af (by
     unfold uT;rw [if_neg (by rw [hz];simp),if_neg (by rw [hsp];simp),if_neg (by rw [Fa];simp),mU];simp only [Int.toNat_natCast];rw [Bu hx])
    have jU:=af hx;have mo: -2000000≤ap∧ap≤2000000:=by omega
    have am8:=pI hz;have y0:IntKind.i64.wrap (x+ap)=x+ap:=IntWalk.i64_in _ (by omega);clear hsp mU Fa hz hlo A7 hsl hi1 hi2 hij hx;by_cases k1:p.high<x+ap
    ·have wF:Hid (uT p inst ap=(p.high,p.high-ap,0)):=af (by rw [dD.out,if_pos k1])
     have hn:¬p.high<p.low:=by omega
     have y1:IntKind.i64.wrap (x+ap-p.high)=x+ap-p.high:=IntWalk.i64_in _ (by omega);have fI:IntKind.i64.wrap (x-(x+ap-p.high))=p.high-ap:=by rw [show x-(x+ap-p.high)=p.high-ap by omega];exact IntWalk.i64_in _ (by omega)
     rw [wF.out];go_enter Tryz.func137,Tryz.ntmps137
     go_wp2_with fail
     refine dn.mono ?_;rintro e w1 ⟨rfl,hb1⟩;have dW:=af (eE.out.next hb1);obtain⟨b0,b1,b2,b3,b4,bk,bw,bn,bC,bD,bu⟩:=dW.out.pc;clear dn hb1;go_wp2_with fail
     refine(fN.out _ dW.out.pv).mono ?_;rintro e w2 ⟨rfl,hb2⟩;have cA:=af (dW.out.next hb2);clear b0 b1 b2 b3 b4 bk bw bn bC bD bu hb2;obtain⟨b0,b1,b2,b3,b4,bk,bw,bn,bC,bD,bu⟩:=cA.out.pc;go_wp2_with fail
     refine(kQ.out _ cA.out.pv).mono ?_;rintro e w3 ⟨rfl,hb3⟩;have iG:=af (cA.out.next hb3);clear b0 b1 b2 b3 b4 bk bw bn bC bD bu hb3;obtain⟨b0,b1,b2,b3,b4,bk,bw,bn,bC,bD,bu⟩:=iG.out.pc;obtain⟨_,b,off,ha,_,c0⟩:=iG.out.pv.aW j x jU.out;rw [ha]at bu;go_wp2_with fail
     go_ret3
     exact⟨by rfl,iG.out.aJ⟩
    ·by_cases k2:x+ap<p.low
     ·have wF:Hid (uT p inst ap=(p.low,p.low-ap,0)):=af (by rw [dD.out,if_neg k1,if_pos k2])
      have y1:IntKind.i64.wrap (p.low-(x+ap))=p.low-(x+ap):=IntWalk.i64_in _ (by omega);have fI:IntKind.i64.wrap (x+(p.low-(x+ap)))=p.low-ap:=by rw [show x+(p.low-(x+ap))=p.low-ap by omega];exact IntWalk.i64_in _ (by omega)
      rw [wF.out];go_enter Tryz.func137,Tryz.ntmps137
      go_wp2_with fail
      refine dn.mono ?_;rintro e w1 ⟨rfl,hb1⟩;have dW:=af (eE.out.next hb1);obtain⟨b0,b1,b2,b3,b4,bk,bw,bn,bC,bD,bu⟩:=dW.out.pc;clear dn hb1;go_wp2_with fail
      refine(fN.out _ dW.out.pv).mono ?_;rintro e w2 ⟨rfl,hb2⟩;have cA:=af (dW.out.next hb2);clear b0 b1 b2 b3 b4 bk bw bn bC bD bu hb2;obtain⟨b0,b1,b2,b3,b4,bk,bw,bn,bC,bD,bu⟩:=cA.out.pc;go_wp2_with fail
      refine(kQ.out _ cA.out.pv).mono ?_;rintro e w3 ⟨rfl,hb3⟩;have iG:=af (cA.out.next hb3);clear b0 b1 b2 b3 b4 bk bw bn bC bD bu hb3;obtain⟨b0,b1,b2,b3,b4,bk,bw,bn,bC,bD,bu⟩:=iG.out.pc;obtain⟨_,b,off,ha,_,c0⟩:=iG.out.pv.aW j x jU.out;rw [ha]at bu;go_wp2_with fail
      go_ret3
      exact⟨by rfl,iG.out.aJ⟩
     ·have wF:Hid (uT p inst ap=(x+ap,x,0)):=af (by rw [dD.out,if_neg k1,if_neg k2])
      rw [wF.out];go_enter Tryz.func137,Tryz.ntmps137
      go_wp2_with fail
      refine dn.mono ?_;rintro e w1 ⟨rfl,hb1⟩;have dW:=af (eE.out.next hb1);obtain⟨b0,b1,b2,b3,b4,bk,bw,bn,bC,bD,bu⟩:=dW.out.pc;clear dn hb1;go_wp2_with fail
      refine(fN.out _ dW.out.pv).mono ?_;rintro e w2 ⟨rfl,hb2⟩;have cA:=af (dW.out.next hb2);clear b0 b1 b2 b3 b4 bk bw bn bC bD bu hb2;obtain⟨b0,b1,b2,b3,b4,bk,bw,bn,bC,bD,bu⟩:=cA.out.pc;go_wp2_with fail
      refine(kQ.out _ cA.out.pv).mono ?_;rintro e w3 ⟨rfl,hb3⟩;have iG:=af (cA.out.next hb3);clear b0 b1 b2 b3 b4 bk bw bn bC bD bu hb3;obtain⟨b0,b1,b2,b3,b4,bk,bw,bn,bC,bD,bu⟩:=iG.out.pc;obtain⟨_,b,off,ha,_,c0⟩:=iG.out.pv.aW j x jU.out;rw [ha]at bu;go_wp2_with fail
      go_ret3
      exact⟨by rfl,iG.out.aJ⟩
   ·have dD:Hid (uT p inst ap=(0,0,eW p inst ap)):=af (by
     unfold uT;rw [if_neg (by rw [hz];simp),if_neg (by rw [hsp];simp),if_pos Fa])
    rw [dD.out];have KI:(eW p inst ap !=0)=true:=by rw [bne_iff_ne];exact Fa
    clear hsp mU Fa hz hx NW hsl hi1 hi2 hij;generalize eW p inst ap=pr at*;go_enter Tryz.func137,Tryz.ntmps137
    go_wp2_with fail
    refine dn.mono ?_;rintro e w1 ⟨rfl,hb1⟩;have dW:=af (eE.out.next hb1);obtain⟨b0,b1,b2,b3,b4,bk,bw,bn,bC,bD,bu⟩:=dW.out.pc;clear dn hb1;go_wp2_with fail
    refine(fN.out _ dW.out.pv).mono ?_;rintro e w2 ⟨rfl,hb2⟩;have cA:=af (dW.out.next hb2);clear b0 b1 b2 b3 b4 bk bw bn bC bD bu hb2;obtain⟨b0,b1,b2,b3,b4,bk,bw,bn,bC,bD,bu⟩:=cA.out.pc;go_wp2_with fail
    refine(kQ.out _ cA.out.pv).mono ?_;rintro e w3 ⟨rfl,hb3⟩;have iG:=af (cA.out.next hb3);clear b0 b1 b2 b3 b4 bk bw bn bC bD bu hb3;go_wp2_with fail
    go_ret3
    exact⟨by rfl,iG.out.aJ⟩
  ·have KJ:(gf p inst).2.2=false:=by simpa using hsp
   have dD:Hid (uT p inst ap=(0,0,20)):=af (by
    unfold uT;rw [if_neg (by rw [hz];simp),if_pos KJ])
   rw [dD.out];obtain⟨l0,l1,l2,hl⟩:∃l0 l1 l2,gf p inst=(l0,l1,l2):=⟨_,_,_,rfl⟩;rw [hl]at fN KJ;replace KJ:l2=false:=KJ;subst KJ;clear hsp hz hl;go_enter Tryz.func137,Tryz.ntmps137
   go_wp2_with fail
   refine dn.mono ?_;rintro e w1 ⟨rfl,hb1⟩;have dW:=af (eE.out.next hb1);obtain⟨b0,b1,b2,b3,b4,bk,bw,bn,bC,bD,bu⟩:=dW.out.pc;clear dn hb1;go_wp2_with fail
   refine(fN.out _ dW.out.pv).mono ?_;rintro e w2 ⟨rfl,hb2⟩;have cA:=af (dW.out.next hb2);clear b0 b1 b2 b3 b4 bk bw bn bC bD bu hb2;go_wp2_with fail
   go_ret3
   exact⟨by rfl,cA.out.aJ⟩
 ·have dD:Hid (uT p inst ap=(0,0,1)):=af (if_pos hz)
  rw [dD.out];have eg:(cR p !=0)=true:=by rw [bne_iff_ne];exact hz
  clear hz;generalize cR p=cp at*;go_enter Tryz.func137,Tryz.ntmps137
  go_wp2_with fail
  refine dn.mono ?_;rintro e w1 ⟨rfl,hb1⟩;have dW:=af (eE.out.next hb1);clear dn hb1;go_wp2_with fail
  go_ret3
  exact⟨by rfl,dW.out.aJ⟩
theorem NQ {w:World} {v:Value} {L:List Int} (h:cZ.eT w v L) (hl:L.length≤899000) (x:aB):
 Calls Tryz.prog 48 #[v,x.agg] w fun e w'=>∃v',e= .returned v'∧cZ.Row w' w.heap.size v' (L++nw x)∧Below w.heap.size w w':=by
 obtain⟨p,q,c⟩:=x;unfold aB.agg;dsimp only;have aG:Hid (Below w.heap.size w (w.alloc (.cells #[↑p,↑q,↑c] 101))):=af (Below.aI _ _);have bU:Hid (av (w.alloc (.cells #[↑p,↑q,↑c] 101)) w.heap.size 101 #[↑p,↑q,↑c]):=af (av.new _ _ _);have aD:=af (h.below aG.out);have c6:=af hl;clear h hl;go_enter Tryz.func48,Tryz.ntmps48
 go_upto_region 1 with(fail)
 obtain⟨g,hg⟩:=ai w.heap.size;rw [hg]at bU⊢;generalize w.alloc (.cells #[↑p,↑q,↑c] 101)=w1 at*;have eI:=af (Cl (aD.out.below (Below.bO w1 1)) (by have:=c6.out;omega) p);refine cP (S:=fun w'=>w'.cell? ↑g=some ↑p∧w'.cell? ⟨g,1,none⟩=some ↑q∧w'.cell? ⟨g,2,none⟩=some ↑c) ⟨bU.out.cell 0,bU.out.cell 1,bU.out.cell 2⟩ fun hHeld=>?_;refine au 0 ?_;refine au 1 ?_;refine au 2 ?_;refine au 4 ?_;refine au 5 ?_;refine au 7 ?_;refine au 8 ?_;refine aU 3 fun K hK=>?_;go_simp;refine eI.out.mono ?_;rintro e w2 ⟨v1,rfl,hr,hb⟩;have hb2:=(Below.bO w1 1).trans hb;have dG:=af (bU.out.below hb2);have aS:=ag aG hb2;have mE:=af (Cl hr.sl (by rw [List.length_append,uu];have:=c6.out;omega) q);refine hK.out _ _ ⟨dG.out.cell 0,dG.out.cell 1,dG.out.cell 2⟩ (fun hHeld=>?_);clear hK K hr hb hb2 eI bU aG aD;refine aU 6 fun K hK=>?_;go_simp;refine mE.out.mono ?_;rintro e w3 ⟨v2,rfl,hr,hb⟩;have eA:=af (dG.out.below hb);have aQ:=ag aS hb;have rW:=af (Cl hr.sl (by rw [List.length_append,List.length_append,uu,uu];have:=c6.out;omega) c);refine hK.out _ _ ⟨eA.out.cell 0,eA.out.cell 1,eA.out.cell 2⟩ (fun hHeld=>?_);clear hK K hr hb mE dG aS;refine aU 9 fun K hK=>?_;go_simp;refine rW.out.mono ?_;rintro e az ⟨v3,rfl,hr,hb⟩;have lI:=af (eA.out.below hb);have bN:=ag aQ hb;have fM:=af (hr.base (show w.heap.size≤w3.heap.size from aQ.out.size));refine hK.out _ _ ⟨lI.out.cell 0,lI.out.cell 1,lI.out.cell 2⟩ (fun hHeld=>?_);clear hK K hr hb rW eA aQ;refine dY 10 fun K hK=>?_;go_simp;refine hK.out _ _ ?_;clear hK K hHeld;go_wp2_with fail
 go_ret;refine⟨v3,rfl,?_,bN.out⟩;have:=fM.out;rw [List.append_assoc,List.append_assoc]at this;exact this
theorem QG (m:aF) (w:World) (hi:0≤m.inst∧m.inst≤255) (hs:m.side=1∨m.side=2):
 Calls Tryz.prog 32 #[m.agg] w fun e w'=>∃v,e= .returned (.tuple #[v,.int .i64 0])∧cZ.Row w' w.heap.size v (fL m)∧Below w.heap.size w w':=by
 obtain⟨q,i,d,p,t,c,im⟩:=m;unfold aF.agg;dsimp only at hi hs⊢;have aG:Hid (Below w.heap.size w (w.alloc (.cells #[↑q,↑i,↑d,↑p,↑t,↑c,↑im] 86))):=af (Below.aI _ _);have bU:Hid (av (w.alloc (.cells #[↑q,↑i,↑d,↑p,↑t,↑c,↑im] 86)) w.heap.size 86 #[↑q,↑i,↑d,↑p,↑t,↑c,↑im]):=af (av.new _ _ _);have m8:=af hs;have y1:¬(i<0):=by omega
 have fI:¬(255<i):=by omega
 clear hs hi;go_enter Tryz.func32,Tryz.ntmps32
 go_upto_region 1 with(fail)
 obtain⟨g,hg⟩:=ai w.heap.size;rw [hg]at bU⊢;generalize w.alloc (.cells #[↑q,↑i,↑d,↑p,↑t,↑c,↑im] 86)=w1 at*;have m1:w1.cell? ⟨g,1,none⟩=some ↑i:=bU.out.cell 1;have m2:w1.cell? ⟨g,2,none⟩=some ↑d:=bU.out.cell 2;go_cut [22] (fun u wx=>u= .bool false∧w1=wx)
 case first=>
  rcases m8.out with rfl|rfl
  all_goals
   go_wp2_with fail
   go_meet;exact⟨by rfl,rfl⟩
 case rest=>
 obtain⟨rfl,rfl⟩:=hcut;clear m1 m2 y1 fI;go_upto_region 3 with(fail)
 have eI:=af (Cl (v:= .slice none 0 0) (L:= []) (w:=w1.drewN 1) bl.eT.nil (by decide) q);refine cP (S:=fun w'=>w'.cell? ↑g=some ↑q∧w'.cell? ⟨g,1,none⟩=some ↑i∧w'.cell? ⟨g,2,none⟩=some ↑d) ⟨bU.out.cell 0,bU.out.cell 1,bU.out.cell 2⟩ fun hHeld=>?_;refine au 0 ?_;refine au 1 ?_;refine au 3 ?_;refine au 4 ?_;refine au 6 ?_;refine au 7 ?_;refine aU 2 fun K hK=>?_;go_simp;refine eI.out.mono ?_;rintro e w2 ⟨v1,rfl,hr,hb⟩;have hb2:=(Below.bO w1 1).trans hb;have dG:=af (bU.out.below hb2);have aS:=ag aG hb2;have mE:=af (xX hr.sl (by rw [List.nil_append,uu];omega) i);refine hK.out _ _ ⟨dG.out.cell 0,dG.out.cell 1,dG.out.cell 2⟩ (fun hHeld=>?_);clear hK K hr hb hb2 eI bU aG;refine aU 5 fun K hK=>?_;go_simp;refine mE.out.mono ?_;rintro e w3 ⟨v2,rfl,hr,hb⟩;have eA:=af (dG.out.below hb);have aQ:=ag aS hb;have rW:=af (xX hr.sl (by simp only [List.length_append,List.length_cons,List.length_nil,uu];omega) d);refine hK.out _ _ ⟨eA.out.cell 0,eA.out.cell 1,eA.out.cell 2⟩ (fun hHeld=>?_);clear hK K hr hb mE dG aS;refine aU 8 fun K hK=>?_;go_simp;refine rW.out.mono ?_;rintro e az ⟨v3,rfl,hr,hb⟩;have lI:=af (eA.out.below hb);have bN:=ag aQ hb;have fM:=af hr;refine hK.out _ _ ⟨lI.out.cell 0,lI.out.cell 1,lI.out.cell 2⟩ (fun hHeld=>?_);clear hK K hr hb rW eA aQ;refine dY 9 fun K hK=>?_;go_simp;refine hK.out _ _ ?_;clear hK K hHeld;go_upto_region 4 with(fail)
 have eI:=af (Cl (w:=az.drewN 1) (fM.out.sl.below (Below.bO az 1)) (by simp only [List.length_append,List.length_cons,List.length_nil,uu];omega) p);refine cP (S:=fun w'=>w'.cell? ⟨g,3,none⟩=some ↑p∧w'.cell? ⟨g,4,none⟩=some ↑t∧w'.cell? ⟨g,5,none⟩=some ↑c) ⟨lI.out.cell 3,lI.out.cell 4,lI.out.cell 5⟩ fun hHeld=>?_;refine au 0 ?_;refine au 1 ?_;refine au 2 ?_;refine au 4 ?_;refine au 5 ?_;refine au 7 ?_;refine au 8 ?_;refine aU 3 fun K hK=>?_;go_simp;refine eI.out.mono ?_;rintro e aA ⟨v4,rfl,hr,hb⟩;have hb2:=(Below.bO az 1).trans hb;have mJ:=af (lI.out.below hb2);have bY:=ag bN hb2;have zZ:=af (Cl hr.sl (by simp only [List.length_append,List.length_cons,List.length_nil,uu];omega) t);refine hK.out _ _ ⟨mJ.out.cell 3,mJ.out.cell 4,mJ.out.cell 5⟩ (fun hHeld=>?_);clear hK K hr hb hb2 eI lI bN fM;refine aU 6 fun K hK=>?_;go_simp;refine zZ.out.mono ?_;rintro e aN ⟨v5,rfl,hr,hb⟩;have m9:=af (mJ.out.below hb);have b7:=ag bY hb;have E7:=af (Cl hr.sl (by simp only [List.length_append,List.length_cons,List.length_nil,uu];omega) c);refine hK.out _ _ ⟨m9.out.cell 3,m9.out.cell 4,m9.out.cell 5⟩ (fun hHeld=>?_);clear hK K hr hb zZ mJ bY;refine aU 9 fun K hK=>?_;go_simp;refine E7.out.mono ?_;rintro e bf ⟨v6,rfl,hr,hb⟩;have jx:=af (m9.out.below hb);have dP:=ag b7 hb;have jR:Hid (([]++jo (q % 18446744073709551616) 8++ [i % 256]++ [d % 256]++jo (p % 18446744073709551616) 8++jo (t % 18446744073709551616) 8++jo (c % 18446744073709551616) 8).length=34):=af (by simp only [List.length_append,List.length_cons,List.length_nil,uu]);have m5:=af hr;refine hK.out _ _ ⟨jx.out.cell 3,jx.out.cell 4,jx.out.cell 5⟩ (fun hHeld=>?_);clear hK K hr hb E7 m9 b7;refine dY 10 fun K hK=>?_;go_simp;refine hK.out _ _ ?_;clear hK K hHeld;have dV:bf.cell? ⟨g,6,none⟩=some ↑im:=jx.out.cell 6;cases im with
 |true=>
  have eI:=af (xX m5.out.sl (by rw [jR.out];decide) 1);go_wp2_with fail
  refine eI.out.mono ?_;rintro e bZ ⟨jt,rfl,hr,hb⟩;have lz:=ag dP hb;have pU:=af (hr.base dP.out.size);clear hr hb;go_wp2_with fail
  go_ret2
  refine⟨jt,rfl,?_,lz.out⟩;have:=pU.out;simp only [List.append_assoc,List.nil_append,List.cons_append]at this;exact this
 |false=>
  have eI:=af (xX m5.out.sl (by rw [jR.out];decide) 0);go_wp2_with fail
  refine eI.out.mono ?_;rintro e bZ ⟨jt,rfl,hr,hb⟩;have lz:=ag dP hb;have pU:=af (hr.base dP.out.size);clear hr hb;go_wp2_with fail
  go_ret2
  refine⟨jt,rfl,?_,lz.out⟩;have:=pU.out;simp only [List.append_assoc,List.nil_append,List.cons_append]at this;exact this
end Go.Proofs.YtmaijkoopjocdaaGreat
