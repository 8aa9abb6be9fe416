import Derived.Test.YtmaijkoopjocdaaGreatKV30
import Derived.Test.YtmaijkoopjocdaaGreatKV29
set_option maxRecDepth 100000
set_option maxHeartbeats 64000000
namespace Go.Proofs.YtmaijkoopjocdaaGreat
open Go.RowKit Go.Lib
section
variable {w w':World}
theorem ajt {v:Value} {bs:List Int} (h:cZ.eT w v bs) (hl:bs.length≤900000) (hok:∀z∈bs,isByte z):
 Calls Tryz.prog 50 #[v] w fun e w'=>∃u,e= .returned (.tuple #[.agg #[u],.int .i64 (ld bs).2.2,.int .i64 (ld bs).1])∧cg ey bS w' w.heap.size u (ld bs).2.1∧Below w.heap.size w w':=by
 obtain⟨a,c,rfl,ho,hrd⟩:=h;have hba:=Below.aI w (.cells #[.slice none 0 0] 43);have bU:Hid (av (w.alloc (.cells #[.slice none 0 0] 43)) w.heap.size 43 #[.slice none 0 0]):=af (av.new _ _ _);have aG:=af hba;have om:=af (hrd.below hba);have c6:=af hl;have dJ:=af hok;obtain⟨n,hn⟩:=ai bs.length;rw [hn]at ho⊢hl;clear hba hrd hok;obtain⟨uY,qx,nx,hD⟩:∃x y z,ld bs=(x,y,z):=⟨_,_,_,rfl⟩;rw [hD];have dI:=af hD;have HN:=af hn;clear hD hn;by_cases hs:n<4
 ·have y1:IntKind.i64.wrap ((n:Int)-4)=(n:Int)-4:=IntWalk.i64_in _ (by omega)
  have fI:(n:Int)-4<0:=by omega
  have bM:Hid (uY=14∧qx= []∧nx=0):=af (by have h1:=ajE (b:=bs) (by rw [HN.out];exact hs);rw [dI.out]at h1;injection h1 with h1 h2;injection h2 with h2 h3;exact⟨h1,h2,h3⟩);clear ho hs;go_enter Tryz.func50,Tryz.ntmps50
  go_upto_region 1 with(fail)
  obtain⟨g,hg⟩:=ai w.heap.size;have p0:=af hg;rw [hg]at bU⊢;clear hg;generalize w.alloc (.cells #[.slice none 0 0] 43)=w1 at*;have g0:w1.cell? ↑g=some (.slice none 0 0):=bU.out.cell 0;have z0:w1.frozen? ↑g=false:=bU.out.frozen 0;go_wp2_with fail
  clear g0 z0;have k0:(w1.setCell ↑g (.slice none 0 0)).cell? ↑g=some (.slice none 0 0):=(bU.out.aW 0 (.slice none 0 0)).cell 0;have hbz:=aG.out.setCell (p:=⟨g,0,none⟩) (Nat.le_of_eq p0.out) (.slice none 0 0);refine bodyPost_ret (v:= .tuple #[.agg #[.slice none 0 0],.int .i64 0,.int .i64 14]) (by simp [results,Tryz.results50,go_sem,k0]) rfl ⟨_,by rw [bM.out.1,bM.out.2.2],by rw [bM.out.2.1];exact cg.nil _ _,hbz⟩
 ·obtain⟨m,rfl⟩:∃m,n=m+4:=⟨n-4,by omega⟩
  have xa:m≤c:=by have:=ho.2.2;omega
  obtain⟨b,off,rfl⟩:∃b off,a=some ⟨b,off,none⟩:=by
   cases a with
   |none=>have:=(ho.1 rfl).1;omega
   |some ad=>obtain⟨b,off,rfl⟩:=ho.2.1 ad rfl;exact⟨b,off,rfl⟩
  have uv:=af ho;have y1:((m+4:Nat):Int)-4=(m:Int):=by omega
  have fI:IntKind.i64.wrap (m:Int)=(m:Int):=IntWalk.i64_in _ (by omega);have lF:¬((m:Int)<0):=by omega
  have qb:m≤m+4:=by omega
  have CN:¬c=m:=by have:=ho.2.2;omega
  have ajM:(m:Int)≤(m:Int)+4:=by omega
  have Ln:m+4≤c:=by have:=ho.2.2;omega
  clear ho hs;go_enter Tryz.func50,Tryz.ntmps50
  go_upto_region 1 with(fail)
  obtain⟨g,hg⟩:=ai w.heap.size;have p0:=af hg;rw [hg]at bU⊢;clear hg;generalize w.alloc (.cells #[.slice none 0 0] 43)=w1 at*;go_wp2_with fail
  refine(ajN w1).mono ?_;rintro e w2 ⟨pw,rfl,hw⟩;have mE:=af hw;clear hw;go_wp2_with fail
  have CY:=af (om.out.below mE.out.aJ);have hsl:cZ.eT w2 (.slice (some ⟨b,off,none⟩) m c) (bs.take m):=⟨_,_,by rw [List.length_take,HN.out,Nat.min_eq_left (by omega)],⟨fun h=>(by cases h),fun ad h=>⟨b,off,by injection h with h;exact h.symm⟩,by rw [List.length_take,HN.out];omega⟩,CY.out.take m⟩;have HH:Hid (∀z∈bs.take m,isByte z):=af fun z hz=>dJ.out z (List.mem_of_mem_take hz);have tG:Hid ((bs.take m).length=m):=af (by rw [List.length_take,HN.out];omega);refine(ac8 hsl (by rw [tG.out];omega) HH.out).mono ?_;rintro e w3 ⟨rfl,rfl⟩;clear hsl;go_wp2_with fail
  refine(ajO mE.out (rB (bs.take m)) (Gd _ _ _) (by decide)).mono ?_;rintro e w3 ⟨rfl,hw⟩;rw [List.nil_append]at hw;have rW:=af hw;clear hw mE CY;go_upto_region 6 with(fail)
  have SR:=af (om.out.below rW.out.aJ);have hdl:(bs.drop m).length=4:=by rw [List.length_drop,HN.out];omega
  have ajP:Hid (∀z∈bs.drop m,isByte z):=af fun z hz=>dJ.out z (List.mem_of_mem_drop hz);obtain⟨t1,jm⟩:=ai (strOfNums (r3 (rB (bs.take m))));obtain⟨t2,nI⟩:=ai (strOfNums (bs.drop m));obtain⟨dd,hdd⟩:=ai (decide (r3 (rB (bs.take m))=bs.drop m));have aaD:Hid ((t1.toList==t2.toList)=dd):=af (by rw [←jm,←nI,←hdd];exact ajD (by rw [SS];exact Oe _ _) ajP.out);have FI:=af hdd;have wE:=af jm
  have hS:∀(wx:World),cZ.fR wx (some ⟨b,off,none⟩) bs→(convert 37 9 (.slice (some ⟨b,off+m,none⟩) 4 (c-m))).run Tryz.prog wx= .ok (.string t2) wx:=fun wx hx=>by
   have hr:=aaE (k:=m) hx (c:=c) (by rw [HN.out];exact Ln);rw [if_neg CN]at hr;rw [←nI];exact aaz hdl ⟨fun h=>(by cases h),fun ad h=>⟨b,off+m,by injection h with h;exact h.symm⟩,by omega⟩ hr
  have aD:=af hS;have FJ:=af (ajQ (rW.out.below (Below.bO w3 1)) (by rw [show(r3 (rB (bs.take m))).length=4 from rfl];decide));have aaF:=hS _ (SR.out.below (Below.bO w3 1));clear hS hdl hdd jm nI;refine cP (S:=fun wx=>(convert 37 9 (.slice (some ⟨b,off+m,none⟩) 4 (c-m))).run Tryz.prog wx= .ok (.string t2) wx) aaF fun hHeld=>?_;refine au 0 ?_;refine au 3 ?_;refine au 4 ?_;refine au 5 ?_;refine au 6 ?_;refine aU 1 fun K hK=>?_;go_simp;refine FJ.out.mono ?_;rintro e az ⟨v4,rfl,gJ,hb4⟩;obtain⟨a4,dH,Kb⟩:=gJ.form;obtain⟨ant,anu,aaG,aaH,aaI⟩:=gJ.sl;have hee:=Kb.symm.trans aaG;injection hee with Bj _ ajR;subst Bj;subst ajR;clear aaG;subst Kb;have hcv:=aaz (show(r3 (rB (bs.take m))).length=4 from rfl) aaH aaI;have Og:Below w3.heap.size w3 az:=(Below.bO w3 1).trans hb4;have bN:=af (aG.out.trans ((rW.out.aJ.trans (Og.mono rW.out.aJ.size)).mono aG.out.size));have lI:=af ((bU.out.below rW.out.aJ).below Og);have SU:=af (SR.out.below Og);have qI:=aD.out az SU.out;rw [wE.out]at hcv;rw [show(r3 (rB (bs.take m))).length=4 from rfl];refine hK.out _ _ qI (fun hHeld=>?_);clear hK K aaF SR bU om aG gJ hb4 aaH aaI Og FJ aD;refine aU 2 fun K hK=>?_;go_simp;refine hK.out _ _ qI (fun hHeld=>?_);clear hK K hcv;refine dY 7 fun K hK=>?_;go_simp;rw [aaD.out];refine hK.out _ _ ?_;clear hK K hHeld qI rW;cases dd with
  |false=>
   have bM:Hid (uY=14∧qx= []∧nx=0):=af (by have h1:=ajF HN.out (of_decide_eq_false FI.out);rw [dI.out]at h1;injection h1 with h1 h2;injection h2 with h2 h3;exact⟨h1,h2,h3⟩);have g0:az.cell? ↑g=some (.slice none 0 0):=lI.out.cell 0;have z0:az.frozen? ↑g=false:=lI.out.frozen 0;go_wp2_with fail
   clear g0 z0;have k0:(az.setCell ↑g (.slice none 0 0)).cell? ↑g=some (.slice none 0 0):=(lI.out.aW 0 (.slice none 0 0)).cell 0;have hbz:=bN.out.setCell (p:=⟨g,0,none⟩) (Nat.le_of_eq p0.out) (.slice none 0 0);refine bodyPost_ret (v:= .tuple #[.agg #[.slice none 0 0],.int .i64 0,.int .i64 14]) (by simp [results,Tryz.results50,go_sem,k0]) rfl ⟨_,by rw [bM.out.1,bM.out.2.2],by rw [bM.out.2.1];exact cg.nil _ _,hbz⟩
  |true=>
   obtain⟨q,s1,h1⟩:∃p t,(⟨bs.take m,false⟩:bH).long=(p,t):=⟨_,_,rfl⟩;obtain⟨nz,s2,h2⟩:∃p t,s1.num 1=(p,t):=⟨_,_,rfl⟩;have B8:=af (dI.out.symm.trans (ajG HN.out (of_decide_eq_true FI.out) h1 h2));have H1:=af h1;have H2:=af h2;clear h1 h2;go_wp2_with fail
   have hsl:cZ.eT az (.slice (some ⟨b,off,none⟩) m c) (bs.take m):=⟨_,_,by rw [tG.out],⟨fun h=>(by cases h),fun ad h=>⟨b,off,by injection h with h;exact h.symm⟩,by rw [tG.out];omega⟩,SU.out.take m⟩;refine(Ux hsl (by rw [tG.out];omega) HH.out).mono ?_;rintro e aA ⟨pr,rfl,hr⟩;have zz:=af hr;clear hr hsl;go_wp2_with fail
   refine(Cm zz.out H1.out).mono ?_;rintro e aN ⟨rfl,hr,hk⟩;have zA:=af hr;have jn:=Below.aI aN (.cells #[.slice none 0 0] 43);have gC:av (aN.alloc (.cells #[.slice none 0 0] 43)) aN.heap.size 43 #[.slice none 0 0]:=av.new _ _ _;have H8:Hid (pr<aN.heap.size∧az.heap.size≤aN.heap.size∧az.heap.size≤pr):=af ⟨zA.out.lt,zA.out.aJ.size,zA.out.base⟩;have Gf:=af (zA.out.below jn);go_upto_region 12 with(fail)
   obtain⟨cI,ju⟩:=ai aN.heap.size;rw [ju]at gC H8⊢;have aaJ:=af gC;clear hr hk zz SU jn gC ju zA FI aaD wE uv dI hHeld;generalize aN.alloc (.cells #[.slice none 0 0] 43)=bf at*;go_wp2_with fail
   have xT:=bH.Lm Gf.out.ok;rw [H2.out]at xT;refine(Ge Gf.out H2.out).mono ?_;rintro e bZ ⟨rfl,hr,hk⟩;obtain⟨n,rfl⟩:∃n:Nat,nz=n:=⟨nz.toNat,by omega⟩;have tv:Hid (n≤255):=af (by omega);have zV:Hid (SQ az bZ pr cI n s2 0 (.slice none 0 0) true [] s2):=af ⟨hr,aaJ.out.keeps hk (by have:=H8.out;omega),cg.nil _ _,by simp,by simp,by simp,rfl,fun p hp=>by cases hp⟩;clear hr hk Gf aaJ xT;go_wp2_with fail
   go_loopw [44,10] (fun i f w'=>∃(k:Nat) (f':Bool) (v:Value) (acc:bG) (t:bH),i=↑k∧f=↑f'∧k≤n∧SQ az w' pr cI n s2 k v f' acc t) (fun i _ _=>n-(RowKit.intOf i).toNat)
   case atStart=>exact⟨0,true,_,_,_,rfl,rfl,Nat.zero_le _,zV.out⟩
   case round=>
    clear zV;obtain⟨k,f,v,acc,t,rfl,rfl,hk,hI⟩:=hrel;obtain⟨ax,rfl⟩:=aj wr;have cU:=af hI;clear hI;by_cases hlt:k<n
    ·have hlt':(k:Int)<(n:Int):=by omega
     obtain⟨d1,H9,yS,hd1⟩:∃a b c,mm t=(a,b,c):=⟨_,_,_,rfl⟩;obtain⟨d2,Oh,xC,D8⟩:∃a b c,mm yS=(a,b,c):=⟨_,_,_,rfl⟩
     have wG:Hid (m3 (n-k) t=((d1,d2)::(m3 (n-(k+1)) xC).1,(H9&&Oh&&(m3 (n-(k+1)) xC).2.1),(m3 (n-(k+1)) xC).2.2)):=af (by
      rw [show n-k=(n-(k+1))+1 by omega];show(((mm t).1,(mm (mm t).2.2).1)::_,_,_)=_;simp only [hd1,D8])
     have SV:=af hd1;have aaK:=af D8;clear hd1 D8;have hba:=Below.aI ax (.cells ke.cells.toArray 50);have nk:av (ax.alloc (.cells ke.cells.toArray 50)) ax.heap.size 50 ke.cells.toArray:=av.new _ _ _;have hw0:wL az (ax.alloc (.cells ke.cells.toArray 50)) pr cI ax.heap.size v acc mR mR t:=⟨cU.out.rd.below hba,cU.out.cW.below hba,cU.out.fh.below hba,fun g hg e=>by obtain⟨P,hP,_⟩:=cU.out.fh;have:=ki hP g hg;omega,nk⟩;have BX:Hid (cI≠ax.heap.size∧pr≠ax.heap.size∧az.heap.size≤ax.heap.size):=af ⟨by have:=cU.out.cW.lt;omega,by have:=cU.out.rd.lt;omega,cU.out.rd.aJ.size⟩;have jJ:=af hw0;clear hba nk hw0;unfold ke bB.cells mR jD at jJ;dsimp only at jJ;go_upto_region 16 with(fail)
     obtain⟨dB,vz⟩:=ai ax.heap.size;rw [vz]at jJ BX⊢;clear vz;generalize ax.alloc _=bW at*;go_wp2_with fail
     go_loopw [46,10] (fun i f0 w'=>∃(j:Nat) (x y:eO) (f':Bool) (t':bH),i=↑j∧f0=↑f'∧wL az w' pr cI dB v acc x y t'∧
      ((j=0∧f'=f∧t'=t)∨(j=1∧f'=(f&&H9)∧t'=yS∧bV bS w' az.heap.size x d1)∨(j=2∧f'=(f&&H9&&Oh)∧t'=xC∧bV bS w' az.heap.size x d1∧bV bS w' az.heap.size y d2))) (fun i _ _=>2-(RowKit.intOf i).toNat)
     case atStart=>exact⟨0,_,_,f,t,rfl,rfl,jJ.out,.inl ⟨rfl,rfl,rfl⟩⟩
     case round=>
      clear jJ;obtain⟨j,x,y,f',t',rfl,rfl,hW,hc⟩:=hrel;obtain⟨wv,rfl⟩:=aj wr;rcases hc with⟨rfl,rfl,rfl⟩|⟨rfl,rfl,rfl,hs1⟩|⟨rfl,rfl,rfl,hs1,fD⟩
      ·have W1:=af hW
       have e3:=aas hW.rd;rw [SV.out]at e3;have m8:=af e3;clear hW e3;go_wp2_with fail
       refine m8.out.mono ?_;rintro e wa ⟨sh,rfl,hs,hr,hk'⟩;have W2:=af (W1.out.read (by have:=H8.out;omega) BX.out.2.1.symm hr hk');have kR:=af (hs.base (B':=az.heap.size) (W1.out.rd.aJ.size));clear hs hr hk' m8 W1;obtain⟨m0,m1,m2,eN,ea⟩:=W2.out.bo.amx;have vt:∀o,wa.frozen? ⟨dB,o,none⟩=false:=fun o=>W2.out.bo.frozen o;have qo:=af (W2.out.left BX.out.1 BX.out.2.1 BX.out.2.2 sh);have FK:=af (kR.out.keep (aK.xo wa dB (.slice sh.a sh.n sh.c) ↑sh.im.ap ↑sh.im.aq ↑sh.im.count ↑sh.has) (fun b hb e=>hb.ne W2.out.bo.aE (by decide) e));unfold xo at qo FK;go_upto_region 20 with(fail)
       clear m0 m1 m2 eN ea vt W2 kR;generalize (((((wa.setCell ↑dB (.slice sh.a sh.n sh.c)).setCell ⟨dB,1,none⟩ ↑sh.im.ap).setCell ⟨dB,2,none⟩ ↑sh.im.aq).setCell ⟨dB,3,none⟩ ↑sh.im.count).setCell ⟨dB,4,none⟩ ↑sh.has)=AE at*;cases f' with
       |false=>
        go_wp2_with fail
        go_roundw
        case rel=>exact⟨1,sh,y,false,yS,by go_num,by rfl,qo.out,.inr (.inl ⟨rfl,rfl,rfl,FK.out⟩)⟩
        case measure=>simp [RowKit.intOf]
       |true=>
        go_wp2_with fail
        go_roundw
        case rel=>exact⟨1,sh,y,H9,yS,by go_num,by rfl,qo.out,.inr (.inl ⟨rfl,rfl,rfl,FK.out⟩)⟩
        case measure=>simp [RowKit.intOf]
      ·have W1:=af hW
       have e3:=aas hW.rd;rw [aaK.out]at e3;have m8:=af e3;have dW:=af hs1;obtain⟨SW,SX⟩:=ai (f&&H9);rw [SX];have anv:=af SX;clear hW e3 hs1 SX;go_wp2_with fail
       refine m8.out.mono ?_;rintro e wa ⟨sh,rfl,hs,hr,hk'⟩;have W2:=af (W1.out.read (by have:=H8.out;omega) BX.out.2.1.symm hr hk');have kR:=af (hs.base (B':=az.heap.size) (W1.out.rd.aJ.size));have pK:=af (dW.out.keep hk' (fun b hb e=>hb.ne W1.out.rd.aE (by decide) e));clear hs hr hk' m8 W1 dW;have eY:wa.cell? ⟨dB,5,none⟩=some (.slice y.a y.n y.c):=W2.out.bo.cell 5;have dV:wa.cell? ⟨dB,6,none⟩=some ↑y.im.ap:=W2.out.bo.cell 6;have EL:wa.cell? ⟨dB,7,none⟩=some ↑y.im.aq:=W2.out.bo.cell 7;have CR:wa.cell? ⟨dB,8,none⟩=some ↑y.im.count:=W2.out.bo.cell 8;have EM:wa.cell? ⟨dB,9,none⟩=some ↑y.has:=W2.out.bo.cell 9;have vt:∀o,wa.frozen? ⟨dB,o,none⟩=false:=fun o=>W2.out.bo.frozen o;have qo:=af (W2.out.right BX.out.1 BX.out.2.1 BX.out.2.2 sh);have hkb:=aK.xp wa dB (.slice sh.a sh.n sh.c) ↑sh.im.ap ↑sh.im.aq ↑sh.im.count ↑sh.has;have FK:=af (kR.out.keep hkb (fun b hb e=>hb.ne W2.out.bo.aE (by decide) e));have SY:=af (pK.out.keep hkb (fun b hb e=>hb.ne W2.out.bo.aE (by decide) e));clear hkb;unfold xp at qo FK SY;go_upto_region 20 with(fail)
       clear eY dV EL CR EM vt W2 kR pK;generalize (((((wa.setCell ⟨dB,5,none⟩ (.slice sh.a sh.n sh.c)).setCell ⟨dB,6,none⟩ ↑sh.im.ap).setCell ⟨dB,7,none⟩ ↑sh.im.aq).setCell ⟨dB,8,none⟩ ↑sh.im.count).setCell ⟨dB,9,none⟩ ↑sh.has)=AE at*;cases SW with
       |false=>
        go_wp2_with fail
        go_roundw
        case rel=>exact⟨2,x,sh,false,xC,by go_num,by rfl,qo.out,.inr (.inr ⟨rfl,by rfl,rfl,SY.out,FK.out⟩)⟩
        case measure=>simp [RowKit.intOf]
       |true=>
        go_wp2_with fail
        go_roundw
        case rel=>exact⟨2,x,sh,Oh,xC,by go_num,by rfl,qo.out,.inr (.inr ⟨rfl,by rfl,rfl,SY.out,FK.out⟩)⟩
        case measure=>simp [RowKit.intOf]
      ·obtain⟨P,hP,gK,g8⟩:=hW.fh
       obtain⟨cJ,aY,gU⟩:=hP.form;subst gU;obtain⟨f2,wA⟩:=ai (f&&H9&&Oh);rw [wA];have kv:=af wA;have W1:=af hW;have dx:=af hP;have gq:=af gK;have e6:=af g8;have dW:=af hs1;have cA:=af fD;clear hP gK g8 hW hs1 fD wA;obtain⟨m0,m1,m2,eN,ea,eY,dV,EL,CR,EM⟩:=W1.out.bo.amC;have v0:wv.cell? ↑cI=some (.slice cJ P.length aY):=W1.out.cW.cell 0;have hnn:=tv.out;have hba:=Below.aI wv (.cells #[.slice x.a x.n x.c,↑x.im.ap,↑x.im.aq,↑x.im.count,↑x.has,.slice y.a y.n y.c,↑y.im.ap,↑y.im.aq,↑y.im.count,↑y.has] 50);have cK:=af hba;have g6:=af (dx.out.below hba);have uH:Hid (∀(j:Nat) (p:bB) (x:aX×aX),P[j]? =some p→acc[j]? =some x→bV bS _ az.heap.size p.s x.1∧bV bS _ az.heap.size p.t x.2):=af fun j p x hp hx=>⟨(e6.out j p x hp hx).1.below hba,(e6.out j p x hp hx).2.below hba⟩;have c8:Hid (av (wv.alloc (.cells #[.slice x.a x.n x.c,↑x.im.ap,↑x.im.aq,↑x.im.count,↑x.has,.slice y.a y.n y.c,↑y.im.ap,↑y.im.aq,↑y.im.count,↑y.has] 50)) wv.heap.size 50 (ey.cells ⟨x,y⟩).toArray):=af (av.new _ _ _);have iD:Hid (az.heap.size≤(wv.alloc (.cells #[.slice x.a x.n x.c,↑x.im.ap,↑x.im.aq,↑x.im.count,↑x.has,.slice y.a y.n y.c,↑y.im.ap,↑y.im.aq,↑y.im.count,↑y.has] 50)).heap.size):=af (Nat.le_trans W1.out.rd.aJ.size hba.size);have l9:Hid (P.length+1≤1000000):=af (by rw [gq.out,cU.out.len];have:=tv.out;omega);clear hba dx e6
       go_wp2_with (first
        |(at_builtin;go_loud (refine ey.push rfl (.tmp 62) (.tmp 64) rfl az.heap.size (.slice cJ P.length aY) P rfl g6.out wv.heap.size ⟨x,y⟩ rfl c8.out.lt c8.out.gH l9.out iD.out ?_)))
       intro v' aA dl gb _;obtain⟨a5,b8,hM⟩:=dl.form;rw [show(P++ [(⟨x,y⟩:bB)]).length=P.length+1 by rw [List.length_append];rfl]at hM;subst hM;obtain⟨g3,bw,aaL,lq,z5⟩:=W1.out.grow cK.out g6.out gq.out uH.out dW.out cA.out dl gb (by have:=H8.out;omega) (by have:=H8.out;omega)
       have rQ:Hid (SQ az (aA.setCell ↑cI (.slice a5 (P.length+1) b8)) pr cI n s2 (k+1) (.slice a5 (P.length+1) b8) f2 (acc++ [(d1,d2)]) t'):=af
        ⟨g3,bw,aaL,by rw [←cU.out.e1,wG.out];simp,by rw [←cU.out.e2,wG.out,←kv.out];simp [Bool.and_assoc],by rw [←cU.out.bJ,wG.out],by rw [List.length_append,cU.out.len];rfl,fun p hp=>by
         rcases List.mem_append.1 hp with hp|hp
         ·exact cU.out.le p hp
         ·rw [List.mem_singleton]at hp
          subst hp;have q1:=aaA cU.out.rd.ok;rw [SV.out]at q1;have cN:bH.ok yS:=by have:=ajL cU.out.rd.ok;rw [SV.out]at this;exact this
          have ic:=aaA cN;rw [aaK.out]at ic;exact⟨q1,ic⟩⟩
       clear dl gb g3 bw aaL g6 uH c8 iD l9 cK W1 dW cA m0 m1 m2 eN ea eY dV EL CR EM v0;go_wp2_with fail
       go_roundw
       case rel=>exact⟨k+1,f2,_,_,_,by go_num,rfl,hlt,rQ.out⟩
       case measure=>simp [RowKit.intOf];omega
    ·have hkn:k=n:=by omega
     have cv:Hid (m3 n s2=(acc,f,t)):=af (by
      have e1:=cU.out.e1;have e2:=cU.out.e2;have bJ:=cU.out.bJ;rw [hkn,Nat.sub_self]at e1 e2 bJ;have ajS:acc=(m3 n s2).1:=by rw [←e1];exact(List.append_nil _).symm
      have ajT:f=(m3 n s2).2.1:=by rw [←e2];exact(Bool.and_true _).symm
      rw [ajS,ajT,show t=(m3 n s2).2.2 from bJ])
     have Oi:Hid ((uY,qx,nx)=H7 q (acc,f,t)):=af (by rw [B8.out,Int.toNat_natCast,cv.out]);have bY:=af (bN.out.trans (cU.out.rd.aJ.mono bN.out.size));have mJ:=af (lI.out.below cU.out.rd.aJ);clear B8 cv hkn;cases f with
     |false=>
      have bM:Hid (uY=12∧qx= []∧nx=0):=af (by have h1:=Oi.out;rw [ajH]at h1;injection h1 with h1 h2;injection h2 with h2 h3;exact⟨h1,h2,h3⟩);have g0:ax.cell? ↑g=some (.slice none 0 0):=mJ.out.cell 0;have z0:ax.frozen? ↑g=false:=mJ.out.frozen 0;go_wp2_with fail
      clear g0 z0;have k0:(ax.setCell ↑g (.slice none 0 0)).cell? ↑g=some (.slice none 0 0):=(mJ.out.aW 0 (.slice none 0 0)).cell 0;have hbz:=bY.out.setCell (p:=⟨g,0,none⟩) (Nat.le_of_eq p0.out) (.slice none 0 0);refine bodyPost_ret (v:= .tuple #[.agg #[.slice none 0 0],.int .i64 0,.int .i64 12]) (by simp [results,Tryz.results50,go_sem,k0]) rfl ⟨_,by rw [bM.out.1,bM.out.2.2],by rw [bM.out.2.1];exact cg.nil _ _,hbz⟩
     |true=>
      have bR:=af (UC cU.out.rd);by_cases he:zx t=0
      ·rw [he]at bR
       have SZ:Hid ((uY,qx,nx)=if ql acc=true then(0,acc,q)else(12,[],0)):=af (by rw [Oi.out];exact ajJ he);obtain⟨cJ,aY,gU⟩:=cU.out.fh.form;subst gU;have v0:ax.cell? ↑cI=some (.slice cJ acc.length aY):=cU.out.cW.cell 0;have FL:=af (ajB cU.out.fh (by rw [cU.out.len];have:=tv.out;omega) (fun p hp=>⟨Nat.le_trans (cU.out.le p hp).1 (by decide),Nat.le_trans (cU.out.le p hp).2 (by decide)⟩));obtain⟨rv,BF⟩:=ai (ql acc);rw [BF]at FL SZ;clear he Oi BF;go_wp2_with fail
       refine bR.out.mono ?_;rintro e wa ⟨rfl,rfl⟩;clear bR;go_wp2_with fail
       refine FL.out.mono ?_;rintro e wa ⟨rfl,hb⟩;have b7:=ag bY hb;have m9:=af (mJ.out.below hb);have ajU:=af (cU.out.fh.below hb);have Ry:=af (cU.out.cW.below hb);clear hb FL v0 bY mJ cU;cases rv with
       |false=>
        have bM:Hid (uY=12∧qx= []∧nx=0):=af (by have h1:=SZ.out;rw [if_neg (by decide)]at h1;injection h1 with h1 h2;injection h2 with h2 h3;exact⟨h1,h2,h3⟩);have g0:wa.cell? ↑g=some (.slice none 0 0):=m9.out.cell 0;have z0:wa.frozen? ↑g=false:=m9.out.frozen 0;go_wp2_with fail
        clear g0 z0;have k0:(wa.setCell ↑g (.slice none 0 0)).cell? ↑g=some (.slice none 0 0):=(m9.out.aW 0 (.slice none 0 0)).cell 0;have hbz:=b7.out.setCell (p:=⟨g,0,none⟩) (Nat.le_of_eq p0.out) (.slice none 0 0);refine bodyPost_ret (v:= .tuple #[.agg #[.slice none 0 0],.int .i64 0,.int .i64 12]) (by simp [results,Tryz.results50,go_sem,k0]) rfl ⟨_,by rw [bM.out.1,bM.out.2.2],by rw [bM.out.2.1];exact cg.nil _ _,hbz⟩
       |true=>
        have bM:Hid (uY=0∧qx=acc∧nx=q):=af (by have h1:=SZ.out;rw [if_pos rfl]at h1;injection h1 with h1 h2;injection h2 with h2 h3;exact⟨h1,h2,h3⟩);have v0:wa.cell? ↑cI=some (.slice cJ acc.length aY):=Ry.out.cell 0;have g0:wa.cell? ↑g=some (.slice none 0 0):=m9.out.cell 0;have z0:wa.frozen? ↑g=false:=m9.out.frozen 0;go_wp2_with fail
        clear g0 z0 v0;have k0:(wa.setCell ↑g (.slice cJ acc.length aY)).cell? ↑g=some (.slice cJ acc.length aY):=(m9.out.aW 0 (.slice cJ acc.length aY)).cell 0;have hbz:=b7.out.setCell (p:=⟨g,0,none⟩) (Nat.le_of_eq p0.out) (.slice cJ acc.length aY);have J6:=(ajU.out.keep (ct wa g 0 (.slice cJ acc.length aY)) (fun k hk e=>hk.ne m9.out.aE (by decide) e) (fun k hk e=>hk.ne m9.out.aE (by decide) e)).base bN.out.size;refine bodyPost_ret (v:= .tuple #[.agg #[.slice cJ acc.length aY],↑q,.int .i64 0]) (by simp [results,Tryz.results50,go_sem,k0]) rfl ⟨_,by rw [bM.out.1,bM.out.2.2],by rw [bM.out.2.1];exact J6,hbz⟩
      ·have Ku:(zx t !=0)=true:=by simpa using he
       have bM:Hid (uY=12∧qx= []∧nx=0):=af (by have h1:=Oi.out;rw [ajI he]at h1;injection h1 with h1 h2;injection h2 with h2 h3;exact⟨h1,h2,h3⟩);clear he;go_wp2_with fail
       refine bR.out.mono ?_;rintro e wa ⟨rfl,rfl⟩;clear bR;have g0:ax.cell? ↑g=some (.slice none 0 0):=mJ.out.cell 0;have z0:ax.frozen? ↑g=false:=mJ.out.frozen 0;go_wp2_with fail
       clear g0 z0;have k0:(ax.setCell ↑g (.slice none 0 0)).cell? ↑g=some (.slice none 0 0):=(mJ.out.aW 0 (.slice none 0 0)).cell 0;have hbz:=bY.out.setCell (p:=⟨g,0,none⟩) (Nat.le_of_eq p0.out) (.slice none 0 0);refine bodyPost_ret (v:= .tuple #[.agg #[.slice none 0 0],.int .i64 0,.int .i64 12]) (by simp [results,Tryz.results50,go_sem,k0]) rfl ⟨_,by rw [bM.out.1,bM.out.2.2],by rw [bM.out.2.1];exact cg.nil _ _,hbz⟩
end
theorem ajs {W w:World} {pv n:Nat} {hv:Value} {s:ig} {cc:Nat} (h:fA W w pv n hv s) (hk:pL n cc s) (oK:cc≤500000) {v:Value} {b:List Int} (hsl:cZ.eT w v b) (hl:b.length≤900000) (hok:∀z∈b,isByte z):
 Calls Tryz.prog 21 #[.pointer ↑pv,v] w fun e w'=>e= .returned (.int .i64 (r4 n s b).1)∧∃dF,fA W w' pv n dF (r4 n s b).2∧aK (wo pv hv) w w'∧∀g,dF.ownBlock=some g→hv.ownBlock=some g∨w.heap.size≤g:=by
 have hdec:=ajt hsl hl hok;obtain⟨uY,qx,nx,hD⟩:∃x y z,ld b=(x,y,z):=⟨_,_,_,rfl⟩;rw [hD]at hdec;obtain⟨HW,SK⟩:=ai (r4 n s b);have Ae:Hid (HW=if uY≠0 then(uY,s)else if qx.length≠n∨nx<0 then(12,s)else if nx<s.seq then(33,s)else(0,jN s.H qx nx)):=af (by rw [←SK];unfold r4;rw [hD]);rw [SK];have dI:=af hD;have oy:=af hdec;have H0:=af h;have dJ:=af hk;clear hdec hD h hk hsl hok SK;go_enter Tryz.func21,Tryz.ntmps21
 go_wp2_with fail
 refine oy.out.mono ?_;rintro e w1 ⟨u,rfl,fj,hb⟩;obtain⟨a,c,rfl⟩:=fj.form;go_upto_region 2 with(fail)
 have hba:=Below.aI w1 (.cells #[.slice a qx.length c] 43);have fO:av (w1.alloc (.cells #[.slice a qx.length c] 43)) w1.heap.size 43 #[.slice a qx.length c]:=av.new _ _ _;have e5:=af ((fj.below hba).base H0.out.aJ.size);have aS:=af (hb.trans (hba.mono hb.size));obtain⟨aL,ju⟩:=ai w1.heap.size;rw [ju]at fO⊢;have fy:=af fO;clear hba fO ju fj hb oy;generalize w1.alloc (.cells #[.slice a qx.length c] 43)=w2 at*;have ot:=af (H0.out.below aS.out);have BB:Hid (∀wx:World,Below w2.heap.size w2 wx→fA W wx pv n hv s∧aK (wo pv hv) w wx∧∀g,hv.ownBlock=some g→hv.ownBlock=some g∨w.heap.size≤g):=af fun wx hb=>⟨ot.out.below hb,Below.keeps (ag aS hb).out,fun g hg=> .inl hg⟩;by_cases hw:uY=0
 ·subst hw
  have Dj:=af (aam dI.out);obtain⟨a2,c2,aT,_⟩:=ot.out.box;have jA:=af aT;have k0:w2.cell? ↑pv=some ↑n:=aT.cell 0;have v0:w2.cell? ↑aL=some (.slice a qx.length c):=fy.out.cell 0;clear aT;by_cases jw:qx.length=n
  ·rw [jw]at v0 fy
   by_cases jW:nx<0
   ·have aju:decide (nx<0)=true:=decide_eq_true jW
    have bM:Hid (HW=(12,s)):=af (by rw [Ae.out,if_neg (fun h=>h rfl),if_pos (.inr jW)]);clear jW jw;go_upto_region 4 with(fail)
    go_quiet (fail)
    have mX:=BB.out _ (Below.bO w2 nq);go_wp2_with fail
    go_ret;exact⟨by rw [bM.out];try rfl,_,by rw [bM.out];exact mX.1,mX.2⟩
   ·have aju:decide (nx<0)=false:=decide_eq_false jW
    have k2:w2.cell? ⟨pv,2,none⟩=some ↑s.seq:=jA.out.cell 2;by_cases HX:nx<s.seq
    ·have bM:Hid (HW=(33,s)):=af (by rw [Ae.out,if_neg (fun h=>h rfl),if_neg (by rintro(h|h);exact h jw;exact jW h),if_pos HX])
     have ajv:decide (nx<s.seq)=true:=decide_eq_true HX;clear jW jw HX;go_upto_region 4 with(fail)
     go_quiet (fail)
     have mX:=BB.out _ (Below.bO w2 nq);go_wp2_with fail
     go_ret;exact⟨by rw [bM.out];try rfl,_,by rw [bM.out];exact mX.1,mX.2⟩
    ·have bM:Hid (HW=(0,jN s.H qx nx)):=af (by rw [Ae.out,if_neg (fun h=>h rfl),if_neg (by rintro(h|h);exact h jw;exact jW h),if_neg HX])
     have ajv:decide (nx<s.seq)=false:=decide_eq_false HX;have jR:=af jw;have ajw:Hid (0≤nx):=af (by omega);clear jW jw HX;go_upto_region 4 with(fail)
     go_quiet (fail)
     have hb3:=Below.bO w2 nq;have aQ:=ag aS hb3;have mb:=af (ot.out.below hb3);have gV:=af (jA.out.below hb3);have aan:=af (e5.out.below hb3);have HB:=af (fy.out.below hb3);clear hb3 k0 v0 k2;have k0:(w2.drewN nq).cell? ↑pv=some ↑n:=gV.out.cell 0;have k2:(w2.drewN nq).cell? ⟨pv,2,none⟩=some ↑s.seq:=gV.out.cell 2;have v0:(w2.drewN nq).cell? ↑aL=some (.slice a n c):=HB.out.cell 0;have k1:(w2.drewN nq).cell? ⟨pv,1,none⟩=some (.slice a2 s.V.length c2):=gV.out.cell 1;have vt:∀o,(w2.drewN nq).frozen? ⟨pv,o,none⟩=false:=fun o=>gV.out.frozen o;go_upto_region 9 with(fail)
     have NM:=mb.out.Sc aan.out;have hM:=NM.Sb nx;rw [jR.out]at hM;have ja:aK (wo pv hv) w (((w2.drewN nq).setCell ⟨pv,1,none⟩ (.slice a n c)).setCell ⟨pv,2,none⟩ ↑nx):=((Below.keeps aQ.out).setCell (p:=⟨pv,1,none⟩) (fun _=> .inl rfl) _).setCell (p:=⟨pv,2,none⟩) (fun _=> .inl rfl) _;have nr:=af hM;have AL:=af ja;have vW:=af (Wu hM (by have:=Dj.out.2.2.1;exact this) ⟨255,Dj.out.2.1,by have:=dJ.out.hl;dsimp only;omega⟩ Dj.out.1 (by intro m hm;have:=dJ.out.hh m hm;dsimp only;rw [jR.out];exact this) ajw.out Dj.out.2.2.2.2);have ajx:Hid (w.heap.size≤(((w2.drewN nq).setCell ⟨pv,1,none⟩ (.slice a n c)).setCell ⟨pv,2,none⟩ ↑nx).heap.size):=af ja.size;clear NM hM ja k0 k1 k2 v0 vt mb gV aan HB aQ;generalize ((w2.drewN nq).setCell ⟨pv,1,none⟩ (.slice a n c)).setCell ⟨pv,2,none⟩ ↑nx=aA at*;go_wp2_with fail
     refine vW.out.mono ?_;rintro e aN ⟨rfl,dF,y3,fu,hfr⟩;have IP:=af (AL.out.step fu (fun i _ he=> .inl he));have uZ:=af y3;have ajy:=af hfr;clear y3 fu hfr vW;go_wp2_with fail
     go_ret;exact⟨by rw [bM.out];try rfl,dF,by rw [bM.out];exact uZ.out,IP.out,fun g hg=>by rcases ajy.out g hg with h|h;exact .inl h;exact .inr (Nat.le_trans ajx.out h)⟩
  ·have ans:((qx.length:Int) !=(n:Int))=true:=by rw [bne_iff_ne];omega
   have bM:Hid (HW=(12,s)):=af (by rw [Ae.out,if_neg (fun h=>h rfl),if_pos (.inl jw)]);go_upto_region 4 with(fail)
   go_quiet (fail)
   have mX:=BB.out _ (Below.bO w2 nq);go_wp2_with fail
   go_ret;exact⟨by rw [bM.out];try rfl,_,by rw [bM.out];exact mX.1,mX.2⟩
 ·have agl:(uY !=0)=true:=by simpa using hw
  have bM:Hid (HW=(uY,s)):=af (by rw [Ae.out,if_pos hw]);have mX:=BB.out _ (Below.refl _ _);clear hw;go_wp2_with fail
  go_ret;exact⟨by rw [bM.out];try rfl,_,by rw [bM.out];exact mX.1,mX.2⟩
def Am (p:Prod) (i:Nat) (side ap:Int) (q:dg):Bool:= !(eW p i q.ap==0)&& !cT side q.ap ap
def s4 (p:Prod) (S:List (List aC)) (i:Nat) (side ap aq:Int):Bool:=
 !((gO p i side ap aq.toNat S aq).2.2==0)&&(oM p (ef (gO p i side ap aq.toNat S aq).1) i (3-side)).any (Am p i side ap)
theorem aa1 {α:Type} {l:List α} {k:Nat} {x:α} {f:α→Bool} (h:l[k]? =some x):(l.take (k+1)).any f=((l.take k).any f||f x):=by
 rw [kH h,List.any_append];simp
section
variable {W w w':World} {ps pb:Nat} {p:Prod} {Q:List Nat} {S:List (List aC)}
theorem Uf (h:eH W w ps p Q S) (hz:cR p=0) (hS:ei p S) {i:Nat} (hi:i<S.length) (side ap aq:Int) (e3:side=1∨side=2) (jW:1≤aq) (hq1:aq≤1000000):
 Calls Tryz.prog 69 #[p.agg,.pointer ↑ps,↑i,↑side,↑ap,↑aq] w fun e w'=>e= .returned (.bool (s4 p S i side ap aq))∧Below w.heap.size w w':=by
 unfold Prod.agg Prod.cells;have fE:Hid (Below w.heap.size w (w.alloc (.cells #[.string p.code,.slice p.ma p.months.length p.mc,↑p.tick,↑p.low,↑p.high,↑p.wide,↑p.rule,↑p.top,↑p.least,↑p.part,.slice p.sa p.settle.length p.sc] 25))):=af (Below.aI _ _);have jX:Hid (av (w.alloc (.cells #[.string p.code,.slice p.ma p.months.length p.mc,↑p.tick,↑p.low,↑p.high,↑p.wide,↑p.rule,↑p.top,↑p.least,↑p.part,.slice p.sa p.settle.length p.sc] 25)) w.heap.size 25 p.cells):=af (av.new _ _ _);have hlf:=II (i:=i) (side:=side) (ap:=ap) hz aq.toNat S aq hS (by omega);have bg:=af (Pf (h.below fE.out) (by have:=hS.le;omega));have lU:=af fun w fS o7 (h:eH W w fS p o7 S)=>Pg h hz hS hi side ap aq e3 jW hq1;obtain⟨R,hR⟩:=ai (gO p i side ap aq.toNat S aq);have aa2:Hid (s4 p S i side ap aq=(!(R.2.2==0)&&(oM p (ef R.1) i (3-side)).any (Am p i side ap))):=af (by unfold s4;rw [hR]);rw [aa2.out];simp only [hR]at lU hlf;obtain⟨kR,nE,rA⟩:=R;dsimp only at lU hlf;obtain⟨aa3,g1,g2⟩:=hlf;have dJ:=af aa3;have m8:=af e3;dsimp only;obtain⟨rs,S3⟩:=ai ((!(rA==0)&&(oM p (ef kR) i (3-side)).any (Am p i side ap)):Bool);rw [S3];have qp:=af S3;clear S3;have wU:=af h.pv;have aa4:=af h.aJ;clear aa2 hR h hz hS hi e3 aa3;go_enter Tryz.func69,Tryz.ntmps69
 go_upto_region 1 with(fail)
 obtain⟨aR,nT⟩:=ai w.heap.size;have Nv:=af nT;rw [nT]at jX⊢;clear nT;unfold Prod.cells at jX;generalize (w.alloc (.cells #[.string p.code,.slice p.ma p.months.length p.mc,↑p.tick,↑p.low,↑p.high,↑p.wide,↑p.rule,↑p.top,↑p.least,↑p.part,.slice p.sa p.settle.length p.sc] 25))=w1 at*;go_wp2_with fail
 refine bg.out.mono ?_;rintro e w2 ⟨fS,o7,rfl,Gb,DR,nG,hb2⟩;have kS:=af (lU.out _ _ _ Gb);have S4:=af (jX.out.below hb2);have aS:=ag fE hb2;have aa5:=af fun g (hg:g∈o7)=>(Gb.py hg).1;have o8:Hid (∀g∈o7,w.heap.size≤g):=af fun g hg=>Nat.le_trans fE.out.size (DR g hg);clear Gb DR nG hb2 bg lU jX fE;go_wp2_with fail
 refine kS.out.mono ?_;rintro e az ⟨v3,rfl,_,Kg,iZ⟩;have bN:=af (aS.out.trans (iZ.below (B:=w.heap.size) o8.out aS.out.size));have S5:=af (S4.out.keeps iZ (fun e=>S4.out.aE.ne (aa5.out _ e) (by decide) rfl));have H4:=af Kg;clear iZ Kg kS S4 aS aa5 o8;by_cases Sd:rA=0
 ·subst Sd
  go_wp2_with fail
  go_ret;exact⟨by rw [←qp.out];rfl,bN.out⟩
 ·have akh:(rA==0)=false:=by rw [beq_eq_false_iff_ne];exact Sd
  obtain⟨A,hA⟩:=ai (oM p (ef kR) i (3-side));have zF:Hid (A.length≤1000):=af (by rw [←hA];exact G8);rw [hA,akh]at qp;have cO:=af hA;clear hA;go_upto_region 5 with(fail)
  go_cut [16] (fun v wx=>kz.Row wx w.heap.size v A∧Below az.heap.size az wx)
  case first=>
   have hd:=(Below.refl az.heap.size az).drew;have Ib:=af (S5.out.below hd);have H5:=af (H4.out.below hd);have mL:=af hd;clear hd;have iR:PC az.drew aR p:=PC.oQ Ib.out;refine cP (S:=fun w'=>w'.cell? ↑aR=some (.string p.code)∧w'.cell? ⟨aR,1,none⟩=some (.slice p.ma p.months.length p.mc)∧w'.cell? ⟨aR,2,none⟩=some ↑p.tick∧w'.cell? ⟨aR,3,none⟩=some ↑p.low∧w'.cell? ⟨aR,4,none⟩=some ↑p.high∧w'.cell? ⟨aR,5,none⟩=some ↑p.wide∧w'.cell? ⟨aR,6,none⟩=some ↑p.rule∧w'.cell? ⟨aR,7,none⟩=some ↑p.top∧w'.cell? ⟨aR,8,none⟩=some ↑p.least∧w'.cell? ⟨aR,9,none⟩=some ↑p.part∧w'.cell? ⟨aR,10,none⟩=some (.slice p.sa p.settle.length p.sc)) iR fun hHeld=>?_;refine au 0 ?_;refine au 1 ?_;refine au 3 ?_;refine au 4 ?_;clear iR;generalize az.drew=aA at*;refine aU 2 fun K hK=>?_;go_simp;go_at_call 58
   refine(Q0 H5.out (by have:=dJ.out.le;omega) (fun L hL=>⟨(dJ.out.each L hL).len,(dJ.out.each L hL).aq⟩)).mono ?_;rintro e aN ⟨Q1,rfl,uM,bI⟩;refine hK.out _ _ (PC.oQ (Ib.out.below bI)) (fun hHeld=>?_);clear hK K;refine aU 5 fun K hK=>?_;go_simp;go_at_call 111
   refine(Zv side m8.out aN).mono ?_;rintro e bf ⟨rfl,rfl⟩;refine hK.out _ _ (PC.oQ (Ib.out.below bI)) (fun hHeld=>?_);clear hK K;obtain⟨ta,tc,pE,_,hrd⟩:=uM.rd;have hall:=YJ p i (3-side) ta tc (ef kR) aN ((wU.out.below aa4.out).below ((ah bN mL).out.trans (bI.mono (ah bN mL).out.size))) hrd dJ.out.CT (by rw [Nx];have:=dJ.out.le;omega);unfold Prod.agg Prod.cells at hall;rw [cO.out]at hall;subst pE;refine aU 6 fun K hK=>?_;go_simp;go_at_call 102
   refine hall.mono ?_;rintro e bZ ⟨lJ,rfl,mC,mH⟩;refine hK.out _ _ (PC.oQ ((Ib.out.below bI).below mH)) (fun hHeld=>?_);clear hK K;have aP:Below az.heap.size az bZ:=(ag mL bI).out.trans (mH.mono (ag mL bI).out.size);have uN:=af (mC.base (Nat.le_trans bN.out.size (Nat.le_trans mL.out.size bI.size)));have bp:=af aP;refine gu _ _ _ _ ?_;refine ej 7 ?_;refine gw ?_;clear hHeld mC mH bI uM hrd hall aP;go_wp2_with fail
   go_meet;exact⟨uN.out,bp.out⟩
  case rest=>
  obtain⟨mC,ep⟩:=hcut;have uF:=ag bN ep;have Ib:=af (S5.out.below ep);have uN:=af mC;obtain⟨sH,xh,CU⟩:=mC.form;obtain⟨n,hn⟩:=ai A.length;rw [hn]at CU;subst CU;have hnb:n≤1000:=by rw [←hn];exact zF.out
  have HN:=af hn;clear mC ep hn bN S5 H4;generalize wc=Ol at*;go_wp2_with fail
  go_loopw [17] (fun j w'=>∃k:Nat,j=↑k∧k≤n∧(A.take k).any (Am p i side ap)=false∧Below Ol.heap.size Ol w') (fun j _=>n-(RowKit.intOf j).toNat)
  case atStart=>exact⟨0,rfl,Nat.zero_le _,rfl,Below.refl _ _⟩
  case round=>
   obtain⟨k,rfl,hk,Lv,hb⟩:=hrel;obtain⟨ax,rfl⟩:=aj wr;have S6:=af Lv;have aG:=af hb;clear Lv hb;by_cases hlt:k<n
   ·have hlt':(k:Int)<(n:Int):=by omega
    obtain⟨q,hq⟩:∃q,A[k]? =some q:=⟨_,List.getElem?_eq_getElem (by rw [HN.out];exact hlt)⟩;have aki:=af hq;obtain⟨dU,akj,Ao,_,Ag⟩:=(uN.out.below aG.out).at_ k q hq;injection Ao with akk akl akm;subst akk;subst akm;clear akl Ag
    have kK:Hid (∀wv,Below Ol.heap.size Ol wv→wv.cell? ⟨dU,k*6,none⟩=some ↑q.ap):=af fun wv hb=>by
     obtain⟨g',c',he,_,hc⟩:=(uN.out.below hb).at_ k q aki.out;injection he with he;injection he with he;injection he with he;subst he;have:=hc 0 _ rfl;exact this
    have dN:=af (aa1 (f:=Am p i side ap) hq);clear hq;obtain⟨jk,S7⟩:=ai q.ap;rw [S7]at kK;have BD:Hid (Am p i side ap q=(!(eW p i jk==0)&& !cT side jk ap)):=af (by unfold Am;rw [S7]);clear S7;obtain⟨bb,aP⟩:=ai (Am p i side ap q);rw [aP]at BD dN;clear aP;go_upto_region 9 with(fail)
    go_cut [63] (fun v wx=>v=↑bb∧Below ax.heap.size ax wx)
    case first=>
     have hd:=(Below.refl ax.heap.size ax).drew;have fZ:=ag aG hd;have S8:=af ((Ib.out.below aG.out).below hd);have dI:=af hd;have mo:=DM p i jk ax.drew ((wU.out.below aa4.out).below ((ah uF aG).out.trans (hd.mono (ah uF aG).out.size)));obtain⟨pr,yl⟩:=ai (eW p i jk);rw [yl]at mo BD;unfold Prod.agg Prod.cells at mo;have kQ:=af mo;have iR:PC ax.drew aR p:=PC.oQ S8.out;have hc0:=kK.out _ fZ.out;clear hd mo yl;refine cP (S:=fun w'=>(w'.cell? ↑aR=some (.string p.code)∧w'.cell? ⟨aR,1,none⟩=some (.slice p.ma p.months.length p.mc)∧w'.cell? ⟨aR,2,none⟩=some ↑p.tick∧w'.cell? ⟨aR,3,none⟩=some ↑p.low∧w'.cell? ⟨aR,4,none⟩=some ↑p.high∧w'.cell? ⟨aR,5,none⟩=some ↑p.wide∧w'.cell? ⟨aR,6,none⟩=some ↑p.rule∧w'.cell? ⟨aR,7,none⟩=some ↑p.top∧w'.cell? ⟨aR,8,none⟩=some ↑p.least∧w'.cell? ⟨aR,9,none⟩=some ↑p.part∧w'.cell? ⟨aR,10,none⟩=some (.slice p.sa p.settle.length p.sc))∧w'.cell? ⟨dU,k*6,none⟩=some ↑jk) ⟨iR,hc0⟩ fun hHeld=>?_;refine au 0 ?_;refine au 1 ?_;refine au 2 ?_;refine au 3 ?_;refine au 4 ?_;refine au 5 ?_;refine au 6 ?_;refine aU 7 fun K hK=>?_;clear iR hc0;generalize ax.drew=wd at*;go_simp;go_at_call 67
     refine kQ.out.mono ?_;rintro e aN ⟨rfl,bI⟩;have b7:=ag fZ bI;have aa6:=ag dI bI;have akn:=af (PC.oQ (S8.out.below bI));refine hK.out _ _ ⟨PC.oQ (S8.out.below bI),kK.out _ b7.out⟩ (fun hHeld=>?_);clear hK K bI kQ;by_cases uq:pr=0
     ·subst uq
      have S9:Hid (bb=false):=af (by rw [BD.out];rfl);refine au 8 ?_;refine au 9 ?_;refine c7 10 ?_;refine c7 11 ?_;refine c7 12 ?_;refine c7 13 ?_;refine c7 14 ?_;refine c7 15 ?_;refine c7 16 ?_;refine c7 17 ?_;refine c7 18 ?_;refine gu _ _ _ _ ?_;refine ej 19 ?_;refine gw ?_;clear hHeld;go_wp2_with fail
      go_meet;exact⟨by rw [S9.out],aa6.out⟩
     ·have KI:(pr==0)=false:=by rw [beq_eq_false_iff_ne];exact uq
      have Rx:(pr !=0)=true:=by rw [bne_iff_ne];exact uq
      have S9:Hid (bb= !cT side jk ap):=af (by rw [BD.out,KI];simp);refine au 8 ?_;refine au 9 ?_;refine au 10 ?_;refine au 11 ?_;refine au 12 ?_;refine au 13 ?_;refine au 14 ?_;refine au 15 ?_;refine au 16 ?_;have g7:=Gx side jk ap aN;refine aU 17 fun K hK=>?_;go_simp;go_at_call 72
      refine g7.mono ?_;rintro e bf ⟨rfl,rfl⟩;refine hK.out _ _ ⟨akn.out,kK.out _ b7.out⟩ (fun hHeld=>?_);clear hK K;refine au 18 ?_;refine gu _ _ _ _ ?_;refine ej 19 ?_;refine gw ?_;clear hHeld;go_wp2_with fail
      go_meet;exact⟨by rw [S9.out],aa6.out⟩
    case rest=>
    obtain⟨rfl,ep⟩:=hcut;have je:=ag aG ep;have cH:=ah uF je;clear ep;cases bb with
    |true=>
     have HD:Hid (A.any (Am p i side ap)=true):=af (by
      rw [List.any_eq_true];have h1:=dN.out;rw [S6.out,Bool.false_or,List.any_eq_true]at h1;obtain⟨x,hx,ako⟩:=h1;exact⟨x,List.mem_of_mem_take hx,ako⟩)
     go_wp2_with fail
     go_ret;exact⟨by rw [←qp.out,HD.out];rfl,cH.out⟩
    |false=>
     go_wp2_with fail
     go_roundw
     case rel=>exact⟨k+1,by go_num,hlt,by rw [dN.out,S6.out];rfl,je.out⟩
     case measure=>simp [RowKit.intOf];omega
   ·have hkn:k=n:=by omega
    have akp:Hid (A.any (Am p i side ap)=false):=af (by have:=S6.out;rwa [hkn,←HN.out,List.take_length]at this);have cH:=ah uF aG;clear hkn;go_wp2_with fail
    go_ret;exact⟨by rw [←qp.out,akp.out];rfl,cH.out⟩
end
section
variable {W w w':World} {pm ps pb:Nat} {p:Prod} {Q:List Nat} {S S':List (List aC)} {E:List Int}
theorem acW (h:eF W w pm ps p Q S E) (hl:E.length≤100000) (id:Int):
 Calls Tryz.prog 104 #[.pointer ↑pm,↑id] w fun e w'=>e= .returned (.bool (E.any (fun x=>x==id)))∧w=w':=by
 obtain⟨a,c,hb,hr⟩:=h.box;obtain⟨n,hn⟩:=ai E.length;rw [hn]at hb hr;have bM:=af hr;have HN:=af hn;have hnb:n≤100000:=by omega
 have O2:w.cell? ⟨pm,12,none⟩=some (.slice a n c):=hb.cell 12;obtain⟨bb,aP⟩:=ai (E.any (fun x=>x==id));rw [aP];have bp:=af aP;clear h hb hr hn hl aP;go_enter Tryz.func104,Tryz.ntmps104
 go_wp2_with fail
 go_loopw [5] (fun i w'=>∃k:Nat,i=↑k∧k≤n∧(E.take k).any (fun x=>x==id)=false∧w=w') (fun i _=>n-(RowKit.intOf i).toNat)
 case atStart=>exact⟨0,rfl,Nat.zero_le _,rfl,rfl⟩
 case round=>
  obtain⟨k,rfl,hk,Lv,rfl⟩:=hrel;have cO:=af Lv;clear Lv;by_cases hlt:k<n
  ·have hlt':(k:Int)<(n:Int):=by omega
   obtain⟨x,hx⟩:∃x,E[k]? =some x:=⟨_,List.getElem?_eq_getElem (by rw [HN.out];exact hlt)⟩;obtain⟨b,off,rfl,c0⟩:=qU bM.out.sl hx;have bP:=af (aa1 (f:=fun x=>x==id) hx);have bz:=af hx;clear hx;by_cases he:x=id
   ·have he':(x==id)=true:=by rw [he];exact beq_self_eq_true _
    have bA:Hid (bb=true):=af (by rw [←bp.out,List.any_eq_true];exact⟨x,List.mem_of_getElem? bz.out,he'⟩);clear he;go_wp2_with fail
    go_ret;exact⟨by rw [bA.out];rfl,by trivial⟩
   ·have he':(x==id)=false:=by rw [beq_eq_false_iff_ne];exact he
    rw [he',cO.out]at bP;go_wp2_with fail
    go_roundw
    case rel=>exact⟨k+1,by go_num,hlt,by rw [bP.out];rfl,by trivial⟩
    case measure=>simp [RowKit.intOf];omega
  ·have hkn:k=n:=by omega
   have bA:Hid (bb=false):=af (by have:=cO.out;rw [hkn,←HN.out,List.take_length]at this;rw [←bp.out];exact this);clear hkn;go_wp2_with fail
   go_ret;exact⟨by rw [bA.out];rfl,by trivial⟩
def y6 (w:World) (pm g:Nat):Prop:=∃a n c,w.cell? ⟨pm,12,none⟩=some (.slice a n c)∧(Value.slice a n c).ownBlock=some g
structure gy (W w w':World) (pm ps:Nat) (p:Prod) (Q:List Nat) (S:List (List aC)) (E:List Int):Prop where
 gN:eF W w' pm ps p Q S E
 k:aK (fun g=>g∈Q∨g=pm∨y6 w pm g) w w'
 o:∀g,y6 w' pm g→y6 w pm g∨w.heap.size≤g
theorem eF.aE (h:eF W w pm ps p Q S E):ck w pm 76:=by
 obtain⟨a,c,h1,_⟩:=h.box;exact h1.aE
theorem eF.sO (h:eF W w pm ps p Q S E) {g:Nat} (hg:y6 w pm g):ck w g 2∧W.heap.size≤g:=by
 obtain⟨a,c,h1,h2⟩:=h.box;obtain⟨a',n',c',h3,h4⟩:=hg;rw [h1.cell 12]at h3;injection h3 with h3;rw [←h3]at h4;exact⟨eo h2 g h4,cS h2 g h4⟩
theorem gy.ry (h:eF W w pm ps p Q S E) {kR:List (List aC)} (h2:eF W w' pm ps p Q kR E) (hk:aK (fun g=>g∈Q) w w'):gy W w w' pm ps p Q kR E:=by
 refine⟨h2,hk.more fun g hg=> .inl hg,fun g hg=> .inl ?_⟩;obtain⟨a,c,h1,_⟩:=h.box;have hq:∀g,g∈Q→ck w g 181:=fun g hg=>(h.cr.py hg).1;have h3:=h1.keeps hk (fun e=>h1.aE.ne (hq _ e) (by decide) rfl);obtain⟨a',n',c',h4,h5⟩:=hg;rw [h3.cell 12]at h4;exact⟨a',n',c',by rw [h1.cell 12];exact h4,h5⟩
theorem gy.below (h:gy W w w' pm ps p Q S E) {w2:World} (hb:Below w'.heap.size w' w2):gy W w w2 pm ps p Q S E:=by
 refine⟨h.gN.below hb,h.k.trans (Below.keeps hb),fun g hg=>h.o g ?_⟩;obtain⟨a,n,c,h1,h2⟩:=hg;have h3:w2.cell? ⟨pm,12,none⟩=w'.cell? ⟨pm,12,none⟩:=hb.cell (p:=⟨pm,12,none⟩) h.gN.aE.lt;exact⟨a,n,c,by rw [←h3];exact h1,h2⟩
theorem gy.trans {kR:List (List aC)} {abO:List Int} {w1 w2:World} (h:gy W w w1 pm ps p Q S E) (h2:gy W w1 w2 pm ps p Q kR abO) (hb:w.heap.size≤w1.heap.size):gy W w w2 pm ps p Q kR abO:=by
 refine⟨h2.gN,h.k.step h2.k (fun x hx e=>?_),fun g hg=>?_⟩
 ·rcases e with e|e|e
  ·exact .inl e
  ·exact .inr (.inl e)
  ·rcases h.o x e with h3|h3
   ·exact .inr (.inr h3)
   ·omega
 ·rcases h2.o g hg with h3|h3
  ·exact h.o g h3
  ·exact .inr (by omega)
theorem gy.more {aA:World} {a:Option Addr} {c:Nat} {v':Value} {E':List Int} (hm:eF W w pm ps p Q S E) (aT:av w pm 76 (Hh p ps (.slice a E.length c))) (AH:e8.Row w W.heap.size (.slice a E.length c) E) {w1:World} (hb1:Below w.heap.size w w1)
 (hr:e8.Row aA W.heap.size v' E') (hg:w1.grownBy aA (Value.slice a E.length c).ownBlock) (ho:v'.ownBlock=(Value.slice a E.length c).ownBlock∨v'.ownBlock=some w1.heap.size):
 gy W w (aA.setCell ⟨pm,12,none⟩ v') pm ps p Q S E'∧aA.cell? ⟨pm,12,none⟩=some (.slice a E.length c)∧aA.frozen? ⟨pm,12,none⟩=false:=by
 have hk:=fK hg;have La:=hm.below hb1;have Ls:=aT.below hb1;have uV:=AH.below hb1;have bT:=eo uV;have dw:=cS uV;have hne:∀{g:Nat} {t':TypeId},ck w1 g t'→2≠t'→¬(Value.slice a E.length c).ownBlock=some g:=fun hg hn e=>hg.ne (bT _ e) (Ne.symm hn) rfl;have xK:=Ls.keeps hk (hne Ls.aE (by decide));have ak3:=La.cr.qT hk bT (Nat.le_refl _) dw;have jY:=ct aA pm 12 v';obtain⟨a',c',dF⟩:=hr.form;have Dn:=xK.aW 12 v';have ak4:=ak3.qT (t:=76) (B:=W.heap.size) jY (fun g e=>by have e2:g=pm:=e;rw [e2];exact xK.aE) (Nat.le_refl _) (fun g e=>by have e2:g=pm:=e;rw [e2];exact hm.base) (by decide);have bX:=hr.keep jY (fun g hg e=>hg.ne xK.aE (by decide) e);unfold Hh at Dn;simp only [List.setIfInBounds_toArray,List.set_cons_zero,List.set_cons_succ]at Dn;have hcell:(aA.setCell ⟨pm,12,none⟩ v').cell? ⟨pm,12,none⟩=some v':=Dn.cell 12;refine⟨⟨⟨⟨a',c',?_,?_⟩,ak4,hm.base⟩,?_,fun g nk=>?_⟩,xK.cell 12,xK.frozen 12⟩
 ·rw [←dF];exact Dn
 ·rw [←dF];exact bX
 ·refine(((Below.keeps hb1).step hk (fun x hx e=>?_)).step jY (fun x hx e=>?_))
  ·exact .inr (.inr ⟨a,E.length,c,aT.cell 12,e⟩)
  ·exact .inr (.inl e)
 ·obtain⟨a2,n2,c2,h3,h4⟩:=nk
  rw [hcell]at h3;injection h3 with h3;rw [←h3]at h4;rcases ho with ho|ho
  ·exact .inl ⟨a,E.length,c,aT.cell 12,by rw [←ho];exact h4⟩
  ·rw [ho]at h4
   injection h4 with h4;exact .inr (by rw [←h4];exact hb1.size)
end
end Go.Proofs.YtmaijkoopjocdaaGreat
