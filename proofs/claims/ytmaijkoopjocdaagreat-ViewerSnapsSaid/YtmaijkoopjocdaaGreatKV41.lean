import Derived.Test.YtmaijkoopjocdaaGreatKV32
import Derived.Test.YtmaijkoopjocdaaGreatKV26
set_option maxRecDepth 100000
set_option maxHeartbeats 64000000
namespace Go.Proofs.YtmaijkoopjocdaaGreat
open Go.RowKit Go.Lib
theorem akM {W w:World} {pv n:Nat} {hv:Value} {s:ig} (h:fA W w pv n hv s) {cc:Nat} (hk:pL n cc s) (lf:sG s.H) (hn:n≤255) (oK:cc≤500000) {v:Value} {b:List Int} (hsl:cZ.eT w v b) (hl:b.length≤900000) (hok:∀z∈b,isByte z) {q ii sd p t c:Int} {im:Bool} (hd:pg b=some ⟨q,ii,sd,p,t,c,im⟩) (hq:¬q<1) (hf:n6 n ⟨q,ii,sd,p,t,c,im⟩=0) (ho:¬(q≤s.seq∨kP q s.H=true)) (he:q-1=s.seq):
 Calls Tryz.prog 11 #[.pointer ↑pv,v] w fun e w'=>e= .returned (.int .i64 (0))∧∃dF,fA W w' pv n dF (jN s.H (gm ⟨q,ii,sd,p,t,c,im⟩ s.V) q)∧aK (wo pv hv) w w'∧∀g,dF.ownBlock=some g→hv.ownBlock=some g∨w.heap.size≤g:=by
 have hdec:=DV hsl hl hok;rw [hd]at hdec;unfold Cp at hdec;simp only [Option.getD_some,Option.isSome_some,if_true]at hdec;unfold aF.cells at hdec;dsimp only at hdec;have hmo:=(FQ hok hd).1;have uW:=af hmo;have oy:=af hdec;have H0:=af h;have dJ:=af hk;have B1:=af lf;have hlv:=hk.len;have b5:=af hf;have e9:=af ho;clear ho;have bR:=af he;clear he;clear hf hdec h hk hsl hl hok hd hmo lf;go_enter Tryz.func11,Tryz.ntmps11
 go_wp2_with fail
 refine oy.out.mono ?_;rintro e w1 ⟨rfl,hb⟩;have bA:=af hb;obtain⟨ay,dL⟩:=ai w1.heap.size;go_upto_region 2 with(fail)
 have hba:=Below.aI w1 (.cells #[↑q,↑ii,↑sd,↑p,↑t,↑c,↑im] 86);have fT:av (w1.alloc (.cells #[↑q,↑ii,↑sd,↑p,↑t,↑c,↑im] 86)) w1.heap.size 86 #[↑q,↑ii,↑sd,↑p,↑t,↑c,↑im]:=av.new w1 _ _;rw [dL]at fT;have dc:=af fT;have bL:Hid (w.heap.size≤ay):=af (by rw [←dL];exact hb.size);have aS:=af (hb.trans (hba.mono hb.size));clear hb hba fT dL bA oy;generalize w1.alloc (.cells #[↑q,↑ii,↑sd,↑p,↑t,↑c,↑im] 86)=w2 at*;have ot:=af (H0.out.below aS.out);obtain⟨a2,c2,aT,_⟩:=H0.out.below aS.out |>.box;have jA:=af aT;obtain⟨m0,m1,m2,eN,ea,eY,dV⟩:=dc.out.amz;have k0:w2.cell? ↑pv=some ↑n:=aT.cell 0;clear aT;have hq2:decide (q<1)=false:=decide_eq_false (by omega);have eu:=xQ n ⟨q,ii,sd,p,t,c,im⟩ w2.drew;unfold aF.agg at eu;dsimp only at eu;obtain⟨fv,kV⟩:=ai (n6 n ⟨q,ii,sd,p,t,c,im⟩);rw [kV]at eu;have vh:=af eu;have B2:=af kV;clear eu kV;go_upto_region 4 with(fail)
 have hS:w2.cell? ↑ay=some ↑q∧w2.cell? ⟨ay,1,none⟩=some ↑ii∧w2.cell? ⟨ay,2,none⟩=some ↑sd∧w2.cell? ⟨ay,3,none⟩=some ↑p∧w2.cell? ⟨ay,4,none⟩=some ↑t∧w2.cell? ⟨ay,5,none⟩=some ↑c∧w2.cell? ⟨ay,6,none⟩=some ↑im∧w2.cell? ↑pv=some ↑n:=⟨m0,m1,m2,eN,ea,eY,dV,k0⟩;refine cP (S:=fun w2=>w2.cell? ↑ay=some ↑q∧w2.cell? ⟨ay,1,none⟩=some ↑ii∧w2.cell? ⟨ay,2,none⟩=some ↑sd∧w2.cell? ⟨ay,3,none⟩=some ↑p∧w2.cell? ⟨ay,4,none⟩=some ↑t∧w2.cell? ⟨ay,5,none⟩=some ↑c∧w2.cell? ⟨ay,6,none⟩=some ↑im∧w2.cell? ↑pv=some ↑n) hS fun hHeld=>?_;refine au 0 ?_;refine au 1 ?_;refine au 2 ?_;refine au 3 ?_;refine au 4 ?_;refine au 5 ?_;refine au 6 ?_;refine au 7 ?_;refine au 8 ?_;refine aU 9 fun K hK=>?_;go_simp;refine vh.out.mono ?_;rintro e w3 ⟨rfl,hb⟩;have hb3:=(Below.bO w2 1).trans hb;have mb:=af (ot.out.below hb3);have aQ:=ag aS hb3;have eD:=af (dc.out.below hb3);have gV:=af (jA.out.below hb3);refine hK.out _ _ ⟨eD.out.cell 0,eD.out.cell 1,eD.out.cell 2,eD.out.cell 3,eD.out.cell 4,eD.out.cell 5,eD.out.cell 6,gV.out.cell 0⟩ (fun hHeld=>?_);clear hK K hb hb3 hS vh ot aS dc jA m0 m1 m2 eN ea eY dV k0;refine au 10 ?_;refine dY 11 fun K hK=>?_;go_simp;refine hK.out _ _ ?_;clear hK K hHeld hq2;have iH:fv=0:=by rw [←B2.out];exact b5.out
 subst iH;obtain⟨jO,ch,gU⟩:=mb.out.held.form;subst gU;have sN:=Oj (mb.out.below (Below.bO w3 1)).held.sl B1.out (by have:=dJ.out.hl;omega) q;have zl:=af sN;have hS:w3.cell? ⟨pv,3,none⟩=some (.slice jO s.H.length ch)∧w3.cell? ↑ay=some ↑q:=⟨gV.out.cell 3,eD.out.cell 0⟩;clear sN;go_upto_region 6 with(fail)
 go_cut [7,8] (fun u v wx=>u= .int .i64 (r5 q s.H)∧v= .bool (kP q s.H)∧Below w3.heap.size w3 wx)
 case first=>
  refine cP (S:=fun w3=>w3.cell? ⟨pv,3,none⟩=some (.slice jO s.H.length ch)∧w3.cell? ↑ay=some ↑q) hS fun hHeld=>?_;refine au 0 ?_;refine au 1 ?_;refine au 2 ?_;refine au 3 ?_;refine au 4 ?_;refine au 5 ?_;refine aU 6 fun K hK=>?_;go_simp;refine zl.out.mono ?_;rintro e az ⟨rfl,hb⟩;have hb4:=(Below.bO w3 1).trans hb;have bN:=af hb4;have qI:az.cell? ⟨pv,3,none⟩=some (.slice jO s.H.length ch)∧az.cell? ↑ay=some ↑q:=⟨(gV.out.below hb4).cell 3,(eD.out.below hb4).cell 0⟩;refine hK.out _ _ qI (fun hHeld=>?_);clear hK K hb hb4;refine au 7 ?_;refine au 8 ?_;refine au 9 ?_;refine aU 10 fun K hK=>?_;go_simp;refine hK.out _ _ qI (fun hHeld=>?_);clear hK K;refine dY 11 fun K hK=>?_;go_simp;refine hK.out _ _ ?_;clear hK K;go_wp2_with fail
  go_meet;exact⟨rfl,rfl,bN.out⟩
 case rest=>
 obtain⟨rfl,rfl,hb4⟩:=hcut;obtain⟨az,rfl⟩:=aj wc;have tI:=af (mb.out.below hb4);have bY:=ag aQ hb4;have wP:=af (eD.out.below hb4);have lN:=af (gV.out.below hb4);have m0:az.cell? ↑ay=some ↑q:=wP.out.cell 0;have k2:az.cell? ⟨pv,2,none⟩=some ↑s.seq:=lN.out.cell 2;obtain⟨hh,tV⟩:=ai (kP q s.H);obtain⟨fS,nG⟩:=ai (r5 q s.H);rw [tV,nG];have FR:=af tV;have l9:=af nG;clear hS zl mb aQ eD gV hb4 tV nG;have hle:¬q≤s.seq:=fun h=>e9.out (.inl h);obtain rfl:hh=false:=by rw [←FR.out];cases hx:kP q s.H with|false=>rfl|true=>exact absurd (.inr hx) e9.out
 have FT:decide (q≤s.seq)=false:=decide_eq_false hle;have y1:IntKind.i64.wrap (q-1)=q-1:=IntWalk.i64_in _ (by have:=uW.out.seq;unfold eB at this;dsimp only at this;omega);have Ku:(q-1==s.seq)=true:=by simpa using bR.out
 clear hle;go_wp2_with fail
 go_quiet (fail)
 have bQ:=Below.bO az nq;have nr:=af (tI.out.below bQ);have b7:=ag bY bQ;have zm:=af (wP.out.below bQ);have mZ:=af (lN.out.below bQ);clear bQ tI bY wP lN m0 k2 FT;generalize az.drewN nq=aA at*;have m0:aA.cell? ↑ay=some ↑q:=zm.out.cell 0;have k2:aA.cell? ⟨pv,2,none⟩=some ↑s.seq:=mZ.out.cell 2;go_wp2_with fail
 go_quiet (fail)
 have bQ:=Below.bO aA nq;have uZ:=af (nr.out.below bQ);have dP:=ag b7 bQ;have oB:=af (zm.out.below bQ);have LD:=af (mZ.out.below bQ);clear bQ nr b7 zm mZ m0 k2;generalize aA.drewN nq=aN at*;obtain⟨m0,m1,m2,eN,ea,eY,dV⟩:=oB.out.amz;have hfn:Az s.V.length ⟨q,ii,sd,p,t,c,im⟩:=by rw [hlv];exact IA.1 (Mg.1 b5.out)
 obtain⟨j,sA,hj2⟩:=dJ.out.sz;have vV:=Wx uZ.out (by omega) sA (by omega) dJ.out.oH hfn;unfold aF.agg at vV;dsimp only at vV;have JK:=af vV;have iD:Hid (∃j,fX (gm ⟨q,ii,sd,p,t,c,im⟩ s.V) j∧j+s.H.length≤700000):=af ⟨j+1,GY sA,by omega⟩;have qR:=af hfn;clear vV hfn sA hj2 y1;go_wp2_with fail
 refine JK.out.mono ?_;rintro e bf ⟨rfl,pH,kE⟩;have k3:=af pH;have JL:=af kE;clear pH kE JK m0 m1 m2 eN ea eY dV;have sR:=uW.out.seq;unfold eB at sR;dsimp only at sR;have hfl:=Wu k3.out (by rw [CK];omega) iD.out (M2 qR.out.sd dJ.out.oH) (fun x hx=>by rw [CK,hlv];exact dJ.out.hh x hx) (by dsimp only;omega) sR.2;have jM:=af hfl;clear sR hfl;go_wp2_with fail
 refine jM.out.mono ?_;rintro e bZ ⟨rfl,tM,abw,abx,aby⟩;have akN:=af abw;have akO:=af abx;have akP:=af aby;clear abw abx aby jM;go_wp2_with fail
 go_ret;refine⟨by trivial,tM,akN.out,(Below.keeps dP.out).trans ((JL.out.trans akO.out).more fun g hg=> .inl hg),fun g hg=>?_⟩;rcases akP.out g hg with h|h
 ·exact .inl h
 ·exact .inr (Nat.le_trans (Nat.le_trans dP.out.size JL.out.size) h)
theorem Nk {W w:World} {pv n:Nat} {hv:Value} {s:ig} {cc:Nat} (h:fA W w pv n hv s) (hk:pL n cc s) (lf:sG s.H) (hn:n≤255) (oK:cc≤500000) {v:Value} {b:List Int} (hsl:cZ.eT w v b) (hl:b.length≤900000) (hok:∀z∈b,isByte z):
 Calls Tryz.prog 11 #[.pointer ↑pv,v] w fun e w'=>e= .returned (.int .i64 (iF n s b).1)∧∃dF,fA W w' pv n dF (iF n s b).2∧aK (wo pv hv) w w'∧∀g,dF.ownBlock=some g→hv.ownBlock=some g∨w.heap.size≤g:=by
 unfold iF;cases hd:pg b with
 |none=>exact akI h hsl hl hok hd
 |some m=>
  dsimp only;obtain⟨q,ii,sd,p,t,c,im⟩:=m;dsimp only;by_cases hq:q<1
  ·rw [if_pos (.inl hq)];exact akJ h hk lf hsl hl hok hd hq
  ·by_cases hf:n6 n ⟨q,ii,sd,p,t,c,im⟩=0
   ·have EY:=Mg.1 hf
    rw [if_neg (by rintro(x|x);exact hq x;rw [EY]at x;cases x)];by_cases ho:q≤s.seq∨kP q s.H=true
    ·rw [if_pos ho];exact akL h hk lf oK hsl hl hok hd hq hf ho
    ·rw [if_neg ho]
     by_cases he:q-1=s.seq
     ·rw [if_pos he];exact akM h hk lf hn oK hsl hl hok hd hq hf ho he
     ·rw [if_neg he]
      by_cases Ie:4096≤s.H.length
      ·rw [if_pos Ie];exact akQ h hk lf oK hsl hl hok hd hq hf ho he Ie
      ·rw [if_neg Ie];exact akR h hk lf hsl hl hok hd hq hf ho he Ie
   ·have EY:zQ n ⟨q,ii,sd,p,t,c,im⟩=false:=by cases hx:zQ n ⟨q,ii,sd,p,t,c,im⟩with|false=>rfl|true=>exact absurd (Mg.2 hx) hf
    rw [if_pos (.inr EY)];exact akK h hk lf hsl hl hok hd hq hf
def mG (V:bG) (q:Int) (k:Nat):List Int:=q6 q++(((V.length:Int) % 256)::(V.take k).flatMap tO)
theorem Zd {V:bG} {q:Int} {k:Nat} (hk:fX V 255) (hl:V.length≤40):(mG V q k).length≤500000:=by
 unfold mG;rw [List.length_append,List.length_cons,KN]
 have h1:=KO (f:=tO) (k:=12292) (l:=V.take k) (fun x hx=>by
  have hx':=List.mem_of_mem_take hx;have h1:=KP (hk x hx').1;have h2:=KP (hk x hx').2;unfold tO;rw [List.length_append];omega)
 have h2:(V.take k).length≤40:=by rw [List.length_take];omega
 have h3:(V.take k).length*12292≤40*12292:=Nat.mul_le_mul_right _ h2;omega
theorem ain {V:bG} {q:Int} {k:Nat} {d1 d2:aX} (h:V[k]? =some (d1,d2)):mG V q (k+1)=mG V q k++mW d1++mW d2:=by
 unfold mG;rw [kH h,List.flatMap_append];simp only [List.append_assoc,List.cons_append,List.flatMap_cons,List.flatMap_nil,List.append_nil];rfl
def rZ (L:List aB) (k:Nat):List Int:=((L.length:Int) % 256)::(L.take k).flatMap nw
theorem Ze {L:List aB} {k:Nat} {z:aB} (h:L[k]? =some z):rZ L (k+1)=rZ L k++nw z:=by
 unfold rZ;rw [kH h,List.flatMap_append];simp
theorem Zf {L:List aB} {k:Nat} (h:L.length≤255):(rZ L k).length≤6200:=by
 unfold rZ;rw [List.length_cons];have h1:=KO (f:=nw) (k:=24) (l:=L.take k) (fun x _=>Nat.le_of_eq (R3 x));have h2:(L.take k).length≤255:=by rw [List.length_take];omega
 have h3:(L.take k).length*24≤255*24:=Nat.mul_le_mul_right _ h2;omega
theorem Zg {L:List aB} {im:aB}:mW ⟨L,im,true⟩=rZ L L.length++ [1]++nw im:=by
 unfold mW rZ;rw [List.take_length];simp
theorem Zh {L:List aB} {im:aB}:mW ⟨L,im,false⟩=rZ L L.length++ [0]:=by
 unfold mW rZ;rw [List.take_length];simp
section
variable {w:World}
theorem aio {B:Nat} {a:Option Addr} {c:Nat} {V:bG} (h:cg eJ bK w B (.slice a V.length c) V) (hl:V.length≤40) (hr:ql V=true) (q:Int):
 Calls Tryz.prog 20 #[.agg #[.slice a V.length c],↑q] w fun e w'=>∃v,e= .returned (.tuple #[v,.int .i64 0])∧cZ.Row w' w.heap.size v (lK V q)∧Below w.heap.size w w':=by
 have sN:=Zi hr;have dQ:=af sN.2.1;have hba:=Below.aI w (.cells #[.slice a V.length c] 54);have bU:Hid (av (w.alloc (.cells #[.slice a V.length c] 54)) w.heap.size 54 #[.slice a V.length c]):=af (av.new _ _ _);have aG:=af hba;have dD:=af (h.below hba);have GK:=aik (h.below hba) (by omega) (fun p hp=>⟨Nat.le_trans (sN.2.1 p hp).1 (by decide),Nat.le_trans (sN.2.1 p hp).2 (by decide)⟩);rw [hr]at GK;have nW:=af GK;clear hba h GK sN hr;go_enter Tryz.func20,Tryz.ntmps20
 go_upto_region 1 with(fail)
 obtain⟨g,hg⟩:=ai w.heap.size;rw [hg]at bU⊢;clear hg;generalize w.alloc (.cells #[.slice a V.length c] 54)=w1 at*;have c0:w1.cell? ↑g=some (.slice a V.length c):=bU.out.cell 0;go_wp2_with fail
 refine nW.out.mono ?_;rintro e w2 ⟨rfl,hb⟩;have dG:=af (bU.out.below hb);have aS:=ag aG hb;have yM:=af (dD.out.below hb);clear hb c0 nW bU aG dD;go_upto_region 3 with(fail)
 have eI:=af (Cl (v:= .slice none 0 0) (L:= []) (w:=w2.drewN 1) bl.eT.nil (by decide) q);refine cP (S:=fun w'=>w'.cell? ↑g=some (.slice a V.length c)) (dG.out.cell 0) fun hHeld=>?_;refine au 0 ?_;refine au 2 ?_;refine au 3 ?_;refine au 4 ?_;refine aU 1 fun K hK=>?_;go_simp;refine eI.out.mono ?_;rintro e w3 ⟨v1,rfl,hr,hb⟩;have hb2:=(Below.bO w2 1).trans hb;have eA:=af (dG.out.below hb2);have aQ:=ag aS hb2;have Zj:=af (yM.out.below hb2);have mE:=af (xX hr.sl (by rw [List.nil_append,uu];omega) (V.length:Int));refine hK.out _ _ (eA.out.cell 0) (fun hHeld=>?_);clear hK K hr hb hb2 eI dG aS yM;refine aU 5 fun K hK=>?_;go_simp;refine mE.out.mono ?_;rintro e az ⟨v2,rfl,hr,hb⟩;have lI:=af (eA.out.below hb);have bN:=ag aQ hb;have Zk:=af (Zj.out.below hb)
 have fM:Hid (cZ.Row az w.heap.size v2 (mG V q 0)):=af (by
  have:=hr.base (B':=w.heap.size) aQ.out.size;rw [List.nil_append]at this;exact this)
 refine hK.out _ _ (lI.out.cell 0) (fun hHeld=>?_);clear hK K hr hb mE eA aQ Zj;refine dY 6 fun K hK=>?_;go_simp;refine hK.out _ _ ?_;clear hK K hHeld;go_wp2_with fail
 go_loopw [7,6] (fun i bv w'=>∃(k:Nat) (v:Value),i=↑k∧bv=v∧k≤V.length∧cZ.Row w' w.heap.size v (mG V q k)∧Below az.heap.size az w') (fun i _ _=>V.length-(RowKit.intOf i).toNat)
 case atStart=>exact⟨0,v2,rfl,rfl,Nat.zero_le _,fM.out,Below.refl _ _⟩
 case round=>
  clear fM;obtain⟨k,v,rfl,rfl,hk,hrow,hbz⟩:=hrel;obtain⟨ax,rfl⟩:=aj wr;have cY:=af hrow;have fZ:=af hbz;have c0:ax.cell? ↑g=some (.slice a V.length c):=(lI.out.below hbz).cell 0;clear hrow hbz;by_cases hlt:k<V.length
  ·have hlt':(k:Int)<(V.length:Int):=by omega
   obtain⟨J0,hx⟩:∃x,V[k]? =some x:=⟨_,List.getElem?_eq_getElem hlt⟩;obtain⟨d1,d2⟩:=J0;have bz:=af hx;have gG:=af (ain (q:=q) hx);have nj:=af (dQ.out (d1,d2) (List.mem_of_getElem? hx));have gq:Hid ((mG V q k).length≤500000):=af (Zd dQ.out hl);have aip:Hid ((mW d1).length≤6146):=af (by have:=KP nj.out.1;omega);clear hx;go_wp2_with fail
   go_loopw [8,6] (fun i bv w'=>∃(j:Nat) (v:Value),i=↑j∧bv=v∧Below az.heap.size az w'∧((j=0∧cZ.Row w' w.heap.size v (mG V q k))∨(j=1∧cZ.Row w' w.heap.size v (mG V q k++mW d1))∨(j=2∧cZ.Row w' w.heap.size v (mG V q (k+1))))) (fun i _ _=>2-(RowKit.intOf i).toNat)
   case atStart=>exact⟨0,_,rfl,rfl,fZ.out,.inl ⟨rfl,cY.out⟩⟩
   case round=>
    clear c0 cY fZ;obtain⟨j,v,rfl,rfl,hby,hj⟩:=hrel;obtain⟨wy,rfl⟩:=aj wr;have fB:=af hby;have c0:wy.cell? ↑g=some (.slice a V.length c):=(lI.out.below hby).cell 0;clear hby;rcases hj with⟨rfl,hrow⟩|⟨rfl,hrow⟩|⟨rfl,hrow⟩
    ·have cY:=af hrow
     clear hrow;have g6:Hid ((mG V q k).length≤506146):=af (by have:=gq.out;omega);obtain⟨bE,m6,D6,he,fT,cD,hq1,hq2⟩:=(Zk.out.below fB.out).get bz.out;injection he with eb _ eS;subst eb;subst eS;obtain⟨⟨a1,n1,e1,⟨p1,q1,r1⟩,f1⟩,_⟩:=D6;have x0:wy.cell? ⟨bE,k*10,none⟩=some (.slice a1 n1 e1):=cD 0 _ rfl;have x1:wy.cell? ⟨bE,k*10+1,none⟩=some ↑p1:=cD 1 _ rfl;have aZ:wy.cell? ⟨bE,k*10+2,none⟩=some ↑q1:=cD 2 _ rfl;have cl:wy.cell? ⟨bE,k*10+3,none⟩=some ↑r1:=cD 3 _ rfl;have cw:wy.cell? ⟨bE,k*10+4,none⟩=some ↑f1:=cD 4 _ rfl;have l7:=hq1;have cK:=af (Below.aI wy (.cells #[.slice a1 n1 e1,↑p1,↑q1,↑r1,↑f1] 103));have BG:Hid (av (wy.alloc (.cells #[.slice a1 n1 e1,↑p1,↑q1,↑r1,↑f1] 103)) wy.heap.size 103 #[.slice a1 n1 e1,↑p1,↑q1,↑r1,↑f1]):=af (av.new _ _ _);obtain⟨y1,uV,lF,qb⟩:=l7.below cK.out;clear cD hq1 hq2 l7;go_upto_region 11 with(fail)
     obtain⟨aL,fO⟩:=ai wy.heap.size;rw [fO]at BG⊢;have bY:=ah fB cK;have KQ:=af (cY.out.below cK.out);clear fO cK cY x0 x1 aZ cl cw c0;generalize wy.alloc (.cells #[.slice a1 n1 e1,↑p1,↑q1,↑r1,↑f1] 103)=aA at*;obtain⟨L,⟨ip,G5,zW⟩,hh⟩:=d1;dsimp only at y1 uV lF qb;injection lF with yS xC KR;subst y1;subst qb;subst yS;subst xC;subst KR;have iu:Hid (L.length≤255):=af nj.out.1;have C8:=af uV;have x0:aA.cell? ↑aL=some (.slice a1 L.length e1):=BG.out.cell 0;have eI:=af (xX KQ.out.sl (by have:=g6.out;omega) (L.length:Int));clear uV;go_wp2_with fail
     refine eI.out.mono ?_;rintro e aN ⟨v6,rfl,hr,hb⟩;have b7:=ag bY hb;have fy:=af (BG.out.below hb);have nJ:=af (C8.out.below hb);have cL:Hid (cZ.Row aN w.heap.size v6 (mG V q k++rZ L 0)):=af (hr.base (Nat.le_trans bN.out.size bY.out.size));clear hr hb eI x0 bY KQ BG C8;go_wp2_with fail
     go_loopw [10,6] (fun i bv w'=>∃(m:Nat) (v:Value),i=↑m∧bv=v∧m≤L.length∧cZ.Row w' w.heap.size v (mG V q k++rZ L m)∧Below aN.heap.size aN w') (fun i _ _=>L.length-(RowKit.intOf i).toNat)
     case atStart=>exact⟨0,v6,rfl,rfl,Nat.zero_le _,cL.out,Below.refl _ _⟩
     case round=>
      clear cL;obtain⟨m,v,rfl,rfl,hm,hrow,bQ⟩:=hrel;obtain⟨fU,rfl⟩:=aj wr;have cY:=af hrow;have gi:=af bQ;have x0:fU.cell? ↑aL=some (.slice a1 L.length e1):=(fy.out.below bQ).cell 0;have hlo:=iu.out;have BH:Hid ((rZ L m).length≤6200):=af (Zf iu.out);clear hrow bQ;by_cases sF:m<L.length
      ·have Ni:(m:Int)<(L.length:Int):=by omega
       obtain⟨z,hz⟩:∃z,L[m]? =some z:=⟨_,List.getElem?_eq_getElem sF⟩;have R4:=af (Ze hz);have yT:=nJ.out.below gi.out;obtain⟨aH,nN,he,_,_⟩:=yT.at_ m z hz;injection he with eb _ eS;subst eb;subst eS;obtain⟨l0,l1,l2,_⟩:=HF yT hz;have eI:=af (NQ cY.out.sl (by rw [List.length_append];have:=g6.out;have:=BH.out;omega) z);unfold aB.agg at eI;clear hz yT;go_wp2_with fail
       refine eI.out.mono ?_;rintro e bf ⟨jt,rfl,hr,hb⟩;have dP:=ag gi hb
       have m5:Hid (cZ.Row bf w.heap.size jt (mG V q k++rZ L (m+1))):=af (by
        have:=hr.base (B':=w.heap.size) (Nat.le_trans bN.out.size (Nat.le_trans b7.out.size gi.out.size));rw [R4.out,←List.append_assoc];exact this)
       clear hr hb eI l0 l1 l2 x0;go_wp2_with fail
       go_roundw
       case rel=>exact⟨m+1,jt,by go_num,rfl,sF,m5.out,dP.out⟩
       case measure=>simp [RowKit.intOf];omega
      ·have wm:m=L.length:=by omega
       subst wm;have cw:fU.cell? ⟨aL,4,none⟩=some ↑f1:=(fy.out.below gi.out).cell 4;have dO:=ah b7 gi;cases f1 with
       |true=>
        have uS:=af (fy.out.below gi.out);have eI:=af (xX (cY.out.sl.below (Below.bO fU 1)) (by rw [List.length_append];have:=g6.out;have:=BH.out;omega) 1);go_upto_region 17 with(fail)
        refine cP (S:=fun w'=>w'.cell? ⟨aL,1,none⟩=some ↑p1∧w'.cell? ⟨aL,2,none⟩=some ↑q1∧w'.cell? ⟨aL,3,none⟩=some ↑r1) ⟨uS.out.cell 1,uS.out.cell 2,uS.out.cell 3⟩ fun hHeld=>?_;refine au 0 ?_;refine au 2 ?_;refine au 3 ?_;refine aU 1 fun K hK=>?_;go_simp;refine eI.out.mono ?_;rintro e bf ⟨jt,rfl,hr,hb⟩;have hb2:=(Below.bO fU 1).trans hb;have jx:=af (uS.out.below hb2);have dP:=ag dO hb2;have mE:=af (NQ hr.sl (by rw [List.length_append,List.length_append,List.length_singleton];have:=g6.out;have:=BH.out;omega) ⟨p1,q1,r1⟩);unfold aB.agg at mE;refine hK.out _ _ ⟨jx.out.cell 1,jx.out.cell 2,jx.out.cell 3⟩ (fun hHeld=>?_);clear hK K hr hb hb2 eI uS;refine aU 4 fun K hK=>?_;go_simp;refine mE.out.mono ?_;rintro e bZ ⟨lH,rfl,hr,hb⟩;have qF:=af (jx.out.below hb);have cH:=ag dP hb
        have iT:Hid (cZ.Row bZ w.heap.size lH (mG V q k++mW ⟨L,⟨p1,q1,r1⟩,true⟩)):=af (by
         have:=hr.base (B':=w.heap.size) (Nat.le_trans bN.out.size dP.out.size);rw [show(1:Int) % 256=1 by decide]at this;rw [Zg];simpa only [List.append_assoc]using this)
        refine hK.out _ _ ⟨qF.out.cell 1,qF.out.cell 2,qF.out.cell 3⟩ (fun hHeld=>?_);clear hK K hr hb mE jx dP;refine dY 5 fun K hK=>?_;go_simp;refine hK.out _ _ ?_;clear hK K hHeld x0 cw;go_wp2_with fail
        go_roundw
        case rel=>exact⟨1,lH,by go_num,rfl,cH.out,.inr (.inl ⟨rfl,iT.out⟩)⟩
        case measure=>simp [RowKit.intOf]
       |false=>
        have eI:=af (xX cY.out.sl (by rw [List.length_append];have:=g6.out;have:=BH.out;omega) 0);go_wp2_with fail
        refine eI.out.mono ?_;rintro e bZ ⟨lH,rfl,hr,hb⟩;have cH:=ag dO hb
        have iT:Hid (cZ.Row bZ w.heap.size lH (mG V q k++mW ⟨L,⟨p1,q1,r1⟩,false⟩)):=af (by
         have:=hr.base (B':=w.heap.size) (Nat.le_trans bN.out.size dO.out.size);rw [show(0:Int) % 256=0 by decide]at this;rw [Zh];simpa only [List.append_assoc]using this)
        clear hr hb eI x0 cw;go_wp2_with fail
        go_roundw
        case rel=>exact⟨1,lH,by go_num,rfl,cH.out,.inr (.inl ⟨rfl,iT.out⟩)⟩
        case measure=>simp [RowKit.intOf]
    ·have cY:=af hrow
     clear hrow;have g6:Hid ((mG V q k++mW d1).length≤506146):=af (by rw [List.length_append];have:=gq.out;have:=aip.out;omega);obtain⟨bE,m6,D6,he,fT,cD,hq1,hq2⟩:=(Zk.out.below fB.out).get bz.out;injection he with eb _ eS;subst eb;subst eS;obtain⟨_,⟨a1,n1,e1,⟨p1,q1,r1⟩,f1⟩⟩:=D6;have x0:wy.cell? ⟨bE,k*10+5,none⟩=some (.slice a1 n1 e1):=cD 5 _ rfl;have x1:wy.cell? ⟨bE,k*10+6,none⟩=some ↑p1:=cD 6 _ rfl;have aZ:wy.cell? ⟨bE,k*10+7,none⟩=some ↑q1:=cD 7 _ rfl;have cl:wy.cell? ⟨bE,k*10+8,none⟩=some ↑r1:=cD 8 _ rfl;have cw:wy.cell? ⟨bE,k*10+9,none⟩=some ↑f1:=cD 9 _ rfl;have l7:=hq2;have cK:=af (Below.aI wy (.cells #[.slice a1 n1 e1,↑p1,↑q1,↑r1,↑f1] 103));have BG:Hid (av (wy.alloc (.cells #[.slice a1 n1 e1,↑p1,↑q1,↑r1,↑f1] 103)) wy.heap.size 103 #[.slice a1 n1 e1,↑p1,↑q1,↑r1,↑f1]):=af (av.new _ _ _);obtain⟨y1,uV,lF,qb⟩:=l7.below cK.out;clear cD hq1 hq2 l7;go_upto_region 11 with(fail)
     obtain⟨aL,fO⟩:=ai wy.heap.size;rw [fO]at BG⊢;have bY:=ah fB cK;have KQ:=af (cY.out.below cK.out);clear fO cK cY x0 x1 aZ cl cw c0;generalize wy.alloc (.cells #[.slice a1 n1 e1,↑p1,↑q1,↑r1,↑f1] 103)=aA at*;obtain⟨L,⟨ip,G5,zW⟩,hh⟩:=d2;dsimp only at y1 uV lF qb;injection lF with yS xC KR;subst y1;subst qb;subst yS;subst xC;subst KR;have iu:Hid (L.length≤255):=af nj.out.2;have C8:=af uV;have x0:aA.cell? ↑aL=some (.slice a1 L.length e1):=BG.out.cell 0;have eI:=af (xX KQ.out.sl (by have:=g6.out;omega) (L.length:Int));clear uV;go_wp2_with fail
     refine eI.out.mono ?_;rintro e aN ⟨v6,rfl,hr,hb⟩;have b7:=ag bY hb;have fy:=af (BG.out.below hb);have nJ:=af (C8.out.below hb);have cL:Hid (cZ.Row aN w.heap.size v6 (mG V q k++mW d1++rZ L 0)):=af (hr.base (Nat.le_trans bN.out.size bY.out.size));clear hr hb eI x0 bY KQ BG C8;go_wp2_with fail
     go_loopw [10,6] (fun i bv w'=>∃(m:Nat) (v:Value),i=↑m∧bv=v∧m≤L.length∧cZ.Row w' w.heap.size v (mG V q k++mW d1++rZ L m)∧Below aN.heap.size aN w') (fun i _ _=>L.length-(RowKit.intOf i).toNat)
     case atStart=>exact⟨0,v6,rfl,rfl,Nat.zero_le _,cL.out,Below.refl _ _⟩
     case round=>
      clear cL;obtain⟨m,v,rfl,rfl,hm,hrow,bQ⟩:=hrel;obtain⟨fU,rfl⟩:=aj wr;have cY:=af hrow;have gi:=af bQ;have x0:fU.cell? ↑aL=some (.slice a1 L.length e1):=(fy.out.below bQ).cell 0;have hlo:=iu.out;have BH:Hid ((rZ L m).length≤6200):=af (Zf iu.out);clear hrow bQ;by_cases sF:m<L.length
      ·have Ni:(m:Int)<(L.length:Int):=by omega
       obtain⟨z,hz⟩:∃z,L[m]? =some z:=⟨_,List.getElem?_eq_getElem sF⟩;have R4:=af (Ze hz);have yT:=nJ.out.below gi.out;obtain⟨aH,nN,he,_,_⟩:=yT.at_ m z hz;injection he with eb _ eS;subst eb;subst eS;obtain⟨l0,l1,l2,_⟩:=HF yT hz;have eI:=af (NQ cY.out.sl (by rw [List.length_append];have:=g6.out;have:=BH.out;omega) z);unfold aB.agg at eI;clear hz yT;go_wp2_with fail
       refine eI.out.mono ?_;rintro e bf ⟨jt,rfl,hr,hb⟩;have dP:=ag gi hb
       have m5:Hid (cZ.Row bf w.heap.size jt (mG V q k++mW d1++rZ L (m+1))):=af (by
        have:=hr.base (B':=w.heap.size) (Nat.le_trans bN.out.size (Nat.le_trans b7.out.size gi.out.size));rw [R4.out,←List.append_assoc];exact this)
       clear hr hb eI l0 l1 l2 x0;go_wp2_with fail
       go_roundw
       case rel=>exact⟨m+1,jt,by go_num,rfl,sF,m5.out,dP.out⟩
       case measure=>simp [RowKit.intOf];omega
      ·have wm:m=L.length:=by omega
       subst wm;have cw:fU.cell? ⟨aL,4,none⟩=some ↑f1:=(fy.out.below gi.out).cell 4;have dO:=ah b7 gi;cases f1 with
       |true=>
        have uS:=af (fy.out.below gi.out);have eI:=af (xX (cY.out.sl.below (Below.bO fU 1)) (by rw [List.length_append];have:=g6.out;have:=BH.out;omega) 1);go_upto_region 17 with(fail)
        refine cP (S:=fun w'=>w'.cell? ⟨aL,1,none⟩=some ↑p1∧w'.cell? ⟨aL,2,none⟩=some ↑q1∧w'.cell? ⟨aL,3,none⟩=some ↑r1) ⟨uS.out.cell 1,uS.out.cell 2,uS.out.cell 3⟩ fun hHeld=>?_;refine au 0 ?_;refine au 2 ?_;refine au 3 ?_;refine aU 1 fun K hK=>?_;go_simp;refine eI.out.mono ?_;rintro e bf ⟨jt,rfl,hr,hb⟩;have hb2:=(Below.bO fU 1).trans hb;have jx:=af (uS.out.below hb2);have dP:=ag dO hb2;have mE:=af (NQ hr.sl (by rw [List.length_append,List.length_append,List.length_singleton];have:=g6.out;have:=BH.out;omega) ⟨p1,q1,r1⟩);unfold aB.agg at mE;refine hK.out _ _ ⟨jx.out.cell 1,jx.out.cell 2,jx.out.cell 3⟩ (fun hHeld=>?_);clear hK K hr hb hb2 eI uS;refine aU 4 fun K hK=>?_;go_simp;refine mE.out.mono ?_;rintro e bZ ⟨lH,rfl,hr,hb⟩;have qF:=af (jx.out.below hb);have cH:=ag dP hb
        have iT:Hid (cZ.Row bZ w.heap.size lH (mG V q (k+1))):=af (by
         have:=hr.base (B':=w.heap.size) (Nat.le_trans bN.out.size dP.out.size);rw [show(1:Int) % 256=1 by decide]at this;rw [gG.out,Zg];simpa only [List.append_assoc]using this)
        refine hK.out _ _ ⟨qF.out.cell 1,qF.out.cell 2,qF.out.cell 3⟩ (fun hHeld=>?_);clear hK K hr hb mE jx dP;refine dY 5 fun K hK=>?_;go_simp;refine hK.out _ _ ?_;clear hK K hHeld x0 cw;go_wp2_with fail
        go_roundw
        case rel=>exact⟨2,lH,by go_num,rfl,cH.out,.inr (.inr ⟨rfl,iT.out⟩)⟩
        case measure=>simp [RowKit.intOf]
       |false=>
        have eI:=af (xX cY.out.sl (by rw [List.length_append];have:=g6.out;have:=BH.out;omega) 0);go_wp2_with fail
        refine eI.out.mono ?_;rintro e bZ ⟨lH,rfl,hr,hb⟩;have cH:=ag dO hb
        have iT:Hid (cZ.Row bZ w.heap.size lH (mG V q (k+1))):=af (by
         have:=hr.base (B':=w.heap.size) (Nat.le_trans bN.out.size dO.out.size);rw [show(0:Int) % 256=0 by decide]at this;rw [gG.out,Zh];simpa only [List.append_assoc]using this)
        clear hr hb eI x0 cw;go_wp2_with fail
        go_roundw
        case rel=>exact⟨2,lH,by go_num,rfl,cH.out,.inr (.inr ⟨rfl,iT.out⟩)⟩
        case measure=>simp [RowKit.intOf]
    ·have cY:=af hrow
     clear hrow c0;go_wp2_with fail
     go_roundw
     case rel=>exact⟨k+1,_,by go_num,rfl,hlt,cY.out,fB.out⟩
     case measure=>simp [RowKit.intOf];omega
  ·have eR:k=V.length:=by omega
   have bR:Hid (mG V q k=r0 V q):=af (by unfold mG r0;rw [eR,List.take_length]);have gq:Hid ((mG V q k).length≤500000):=af (Zd dQ.out hl);rw [bR.out]at cY gq;have cH:=ah bN fZ;have Ck:=af (ada cY.out.sl (by have:=gq.out;omega) (Zl V q));obtain⟨jb,KD⟩:=ai (rB (r0 V q));have aiq:Hid (qJ jb):=af (by rw [←KD];exact Gd _ _ _);have air:=af KD;rw [KD]at Ck;have w0:IntKind.u8.wrap jb=jb % 256:=IntKind.wrap_u8 _;have ana:IntKind.u8.wrap (jb / 256)=jb / 256 % 256:=IntKind.wrap_u8 _;have anb:IntKind.u8.wrap (jb / 65536)=jb / 65536 % 256:=IntKind.wrap_u8 _;have anc:IntKind.u8.wrap (jb / 16777216)=jb / 16777216 % 256:=IntKind.wrap_u8 _;have Zm:=aiq.out;have si:0≤jb:=Zm.1;have ane:jb.fdiv 256=jb / 256:=Int.fdiv_eq_ediv_of_nonneg jb (by decide);have anf:jb.fdiv 65536=jb / 65536:=Int.fdiv_eq_ediv_of_nonneg jb (by decide);have ang:jb.fdiv 16777216=jb / 16777216:=Int.fdiv_eq_ediv_of_nonneg jb (by decide);obtain⟨va,vc,gU⟩:=cY.out.form;subst gU;clear eR KD Zm;go_wp2_with fail
   refine Ck.out.mono ?_;rintro e aN ⟨rfl,rfl⟩;clear Ck;have hba:=Below.aI ax (.cells #[.int .u8 (jb % 256),.int .u8 (jb / 256 % 256),.int .u8 (jb / 65536 % 256),.int .u8 (jb / 16777216 % 256)] 5);have c8:Hid (av (ax.alloc (.cells #[.int .u8 (jb % 256),.int .u8 (jb / 256 % 256),.int .u8 (jb / 65536 % 256),.int .u8 (jb / 16777216 % 256)] 5)) ax.heap.size 5 #[.int .u8 (jb % 256),.int .u8 (jb / 256 % 256),.int .u8 (jb / 65536 % 256),.int .u8 (jb / 16777216 % 256)]):=af (av.new _ _ _)
   have om:Hid (cZ.fR (ax.alloc (.cells #[.int .u8 (jb % 256),.int .u8 (jb / 256 % 256),.int .u8 (jb / 65536 % 256),.int .u8 (jb / 16777216 % 256)] 5)) ↑ax.heap.size (r3 jb)):=af (by
    intro j e hj;refine⟨ax.heap.size,0,rfl,c8.out.lt,?_⟩;intro m u hu
    have hm:m=0:=by
     have:m<1:=dM hu;omega
    subst hm;have ais:u= .int .u8 e:=by injection hu with hu;exact hu.symm
    subst ais;have hc:=c8.out.cell (0+j*1+0);rw [show 0+j*cZ.m+0=0+j*1+0 from rfl,hc];have ait:j<4:=dM hj
    match j,ait,hj with
    |0,_,hj=>injection hj with hj;subst hj;rfl
    |1,_,hj=>injection hj with hj;subst hj;rfl
    |2,_,hj=>injection hj with hj;subst hj;rfl
    |3,_,hj=>injection hj with hj;subst hj;rfl)
   have R5:=af (cY.out.below hba);have R6:=ag cH hba;clear hba
   go_wp2_with (first
    |(at_builtin;go_loud (refine cZ.wV rfl (.tmp 69) (.tmp 81) rfl w.heap.size (.slice va (r0 V q).length vc) (r0 V q) rfl R5.out (some ⟨ax.heap.size,0,none⟩) 4 (r3 jb) rfl (fun h=>by cases h) om.out (fun ad h=>⟨ax.heap.size,0,by injection h with h;exact h.symm⟩) (by have:=gq.out;show(r0 V q).length+4≤1000000;omega) R6.out.size ?_)))
   intro v' bf lQ er _;have m5:=af lQ;have dP:=af (iJ er R6.out (cS R5.out));clear lQ er R5 R6 om c8;go_wp2_with fail
   go_ret2
   refine⟨v',rfl,?_,dP.out⟩;have:=m5.out;rw [←air.out]at this;exact this
end
theorem fA.afF {W w:World} {pv n:Nat} {hv:Value} {s:ig} (h:fA W w pv n hv s) {g:Nat} {t:TypeId} (hg:ck w g t) (h1:t≠90) (h2:t≠hH.t):¬wo pv hv g:=by
 obtain⟨a,c,hb,_⟩:=h.box;rintro(e|e)
 ·exact hg.ne hb.aE h1 e
 ·exact hg.ne (eo h.held g e) h2 rfl
def kA:aF:=⟨1,0,1,5,3,1,false⟩
def kB:aF:=⟨2,0,1,10,3,1,false⟩
theorem afG:pg (fL kA)=some kA:=Nj ⟨by unfold eB kA;decide,by unfold kA;decide,by unfold eB kA;decide,by unfold eB kA;decide,by unfold eB kA;decide⟩ (.inl rfl)
theorem afH:pg (fL kB)=some kB:=Nj ⟨by unfold eB kB;decide,by unfold kB;decide,by unfold eB kB;decide,by unfold eB kB;decide,by unfold eB kB;decide⟩ (.inl rfl)
theorem Xm:iF 6 (rM 6) (fL kB)=(32,⟨(rM 6).V,0,[kB]⟩):=by
 unfold iF;rw [afH];rfl
def w7:bG:=gm kB (gm kA (rM 6).V)
theorem afI:iF 6 ⟨(rM 6).V,0,[kB]⟩ (fL kA)=(0,⟨w7,2,[]⟩):=by
 unfold iF;rw [afG];rfl
theorem QF:w7.length=6:=by unfold w7;rw [CK,CK];rfl
theorem afJ:∃d1 d2,w7[0]? =some (d1,d2)∧d1.lv.length=2:=⟨_,_,rfl,by decide+kernel⟩
theorem afK (w:World):Calls Tryz.prog 18 #[] w fun e w'=>e= .returned (.bool true)∧Below w.heap.size w w':=by
 have amr:∀(w:World) (a:Option Addr) (c:Nat),(Instr.field 43 (.agg #[.slice a 6 c]) 0).run Tryz.prog w= .ok (.slice a 6 c) w:=fun _ _ _=>by kernel_rfl
 go_enter Tryz.func18,Tryz.ntmps18
 go_wp2_with fail
 refine(afL 1 w).mono ?_;rintro e w1 ⟨a,b,rfl,hp,hb⟩;have hz:cR (oO 1 a b)=0:=afM 1 (by decide) a b;have uI:nR (oO 1 a b).months.length=6:=by show nR 3=6;decide
 have hba:=Below.aI w1 (.cells (oO 1 a b).cells 25);have HN:=af (Xn (oO 1 a b) _ (hp.below hba) hz);rw [uI]at HN;have bA:=af (hb.trans (hba.mono hb.size));unfold Prod.agg Prod.cells oO at*;dsimp only at*;clear hp hz uI hba hb;go_wp2_with fail
 refine HN.out.mono ?_;rintro e w2 ⟨pv,rfl,kf⟩;have ot:=af kf;clear HN kf;generalize w1.alloc _=ams at*;go_wp2_with fail
 have Bj:=QG kA w2 (by decide) (.inl rfl);unfold aF.agg kA at Bj;refine Bj.mono ?_;rintro e w3 ⟨va,rfl,EN,hb3⟩;have mb:=af (ot.out.below hb3);have Xo:=af (show cZ.Row w3 w2.heap.size va (fL kA)from EN);clear Bj EN hb3 ot;go_wp2_with fail
 have Bj:=QG kB w3 (by decide) (.inl rfl);unfold aF.agg kB at Bj;refine Bj.mono ?_;rintro e az ⟨vb,rfl,hrb,hb4⟩;have tI:=af (mb.out.below hb4);have Xp:=af (Xo.out.below hb4);have uJ:=af (show cZ.Row az w3.heap.size vb (fL kB)from hrb);clear Bj hrb hb4 mb Xo;have ht:=Nk tI.out (QH 6) List.Pairwise.nil (by decide) (Nat.zero_le _) uJ.out.sl (by rw [Nl];decide) (EO kB);rw [Xm]at ht;have bP:=af ht;have QI:=EP (b:=fL kB) (EO kB) (QH 6);rw [Xm]at QI;have Xq:Hid (pL 6 1 ⟨(rM 6).V,0,[kB]⟩):=af QI;clear ht QI;go_wp2_with fail
 refine bP.out.mono ?_;rintro e aA ⟨rfl,hM,Xr,ja,Nm⟩;have nr:=af Xr;have Xs:=af (Xp.out.keep ja (fun g hg=>tI.out.afF hg (by decide) (by decide)));clear bP Xr ja Nm tI Xp uJ;have sq:=af (Nn nr.out);go_wp2_with fail
 refine sq.out.mono ?_;rintro e aN ⟨rfl,rfl⟩;clear sq;have ht:=Nk nr.out Xq.out (by simp [sG]) (by decide) (by decide) Xs.out.sl (by rw [Nl];decide) (EO kA);rw [afI]at ht;have bP:=af ht;clear ht;go_wp2_with fail
 refine bP.out.mono ?_;rintro e bf ⟨rfl,pH,G7,kE,DT⟩;have k3:=af G7
 have nC:Hid (fX w7 800000):=af (by
  have h1:fX (rM 6).V 0:=by
   intro p hp;have:=List.eq_of_mem_replicate hp;subst this;exact⟨Nat.le_refl _,Nat.le_refl _⟩
  exact(GY (GY h1)).more (by decide))
 clear bP G7 kE DT nr Xs Xq;have sq:=af (Nn k3.out);go_wp2_with fail
 refine sq.out.mono ?_;rintro e bZ ⟨rfl,rfl⟩;clear sq;have Xt:=af (Np k3.out);go_wp2_with fail
 refine Xt.out.mono ?_;rintro e bZ ⟨rfl,rfl⟩;clear Xt;have Bk:=af (Nq k3.out (by show w7.length≤255;rw [QF];decide) nC.out (Nat.le_refl _));go_wp2_with fail
 refine Bk.out.mono ?_;rintro e bZ ⟨lH,rfl,Xu,mH⟩;obtain⟨a8,iC,rfl⟩:=Xu.form;have F4:(ig.V ⟨w7,2,[]⟩).length=6:=QF;rw [F4];have uK:=af (k3.out.below mH);clear Bk k3 Xu mH;have Bk:=af (Nq uK.out (by show w7.length≤255;rw [QF];decide) nC.out (Nat.le_refl _));go_wp2_with fail
 refine Bk.out.mono ?_;rintro e bW ⟨v9,rfl,Xv,gD⟩;have kL:=af (uK.out.below gD).aJ;obtain⟨d1,d2,iQ,hd1⟩:=afJ;obtain⟨g,cap,p,gU,dr,cD,hq1,hq2⟩:=Xv.get (x:=(d1,d2)) iQ;subst gU;rw [F4];have hn:p.s.n=2:=by rw [hq1.n];exact hd1
 have x0:bW.cell? ↑g=some (.slice p.s.a 2 p.s.c):=by
  have:=cD 0 _ rfl;rw [hn]at this;exact this
 clear Bk uK Xv gD cD hq1 hq2 iQ hd1 hn F4;go_wp2_with fail
 go_ret;exact⟨by trivial,bA.out.trans (kL.out.mono bA.out.size)⟩
end Go.Proofs.YtmaijkoopjocdaaGreat
