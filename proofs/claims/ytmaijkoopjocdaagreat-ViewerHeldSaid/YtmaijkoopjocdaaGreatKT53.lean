import Derived.Test.YtmaijkoopjocdaaGreatKT27
import Derived.Test.YtmaijkoopjocdaaGreatKT49
set_option maxRecDepth 100000
set_option maxHeartbeats 64000000
namespace Go.Proofs.YtmaijkoopjocdaaGreat
open Go.RowKit Go.Lib
theorem fq.acY {W w:World} {pv n:Nat} {hv:Value} {s:jn} (h:fq W w pv n hv s) {g:Nat} {t:TypeId} (hg:bV w g t) (h1:t≠90) (h2:t≠gb.t):¬yf pv hv g:=by
 obtain⟨a,c,hb,_⟩:=h.box;rintro(e|e)
 ·exact hg.ne hb.aC h1 e
 ·exact hg.ne (dR h.held g e) h2 rfl
def kA:aB:=⟨1,0,1,5,3,1,false⟩
def kB:aB:=⟨2,0,1,10,3,1,false⟩
theorem acZ:ol (j6 kA)=some kA:=Lw ⟨by unfold eD kA;decide,by unfold kA;decide,by unfold eD kA;decide,by unfold eD kA;decide,by unfold eD kA;decide⟩ (.inl rfl)
theorem ac0:ol (j6 kB)=some kB:=Lw ⟨by unfold eD kB;decide,by unfold kB;decide,by unfold eD kB;decide,by unfold eD kB;decide,by unfold eD kB;decide⟩ (.inl rfl)
theorem Vt:rS 6 (qY 6) (j6 kB)=(32,⟨(qY 6).V,0,[kB]⟩):=by
 unfold rS;rw [ac0];rfl
def uY:bP:=fO kB (fO kA (qY 6).V)
theorem ac1:rS 6 ⟨(qY 6).V,0,[kB]⟩ (j6 kA)=(0,⟨uY,2,[]⟩):=by
 unfold rS;rw [acZ];rfl
theorem Pb:uY.length=6:=by unfold uY;rw [A2,A2];rfl
theorem ac2:∃d1 d2,uY[0]? =some (d1,d2)∧d1.lv.length=2:=⟨_,_,rfl,by decide+kernel⟩
theorem ac3 (w:World):Calls Tryz.prog 18 #[] w fun e w'=>e= .returned (.bool true)∧Below w.heap.size w w':=by
 have aiJ:∀(w:World) (a:Option Addr) (c:Nat),(Instr.field 43 (.agg #[.slice a 6 c]) 0).run Tryz.prog w= .ok (.slice a 6 c) w:=fun _ _ _=>by kernel_rfl
 go_enter Tryz.func18,Tryz.ntmps18
 go_wp2_with fail
 refine(ac4 1 w).mono ?_;rintro e w1 ⟨a,b,rfl,hp,hb⟩;have hz:cz (nT 1 a b)=0:=ac5 1 (by decide) a b;have sQ:mZ (nT 1 a b).months.length=6:=by show mZ 3=6;decide
 have hba:=Below.aA w1 (.cells (nT 1 a b).cells 25);have HN:=af (Vu (nT 1 a b) _ (hp.below hba) hz);rw [sQ]at HN;have bD:=af (hb.trans (hba.mono hb.size));unfold Prod.agg Prod.cells nT at*;dsimp only at*;clear hp hz sQ hba hb;go_wp2_with fail
 refine HN.out.mono ?_;rintro e w2 ⟨pv,rfl,jq⟩;have p4:=af jq;clear HN jq;generalize w1.alloc _=aiK at*;go_wp2_with fail
 have C2:=Pc kA w2 (by decide) (.inl rfl);unfold aB.agg kA at C2;refine C2.mono ?_;rintro e w3 ⟨va,rfl,C3,hb3⟩;have mo:=af (p4.out.below hb3);have Vv:=af (show e9.Row w3 w2.heap.size va (j6 kA)from C3);clear C2 C3 hb3 p4;go_wp2_with fail
 have C2:=Pc kB w3 (by decide) (.inl rfl);unfold aB.agg kB at C2;refine C2.mono ?_;rintro e av ⟨vb,rfl,hrb,hb4⟩;have rT:=af (mo.out.below hb4);have Vw:=af (Vv.out.below hb4);have wL:=af (show e9.Row av w3.heap.size vb (j6 kB)from hrb);clear C2 hrb hb4 mo Vv;have ht:=Lx rT.out (Pd 6) List.Pairwise.nil (by decide) (Nat.zero_le _) wL.out.sl (by rw [Ly];decide) (C4 kB);rw [Vt]at ht;have bK:=af ht;have Pe:=C5 (b:=j6 kB) (C4 kB) (Pd 6);rw [Vt]at Pe;have Vx:Hid (qC 6 1 ⟨(qY 6).V,0,[kB]⟩):=af Pe;clear ht Pe;go_wp2_with fail
 refine bK.out.mono ?_;rintro e au ⟨rfl,iA,C6,nS,LA⟩;have oF:=af C6;have Vy:=af (Vw.out.keep nS (fun g hg=>rT.out.acY hg (by decide) (by decide)));clear bK C6 nS LA rT Vw wL;have tL:=af (Pf oF.out);go_wp2_with fail
 refine tL.out.mono ?_;rintro e aK ⟨rfl,rfl⟩;clear tL;have ht:=Lx oF.out Vx.out (by simp [u9]) (by decide) (by decide) Vy.out.sl (by rw [Ly];decide) (C4 kA);rw [ac1]at ht;have bK:=af ht;clear ht;go_wp2_with fail
 refine bK.out.mono ?_;rintro e bw ⟨rfl,pU,Vz,jI,B2⟩;have mj:=af Vz
 have mD:Hid (g7 uY 800000):=af (by
  have h1:g7 (qY 6).V 0:=by
   intro p hp;have:=List.eq_of_mem_replicate hp;subst this;exact⟨Nat.le_refl _,Nat.le_refl _⟩
  exact(Fb (Fb h1)).more (by decide))
 clear bK Vz jI B2 oF Vy Vx;have tL:=af (Pf mj.out);go_wp2_with fail
 refine tL.out.mono ?_;rintro e bW ⟨rfl,rfl⟩;clear tL;have VA:=af (VB mj.out);go_wp2_with fail
 refine VA.out.mono ?_;rintro e bW ⟨rfl,rfl⟩;clear VA;have C7:=af (LB mj.out (by show uY.length≤255;rw [Pb];decide) mD.out (Nat.le_refl _));go_wp2_with fail
 refine C7.out.mono ?_;rintro e bW ⟨qz,rfl,VC,jv⟩;obtain⟨a8,iC,rfl⟩:=VC.form;have D6:(jn.V ⟨uY,2,[]⟩).length=6:=Pb;rw [D6];have C8:=af (mj.out.below jv);clear C7 mj VC jv;have C7:=af (LB C8.out (by show uY.length≤255;rw [Pb];decide) mD.out (Nat.le_refl _));go_wp2_with fail
 refine C7.out.mono ?_;rintro e bG ⟨v9,rfl,VD,fR⟩;have kJ:=af (C8.out.below fR).aF;obtain⟨d1,d2,jR,hd1⟩:=ac2;obtain⟨g,cap,p,iN,c6,eX,hq1,hq2⟩:=VD.get (x:=(d1,d2)) jR;subst iN;rw [D6];have hn:p.s.n=2:=by rw [hq1.n];exact hd1
 have x0:bG.cell? ⟨g,0,none⟩=some (.slice p.s.a 2 p.s.c):=by
  have:=eX 0 _ rfl;rw [hn]at this;exact this
 clear C7 C8 VD fR eX hq1 hq2 jR hd1 hn D6;go_wp2_with fail
 go_ret;exact⟨by trivial,bD.out.trans (kJ.out.mono bD.out.size)⟩
end Go.Proofs.YtmaijkoopjocdaaGreat
