import Derived.Test.YtmaijkoopjocdaaGreatKT07
import Derived.Test.YtmaijkoopjocdaaGreatKT09
set_option maxRecDepth 100000
set_option maxHeartbeats 64000000
namespace Go.Proofs.YtmaijkoopjocdaaGreat
open Go.RowKit Go.Lib
def eI.own (s:eI):Option Nat:=(Value.slice s.a s.n s.c).ownBlock
def bz.sh (p:bz) (s:Nat):eI:=if s=0 then p.s else p.t
def Gn (P:List bz) (t:Nat):Prop:=∀(j j' s s':Nat) (p p':bz) (g:Nat),P[j]? =some p→P[j']? =some p'→s<2→s'<2→2*j+s<t→2*j'+s'<t→2*j+s≠2*j'+s'→(p.sh s).own=some g→(p'.sh s').own≠some g
def D7 (w:World) (B:Nat) (v:Value) (V:bP):Prop:=
 ∃P:List bz,ei.Row w B v P∧P.length=V.length∧(∀(j:Nat) (p:bz) (x:aV×aV),P[j]? =some p→V[j]? =some x→bN bL w B p.s x.1∧bN bL w B p.t x.2)∧Gn P (2*V.length)
theorem D7.fG {w:World} {B:Nat} {v:Value} {V:bP} (h:D7 w B v V):cl ei bL w B v V:=by
 obtain⟨P,h1,h2,h3,_⟩:=h;exact⟨P,h1,h2,h3⟩
structure pL (W w:World) (aG gr:Nat) (v:Value) (V:bP) (n k:Nat):Prop where
 box:aj w aG 43 #[v]
 res:aj w gr 43 #[.slice none 0 0]
 row:∃P:List bz,ei.Row w W.heap.size v P∧P.length=V.length∧(∀(j:Nat) (p:bz) (x:aV×aV),P[j]? =some p→V[j]? =some x→bN bL w (if j<n∨j=n∧0<k then W.heap.size else 0) p.s x.1∧bN bL w (if j<n∨j=n∧1<k then W.heap.size else 0) p.t x.2)∧Gn P (2*n+k)
 aF:Below W.heap.size W w
 ah9:W.heap.size≤aG
 Ng:W.heap.size≤gr
section
variable {W w w':World} {aG gr:Nat} {v:Value} {V:bP} {n k:Nat}
theorem pL.form (h:pL W w aG gr v V n k):∃a c,v= .slice a V.length c:=by
 obtain⟨P,h1,h2,_⟩:=h.row;obtain⟨a,c,e⟩:=h1.form;exact⟨a,c,by rw [e,h2]⟩
theorem pL.next (h:pL W w aG gr v V n 2):pL W w aG gr v V (n+1) 0:=by
 obtain⟨h1,h2,⟨P,h3,h4,h5,h9⟩,h6,h7,h8⟩:=h;refine⟨h1,h2,⟨P,h3,h4,fun j p x hp hx=>?_,by rw [show 2*(n+1)+0=2*n+2 by omega];exact h9⟩,h6,h7,h8⟩;have:=h5 j p x hp hx;have e1:(j<n∨j=n∧0<2)=(j<n+1∨j=n+1∧0<0):=by simp;omega
 have e2:(j<n∨j=n∧1<2)=(j<n+1∨j=n+1∧1<0):=by simp;omega
 simp only [e1,e2]at this;exact this
theorem pL.below (h:pL W w aG gr v V n k) (hb:Below w.heap.size w w'):pL W w' aG gr v V n k:=by
 obtain⟨h1,h2,⟨P,h3,h4,h5,h9⟩,h6,h7,h8⟩:=h;exact⟨h1.below hb,h2.below hb,⟨P,h3.below hb,h4,fun j p x hp hx=>⟨(h5 j p x hp hx).1.below hb,(h5 j p x hp hx).2.below hb⟩,h9⟩,h6.trans (hb.mono h6.size),h7,h8⟩
theorem aY.Row.cm {α:Type} {Y:aY α} {B:Nat} {u:Value} {L:List α} (h:Y.Row w B u L) {g:Nat} {t:TypeId} (ht:bV w g t) (hne:Y.t≠t) (i:Nat) (x:Value):Y.Row (w.setCell ⟨g,i,none⟩ x) B u L:=
 xK h (bS w g i x) fun k hk e=>(dR h k hk).ne ht hne e
theorem bN.cm {Y:aY ax} {B:Nat} {s:eI} {d:aV} (h:bN Y w B s d) {g:Nat} {t:TypeId} (ht:bV w g t) (hne:Y.t≠t) (i:Nat) (x:Value):bN Y (w.setCell ⟨g,i,none⟩ x) B s d:=⟨h.n,h.row.cm ht hne i x,h.im,h.has⟩
theorem pL.store {w0:World} {go cap:Nat} {x:aV×aV} {a1:Option Addr} {c1:Nat} (h0:pL W w0 aG gr (.slice (some ⟨go,0,none⟩) V.length cap) V n k) (hb:Below w0.heap.size w0 w) (hx:V[n]? =some x) (hk:k<2)
 (yV:bL.Row w w0.heap.size (.slice a1 (if k=0 then x.1 else x.2).lv.length c1) (if k=0 then x.1 else x.2).lv):
 pL W (w.setCell ⟨go,n*10+k*5,none⟩ (.slice a1 (if k=0 then x.1 else x.2).lv.length c1)) aG gr (.slice (some ⟨go,0,none⟩) V.length cap) V n (k+1):=by
 have hr:=yV.base (B':=W.heap.size) h0.aF.size;obtain⟨g1,g2,⟨P,aO,gj,bg,h9⟩,pM,h7,h8⟩:=h0
 have hfr:∀(j s:Nat) (q:bz) (g:Nat),P[j]? =some q→s<2→(q.sh s).own=some g→g<w0.heap.size:=by
  intro j s q g hq hs hg;have hjl:=dc hq;obtain⟨y,hy⟩:∃y,V[j]? =some y:=⟨_,List.getElem?_eq_getElem (by omega)⟩;have:=bg j q y hq hy;unfold bz.sh at hg;split at hg
  ·exact jH this.1.row g (by have e:=this.1.n;unfold eI.own at hg;exact hg)
  ·exact jH this.2.row g (by unfold eI.own at hg;exact hg)
 have hnf:∀g,(Value.slice a1 (if k=0 then x.1 else x.2).lv.length c1).ownBlock=some g→w0.heap.size≤g:=cx yV;have h1:=g1.below hb;have h2:=g2.below hb;have h3:=aO.below hb;have h4:=gj;have h5:∀(j:Nat) (p:bz) (x:aV×aV),P[j]? =some p→V[j]? =some x→bN bL w (if j<n∨j=n∧0<k then W.heap.size else 0) p.s x.1∧bN bL w (if j<n∨j=n∧1<k then W.heap.size else 0) p.t x.2:=fun j p x hp hx=>⟨(bg j p x hp hx).1.below hb,(bg j p x hp hx).2.below hb⟩;have h6:=pM.trans (hb.mono pM.size);clear g1 g2 aO gj bg pM;have hn:=dc hx;obtain⟨p,hp⟩:∃p,P[n]? =some p:=⟨_,List.getElem?_eq_getElem (by omega)⟩;have qd:bV w go ei.t:=dR h3 go rfl;have nt:W.heap.size≤go:=cx h3 go rfl;have qj:=h5 n p x hp hx;have hb1:=h1.cm (p:=⟨go,n*10+k*5,none⟩) (h1.aC.ne qd (by decide)) (.slice a1 (if k=0 then x.1 else x.2).lv.length c1);have hb2:=h2.cm (p:=⟨go,n*10+k*5,none⟩) (h2.aC.ne qd (by decide)) (.slice a1 (if k=0 then x.1 else x.2).lv.length c1);have er:=h6.setCell (p:=⟨go,n*10+k*5,none⟩) nt (.slice a1 (if k=0 then x.1 else x.2).lv.length c1)
 have B0:∀(j:Nat) (q q':bz),(P.set n q)[j]? =some q'→(j=n∧q'=q)∨(j≠n∧P[j]? =some q'):=by
  intro j q q' h;rw [List.getElem?_set]at h;split at h
  ·rename_i e
   split at h
   ·injection h with h;exact .inl ⟨e.symm,h.symm⟩
   ·cases h
  ·rename_i e;exact .inr ⟨fun e'=>e e'.symm,h⟩
 have hap:∀(p':bz),(p'.sh k).own=(Value.slice a1 (if k=0 then x.1 else x.2).lv.length c1).ownBlock→(∀s,s<2→s≠k→p'.sh s=p.sh s)→Gn (P.set n p') (2*n+(k+1)):=by
  intro p' e1 e2 j j' s s' q q' g hq vP hs hs' ht ht' hne hg hg'
  have hold:∀(j s:Nat) (q:bz) (g:Nat),(P.set n p')[j]? =some q→s<2→(q.sh s).own=some g→(j=n∧s=k)∨(∃q0,P[j]? =some q0∧(q0.sh s).own=some g):=by
   intro j s q g hq hs hg;rcases B0 j _ q hq with⟨rfl,rfl⟩|⟨_,hq⟩
   ·by_cases kD:s=k
    ·exact .inl ⟨rfl,kD⟩
    ·exact .inr ⟨p,hp,by rw [←e2 s hs kD];exact hg⟩
   ·exact .inr ⟨q,hq,hg⟩
  rcases hold j s q g hq hs hg with⟨rfl,rfl⟩|⟨q0,Nh,a2⟩
  ·rcases hold j' s' q' g vP hs' hg' with⟨rfl,rfl⟩|⟨q1,b1,b2⟩
   ·exact hne rfl
   ·rcases B0 j _ q hq with⟨_,rfl⟩|⟨hx,_⟩
    ·have:=hnf g (by rw [←e1];exact hg);have:=hfr j' s' q1 g b1 hs' b2;omega
    ·exact hx rfl
  ·rcases hold j' s' q' g vP hs' hg' with⟨rfl,rfl⟩|⟨q1,b1,b2⟩
   ·rcases B0 j' _ q' vP with⟨_,rfl⟩|⟨hx,_⟩
    ·have:=hnf g (by rw [←e1];exact hg');have:=hfr j s q0 g Nh hs a2;omega
    ·exact hx rfl
   ·by_cases oV:2*j+s<2*n+k
    ·by_cases aav:2*j'+s'<2*n+k
     ·exact h9 j j' s s' q0 q1 g Nh b1 hs hs' oV aav hne a2 b2
     ·have bE:j'=n∧s'=k:=by omega
      obtain⟨rfl,rfl⟩:=bE;rcases B0 j' _ q' vP with⟨_,rfl⟩|⟨hx,_⟩
      ·have:=hnf g (by rw [←e1];exact hg');have:=hfr j s q0 g Nh hs a2;omega
      ·exact hx rfl
    ·have bE:j=n∧s=k:=by omega
     obtain⟨rfl,rfl⟩:=bE;rcases B0 j _ q hq with⟨_,rfl⟩|⟨hx,_⟩
     ·have:=hnf g (by rw [←e1];exact hg);have:=hfr j' s' q1 g b1 hs' b2;omega
     ·exact hx rfl
 rcases(show k=0∨k=1 by omega)with rfl|rfl
 ·simp only [if_true]at hap
  simp only [if_true]at hr hb1 hb2 er⊢;rw [show n*10+0*5=n*10+0 by omega]at hb1 hb2 er⊢;have hst:=h3.aQ (e':=⟨⟨a1,x.1.lv.length,c1,p.s.im,p.s.has⟩,p.t⟩) (k:=0) (u:= .slice a1 x.1.lv.length c1) hp (by decide) rfl;refine⟨hb1,hb2,⟨_,hst,by rw [List.length_set];exact h4,fun j q y hq hy=>?_,hap _ rfl (fun s hs kD=>by unfold bz.sh;rw [if_neg kD,if_neg kD])⟩,er,h7,h8⟩;have ha:∀{B s d},bN bL w B s d→bN bL (w.setCell ⟨go,n*10+0,none⟩ (.slice a1 x.1.lv.length c1)) B s d:=fun h=>h.cm qd (by decide) _ _;rcases B0 j _ q hq with⟨rfl,rfl⟩|⟨hne,hq⟩
  ·rw [hx]at hy;injection hy with hy;subst hy
   have Sw:=qj.2;rw [if_neg (by omega)]at Sw;rw [if_pos (by omega),if_neg (by omega)];exact⟨⟨rfl,hr.cm qd (by decide) _ _,qj.1.im,qj.1.has⟩,ha Sw⟩
  ·have hh:=h5 j q y hq hy
   have e1:(j<n∨j=n∧0<0)=(j<n∨j=n∧0<0+1):=by simp;omega
   have e2:(j<n∨j=n∧1<0)=(j<n∨j=n∧1<0+1):=by simp
   simp only [←e1,←e2];exact⟨ha hh.1,ha hh.2⟩
 ·simp only [show¬((1:Nat)=0)by decide,if_false]at hap
  simp only [show¬((1:Nat)=0)by decide,if_false]at hr hb1 hb2 er⊢;rw [show n*10+1*5=n*10+5 by omega]at hb1 hb2 er⊢;have hst:=h3.aQ (e':=⟨p.s,⟨a1,x.2.lv.length,c1,p.t.im,p.t.has⟩⟩) (k:=5) (u:= .slice a1 x.2.lv.length c1) hp (by decide) rfl;refine⟨hb1,hb2,⟨_,hst,by rw [List.length_set];exact h4,fun j q y hq hy=>?_,hap _ rfl (fun s hs kD=>by unfold bz.sh;rw [if_pos (by omega),if_pos (by omega)])⟩,er,h7,h8⟩;have ha:∀{B s d},bN bL w B s d→bN bL (w.setCell ⟨go,n*10+5,none⟩ (.slice a1 x.2.lv.length c1)) B s d:=fun h=>h.cm qd (by decide) _ _;rcases B0 j _ q hq with⟨rfl,rfl⟩|⟨hne,hq⟩
  ·rw [hx]at hy;injection hy with hy;subst hy
   have Sx:=qj.1;rw [if_pos (by omega)]at Sx;rw [if_pos (by omega),if_pos (by omega)];exact⟨ha Sx,rfl,hr.cm qd (by decide) _ _,qj.2.im,qj.2.has⟩
  ·have hh:=h5 j q y hq hy
   have e1:(j<n∨j=n∧0<1)=(j<n∨j=n∧0<1+1):=by simp
   have e2:(j<n∨j=n∧1<1)=(j<n∨j=n∧1<1+1):=by simp;omega
   simp only [←e1,←e2];exact⟨ha hh.1,ha hh.2⟩
theorem pL.fz {go cap:Nat} (h:pL W w aG gr (.slice (some ⟨go,0,none⟩) V.length cap) V n k) (hn:n<V.length) (o:Nat):w.frozen? ⟨go,o,none⟩=false:=by
 obtain⟨h1,h2,⟨P,h3,h4,h5,_⟩,h6,h7,h8⟩:=h;obtain⟨g',cap',cur,cw,_,hbk⟩:=h3.Ak (by intro h0;rw [h0]at h4;simp at h4;omega);injection cw with cw;injection cw with cw;injection cw with cw;subst cw;exact hbk.frozen _
theorem pL.side {x:aV×aV} (h:pL W w aG gr v V n k) (hx:V[n]? =some x) (hk:k<2):∃go cap a1 c1,v= .slice (some ⟨go,0,none⟩) V.length cap∧w.cell? ⟨go,n*10+k*5,none⟩=some (.slice a1 (if k=0 then x.1 else x.2).lv.length c1)∧bL.e8 w (.slice a1 (if k=0 then x.1 else x.2).lv.length c1) (if k=0 then x.1 else x.2).lv∧w.frozen? ⟨go,n*10+k*5,none⟩=false:=by
 obtain⟨h1,h2,⟨P,h3,h4,h5,_⟩,h6,h7,h8⟩:=h;have hn:=dc hx;obtain⟨p,hp⟩:∃p,P[n]? =some p:=⟨_,List.getElem?_eq_getElem (by omega)⟩;obtain⟨go,cap,e1,e2,bE⟩:=h3.at_ n p hp;obtain⟨g',cap',cur,cw,_,hbk⟩:=h3.Ak (by intro h0;rw [h0]at hp;simp at hp);have iE:g'=go:=by rw [e1]at cw;injection cw with cw;injection cw with cw;injection cw with cw;exact cw.symm
 subst iE;have hs:=h5 n p x hp hx;rcases(show k=0∨k=1 by omega)with rfl|rfl
 ·refine⟨g',cap,p.s.a,p.s.c,by rw [e1,h4],?_,?_,hbk.frozen _⟩
  ·have:=bE 0 _ rfl
   rw [if_pos rfl,←hs.1.n,show n*10+0*5=n*ei.m+0 from rfl];exact this
  ·rw [if_pos rfl]
   have:=hs.1.row.sl;rw [hs.1.n]at this;exact this
 ·refine⟨g',cap,p.t.a,p.t.c,by rw [e1,h4],?_,?_,hbk.frozen _⟩
  ·have:=bE 5 _ rfl
   rw [if_neg (by decide),←hs.2.n,show n*10+1*5=n*ei.m+5 from rfl];exact this
  ·rw [if_neg (by decide)]
   have:=hs.2.row.sl;rw [hs.2.n]at this;exact this
theorem BK {w:World} {B:Nat} {v:Value} {V:bP} (h:cl ei bL w B v V) (hl:V.length≤255) {K:Nat} (hK:g7 V K) (nc:K≤900000):
 Calls Tryz.prog 42 #[.agg #[v]] w fun e w'=>∃v',e= .returned (.agg #[v'])∧D7 w' w.heap.size v' V∧Below w.heap.size w w':=by
 obtain⟨a,c,rfl⟩:=h.form;have hz:∀(w:World) (o:Obj),(w.alloc o).heap.size=w.heap.size+1:=fun w o=>by simp
 have hb1:=(Below.aA w (.cells #[.slice a V.length c] 43)).trans ((Below.aA (w.alloc (.cells #[.slice a V.length c] 43)) (.cells #[.slice none 0 0] 43)).mono (by simp));have dz:aj ((w.alloc (.cells #[.slice a V.length c] 43)).alloc (.cells #[.slice none 0 0] 43)) w.heap.size 43 #[.slice a V.length c]:=(aj.new w _ _).alloc _;have e4:aj ((w.alloc (.cells #[.slice a V.length c] 43)).alloc (.cells #[.slice none 0 0] 43)) (w.heap.size+1) 43 #[.slice none 0 0]:=by rw [←hz w (.cells #[.slice a V.length c] 43)];exact aj.new _ _ _
 obtain⟨P,hP,fY,gX⟩:=h.below hb1;have bD:=af hb1;have bY:=af dz;have ef:=af e4;have eV:=af gX;have ia:=af fY;have ko:=af hK;have jt:=af (aan hP.sl (by omega));clear h hz hb1 dz e4 gX hP fY hK;go_enter Tryz.func42,Tryz.ntmps42
 go_upto_region 1 with(fail)
 obtain⟨w1,hw1⟩:∃w1,(w.alloc (.cells #[.slice a V.length c] 43)).alloc (.cells #[.slice none 0 0] 43)=w1:=⟨_,rfl⟩;obtain⟨aG,eZ⟩:∃aG,w.heap.size=aG:=⟨_,rfl⟩;obtain⟨gr,eL⟩:∃gr,w.heap.size+1=gr:=⟨_,rfl⟩;rw [hw1]at bD bY ef jt eV⊢;rw [eL]at ef;rw [eZ]at bY;rw [eL,eZ];have fl:Hid (aG≠gr):=af (by omega);have xH:Hid (w.heap.size≤aG):=af (by omega);have jc:Hid (w.heap.size≤gr):=af (by omega);clear hw1 eZ eL;have b0:w1.cell? ⟨aG,0,none⟩=some (.slice a V.length c):=bY.out.cell 0;go_wp2_with fail
 refine jt.out.mono ?_;rintro e w2 ⟨v',rfl,hr,hb⟩;obtain⟨a2,c2,hv⟩:=hr.form;rw [ia.out]at hv;subst hv;have e4:=bY.out.below hb
 have hc0:pL w (w2.setCell ⟨aG,0,none⟩ (.slice a2 V.length c2)) aG gr (.slice a2 V.length c2) V 0 0:=by
  refine⟨by have:=e4.aQ 0 (.slice a2 V.length c2);exact this,(ef.out.below hb).cm (p:=⟨aG,0,none⟩) (Ne.symm fl.out) _,⟨P,?_,ia.out,fun j p x hp hx=>?_,fun j j' s s' p p' g _ _ _ _ h _=>absurd h (by omega)⟩,(bD.out.trans (hb.mono bD.out.size)).setCell (p:=⟨aG,0,none⟩) xH.out _,xH.out,jc.out⟩
  ·exact(hr.base bD.out.size).cm e4.aC (by decide) 0 _
  ·have hs:=eV.out j p x hp hx
   rw [if_neg (by omega),if_neg (by omega)];exact⟨((hs.1.below hb).base (Nat.zero_le _)).cm e4.aC (by decide) 0 _,((hs.2.below hb).base (Nat.zero_le _)).cm e4.aC (by decide) 0 _⟩
 have Ni:=af hc0;have b2:w2.cell? ⟨aG,0,none⟩=some (.slice a V.length c):=e4.cell 0;have aaw:w2.frozen? ⟨aG,0,none⟩=false:=e4.frozen 0;clear hr hb e4 hc0 jt b0 eV bY ef bD;go_upto_region 2 with(fail)
 clear b2 aaw;generalize w2.setCell ⟨aG,0,none⟩ (.slice a2 V.length c2)=w3 at*;have b3:w3.cell? ⟨aG,0,none⟩=some (.slice a2 V.length c2):=Ni.out.box.cell 0;go_wp2_with fail
 go_loopw [12] (fun i w'=>∃n:Nat,i= .int .i64 n∧n≤V.length∧pL w w' aG gr (.slice a2 V.length c2) V n 0) (fun i _=>V.length-(RowKit.intOf i).toNat)
 case atStart=>exact⟨0,rfl,Nat.zero_le _,Ni.out⟩
 case round=>
  clear Ni b3;obtain⟨n,rfl,hn,hC⟩:=hrel;obtain⟨ak,rfl⟩:∃bk:World,bk=wr:=⟨_,rfl⟩;have Kc:=af hC;clear hC;by_cases hlt:n<V.length
  ·have hlt':(n:Int)<(V.length:Int):=by omega
   obtain⟨x,hx⟩:∃x,V[n]? =some x:=⟨_,List.getElem?_eq_getElem hlt⟩;have bA:=af hx;clear hx;go_wp2_with fail
   go_loopw [15] (fun i w'=>∃k:Nat,i= .int .i64 k∧k≤2∧pL w w' aG gr (.slice a2 V.length c2) V n k) (fun i _=>2-(RowKit.intOf i).toNat)
   case atStart=>exact⟨0,rfl,Nat.zero_le _,Kc.out⟩
   case round=>
    clear Kc;obtain⟨k,rfl,hk,hC⟩:=hrel;obtain⟨wy,rfl⟩:∃bk:World,bk=wr:=⟨_,rfl⟩;have Gv:=af hC;by_cases hk2:k<2
    ·have aia:(k:Int)<2:=by omega
     obtain⟨go,cap,a1,c1,he,hcs,hsl,hfz⟩:=hC.side bA.out hk2;injection he with he _ jK;subst he;subst jK
     have hKx:(if k=0 then x.1 else x.2).lv.length≤K:=by
      have:=ko.out x (List.mem_of_getElem? bA.out);split
      ·exact this.1
      ·exact this.2
     have hS:wy.cell? ⟨aG,0,none⟩=some (.slice (some ⟨go,0,none⟩) V.length c2)∧wy.cell? ⟨go,n*10+k*5,none⟩=some (.slice a1 (if k=0 then x.1 else x.2).lv.length c1):=⟨hC.box.cell 0,hcs⟩;have Nj:=af (aam (hsl.below (Below.bT wy 1)) (by omega));have aq:=af hS;obtain⟨L,hL⟩:∃L,(if k=0 then x.1 else x.2).lv=L:=⟨_,rfl⟩;rw [hL]at hS Nj hsl hcs;have js:=af hL;rw [hL]at aq;clear hL hcs hsl hfz hC hKx;go_upto_region 8 with(fail)
     refine cF (S:=fun w'=>w'.cell? ⟨aG,0,none⟩=some (.slice (some ⟨go,0,none⟩) V.length c2)∧w'.cell? ⟨go,n*10+k*5,none⟩=some (.slice a1 L.length c1)) (by kernel_rfl) hS (fun hHeld=>?_);refine ai 0 ?_;refine ai 1 ?_;refine ai 2 ?_;refine ai 3 ?_;refine ai 4 ?_;refine ai 5 ?_;refine ai 6 ?_;refine ai 7 ?_;refine ai 8 ?_;refine ai 9 ?_;refine ai 10 ?_;refine ai 11 ?_;refine ai 13 ?_;refine aR 12 fun K hK=>?_;go_simp;refine Nj.out.mono ?_;rintro e av ⟨v',rfl,hr,hb⟩;obtain⟨a3,c3,rfl⟩:=hr.form;have hb4:=(Below.bT wy 1).trans (hb.mono (Nat.le_refl _));have Nk:=af (Gv.out.below hb4);have Ed:=af (show bL.Row av wy.heap.size (.slice a3 L.length c3) L from hr);have bM:=af hb4;have Sy:=Gv
     have sx:av.cell? ⟨aG,0,none⟩=some (.slice (some ⟨go,0,none⟩) V.length c2)∧av.cell? ⟨go,n*10+k*5,none⟩=some (.slice a1 L.length c1):=by
      refine⟨Nk.out.box.cell 0,?_⟩;have aax:go<wy.heap.size:=jH Gv.out.row.choose_spec.1 go rfl;exact(hb4.cell (p:=⟨go,n*10+k*5,none⟩) aax).trans aq.out.2
     refine hK.out _ _ sx (fun hHeld=>?_);clear hK K hr hb hb4 hS sx Nj Gv aq;refine ai 14 ?_;refine ai 15 ?_;refine cO 16 fun K hK=>?_;have aay:av.frozen? ⟨go,n*10+k*5,none⟩=false:=Nk.out.fz hlt _;go_simp;refine hK.out _ _ ?_;rw [←js.out]at Ed hHeld⊢;have yX:=af (Sy.out.store bM.out bA.out hk2 Ed.out);clear hK K hHeld aay Nk Ed Sy bM;go_wp2_with fail
     go_roundw
     case rel=>exact⟨k+1,by go_num,by omega,yX.out⟩
     case measure=>simp [RowKit.intOf];omega
    ·obtain rfl:k=2:=by omega
     have aaz:=af hC.next;clear hC Gv;go_wp2_with fail
     go_roundw
     case rel=>exact⟨n+1,by go_num,hlt,aaz.out⟩
     case measure=>simp [RowKit.intOf];omega
  ·obtain rfl:n=V.length:=by omega
   have hC:=Kc.out;have c0:ak.cell? ⟨aG,0,none⟩=some (.slice a2 V.length c2):=hC.box.cell 0;have b6:ak.cell? ⟨gr,0,none⟩=some (.slice none 0 0):=hC.res.cell 0;have fz:ak.frozen? ⟨gr,0,none⟩=false:=hC.res.frozen 0;have hz:aj (ak.setCell ⟨gr,0,none⟩ (.slice a2 V.length c2)) gr 43 #[.slice a2 V.length c2]:=hC.res.aQ 0 _;have hbz:=hC.aF.setCell (p:=⟨gr,0,none⟩) jc.out (.slice a2 V.length c2)
   have fh:D7 (ak.setCell ⟨gr,0,none⟩ (.slice a2 V.length c2)) w.heap.size (.slice a2 V.length c2) V:=by
    obtain⟨P,h3,h4,h5,h9⟩:=hC.row;refine⟨P,h3.cm hC.res.aC (by decide) 0 _,h4,fun j p x hp hx=>?_,h9⟩;have hs:=h5 j p x hp hx;have hj:=dc hx;rw [if_pos (.inl hj),if_pos (.inl hj)]at hs;exact⟨hs.1.cm hC.res.aC (by decide) 0 _,hs.2.cm hC.res.aC (by decide) 0 _⟩
   have dI:=af hz;have fH:=af hbz;have eT:=af fh;clear hC hz hbz fh Kc;go_wp2_with fail
   clear c0 b6 fz;generalize ak.setCell ⟨gr,0,none⟩ (.slice a2 V.length c2)=wf at*;have k0:wf.cell? ⟨gr,0,none⟩=some (.slice a2 V.length c2):=dI.out.cell 0;refine bodyPost_ret (v:= .agg #[.slice a2 V.length c2]) (by simp [results,Tryz.results42,go_sem,k0]) rfl ⟨_,rfl,eT.out,fH.out⟩
end
def ng (n:Nat) (m:aB):Int:=if m.inst<0∨(n:Int)≤m.inst then 20 else if¬(m.side=1∨m.side=2)then 21 else if m.ah<0∨m.count<0∨¬(m.ah=0↔m.count=0)then 24 else 0
theorem J9 {n:Nat} {m:aB}:ng n m=0↔x8 n m=true:=by
 unfold ng;rw [Gq];constructor
 ·intro h
  split at h
  ·cases h
  ·split at h
   ·cases h
   ·split at h
    ·cases h
    ·rename_i h1 h2 h3
     have OC:=Decidable.not_not.1 h2;have a1:¬m.inst<0:=fun x=>h1 (.inl x);have a2:¬(n:Int)≤m.inst:=fun x=>h1 (.inr x);have a3:¬m.ah<0:=fun x=>h3 (.inl x);have a4:¬m.count<0:=fun x=>h3 (.inr (.inl x));exact⟨by omega,by omega,OC,by omega,by omega,Decidable.not_not.1 fun x=>h3 (.inr (.inr x))⟩
 ·intro h
  rw [if_neg (by rintro(x|x);have:=h.i0;omega;have:=h.i1;omega),if_neg (fun x=>x h.sd),if_neg (by rintro(x|x|x);have:=h.q0;omega;have:=h.c0;omega;exact x h.MM)]
theorem vK (n:Nat) (m:aB) (w:World):
 Calls Tryz.prog 36 #[.int .i64 n,m.agg] w fun e w'=>e= .returned (.int .i64 (ng n m))∧Below w.heap.size w w':=by
 unfold aB.agg;have dm:Hid (ng n m=if m.inst<0∨(n:Int)≤m.inst then 20 else if¬(m.side=1∨m.side=2)then 21 else if m.ah<0∨m.count<0∨¬(m.ah=0↔m.count=0)then 24 else 0):=af rfl;rw [dm.out];have aE:=af (Below.aA w (.cells #[.int .i64 m.seq,.int .i64 m.inst,.int .i64 m.side,.int .i64 m.ag,.int .i64 m.ah,.int .i64 m.count,.bool m.imp] 86));clear dm;obtain⟨q,i,d,p,t,c,f⟩:=m;dsimp only at*;by_cases h1:i<0
 ·rw [if_pos (.inl h1)]
  go_enter Tryz.func36,Tryz.ntmps36
  go_wp2_with fail
  go_ret;exact⟨by trivial,aE.out⟩
 ·by_cases h2:(n:Int)≤i
  ·rw [if_pos (.inr h2)]
   go_enter Tryz.func36,Tryz.ntmps36
   go_wp2_with fail
   go_ret;exact⟨by trivial,aE.out⟩
  ·rw [if_neg (by rintro(x|x);exact h1 x;exact h2 x)]
   by_cases h3:d=1
   ·rw [if_neg (fun x=>x (.inl h3))]
    subst h3;by_cases h5:t<0
    ·rw [if_pos (.inl h5)]
     go_enter Tryz.func36,Tryz.ntmps36
     go_wp2_with fail
     go_ret;exact⟨by trivial,aE.out⟩
    ·by_cases h6:c<0
     ·rw [if_pos (.inr (.inl h6))]
      go_enter Tryz.func36,Tryz.ntmps36
      go_wp2_with fail
      go_ret;exact⟨by trivial,aE.out⟩
     ·by_cases h7:t=0
      ·have k8:(t==0)=true:=by rw [h7];rfl
       by_cases h8:c=0
       ·have CP:(c==0)=true:=by rw [h8];rfl
        rw [if_neg (by rintro(x|x|x);exact h5 x;exact h6 x;exact x (by simp [h7,h8]))];clear h7 h8;go_enter Tryz.func36,Tryz.ntmps36
        go_wp2_with fail
        go_ret;exact⟨by trivial,aE.out⟩
       ·have CP:(c==0)=false:=by rw [beq_eq_false_iff_ne];exact h8
        rw [if_pos (.inr (.inr (by rw [h7];intro y;exact h8 (y.1 rfl))))];clear h7 h8;go_enter Tryz.func36,Tryz.ntmps36
        go_wp2_with fail
        go_ret;exact⟨by trivial,aE.out⟩
      ·have k8:(t==0)=false:=by rw [beq_eq_false_iff_ne];exact h7
       by_cases h8:c=0
       ·have CP:(c==0)=true:=by rw [h8];rfl
        rw [if_pos (.inr (.inr (by rw [h8];intro y;exact h7 (y.2 rfl))))];clear h7 h8;go_enter Tryz.func36,Tryz.ntmps36
        go_wp2_with fail
        go_ret;exact⟨by trivial,aE.out⟩
       ·have CP:(c==0)=false:=by rw [beq_eq_false_iff_ne];exact h8
        rw [if_neg (by rintro(x|x|x);exact h5 x;exact h6 x;exact x (by constructor<;>intro y;exact absurd y h7;exact absurd y h8))];clear h7 h8;go_enter Tryz.func36,Tryz.ntmps36
        go_wp2_with fail
        go_ret;exact⟨by trivial,aE.out⟩
   ·have acf:(d !=1)=true:=by simpa using h3
    by_cases h4:d=2
    ·rw [if_neg (fun x=>x (.inr h4))]
     subst h4;clear h3 acf;by_cases h5:t<0
     ·rw [if_pos (.inl h5)]
      go_enter Tryz.func36,Tryz.ntmps36
      go_wp2_with fail
      go_ret;exact⟨by trivial,aE.out⟩
     ·by_cases h6:c<0
      ·rw [if_pos (.inr (.inl h6))]
       go_enter Tryz.func36,Tryz.ntmps36
       go_wp2_with fail
       go_ret;exact⟨by trivial,aE.out⟩
      ·by_cases h7:t=0
       ·have k8:(t==0)=true:=by rw [h7];rfl
        by_cases h8:c=0
        ·have CP:(c==0)=true:=by rw [h8];rfl
         rw [if_neg (by rintro(x|x|x);exact h5 x;exact h6 x;exact x (by simp [h7,h8]))];clear h7 h8;go_enter Tryz.func36,Tryz.ntmps36
         go_wp2_with fail
         go_ret;exact⟨by trivial,aE.out⟩
        ·have CP:(c==0)=false:=by rw [beq_eq_false_iff_ne];exact h8
         rw [if_pos (.inr (.inr (by rw [h7];intro y;exact h8 (y.1 rfl))))];clear h7 h8;go_enter Tryz.func36,Tryz.ntmps36
         go_wp2_with fail
         go_ret;exact⟨by trivial,aE.out⟩
       ·have k8:(t==0)=false:=by rw [beq_eq_false_iff_ne];exact h7
        by_cases h8:c=0
        ·have CP:(c==0)=true:=by rw [h8];rfl
         rw [if_pos (.inr (.inr (by rw [h8];intro y;exact h7 (y.2 rfl))))];clear h7 h8;go_enter Tryz.func36,Tryz.ntmps36
         go_wp2_with fail
         go_ret;exact⟨by trivial,aE.out⟩
        ·have CP:(c==0)=false:=by rw [beq_eq_false_iff_ne];exact h8
         rw [if_neg (by rintro(x|x|x);exact h5 x;exact h6 x;exact x (by constructor<;>intro y;exact absurd y h7;exact absurd y h8))];clear h7 h8;go_enter Tryz.func36,Tryz.ntmps36
         go_wp2_with fail
         go_ret;exact⟨by trivial,aE.out⟩
    ·have aiC:(d !=2)=true:=by simpa using h4
     rw [if_pos (by rintro(x|x);exact h3 x;exact h4 x)];clear h3 h4;go_enter Tryz.func36,Tryz.ntmps36
     go_wp2_with fail
     go_ret;exact⟨by trivial,aE.out⟩
end Go.Proofs.YtmaijkoopjocdaaGreat
