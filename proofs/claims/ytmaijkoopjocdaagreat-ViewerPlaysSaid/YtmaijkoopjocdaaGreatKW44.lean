import Derived.Test.YtmaijkoopjocdaaGreatKW38
import Derived.Test.YtmaijkoopjocdaaGreatKW35
import Derived.Test.YtmaijkoopjocdaaGreatKW43
import Derived.Test.YtmaijkoopjocdaaGreatKW32
set_option maxRecDepth 100000
set_option maxHeartbeats 64000000
namespace Go.Proofs.YtmaijkoopjocdaaGreat
open Go.RowKit Go.Lib
def yx (l:List dg) (x:dg) (k:Nat):Int:=(l.take k).foldl (fun m q=>if q.ap=x.ap then(if m<q.aq then q.aq else m)else m) x.aq
def yy (l:List dg) (x:dg) (k:Nat):Nat:=((l.take k).filter (fun q=>q.ap==x.ap)).length
def nS (l:List dg) (side:Int):Int×Int×Int×Bool:=
 if(qj l side).2=true then((qj l side).1.ap,yx l (qj l side).1 l.length,(yy l (qj l side).1 l.length:Int),true)else(0,0,0,false)
theorem aiz {l:List dg} {k:Nat} {q:dg} (x:dg) (h:l[k]? =some q):yx l x (k+1)=if q.ap=x.ap then(if yx l x k<q.aq then q.aq else yx l x k)else yx l x k:=by unfold yx;rw [List.take_add_one,h,List.foldl_append];rfl
theorem aiA {l:List dg} {k:Nat} {q:dg} (x:dg) (h:l[k]? =some q):yy l x (k+1)=yy l x k+(if q.ap=x.ap then 1 else 0):=by
 unfold yy;rw [List.take_add_one,h,List.filter_append,List.length_append]
 congr 1
 show(List.filter _ [q]).length=_;by_cases hq:q.ap=x.ap
 ·rw [if_pos hq,List.filter_cons_of_pos (by simpa using hq)];rfl
 rw [if_neg hq,List.filter_cons_of_neg (by simpa using hq)];rfl
theorem XG (l:List dg) (x:dg) (k:Nat):yy l x k<=l.length:=by
 unfold yy;have h1:=List.length_filter_le (fun q:dg=>q.ap==x.ap) (l.take k);have h2:(l.take k).length<=l.length:=by rw [List.length_take];omega
 omega
theorem XY (A:List dg) (aa:Option Addr) (ac:Nat) (side:Int) (w:World) (hA:kz.fR w aa A) (hl:A.length<=1000000):
 Calls Tryz.prog 59 #[.slice aa A.length ac,↑side] w fun e w'=>e= .returned (.tuple #[.int .i64 (nS A side).1,.int .i64 (nS A side).2.1,.int .i64 (nS A side).2.2.1,.bool (nS A side).2.2.2])∧Below ↑w w w':=by
 have s1:=ak;have F:=YR A aa ac side w hA hl;have T:=af hA;clear hA;obtain⟨x,ok,H⟩:∃x ok,qj A side=(x,ok):=⟨_,_,rfl⟩;rw [H]at F;unfold nS;rw [H];have R:=af H;clear H;cases ok with
 |false=>simp only [Bool.false_eq_true,if_false];go_enter Tryz.func59,Tryz.ntmps59;go_wp2_with fail;refine F.mono ?_;rintro e w1 ⟨rfl,hb⟩;have C:=af hb;clear hb F;simp only [dg.cells];go_wp2_with fail;refine bodyPost_ret (v:= .tuple #[↑(),↑(),↑(),.bool false]) (by simp [results,Tryz.results59,go_sem]) rfl ?_;exact⟨rfl,C.o.trans ((Below.aI _ _).mono C.o.size)⟩
 |true=>
  simp only [if_true];have W:=af fun(k:Nat) (q:dg) (h:A[k]? =some q)=>aiz x h;have U:=af fun(k:Nat) (q:dg) (h:A[k]? =some q)=>aiA x h;have V:=af (XG A x);have M:Ei (yx A x 0=x.aq∧yy A x 0=0):=af ⟨rfl,rfl⟩;go_enter Tryz.func59,Tryz.ntmps59;go_wp2_with fail;refine F.mono ?_;rintro e w1 ⟨rfl,hb⟩;have I:=af hb;clear hb F;simp only [dg.cells];go_upto_region 2 with(fail);have hX:av (w1.alloc (.cells #[↑x.ap,↑x.aq,↑x.i0,↑x.s0,↑x.i1,↑x.s1] 192)) ↑w1 192 #[↑x.ap,↑x.aq,↑x.i0,↑x.s0,↑x.i1,↑x.s1]:=av.new _ _ _;have N:Below ↑w w (w1.alloc (.cells #[↑x.ap,↑x.aq,↑x.i0,↑x.s0,↑x.i1,↑x.s1] 192)):=I.o.alloc I.o.size _;have B:=af hX;have D:=af N;clear hX N I;generalize w1.alloc (.cells #[↑x.ap,↑x.aq,↑x.i0,↑x.s0,↑x.i1,↑x.s1] 192)=w2 at*;generalize w1.heap.size=aL at*;have c1:=B.o.GD;go_wp2_with fail;clear c1;go_loopw [10,11,12] (fun m n j w'=>∃k:Nat,m= .int .i64 (yx A x k)∧n= .int .i64 (yy A x k)∧j=↑k∧k<=A.length∧Below ↑w w w'∧av w' aL 192 #[↑x.ap,↑x.aq,↑x.i0,↑x.s0,↑x.i1,↑x.s1]) (fun _ _ j _=>A.length-(RowKit.intOf j).toNat)
  case atStart=>exact⟨0,by rw [M.o.1],by rw [M.o.2];rfl,rfl,Nat.zero_le _,D.o,B.o⟩
  clear B D;obtain⟨k,rfl,rfl,rfl,hk,hb,hx⟩:=hrel;obtain⟨ax,rfl⟩:=aj wr;have B:=af hx;have C:=af hb;clear hx hb;by_cases hkn:k<A.length
  ·have X:(k:Int)<(A.length:Int):=by omega
   obtain⟨q,hq⟩:=GB A k hkn;have hmo:=W.o k q hq;have hma:=U.o k q hq;have hml:=V.o k;generalize yx A x k=sO at*;generalize yy A x k=ma at*;have E:=af hmo;have G:=af hma;clear hmo hma;obtain⟨b,off,rfl,P,L⟩:=T.o k q hq;have Q:Ei (∀wv,Below ↑w w wv->iI wv b (off+k*6) q.cells):=af fun wv hb=>L.below hb P;have q0:ax.cell? ↑(b,off+k*6)=↑q.ap:=Q.o _ C.o 0 _ rfl;have c0:=B.o.GC;clear L hq P;go_upto_region 8 with(fail);go_quiet (fail);have J:Below ↑ax ax (ax.drewN nq):=Below.bO ax nq;have D:=ag C J;have K:=af (B.o.below J);clear J q0 c0 C B;generalize ax.drewN nq=w3 at*;by_cases hp:q.ap=x.ap
   ·rw [if_pos hp]at E G;have hz:(q.ap==x.ap)=true:=by rw [beq_iff_eq];exact hp
    have y1:IntKind.i64.wrap ((ma:Int)+1)=(ma:Int)+1:=IntWalk.i64_in _ bh;have q1:w3.cell? ↑(b,off+k*6+1)=↑q.aq:=Q.o _ D.o 1 _ rfl;clear hp;by_cases O:sO<q.aq
    ·rw [if_pos O]at E;go_wp2_with fail;clear q1;go_roundw
     case rel=>exact⟨k+1,by rw [E.o],by rw [G.o];rfl,dR,bh,D.o,K.o⟩
     exact Ej
    rw [if_neg O]at E;go_wp2_with fail;clear q1;go_roundw
    case rel=>exact⟨k+1,by rw [E.o],by rw [G.o];rfl,dR,bh,D.o,K.o⟩
    exact Ej
   rw [if_neg hp]at E G;have hz:(q.ap==x.ap)=false:=by rw [beq_eq_false_iff_ne];exact hp
   clear hp;go_wp2_with fail;go_roundw
   case rel=>exact⟨k+1,by rw [E.o],by rw [G.o];rfl,dR,bh,D.o,K.o⟩
   exact Ej
  obtain rfl:k=A.length:=bh;have c0:=B.o.GC;go_wp2_with fail;refine bodyPost_ret (v:= .tuple #[↑x.ap,.int .i64 (yx A x A.length),.int .i64 (yy A x A.length),.bool true]) (by simp [results,Tryz.results59,go_sem]) rfl ?_;exact⟨rfl,C.o⟩
def Am (p:Prod) (i:Nat) (side ap:Int) (q:dg):Bool:= !(eW p i q.ap==0)&& !cT side q.ap ap
def s4 (p:Prod) (S:List (List aC)) (i:Nat) (side ap aq:Int):Bool:=
 !((gO p i side ap aq.toNat S aq).2.2==0)&&(oM p (ef (gO p i side ap aq.toNat S aq).1) i (3-side)).any (Am p i side ap)
theorem Bv {α:Type} {l:List α} {k:Nat} {x:α} {f:α->Bool} (h:l[k]? =some x):(l.take (k+1)).any f=((l.take k).any f||f x):=by rw [kH h,List.any_append];simp
section
variable {W w w':World} {ps pb:Nat} {p:Prod} {Q:List Nat} {S:List (List aC)}
theorem Uf (h:eH W w ps p Q S) (hz:cR p=0) (hS:ei p S) {i:Nat} (hi:i<S.length) (side ap aq:Int) (e3:side=1∨side=2) (jW:1<=aq) (hq1:aq<=1000000):
 Calls Tryz.prog 69 #[p.agg,.pointer ↑ps,↑i,↑side,↑ap,↑aq] w fun e w'=>e= .returned (.bool (s4 p S i side ap aq))∧Below ↑w w w':=by
 unfold Prod.agg Prod.cells;have d:Ei (Below ↑w w (w.alloc (.cells ↑p 25))):=af (Below.aI _ _);have l:Ei (av (w.alloc (.cells ↑p 25)) ↑w 25 p.cells):=af (av.new _ _ _);have hlf:=II (i:=i) (side:=side) (ap:=ap) hz aq.toNat S aq hS bh;have bg:=af (Pf (h.below d.o) (by have:=hS.le;omega));have r:=af fun w fS t (h:eH W w fS p t S)=>Pg h hz hS hi side ap aq e3 jW hq1;obtain⟨R,hR⟩:=ai (gO p i side ap aq.toNat S aq);have N:Ei (s4 p S i side ap aq=(!(R.2.2==0)&&(oM p (ef R.1) i (3-side)).any (Am p i side ap))):=af (by unfold s4;rw [hR]);rw [N.o];simp only [hR]at r hlf;obtain⟨kR,nE,rA⟩:=R;dsimp only at r hlf;obtain⟨O,g1,g2⟩:=hlf;have V:=af O;have m8:=af e3;dsimp only;obtain⟨rs,S3⟩:=ai ((!(rA==0)&&(oM p (ef kR) i (3-side)).any (Am p i side ap)):Bool);rw [S3];have u:=af S3;clear S3;have wU:=af h.pv;have P:=af h.aJ;clear N hR h hz hS hi e3 O;go_enter Tryz.func69,Tryz.ntmps69;go_upto_region 1 with(fail);obtain⟨aR,nT⟩:=ai w.heap.size;have Nv:=af nT;rw [nT]at l⊢;clear nT;unfold Prod.cells at l;generalize (w.alloc (.cells ↑p 25))=w1 at*;go_wp2_with fail;refine bg.o.mono ?_;rintro e w2 ⟨fS,t,rfl,a,DR,nG,hb2⟩;have kS:=af (r.o _ _ _ a);have S4:=af (l.o.below hb2);have aS:=ag d hb2;have T:=af fun g (hg:g∈t)=>(a.py hg).1;have o8:Ei (∀g∈t,w.heap.size<=g):=af fun g hg=>Nat.le_trans d.o.size (DR g hg);clear a DR nG hb2 bg r l d;go_wp2_with fail;refine kS.o.mono ?_;rintro e D ⟨v3,rfl,_,Kg,iZ⟩;have H:=af (aS.o.trans (iZ.below (B:=w.heap.size) o8.o aS.o.size));have S5:=af (S4.o.keeps iZ (fun e=>S4.o.aE.ne (T.o _ e) b9 rfl));have H4:=af Kg;clear iZ Kg kS S4 aS T o8;by_cases Sd:rA=0
 ·subst Sd;go_wp2_with fail;go_ret;exact⟨by rw [<-u.o];rfl,H.o⟩
 have akh:(rA==0)=false:=by rw [beq_eq_false_iff_ne];exact Sd
 obtain⟨A,hA⟩:=ai (oM p (ef kR) i (3-side));have zF:Ei (A.length<=1000):=af (by rw [<-hA];exact G8);rw [hA,akh]at u;have cO:=af hA;clear hA;go_upto_region 5 with(fail);go_cut [16] (fun v wx=>kz.Row wx ↑w v A∧Below ↑D D wx)
 case first=>have hd:=(Below.refl ↑D D).drew;have G:=af (S5.o.below hd);have H5:=af (H4.o.below hd);have Y:=af hd;clear hd;have X:PC D.drew aR p:=PC.oQ G.o;refine cP (S:=fun w'=>↑(w',aR,p)) X fun hHeld=>?_;refine eX [0,1,3,4] ?_;clear X;generalize D.drew=aA at*;refine aU 2 fun K hK=>?_;go_simp;go_at_call 58;refine(Q0 H5.o (by have:=V.o.le;omega) (fun L hL=>⟨(V.o.each L hL).len,(V.o.each L hL).aq⟩)).mono ?_;rintro e c ⟨Q1,rfl,uM,C⟩;refine hK.out _ _ (PC.oQ (G.o.below C)) (fun hHeld=>?_);clear hK K;refine aU 5 fun K hK=>?_;go_simp;go_at_call 111;refine(Zv side m8.o c).mono ?_;rintro e bf ⟨rfl,rfl⟩;refine hK.out _ _ (PC.oQ (G.o.below C)) (fun hHeld=>?_);clear hK K;obtain⟨ta,tc,pE,_,hrd⟩:=uM.rd;have hall:=YJ p i (3-side) ta tc (ef kR) c ((wU.o.below P.o).below ((ah H Y).o.trans (C.mono (ah H Y).o.size))) hrd V.o.CT (by rw [Nx];have:=V.o.le;omega);unfold Prod.agg Prod.cells at hall;rw [cO.o]at hall;subst pE;refine aU 6 fun K hK=>?_;go_simp;go_at_call 102;refine hall.mono ?_;rintro e bZ ⟨lJ,rfl,J,mH⟩;refine hK.out _ _ (PC.oQ ((G.o.below C).below mH)) (fun hHeld=>?_);clear hK K;have M:Below ↑D D bZ:=(ag Y C).o.trans (mH.mono (ag Y C).o.size);have z:=af (J.base (Nat.le_trans H.o.size (Nat.le_trans Y.o.size C.size)));have bp:=af M;refine gu _ _ _ _ ?_;refine ej 7 ?_;refine gw ?_;clear hHeld J mH C uM hrd hall M;go_wp2_with fail;go_meet;exact⟨z.o,bp.o⟩
 case rest=>
 obtain⟨J,I⟩:=hcut;have y:=ag H I;have G:=af (S5.o.below I);have z:=af J;obtain⟨sH,xh,CU⟩:=J.form;obtain⟨n,hn⟩:=ai A.length;rw [hn]at CU;subst CU;have hnb:n<=1000:=by rw [<-hn];exact zF.o
 have HN:=af hn;clear J I hn H S5 H4;generalize wc=b at*;go_wp2_with fail;go_loopw [17] (fun j w'=>∃k:Nat,j=↑k∧k<=n∧(A.take k).any (Am p i side ap)=false∧Below ↑b b w') (fun j _=>n-(RowKit.intOf j).toNat)
 case atStart=>exact⟨0,rfl,Nat.zero_le _,rfl,Below.refl _ _⟩
 obtain⟨k,rfl,hk,Lv,hb⟩:=hrel;obtain⟨ax,rfl⟩:=aj wr;have S6:=af Lv;have E:=af hb;clear Lv hb;by_cases hlt:k<n
 ·have hlt':(k:Int)<(n:Int):=by omega
  obtain⟨q,hq⟩:=GB A k (by rw [HN.o];exact hlt);have aki:=af hq;obtain⟨dU,akj,Ao,_,Ag⟩:=(z.o.below E.o).at_ k q hq;injection Ao with akk akl akm;subst akk;subst akm;clear akl Ag;have m:Ei (∀wv,Below ↑b b wv->wv.cell? ↑(dU,k*6)=↑q.ap):=af fun wv hb=>by obtain⟨g',c',he,_,hc⟩:=(z.o.below hb).at_ k q aki.o;injection he with he;injection he with he;injection he with he;subst he;have:=hc 0 _ rfl;exact this
  have dN:=af (Bv (f:=Am p i side ap) hq);clear hq;obtain⟨F,S7⟩:=ai q.ap;rw [S7]at m;have Z:Ei (Am p i side ap q=(!(eW p i F==0)&& !cT side F ap)):=af (by unfold Am;rw [S7]);clear S7;obtain⟨bb,M⟩:=ai (Am p i side ap q);rw [M]at Z dN;clear M;go_upto_region 9 with(fail);go_cut [63] (fun v wx=>v=↑bb∧Below ↑ax ax wx)
  case first=>
   have hd:=(Below.refl ↑ax ax).drew;have fZ:=ag E hd;have S8:=af ((G.o.below E.o).below hd);have dI:=af hd;have s:=DM p i F ax.drew ((wU.o.below P.o).below ((ah y E).o.trans (hd.mono (ah y E).o.size)));obtain⟨pr,yl⟩:=ai (eW p i F);rw [yl]at s Z;unfold Prod.agg Prod.cells at s;have kQ:=af s;have X:PC ax.drew aR p:=PC.oQ S8.o;have hc0:=m.o _ fZ.o;clear hd s yl;refine cP (S:=fun w'=>↑(w',aR,p)∧w'.cell? ⟨dU,k*6,none⟩=↑F) ⟨X,hc0⟩ fun hHeld=>?_;refine eX [0,1,2,3,4,5,6] ?_;refine aU 7 fun K hK=>?_;clear X hc0;generalize ax.drew=wd at*;go_simp;go_at_call 67;refine kQ.o.mono ?_;rintro e c ⟨rfl,C⟩;have b7:=ag fZ C;have U:=ag dI C;have akn:=af (PC.oQ (S8.o.below C));refine hK.out _ _ ⟨PC.oQ (S8.o.below C),m.o _ b7.o⟩ (fun hHeld=>?_);clear hK K C kQ;by_cases uq:pr=0
   ·subst uq;have S9:Ei (bb=false):=af (by rw [Z.o];rfl);refine eX [8,9] ?_;refine c7 10 ?_;refine c7 11 ?_;refine c7 12 ?_;refine c7 13 ?_;refine c7 14 ?_;refine c7 15 ?_;refine c7 16 ?_;refine c7 17 ?_;refine c7 18 ?_;refine gu _ _ _ _ ?_;refine ej 19 ?_;refine gw ?_;clear hHeld;go_wp2_with fail;go_meet;exact⟨by rw [S9.o],U.o⟩
   have KI:(pr==0)=false:=by rw [beq_eq_false_iff_ne];exact uq
   have Rx:(pr !=0)=true:=by rw [bne_iff_ne];exact uq
   have S9:Ei (bb= !cT side F ap):=af (by rw [Z.o,KI];simp);refine eX [8,9,10,11,12,13,14,15,16] ?_;have g7:=Gx side F ap c;refine aU 17 fun K hK=>?_;go_simp;go_at_call 72;refine g7.mono ?_;rintro e bf ⟨rfl,rfl⟩;refine hK.out _ _ ⟨akn.o,m.o _ b7.o⟩ (fun hHeld=>?_);clear hK K;refine eX [18] ?_;refine gu _ _ _ _ ?_;refine ej 19 ?_;refine gw ?_;clear hHeld;go_wp2_with fail;go_meet;exact⟨by rw [S9.o],U.o⟩
  case rest=>
  obtain⟨rfl,I⟩:=hcut;have je:=ag E I;have cH:=ah y je;clear I;cases bb with
  |true=>have HD:Ei (A.any (Am p i side ap)=true):=af (by rw [List.any_eq_true];have h1:=dN.o;rw [S6.o,Bool.false_or,List.any_eq_true]at h1;obtain⟨x,hx,ako⟩:=h1;exact⟨x,List.mem_of_mem_take hx,ako⟩);go_wp2_with fail;go_ret;exact⟨by rw [<-u.o,HD.o];rfl,cH.o⟩
  |false=>
   go_wp2_with fail;go_roundw
   case rel=>exact⟨k+1,dR,hlt,by rw [dN.o,S6.o];rfl,je.o⟩
   exact Ej
 have hkn:k=n:=bh;have akp:Ei (A.any (Am p i side ap)=false):=af (by have:=S6.o;rwa [hkn,<-HN.o,List.take_length]at this);have cH:=ah y E;clear hkn;go_wp2_with fail;go_ret;exact⟨by rw [<-u.o,akp.o];rfl,cH.o⟩
end
section
variable {W w w':World} {pm ps pb:Nat} {p:Prod} {Q:List Nat} {S S':List (List aC)} {E:List Int}
theorem QB (h:eF W w pm ps p Q S E) (hl:E.length<=100000) (id:Int):
 Calls Tryz.prog 104 #[.pointer ↑pm,↑id] w fun e w'=>e= .returned (.bool (E.any (fun x=>x==id)))∧w=w':=by
 obtain⟨a,c,hb,hr⟩:=h.box;obtain⟨n,hn⟩:=ai E.length;rw [hn]at hb hr;have H:=af hr;have HN:=af hn;have hnb:n<=100000:=bh;have J:=hb.PS;obtain⟨bb,A⟩:=ai (E.any (fun x=>x==id));rw [A];have F:=af A;clear h hb hr hn hl A;go_enter Tryz.func104,Tryz.ntmps104;go_wp2_with fail;go_loopw [5] (fun i w'=>∃k:Nat,i=↑k∧k<=n∧(E.take k).any (fun x=>x==id)=false∧w=w') (fun i _=>n-(RowKit.intOf i).toNat)
 case atStart=>exact⟨0,rfl,Nat.zero_le _,rfl,rfl⟩
 obtain⟨k,rfl,hk,C,rfl⟩:=hrel;have G:=af C;clear C;by_cases hlt:k<n
 ·have hlt':(k:Int)<(n:Int):=by omega
  obtain⟨x,hx⟩:=GB E k (by rw [HN.o];exact hlt);obtain⟨b,off,rfl,c0⟩:=qU H.o.sl hx;have D:=af (Bv (f:=fun x=>x==id) hx);have I:=af hx;clear hx;by_cases he:x=id
  ·have he':(x==id)=true:=by rw [he];exact beq_self_eq_true _
   have B:Ei (bb=true):=af (by rw [<-F.o,List.any_eq_true];exact⟨x,List.mem_of_getElem? I.o,he'⟩);clear he;go_wp2_with fail;go_ret;exact⟨by rw [B.o];rfl,cF⟩
  have he':(x==id)=false:=by rw [beq_eq_false_iff_ne];exact he
  rw [he',G.o]at D;go_wp2_with fail;go_roundw
  case rel=>exact⟨k+1,dR,hlt,by rw [D.o];rfl,cF⟩
  exact Ej
 have hkn:k=n:=bh;have B:Ei (bb=false):=af (by have:=G.o;rw [hkn,<-HN.o,List.take_length]at this;rw [<-F.o];exact this);clear hkn;go_wp2_with fail;go_ret;exact⟨by rw [B.o];rfl,cF⟩
def y6 (w:World) (pm g:Nat):Prop:=∃a n c,w.cell? ⟨pm,12,none⟩=some (.slice a n c)∧(Value.slice a n c).ownBlock=some g
structure gy (W w w':World) (pm ps:Nat) (p:Prod) (Q:List Nat) (S:List (List aC)) (E:List Int):Prop where
 gN:eF W w' pm ps p Q S E
 k:aK (fun g=>g∈Q∨g=pm∨y6 w pm g) w w'
 o:∀g,y6 w' pm g->y6 w pm g∨w.heap.size<=g
theorem eF.aE (h:eF W w pm ps p Q S E):ck w pm 76:=by obtain⟨a,c,h1,_⟩:=h.box;exact h1.aE
theorem eF.sO (h:eF W w pm ps p Q S E) {g:Nat} (hg:y6 w pm g):ck w g 2∧W.heap.size<=g:=by obtain⟨a,c,h1,h2⟩:=h.box;obtain⟨a',n',c',h3,h4⟩:=hg;rw [h1.cell 12]at h3;injection h3 with h3;rw [<-h3]at h4;exact⟨eo h2 g h4,cS h2 g h4⟩
theorem gy.ry (h:eF W w pm ps p Q S E) {A:List (List aC)} (h2:eF W w' pm ps p Q A E) (hk:aK (fun g=>g∈Q) w w'):gy W w w' pm ps p Q A E:=by refine⟨h2,hk.more fun g hg=> .inl hg,fun g hg=> .inl ?_⟩;obtain⟨a,c,h1,_⟩:=h.box;have hq:∀g,g∈Q->ck w g 181:=fun g hg=>(h.cr.py hg).1;have h3:=h1.keeps hk (fun e=>h1.aE.ne (hq _ e) b9 rfl);obtain⟨a',n',c',h4,h5⟩:=hg;rw [h3.cell 12]at h4;exact⟨a',n',c',by rw [h1.cell 12];exact h4,h5⟩
theorem gy.below (h:gy W w w' pm ps p Q S E) {w2:World} (hb:Below ↑w' w' w2):gy W w w2 pm ps p Q S E:=by refine⟨h.gN.below hb,h.k.trans (Below.keeps hb),fun g hg=>h.o g ?_⟩;obtain⟨a,n,c,h1,h2⟩:=hg;have h3:w2.cell? ↑(pm,12)=w'.cell? ↑(pm,12):=hb.cell (p:=⟨pm,12,none⟩) h.gN.aE.lt;exact⟨a,n,c,by rw [<-h3];exact h1,h2⟩
theorem gy.trans {B:List (List aC)} {A:List Int} {w1 w2:World} (h:gy W w w1 pm ps p Q S E) (h2:gy W w1 w2 pm ps p Q B A) (hb:w.heap.size<=w1.heap.size):gy W w w2 pm ps p Q B A:=by
 refine⟨h2.gN,h.k.step h2.k (fun x hx e=>?_),fun g hg=>?_⟩
 ·rcases e with e|e|e
  ·exact .inl e
  ·exact .inr (.inl e)
  rcases h.o x e with h3|h3
  ·exact .inr (.inr h3)
  omega
 rcases h2.o g hg with h3|h3
 ·exact h.o g h3
 exact .inr bh
theorem gy.more {A:World} {a:Option Addr} {c:Nat} {v':Value} {E':List Int} (hm:eF W w pm ps p Q S E) (F:av w pm 76 (Hh p ps (.slice a E.length c))) (M:e8.Row w ↑W (.slice a E.length c) E) {w1:World} (hb1:Below ↑w w w1)
 (hr:e8.Row A ↑W v' E') (hg:w1.grownBy A (Value.slice a E.length c).ownBlock) (ho:v'.ownBlock=(Value.slice a E.length c).ownBlock∨v'.ownBlock=some ↑w1):
 gy W w (A.setCell ⟨pm,12,none⟩ v') pm ps p Q S E'∧A.cell? ⟨pm,12,none⟩=some (.slice a E.length c)∧A.frozen? ⟨pm,12,none⟩=false:=by
 have hk:=fK hg;have N:=hm.below hb1;have J:=F.below hb1;have L:=M.below hb1;have K:=eo L;have P:=cS L;have hne:∀{g:Nat} {t':TypeId},ck w1 g t'->2≠t'->¬(Value.slice a E.length c).ownBlock=some g:=fun hg hn e=>hg.ne (K _ e) (Ne.symm hn) rfl;have C:=J.keeps hk (hne J.aE b9);have G:=N.cr.qT hk K (Nat.le_refl _) P;have I:=ct A pm 12 v';obtain⟨a',c',dF⟩:=hr.form;have D:=C.aW 12 v';have H:=G.qT (t:=76) (B:=W.heap.size) I (fun g e=>by have e2:g=pm:=e;rw [e2];exact C.aE) (Nat.le_refl _) (fun g e=>by have e2:g=pm:=e;rw [e2];exact hm.base) b9;have O:=hr.keep I (fun g hg e=>hg.ne C.aE b9 e);unfold Hh at D;simp only [List.setIfInBounds_toArray,List.set_cons_zero,List.set_cons_succ]at D;have hcell:(A.setCell ↑(pm,12) v').cell? ↑(pm,12)=some v':=D.cell 12;refine⟨⟨⟨⟨a',c',?_,?_⟩,H,hm.base⟩,?_,fun g R=>?_⟩,C.cell 12,C.frozen 12⟩
 ·rw [<-dF];exact D
 ·rw [<-dF];exact O
 ·refine(((Below.keeps hb1).step hk (fun x hx e=>?_)).step I (fun x hx e=>?_))
  ·exact .inr (.inr ⟨a,E.length,c,F.cell 12,e⟩)
  exact .inr (.inl e)
 obtain⟨a2,n2,c2,h3,h4⟩:=R;rw [hcell]at h3;injection h3 with h3;rw [<-h3]at h4;rcases ho with ho|ho
 ·exact .inl ⟨a,E.length,c,F.cell 12,by rw [<-ho];exact h4⟩
 rw [ho]at h4;injection h4 with h4;exact .inr (by rw [<-h4];exact hb1.size)
end
theorem fA.js {W w:World} {pv n:Nat} {hv:Value} {s:ig} (h:fA W w pv n hv s) {g:Nat} {t:TypeId} (hg:ck w g t) (h1:t≠90) (h2:t≠hH.t):¬wo pv hv g:=by
 obtain⟨a,c,hb,_⟩:=h.box;rintro(e|e)
 ·exact hg.ne hb.aE h1 e
 exact hg.ne (eo h.held g e) h2 rfl
def kA:aF:=⟨1,0,1,5,3,1,false⟩
def kB:aF:=⟨2,0,1,10,3,1,false⟩
theorem Ym:pg (fL kA)=some kA:=Nj ⟨by unfold eB kA;decide,by unfold kA;decide,by unfold eB kA;decide,by unfold eB kA;decide,by unfold eB kA;decide⟩ (.inl rfl)
theorem Yn:pg (fL kB)=some kB:=Nj ⟨by unfold eB kB;decide,by unfold kB;decide,by unfold eB kB;decide,by unfold eB kB;decide,by unfold eB kB;decide⟩ (.inl rfl)
theorem Xm:iF 6 (rM 6) (fL kB)=(32,⟨(rM 6).V,0,[kB]⟩):=by unfold iF;rw [Yn];rfl
def w7:bG:=gm kB (gm kA (rM 6).V)
theorem YS:iF 6 ⟨(rM 6).V,0,[kB]⟩ (fL kA)=(0,⟨w7,2,[]⟩):=by unfold iF;rw [Ym];rfl
theorem QF:w7.length=6:=by unfold w7;rw [CK,CK];rfl
theorem YT:∃d1 d2,w7[0]? =some (d1,d2)∧d1.lv.length=2:=⟨_,_,rfl,by decide+kernel⟩
theorem Hq (w:World):Calls Tryz.prog 18 #[] w fun e w'=>e= .returned (.bool true)∧Below ↑w w w':=by
 have z:∀(w:World) (a:Option Addr) (c:Nat),(Instr.field 43 (.agg #[.slice a 6 c]) 0).run Tryz.prog w= .ok (.slice a 6 c) w:=fun _ _ _=>eP;go_enter Tryz.func18,Tryz.ntmps18;go_wp2_with fail;refine(YU 1 w).mono ?_;rintro e w1 ⟨a,b,rfl,hp,hb⟩;have hz:cR (oO 1 a b)=0:=YV 1 b9 a b;have t:nR (oO 1 a b).months.length=6:=by show nR 3=6;decide
 have hba:=Below.aI w1 (.cells (oO 1 a b).cells 25);have HN:=af (Xn (oO 1 a b) _ (hp.below hba) hz);rw [t]at HN;have W:=af (hb.trans (hba.mono hb.size));unfold Prod.agg Prod.cells oO at*;dsimp only at*;clear hp hz t hba hb;go_wp2_with fail;refine HN.o.mono ?_;rintro e w2 ⟨pv,rfl,j⟩;have r:=af j;clear HN j;generalize w1.alloc _=f at*;go_wp2_with fail;have A:=QG kA w2 b9 (.inl rfl);unfold aF.agg kA at A;refine A.mono ?_;rintro e w3 ⟨va,rfl,K,hb3⟩;have m:=af (r.o.below hb3);have M:=af (show cZ.Row w3 ↑w2 va (fL kA)from K);clear A K hb3 r;go_wp2_with fail;have A:=QG kB w3 b9 (.inl rfl);unfold aF.agg kB at A;refine A.mono ?_;rintro e h ⟨vb,rfl,hrb,hb4⟩;have I:=af (m.o.below hb4);have N:=af (M.o.below hb4);have u:=af (show cZ.Row h ↑w3 vb (fL kB)from hrb);clear A hrb hb4 m M;have ht:=Nk I.o (QH 6) List.Pairwise.nil b9 (Nat.zero_le _) u.o.sl (by rw [Nl];decide) (EO kB);rw [Xm]at ht;have C:=af ht;have G:=EP (b:=fL kB) (EO kB) (QH 6);rw [Xm]at G;have O:Ei (pL 6 1 ⟨(rM 6).V,0,[kB]⟩):=af G;clear ht G;go_wp2_with fail;refine C.o.mono ?_;rintro e aA ⟨rfl,hM,P,d,y⟩;have H:=af P;have Q:=af (N.o.keep d (fun g hg=>I.o.js hg b9 b9));clear C P d y I N u;have E:=af (Nn H.o);go_wp2_with fail;refine E.o.mono ?_;rintro e aN ⟨rfl,rfl⟩;clear E;have ht:=Nk H.o O.o (by simp [sG]) b9 b9 Q.o.sl (by rw [Nl];decide) (EO kA);rw [YS]at ht;have C:=af ht;clear ht;go_wp2_with fail;refine C.o.mono ?_;rintro e bf ⟨rfl,pH,L,kE,v⟩;have D:=af L;have q:Ei (fX w7 800000):=af (by
  have h1:fX (rM 6).V 0:=by intro p hp;have:=List.eq_of_mem_replicate hp;subst this;exact⟨Nat.le_refl _,Nat.le_refl _⟩
  exact(GY (GY h1)).more b9)
 clear C L kE v H Q O;have E:=af (Nn D.o);go_wp2_with fail;refine E.o.mono ?_;rintro e X ⟨rfl,rfl⟩;clear E;have R:=af (Np D.o);go_wp2_with fail;refine R.o.mono ?_;rintro e X ⟨rfl,rfl⟩;clear R;have B:=af (Nq D.o (by show w7.length<=255;rw [QF];decide) q.o (Nat.le_refl _));go_wp2_with fail;refine B.o.mono ?_;rintro e X ⟨lH,rfl,T,l⟩;obtain⟨a8,iC,rfl⟩:=T.form;have F:(ig.V ⟨w7,2,[]⟩).length=6:=QF;rw [F];have J:=af (D.o.below l);clear B D T l;have B:=af (Nq J.o (by show w7.length<=255;rw [QF];decide) q.o (Nat.le_refl _));go_wp2_with fail;refine B.o.mono ?_;rintro e i ⟨v9,rfl,U,Z⟩;have kL:=af (J.o.below Z).aJ;obtain⟨d1,d2,S,hd1⟩:=YT;obtain⟨g,cap,p,k,dr,Y,hq1,hq2⟩:=U.get (x:=(d1,d2)) S;subst k;rw [F];have hn:p.s.n=2:=by rw [hq1.n];exact hd1
 have x0:i.cell? ↑g=some (.slice p.s.a 2 p.s.c):=by have:=Y 0 _ rfl;rw [hn]at this;exact this
 clear B J U Z Y hq1 hq2 S hd1 hn F;go_wp2_with fail;go_ret;exact⟨cF,W.o.trans (kL.o.mono W.o.size)⟩
section
variable {W w:World} {pw n:Nat} {hw:Value} {s:ig} {cc:Nat}
theorem ar3 (h:sM W w pw hw s) (hk:pL n cc s) (oK:cc<=400000) {v:Value} {b:List Int} (hsl:cZ.eT w v b) (hl:b.length<=900000) (hok:∀z∈b,isByte z):
 Calls Tryz.prog 24 #[.pointer ↑pw,v] w fun e w'=>e= .returned (.int .i64 (n3 n s b).1)∧∃hw',sM W w' pw hw' (n3 n s b).2∧aK (wo pw hw) w w'∧∀g,hw'.ownBlock=some g->hw.ownBlock=some g∨w.heap.size<=g:=by
 have hdec:=arV hsl hl hok;obtain⟨r,hr⟩:=ai (n3 n s b);rw [hr];obtain⟨P,B,A,hD⟩:∃x y z,ld b=(x,y,z):=⟨_,_,_,rfl⟩;have bM:Ei (r=(if P≠0 then(P,s)else if B.length≠n∨A<0 then(12,s)else if A<s.seq then(33,s)else(0,RX (s.H.filter (fun m=>decide (A<m.seq))).length ⟨B,A,s.H.filter (fun m=>decide (A<m.seq))⟩))):=af (by rw [<-hr];unfold n3;rw [hD]);have MO:Ei (P=0->xU B∧fX B 255∧B.length<=255∧eB A):=af (fun h0=>by subst h0;exact wO hD);rw [hD]at hdec;have oy:=af hdec;have H0:=af h;have dJ:=af hk;have dQ:=af hk.len;have vR:=af oK;have Ms:Ei (s.H.length<=400000):=af (Nat.le_trans hk.hl oK);clear hdec h hk hsl hl hok hr hD oK;go_enter Tryz.func24,Tryz.ntmps24;go_wp2_with fail;refine oy.o.mono ?_;rintro e w1 ⟨u,rfl,fj,hb⟩;obtain⟨E,D,rfl⟩:=fj.form;go_upto_region 2 with(fail);obtain⟨bt,gb⟩:=ai w1.heap.size;have hba:=Below.aI w1 (.cells #[.slice E B.length D] 54);have fT:av (w1.alloc (.cells #[.slice E B.length D] 54)) ↑w1 54 #[.slice E B.length D]:=av.new _ _ _;rw [gb]at fT⊢;have dc:=af fT;have f:=af (hb.trans (hba.mono hb.size));have X:=af (fj.below hba);clear hb hba fT gb oy fj;generalize w1.alloc (.cells #[.slice E B.length D] 54)=w2 at*;have q:=af (H0.o.below f.o);obtain⟨a2,c2,O,_⟩:=q.o.box;obtain⟨I,ch,gU⟩:=q.o.held.form;subst gU;have jA:=af O;clear O;have BB:Ei (∀wx,Below ↑w2 w2 wx->(∃hw',sM W wx pw hw' s∧aK (wo pw (.slice I s.H.length ch)) w wx∧∀g,hw'.ownBlock=some g->(Value.slice I s.H.length ch).ownBlock=some g∨w.heap.size<=g)):=af fun wx hb=>⟨_,q.o.below hb,Below.keeps (ag f hb).o,fun g hg=> .inl hg⟩;by_cases h0:P=0
 ·have t:=af (MO.o h0);subst h0;have kS:Ei (r=(if B.length≠n∨A<0 then(12,s)else if A<s.seq then(33,s)else(0,RX (s.H.filter (fun m=>decide (A<m.seq))).length ⟨B,A,s.H.filter (fun m=>decide (A<m.seq))⟩))):=af (by rw [bM.o,if_neg (fun h=>h rfl)]);clear bM MO;have k0:=jA.o.GC;have g0:=dc.o.GC;go_wp2_with fail;obtain⟨bb,aP⟩:=ai (decide (B.length≠n)||decide (A<0));have d:=af aP;clear aP;go_cut [32] (fun u wx=>u=↑bb∧∃nq,wx=w2.drewN nq)
  case first=>
   by_cases K:B.length=n
   ·have hlb:((B.length:Int) !=(s.V.length:Int))=false:=by rw [dQ.o,K];simp
    have hb:decide (A<0)=bb:=by rw [<-d.o,show decide (B.length≠n)=false from decide_eq_false (not_not_intro K),Bool.false_or]
    clear K;go_quiet (fail);go_wp2_with fail;go_meet;exact⟨by first|rfl|rw [hb],_,rfl⟩
   have hlb:((B.length:Int) !=(s.V.length:Int))=true:=by rw [bne_iff_ne,dQ.o];omega
   have hb:bb=true:=by rw [<-d.o,decide_eq_true K,Bool.true_or]
   subst hb;go_quiet (fail);go_wp2_with fail;go_meet;exact⟨dn,_,rfl⟩
  case rest=>
  obtain⟨rfl,nq,rfl⟩:=hcut;have C:Below ↑w2 w2 (w2.drewN nq):=Below.bO w2 nq;have oB:=af (dc.o.below C);have uZ:=af (q.o.below C);have a:=af (jA.o.below C);have Y:=af (X.o.below C);have b7:=ag f C;have U:=af C;have L:Ei (∀wx,Below (w2.drewN nq).heap.size (w2.drewN nq) wx->(∃hw',sM W wx pw hw' s∧aK (wo pw (.slice I s.H.length ch)) w wx∧∀g,hw'.ownBlock=some g->(Value.slice I s.H.length ch).ownBlock=some g∨w.heap.size<=g)):=af fun wx hb=>BB.o wx (ag U hb).o;clear C dc q jA X f BB U k0 g0;generalize w2.drewN nq=aN at*;cases bb with
  |true=>have N:Ei (r=(12,s)):=af (by rw [kS.o,if_pos (by have:=d.o;rw [Bool.or_eq_true]at this;rcases this with h|h;exact .inl (of_decide_eq_true h);exact .inr (of_decide_eq_true h))]);go_wp2_with fail;go_ret;rw [N.o];exact⟨cF,L.o _ (Below.refl _ _)⟩
  |false=>
   have hb2:=d.o;rw [Bool.or_eq_false_iff]at hb2;have K:B.length=n:=Decidable.not_not.1 (of_decide_eq_false hb2.1);have jW:¬A<0:=of_decide_eq_false hb2.2;have jR:=af K;have rG:Ei (r=(if A<s.seq then(33,s)else(0,RX (s.H.filter (fun m=>decide (A<m.seq))).length ⟨B,A,s.H.filter (fun m=>decide (A<m.seq))⟩))):=af (by rw [kS.o,if_neg (by rintro(h|h);exact h K;exact jW h)]);clear hb2 K kS d;have k1:=a.o.GD;by_cases hlt:A<s.seq
   ·have N:Ei (r=(33,s)):=af (by rw [rG.o,if_pos hlt]);go_wp2_with fail;go_ret;rw [N.o];exact⟨cF,L.o _ (Below.refl _ _)⟩
   have N:Ei (r=(0,RX (s.H.filter (fun m=>decide (A<m.seq))).length ⟨B,A,s.H.filter (fun m=>decide (A<m.seq))⟩)):=af (by rw [rG.o,if_neg hlt]);have k0:=a.o.GC;have g0:=oB.o.GC;have vt:∀o,aN.frozen? ⟨pw,o,none⟩=false:=fun o=>a.o.frozen o;have R:=af ((uZ.o.Sc (Y.o.base (B':=W.heap.size) H0.o.aJ.size)).Sb A);have T:Ei (aK (wo pw (.slice I s.H.length ch)) w ((aN.setCell ↑pw (.slice E B.length D)).setCell ↑(pw,1) ↑A)):=af ((((Below.keeps (F:=wo pw (.slice I s.H.length ch)) b7.o).setCell (p:=⟨pw,0,none⟩) (fun _=> .inl rfl) _)).setCell (p:=⟨pw,1,none⟩) (fun _=> .inl rfl) _);clear rG;go_upto_region 10 with(fail);clear k0 k1 g0 vt uZ a Y oB b7 L;generalize (aN.setCell ↑pw (.slice E B.length D)).setCell ⟨pw,1,none⟩ ↑A=bZ at*;have TJ:=Ms.o;go_wp2_with fail;go_loopw [9,8] (fun i hv w'=>∃(k:Nat) (cJ:Option Addr) (l aY:Nat),i=↑k∧hv= .slice cJ l aY∧k<=s.H.length∧((s.H.take k).filter (fun m=>decide (A<m.seq))).length=l∧hH.Row w' ↑bZ (.slice cJ l aY) ((s.H.take k).filter (fun m=>decide (A<m.seq)))∧Below ↑bZ bZ w') (fun i _ _=>s.H.length-(RowKit.intOf i).toNat)
   case atStart=>exact⟨0,none,0,0,rfl,rfl,Nat.zero_le _,rfl,bl.Row.nil _ _,Below.refl _ _⟩
   obtain⟨k,cJ,l,aY,rfl,rfl,hk,A2,hrow,hbz⟩:=hrel;obtain⟨ax,rfl⟩:=aj wr;have iu:=af A2;have j:=af hrow;have fZ:=af hbz;have G:=af (R.o.below hbz);obtain⟨a9,kp,O,_⟩:=G.o.box;have Z:=af O;have k2:=O.Je;clear A2 hrow hbz O;by_cases sF:k<s.H.length
   ·have Ni:(k:Int)<(s.H.length:Int):=by omega
    obtain⟨x,hx⟩:=GB s.H k sF;have dN:Ei (s.H.take (k+1)=s.H.take k++ [x]):=af (kH hx);obtain⟨bE,cap,he,_,J⟩:=G.o.held.at_ k x hx;injection he with eb _ eS;subst eb;subst eS;have x0:ax.cell? ↑(bE,k*7)=↑x.seq:=J 0 _ rfl;have x1:ax.cell? ↑(bE,k*7+1)=↑x.inst:=J 1 _ rfl;have aZ:ax.cell? ↑(bE,k*7+2)=↑x.side:=J 2 _ rfl;have cl:ax.cell? ↑(bE,k*7+3)=↑x.ap:=J 3 _ rfl;have cw:ax.cell? ↑(bE,k*7+4)=↑x.aq:=J 4 _ rfl;have eK:ax.cell? ↑(bE,k*7+5)=↑x.count:=J 5 _ rfl;have gF:ax.cell? ↑(bE,k*7+6)=↑x.imp:=J 6 _ rfl;clear J hx;by_cases hgt:A<x.seq
    ·have c:Ei ((s.H.take (k+1)).filter (fun m=>decide (A<m.seq))=(s.H.take k).filter (fun m=>decide (A<m.seq))++ [x]):=af (by rw [dN.o,List.filter_append];congr 1;exact List.filter_cons_of_pos (by exact decide_eq_true hgt));have hba:=Below.aI ax (.cells #[↑x.seq,↑x.inst,↑x.side,↑x.ap,↑x.aq,↑x.count,↑x.imp] 86);have c8:Ei (av (ax.alloc (.cells #[↑x.seq,↑x.inst,↑x.side,↑x.ap,↑x.aq,↑x.count,↑x.imp] 86)) ↑ax 86 (aF.cells x).toArray):=af (av.new _ _ _);have uJ:=af (j.o.below hba);have M:=ag fZ hba;have uL:Ei (((s.H.take k).filter (fun m=>decide (A<m.seq))).length+1<=1000000):=af (by have:=List.length_filter_le (fun m:aF=>decide (A<m.seq)) (s.H.take k);rw [List.length_take]at this;omega);clear hba;go_wp2_with (first
      |(at_builtin;go_loud (refine hH.push rfl (.tmp 66) (.tmp 74) rfl ↑bZ (.slice cJ l aY) ((s.H.take k).filter (fun m=>decide (A<m.seq))) rfl uJ.o ↑ax x rfl c8.o.lt c8.o.gH uL.o M.o.size ?_)))
     intro v' bW jV gC _;have gD:=iJ gC M.o (cS uJ.o);obtain⟨a5,b8,hM⟩:=jV.form;rw [List.length_append,List.length_singleton,iu.o]at hM;subst hM;rw [<-c.o]at jV;have Jv:=af jV;have B0:=af gD;clear jV gC gD c8 uJ M uL k2 x0 x1 aZ cl cw eK gF;go_wp2_with fail;go_roundw
     case rel=>exact⟨k+1,a5,l+1,b8,dR,rfl,sF,by rw [c.o,List.length_append,List.length_singleton,iu.o],Jv.o,B0.o⟩
     exact Ej
    have c:Ei ((s.H.take (k+1)).filter (fun m=>decide (A<m.seq))=(s.H.take k).filter (fun m=>decide (A<m.seq))):=af (by rw [dN.o,List.filter_append,List.filter_cons_of_neg (by rw [decide_eq_false hgt];decide),List.filter_nil,List.append_nil]);go_wp2_with fail;go_roundw
    case rel=>exact⟨k+1,cJ,l,aY,dR,rfl,sF,by rw [c.o,iu.o],by rw [c.o];exact j.o,fZ.o⟩
    exact Ej
   have eR:k=s.H.length:=bh;have S:Ei (s.H.take k=s.H):=af (by rw [eR,List.take_length]);rw [S.o]at iu j;have vt:ax.frozen? ↑(pw,2)=false:=Z.o.frozen 2;have mv:=af (G.o.Ql (j.o.base (B':=W.heap.size) R.o.aJ.size));have Q:Ei (aK (wo pw (.slice I s.H.length ch)) w (ax.setCell ↑(pw,2) (.slice cJ l aY))):=af ((T.o.trans (Below.keeps fZ.o)).setCell (p:=⟨pw,2,none⟩) (fun _=> .inl rfl) _);have xA:Ei (∀g,(Value.slice cJ l aY).ownBlock=some g->w.heap.size<=g):=af fun g hg=>Nat.le_trans T.o.size (cS j.o g hg);clear eR S;go_upto_region 17 with(fail);clear k2 vt Z G;generalize ax.setCell ⟨pw,2,none⟩ (.slice cJ l aY)=bW at*;have hlv:B.length=s.V.length:=by rw [jR.o,dQ.o]
   have hmk:∀m∈s.H.filter (fun m=>decide (A<m.seq)),Bc B.length m:=fun m hm=>by rw [jR.o];exact dJ.o.hh m (List.mem_filter.1 hm).1
   have hfl:=List.length_filter_le (fun m:aF=>decide (A<m.seq)) s.H;have Kh:=af (JR mv.o (by exact t.o.2.2.1) ⟨255,t.o.2.1,by dsimp only;omega⟩ t.o.1 hmk (by show 0<=A;omega) (by exact t.o.2.2.2.2));clear hlv hmk hfl;go_wp2_with fail;refine Kh.o.mono ?_;rintro e AE ⟨rfl,hw',dZ,lm,LC⟩;have zn:=af dZ;have l8:Ei (aK (wo pw (.slice I s.H.length ch)) w AE):=af (Q.o.step lm (fun i _ he=> .inl he));have Ai:Ei (∀g,hw'.ownBlock=some g->(Value.slice I s.H.length ch).ownBlock=some g∨w.heap.size<=g):=af fun g hg=>by
    rcases LC g hg with h|h
    ·exact .inr (xA.o g h)
    exact .inr (Nat.le_trans Q.o.size h)
   clear dZ lm LC Kh;go_wp2_with fail;go_ret;rw [N.o];exact⟨cF,hw',zn.o,l8.o,Ai.o⟩
 have xN:(P !=0)=true:=by rw [bne_iff_ne];exact h0
 have N:Ei (r=(P,s)):=af (by rw [bM.o,if_pos h0]);clear h0;go_wp2_with fail;go_ret;rw [N.o];exact⟨cF,BB.o _ (Below.refl _ _)⟩
end
section
variable {W jJ w w1 w2:World} {pv pw n c:Nat} {hv hw dF hw':Value} {s t s' t':ig}
theorem sM.aE (h:sM W w pw hw t):ck w pw 116:=by obtain⟨a,c,hb,_⟩:=h.box;exact hb.aE
theorem fA.aE (h:fA W w pv n hv s):ck w pv 90:=by obtain⟨a,c,hb,_⟩:=h.box;exact hb.aE
theorem sM.js (h:sM W w pw hw t) {g:Nat} {y:TypeId} (hg:ck w g y) (h1:y≠116) (h2:y≠hH.t):¬wo pw hw g:=by
 rintro(e|e)
 ·exact hg.ne h.aE h1 e
 exact hg.ne (eo h.held g e) h2 rfl
theorem sM.Hg (h:sM W w pw hw t) (hb:Below ↑jJ jJ W):sM jJ w pw hw t:=by obtain⟨⟨a,c,h1,h2⟩,h3,h4,h5⟩:=h;exact⟨⟨a,c,h1,h2.base hb.size⟩,h3.base hb.size,Nat.le_trans hb.size h4,hb.trans (h5.mono hb.size)⟩
theorem fA.Hg (h:fA W w pv n hv s) (hb:Below ↑jJ jJ W):fA jJ w pv n hv s:=by obtain⟨⟨a,c,h1,h2⟩,h3,h4,h5⟩:=h;exact⟨⟨a,c,h1,h2.base hb.size⟩,h3.base hb.size,Nat.le_trans hb.size h4,hb.trans (h5.mono hb.size)⟩
theorem sM.ase (hr:sM W w pw hw t) (h:fA W w pv n hv s) (jP:∀g,hv.ownBlock=some g->hw.ownBlock≠some g) (hk:aK (wo pv hv) w w1):sM W w1 pw hw t:=
 hr.keep hk (h.js hr.aE b9 b9) (fun g hg=>by
   rintro(e|e)
   ·exact(eo hr.held g hg).ne h.aE b9 e
   ·exact jP g e hg) (fun g hg=>h.js hg b9 b9) (fun g hg=>h.js hg b9 b9) (fun g hg=>by
   rcases hg with e|e
   ·rw [e];exact h.base
   exact cS h.held g e)
theorem fA.asf (h:fA W w pv n hv s) (hr:sM W w pw hw t) (jP:∀g,hv.ownBlock=some g->hw.ownBlock≠some g) (hk:aK (wo pw hw) w w1):fA W w1 pv n hv s:=
 h.keep hk (hr.js h.aE b9 b9) (fun g hg=>by
   rintro(e|e)
   ·exact(eo h.held g hg).ne hr.aE b9 e
   ·exact jP g hg e) (fun g hg=>hr.js hg b9 b9) (fun g hg=>hr.js hg b9 b9) (fun g hg=>by
   rcases hg with e|e
   ·rw [e];exact hr.base
   exact cS hr.held g e)
theorem pL.Nu (h:pL n c s) (r:Rel s t):pL n c t:=by obtain⟨h1,h2,h3,h4,h5,h6,h7⟩:=h;obtain⟨r1,r2,A,_,_⟩:=r;exact⟨by rw [r1];exact h1,by rw [r1];exact h2,by rw [r2];exact h3,by rw [r2];exact h4,fun m hm=>h5 m (A.mem_iff.1 hm),by rw [A.length_eq];exact h6,by rw [r1,A.length_eq];exact h7⟩
structure gl (W w:World) (pv pw n:Nat) (hv hw:Value) (s t:ig) (c B:Nat):Prop where
 v:fA W w pv n hv s
 r:sM W w pw hw t
 jP:∀g,hv.ownBlock=some g->hw.ownBlock≠some g
 rel:Rel s t
 ok:pL n c s
 bv:∀g,hv.ownBlock=some g->B<=g
 RJ:∀g,hw.ownBlock=some g->B<=g
 XR:B<=w.heap.size
theorem gl.below {B:Nat} (h:gl W w pv pw n hv hw s t c B) (hb:Below ↑w w w1):gl W w1 pv pw n hv hw s t c B:=
 ⟨h.v.below hb,h.r.below hb,h.jP,h.rel,h.ok,h.bv,h.RJ,Nat.le_trans h.XR hb.size⟩
theorem gl.more {B d:Nat} (h:gl W w pv pw n hv hw s t c B) (hd:c<=d):gl W w pv pw n hv hw s t d B:=
 ⟨h.v,h.r,h.jP,h.rel,h.ok.more hd,h.bv,h.RJ,h.XR⟩
theorem asg {B:Nat} (h:gl W w pv pw n hv hw s t c B) (ho:∀g,dF.ownBlock=some g->hv.ownBlock=some g∨w.heap.size<=g):∀g,dF.ownBlock=some g->hw.ownBlock≠some g:=fun g hg e=>by
 rcases ho g hg with h1|h1
 ·exact h.jP g h1 e
 have:=ki h.r.held g e;omega
theorem gl.one {B:Nat} (h:gl W w pv pw n hv hw s t c B) (hk:aK (wo pv hv) w w1):sM W w1 pw hw t:=h.r.ase h.v h.jP hk
theorem gl.two {B d:Nat} (h:gl W w pv pw n hv hw s t c B) (hv1:fA W w1 pv n dF s') (D:aK (wo pv hv) w w1) (C:∀g,dF.ownBlock=some g->hv.ownBlock=some g∨w.heap.size<=g)
 (E:sM W w2 pw hw' t') (hk2:aK (wo pw hw) w1 w2) (A:∀g,hw'.ownBlock=some g->hw.ownBlock=some g∨w1.heap.size<=g) (hrel:Rel s' t') (hok:pL n d s'):gl W w2 pv pw n dF hw' s' t' d B:=by
 have a1:=asg h C;have s1:=D.size;have s2:=hk2.size;refine⟨hv1.asf (h.one D) a1 hk2,E,fun g hg e=>?_,hrel,hok,fun g hg=>?_,fun g hg=>?_,Nat.le_trans h.XR (Nat.le_trans s1 s2)⟩
 ·rcases A g e with h1|h1
  ·exact a1 g hg h1
  have:=ki hv1.held g hg;omega
 ·rcases C g hg with h1|h1
  ·exact h.bv g h1
  exact Nat.le_trans h.XR h1
 rcases A g hg with h1|h1
 ·exact h.RJ g h1
 exact Nat.le_trans h.XR (Nat.le_trans s1 h1)
theorem gl.Cd {B g:Nat} {y:TypeId} {cs:Array Value} (h:gl W w pv pw n hv hw s t c B) (A:aK (wo pv hv) w w1) (hk2:aK (wo pw hw) w1 w2) (hg:av w g y cs) (h1:y≠90) (h2:y≠116) (h3:y≠hH.t∨g<B):av w2 g y cs:=by
 have e1:¬wo pv hv g:=by
  rintro(e|e)
  ·exact hg.aE.ne h.v.aE h1 e
  rcases h3 with h3|h3
  ·exact hg.aE.ne (eo h.v.held g e) h3 rfl
  have:=h.bv g e;omega
 have C:=hg.keeps A e1;refine C.keeps hk2 ?_;rintro(e|e)
 ·exact C.aE.ne (h.one A).aE h2 e
 rcases h3 with h3|h3
 ·exact C.aE.ne (eo (h.one A).held g e) h3 rfl
 have:=h.RJ g e;omega
theorem gl.row {B B':Nat} {v:Value} {b:List Int} (h:gl W w pv pw n hv hw s t c B) (A:aK (wo pv hv) w w1) (hr:cZ.Row w B' v b):cZ.Row w1 B' v b:=hr.keep A (fun g hg=>h.v.js hg b9 b9)
theorem ash {B':Nat} {v:Value} {b:List Int} (hr:cZ.Row w B' v b) (hl:1<=b.length):∃g cap,v= .slice (some ⟨g,0,none⟩) b.length cap∧b.length<=cap:=by obtain⟨x,hx⟩:=GB b 0 hl;obtain⟨g,cap,e,_,_⟩:=hr.at_ 0 x hx;obtain⟨a',c',e',ho,_⟩:=hr.sl;rw [e]at e';injection e' with _ _ bJ;exact⟨g,cap,e,by rw [bJ];exact ho.2.2⟩
end
end Go.Proofs.YtmaijkoopjocdaaGreat
