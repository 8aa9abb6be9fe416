import Derived.Test.YtmaijkoopjocdaaGreatKV24
import Derived.Test.YtmaijkoopjocdaaGreatKV22
import Derived.Test.YtmaijkoopjocdaaGreatKV21
set_option maxRecDepth 100000
set_option maxHeartbeats 64000000
namespace Go.Proofs.YtmaijkoopjocdaaGreat
open Go.RowKit Go.Lib
def mV (p:aX×aX):Bool:=ji 1 p.1&&ji 2 p.2
theorem ajA (V:bG):ql V=(V.all mV&&decide (V.length≤255)):=rfl
theorem Zb {V:bG} {k:Nat} {x:aX×aX} (hx:V[k]? =some x):(V.drop k).all mV=(mV x&&(V.drop (k+1)).all mV):=by
 obtain⟨h1,h2⟩:=lB hx;rw [List.drop_eq_getElem_cons h1,h2,List.all_cons]
section
variable {w w':World}
theorem ajB {B:Nat} {a:Option Addr} {c:Nat} {V:bG} (h:cg ey bS w B (.slice a V.length c) V) (hl:V.length≤800000) (hK:fX V 800000):
 Calls Tryz.prog 94 #[.agg #[.slice a V.length c]] w fun e w'=>e= .returned (.bool (ql V))∧Below w.heap.size w w':=by
 rw [ajA];have hba:=Below.aI w (.cells #[.slice a V.length c] 43);have bU:Hid (av (w.alloc (.cells #[.slice a V.length c] 43)) w.heap.size 43 #[.slice a V.length c]):=af (av.new _ _ _);have aG:=af hba;have bM:=af (h.below hba);have e7:=af hK;clear hba h hK;go_enter Tryz.func94,Tryz.ntmps94
 go_upto_region 1 with(fail)
 obtain⟨g,hg⟩:=ai w.heap.size;rw [hg]at bU⊢;clear hg;generalize w.alloc (.cells #[.slice a V.length c] 43)=w1 at*;have c0:w1.cell? ↑g=some (.slice a V.length c):=bU.out.cell 0;go_wp2_with fail
 go_loopw [8] (fun i w'=>∃k:Nat,i=↑k∧k≤V.length∧V.all mV=(V.drop k).all mV∧Below w1.heap.size w1 w') (fun i _=>V.length-(RowKit.intOf i).toNat)
 case atStart=>exact⟨0,rfl,Nat.zero_le _,rfl,Below.refl _ _⟩
 case round=>
  clear c0;obtain⟨k,rfl,hk,fk,hb⟩:=hrel;obtain⟨ax,rfl⟩:=aj wr;have iT:=af fk;have fZ:=af hb;have xJ:=af (bU.out.below hb);have BW:=af (bM.out.below hb);clear fk hb;by_cases hlt:k<V.length
  ·have hlt':(k:Int)<(V.length:Int):=by omega
   obtain⟨x,hx⟩:∃x,V[k]? =some x:=⟨_,List.getElem?_eq_getElem hlt⟩;have gG:=af (Zb hx);obtain⟨bE,cap,p,he,_,cD,hs1,fD⟩:=BW.out.get hx;injection he with eb _ eS;subst eb;subst eS;obtain⟨d1,d2⟩:=x;have cN:=e7.out (d1,d2) (List.mem_of_getElem? hx);obtain⟨⟨a1,n1,e1,⟨p1,q1,r1⟩,f1⟩,⟨a2,n2,e2,⟨p2,ic,r2⟩,f2⟩⟩:=p;have x0:ax.cell? ⟨bE,k*10,none⟩=some (.slice a1 n1 e1):=cD 0 _ rfl;have x1:ax.cell? ⟨bE,k*10+1,none⟩=some ↑p1:=cD 1 _ rfl;have aZ:ax.cell? ⟨bE,k*10+2,none⟩=some ↑q1:=cD 2 _ rfl;have cl:ax.cell? ⟨bE,k*10+3,none⟩=some ↑r1:=cD 3 _ rfl;have cw:ax.cell? ⟨bE,k*10+4,none⟩=some ↑f1:=cD 4 _ rfl;have eK:ax.cell? ⟨bE,k*10+5,none⟩=some (.slice a2 n2 e2):=cD 5 _ rfl;have gF:ax.cell? ⟨bE,k*10+6,none⟩=some ↑p2:=cD 6 _ rfl;have g5:ax.cell? ⟨bE,k*10+7,none⟩=some ↑ic:=cD 7 _ rfl;have k5:ax.cell? ⟨bE,k*10+8,none⟩=some ↑r2:=cD 8 _ rfl;have sB:ax.cell? ⟨bE,k*10+9,none⟩=some ↑f2:=cD 9 _ rfl;have dW:=af hs1;have cA:=af fD;have nj:=af cN;clear cD hx hs1 fD cN;obtain⟨aL,fO⟩:=ai ax.heap.size;go_upto_region 4 with(fail)
   have cx:=Below.aI ax (.cells #[.slice a1 n1 e1,↑p1,↑q1,↑r1,↑f1,.slice a2 n2 e2,↑p2,↑ic,↑r2,↑f2] 50);have FH:av (ax.alloc (.cells #[.slice a1 n1 e1,↑p1,↑q1,↑r1,↑f1,.slice a2 n2 e2,↑p2,↑ic,↑r2,↑f2] 50)) ax.heap.size 50 #[.slice a1 n1 e1,↑p1,↑q1,↑r1,↑f1,.slice a2 n2 e2,↑p2,↑ic,↑r2,↑f2]:=av.new _ _ _;rw [fO]at FH;have bY:=af (aG.out.trans ((ag fZ cx).out.mono aG.out.size));have Dl:=ag fZ cx;have aaw:=af (dW.out.below cx);have aax:=af (cA.out.below cx);have fy:=af FH;clear cx FH fO x0 x1 aZ cl cw eK gF g5 k5 sB xJ BW fZ dW cA;generalize ax.alloc (.cells #[.slice a1 n1 e1,↑p1,↑q1,↑r1,↑f1,.slice a2 n2 e2,↑p2,↑ic,↑r2,↑f2] 50)=aA at*;obtain⟨x0,x1,aZ,cl,cw⟩:=fy.out.amx;have lV:=af (aau aaw.out 1 nj.out.1);obtain⟨b1,hb1⟩:=ai (ji 1 d1);obtain⟨b2,hb2⟩:=ai (ji 2 d2);have bp:Hid (mV (d1,d2)=(b1&&b2)):=af (by unfold mV;rw [←hb1,←hb2]);have aS:=af hb2;rw [hb1]at lV;clear hb1 hb2;go_wp2_with fail
   refine lV.out.mono ?_;rintro e aN ⟨rfl,bI⟩;have aay:=af (aax.out.below bI);have AU:=af (fy.out.below bI);have b7:=ag bY bI;have SP:=ag Dl bI;clear bI lV x0 x1 aZ cl cw aaw aax fy Dl bY;cases b1 with
   |false=>
    have b5:Hid (V.all mV=false):=af (by rw [iT.out,gG.out,bp.out,Bool.false_and,Bool.false_and]);go_wp2_with fail
    go_ret;exact⟨by rw [b5.out];try rfl,b7.out⟩
   |true=>
    have eK:aN.cell? ⟨aL,5,none⟩=some (.slice a2 n2 e2):=AU.out.cell 5;have gF:aN.cell? ⟨aL,6,none⟩=some ↑p2:=AU.out.cell 6;have g5:aN.cell? ⟨aL,7,none⟩=some ↑ic:=AU.out.cell 7;have k5:aN.cell? ⟨aL,8,none⟩=some ↑r2:=AU.out.cell 8;have sB:aN.cell? ⟨aL,9,none⟩=some ↑f2:=AU.out.cell 9;have qV:=af (aau aay.out 2 nj.out.2);rw [aS.out]at qV;go_wp2_with fail
    refine qV.out.mono ?_;rintro e bf ⟨rfl,jn⟩;have dP:=ag b7 jn;have HG:=ag SP jn;clear jn qV eK gF g5 k5 sB aay AU SP b7;cases b2 with
    |false=>
     have b5:Hid (V.all mV=false):=af (by rw [iT.out,gG.out,bp.out,Bool.true_and,Bool.false_and]);go_wp2_with fail
     go_ret;exact⟨by rw [b5.out];try rfl,dP.out⟩
    |true=>
     have HN:Hid (V.all mV=(V.drop (k+1)).all mV):=af (by rw [iT.out,gG.out,bp.out,Bool.true_and,Bool.true_and]);go_wp2_with fail
     go_roundw
     case rel=>exact⟨k+1,by go_num,hlt,HN.out,HG.out⟩
     case measure=>simp [RowKit.intOf];omega
  ·have eR:k=V.length:=by omega
   have kx:Hid (V.all mV=true):=af (by rw [iT.out,eR,List.drop_length];rfl);have cH:=ah aG fZ;have g0:ax.cell? ↑g=some (.slice a V.length c):=xJ.out.cell 0;obtain⟨b1,hb1⟩:=ai (decide (V.length≤255));have ajz:decide ((V.length:Int)≤255)=b1:=by rw [←hb1];exact decide_eq_decide.2 (by omega)
   have bA:=af hb1;clear eR hb1 iT xJ BW fZ;go_wp2_with fail
   go_ret;exact⟨by rw [kx.out,Bool.true_and,bA.out];try rfl,cH.out⟩
end
def gR (id:Int):Nat→List (List aC)→Option (Nat×aC)
 |_,[]=>none
 |k,L::t=>if(vQ L id).2=true then some (k,(vQ L id).1)else gR id (k+1) t
def xe (o:Option (Nat×aC)):Value:=match o with
 |none=> .tuple #[.int .i64 0,.agg #[.int .i64 0,.int .i64 0,.int .i64 0,.int .i64 0,.bool false],.bool false]
 |some (i,x)=> .tuple #[↑i,.agg #[↑x.id,↑x.side,↑x.ap,↑x.aq,↑x.top],.bool true]
section
variable {W w w':World} {ps pb:Nat} {p:Prod} {Q:List Nat} {S:List (List aC)} {L L':List aC}
theorem akd {id:Int} {k:Nat} (h:S[k]? =some L):gR id k (S.drop k)=if(vQ L id).2=true then some (k,(vQ L id).1)else gR id (k+1) (S.drop (k+1)):=by
 obtain⟨h1,h2⟩:=lB h;rw [List.drop_eq_getElem_cons h1,h2];rfl
theorem Ep (h:eH W w ps p Q S) (hl:S.length≤100) (hL:∀L∈S,L.length≤250) (id:Int):
 Calls Tryz.prog 65 #[.pointer ↑ps,↑id] w fun e w'=>e= .returned (xe (gR id 0 S))∧Below w.heap.size w w':=by
 obtain⟨a,c,aT,hrow⟩:=h.box;obtain⟨n,hn⟩:=ai Q.length;have q4:S.length=n:=by rw [←h.len];exact hn
 rw [hn]at aT hrow;have hba:=Below.aI w (.cells #[.int .i64 0,.int .i64 0,.int .i64 0,.int .i64 0,.bool false] 139);have bU:Hid (av (w.alloc (.cells #[.int .i64 0,.int .i64 0,.int .i64 0,.int .i64 0,.bool false] 139)) w.heap.size 139 #[.int .i64 0,.int .i64 0,.int .i64 0,.int .i64 0,.bool false]):=af (av.new _ _ _);have H:=af (h.below hba);have jX:=af (aT.below hba);have cY:=af (hrow.below hba);have aG:=af hba;have oP:=af q4;have rH:=af hn;have iu:=af hL;rw [q4]at hl;clear hba h aT hrow q4 hn hL;go_enter Tryz.func65,Tryz.ntmps65
 go_upto_region 1 with(fail)
 obtain⟨g,hg⟩:=ai w.heap.size;have p0:=af hg;rw [hg]at bU⊢;clear hg;generalize w.alloc (.cells _ 139)=w1 at*;go_wp2_with fail
 go_loopw [7] (fun i w'=>∃k:Nat,i=↑k∧k≤n∧gR id 0 S=gR id k (S.drop k)∧Below w1.heap.size w1 w') (fun i _=>n-(RowKit.intOf i).toNat)
 case atStart=>exact⟨0,rfl,Nat.zero_le _,by rw [List.drop_zero],Below.refl _ _⟩
 case round=>
  obtain⟨k,rfl,hk,fk,hbz⟩:=hrel;obtain⟨ax,rfl⟩:=aj wr;have iT:=af fk;have fZ:=af hbz;have dS:ax.cell? ⟨ps,11,none⟩=some (.slice a n c):=(jX.out.below hbz).cell 11;clear fk hbz;by_cases hlt:k<n
  ·have hlt':(k:Int)<(n:Int):=by omega
   obtain⟨x,L,hq,hs,hrb⟩:=(H.out.below fZ.out).get (by rw [oP.out];exact hlt);obtain⟨dU,m6,e,_,_⟩:=cY.out.at_ k x hq;rw [rH.out]at e;injection e with e1 _ bJ;subst e1;subst bJ;have q0:ax.cell? ⟨dU,k,none⟩=some (.pointer ↑x):=Lu (cY.out.below fZ.out) hq;have gG:=af (akd (id:=id) hs);have bg:=af (ahh hrb (iu.out L (List.mem_of_getElem? hs)) id);obtain⟨o,fb,hfo⟩:∃o b,vQ L id=(o,b):=⟨_,_,rfl⟩;rw [hfo]at bg gG;clear hq hs hrb hfo;go_wp2_with fail
   refine bg.out.mono ?_;rintro e w2 ⟨he,hb2⟩;obtain⟨oi,os,op,fP,q8⟩:=o;subst he;have aS:=af hb2;have hba:=Below.aI w2 (.cells #[↑oi,↑os,↑op,↑fP,↑q8] 139);have e9:Hid (av (w2.alloc (.cells #[↑oi,↑os,↑op,↑fP,↑q8] 139)) w2.heap.size 139 #[↑oi,↑os,↑op,↑fP,↑q8]):=af (av.new _ _ _);have aQ:=af ((ag fZ hb2).out.trans (hba.mono (ag fZ hb2).out.size));clear hb2 hba bg;simp only [aC.cells,List.toArray];cases fb with
   |false=>
    go_wp2_with fail
    go_roundw
    case rel=>exact⟨k+1,by go_num,hlt,by rw [iT.out,gG.out];rfl,aQ.out⟩
    case measure=>simp [RowKit.intOf];omega
   |true=>
    have bR:Hid (xe (gR id 0 S)= .tuple #[↑k,.agg #[↑oi,↑os,↑op,↑fP,↑q8],.bool true]):=af (by rw [iT.out,gG.out];rfl);have eL:Hid (av (w2.alloc (.cells #[↑oi,↑os,↑op,↑fP,↑q8] 139)) g 139 #[.int .i64 0,.int .i64 0,.int .i64 0,.int .i64 0,.bool false]):=af (bU.out.below aQ.out);have m7:Hid (g<w2.heap.size):=af (Nat.lt_of_lt_of_le bU.out.lt (ah fZ aS).out.size);go_upto_region 6 with(fail)
    obtain⟨go,nk⟩:=ai w2.heap.size;rw [nk]at e9 m7⊢;clear nk aS;generalize w2.alloc (.cells _ 139)=w3 at*;have c0:=e9.out.cell 0;have c1:=e9.out.cell 1;have c2:=e9.out.cell 2;have c3:=e9.out.cell 3;have dH:=e9.out.cell 4;refine cP (S:=fun w'=>w'.cell? ↑go=some ↑oi∧w'.cell? ⟨go,1,none⟩=some ↑os∧w'.cell? ⟨go,2,none⟩=some ↑op∧w'.cell? ⟨go,3,none⟩=some ↑fP∧w'.cell? ⟨go,4,none⟩=some ↑q8) ⟨c0,c1,c2,c3,dH⟩ fun hHeld=>?_;refine au 0 ?_;refine au 1 ?_;refine aU 2 fun K hK=>?_;go_simp;refine hK.out _ _ hHeld (fun hHeld=>?_);clear hK K;obtain⟨l0,l1,l2,l3,l4⟩:=eL.out.amx;have fz:∀o,w3.frozen? ⟨g,o,none⟩=false:=fun o=>eL.out.frozen o;refine aU 3 fun K hK=>?_;go_simp;clear l0 l1 l2 l3 l4 fz;have hz:=av.qc eL.out ↑oi ↑os ↑op ↑fP ↑q8;have y4:=aK.qc w3 g ↑oi ↑os ↑op ↑fP ↑q8;have hbz:=(ah aG aQ).out.trans (y4.below (B:=w.heap.size) (fun k hk=>by have hk2:k=g:=hk;rw [hk2];exact Nat.le_of_eq p0.out) (ah aG aQ).out.size);have nk:av (((((w3.setCell ↑g ↑oi).setCell ⟨g,1,none⟩ ↑os).setCell ⟨g,2,none⟩ ↑op).setCell ⟨g,3,none⟩ ↑fP).setCell ⟨g,4,none⟩ ↑q8) go 139 #[↑oi,↑os,↑op,↑fP,↑q8]:=e9.out.keeps y4 (fun e=>by have e2:go=g:=e;have:=m7.out;omega);generalize (((((w3.setCell ↑g ↑oi).setCell ⟨g,1,none⟩ ↑os).setCell ⟨g,2,none⟩ ↑op).setCell ⟨g,3,none⟩ ↑fP).setCell ⟨g,4,none⟩ ↑q8)=az at*;have eI:Hid (Below w.heap.size w az.drew):=af (hbz.drew);have ec:=af hz.drew;have uU:=af nk.drew;clear hbz y4 hz nk c0 c1 c2 c3 dH;generalize az.drew=aA at*;have c0:=uU.out.cell 0;have c1:=uU.out.cell 1;have c2:=uU.out.cell 2;have c3:=uU.out.cell 3;have dH:=uU.out.cell 4;refine hK.out _ _ ⟨c0,c1,c2,c3,dH⟩ (fun hHeld=>?_);clear hK K hHeld;refine dY 4 fun K hK=>?_;go_simp;refine hK.out _ _ ?_;clear hK K c0 c1 c2 c3 dH;have k0:=ec.out.cell 0;have k1:=ec.out.cell 1;have k2:=ec.out.cell 2;have di:=ec.out.cell 3;have jc:=ec.out.cell 4;go_wp2_with fail
    refine bodyPost_ret (v:= .tuple #[↑k,.agg #[↑oi,↑os,↑op,↑fP,↑q8],.bool true]) (by simp [results,Tryz.results65,go_sem,k0,k1,k2,di,jc]) rfl ⟨by rw [bR.out],eI.out⟩
  ·have hkn:k=n:=by omega
   have bR:Hid (xe (gR id 0 S)= .tuple #[.int .i64 0,.agg #[.int .i64 0,.int .i64 0,.int .i64 0,.int .i64 0,.bool false],.bool false]):=af (by rw [iT.out,hkn,←oP.out,List.drop_length];rfl);have eL:=af (bU.out.below fZ.out);have eI:=ah aG fZ;clear hkn;obtain⟨l0,l1,l2,l3,l4⟩:=eL.out.amx;have fz:∀o,ax.frozen? ⟨g,o,none⟩=false:=fun o=>eL.out.frozen o;go_wp2_with fail
   clear l0 l1 l2 l3 l4 fz;have hz:=av.qc eL.out (.int .i64 0) (.int .i64 0) (.int .i64 0) (.int .i64 0) (.bool false);have y4:=aK.qc ax g (.int .i64 0) (.int .i64 0) (.int .i64 0) (.int .i64 0) (.bool false);have hbz:=eI.out.trans (y4.below (B:=w.heap.size) (fun k hk=>by have hk2:k=g:=hk;rw [hk2];exact Nat.le_of_eq p0.out) eI.out.size);generalize (((((ax.setCell ↑g (.int .i64 0)).setCell ⟨g,1,none⟩ (.int .i64 0)).setCell ⟨g,2,none⟩ (.int .i64 0)).setCell ⟨g,3,none⟩ (.int .i64 0)).setCell ⟨g,4,none⟩ (.bool false))=az at*;have k0:=hz.cell 0;have k1:=hz.cell 1;have k2:=hz.cell 2;have di:=hz.cell 3;have jc:=hz.cell 4;refine bodyPost_ret (v:= .tuple #[.int .i64 0,.agg #[.int .i64 0,.int .i64 0,.int .i64 0,.int .i64 0,.bool false],.bool false]) (by simp [results,Tryz.results65,go_sem,k0,k1,k2,di,jc]) rfl ⟨by rw [bR.out],hbz⟩
end
theorem Zv (side:Int) (h:side=1∨side=2) (w:World):
 Calls Tryz.prog 111 #[↑side] w fun e w'=>e= .returned (.int .i64 (3-side))∧w=w':=by
 go_enter Tryz.func111,Tryz.ntmps111
 rcases h with rfl|rfl
 ·go_wp2_with fail
  go_ret;exact⟨by go_num,by trivial⟩
 ·go_wp2_with fail
  go_ret;exact⟨by go_num,by trivial⟩
theorem ZD (side x y:Int) (w:World):
 Calls Tryz.prog 135 #[↑side,↑x,↑y] w fun e w'=>e= .returned (.bool (!cT side x y))∧w=w':=by
 have aG:=af (Gx side x y w);go_enter Tryz.func135,Tryz.ntmps135
 go_wp2_with fail
 refine aG.out.mono ?_;rintro e w2 ⟨rfl,rfl⟩;go_wp2_with fail
 go_ret;exact⟨by try rfl,by trivial⟩
def xm (p:Prod) (S:List (List aC)) (i:Nat) (id side ap aq:Int):List (List aC)×Int:=
 if(gR id 0 S).isSome=true then(S,25)else if 250≤tot S then(S,13)else if eW p i ap≠0 then(S,eW p i ap)
 else(S.set i (mT (S.getD i []) id side ap aq).1,(mT (S.getD i []) id side ap aq).2)
section
variable {W w w':World} {ps pb:Nat} {p:Prod} {Q:List Nat} {S:List (List aC)} {L L':List aC}
theorem agv (h:eH W w ps p Q S) (hl:S.length≤100) (hL:∀L∈S,L.length≤250) (ht:tot S≤100000) {i:Nat} (hi:i<S.length) (id side ap aq:Int):
 Calls Tryz.prog 113 #[.pointer ↑ps,↑i,↑id,↑side,↑ap,↑aq] w fun e w'=>e= .returned (.int .i64 (xm p S i id side ap aq).2)∧eH W w' ps p Q (xm p S i id side ap aq).1∧aK (fun g=>g∈Q) w w':=by
 have b5:=af (Ep h hl hL id);have H:=af h;have iu:=af hL;obtain⟨n,hn⟩:=ai Q.length;have hin:i<n:=by rw [←hn,h.len];exact hi
 have hil:(i:Int)<(n:Int):=by omega
 have h0:¬(i:Int)<0:=by omega
 obtain⟨a,c,aT,_⟩:=h.box;rw [hn]at aT;have dS:w.cell? ⟨ps,11,none⟩=some (.slice a n c):=aT.cell 11;have tv:=af hn;have bP:=af ht;have Bb:=af hl;have iy:=af hi;have hnb:n≤100:=by rw [←hn,h.len];exact hl
 clear aT hn h hL ht hl hi;cases hf:gR id 0 S with
 |some rI=>
  obtain⟨j,x⟩:=rI;rw [hf]at b5;have cO:Hid (xm p S i id side ap aq=(S,25)):=af (by unfold xm;rw [hf];rfl);clear hf;obtain⟨oi,os,op,fP,q8⟩:=x;unfold xe at b5;simp only at b5;go_enter Tryz.func113,Tryz.ntmps113
  go_wp2_with fail
  refine b5.out.mono ?_;rintro e w2 ⟨rfl,hb2⟩;have s8:Hid (aK (fun g=>g∈Q) w (w2.alloc (.cells #[↑oi,↑os,↑op,↑fP,↑q8] 139))):=af (Below.keeps (hb2.trans ((Below.aI w2 _).mono hb2.size)));have H2:=af ((H.out.below hb2).below (Below.aI w2 (.cells #[↑oi,↑os,↑op,↑fP,↑q8] 139)));clear hb2 b5;go_wp2_with fail
  go_ret;refine⟨?_,by rw [cO.out];exact H2.out,s8.out⟩;rw [cO.out];first|done|rfl
 |none=>
  rw [hf]at b5;have cO:Hid (xm p S i id side ap aq=if 250≤tot S then(S,13)else if eW p i ap≠0 then(S,eW p i ap)else(S.set i (mT (S.getD i []) id side ap aq).1,(mT (S.getD i []) id side ap aq).2)):=af (by unfold xm;rw [hf];rfl);clear hf;unfold xe at b5;simp only at b5;go_enter Tryz.func113,Tryz.ntmps113
  go_wp2_with fail
  refine b5.out.mono ?_;rintro e w2 ⟨rfl,hb2⟩;have s8:Hid (aK (fun g=>g∈Q) w (w2.alloc (.cells #[.int .i64 0,.int .i64 0,.int .i64 0,.int .i64 0,.bool false] 139))):=af (Below.keeps (hb2.trans ((Below.aI w2 _).mono hb2.size)));have H2:=af ((H.out.below hb2).below (Below.aI w2 (.cells #[.int .i64 0,.int .i64 0,.int .i64 0,.int .i64 0,.bool false] 139)));clear hb2 b5;go_upto_region 6 with(fail)
  generalize w2.alloc (.cells _ 139)=w3 at*;have bg:=af (Ub H2.out Bb.out bP.out);go_wp2_with fail
  refine bg.out.mono ?_;rintro e az ⟨rfl,rfl⟩;clear bg;obtain⟨t,DN⟩:=ai (tot S);have htb:t≤100000:=by rw [←DN];exact bP.out
  rw [DN]at cO⊢;clear DN;by_cases hfull:250≤t
  ·have OZ:(250:Int)≤(t:Int):=by omega
   rw [if_pos hfull]at cO;go_wp2_with fail
   go_ret;refine⟨?_,by rw [cO.out];exact H2.out,s8.out⟩;rw [cO.out];first|done|rfl
  ·have OZ:¬(250:Int)≤(t:Int):=by omega
   rw [if_neg hfull]at cO;obtain⟨a2,c2,iM,_⟩:=H2.out.box;obtain⟨b0,b1,b2,b3,b4,bk,bw,bn,bC,bD,bu⟩:=iM.amD;have dx:=DM p i ap w3 (H2.out.pv.below H2.out.aJ);have dx:=af dx;unfold Prod.agg Prod.cells at dx;clear iM;go_wp2_with fail
   clear b0 b1 b2 b3 b4 bk bw bn bC bD bu;refine dx.out.mono ?_;rintro e az ⟨rfl,hb4⟩;have zP:Hid (aK (fun g=>g∈Q) w az):=af (s8.out.trans (Below.keeps hb4));have H4:=af (H2.out.below hb4);clear hb4 dx s8 H2;obtain⟨q,hq⟩:=ai (eW p i ap);rw [hq]at cO⊢;clear hq;by_cases hz:q=0
   ·subst hz
    rw [if_neg (fun h=>h rfl)]at cO;obtain⟨pb,L,hpq,hs,hrb⟩:=H4.out.get iy.out;obtain⟨g,dH,S1,gJ,q0⟩:=H4.out.ptr hpq;rw [tv.out]at S1 gJ;have Ok:az.cell? ⟨ps,11,none⟩=some (.slice ↑g n dH):=S1.cell 11;have ie:=af hpq;have bg:=af (ahU hrb (iu.out L (List.mem_of_getElem? hs)) id side ap aq);have hgd:S.getD i []=L:=by rw [List.getD_eq_getElem?_getD,hs];rfl
    rw [hgd]at cO;clear S1 gJ hrb hpq hs hgd dS;go_wp2_with fail
    refine bg.out.mono ?_;rintro e aA ⟨rfl,dl,ja⟩;have H5:=af (H4.out.Qe ie.out ja dl);have vX:Hid (aK (fun g=>g∈Q) w aA):=af (zP.out.trans (ja.more fun k hk=>by have e:k=pb:=hk;rw [e];exact List.mem_of_getElem? ie.out));clear dl ja bg;go_wp2_with fail
    go_ret;refine⟨?_,by rw [cO.out];exact H5.out,vX.out⟩;rw [cO.out];first|done|rfl
   ·rw [if_pos hz]at cO
    go_wp2_with fail
    go_ret;refine⟨?_,by rw [cO.out];exact H4.out,zP.out⟩;rw [cO.out];first|done|rfl
end
def xy (side:Int) (x q:dg):dg:=if cT side q.ap x.ap=true then q else x
def qj (l:List dg) (side:Int):dg×Bool:=
 match l with
 | []=>(v7,false)
 |x::l'=>(l'.foldl (xy side) x,true)
def Af (l:List dg) (side:Int) (k:Nat):dg:=(l.take k).foldl (xy side) (l.headD v7)
theorem ahZ {l:List dg} {k:Nat} {q:dg} (side:Int) (h:l[k]? =some q):Af l side (k+1)=xy side (Af l side k) q:=by
 unfold Af;rw [List.take_add_one,h,List.foldl_append];rfl
theorem YQ (side x:Int):cT side x x=false:=by
 unfold cT;split<;>simp
theorem ah0 {l:List dg} (side:Int) (h:0<l.length):qj l side=(Af l side l.length,true):=by
 cases l with
 |nil=>simp at h
 |cons x l=>
  unfold qj Af;rw [List.take_length];show _=((l.foldl (xy side) (xy side x x)),true);have:xy side x x=x:=by unfold xy;rw [YQ,if_neg (by simp)]
  rw [this]
theorem aK.KC (w:World) (g:Nat) (v0 v1 v2 v3 v4 v5:Value):aK (fun k=>k=g) w ((((((w.setCell ↑g v0).setCell ⟨g,1,none⟩ v1).setCell ⟨g,2,none⟩ v2).setCell ⟨g,3,none⟩ v3).setCell ⟨g,4,none⟩ v4).setCell ⟨g,5,none⟩ v5):=
 ((((((aK.refl (fun k=>k=g) w).setCell (p:=⟨g,0,none⟩) (fun _=>rfl) v0).setCell (p:=⟨g,1,none⟩) (fun _=>rfl) v1).setCell (p:=⟨g,2,none⟩) (fun _=>rfl) v2).setCell (p:=⟨g,3,none⟩) (fun _=>rfl) v3).setCell (p:=⟨g,4,none⟩) (fun _=>rfl) v4).setCell (p:=⟨g,5,none⟩) (fun _=>rfl) v5
theorem av.KC {w:World} {g:Nat} {t:TypeId} {x0 x1 aZ cl cw eK:Value} (h:av w g t #[x0,x1,aZ,cl,cw,eK]) (v0 v1 v2 v3 v4 v5:Value):av ((((((w.setCell ↑g v0).setCell ⟨g,1,none⟩ v1).setCell ⟨g,2,none⟩ v2).setCell ⟨g,3,none⟩ v3).setCell ⟨g,4,none⟩ v4).setCell ⟨g,5,none⟩ v5) g t #[v0,v1,v2,v3,v4,v5]:=by
 have h1:=(((((h.aW 0 v0).aW 1 v1).aW 2 v2).aW 3 v3).aW 4 v4).aW 5 v5;simp only [List.setIfInBounds_toArray,List.set_cons_zero,List.set_cons_succ]at h1;exact h1
def Hy (w:World) (g:Nat) (q:dg):Prop:=w.cell? ⟨g,0,none⟩=some (.int .i64 q.ap)∧w.cell? ⟨g,1,none⟩=some (.int .i64 q.aq)∧w.cell? ⟨g,2,none⟩=some (.int .i64 q.i0)∧w.cell? ⟨g,3,none⟩=some (.int .i64 q.s0)∧w.cell? ⟨g,4,none⟩=some (.int .i64 q.i1)∧w.cell? ⟨g,5,none⟩=some (.int .i64 q.s1)
theorem Hy.of {w:World} {g:Nat} {t:TypeId} {q:dg} (h:av w g t q.cells.toArray):Hy w g q:=⟨h.cell 0,h.cell 1,h.cell 2,h.cell 3,h.cell 4,h.cell 5⟩
structure Hz (W w:World) (gr bE:Nat) (aa:Option Addr) (A:List dg) (r x:dg):Prop where
 aJ:Below W.heap.size W w
 res:av w gr 192 r.cells.toArray
 best:av w bE 192 x.cells.toArray
 rd:kz.fR W aa A
 O9:W.heap.size≤gr
 RK:W.heap.size≤bE
 ne:gr≠bE
theorem Hz.next {W w w':World} {gr bE:Nat} {aa:Option Addr} {A:List dg} {r x:dg} (h:Hz W w gr bE aa A r x) (hb:Below w.heap.size w w'):Hz W w' gr bE aa A r x:=
 ⟨h.aJ.trans (hb.mono h.aJ.size),h.res.below hb,h.best.below hb,h.rd,h.O9,h.RK,h.ne⟩
theorem YR (A:List dg) (aa:Option Addr) (ac:Nat) (side:Int) (w:World) (hA:kz.fR w aa A) (hl:A.length≤1000000):
 Calls Tryz.prog 101 #[.slice aa A.length ac,↑side] w fun e w'=>e= .returned (.tuple #[.agg (qj A side).1.cells.toArray,.bool (qj A side).2])∧Below w.heap.size w w':=by
 have s1:=ak;have cO:=af hA;clear hA;cases A with
 |nil=>
  go_enter Tryz.func101,Tryz.ntmps101
  go_wp2_with fail
  refine bodyPost_ret (v:= .tuple #[.agg v7.cells.toArray,.bool false]) (by simp [results,Tryz.results101,go_sem,v7,dg.cells]) rfl ?_;exact⟨rfl,(Below.aI w _)⟩
 |cons x l=>
  have hx:(x::l)[0]? =some x:=rfl;have YS:=af fun(k:Nat) (q:dg) (h:(x::l)[k]? =some q)=>ahZ side h;have NN:=af (ah0 (l:=x::l) side (Nat.zero_lt_succ _));have H0:Hid (Af (x::l) side 0=x):=af rfl;rw [NN.out];clear NN;generalize YT:x::l=A at*;have h0:0<A.length:=by rw [←YT];exact Nat.zero_lt_succ _
  have e1:(A.length==0)=false:=by rw [beq_eq_false_iff_ne];omega
  have e2:((A.length:Int)==0)=false:=by rw [beq_eq_false_iff_ne];omega
  have h0':(0:Int)<(A.length:Int):=by omega
  clear YT;obtain⟨b,off,rfl,eU,cD⟩:=cO.out 0 x hx;rw [Nat.zero_mul,Nat.add_zero]at cD;have q0:w.cell? ⟨b,off,none⟩=some ↑x.ap:=cD 0 _ rfl;have q1:w.cell? ⟨b,off+1,none⟩=some ↑x.aq:=cD 1 _ rfl;have ic:w.cell? ⟨b,off+2,none⟩=some ↑x.i0:=cD 2 _ rfl;have uD:w.cell? ⟨b,off+3,none⟩=some ↑x.s0:=cD 3 _ rfl;have yP:w.cell? ⟨b,off+4,none⟩=some ↑x.i1:=cD 4 _ rfl;have yQ:w.cell? ⟨b,off+5,none⟩=some ↑x.s1:=cD 5 _ rfl;have hbd:=Below.aI w (.cells v7.cells.toArray 192);have g0:=(hbd.cell (p:=⟨b,off,none⟩) eU).trans q0;have g1:=(hbd.cell (p:=⟨b,off+1,none⟩) eU).trans q1;have g2:=(hbd.cell (p:=⟨b,off+2,none⟩) eU).trans ic;have aV:=(hbd.cell (p:=⟨b,off+3,none⟩) eU).trans uD;have c5:=(hbd.cell (p:=⟨b,off+4,none⟩) eU).trans yP;have bt:=(hbd.cell (p:=⟨b,off+5,none⟩) eU).trans yQ;have hres:av (w.alloc (.cells v7.cells.toArray 192)) w.heap.size 192 v7.cells.toArray:=av.new _ _ _;have NP:=af hres;have mL:=af hbd;have jU:=af hx;clear cD q0 q1 ic uD yP yQ hbd hres hx;simp only [v7,dg.cells]at g0 g1 g2 aV c5 bt;go_enter Tryz.func101,Tryz.ntmps101
  go_upto_region 1 with(fail)
  simp only [v7,dg.cells]at NP mL;generalize hw0:w.alloc (.cells #[.int .i64 0,.int .i64 0,.int .i64 0,.int .i64 0,.int .i64 0,.int .i64 0] 192)=w0 at*;clear hw0;go_upto_region 4 with(fail)
  clear g0 g1 g2 aV c5 bt e1 e2;have tY:w.heap.size<w0.heap.size:=NP.out.lt
  have hB:Hz w (w0.alloc (.cells #[↑x.ap,↑x.aq,↑x.i0,↑x.s0,↑x.i1,↑x.s1] 192)) w.heap.size w0.heap.size (some ⟨b,off,none⟩) A v7 x:=
   ⟨mL.out.alloc mL.out.size _,NP.out.alloc _,av.new _ _ _,cO.out,Nat.le_refl _,by omega,by omega⟩
  have aG:=af hB;clear hB NP mL cO;generalize w0.alloc (.cells #[↑x.ap,↑x.aq,↑x.i0,↑x.s0,↑x.i1,↑x.s1] 192)=w1 at*;generalize w0.heap.size=bE at*;go_wp2_with fail
  have ah1:Hid (Af A side 1=x):=af (by
   rw [YS.out 0 x jU.out,H0.out];unfold xy;rw [YQ,if_neg (by simp)])
  go_loopw [7] (fun j w'=>∃k:Nat,j=↑k∧1≤k∧k≤A.length∧Hz w w' w.heap.size bE (some ⟨b,off,none⟩) A v7 (Af A side k)) (fun j _=>A.length-(RowKit.intOf j).toNat)
  case atStart=>exact⟨1,rfl,Nat.le_refl _,h0,by rw [ah1.out];exact aG.out⟩
  case round=>
   clear aG;obtain⟨k,rfl,cN,hk,hB⟩:=hrel;obtain⟨ax,rfl⟩:=aj wr;by_cases hkn:k<A.length
   ·have G1:(k:Int)<(A.length:Int):=by omega
    obtain⟨q,hq⟩:∃q,A[k]? =some q:=⟨_,List.getElem?_eq_getElem hkn⟩;have hto:=YS.out k q hq;generalize Af A side k=z at*;have aG:=af hB;have bP:=af hto;clear hB hto;obtain⟨b',off',he,RL,Ag⟩:=aG.out.rd k q hq;injection he with he;injection he with eb iU;subst eb;subst iU;have kK:Hid (∀wv,Below w.heap.size w wv→iI wv b (off+k*6) q.cells):=af fun wv hb=>Ag.below hb RL;have q0:ax.cell? ⟨b,off+k*6,none⟩=some ↑q.ap:=kK.out _ aG.out.aJ 0 _ rfl;have c0:ax.cell? ↑bE=some ↑z.ap:=aG.out.best.cell 0;clear Ag hq RL;have nK:=af fun n=>(WA side q.ap z.ap (ax.drewN n)).mono fun e w' h=>(⟨h.1,h.2.symm⟩:e= .returned (.bool (cT side q.ap z.ap))∧w'=ax.drewN n);unfold xy at bP;go_upto_region 7 with(fail)
    cases g7:cT side q.ap z.ap with
    |false=>
     rw [g7]at nK bP;rw [if_neg (by simp)]at bP;clear g7;go_quiet ((go_at_call 72;exact Calls.quiet_of_same (nK.out _)))
     have aQ:=af (aG.out.next (Below.bO ax nq));clear q0 c0 aG;go_wp2_with fail
     go_roundw
     case rel=>exact⟨k+1,by go_num,by omega,by omega,by rw [bP.out];exact aQ.out⟩
     case measure=>simp [RowKit.intOf];omega
    |true=>
     rw [g7]at nK bP;rw [if_pos rfl]at bP;clear g7;go_quiet ((go_at_call 72;exact Calls.quiet_of_same (nK.out _)))
     have aQ:=af (aG.out.next (Below.bO ax nq));clear q0 c0 aG;generalize ax.drewN nq=w3 at*;have q0:w3.cell? ⟨b,off+k*6,none⟩=some ↑q.ap:=kK.out _ aQ.out.aJ 0 _ rfl;have q1:w3.cell? ⟨b,off+k*6+1,none⟩=some ↑q.aq:=kK.out _ aQ.out.aJ 1 _ rfl;have ic:w3.cell? ⟨b,off+k*6+2,none⟩=some ↑q.i0:=kK.out _ aQ.out.aJ 2 _ rfl;have uD:w3.cell? ⟨b,off+k*6+3,none⟩=some ↑q.s0:=kK.out _ aQ.out.aJ 3 _ rfl;have yP:w3.cell? ⟨b,off+k*6+4,none⟩=some ↑q.i1:=kK.out _ aQ.out.aJ 4 _ rfl;have yQ:w3.cell? ⟨b,off+k*6+5,none⟩=some ↑q.s1:=kK.out _ aQ.out.aJ 5 _ rfl;obtain⟨c0,c1,c2,c3,dH,b8⟩:=Hy.of aQ.out.best;have fz:∀o,w3.frozen? ⟨bE,o,none⟩=false:=fun o=>aQ.out.best.frozen o;go_wp2_with fail
     have bN:Hid (Hz w ((((((w3.setCell ↑bE ↑q.ap).setCell ⟨bE,1,none⟩ ↑q.aq).setCell ⟨bE,2,none⟩ ↑q.i0).setCell ⟨bE,3,none⟩ ↑q.s0).setCell ⟨bE,4,none⟩ ↑q.i1).setCell ⟨bE,5,none⟩ ↑q.s1) w.heap.size bE (some ⟨b,off,none⟩) A v7 q):=af (by
      have hk:=aK.KC w3 bE ↑q.ap ↑q.aq ↑q.i0 ↑q.s0 ↑q.i1 ↑q.s1;exact⟨aQ.out.aJ.trans (hk.below (fun g hg=>by have hg':g=bE:=hg;have:=aQ.out.RK;omega) aQ.out.aJ.size),aQ.out.res.keeps hk aQ.out.ne,aQ.out.best.KC _ _ _ _ _ _,aQ.out.rd,aQ.out.O9,aQ.out.RK,aQ.out.ne⟩)
     clear c0 c1 c2 c3 dH b8 q0 q1 ic uD yP yQ fz aQ;go_roundw
     case rel=>exact⟨k+1,by go_num,by omega,by omega,by rw [bP.out];exact bN.out⟩
     case measure=>simp [RowKit.intOf];omega
   ·obtain rfl:k=A.length:=by omega
    obtain⟨z,hz⟩:=ai (Af A side A.length);rw [hz]at hB;have ec:=af hz;clear hz;have aG:=af hB;clear hB;obtain⟨c0,c1,c2,c3,dH,b8⟩:=Hy.of aG.out.best;obtain⟨d0,d1,d2,d3,d4,d5⟩:=Hy.of aG.out.res;have fz:∀o,ax.frozen? ⟨w.heap.size,o,none⟩=false:=fun o=>aG.out.res.frozen o;go_wp2_with fail
    clear c0 c1 c2 c3 dH b8 d0 d1 d2 d3 d4 d5 fz;have hk:=aK.KC ax w.heap.size ↑z.ap ↑z.aq ↑z.i0 ↑z.s0 ↑z.i1 ↑z.s1;have jL:=aG.out.aJ.trans (hk.below (fun g hg=>by have hg':g=w.heap.size:=hg;omega) aG.out.aJ.size);have fk:=aG.out.res.KC ↑z.ap ↑z.aq ↑z.i0 ↑z.s0 ↑z.i1 ↑z.s1;clear hk;generalize ((((((ax.setCell ↑w.heap.size ↑z.ap).setCell ⟨w.heap.size,1,none⟩ ↑z.aq).setCell ⟨w.heap.size,2,none⟩ ↑z.i0).setCell ⟨w.heap.size,3,none⟩ ↑z.s0).setCell ⟨w.heap.size,4,none⟩ ↑z.i1).setCell ⟨w.heap.size,5,none⟩ ↑z.s1)=wf at*;obtain⟨c0,c1,c2,c3,dH,b8⟩:=Hy.of (q:=z) fk;clear fk;refine bodyPost_ret (v:= .tuple #[.agg #[↑z.ap,↑z.aq,↑z.i0,↑z.s0,↑z.i1,↑z.s1],.bool true]) (by simp [results,Tryz.results101,go_sem,c0,c1,c2,c3,dH,b8]) rfl ?_;exact⟨by rw [ec.out];rfl,jL⟩
def yx (l:List dg) (x:dg) (k:Nat):Int:=(l.take k).foldl (fun m q=>if q.ap=x.ap then(if m<q.aq then q.aq else m)else m) x.aq
def yy (l:List dg) (x:dg) (k:Nat):Nat:=((l.take k).filter (fun q=>q.ap==x.ap)).length
def nS (l:List dg) (side:Int):Int×Int×Int×Bool:=
 if(qj l side).2=true then((qj l side).1.ap,yx l (qj l side).1 l.length,(yy l (qj l side).1 l.length:Int),true)else(0,0,0,false)
theorem aiz {l:List dg} {k:Nat} {q:dg} (x:dg) (h:l[k]? =some q):yx l x (k+1)=if q.ap=x.ap then(if yx l x k<q.aq then q.aq else yx l x k)else yx l x k:=by
 unfold yx;rw [List.take_add_one,h,List.foldl_append];rfl
theorem aiA {l:List dg} {k:Nat} {q:dg} (x:dg) (h:l[k]? =some q):yy l x (k+1)=yy l x k+(if q.ap=x.ap then 1 else 0):=by
 unfold yy;rw [List.take_add_one,h,List.filter_append,List.length_append]
 congr 1
 show(List.filter _ [q]).length=_;by_cases hq:q.ap=x.ap
 ·rw [if_pos hq,List.filter_cons_of_pos (by simpa using hq)];rfl
 ·rw [if_neg hq,List.filter_cons_of_neg (by simpa using hq)];rfl
theorem XG (l:List dg) (x:dg) (k:Nat):yy l x k≤l.length:=by
 unfold yy;have h1:=List.length_filter_le (fun q:dg=>q.ap==x.ap) (l.take k);have h2:(l.take k).length≤l.length:=by rw [List.length_take];omega
 omega
theorem XY (A:List dg) (aa:Option Addr) (ac:Nat) (side:Int) (w:World) (hA:kz.fR w aa A) (hl:A.length≤1000000):
 Calls Tryz.prog 59 #[.slice aa A.length ac,↑side] w fun e w'=>e= .returned (.tuple #[.int .i64 (nS A side).1,.int .i64 (nS A side).2.1,.int .i64 (nS A side).2.2.1,.bool (nS A side).2.2.2])∧Below w.heap.size w w':=by
 have s1:=ak;have Db:=YR A aa ac side w hA hl;have cO:=af hA;clear hA;obtain⟨x,ok,yR⟩:∃x ok,qj A side=(x,ok):=⟨_,_,rfl⟩;rw [yR]at Db;unfold nS;rw [yR];have anl:=af yR;clear yR;cases ok with
 |false=>
  simp only [Bool.false_eq_true,if_false];go_enter Tryz.func59,Tryz.ntmps59
  go_wp2_with fail
  refine Db.mono ?_;rintro e w1 ⟨rfl,hb⟩;have aG:=af hb;clear hb Db;simp only [dg.cells];go_wp2_with fail
  refine bodyPost_ret (v:= .tuple #[.int .i64 0,.int .i64 0,.int .i64 0,.bool false]) (by simp [results,Tryz.results59,go_sem]) rfl ?_;exact⟨rfl,aG.out.trans ((Below.aI _ _).mono aG.out.size)⟩
 |true=>
  simp only [if_true];have uW:=af fun(k:Nat) (q:dg) (h:A[k]? =some q)=>aiz x h;have s3:=af fun(k:Nat) (q:dg) (h:A[k]? =some q)=>aiA x h;have uL:=af (XG A x);have Zp:Hid (yx A x 0=x.aq∧yy A x 0=0):=af ⟨rfl,rfl⟩;go_enter Tryz.func59,Tryz.ntmps59
  go_wp2_with fail
  refine Db.mono ?_;rintro e w1 ⟨rfl,hb⟩;have bA:=af hb;clear hb Db;simp only [dg.cells];go_upto_region 2 with(fail)
  have hX:av (w1.alloc (.cells #[↑x.ap,↑x.aq,↑x.i0,↑x.s0,↑x.i1,↑x.s1] 192)) w1.heap.size 192 #[↑x.ap,↑x.aq,↑x.i0,↑x.s0,↑x.i1,↑x.s1]:=av.new _ _ _;have Zq:Below w.heap.size w (w1.alloc (.cells #[↑x.ap,↑x.aq,↑x.i0,↑x.s0,↑x.i1,↑x.s1] 192)):=bA.out.alloc bA.out.size _;have bz:=af hX;have aS:=af Zq;clear hX Zq bA;generalize w1.alloc (.cells #[↑x.ap,↑x.aq,↑x.i0,↑x.s0,↑x.i1,↑x.s1] 192)=w2 at*;generalize w1.heap.size=aL at*;have c1:w2.cell? ⟨aL,1,none⟩=some ↑x.aq:=bz.out.cell 1;go_wp2_with fail
  clear c1;go_loopw [10,11,12] (fun m n j w'=>∃k:Nat,m= .int .i64 (yx A x k)∧n= .int .i64 (yy A x k)∧j=↑k∧k≤A.length∧Below w.heap.size w w'∧av w' aL 192 #[↑x.ap,↑x.aq,↑x.i0,↑x.s0,↑x.i1,↑x.s1]) (fun _ _ j _=>A.length-(RowKit.intOf j).toNat)
  case atStart=>exact⟨0,by rw [Zp.out.1],by rw [Zp.out.2];rfl,rfl,Nat.zero_le _,aS.out,bz.out⟩
  case round=>
   clear bz aS;obtain⟨k,rfl,rfl,rfl,hk,hb,hx⟩:=hrel;obtain⟨ax,rfl⟩:=aj wr;have bz:=af hx;have aG:=af hb;clear hx hb;by_cases hkn:k<A.length
   ·have G1:(k:Int)<(A.length:Int):=by omega
    obtain⟨q,hq⟩:∃q,A[k]? =some q:=⟨_,List.getElem?_eq_getElem hkn⟩;have hmo:=uW.out k q hq;have hma:=s3.out k q hq;have hml:=uL.out k;generalize yx A x k=sO at*;generalize yy A x k=ma at*;have jG:=af hmo;have hN:=af hma;clear hmo hma;obtain⟨b,off,rfl,eU,Ag⟩:=cO.out k q hq;have kK:Hid (∀wv,Below w.heap.size w wv→iI wv b (off+k*6) q.cells):=af fun wv hb=>Ag.below hb eU;have q0:ax.cell? ⟨b,off+k*6,none⟩=some ↑q.ap:=kK.out _ aG.out 0 _ rfl;have c0:ax.cell? ↑aL=some ↑x.ap:=bz.out.cell 0;clear Ag hq eU;go_upto_region 8 with(fail)
    go_quiet (fail)
    have bQ:Below ax.heap.size ax (ax.drewN nq):=Below.bO ax nq;have aS:=ag aG bQ;have xx:=af (bz.out.below bQ);clear bQ q0 c0 aG bz;generalize ax.drewN nq=w3 at*;by_cases hp:q.ap=x.ap
    ·rw [if_pos hp]at jG hN
     have hz:(q.ap==x.ap)=true:=by rw [beq_iff_eq];exact hp
     have y1:IntKind.i64.wrap ((ma:Int)+1)=(ma:Int)+1:=IntWalk.i64_in _ (by omega);have q1:w3.cell? ⟨b,off+k*6+1,none⟩=some ↑q.aq:=kK.out _ aS.out 1 _ rfl;clear hp;by_cases Zr:sO<q.aq
     ·rw [if_pos Zr]at jG
      go_wp2_with fail
      clear q1;go_roundw
      case rel=>exact⟨k+1,by rw [jG.out],by rw [hN.out];rfl,by go_num,by omega,aS.out,xx.out⟩
      case measure=>simp [RowKit.intOf];omega
     ·rw [if_neg Zr]at jG
      go_wp2_with fail
      clear q1;go_roundw
      case rel=>exact⟨k+1,by rw [jG.out],by rw [hN.out];rfl,by go_num,by omega,aS.out,xx.out⟩
      case measure=>simp [RowKit.intOf];omega
    ·rw [if_neg hp]at jG hN
     have hz:(q.ap==x.ap)=false:=by rw [beq_eq_false_iff_ne];exact hp
     clear hp;go_wp2_with fail
     go_roundw
     case rel=>exact⟨k+1,by rw [jG.out],by rw [hN.out];rfl,by go_num,by omega,aS.out,xx.out⟩
     case measure=>simp [RowKit.intOf];omega
   ·obtain rfl:k=A.length:=by omega
    have c0:ax.cell? ↑aL=some ↑x.ap:=bz.out.cell 0;go_wp2_with fail
    refine bodyPost_ret (v:= .tuple #[↑x.ap,.int .i64 (yx A x A.length),.int .i64 (yy A x A.length),.bool true]) (by simp [results,Tryz.results59,go_sem]) rfl ?_;exact⟨rfl,aG.out⟩
structure nt where
 ap:Int
 aq:Int
 imp:Bool
 rR:List pG
structure ei (p:Prod) (S:List (List aC)):Prop where
 len:S.length=(countP p).toNat
 each:∀L∈S,j8 L
theorem ei.le {p:Prod} {S:List (List aC)} (h:ei p S):S.length≤21:=by
 have:=(BA p).2;rw [h.len];omega
theorem ei.count {p:Prod} {S:List (List aC)} (h:ei p S):(S.length:Int)=countP p:=by
 have:=(BA p).1;rw [h.len];omega
theorem ei.set {p:Prod} {S:List (List aC)} (h:ei p S) {i:Nat} {L:List aC} (hL:j8 L):ei p (S.set i L):=
 ⟨by rw [List.length_set];exact h.len,fun K hK=>by
  rcases List.mem_or_eq_of_mem_set hK with h1|rfl
  ·exact h.each K h1
  ·exact hL⟩
theorem ei.at_ {p:Prod} {S:List (List aC)} (h:ei p S) (i:Nat):j8 (S.getD i []):=by
 rw [List.getD_eq_getElem?_getD];cases hg:S[i]? with
 |none=>exact j8.nil
 |some L=>exact h.each L (List.mem_of_getElem? hg)
theorem ei.rR {p:Prod} {S:List (List aC)} (h:ei p S) (i:Nat) (side ap q:Int):ei p (ou p S i side ap q).1:=h.set ((h.at_ i).pz _)
theorem Ka {L:List aC} (h:j8 L) (s:Int):∀l∈k6 L s,1≤l.aq∧l.aq≤250000000∧1≤l.count∧l.count≤250:=fun l hl=>by
 have h1:=h.XJ s l hl;have h2:=Ys (S:=q5 L s) (fun o ho=>h.aq o (List.mem_filter.1 ho).1) l hl;have h3:(q5 L s).length≤L.length:=List.length_filter_le ..;have h4:=h.len;omega
theorem ZU {L:List aC} {s:Int} (hs:s=1∨s=2) (hh:(xj L).has s=true):∃l∈k6 L s,jS L s=(l,true)∧(xj L).ap s=l.ap∧(xj L).aq s=l.aq:=by
 rcases Rd L s with h1|⟨l,h1,h2⟩
 ·exfalso
  unfold xj dK.has at hh;rcases hs with rfl|rfl
  ·rw [if_pos rfl,h1]at hh;cases hh
  ·rw [if_neg (by omega),h1]at hh;cases hh
 ·refine⟨l,h1,h2,?_,?_⟩
  ·unfold xj dK.ap
   rcases hs with rfl|rfl
   ·rw [if_pos rfl,h2]
   ·rw [if_neg (by omega),h2]
  ·unfold xj dK.aq
   rcases hs with rfl|rfl
   ·rw [if_pos rfl,h2]
   ·rw [if_neg (by omega),h2]
theorem ZV {L:List aC} (h:j8 L) (s:Int):(-2000000≤(jS L s).1.ap∧(jS L s).1.ap≤2000000)∧0≤(jS L s).1.aq∧(jS L s).1.aq≤250000000:=by
 rcases Rd L s with h1|⟨l,h1,h2⟩
 ·rw [h1];exact⟨⟨by show(-2000000:Int)≤0;omega,by show(0:Int)≤2000000;omega⟩,by show(0:Int)≤0;omega,by show(0:Int)≤250000000;omega⟩
 ·rw [h2]
  have h3:=h.XL s l h1;have h4:=Ka h s l h1;exact⟨h3,by dsimp only;omega,by dsimp only;omega⟩
theorem ai0 {L:List aC} (h:j8 L):(xj L).ok:=by
 have h1:=ZV h 1;have h2:=ZV h 2;refine⟨?_,?_,?_,?_⟩<;>(unfold xj cz;dsimp only;omega)
theorem ei.CT {p:Prod} {S:List (List aC)} (h:ei p S):∀x∈ef S,x.ok:=fun x hx=>by
 unfold ef at hx;obtain⟨L,hL,rfl⟩:=List.mem_map.1 hx;exact ai0 (h.each L hL)
theorem Nx (S:List (List aC)):(ef S).length=S.length:=by unfold ef;rw [List.length_map]
theorem ai1 {L:List dK} {dA sa bi cr:Int} {less:Bool} {q:dg} (h:qh L dA sa bi cr less=some q):
 ∃x y,L[dA.toNat]? =some x∧L[bi.toNat]? =some y∧x.has sa=true∧y.has cr=true∧q.i0=dA∧q.s0=sa∧q.i1=bi∧q.s1=cr∧q.aq=min (x.aq sa) (y.aq cr):=by
 unfold qh at h;split at h
 ·rename_i x y hx hy
  split at h
  ·rename_i hh
   dsimp only at h;generalize (if less=true then qX (y.ap cr) (x.ap sa)else rN (x.ap sa) (y.ap cr))=r at h;split at h
   ·injection h with h
    subst h;exact⟨x,y,hx,hy,hh.1,hh.2,rfl,rfl,rfl,rfl,rfl⟩
   ·cases h
  ·cases h
 ·cases h
theorem XD {p:Prod} {L:List dK} {i:Nat} {side:Int} {q:dg}:∀k,q∈qY p L i side k→∃m,m<k∧qh L (rO p (i:Int) ((i+1+m:Nat):Int)).1 side ((i+1+m:Nat):Int) side false=some q:=by
 intro k
 induction k with
 |zero=>intro h;cases h
 |succ k ih=>
  intro h;rw [qY,List.mem_append]at h;rcases h with h|h
  ·obtain⟨m,h1,h2⟩:=ih h
   exact⟨m,by omega,h2⟩
  ·exact⟨k,by omega,by simpa using h⟩
theorem XE {p:Prod} {L:List dK} {i:Nat} {side:Int} {q:dg}:∀k,q∈uC p L i side k→∃m,m<k∧qh L (rO p (m:Int) (i:Int)).1 (3-side) (m:Int) side true=some q:=by
 intro k
 induction k with
 |zero=>intro h;cases h
 |succ k ih=>
  intro h;rw [uC,List.mem_append]at h;rcases h with h|h
  ·obtain⟨m,h1,h2⟩:=ih h
   exact⟨m,by omega,h2⟩
  ·exact⟨k,by omega,by simpa using h⟩
structure HO (L:List dK) (q:dg):Prop where
 a:∃(i:Nat) (x:dK),q.i0=(i:Int)∧L[i]? =some x∧(q.s0=1∨q.s0=2)∧x.has q.s0=true∧q.aq≤x.aq q.s0
 b:∃(i:Nat) (x:dK),q.i1=(i:Int)∧L[i]? =some x∧(q.s1=1∨q.s1=2)∧x.has q.s1=true∧q.aq≤x.aq q.s1
 ne:q.i0≠q.i1
 q:∃x∈L,∃y∈L,∃s t,(s=1∨s=2)∧(t=1∨t=2)∧x.has s=true∧y.has t=true∧q.aq=min (x.aq s) (y.aq t)
theorem Sz {L:List dK} {dA bi:Nat} {sa cr:Int} {less:Bool} {q:dg} (ha:sa=1∨sa=2) (hb:cr=1∨cr=2) (hne:dA≠bi) (h:qh L dA sa bi cr less=some q):HO L q:=by
 obtain⟨x,y,h1,h2,h3,h4,h5,h6,h7,h8,h9⟩:=ai1 h;rw [Int.toNat_natCast]at h1 h2;exact⟨⟨dA,x,h5,h1,by rw [h6];exact ha,by rw [h6];exact h3,by rw [h9,h6];omega⟩,⟨bi,y,h7,h2,by rw [h8];exact hb,by rw [h8];exact h4,by rw [h9,h8];omega⟩,by rw [h5,h7];omega,x,List.mem_of_getElem? h1,y,List.mem_of_getElem? h2,sa,cr,ha,hb,h3,h4,h9⟩
theorem HO.swap {L:List dK} {q:dg} (h:HO L q):HO L (G0 q):=⟨h.b,h.a,fun e=>h.ne e.symm,h.q⟩
theorem Wy {p:Prod} {L:List dK} {i:Nat} {side:Int} {q:dg} (hz:cR p=0) (h:q∈oM p L i side):HO L q:=by
 unfold oM at h;split at h
 ·cases h
 ·rename_i hbad
  unfold CL at hbad;have hs:side=1∨side=2:=by omega
  have hi:(i:Int)<countP p:=by omega
  split at h
  ·rename_i hsp
   simp only [Option.mem_toList,Option.map_eq_some_iff]at h;obtain⟨q',h1,rfl⟩:=h;obtain⟨_,a,b,he,hab,hb,_⟩:=RI hsp;rw [he]at h1;exact(Sz (by omega) hs (by omega) h1).swap
  ·rename_i hsp
   have ZW:(gf p i).2.2=false:=by rwa [Bool.not_eq_true]at hsp
   obtain⟨a,he,ha⟩:=YP (p:=p) (inst:=i) (by omega) hi ZW
   have hm:i<p.months.length:=by
    have:=Y8 (p:=p) (inst:=i) (by omega) hi;rw [ZW,eq_comm,decide_eq_false_iff_not]at this;omega
   rw [List.mem_append,Int.toNat_natCast]at h;rcases h with h|h
   ·obtain⟨m,La,h⟩:=XD _ h
    obtain⟨s,hs1,fD,_⟩:=M5 hz (show i<i+1+m by omega) (show i+1+m<p.months.length by omega);rw [hs1]at h;exact Sz hs hs (by omega) h
   ·obtain⟨m,La,h⟩:=XE _ h
    obtain⟨s,hs1,fD,_⟩:=M5 hz (show m<i by omega) hm;rw [hs1]at h;exact Sz (by omega) hs (by omega) h
theorem QR {l:List dg} {side:Int} (h:(qj l side).2=true):(qj l side).1∈l:=by
 cases l with
 |nil=>cases h
 |cons x t=>
  show t.foldl (xy side) x∈x::t;clear h
  induction t generalizing x with
  |nil=>exact List.mem_cons_self ..
  |cons y t ih=>
   rw [List.foldl_cons];have h1:=ih (xy side x y);rcases List.mem_cons.1 h1 with h2|h2
   ·rw [h2]
    unfold xy;split<;>simp
   ·exact List.mem_cons_of_mem _ (List.mem_cons_of_mem _ h2)
theorem QS {p:Prod} {S:List (List aC)} (hz:cR p=0) (hS:ei p S) {i:Nat} {side:Int} {q:dg} (h:q∈mA p (ef S) i side):HO (ef S) q∧1≤q.aq∧q.aq≤250000000:=by
 unfold mA at h;have h1:=Wy hz (List.mem_filter.1 h).1;refine⟨h1,?_⟩;obtain⟨x,hx,y,hy,s,t,hs,ht,h2,h3,h4⟩:=h1.q;unfold ef at hx hy;obtain⟨L,hL,rfl⟩:=List.mem_map.1 hx;obtain⟨K,hK,rfl⟩:=List.mem_map.1 hy;obtain⟨l,l1,_,_,l2⟩:=ZU (L:=L) hs h2;obtain⟨k,k1,_,_,k2⟩:=ZU (L:=K) ht h3;have:=Ka (hS.each L hL) s l l1;have:=Ka (hS.each K hK) t k k1;rw [h4,l2,k2];omega
theorem G8 {p:Prod} {L:List dK} {i:Nat} {side:Int}:(oM p L i side).length≤1000:=by
 unfold oM;split
 ·simp
 ·rename_i hb
  split
  ·have:=Qn ((qh L (gf p i).2.1 (3-side) (gf p i).1 side true).map G0);omega
  ·rw [List.length_append]
   have h1:=Qo p L (i:Int).toNat side (p.months.length-((i:Int).toNat+1));have h2:=WK p L (i:Int).toNat side (i:Int).toNat;unfold CL at hb;have hc:countP p≠0:=by omega
   have hl:=(pI (RW hc)).2;have:=BA p;omega
def wz (aq x:Int):Int:=if aq<x then aq else x
def Bq (T:List dK) (i s:Int):Int:=(T.getD i.toNat WE).ap s
def N4 (p:Prod) (S:List (List aC)) (i:Nat) (o:Int) (l:aB) (aq:Int):List (List aC)×nt:=
 ((ou p S i o l.ap (wz aq l.aq)).1,⟨l.ap,wz aq l.aq,false,(ou p S i o l.ap (wz aq l.aq)).2⟩)
def Ke (p:Prod) (S:List (List aC)) (q:dg) (aq:Int):List (List aC)×nt:=
 let k:=wz aq q.aq
 let f:=ou p S q.i0.toNat q.s0 (Bq (ef S) q.i0 q.s0) k
 let g:=ou p f.1 q.i1.toNat q.s1 (Bq (ef S) q.i1 q.s1) k
 (g.1,⟨q.ap,k,true,f.2++g.2⟩)
def xE (S:List (List aC)) (i:Nat) (side:Int):aB×Bool:=jS (S.getD i []) (3-side)
def nu (p:Prod) (S:List (List aC)) (i:Nat) (side:Int):dg×Bool:=qj (mA p (ef S) i (3-side)) (3-side)
def KV (S:List (List aC)) (i:Nat) (side ap:Int):Bool:=(xE S i side).2&& !cT side (xE S i side).1.ap ap
def HJ (p:Prod) (S:List (List aC)) (i:Nat) (side ap:Int):Bool:=(nu p S i side).2&& !cT side (nu p S i side).1.ap ap
def ur (p:Prod) (S:List (List aC)) (i:Nat) (side ap aq:Int):Option (List (List aC)×nt):=
 if(KV S i side ap&&(!HJ p S i side ap|| !cT (3-side) (nu p S i side).1.ap (xE S i side).1.ap))=true then some (N4 p S i (3-side) (xE S i side).1 aq)
 else if HJ p S i side ap=false then none
 else some (Ke p S (nu p S i side).1 aq)
def gO (p:Prod) (i:Nat) (side ap:Int):Nat→List (List aC)→Int→List (List aC)×List nt×Int
 |0,S,aq=>(S,[],aq)
 |f+1,S,aq=>if aq≤0 then(S,[],aq)else match ur p S i side ap aq with
  |none=>(S,[],aq)
  |some r=>((gO p i side ap f r.1 (aq-r.2.aq)).1,r.2::(gO p i side ap f r.1 (aq-r.2.aq)).2.1,(gO p i side ap f r.1 (aq-r.2.aq)).2.2)
theorem N5 {aq x:Int} (h1:1≤aq) (h2:1≤x):1≤wz aq x∧wz aq x≤aq∧wz aq x≤x:=by unfold wz;split<;>omega
theorem ZE {p:Prod} {S:List (List aC)} (hS:ei p S) {i:Nat} {side:Int} (h:(xE S i side).2=true):1≤(xE S i side).1.aq∧(xE S i side).1.aq≤250000000:=by
 unfold xE at*;rcases Rd (S.getD i []) (3-side)with h1|⟨l,h1,h2⟩
 ·rw [h1]at h;cases h
 ·rw [h2]
  have:=Ka (hS.at_ i) _ l h1;exact⟨this.1,this.2.1⟩
theorem Uo {p:Prod} {S:List (List aC)} (hz:cR p=0) (hS:ei p S) {i:Nat} {side ap aq:Int} (hq:1≤aq) {r:List (List aC)×nt} (h:ur p S i side ap aq=some r):
 ei p r.1∧1≤r.2.aq∧r.2.aq≤aq:=by
 unfold ur at h;split at h
 ·rename_i hg
  injection h with h;subst h;simp only [Bool.and_eq_true]at hg
  have h1:(xE S i side).2=true:=by
   have:=hg.1;unfold KV at this;simp only [Bool.and_eq_true]at this;exact this.1
  have h2:=ZE hS h1;have h3:=N5 hq h2.1;exact⟨hS.rR _ _ _ _,h3.1,h3.2.1⟩
 ·split at h
  ·cases h
  ·rename_i hg
   injection h with h;subst h
   have h1:(nu p S i side).2=true:=by
    rw [Bool.not_eq_false]at hg;unfold HJ at hg;simp only [Bool.and_eq_true]at hg;exact hg.1
   have h2:=QS hz hS (QR h1);have h3:=N5 hq h2.2.1;exact⟨(hS.rR _ _ _ _).rR _ _ _ _,h3.1,h3.2.1⟩
theorem aiZ {p:Prod} {i:Nat} {side ap:Int} {f:Nat} {S:List (List aC)} {aq:Int} (h:aq≤0):gO p i side ap f S aq=(S,[],aq):=by
 cases f with
 |zero=>rfl
 |succ f=>unfold gO;rw [if_pos h]
theorem aiP {p:Prod} {i:Nat} {side ap:Int} {f:Nat} {S:List (List aC)} {aq:Int} (h:ur p S i side ap aq=none):gO p i side ap f S aq=(S,[],aq):=by
 cases f with
 |zero=>rfl
 |succ f=>
  unfold gO;rw [h];split<;>rfl
theorem ZL {p:Prod} {i:Nat} {side ap:Int} {f:Nat} {S:List (List aC)} {aq:Int} {r:List (List aC)×nt} (h0:0<aq) (hf:aq.toNat≤f) (h:ur p S i side ap aq=some r):
 ∃f',f=f'+1∧gO p i side ap f S aq=((gO p i side ap f' r.1 (aq-r.2.aq)).1,r.2::(gO p i side ap f' r.1 (aq-r.2.aq)).2.1,(gO p i side ap f' r.1 (aq-r.2.aq)).2.2):=by
 cases f with
 |zero=>omega
 |succ f=>
  refine⟨f,rfl,?_⟩;rw [gO,if_neg (by omega),h]
structure q7 where
 ap:Int
 aq:Int
 imp:Bool
 a:Option Addr
 n:Nat
 c:Nat
def q7.cells (x:q7):List Value:= [.int .i64 x.ap,.int .i64 x.aq,.bool x.imp,.slice x.a x.n x.c]
def ai2:q7:=⟨0,0,false,none,0,0⟩
theorem q7.kI (x:q7):∀u∈x.cells,u.oneCell'=true:=by
 intro u hu;simp only [q7.cells,List.mem_cons,List.not_mem_nil,or_false]at hu;rcases hu with rfl|rfl|rfl|rfl<;>rfl
def HL:bl q7:=⟨q7.cells,4,fun _=>rfl,q7.kI,by omega,206,200,.agg ai2.cells.toArray,48,Tryz.underlying200,by kernel_rfl,by rfl,by omega⟩
structure HP (w:World) (B:Nat) (h:q7) (t:nt):Prop where
 ap:h.ap=t.ap
 aq:h.aq=t.aq
 imp:h.imp=t.imp
 row:qg.Row w B (.slice h.a h.n h.c) t.rR
def SO (w:World) (B:Nat) (v:Value) (T:List nt):Prop:=
 ∃H:List q7,HL.Row w B v H∧H.length=T.length∧∀(j:Nat) (h:q7) (t:nt),H[j]? =some h→T[j]? =some t→HP w B h t
section
variable {w w':World} {B:Nat} {v v':Value} {T:List nt} {F:Nat→Prop}
theorem HP.keep {h:q7} {t:nt} (k:HP w B h t) (hk:aK F w w') (hf:∀g,ck w g qg.t→¬F g):HP w' B h t:=⟨k.ap,k.aq,k.imp,k.row.keep hk hf⟩
theorem SO.keep (h:SO w B v T) (hk:aK F w w') (hs:∀g,ck w g HL.t→¬F g) (hf:∀g,ck w g qg.t→¬F g):SO w' B v T:=by
 obtain⟨H,h1,h2,h3⟩:=h;exact⟨H,h1.keep hk hs,h2,fun j h t a b=>(h3 j h t a b).keep hk hf⟩
theorem SO.below (h:SO w B v T) (hb:Below w.heap.size w w'):SO w' B v T:=h.keep (F:=fun _=>False) (Below.keeps hb) (fun _ _ e=>e.elim) (fun _ _ e=>e.elim)
theorem SO.base {B':Nat} (h:SO w B v T) (hB:B'≤B):SO w B' v T:=by
 obtain⟨H,h1,h2,h3⟩:=h;exact⟨H,h1.base hB,h2,fun j h t a b=>⟨(h3 j h t a b).ap,(h3 j h t a b).aq,(h3 j h t a b).imp,(h3 j h t a b).row.base hB⟩⟩
theorem SO.nil (w:World) (B:Nat):SO w B (.slice none 0 0) []:=⟨[],bl.Row.nil w B,rfl,fun j h t a=>by simp at a⟩
theorem SO.form (h:SO w B v T):∃a c,v= .slice a T.length c:=by
 obtain⟨H,h1,h2,_⟩:=h;obtain⟨a,c,e⟩:=h1.form;exact⟨a,c,by rw [e,h2]⟩
theorem SO.push {H:List q7} {h:q7} {t:nt} (h2:H.length=T.length) (h3:∀(j:Nat) (h:q7) (t:nt),H[j]? =some h→T[j]? =some t→HP w B h t)
 (hr:HL.Row w' B v' (H++ [h])) (hk:aK F w w') (hf:∀g,F g→ck w g HL.t) (ht:HP w B h t):SO w' B v' (T++ [t]):=by
 have hne:∀g,ck w g qg.t→¬F g:=fun g hg e=>hg.ne (hf g e) (by decide) rfl;refine⟨H++ [h],hr,by rw [List.length_append,List.length_append,h2];rfl,fun j h' t' a b=>?_⟩;by_cases hj:j<H.length
 ·rw [List.getElem?_append_left hj]at a
  rw [List.getElem?_append_left (by omega)]at b;exact(h3 j h' t' a b).keep hk hne
 ·rw [List.getElem?_append_right (by omega)]at a
  rw [List.getElem?_append_right (by omega),←h2]at b;have hj0:j-H.length=0:=by have:=dM a;simp at this;omega
  rw [hj0]at a b;injection a with a;injection b with b;subst a;subst b;exact ht.keep hk hne
end
theorem aiL {w:World} {ops:Array Oper} {o:Oper} {a:Act} {K:Act→World→Prop} {Q:Exit→Act→World→Prop} {E:Prop} {f0 f1:Int} {f2:Bool} {b:Option Addr} {n c:Nat} (hgd:o.guard=none) (t:Nat)
 (ho:o.op= .buildSlice 200 1 #[(0,.tmp t)]) (hx:a.tmps[t]?.getD undef= .agg #[↑f0,↑f1,↑f2,.slice b n c])
 (h:K (a.put o.dst (.slice ↑w.heap.size 1 1)) (w.alloc (.cells #[↑f0,↑f1,↑f2,.slice b n c] 206))):
 if Region.wanted o (yielded ops a.tmps)=true then Oper.wp Tryz.prog o a w K Q else E:=by
 have hw:Region.wanted o (yielded ops a.tmps)=true:=by simp [Region.wanted,hgd]
 rw [if_pos hw];unfold Oper.wp execOp;simp only [ho];go_simp;exact h
end Go.Proofs.YtmaijkoopjocdaaGreat
