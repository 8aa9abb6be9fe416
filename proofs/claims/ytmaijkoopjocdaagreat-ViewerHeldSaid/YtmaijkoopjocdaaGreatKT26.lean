import Derived.Test.YtmaijkoopjocdaaGreatKT25
set_option maxRecDepth 100000
set_option maxHeartbeats 64000000
namespace Go.Proofs.YtmaijkoopjocdaaGreat
open Go.RowKit Go.Lib
section
variable {W w w':World} {ps pb:Nat} {p:Prod} {Q:List Nat} {S:List (List ay)} {L L':List ay}
def tot (S:List (List ay)):Nat:=(S.map List.length).sum
theorem agL {k:Nat} (h:S[k]? =some L):tot (S.take (k+1))=tot (S.take k)+L.length:=by
 unfold tot;rw [lp h,List.map_append,List.sum_append];simp
theorem Yq (k:Nat):tot (S.take k)≤tot S:=by
 unfold tot
 conv=>{rhs;rw [←List.take_append_drop k S]}
 rw [List.map_append,List.sum_append];omega
theorem Jx {B g n cap k x:Nat} (h:Bx.Row w B (.slice (some ⟨g,0,none⟩) n cap) Q) (hx:Q[k]? =some x):w.cell? ⟨g,k,none⟩=some (.pointer (some ⟨x,0,none⟩)):=by
 obtain⟨g1,mE,e1,_,hc⟩:=h.at_ k x hx;have h1:g1=g:=by injection e1 with e1;injection e1 with e1;injection e1 with e1;exact e1.symm
 subst h1;have qg:gL w g1 (k*1) [.pointer (some ⟨x,0,none⟩)]:=hc;have:=qg 0 _ rfl
 rwa [Nat.mul_one,Nat.add_zero]at this
theorem ek.ptr (h:ek W w ps p Q S) {k x:Nat} (hx:Q[k]? =some x):∃g c,aj w ps 129 (s6 p (.slice (some ⟨g,0,none⟩) Q.length c))∧Bx.Row w W.heap.size (.slice (some ⟨g,0,none⟩) Q.length c) Q∧w.cell? ⟨g,k,none⟩=some (.pointer (some ⟨x,0,none⟩)):=by
 obtain⟨a,c,h1,h2⟩:=h.box;obtain⟨g,cap,e,_,_⟩:=h2.at_ k x hx;injection e with e1 _ bE;subst e1;subst bE;exact⟨g,c,h1,h2,Jx h2 hx⟩
theorem Sj (h:ek W w ps p Q S) (hl:S.length≤100) (ht:tot S≤100000):
 Calls Tryz.prog 105 #[.pointer (some ⟨ps,0,none⟩)] w fun e w'=>e= .returned (.int .i64 (tot S))∧w=w':=by
 obtain⟨a,c,aP,_⟩:=h.box;have H:=af h;have bK:=af ht;obtain⟨n,hn⟩:∃n,Q.length=n:=⟨_,rfl⟩;have p5:S.length=n:=by rw [←h.len];exact hn
 rw [hn]at aP;have dg:w.cell? ⟨ps,11,none⟩=some (.slice a n c):=aP.cell 11;have nU:=af p5;have o5:=af hn;rw [p5]at hl;clear aP h ht p5 hn;go_enter Tryz.func105,Tryz.ntmps105
 go_wp2_with fail
 go_loopw [4,3] (fun i y w'=>∃k t:Nat,i= .int .i64 k∧y= .int .i64 t∧k≤n∧t=tot (S.take k)∧w=w') (fun i _ _=>n-(RowKit.intOf i).toNat)
 case atStart=>exact⟨0,0,rfl,rfl,Nat.zero_le _,rfl,rfl⟩
 case round=>
  obtain⟨k,t,rfl,rfl,hk,hte,rfl⟩:=hrel;have s5:=af hte;have htb:t≤100000:=by have:=Yq (S:=S) k;have:=bK.out;omega
  clear hte;by_cases hlt:k<n
  ·have hlt':(k:Int)<(n:Int):=by omega
   obtain⟨x,L,hq,hs,hrb⟩:=H.out.get (by rw [nU.out];exact hlt);obtain⟨g,c1,hb1,mv,q0⟩:=H.out.ptr hq;obtain⟨a2,c2,hb2,_⟩:=hrb.box;have AZ:w.cell? ⟨ps,11,none⟩=some (.slice (some ⟨g,0,none⟩) n c1):=by have:=hb1.cell 11;rw [o5.out]at this;exact this
   have he:a=some ⟨g,0,none⟩∧c=c1:=by rw [dg]at AZ;injection AZ with e;injection e with e1 _ bE;exact⟨e1,bE⟩
   obtain⟨rfl,rfl⟩:=he;have y0:w.cell? ⟨x,0,none⟩=some (.slice a2 L.length c2):=hb2.cell 0;have hst:=agL hs;have kx:=af hst;have hlb:t+L.length≤100000:=by have:=Yq (S:=S) (k+1);have:=bK.out;have:=s5.out;omega
   clear hq hs hrb hb1 mv hb2 AZ hst;go_wp2_with fail
   go_roundw
   case rel=>exact⟨k+1,t+L.length,by go_num,by go_num,hlt,by rw [kx.out,s5.out],by trivial⟩
   case measure=>simp [RowKit.intOf];omega
  ·have hkn:k=n:=by omega
   have bH:Hid (t=tot S):=af (by rw [s5.out,hkn,←nU.out,List.take_length]);clear hkn;go_wp2_with fail
   go_ret;exact⟨by rw [bH.out];try rfl,by trivial⟩
theorem Nl (h:ek W w ps p Q S) (hl:S.length≤100):
 Calls Tryz.prog 68 #[.pointer (some ⟨ps,0,none⟩)] w fun e w'=>∃fp oa,e= .returned (.pointer (some ⟨fp,0,none⟩))∧ek W w' fp p oa S∧(∀g∈oa,w.heap.size≤g)∧w.heap.size≤fp∧Below w.heap.size w w':=by
 obtain⟨a,c,aP,hrow⟩:=h.box;obtain⟨n,hn⟩:∃n,Q.length=n:=⟨_,rfl⟩;have p5:S.length=n:=by rw [←h.len];exact hn
 rw [hn]at aP hrow;have jf:=af aP;have ec:=af hrow;have H:=af h;clear hrow;have hba:=Below.aA w (.cells (s6 p (.slice none 0 0)) 129)
 have Bz:Hid (ek W (w.alloc (.cells (s6 p (.slice none 0 0)) 129)) w.heap.size p [] (S.take 0)):=af
  ⟨⟨none,0,aj.new _ _ _,aY.Row.nil _ _⟩,by rw [List.take_zero];rfl,List.nodup_nil,fun i pb L h=>by simp at h,h.pv,h.aF.size,h.aF.trans (hba.mono h.aF.size)⟩
 have bD:=af hba;have nU:=af p5;have o5:=af hn;rw [p5]at hl;have b0:w.cell? ⟨ps,0,none⟩=some (.string p.code):=aP.cell 0;have b1:w.cell? ⟨ps,1,none⟩=some (.slice p.ma p.months.length p.mc):=aP.cell 1;have b2:w.cell? ⟨ps,2,none⟩=some (.int .i64 p.tick):=aP.cell 2;have b3:w.cell? ⟨ps,3,none⟩=some (.int .i64 p.low):=aP.cell 3;have b4:w.cell? ⟨ps,4,none⟩=some (.int .i64 p.high):=aP.cell 4;have aW:w.cell? ⟨ps,5,none⟩=some (.int .i64 p.wide):=aP.cell 5;have bp:w.cell? ⟨ps,6,none⟩=some (.int .i64 p.rule):=aP.cell 6;have aX:w.cell? ⟨ps,7,none⟩=some (.int .i64 p.top):=aP.cell 7;have bq:w.cell? ⟨ps,8,none⟩=some (.int .i64 p.least):=aP.cell 8;have bt:w.cell? ⟨ps,9,none⟩=some (.int .i64 p.part):=aP.cell 9;have bh:w.cell? ⟨ps,10,none⟩=some (.slice p.sa p.settle.length p.sc):=aP.cell 10;clear hba h aP p5 hn;unfold s6 at Bz bD;go_enter Tryz.func68,Tryz.ntmps68
 go_upto_region 2 with(fail)
 obtain⟨fp,mK⟩:∃g,w.heap.size=g:=⟨_,rfl⟩;have mm:=af mK;rw [mK]at Bz⊢;clear mK b0 b1 b2 b3 b4 aW bp aX bq bt bh;have Yr:Hid ((w.alloc (.cells #[.string p.code,.slice p.ma p.months.length p.mc,.int .i64 p.tick,.int .i64 p.low,.int .i64 p.high,.int .i64 p.wide,.int .i64 p.rule,.int .i64 p.top,.int .i64 p.least,.int .i64 p.part,.slice p.sa p.settle.length p.sc,.slice none 0 0] 129)).cell? ⟨fp,11,none⟩=some (.slice none 0 0)):=af (by rw [←mm.out];exact(aj.new w 129 #[.string p.code,.slice p.ma p.months.length p.mc,.int .i64 p.tick,.int .i64 p.low,.int .i64 p.high,.int .i64 p.wide,.int .i64 p.rule,.int .i64 p.top,.int .i64 p.least,.int .i64 p.part,.slice p.sa p.settle.length p.sc,.slice none 0 0]).cell 11);generalize w.alloc (.cells _ 129)=w1 at*;go_wp2_with fail
 go_loopw [4] (fun i w'=>∃(k:Nat) (oa:List Nat),i= .int .i64 k∧k≤n∧ek W w' fp p oa (S.take k)∧(∃a2 c2,w'.cell? ⟨fp,11,none⟩=some (.slice a2 k c2)∧∀g,(Value.slice a2 k c2).ownBlock=some g→w.heap.size≤g)∧(∀g∈oa,w.heap.size≤g)∧Below w.heap.size w w') (fun i _=>n-(RowKit.intOf i).toNat)
 case atStart=>exact⟨0,[],rfl,Nat.zero_le _,Bz.out,⟨none,0,Yr.out,fun g hg=>(by cases hg)⟩,fun g hg=>(by cases hg),bD.out⟩
 case round=>
  clear Bz Yr bD;obtain⟨k,oa,rfl,hk,hS,⟨a2,c2,uk,Ys⟩,Yt,hB⟩:=hrel;obtain⟨ak,rfl⟩:∃bk:World,bk=wr:=⟨_,rfl⟩;have qB:=af hS;have Yu:=af (H.out.below hB);have sN:=af uk;have Mq:=af Ys;have oc:=af Yt;have aE:=af hB;have dg:ak.cell? ⟨ps,11,none⟩=some (.slice a n c):=(jf.out.below hB).cell 11;clear hS Yt hB uk Ys;by_cases hlt:k<n
  ·have hlt':(k:Int)<(n:Int):=by omega
   obtain⟨x,L,hq,hs,hrb⟩:=Yu.out.get (by rw [nU.out];exact hlt);obtain⟨g,mE,e,c6,_⟩:=ec.out.at_ k x hq;rw [o5.out]at e;injection e with e1 _ bE;subst e1;subst bE;have hb1:=jf.out.below aE.out;have mv:=ec.out.below aE.out;have rK:g<w.heap.size:=jH ec.out g rfl;have nN:=af rK;have gM:=af hq;have q0:ak.cell? ⟨g,k,none⟩=some (.pointer (some ⟨x,0,none⟩)):=Jx mv hq;have dh:Hid (S.take (k+1)=S.take k++ [L]):=af (lp hs);have F0:oa.length=k:=by rw [qB.out.len,List.length_take,nU.out];omega
   have s7:=af F0;obtain⟨agM,agN,bR,Jy⟩:=qB.out.box;rw [F0]at bR Jy;have he:a2=agM∧c2=agN:=by have:=bR.cell 11;rw [sN.out]at this;injection this with e;injection e with e1 _ bE;exact⟨e1,bE⟩
   obtain⟨rfl,rfl⟩:=he;have iG:=af bR;have kY:=af Jy;have aU:=af (agK (hrb.below (Below.bT ak 1)))
   have aq:Hid (∀wx,Below ak.heap.size ak wx→(fun w'=>w'.cell? ⟨fp,11,none⟩=some (.slice a2 k c2)∧w'.cell? ⟨ps,11,none⟩=some (.slice (some ⟨g,0,none⟩) n c)∧w'.cell? ⟨g,k,none⟩=some (.pointer (some ⟨x,0,none⟩))) wx):=af fun wx hb=>by
    have h1:=(iG.out.below hb).cell 11;have h2:=(hb1.below hb).cell 11;have h3:=Jx (mv.below hb) hq;exact⟨h1,h2,h3⟩
   clear F0 bR Jy hrb hs hb1 mv hq c6 rK;go_upto_region 5 with(fail)
   refine cF (S:=fun w'=>w'.cell? ⟨fp,11,none⟩=some (.slice a2 k c2)∧w'.cell? ⟨ps,11,none⟩=some (.slice (some ⟨g,0,none⟩) n c)∧w'.cell? ⟨g,k,none⟩=some (.pointer (some ⟨x,0,none⟩))) (by kernel_rfl) (aq.out _ (Below.refl _ _).drew) (fun hHeld=>?_);refine ai 0 ?_;refine ai 1 ?_;refine ai 2 ?_;refine ai 3 ?_;refine ai 4 ?_;refine ai 5 ?_;refine ai 6 ?_;refine ai 7 ?_;refine ai 8 ?_;refine ai 9 ?_;refine ai 10 ?_;refine ai 11 ?_;refine aR 12 fun K hK=>?_;go_simp;refine aU.out.mono ?_;rintro e w3 ⟨pm,rfl,Yv,Yw,hb3⟩;have p0:=(Below.bT ak 1).trans hb3;refine hK.out _ _ (aq.out _ p0) (fun hHeld=>?_);clear hK K;have hba:=Below.aA w3 (.cells #[.pointer (some ⟨pm,0,none⟩)] 134);have hb4:=p0.trans (hba.mono p0.size);have dN:Hid (aj (w3.alloc (.cells #[.pointer (some ⟨pm,0,none⟩)] 134)) w3.heap.size 134 (Ju pm).toArray):=af (aj.new _ _ _);have bM:=af hb4;have Yx:=af (Yv.below hba);have Yy:Hid (ak.heap.size≤pm):=af Yw;refine aR 13 fun K hK=>?_;go_simp;refine hK.out _ _ (aq.out _ hb4) (fun hHeld=>?_);clear hK K Yv Yw hb3 p0 hba hb4 aU;have Rh:=af (kY.out.below bM.out);refine aR 14 fun K hK=>?_;refine Bx.step (by rfl) (.tmp 24) (.tmp 33) (by rfl) W.heap.size (.slice a2 k c2) oa (by rfl) Rh.out w3.heap.size pm (by rfl) dN.out.lt dN.out.fU (by rw [s7.out];omega) (Nat.le_trans qB.out.aF.size bM.out.size) ?_;intro v' au cS fW LA;obtain⟨a5,cj,iA⟩:=cS.form;rw [List.length_append,List.length_singleton,s7.out]at iA;subst iA;have Jw:=qB.out.push (v':= .slice a5 (k+1) cj) (by rw [s7.out];exact iG.out) bM.out Yy.out Yx.out (by rw [s7.out];exact Rh.out) cS (by rw [s7.out];exact fW);rw [s7.out,←dh.out]at Jw;obtain⟨h1,kX,z5,bF⟩:=Jw;have Fm:=af h1;have qV:=fe fW;have di:Below w.heap.size w au:=(aE.out.trans (bM.out.mono aE.out.size)).trans (qV.below Mq.out (Nat.le_trans aE.out.size bM.out.size));have HY:=jf.out.below di;have bO:=ec.out.below di
   have agO:Hid (∀g,(Value.slice a5 (k+1) cj).ownBlock=some g→w.heap.size≤g):=af fun g hg=>by
    rcases LA with h|h
    ·exact Mq.out g (by rw [←h];exact hg)
    ·rw [hg]at h
     injection h with h;rw [h];exact Nat.le_trans aE.out.size bM.out.size
   have cD:Hid (Below w.heap.size w (au.setCell ⟨fp,11,none⟩ (.slice a5 (k+1) cj))):=af (di.setCell (p:=⟨fp,11,none⟩) (Nat.le_of_eq mm.out) _);have yX:Hid ((au.setCell ⟨fp,11,none⟩ (.slice a5 (k+1) cj)).cell? ⟨fp,11,none⟩=some (.slice a5 (k+1) cj)):=af (bF.cell 11)
   have agP:Hid (∀g∈oa++ [pm],w.heap.size≤g):=af fun g hg=>by
    rcases List.mem_append.1 hg with h|h
    ·exact oc.out g h
    ·rw [List.mem_singleton]at h
     rw [h];exact Nat.le_trans aE.out.size Yy.out
   refine hK.out _ _ ⟨kX,HY.cell 11,Jx bO gM.out⟩ (fun hHeld=>?_);clear hK K di HY bO cS fW LA qV h1 bF;refine ai 15 ?_;refine ai 16 ?_;refine cO 17 fun K hK=>?_;go_simp;refine hK.out _ _ ?_;clear hK K hHeld kX z5 dg q0 dN Yx Rh iG kY qB Yu;go_wp2_with fail
   go_roundw
   case rel=>exact⟨k+1,_,by go_num,hlt,Fm.out,⟨a5,cj,yX.out,agO.out⟩,agP.out,cD.out⟩
   case measure=>simp [RowKit.intOf];omega
  ·have hkn:k=n:=by omega
   subst hkn;have Ie:Hid (ek W ak fp p oa S):=af (by have:=qB.out;rwa [←nU.out,List.take_length]at this);go_wp2_with fail
   go_ret;exact⟨fp,oa,rfl,Ie.out,oc.out,Nat.le_of_eq mm.out,aE.out⟩
end
def gp (id:Int):Nat→List (List ay)→Option (Nat×ay)
 |_,[]=>none
 |k,L::t=>if(tV L id).2=true then some (k,(tV L id).1)else gp id (k+1) t
def u0 (o:Option (Nat×ay)):Value:=match o with
 |none=> .tuple #[.int .i64 0,.agg #[.int .i64 0,.int .i64 0,.int .i64 0,.int .i64 0,.bool false],.bool false]
 |some (i,x)=> .tuple #[.int .i64 i,.agg #[.int .i64 x.id,.int .i64 x.side,.int .i64 x.ag,.int .i64 x.ah,.bool x.top],.bool true]
section
variable {W w w':World} {ps pb:Nat} {p:Prod} {Q:List Nat} {S:List (List ay)} {L L':List ay}
theorem agQ {id:Int} {k:Nat} (h:S[k]? =some L):gp id k (S.drop k)=if(tV L id).2=true then some (k,(tV L id).1)else gp id (k+1) (S.drop (k+1)):=by
 obtain⟨h1,h2⟩:=lq h;rw [List.drop_eq_getElem_cons h1,h2];rfl
theorem CI (h:ek W w ps p Q S) (hl:S.length≤100) (hL:∀L∈S,L.length≤250) (id:Int):
 Calls Tryz.prog 65 #[.pointer (some ⟨ps,0,none⟩),.int .i64 id] w fun e w'=>e= .returned (u0 (gp id 0 S))∧Below w.heap.size w w':=by
 obtain⟨a,c,aP,hrow⟩:=h.box;obtain⟨n,hn⟩:∃n,Q.length=n:=⟨_,rfl⟩;have p5:S.length=n:=by rw [←h.len];exact hn
 rw [hn]at aP hrow;have hba:=Below.aA w (.cells #[.int .i64 0,.int .i64 0,.int .i64 0,.int .i64 0,.bool false] 139);have cv:Hid (aj (w.alloc (.cells #[.int .i64 0,.int .i64 0,.int .i64 0,.int .i64 0,.bool false] 139)) w.heap.size 139 #[.int .i64 0,.int .i64 0,.int .i64 0,.int .i64 0,.bool false]):=af (aj.new _ _ _);have H:=af (h.below hba);have jf:=af (aP.below hba);have ec:=af (hrow.below hba);have aE:=af hba;have nU:=af p5;have o5:=af hn;have js:=af hL;rw [p5]at hl;clear hba h aP hrow p5 hn hL;go_enter Tryz.func65,Tryz.ntmps65
 go_upto_region 1 with(fail)
 obtain⟨g,hg⟩:∃g,w.heap.size=g:=⟨_,rfl⟩;have vQ:=af hg;rw [hg]at cv⊢;clear hg;generalize w.alloc (.cells _ 139)=w1 at*;go_wp2_with fail
 go_loopw [7] (fun i w'=>∃k:Nat,i= .int .i64 k∧k≤n∧gp id 0 S=gp id k (S.drop k)∧Below w1.heap.size w1 w') (fun i _=>n-(RowKit.intOf i).toNat)
 case atStart=>exact⟨0,rfl,Nat.zero_le _,by rw [List.drop_zero],Below.refl _ _⟩
 case round=>
  obtain⟨k,rfl,hk,gm,hbz⟩:=hrel;obtain⟨ak,rfl⟩:∃bk:World,bk=wr:=⟨_,rfl⟩;have xO:=af gm;have fH:=af hbz;have dg:ak.cell? ⟨ps,11,none⟩=some (.slice a n c):=(jf.out.below hbz).cell 11;clear gm hbz;by_cases hlt:k<n
  ·have hlt':(k:Int)<(n:Int):=by omega
   obtain⟨x,L,hq,hs,hrb⟩:=(H.out.below fH.out).get (by rw [nU.out];exact hlt);obtain⟨cu,mE,e,_,_⟩:=ec.out.at_ k x hq;rw [o5.out]at e;injection e with e1 _ bE;subst e1;subst bE;have q0:ak.cell? ⟨cu,k,none⟩=some (.pointer (some ⟨x,0,none⟩)):=Jx (ec.out.below fH.out) hq;have kx:=af (agQ (id:=id) hs);have aU:=af (aeB hrb (js.out L (List.mem_of_getElem? hs)) id);obtain⟨o,fb,hfo⟩:∃o b,tV L id=(o,b):=⟨_,_,rfl⟩;rw [hfo]at aU kx;clear hq hs hrb hfo;go_wp2_with fail
   refine aU.out.mono ?_;rintro e w2 ⟨he,hb2⟩;obtain⟨oi,os,op,fk,p8⟩:=o;subst he;have aT:=af hb2;have hba:=Below.aA w2 (.cells #[.int .i64 oi,.int .i64 os,.int .i64 op,.int .i64 fk,.bool p8] 139);have e6:Hid (aj (w2.alloc (.cells #[.int .i64 oi,.int .i64 os,.int .i64 op,.int .i64 fk,.bool p8] 139)) w2.heap.size 139 #[.int .i64 oi,.int .i64 os,.int .i64 op,.int .i64 fk,.bool p8]):=af (aj.new _ _ _);have aN:=af ((fH.out.trans (hb2.mono fH.out.size)).trans (hba.mono (fH.out.trans (hb2.mono fH.out.size)).size));clear hb2 hba aU;simp only [ay.cells,List.toArray];cases fb with
   |false=>
    go_wp2_with fail
    go_roundw
    case rel=>exact⟨k+1,by go_num,hlt,by rw [xO.out,kx.out];rfl,aN.out⟩
    case measure=>simp [RowKit.intOf];omega
   |true=>
    have bH:Hid (u0 (gp id 0 S)= .tuple #[.int .i64 k,.agg #[.int .i64 oi,.int .i64 os,.int .i64 op,.int .i64 fk,.bool p8],.bool true]):=af (by rw [xO.out,kx.out];rfl);have eo:Hid (aj (w2.alloc (.cells #[.int .i64 oi,.int .i64 os,.int .i64 op,.int .i64 fk,.bool p8] 139)) g 139 #[.int .i64 0,.int .i64 0,.int .i64 0,.int .i64 0,.bool false]):=af (cv.out.below aN.out);have kV:Hid (g<w2.heap.size):=af (Nat.lt_of_lt_of_le cv.out.lt (fH.out.trans (aT.out.mono fH.out.size)).size);go_upto_region 6 with(fail)
    obtain⟨go,nR⟩:∃x,w2.heap.size=x:=⟨_,rfl⟩;rw [nR]at e6 kV⊢;clear nR aT;generalize w2.alloc (.cells _ 139)=w3 at*;have c0:=e6.out.cell 0;have c1:=e6.out.cell 1;have c2:=e6.out.cell 2;have c3:=e6.out.cell 3;have dn:=e6.out.cell 4;refine cF (S:=fun w'=>w'.cell? ⟨go,0,none⟩=some (.int .i64 oi)∧w'.cell? ⟨go,1,none⟩=some (.int .i64 os)∧w'.cell? ⟨go,2,none⟩=some (.int .i64 op)∧w'.cell? ⟨go,3,none⟩=some (.int .i64 fk)∧w'.cell? ⟨go,4,none⟩=some (.bool p8)) (by kernel_rfl) ⟨c0,c1,c2,c3,dn⟩ (fun hHeld=>?_);refine ai 0 ?_;refine ai 1 ?_;refine aR 2 fun K hK=>?_;go_simp;refine hK.out _ _ hHeld (fun hHeld=>?_);clear hK K;have l0:w3.cell? ⟨g,0,none⟩=some (.int .i64 0):=eo.out.cell 0;have l1:w3.cell? ⟨g,1,none⟩=some (.int .i64 0):=eo.out.cell 1;have l2:w3.cell? ⟨g,2,none⟩=some (.int .i64 0):=eo.out.cell 2;have l3:w3.cell? ⟨g,3,none⟩=some (.int .i64 0):=eo.out.cell 3;have l4:w3.cell? ⟨g,4,none⟩=some (.bool false):=eo.out.cell 4;have fz:∀o,w3.frozen? ⟨g,o,none⟩=false:=fun o=>eo.out.frozen o;refine aR 3 fun K hK=>?_;go_simp;clear l0 l1 l2 l3 l4 fz;have hz:=aj.rL eo.out (.int .i64 oi) (.int .i64 os) (.int .i64 op) (.int .i64 fk) (.bool p8);have Jz:=aD.rL w3 g (.int .i64 oi) (.int .i64 os) (.int .i64 op) (.int .i64 fk) (.bool p8);have hbz:=(aE.out.trans (aN.out.mono aE.out.size)).trans (Jz.below (B:=w.heap.size) (fun k hk=>by have hk2:k=g:=hk;rw [hk2];exact Nat.le_of_eq vQ.out) (aE.out.trans (aN.out.mono aE.out.size)).size);have nR:aj (((((w3.setCell ⟨g,0,none⟩ (.int .i64 oi)).setCell ⟨g,1,none⟩ (.int .i64 os)).setCell ⟨g,2,none⟩ (.int .i64 op)).setCell ⟨g,3,none⟩ (.int .i64 fk)).setCell ⟨g,4,none⟩ (.bool p8)) go 139 #[.int .i64 oi,.int .i64 os,.int .i64 op,.int .i64 fk,.bool p8]:=e6.out.keeps Jz (fun e=>by have e2:go=g:=e;have:=kV.out;omega);generalize (((((w3.setCell ⟨g,0,none⟩ (.int .i64 oi)).setCell ⟨g,1,none⟩ (.int .i64 os)).setCell ⟨g,2,none⟩ (.int .i64 op)).setCell ⟨g,3,none⟩ (.int .i64 fk)).setCell ⟨g,4,none⟩ (.bool p8))=av at*;have kZ:Hid (Below w.heap.size w av.drew):=af (hbz.drew);have dI:=af hz.drew;have zS:=af nR.drew;clear hbz Jz hz nR c0 c1 c2 c3 dn;generalize av.drew=au at*;have c0:=zS.out.cell 0;have c1:=zS.out.cell 1;have c2:=zS.out.cell 2;have c3:=zS.out.cell 3;have dn:=zS.out.cell 4;refine hK.out _ _ ⟨c0,c1,c2,c3,dn⟩ (fun hHeld=>?_);clear hK K hHeld;refine cO 4 fun K hK=>?_;go_simp;refine hK.out _ _ ?_;clear hK K c0 c1 c2 c3 dn;have k0:=dI.out.cell 0;have k1:=dI.out.cell 1;have k2:=dI.out.cell 2;have e7:=dI.out.cell 3;have gY:=dI.out.cell 4;go_wp2_with fail
    refine bodyPost_ret (v:= .tuple #[.int .i64 k,.agg #[.int .i64 oi,.int .i64 os,.int .i64 op,.int .i64 fk,.bool p8],.bool true]) (by simp [results,Tryz.results65,go_sem,k0,k1,k2,e7,gY]) rfl ⟨by rw [bH.out],kZ.out⟩
  ·have hkn:k=n:=by omega
   have bH:Hid (u0 (gp id 0 S)= .tuple #[.int .i64 0,.agg #[.int .i64 0,.int .i64 0,.int .i64 0,.int .i64 0,.bool false],.bool false]):=af (by rw [xO.out,hkn,←nU.out,List.drop_length];rfl);have eo:=af (cv.out.below fH.out);have kZ:=af (aE.out.trans (fH.out.mono aE.out.size));clear hkn;have l0:ak.cell? ⟨g,0,none⟩=some (.int .i64 0):=eo.out.cell 0;have l1:ak.cell? ⟨g,1,none⟩=some (.int .i64 0):=eo.out.cell 1;have l2:ak.cell? ⟨g,2,none⟩=some (.int .i64 0):=eo.out.cell 2;have l3:ak.cell? ⟨g,3,none⟩=some (.int .i64 0):=eo.out.cell 3;have l4:ak.cell? ⟨g,4,none⟩=some (.bool false):=eo.out.cell 4;have fz:∀o,ak.frozen? ⟨g,o,none⟩=false:=fun o=>eo.out.frozen o;go_wp2_with fail
   clear l0 l1 l2 l3 l4 fz;have hz:=aj.rL eo.out (.int .i64 0) (.int .i64 0) (.int .i64 0) (.int .i64 0) (.bool false);have Jz:=aD.rL ak g (.int .i64 0) (.int .i64 0) (.int .i64 0) (.int .i64 0) (.bool false);have hbz:=kZ.out.trans (Jz.below (B:=w.heap.size) (fun k hk=>by have hk2:k=g:=hk;rw [hk2];exact Nat.le_of_eq vQ.out) kZ.out.size);generalize (((((ak.setCell ⟨g,0,none⟩ (.int .i64 0)).setCell ⟨g,1,none⟩ (.int .i64 0)).setCell ⟨g,2,none⟩ (.int .i64 0)).setCell ⟨g,3,none⟩ (.int .i64 0)).setCell ⟨g,4,none⟩ (.bool false))=av at*;have k0:=hz.cell 0;have k1:=hz.cell 1;have k2:=hz.cell 2;have e7:=hz.cell 3;have gY:=hz.cell 4;refine bodyPost_ret (v:= .tuple #[.int .i64 0,.agg #[.int .i64 0,.int .i64 0,.int .i64 0,.int .i64 0,.bool false],.bool false]) (by simp [results,Tryz.results65,go_sem,k0,k1,k2,e7,gY]) rfl ⟨by rw [bH.out],hbz⟩
end
theorem KY {id:Int} {x:ay} {i:Nat}:∀(S:List (List ay)) (k:Nat),gp id k S=some (i,x)→k≤i∧∃L,S[i-k]? =some L∧tV L id=(x,true)
 | [],k,h=>by simp [gp]at h
 |L::t,k,h=>by
  unfold gp at h;split at h
  ·rename_i hb
   injection h with h;injection h with h1 h2;subst h1;exact⟨Nat.le_refl _,L,by rw [Nat.sub_self];rfl,by rw [←h2,←hb]⟩
  ·obtain⟨h1,K,h2,h3⟩:=KY t (k+1) h
   refine⟨by omega,K,?_,h3⟩;rw [show i-k=(i-(k+1))+1 by omega,List.getElem?_cons_succ];exact h2
def fA (S:List (List ay)) (id ah:Int):List (List ay)×Int:=match gp id 0 S with
 |none=>(S,26)
 |some (i,_)=>(S.set i (oz (S.getD i []) id ah).1,(oz (S.getD i []) id ah).2)
section
variable {W w w':World} {ps pb:Nat} {p:Prod} {Q:List Nat} {S:List (List ay)} {L L':List ay}
theorem Ud {id:Int} (h:gp id 0 S=none) (ah:Int):fA S id ah=(S,26):=by
 unfold fA;rw [h]
theorem Ue {id:Int} {i:Nat} {x:ay} (h:gp id 0 S=some (i,x)) (hl:S[i]? =some L) (ah:Int):fA S id ah=(S.set i (oz L id ah).1,(oz L id ah).2):=by
 unfold fA;rw [h];have:S.getD i []=L:=by rw [List.getD_eq_getElem?_getD,hl];rfl
 rw [←this]
theorem Ht (h:ek W w ps p Q S) (hl:S.length≤100) (hL:∀L∈S,L.length≤250∧(L.map ay.id).Nodup∧∀o∈L,1≤o.ah∧o.ah≤1000000) (id ah:Int):
 Calls Tryz.prog 66 #[.pointer (some ⟨ps,0,none⟩),.int .i64 id,.int .i64 ah] w fun e w'=>e= .returned (.int .i64 (fA S id ah).2)∧ek W w' ps p Q (fA S id ah).1∧aD (fun g=>g∈Q) w w':=by
 have cn:=af (CI h hl (fun L h=>(hL L h).1) id);have H:=af h;have js:=af hL;have HN:=af hl;cases hf:gp id 0 S with
 |none=>
  rw [hf]at cn;have bK:=af (Ud hf ah);clear h hL hf hl;unfold u0 at cn;go_enter Tryz.func66,Tryz.ntmps66
  go_wp2_with fail
  refine cn.out.mono ?_;rintro e w2 ⟨rfl,hb2⟩;have rH:Hid (aD (fun g=>g∈Q) w (w2.alloc (.cells #[.int .i64 0,.int .i64 0,.int .i64 0,.int .i64 0,.bool false] 139))):=af (Below.keeps (hb2.trans ((Below.aA w2 _).mono hb2.size)));have H2:=af ((H.out.below hb2).below (Below.aA w2 (.cells #[.int .i64 0,.int .i64 0,.int .i64 0,.int .i64 0,.bool false] 139)));clear hb2 cn;go_wp2_with fail
  go_ret;refine⟨?_,by rw [bK.out];exact H2.out,rH.out⟩;rw [bK.out];first|done|rfl
 |some qu=>
  obtain⟨i,x⟩:=qu;rw [hf]at cn;obtain⟨_,L,hs,hfo⟩:=KY S 0 hf;rw [Nat.sub_zero]at hs;have bK:=af (Ue hf hs ah);have aq:=af hs;obtain⟨hi,agR⟩:=lq hs;clear h hL hf hfo hs agR;obtain⟨oi,os,op,fk,p8⟩:=x;unfold u0 at cn;simp only at cn;go_enter Tryz.func66,Tryz.ntmps66
  go_wp2_with fail
  refine cn.out.mono ?_;rintro e w2 ⟨rfl,hb2⟩;have rH:Hid (aD (fun g=>g∈Q) w (w2.alloc (.cells #[.int .i64 oi,.int .i64 os,.int .i64 op,.int .i64 fk,.bool p8] 139))):=af (Below.keeps (hb2.trans ((Below.aA w2 _).mono hb2.size)));have H2:=af ((H.out.below hb2).below (Below.aA w2 (.cells #[.int .i64 oi,.int .i64 os,.int .i64 op,.int .i64 fk,.bool p8] 139)));clear hb2 cn;go_upto_region 4 with(fail)
  obtain⟨pb,lD,hq,ic,hrb⟩:=H2.out.get hi;rw [aq.out]at ic;injection ic with ic;subst ic;obtain⟨n,hn⟩:∃n,Q.length=n:=⟨_,rfl⟩;have hin:i<n:=by rw [←hn,H2.out.len];exact hi
  obtain⟨g,c,aP,hrow,q0⟩:=H2.out.ptr hq;have dg:=aP.cell 11;rw [hn]at dg;have gM:=af hq;have cA:=js.out L (List.mem_of_getElem? aq.out);have aU:=af (Ut hrb cA.1 cA.2.1 cA.2.2 id ah);have wD:=af hn;clear aP hrow hrb hq cA hn hi;generalize w2.alloc (.cells _ 139)=w3 at*;have AZ:w3.cell? ⟨ps,11,none⟩=some (.slice (some ⟨g,0,none⟩) n c):=dg;clear dg;go_wp2_with fail
  refine aU.out.mono ?_;rintro e av ⟨rfl,hO,jB⟩;have H4:=af (H2.out.Ox gM.out jB hO);have x7:Hid (aD (fun g=>g∈Q) w av):=af (rH.out.trans (jB.more fun k hk=>by have e:k=pb:=hk;rw [e];exact List.mem_of_getElem? gM.out));clear hO jB aU;go_wp2_with fail
  go_ret;refine⟨?_,by rw [bK.out];exact H4.out,x7.out⟩;rw [bK.out];first|done|rfl
end
end Go.Proofs.YtmaijkoopjocdaaGreat
namespace Go.Proofs.YtmaijkoopjocdaaGreat
open Go.RowKit
theorem IM {p:Prod} (h:cz p≠0):countP p=0:=if_neg h
theorem wE {p:Prod} (h:cz p=0):countP p=mZ p.months.length:=if_pos h
theorem w6:∀n,n≤6→mZ n≤21∧n≤mZ n:=by decide
theorem zL (p:Prod):0≤countP p∧countP p≤21:=by
 unfold countP;split
 ·rename_i h
  have:=oC h;have:=w6 p.months.length (by omega);omega
 ·omega
theorem Xh {p:Prod} (h:cz p=0): -1000000≤p.low∧p.low<p.high∧p.high≤1000000∧0≤p.wide∧p.wide≤p.high-p.low:=by
 have:=(Ig h).2.2.2.1;unfold gQ at this;omega
theorem afv {p:Prod} (h:cz p=0) {j:Nat} {x:Int} (hx:p.settle[j]? =some x):p.low≤x∧x≤p.high:=by
 have:=(Ig h).2.2.2.2.1;unfold n7 at this;simp only [Bool.or_eq_false_iff,List.any_eq_false,decide_eq_true_eq]at this;have hm:=List.mem_of_getElem? hx;have h1:=this.1.2 x hm;have h2:=this.2 x hm;omega
theorem Qy {p:Prod} (h:countP p≠0):cz p=0:=by
 by_cases hz:cz p=0
 ·exact hz
 ·exact absurd (IM hz) h
theorem WT {p:Prod} (h:cz p=0):0<countP p:=by
 have:=oC h;have:=w6 p.months.length (by omega);rw [wE h];omega
def Bm (p:Prod) (inst:Int):Int:=if(p.months.length:Int)≤inst then-p.wide else p.low
def Bn (p:Prod) (inst:Int):Int:=if(p.months.length:Int)≤inst then p.wide else p.high
def eA (p:Prod) (inst ag:Int):Int:=
 if countP p=0 then 1 else if inst<0∨countP p≤inst then 20 else if ag.tmod p.tick≠0 then 22 else if ag<Bm p inst∨Bn p inst<ag then 23 else 0
theorem Xi:∀n,n≤6→∀k,k<22→n+k<mZ n→zu n k<Ih n k∧Ih n k<n:=by decide
theorem Qj {p:Prod} {inst:Int} (h:(fB p inst).2.2=true):cz p=0∧∃i j:Nat,fB p inst=((i:Int),(j:Int),true)∧i<j∧j<p.months.length∧(p.months.length:Int)≤inst∧inst<countP p:=by
 unfold fB at h⊢;by_cases h1:inst<0∨countP p≤inst
 ·rw [if_pos h1]at h;cases h
 ·rw [if_neg h1]at h⊢
  by_cases h2:inst<p.months.length
  ·rw [if_pos h2]at h;cases h
  ·rw [if_neg h2]
   have hz:cz p=0:=Qy (by omega);have hl:=oC hz;have hc:=wE hz;have sQ:=w6 p.months.length hl.2;have:=Xi p.months.length hl.2 (inst-p.months.length).toNat (by omega) (by omega);exact⟨hz,_,_,rfl,this.1,this.2,by omega,by omega⟩
def s3 (p:Prod) (inst ag:Int):Int×Int×Int:=
 if cz p≠0 then(0,0,1)else if(fB p inst).2.2=false then(0,0,20)else if eA p inst ag≠0 then(0,0,eA p inst ag)else
  if p.high<p.settle.getD (fB p inst).2.1.toNat 0+ag then(p.high,p.high-ag,0)else
   if p.settle.getD (fB p inst).2.1.toNat 0+ag<p.low then(p.low,p.low-ag,0)else(p.settle.getD (fB p inst).2.1.toNat 0+ag,p.settle.getD (fB p inst).2.1.toNat 0,0)
theorem afw {p:Prod} {inst ag:Int} (h:eA p inst ag=0):cz p=0∧0≤inst∧inst<countP p∧ag.tmod p.tick=0∧Bm p inst≤ag∧ag≤Bn p inst:=by
 unfold eA at h;by_cases h1:countP p=0
 ·rw [if_pos h1]at h;omega
 rw [if_neg h1]at h;by_cases h2:inst<0∨countP p≤inst
 ·rw [if_pos h2]at h;omega
 rw [if_neg h2]at h;by_cases h3:ag.tmod p.tick≠0
 ·rw [if_pos h3]at h;omega
 rw [if_neg h3]at h;by_cases h4:ag<Bm p inst∨Bn p inst<ag
 ·rw [if_pos h4]at h;omega
 exact⟨Qy h1,by omega,by omega,by omega,by omega,by omega⟩
theorem Lg (n:Nat) {a b:Nat} (h:a≤b):j7 n a≤j7 n b:=by
 induction b with
 |zero=>obtain rfl:a=0:=by omega
        exact Nat.le_refl _
 |succ b ih=>
  by_cases hab:a=b+1
  ·rw [hab];exact Nat.le_refl _
  ·have:=ih (by omega)
   rw [HS];omega
theorem Xj {p:Prod} {n k i j:Nat} (hn:p.months.length=n) (hz:cz p=0) (hi:i+1≤j) (hj:j<n) (hk:k=j7 n i+(j-(i+1))):fB p ((n:Int)+(k:Int))=((i:Int),(j:Int),true):=by
 subst hn;have hs:=HS p.months.length i;have hl:=oC hz;have he:=Lf p.months.length hl.2;have hm:=Lg p.months.length (show i+1≤p.months.length by omega);have hc:=wE hz
 have gR:zu p.months.length k=i:=adl (by omega) (by omega) fun j' hj'=>by
  have:=Lg p.months.length (show j'+1≤i by omega);omega
 unfold fB;rw [if_neg (by omega),if_neg (by omega),show((p.months.length:Int)+(k:Int)-(p.months.length:Int)).toNat=k by omega];unfold Ih;rw [gR,show i+1+(k-j7 p.months.length i)=j by omega]
theorem afx {p:Prod} {n k:Nat} (hn:p.months.length=n) (hz:cz p=0) (hk:j7 n n≤k):fB p ((n:Int)+(k:Int))=(0,0,false):=by
 subst hn;have hl:=oC hz;have he:=Lf p.months.length hl.2;have hc:=wE hz;exact if_pos (by omega)
theorem FE (p:Prod) (inst:Int) (w:World) (hp:fZ w p):
 Calls Tryz.prog 71 #[p.agg,.int .i64 inst] w fun e w'=>e= .returned (.tuple #[.int .i64 (fB p inst).1,.int .i64 (fB p inst).2.1,.bool (fB p inst).2.2])∧Below w.heap.size w w':=by
 have hs0:=St.new hp;unfold Prod.cells at hs0;have eb:=af hs0;have cN:=IK p _ hs0.pv;unfold Prod.agg Prod.cells at cN⊢;have hml:=hp.Ao;clear hp hs0;have hcb:=zL p;obtain⟨b0,b1,b2,b3,b4,aW,bp,aX,bq,bt,bh⟩:=eb.out.pc;by_cases hz:cz p=0
 ·rw [hz]at cN
  by_cases hneg:inst<0
  ·have cX:Hid (fB p inst=(0,0,false)):=af (if_pos (.inl hneg))
   rw [cX.out];clear hz;go_enter Tryz.func71,Tryz.ntmps71
   go_wp2_with fail
   refine cN.mono ?_;rintro e w1 ⟨rfl,hb1⟩;have aq:=af (eb.out.next hb1);clear cN hb1 b0 b1 b2 b3 b4 aW bp aX bq bt bh;go_wp2_with fail
   go_ret3
   exact⟨by rfl,aq.out.aF⟩
  ·have hlen:=oC hz
   have sQ:=w6 p.months.length hlen.2;have hcs:=wE hz;by_cases hm:inst<p.months.length
   ·have cX:Hid (fB p inst=(inst,inst,false)):=af (by unfold fB;rw [if_neg (by omega),if_pos hm])
    rw [cX.out];clear hz hcs sQ;go_enter Tryz.func71,Tryz.ntmps71
    go_wp2_with fail
    refine cN.mono ?_;rintro e w1 ⟨rfl,hb1⟩;have aq:=af (eb.out.next hb1);clear cN hb1 b0 b1 b2 b3 b4 aW bp aX bq bt bh;go_wp2_with fail
    go_ret3
    exact⟨by rfl,aq.out.aF⟩
   ·obtain⟨k,hk⟩:∃k:Nat,inst=(p.months.length:Int)+(k:Int):=⟨(inst-p.months.length).toNat,by omega⟩
    subst hk;have FK:=af fun(i j:Nat) (hi:i+1≤j) (hj:j<p.months.length) (hk:k=j7 p.months.length i+(j-(i+1)))=>Xj rfl hz hi hj hk;have afy:=af fun(hk:j7 p.months.length p.months.length≤k)=>afx rfl hz hk;have sR:=af (adk p.months.length hlen.2);clear hz hcs sQ hcb;generalize hv:fB p ((p.months.length:Int)+(k:Int))=v at*;clear hv;go_enter Tryz.func71,Tryz.ntmps71
    go_wp2_with fail
    refine cN.mono ?_;rintro e w1 ⟨rfl,hb1⟩;have aq:=af (eb.out.next hb1);clear cN hb1 b0 b1 b2 b3 b4 aW bp aX bq bt bh;generalize hn:p.months.length=n at*;clear hn;go_wp2_with fail
    go_loop [8,9] (fun at_ i=>∃j:Nat,i= .int .i64 j∧j≤n∧at_= .int .i64 ((n:Int)+(j7 n j:Nat))∧j7 n j≤k) (fun _ i=>n-(RowKit.intOf i).toNat)
    case atStart=>exact⟨0,rfl,Nat.zero_le _,congrArg (Value.int .i64) (by rw [VI];simp),by rw [VI];omega⟩
    case round=>
     obtain⟨i,rfl,hi,rfl,hle⟩:=hrel;by_cases hin:i<n
     ·have ajd:(i:Int)<(n:Int):=by omega
      have FJ:=sR.out i (by omega);have y4:=af (HS n i);have ID:Hid (∀j,i+1≤j→j<n→k=j7 n i+(j-(i+1))→v=((i:Int),(j:Int),true)):=af fun j h1 h2 h3=>FK.out i j h1 h2 h3;generalize j7 n i=o at*;go_wp2_with fail
      go_loop [8,10] (fun at_ j'=>∃j:Nat,j'= .int .i64 j∧i+1≤j∧j≤n∧at_= .int .i64 ((n:Int)+(o:Int)+((j:Int)-((i:Int)+1)))∧o+(j-(i+1))≤k) (fun _ j'=>n-(RowKit.intOf j').toNat)
      case atStart=>exact⟨i+1,by go_num,by omega,by omega,congrArg (Value.int .i64) (by omega),by omega⟩
      case round=>
       obtain⟨j,rfl,rN,hj2,rfl,oV⟩:=hrel;by_cases hjn:j<n
       ·have aje:(j:Int)<(n:Int):=by omega
        by_cases heq:k=o+(j-(i+1))
        ·have hv:=ID.out j rN hjn heq
         have he:((n:Int)+(o:Int)+((j:Int)-((i:Int)+1))==(n:Int)+(k:Int))=true:=by rw [beq_iff_eq];omega
         subst hv;clear heq;go_wp2_with fail
         go_ret3
         exact⟨by rfl,aq.out.aF⟩
        ·have he:((n:Int)+(o:Int)+((j:Int)-((i:Int)+1))==(n:Int)+(k:Int))=false:=by rw [beq_eq_false_iff_ne];omega
         go_wp2_with fail
         go_round
         case rel=>exact⟨j+1,by go_num,by omega,by omega,congrArg (Value.int .i64) (by omega),by omega⟩
         case measure=>simp [RowKit.intOf];omega
       ·obtain rfl:j=n:=by omega
        have AG:=y4.out;go_wp2_with fail
        go_round
        case rel=>exact⟨i+1,by go_num,by omega,congrArg (Value.int .i64) (by omega),by omega⟩
        case measure=>simp [RowKit.intOf];omega
     ·obtain rfl:i=n:=by omega
      have hv:v=(0,0,false):=afy.out hle;subst hv;clear hle;go_wp2_with fail
      go_ret3
      exact⟨by rfl,aq.out.aF⟩
 ·have cX:Hid (fB p inst=(0,0,false)):=af (by have:=IM hz;exact if_pos (by omega))
  rw [cX.out];have dG:(cz p !=0)=true:=by rw [bne_iff_ne];exact hz
  clear hz;generalize cz p=cp at*;go_enter Tryz.func71,Tryz.ntmps71
  go_wp2_with fail
  refine cN.mono ?_;rintro e w1 ⟨rfl,hb1⟩;have aq:=af (eb.out.next hb1);clear cN hb1 b0 b1 b2 b3 b4 aW bp aX bq bt bh;go_wp2_with fail
  go_ret3
  exact⟨by rfl,aq.out.aF⟩
end Go.Proofs.YtmaijkoopjocdaaGreat
