import Derived.Test.YtmaijkoopjocdaaGreatKT10
set_option maxRecDepth 100000
set_option maxHeartbeats 64000000
namespace Go.Proofs.YtmaijkoopjocdaaGreat
open Go.RowKit Go.Lib
def bz.put (p:bz) (s:Nat) (x:eI):bz:=if s=0 then⟨x,p.t⟩else⟨p.s,x⟩
def cI (x:aV×aV) (s:Nat):aV:=if s=0 then x.1 else x.2
def J7 (x:aV×aV) (s:Nat) (d:aV):aV×aV:=if s=0 then(d,x.2)else(x.1,d)
theorem bz.J3 (p:bz) (s:Nat) (x y:eI):(p.put s x).put s y=p.put s y:=by unfold bz.put;split<;>rfl
theorem bz.yK (p:bz) (s:Nat) (x:eI):(p.put s x).sh s=x:=by unfold bz.put bz.sh;split<;>rfl
section
variable {w w':World} {B go cap i s:Nat} {P:List bz} {p:bz} {V:bP}
theorem oN {α:Type} {L:List α} {i:Nat} {x:α} (h:L[i]? =some x) (y:α):(L.set i y)[i]? =some y:=by
 rw [List.getElem?_set_self (by have:=dc h;exact this)]
theorem Row.BM (h:ei.Row w B (.slice (some ⟨go,0,none⟩) V.length cap) P) (hp:P[i]? =some p) (hs:s<2) {f:Nat} (hf:f<5) {x:eI} {u:Value} (he:x.cells=(p.sh s).cells.set f u):
 ei.Row (w.setCell ⟨go,i*10+s*5+f,none⟩ u) B (.slice (some ⟨go,0,none⟩) V.length cap) (P.set i (p.put s x)):=by
 rw [show i*10+s*5+f=i*ei.m+(s*5+f)by show _=i*10+(s*5+f);omega];refine h.aQ hp (by show s*5+f<10;omega) ?_;have e:∀q:bz,ei.cells q=q.s.cells++q.t.cells:=fun _=>rfl;have fT:∀y:eI,y.cells.length=5:=fun _=>rfl;rw [e,e];rcases(show s=0∨s=1 by omega)with rfl|rfl
 ·show x.cells++p.t.cells=_
  rw [List.set_append_left _ _ (by rw [fT];omega),he,show 0*5+f=f by omega];rfl
 ·show p.s.cells++x.cells=_
  rw [List.set_append_right _ _ (by rw [fT];omega),he,fT,show 1*5+f-5=f by omega];rfl
theorem Row.R6 (h:ei.Row w B (.slice (some ⟨go,0,none⟩) V.length cap) P) (hp:P[i]? =some p) (hs:s<2) (l:ax):
 ei.Row (((w.setCell ⟨go,i*10+s*5+1,none⟩ (.int .i64 l.ag)).setCell ⟨go,i*10+s*5+1+1,none⟩ (.int .i64 l.ah)).setCell ⟨go,i*10+s*5+1+2,none⟩ (.int .i64 l.count)) B (.slice (some ⟨go,0,none⟩) V.length cap) (P.set i (p.put s ⟨(p.sh s).a,(p.sh s).n,(p.sh s).c,l,(p.sh s).has⟩)):=by
 have h1:=Row.BM h hp hs (f:=1) (by decide) (x:=⟨(p.sh s).a,(p.sh s).n,(p.sh s).c,⟨l.ag,(p.sh s).im.ah,(p.sh s).im.count⟩,(p.sh s).has⟩) (u:= .int .i64 l.ag) rfl;have h2:=Row.BM h1 (oN hp _) hs (f:=2) (by decide) (x:=⟨(p.sh s).a,(p.sh s).n,(p.sh s).c,⟨l.ag,l.ah,(p.sh s).im.count⟩,(p.sh s).has⟩) (u:= .int .i64 l.ah) (by rw [bz.yK];rfl);rw [List.set_set,bz.J3]at h2;have h3:=Row.BM h2 (oN hp _) hs (f:=3) (by decide) (x:=⟨(p.sh s).a,(p.sh s).n,(p.sh s).c,l,(p.sh s).has⟩) (u:= .int .i64 l.count) (by rw [bz.yK];rfl);rw [List.set_set,bz.J3]at h3;exact h3
theorem JZ (w:World) (go o:Nat) (a b c:Value):aD (fun g=>g=go) w (((w.setCell ⟨go,o+1,none⟩ a).setCell ⟨go,o+1+1,none⟩ b).setCell ⟨go,o+1+2,none⟩ c):=
 ((bS w go _ a).trans (bS _ go _ b)).trans (bS _ go _ c)
theorem mC (h:ei.Row w B (.slice (some ⟨go,0,none⟩) V.length cap) P) (hp:P[i]? =some p) (hs:s<2) {f:Nat} {u:Value} (he:(p.sh s).cells[f]? =some u):w.cell? ⟨go,i*10+s*5+f,none⟩=some u:=by
 obtain⟨g',cap',e1,_,bE⟩:=h.at_ i p hp;have iE:g'=go:=by injection e1 with e1;injection e1 with e1;injection e1 with e1;exact e1.symm
 subst iE;have hf:f<5:=by have:=dc he;exact this
 have:=bE (s*5+f) u (by
  have e:ei.cells p=p.s.cells++p.t.cells:=rfl;have fT:∀y:eI,y.cells.length=5:=fun _=>rfl;rw [e];rcases(show s=0∨s=1 by omega)with rfl|rfl
  ·rw [List.getElem?_append_left (by rw [fT];omega),show 0*5+f=f by omega];exact he
  ·rw [List.getElem?_append_right (by rw [fT];omega),fT,show 1*5+f-5=f by omega];exact he)
 rw [show i*10+s*5+f=i*ei.m+(s*5+f)by show _=i*10+(s*5+f);omega];exact this
theorem D7.fin {x:aV×aV} {sh:eI} {d:aV} {F:Nat→Prop} (hl:P.length=V.length) (hsh:∀(j:Nat) (p:bz) (x:aV×aV),P[j]? =some p→V[j]? =some x→bN bL w B p.s x.1∧bN bL w B p.t x.2) (hap:Gn P (2*V.length))
 (hp:P[i]? =some p) (hx:V[i]? =some x) (hs:s<2) (hk:aD F w w') (hF:∀g,bV w g bL.t→F g→(p.sh s).own=some g)
 (hr:ei.Row w' B (.slice (some ⟨go,0,none⟩) V.length cap) (P.set i (p.put s sh))) (hd:bN bL w' B sh d):cl ei bL w' B (.slice (some ⟨go,0,none⟩) V.length cap) (V.set i (J7 x s d)):=by
 have hil:=dc hx
 have J8:∀(j t:Nat) (q:bz) (y:aV×aV),P[j]? =some q→V[j]? =some y→t<2→2*j+t≠2*i+s→bN bL w' B (q.sh t) (cI y t):=by
  intro j t q y hq hy ht hne;have hjl:=dc hy
  have hh:bN bL w B (q.sh t) (cI y t):=by
   have:=hsh j q y hq hy;unfold bz.sh cI;split
   ·exact this.1
   ·exact this.2
  refine⟨hh.n,xK hh.row hk fun g hg hf=>?_,hh.im,hh.has⟩;have h1:=hF g (dR hh.row g hg) hf;exact hap j i t s q p g hq hp ht hs (by omega) (by omega) hne (by unfold eI.own;exact hg) h1
 refine⟨P.set i (p.put s sh),hr,by rw [List.length_set,List.length_set];exact hl,fun j q y hq hy=>?_⟩;by_cases hj:j=i
 ·subst hj
  rw [oN hp]at hq;rw [oN hx]at hy;injection hq with hq;injection hy with hy;subst hq;subst hy;rcases(show s=0∨s=1 by omega)with rfl|rfl
  ·exact⟨hd,J8 j 1 p x hp hx (by decide) (by omega)⟩
  ·exact⟨J8 j 0 p x hp hx (by decide) (by omega),hd⟩
 ·rw [List.getElem?_set_ne (Ne.symm hj)]at hq hy
  exact⟨J8 j 0 q y hq hy (by decide) (by omega),J8 j 1 q y hq hy (by decide) (by omega)⟩
theorem Sd {m:aB} {x:aV×aV} (hi:m.inst=i) (hs:m.side=(s:Int)+1) (ic:s<2) (hx:V[i]? =some x):fO m V=V.set i (J7 x s ((cI x s).app m)):=by
 unfold fO;rw [hi,Int.toNat_natCast];apply List.ext_getElem?;intro j;rw [List.getElem?_modify];by_cases hj:i=j
 ·subst hj
  rw [oN hx,hx];simp only [if_true,Option.map_eq_map,Option.map_some];unfold tu J7 cI;rcases(show s=0∨s=1 by omega)with rfl|rfl
  ·rw [if_pos (by omega)];rfl
  ·rw [if_neg (by omega)];rfl
 ·rw [List.getElem?_set_ne hj]
  simp only [hj,if_false];cases V[j]? <;>rfl
structure rj (w0 w:World) (aG ap gr az go cap:Nat) (V:bP) (P:List bz) (q p t c:Int) (i s:Nat) (im:Bool):Prop where
 bv:aj w aG 43 #[.slice (some ⟨go,0,none⟩) V.length cap]
 bm:aj w ap 86 #[.int .i64 q,.int .i64 i,.int .i64 ((s:Int)+1),.int .i64 p,.int .i64 t,.int .i64 c,.bool im]
 br:aj w gr 43 #[.slice none 0 0]
 mB:aj w az 47 #[.int .i64 p,.int .i64 t,.int .i64 c]
 row:ei.Row w w0.heap.size (.slice (some ⟨go,0,none⟩) V.length cap) P
 sh:∀(j:Nat) (p:bz) (x:aV×aV),P[j]? =some p→V[j]? =some x→bN bL w w0.heap.size p.s x.1∧bN bL w w0.heap.size p.t x.2
 aF:Below w0.heap.size w0 w
theorem rj.below {w0 w w':World} {aG ap gr az go cap:Nat} {V:bP} {P:List bz} {q p t c:Int} {i s:Nat} {im:Bool} (h:rj w0 w aG ap gr az go cap V P q p t c i s im) (hb:Below w.heap.size w w'):rj w0 w' aG ap gr az go cap V P q p t c i s im:=
 ⟨h.bv.below hb,h.bm.below hb,h.br.below hb,h.mB.below hb,h.row.below hb,fun j p x hp hx=>⟨(h.sh j p x hp hx).1.below hb,(h.sh j p x hp hx).2.below hb⟩,h.aF.trans (hb.mono h.aF.size)⟩
theorem rj.fz {w0 w:World} {aG ap gr az go cap:Nat} {V:bP} {P:List bz} {q p t c:Int} {i s:Nat} {im:Bool} (h:rj w0 w aG ap gr az go cap V P q p t c i s im) {bn:bz} (hp:P[i]? =some bn) (o:Nat):w.frozen? ⟨go,o,none⟩=false:=by
 obtain⟨g',cap',cur,cw,_,hbk⟩:=h.row.Ak (by intro h0;rw [h0]at hp;simp at hp);injection cw with cw;injection cw with cw;injection cw with cw;subst cw;exact hbk.frozen _
theorem Row.Gc {w:World} {B go n cap i:Nat} {P:List bz} {bn:bz} (h:ei.Row w B (.slice (some ⟨go,0,none⟩) n cap) P) (hp:P[i]? =some bn) (o:Nat):w.frozen? ⟨go,o,none⟩=false:=by
 obtain⟨g',cap',cur,cw,_,hbk⟩:=h.Ak (by intro h0;rw [h0]at hp;simp at hp);injection cw with cw;injection cw with cw;injection cw with cw;subst cw;exact hbk.frozen _
theorem rj.n4 {w0 w:World} {aG ap gr az go cap:Nat} {V:bP} {P:List bz} {q p t c:Int} {i s:Nat} {im:Bool} (h:rj w0 w aG ap gr az go cap V P q p t c i s im) {bn:bz} {x:aV×aV} (hp:P[i]? =some bn) (hx:V[i]? =some x):bN bL w w0.heap.size (bn.sh s) (cI x s):=by
 have:=h.sh i bn x hp hx;unfold bz.sh cI;split
 ·exact this.1
 ·exact this.2
theorem rj.done {w0 w w':World} {aG ap gr az go cap:Nat} {V:bP} {P:List bz} {q p t c:Int} {i s:Nat} {im:Bool} (h:rj w0 w aG ap gr az go cap V P q p t c i s im) {bn:bz} {x:aV×aV} (hl:P.length=V.length) (hap:Gn P (2*V.length)) (hp:P[i]? =some bn) (hx:V[i]? =some x) (hs:s<2) {F:Nat→Prop} (hk:aD F w w') (hF:∀g,bV w g bL.t→F g→(bn.sh s).own=some g)
 {sh:eI} {d:aV} (hr:ei.Row w' w0.heap.size (.slice (some ⟨go,0,none⟩) V.length cap) (P.set i (bn.put s sh))) (hd:bN bL w' w0.heap.size sh d) (Gp:bV w' gr 43) (hm:(cI x s).app ⟨q,i,(s:Int)+1,p,t,c,im⟩=d) (u:Value):
 cl ei bL (w'.setCell ⟨gr,0,none⟩ u) w0.heap.size (.slice (some ⟨go,0,none⟩) V.length cap) (fO ⟨q,i,(s:Int)+1,p,t,c,im⟩ V):=by
 rw [Sd (m:=⟨q,i,(s:Int)+1,p,t,c,im⟩) rfl rfl hs hx,hm];have h1:=D7.fin (w':=w') (F:=F) hl h.sh hap hp hx hs hk hF hr hd;exact h1.keep (bS w' gr 0 u) (fun g hg e=>hg.ne Gp (by decide) e) (fun g hg e=>hg.ne Gp (by decide) e)
theorem Gh {w:World} {B g n cap k:Nat} {L:List ax} {z:ax} (h:bL.Row w B (.slice (some ⟨g,0,none⟩) n cap) L) (hz:L[k]? =some z):w.cell? ⟨g,k*3,none⟩=some (.int .i64 z.ag)∧w.cell? ⟨g,k*3+1,none⟩=some (.int .i64 z.ah)∧w.cell? ⟨g,k*3+2,none⟩=some (.int .i64 z.count)∧∀o,w.frozen? ⟨g,o,none⟩=false:=by
 obtain⟨g1,mE,e1,_,hc⟩:=h.at_ k z hz;obtain⟨g2,nj,cur,e2,_,hbk⟩:=h.Ak (by intro h0;rw [h0]at hz;simp at hz);have h1:g1=g:=by injection e1 with e1;injection e1 with e1;injection e1 with e1;exact e1.symm
 have h2:g2=g:=by injection e2 with e2;injection e2 with e2;injection e2 with e2;exact e2.symm
 subst h1;rw [h2]at hbk;have qg:gL w g1 (k*3) [.int .i64 z.ag,.int .i64 z.ah,.int .i64 z.count]:=hc;refine⟨?_,qg 1 _ rfl,qg 2 _ rfl,fun o=>hbk.frozen o⟩;have:=qg 0 _ rfl
 rwa [Nat.add_zero]at this
theorem Z5 {w:World} {B g n cap k:Nat} {L:List ax} {z:ax} (h:bL.Row w B (.slice (some ⟨g,0,none⟩) n cap) L) (hz:L[k]? =some z) (l:ax):
 bL.Row (((w.setCell ⟨g,k*3,none⟩ (.int .i64 l.ag)).setCell ⟨g,k*3+1,none⟩ (.int .i64 l.ah)).setCell ⟨g,k*3+2,none⟩ (.int .i64 l.count)) B (.slice (some ⟨g,0,none⟩) n cap) (L.set k l):=by
 have h1:=h.aQ (e':=⟨l.ag,z.ah,z.count⟩) (k:=0) (u:= .int .i64 l.ag) hz (by decide) rfl;have h2:=h1.aQ (e':=⟨l.ag,l.ah,z.count⟩) (k:=1) (u:= .int .i64 l.ah) (oN hz _) (by decide) rfl;rw [List.set_set]at h2;have h3:=h2.aQ (e':=l) (k:=2) (u:= .int .i64 l.count) (oN hz _) (by decide) rfl;rw [List.set_set]at h3;have e0:k*bL.m+0=k*3:=by show k*3+0=k*3;omega
 have e1:k*bL.m+1=k*3+1:=rfl;have e2:k*bL.m+2=k*3+2:=rfl;rw [e0,e1,e2]at h3;exact h3
theorem Z4 (w:World) (g o:Nat) (a b c:Value):aD (fun k=>k=g) w (((w.setCell ⟨g,o,none⟩ a).setCell ⟨g,o+1,none⟩ b).setCell ⟨g,o+2,none⟩ c):=
 ((bS w g _ a).trans (bS _ g _ b)).trans (bS _ g _ c)
theorem R9 {P:List bz} {i s:Nat} {bn:bz} (h:P[i]? =some bn):P.set i (bn.put s (bn.sh s))=P:=by
 have e:bn.put s (bn.sh s)=bn:=by unfold bz.put bz.sh;split<;>rfl
 rw [e];apply List.ext_getElem?;intro j;by_cases hj:i=j
 ·subst hj;rw [oN h,h]
 ·rw [List.getElem?_set_ne hj]
end
theorem ZX {w:World} {B:Nat} {v:Value} {V:bP} (h:cl ei bL w B v V) (hl:V.length≤255) {K:Nat} (hK:g7 V K) (nc:K≤800000) {q p t c:Int} {i s:Nat} (hi:i<V.length) (hs:s<2) (gW:ng V.length ⟨q,i,(s:Int)+1,p,t,c,true⟩=0):
 Calls Tryz.prog 83 #[.agg #[v],.agg #[.int .i64 q,.int .i64 i,.int .i64 ((s:Int)+1),.int .i64 p,.int .i64 t,.int .i64 c,.bool true]] w fun e w'=>∃v',e= .returned (.tuple #[.agg #[v'],.int .i64 0])∧cl ei bL w' w.heap.size v' (fO ⟨q,i,(s:Int)+1,p,t,c,true⟩ V)∧Below w.heap.size w w':=by
 obtain⟨a,aZ,rfl⟩:=h.form;obtain⟨im,eK⟩:∃im,true=im:=⟨_,rfl⟩;have hz1:(w.alloc (.cells #[.slice a V.length aZ] 43)).heap.size=w.heap.size+1:=by simp
 have dG:((w.alloc (.cells #[.slice a V.length aZ] 43)).alloc (.cells #[.int .i64 q,.int .i64 (i:Int),.int .i64 ((s:Int)+1),.int .i64 p,.int .i64 t,.int .i64 c,.bool im] 86)).heap.size=w.heap.size+1+1:=by simp
 have hb1:=Below.aA w (.cells #[.slice a V.length aZ] 43);have hb2:=hb1.trans ((Below.aA (w.alloc (.cells #[.slice a V.length aZ] 43)) (.cells #[.int .i64 q,.int .i64 (i:Int),.int .i64 ((s:Int)+1),.int .i64 p,.int .i64 t,.int .i64 c,.bool im] 86)).mono hb1.size);have hb3:=hb2.trans ((Below.aA ((w.alloc (.cells #[.slice a V.length aZ] 43)).alloc (.cells #[.int .i64 q,.int .i64 (i:Int),.int .i64 ((s:Int)+1),.int .i64 p,.int .i64 t,.int .i64 c,.bool im] 86)) (.cells #[.slice none 0 0] 43)).mono hb2.size);have eZ:aj (((w.alloc (.cells #[.slice a V.length aZ] 43)).alloc (.cells #[.int .i64 q,.int .i64 (i:Int),.int .i64 ((s:Int)+1),.int .i64 p,.int .i64 t,.int .i64 c,.bool im] 86)).alloc (.cells #[.slice none 0 0] 43)) w.heap.size 43 #[.slice a V.length aZ]:=((aj.new w _ _).alloc _).alloc _
 have c4:aj (((w.alloc (.cells #[.slice a V.length aZ] 43)).alloc (.cells #[.int .i64 q,.int .i64 (i:Int),.int .i64 ((s:Int)+1),.int .i64 p,.int .i64 t,.int .i64 c,.bool im] 86)).alloc (.cells #[.slice none 0 0] 43)) (w.heap.size+1) 86 #[.int .i64 q,.int .i64 (i:Int),.int .i64 ((s:Int)+1),.int .i64 p,.int .i64 t,.int .i64 c,.bool im]:=by
  have:=(aj.new (w.alloc (.cells #[.slice a V.length aZ] 43)) 86 #[.int .i64 q,.int .i64 (i:Int),.int .i64 ((s:Int)+1),.int .i64 p,.int .i64 t,.int .i64 c,.bool im]).alloc (.cells #[.slice none 0 0] 43)
  rwa [hz1]at this
 have eL:aj (((w.alloc (.cells #[.slice a V.length aZ] 43)).alloc (.cells #[.int .i64 q,.int .i64 (i:Int),.int .i64 ((s:Int)+1),.int .i64 p,.int .i64 t,.int .i64 c,.bool im] 86)).alloc (.cells #[.slice none 0 0] 43)) (w.heap.size+1+1) 43 #[.slice none 0 0]:=by
  have:=aj.new ((w.alloc (.cells #[.slice a V.length aZ] 43)).alloc (.cells #[.int .i64 q,.int .i64 (i:Int),.int .i64 ((s:Int)+1),.int .i64 p,.int .i64 t,.int .i64 c,.bool im] 86)) 43 #[.slice none 0 0]
  rwa [dG]at this
 have dP:=vK V.length ⟨q,i,(s:Int)+1,p,t,c,im⟩ (((w.alloc (.cells #[.slice a V.length aZ] 43)).alloc (.cells #[.int .i64 q,.int .i64 (i:Int),.int .i64 ((s:Int)+1),.int .i64 p,.int .i64 t,.int .i64 c,.bool im] 86)).alloc (.cells #[.slice none 0 0] 43));rw [eK]at gW;rw [gW]at dP;unfold aB.agg at dP;dsimp only at dP;have eT:=af (h.below hb3);have ko:=af hK;obtain⟨x,hx⟩:∃x,V[i]? =some x:=⟨_,List.getElem?_eq_getElem hi⟩;have bA:=af hx;have jr:=af eK;have aU:=af dP;have aN:=af hb3;have eU:=af eZ;have b7:=af c4;have eo:=af eL;rw [eK];clear h hK hx eK hz1 dG hb1 hb2 hb3 eZ c4 eL dP gW;go_enter Tryz.func83,Tryz.ntmps83
 go_upto_region 1 with(fail)
 obtain⟨w1,hw1⟩:∃w1,(((w.alloc (.cells #[.slice a V.length aZ] 43)).alloc (.cells #[.int .i64 q,.int .i64 (i:Int),.int .i64 ((s:Int)+1),.int .i64 p,.int .i64 t,.int .i64 c,.bool im] 86)).alloc (.cells #[.slice none 0 0] 43))=w1:=⟨_,rfl⟩;obtain⟨aG,eZ⟩:∃aG,w.heap.size=aG:=⟨_,rfl⟩;obtain⟨ap,c4⟩:∃ap,w.heap.size+1=ap:=⟨_,rfl⟩;obtain⟨gr,eL⟩:∃gr,w.heap.size+1+1=gr:=⟨_,rfl⟩;rw [hw1]at eT aN eU b7 eo aU⊢;rw [eL]at eo⊢;rw [c4]at b7⊢;rw [eZ]at eU⊢;have fl:Hid (aG≠gr):=af (by omega);have xH:Hid (ap≠gr):=af (by omega);have g8:Hid (aG≠ap):=af (by omega);have jc:Hid (w.heap.size≤aG):=af (by omega);have uN:Hid (w.heap.size≤gr):=af (by omega);clear hw1 eZ c4 eL;have b0:w1.cell? ⟨aG,0,none⟩=some (.slice a V.length aZ):=eU.out.cell 0;have m0:w1.cell? ⟨ap,0,none⟩=some (.int .i64 q):=b7.out.cell 0;have m1:w1.cell? ⟨ap,1,none⟩=some (.int .i64 (i:Int)):=b7.out.cell 1;have m2:w1.cell? ⟨ap,2,none⟩=some (.int .i64 ((s:Int)+1)):=b7.out.cell 2;have eH:w1.cell? ⟨ap,3,none⟩=some (.int .i64 p):=b7.out.cell 3;have dQ:w1.cell? ⟨ap,4,none⟩=some (.int .i64 t):=b7.out.cell 4;have eP:w1.cell? ⟨ap,5,none⟩=some (.int .i64 c):=b7.out.cell 5;have dH:w1.cell? ⟨ap,6,none⟩=some (.bool im):=b7.out.cell 6;go_wp2_with fail
 refine aU.out.mono ?_;rintro e w2 ⟨rfl,hb⟩;replace eU:=af (eU.out.below hb);replace b7:=af (b7.out.below hb);replace eo:=af (eo.out.below hb);replace eT:=af (eT.out.below hb);replace aN:=af (aN.out.trans (hb.mono aN.out.size));clear hb aU b0 m0 m1 m2 eH dQ eP dH;have b0:w2.cell? ⟨aG,0,none⟩=some (.slice a V.length aZ):=eU.out.cell 0;go_wp2_with fail
 refine(BK eT.out hl ko.out (by omega)).mono ?_;rintro e w3 ⟨v',rfl,⟨P,hP,fY,gX,p9⟩,hb⟩;obtain⟨bn,g9⟩:∃p,P[i]? =some p:=⟨_,List.getElem?_eq_getElem (by omega)⟩;obtain⟨go,cap,he,_,_⟩:=hP.at_ i bn g9;rw [fY]at he;subst he;have bU:=eU.out.below hb;have aJ:=aN.out.trans (hb.mono aN.out.size);have hst:=bS w3 aG 0 (.slice (some ⟨go,0,none⟩) V.length cap);have hW:w.heap.size≤w2.heap.size:=aN.out.size;have dy:=af ((hP.base hW).cm bU.aC (by decide) 0 (.slice (some ⟨go,0,none⟩) V.length cap));have eV:Hid (∀(j:Nat) (p:bz) (x:aV×aV),P[j]? =some p→V[j]? =some x→bN bL (w3.setCell ⟨aG,0,none⟩ (.slice (some ⟨go,0,none⟩) V.length cap)) w.heap.size p.s x.1∧bN bL (w3.setCell ⟨aG,0,none⟩ (.slice (some ⟨go,0,none⟩) V.length cap)) w.heap.size p.t x.2):=af fun j p x hp hx=>⟨((gX j p x hp hx).1.base hW).cm bU.aC (by decide) 0 _,((gX j p x hp hx).2.base hW).cm bU.aC (by decide) 0 _⟩;have ia:=af fY;have kR:=af p9;have cL:=af g9;have ey:=af ((b7.out.below hb).cm (p:=⟨aG,0,none⟩) (Ne.symm g8.out) (.slice (some ⟨go,0,none⟩) V.length cap));have qa:=af ((eo.out.below hb).cm (p:=⟨aG,0,none⟩) (Ne.symm fl.out) (.slice (some ⟨go,0,none⟩) V.length cap));have mA:Hid (aj (w3.setCell ⟨aG,0,none⟩ (.slice (some ⟨go,0,none⟩) V.length cap)) aG 43 #[.slice (some ⟨go,0,none⟩) V.length cap]):=af (bU.aQ 0 _);have bM:=af (aJ.setCell (p:=⟨aG,0,none⟩) jc.out (.slice (some ⟨go,0,none⟩) V.length cap));have b3:w3.cell? ⟨aG,0,none⟩=some (.slice a V.length aZ):=bU.cell 0;have td:w3.frozen? ⟨aG,0,none⟩=false:=bU.frozen 0;clear hP fY gX p9 g9 bU aJ hst hW hb b0 eU b7 eo eT aN;go_upto_region 5 with(fail)
 clear b3 td;generalize w3.setCell ⟨aG,0,none⟩ (.slice (some ⟨go,0,none⟩) V.length cap)=av at*;have b4:av.cell? ⟨aG,0,none⟩=some (.slice (some ⟨go,0,none⟩) V.length cap):=mA.out.cell 0;have m0:av.cell? ⟨ap,0,none⟩=some (.int .i64 q):=ey.out.cell 0;have m1:av.cell? ⟨ap,1,none⟩=some (.int .i64 (i:Int)):=ey.out.cell 1;have m2:av.cell? ⟨ap,2,none⟩=some (.int .i64 ((s:Int)+1)):=ey.out.cell 2;have eH:av.cell? ⟨ap,3,none⟩=some (.int .i64 p):=ey.out.cell 3;have dQ:av.cell? ⟨ap,4,none⟩=some (.int .i64 t):=ey.out.cell 4;have eP:av.cell? ⟨ap,5,none⟩=some (.int .i64 c):=ey.out.cell 5;have dH:av.cell? ⟨ap,6,none⟩=some (.bool im):=ey.out.cell 6;have y1:IntKind.i64.wrap ((s:Int)+1-1)=(s:Int):=by rw [IntWalk.i64_in _ (by omega)];omega
 have dw:(s:Int)+1-1=(s:Int):=by omega
 have hi2:(i:Int)<(V.length:Int):=by omega
 have ic:(s:Int)<2:=by omega
 go_quiet (fail)
 have bJ:=(Below.bT av nq).trans ((Below.aA (av.drewN nq) (.cells #[.int .i64 p,.int .i64 t,.int .i64 c] 47)).mono (Nat.le_refl _));obtain⟨az,c6⟩:∃az,av.heap.size=az:=⟨_,rfl⟩
 have qb:rj w ((av.drewN nq).alloc (.cells #[.int .i64 p,.int .i64 t,.int .i64 c] 47)) aG ap gr az go cap V P q p t c i s im:=by
  refine⟨mA.out.below bJ,ey.out.below bJ,qa.out.below bJ,?_,dy.out.below bJ,fun j p x hp hx=>⟨(eV.out j p x hp hx).1.below bJ,(eV.out j p x hp hx).2.below bJ⟩,bM.out.trans (bJ.mono bM.out.size)⟩;rw [←c6];exact aj.new (av.drewN nq) _ _
 have c9:=af qb
 have BL:Hid (∀g,(bn.sh s).own=some g→g<az):=af (by
  intro g hg;have hh:=eV.out i bn x cL.out bA.out;rw [←c6];unfold bz.sh at hg;split at hg
  ·exact jH hh.1.row g hg
  ·exact jH hh.2.row g hg)
 have yJ:Hid (w.heap.size≤az):=af (by rw [←c6];exact bM.out.size);have qc:(av.drewN nq).heap.size=az:=c6;go_upto_region 7 with(fail)
 clear qb bJ c6 qc mA ey qa dy eV bM b4 m0 m1 m2 eH dQ eP dH y1 dw;generalize (av.drewN nq).alloc (.cells #[.int .i64 p,.int .i64 t,.int .i64 c] 47)=au at*;have eK:=jr.out;subst eK;clear jr;have dH:au.cell? ⟨ap,6,none⟩=some (.bool true):=c9.out.bm.cell 6;go_upto_region 8 with(fail)
 clear dH;have hS:au.cell? ⟨az,0,none⟩=some (.int .i64 p)∧au.cell? ⟨az,1,none⟩=some (.int .i64 t)∧au.cell? ⟨az,2,none⟩=some (.int .i64 c)∧au.cell? ⟨ap,4,none⟩=some (.int .i64 t):=⟨c9.out.mB.cell 0,c9.out.mB.cell 1,c9.out.mB.cell 2,c9.out.bm.cell 4⟩;refine cF (S:=fun w'=>w'.cell? ⟨az,0,none⟩=some (.int .i64 p)∧w'.cell? ⟨az,1,none⟩=some (.int .i64 t)∧w'.cell? ⟨az,2,none⟩=some (.int .i64 c)∧w'.cell? ⟨ap,4,none⟩=some (.int .i64 t)) (by kernel_rfl) hS (fun hHeld=>?_);refine ai 0 ?_;refine ai 1 ?_;refine ai 2 ?_;refine ai 3 ?_;refine ai 4 ?_;refine ai 5 ?_;refine ai 6 ?_;refine ai 7 ?_;refine aR 8 fun K hK=>?_;have k1:au.cell? ⟨go,i*10+s*5+1,none⟩=some (.int .i64 (bn.sh s).im.ag):=mC c9.out.row cL.out hs rfl;have k2:au.cell? ⟨go,i*10+s*5+2,none⟩=some (.int .i64 (bn.sh s).im.ah):=mC c9.out.row cL.out hs rfl;have e7:au.cell? ⟨go,i*10+s*5+3,none⟩=some (.int .i64 (bn.sh s).im.count):=mC c9.out.row cL.out hs rfl;have pH:=c9.out.fz cL.out;go_simp;have fS:=(JZ au go (i*10+s*5) (.int .i64 p) (.int .i64 t) (.int .i64 c)).trans (Below.keeps (Below.bT _ 1));have bO:=(Row.R6 c9.out.row cL.out hs ⟨p,t,c⟩).below (Below.bT _ 1);have qd:bV au go ei.t:=dR c9.out.row go rfl;have e1:aG≠go:=c9.out.bv.aC.ne qd (by decide);have e2:ap≠go:=c9.out.bm.aC.ne qd (by decide);have bE:gr≠go:=c9.out.br.aC.ne qd (by decide);have cw:az≠go:=c9.out.mB.aC.ne qd (by decide);have Af:Hid (w.heap.size≤go):=af (cx c9.out.row go rfl);have uO:=af qd;have J0:=af (c9.out.bv.keeps fS e1);have J1:=af (c9.out.bm.keeps fS e2);have J2:=af (c9.out.br.keeps fS bE);have D4:=af (c9.out.mB.keeps fS cw);have uP:=af fS;have cH:=af bO;have R7:=af bE;clear fS bO qd e1 e2 bE cw k1 k2 e7 pH;obtain⟨aK,qK⟩:∃aK,(((au.setCell ⟨go,i*10+s*5+1,none⟩ (.int .i64 p)).setCell ⟨go,i*10+s*5+1+1,none⟩ (.int .i64 t)).setCell ⟨go,i*10+s*5+1+2,none⟩ (.int .i64 c)).drew=aK:=⟨_,rfl⟩;have hdr:∀u:World,u.drewN 1=u.drew:=fun _=>rfl;rw [hdr,qK]at uP cH;replace J0:Hid (aj aK aG 43 #[.slice (some ⟨go,0,none⟩) V.length cap]):=af (by rw [←qK];exact J0.out);replace J1:Hid (aj aK ap 86 #[.int .i64 q,.int .i64 i,.int .i64 ((s:Int)+1),.int .i64 p,.int .i64 t,.int .i64 c,.bool true]):=af (by rw [←qK];exact J1.out);replace J2:Hid (aj aK gr 43 #[.slice none 0 0]):=af (by rw [←qK];exact J2.out);replace D4:Hid (aj aK az 47 #[.int .i64 p,.int .i64 t,.int .i64 c]):=af (by rw [←qK];exact D4.out);rw [qK];refine hK.out _ _ ⟨D4.out.cell 0,D4.out.cell 1,D4.out.cell 2,J1.out.cell 4⟩ (fun hHeld=>?_);clear hK K hdr qK hS;refine ai 9 ?_;refine ai 10 ?_;refine cO 11 fun K hK=>?_;have gY:aK.cell? ⟨go,i*10+s*5+4,none⟩=some (.bool (bn.sh s).has):=mC cH.out (oN cL.out _) hs (by rw [bz.yK];rfl);have pH:aK.frozen? ⟨go,i*10+s*5+4,none⟩=false:=Row.Gc cH.out (oN cL.out _) _;go_simp;refine hK.out _ _ ?_;have jI:=uP.out.trans (bS aK go (i*10+s*5+4) (.bool (decide (0<t))));have l5:=Row.BM cH.out (oN cL.out _) hs (f:=4) (by decide) (x:=⟨(bn.sh s).a,(bn.sh s).n,(bn.sh s).c,⟨p,t,c⟩,decide (0<t)⟩) (u:= .bool (decide (0<t))) (by rw [bz.yK];rfl);rw [List.set_set,bz.J3]at l5;have e1:aG≠go:=c9.out.bv.aC.ne uO.out (by decide)
 have R8:=af (J0.out.cm (p:=⟨go,i*10+s*5+4,none⟩) e1 (.bool (decide (0<t))));have Gd:=af (J2.out.cm (p:=⟨go,i*10+s*5+4,none⟩) R7.out (.bool (decide (0<t))));have oO:=af jI;have qL:=af l5;clear hK K gY pH hHeld jI l5 e1 J0 J1 J2 D4 uP cH;generalize aK.setCell ⟨go,i*10+s*5+4,none⟩ (.bool (decide (0<t)))=bw at*;have gY:bw.cell? ⟨go,i*10+s*5+4,none⟩=some (.bool (decide (0<t))):=mC qL.out (oN cL.out _) hs (by rw [bz.yK];rfl);by_cases ht:0<t
 ·have Ge:Hid (decide (0<t)=true):=af (decide_eq_true ht)
  have hm:(cI x s).app ⟨q,i,(s:Int)+1,p,t,c,true⟩=⟨(cI x s).lv,⟨p,t,c⟩,true⟩:=by unfold aV.app;rw [if_pos rfl,if_pos ht];rfl
  have qM:=af hm;clear hm;have v0:bw.cell? ⟨aG,0,none⟩=some (.slice (some ⟨go,0,none⟩) V.length cap):=R8.out.cell 0;have b6:bw.cell? ⟨gr,0,none⟩=some (.slice none 0 0):=Gd.out.cell 0;have rm:bw.frozen? ⟨gr,0,none⟩=false:=Gd.out.frozen 0;have th:=af (c9.out.done (d:=⟨(cI x s).lv,⟨p,t,c⟩,true⟩) ia.out kR.out cL.out bA.out hs oO.out (fun g hg e=>absurd e (hg.ne uO.out (by decide))) qL.out (⟨(c9.out.n4 cL.out bA.out).n,(c9.out.n4 cL.out bA.out).row.keep oO.out (fun g hg e=>hg.ne uO.out (by decide) e),rfl,Ge.out⟩) Gd.out.aC qM.out (.slice (some ⟨go,0,none⟩) V.length cap));have c7:=af ((c9.out.aF.trans (oO.out.below (B:=w.heap.size) (fun k hk=>by have hk2:k=go:=hk;rw [hk2];exact Af.out) c9.out.aF.size)).setCell (p:=⟨gr,0,none⟩) uN.out (.slice (some ⟨go,0,none⟩) V.length cap));have tj:Hid (aj (bw.setCell ⟨gr,0,none⟩ (.slice (some ⟨go,0,none⟩) V.length cap)) gr 43 #[.slice (some ⟨go,0,none⟩) V.length cap]):=af (Gd.out.aQ 0 _);rw [Ge.out]at gY;go_wp2_with fail
  clear v0 b6 rm;generalize bw.setCell ⟨gr,0,none⟩ (.slice (some ⟨go,0,none⟩) V.length cap)=wf at*;have f0:wf.cell? ⟨gr,0,none⟩=some (.slice (some ⟨go,0,none⟩) V.length cap):=tj.out.cell 0;refine bodyPost_ret (v:= .tuple #[.agg #[.slice (some ⟨go,0,none⟩) V.length cap],.int .i64 0]) (by simp [results,Tryz.results83,go_sem,f0]) rfl ⟨_,rfl,th.out,c7.out⟩
 ·have Ge:Hid (decide (0<t)=false):=af (decide_eq_false ht)
  have qM:Hid ((cI x s).app ⟨q,i,(s:Int)+1,p,t,c,true⟩=⟨(cI x s).lv,oP,false⟩):=af (by unfold aV.app;rw [if_pos rfl,if_neg ht]);rw [Ge.out]at gY;have k1:bw.cell? ⟨go,i*10+s*5+1,none⟩=some (.int .i64 p):=mC qL.out (oN cL.out _) hs (by rw [bz.yK];rfl);have k2:bw.cell? ⟨go,i*10+s*5+2,none⟩=some (.int .i64 t):=mC qL.out (oN cL.out _) hs (by rw [bz.yK];rfl);have e7:bw.cell? ⟨go,i*10+s*5+3,none⟩=some (.int .i64 c):=mC qL.out (oN cL.out _) hs (by rw [bz.yK];rfl);have pH:∀o,bw.frozen? ⟨go,o,none⟩=false:=fun o=>Row.Gc qL.out (oN cL.out _) o;have oQ:=af (oO.out.trans (JZ bw go (i*10+s*5) (.int .i64 0) (.int .i64 0) (.int .i64 0)));have pI:=Row.R6 qL.out (oN cL.out _) hs oP;rw [List.set_set,bz.J3,bz.yK]at pI;have oR:=af pI;have e1:aG≠go:=c9.out.bv.aC.ne uO.out (by decide);have ZY:=af (R8.out.keeps (JZ bw go (i*10+s*5) (.int .i64 0) (.int .i64 0) (.int .i64 0)) e1);have J4:=af (Gd.out.keeps (JZ bw go (i*10+s*5) (.int .i64 0) (.int .i64 0) (.int .i64 0)) R7.out);clear pI e1;go_upto_region 11 with(fail)
  clear k1 k2 e7 gY pH;unfold oP at oR;dsimp only at oR;generalize ((bw.setCell ⟨go,i*10+s*5+1,none⟩ (.int .i64 0)).setCell ⟨go,i*10+s*5+1+1,none⟩ (.int .i64 0)).setCell ⟨go,i*10+s*5+1+2,none⟩ (.int .i64 0)=bW at*;have v0:bW.cell? ⟨aG,0,none⟩=some (.slice (some ⟨go,0,none⟩) V.length cap):=ZY.out.cell 0;have b6:bW.cell? ⟨gr,0,none⟩=some (.slice none 0 0):=J4.out.cell 0;have rm:bW.frozen? ⟨gr,0,none⟩=false:=J4.out.frozen 0;have th:=af (c9.out.done (d:=⟨(cI x s).lv,oP,false⟩) ia.out kR.out cL.out bA.out hs oQ.out (fun g hg e=>absurd e (hg.ne uO.out (by decide))) oR.out (⟨(c9.out.n4 cL.out bA.out).n,(c9.out.n4 cL.out bA.out).row.keep oQ.out (fun g hg e=>hg.ne uO.out (by decide) e),rfl,Ge.out⟩) J4.out.aC qM.out (.slice (some ⟨go,0,none⟩) V.length cap));have c7:=af ((c9.out.aF.trans (oQ.out.below (B:=w.heap.size) (fun k hk=>by have hk2:k=go:=hk;rw [hk2];exact Af.out) c9.out.aF.size)).setCell (p:=⟨gr,0,none⟩) uN.out (.slice (some ⟨go,0,none⟩) V.length cap));have tj:Hid (aj (bW.setCell ⟨gr,0,none⟩ (.slice (some ⟨go,0,none⟩) V.length cap)) gr 43 #[.slice (some ⟨go,0,none⟩) V.length cap]):=af (J4.out.aQ 0 _);go_wp2_with fail
  clear v0 b6 rm;generalize bW.setCell ⟨gr,0,none⟩ (.slice (some ⟨go,0,none⟩) V.length cap)=wf at*;have f0:wf.cell? ⟨gr,0,none⟩=some (.slice (some ⟨go,0,none⟩) V.length cap):=tj.out.cell 0;refine bodyPost_ret (v:= .tuple #[.agg #[.slice (some ⟨go,0,none⟩) V.length cap],.int .i64 0]) (by simp [results,Tryz.results83,go_sem,f0]) rfl ⟨_,rfl,th.out,c7.out⟩
end Go.Proofs.YtmaijkoopjocdaaGreat
