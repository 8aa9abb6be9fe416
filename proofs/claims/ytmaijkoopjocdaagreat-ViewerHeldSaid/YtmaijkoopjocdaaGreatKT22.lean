import Derived.Test.YtmaijkoopjocdaaGreatKT21
set_option maxRecDepth 100000
set_option maxHeartbeats 64000000
namespace Go.Proofs.YtmaijkoopjocdaaGreat
open Go.RowKit
theorem FA {w:World} {e:TypeId} {base size n:Nat} {v:Value} {xs:List Value} (h:w.ownsRow base e size v n xs) {p:Addr} (hp:v.ownBlock≠some p.block) (u:Value):(w.setCell p u).ownsRow base e size v n xs:=by
 refine⟨h.1,?_⟩;rcases h.2 with h2|⟨g,cap,cur,hv,hb,hh,r⟩
 ·exact .inl h2
 ·refine .inr ⟨g,cap,cur,hv,hb,?_,r⟩
  rw [Below.heap_setCell _ _ _ _ (fun e=>hp (by rw [hv,e];rfl))];exact hh
section
variable {W w w':World} {pw:Nat} {L:List ay}
theorem P6 (h:gC W w pw L) (hl:L.length≤250) (hq:∀o∈L,1≤o.ah∧o.ah≤1000000) (side:Int):
 Calls Tryz.prog 100 #[.pointer (some ⟨pw,0,none⟩),.int .i64 side] w fun e w'=>e= .returned (.tuple #[.agg (ja L side).1.cells.toArray,.bool (ja L side).2])∧Below w.heap.size w w':=by
 have gZ:=af (Below.aA w (.cells #[.int .i64 0,.int .i64 0,.int .i64 0] 101));have H1:=af (h.below gZ.out);have gM:=af hq;have en:Hid (aj (w.alloc (.cells #[.int .i64 0,.int .i64 0,.int .i64 0] 101)) w.heap.size 101 #[.int .i64 0,.int .i64 0,.int .i64 0]):=af (aj.new _ _ _);clear h hq;cases hf:j9 L side with
 |nil=>
  have bH:Hid (ja L side=(oP,false)):=af (by unfold ja;rw [hf]);have xV:=af hf;clear hf;go_enter Tryz.func100,Tryz.ntmps100
  go_upto_region 1 with(fail)
  obtain⟨az,c6⟩:∃az,w.heap.size=az:=⟨_,rfl⟩;have bB:Hid (w.heap.size≤az):=af (by omega);replace en:Hid (aj (w.alloc (.cells #[.int .i64 0,.int .i64 0,.int .i64 0] 101)) az 101 #[.int .i64 0,.int .i64 0,.int .i64 0]):=af (by rw [←c6];exact en.out);rw [c6];clear c6;generalize w.alloc (.cells #[.int .i64 0,.int .i64 0,.int .i64 0] 101)=w0 at*;have hla:=LL H1.out hl gM.out side;rw [xV.out]at hla;go_wp2_with fail
  refine hla.mono ?_;rintro e w1 ⟨v,rfl,hr,hb⟩;replace en:=af (en.out.below hb);replace gZ:=af (gZ.out.trans (hb.mono gZ.out.size));obtain⟨ra,rc,rfl,_,hrd⟩:=hr.rd;clear hla hr hb;clear hrd;have l0:w1.cell? ⟨az,0,none⟩=some (.int .i64 0):=en.out.cell 0;have l1:w1.cell? ⟨az,1,none⟩=some (.int .i64 0):=en.out.cell 1;have l2:w1.cell? ⟨az,2,none⟩=some (.int .i64 0):=en.out.cell 2;have fz:∀o,w1.frozen? ⟨az,o,none⟩=false:=fun o=>en.out.frozen o;go_wp2_with fail
  clear l0 l1 l2 fz;have hz:=((en.out.aQ 0 (.int .i64 0)).aQ 1 (.int .i64 0)).aQ 2 (.int .i64 0);have hbz:=((gZ.out.setCell (p:=⟨az,0,none⟩) bB.out (.int .i64 0)).setCell (p:=⟨az,1,none⟩) bB.out (.int .i64 0)).setCell (p:=⟨az,2,none⟩) bB.out (.int .i64 0);generalize ((w1.setCell ⟨az,0,none⟩ (.int .i64 0)).setCell ⟨az,1,none⟩ (.int .i64 0)).setCell ⟨az,2,none⟩ (.int .i64 0)=ak at*;have k0:ak.cell? ⟨az,0,none⟩=some (.int .i64 0):=hz.cell 0;have k1:ak.cell? ⟨az,1,none⟩=some (.int .i64 0):=hz.cell 1;have k2:ak.cell? ⟨az,2,none⟩=some (.int .i64 0):=hz.cell 2;refine bodyPost_ret (v:= .tuple #[.agg #[.int .i64 0,.int .i64 0,.int .i64 0],.bool false]) (by simp [results,Tryz.results100,go_sem,k0,k1,k2]) rfl ⟨by rw [bH.out];rfl,hbz⟩
 |cons v M=>
  have bH:Hid (ja L side=(v,true)):=af (by unfold ja;rw [hf]);have xV:=af hf;clear hf;obtain⟨v0,v1,v2⟩:=v;go_enter Tryz.func100,Tryz.ntmps100
  go_upto_region 1 with(fail)
  obtain⟨az,c6⟩:∃az,w.heap.size=az:=⟨_,rfl⟩;have bB:Hid (w.heap.size≤az):=af (by omega);replace en:Hid (aj (w.alloc (.cells #[.int .i64 0,.int .i64 0,.int .i64 0] 101)) az 101 #[.int .i64 0,.int .i64 0,.int .i64 0]):=af (by rw [←c6];exact en.out);rw [c6];clear c6;generalize w.alloc (.cells #[.int .i64 0,.int .i64 0,.int .i64 0] 101)=w0 at*;have hla:=LL H1.out hl gM.out side;rw [xV.out]at hla;go_wp2_with fail
  refine hla.mono ?_;rintro e w1 ⟨v,rfl,hr,hb⟩;replace en:=af (en.out.below hb);replace gZ:=af (gZ.out.trans (hb.mono gZ.out.size));obtain⟨ra,rc,rfl,_,hrd⟩:=hr.rd;clear hla hr hb;obtain⟨g,off,rfl,_,hc⟩:=hrd 0 _ rfl;rw [Nat.zero_mul,Nat.add_zero]at hc;have c0:w1.cell? ⟨g,off,none⟩=some (.int .i64 v0):=hc 0 _ rfl;have c1:w1.cell? ⟨g,off+1,none⟩=some (.int .i64 v1):=hc 1 _ rfl;have c2:w1.cell? ⟨g,off+2,none⟩=some (.int .i64 v2):=hc 2 _ rfl;rw [List.length_cons];have hn0:¬((M.length+1:Nat):Int)=0:=by omega
  have LY:(((M.length+1:Nat):Int)==0)=false:=by rw [beq_eq_false_iff_ne];exact hn0
  have hn2:((M.length:Int)+1==0)=false:=by rw [beq_eq_false_iff_ne];omega
  have aeM:(0:Int)<(M.length:Int)+1:=by omega
  clear hc hrd;have l0:w1.cell? ⟨az,0,none⟩=some (.int .i64 0):=en.out.cell 0;have l1:w1.cell? ⟨az,1,none⟩=some (.int .i64 0):=en.out.cell 1;have l2:w1.cell? ⟨az,2,none⟩=some (.int .i64 0):=en.out.cell 2;have fz:∀o,w1.frozen? ⟨az,o,none⟩=false:=fun o=>en.out.frozen o;go_wp2_with fail
  clear l0 l1 l2 fz c0 c1 c2 hn0 LY hn2 aeM;have hz:=((en.out.aQ 0 (.int .i64 v0)).aQ 1 (.int .i64 v1)).aQ 2 (.int .i64 v2);have hbz:=((gZ.out.setCell (p:=⟨az,0,none⟩) bB.out (.int .i64 v0)).setCell (p:=⟨az,1,none⟩) bB.out (.int .i64 v1)).setCell (p:=⟨az,2,none⟩) bB.out (.int .i64 v2);generalize ((w1.setCell ⟨az,0,none⟩ (.int .i64 v0)).setCell ⟨az,1,none⟩ (.int .i64 v1)).setCell ⟨az,2,none⟩ (.int .i64 v2)=ak at*;have k0:ak.cell? ⟨az,0,none⟩=some (.int .i64 v0):=hz.cell 0;have k1:ak.cell? ⟨az,1,none⟩=some (.int .i64 v1):=hz.cell 1;have k2:ak.cell? ⟨az,2,none⟩=some (.int .i64 v2):=hz.cell 2;refine bodyPost_ret (v:= .tuple #[.agg #[.int .i64 v0,.int .i64 v1,.int .i64 v2],.bool true]) (by simp [results,Tryz.results100,go_sem,k0,k1,k2]) rfl ⟨by rw [bH.out];rfl,hbz⟩
end
end Go.Proofs.YtmaijkoopjocdaaGreat
