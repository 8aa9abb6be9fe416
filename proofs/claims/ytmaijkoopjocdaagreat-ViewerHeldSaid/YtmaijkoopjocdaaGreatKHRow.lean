import Derived.Test.YtmaijkoopjocdaaGreatKH01
import Derived.Test.YtmaijkoopjocdaaGreatRows
import Derived.ProofKit
import Derived.ShutString
import Derived.ChangeOld
set_option maxRecDepth 100000
set_option maxHeartbeats 64000000
namespace Go.Proofs.YtmaijkoopjocdaaGreat.viewerHeld
open Go.ChangeShapes Go.WideShapes Go.ChangeAt Go.RowKit
open Go.ChangeMaps (open_string shut_string)
set_option linter.unusedVariables false
theorem own:ownKnob Tryz.prog.godebug=none:=by kernel_rfl
theorem laidOut:laidOutB Tryz.prog=true:=by kernel_rfl
theorem lifted (os:Os) (started:os.Started) (H:Type) (enc:TypeId×Value→H):
 ReturnsInHanded {} Tryz.checked os 4 .any (Rows.viewerHeldSpec.pre6 enc Tryz.prog Tryz.f4 Rows.viewerHeldRow.domain false) (Rows.viewerHeldSpec.post enc Tryz.prog Tryz.f4 false true false false):=by
 refine returnsInHanded_of_change (C:=Tryz.checked) own started (by kernel_rfl) Tryz.func4
  (ChangeSpec.witness6 (enc:=enc) (C:=Tryz.checked) false ⟨#[],#[.agg #[.string ByteArray.empty,.slice none 0 0,.int .i64 0,.int .i64 0,.int .i64 0,.int .i64 0,.int .i64 0,.int .i64 0,.int .i64 0,.int .i64 0,.slice none 0 0],.slice none 0 0,.slice none 0 0],[]⟩ 8 (by kernel_rfl) (by kernel_rfl) (by kernel_rfl) (by kernel_rfl)) ?_
 intro W base args ds gs before Wu hW hcnd _;have hval:∀(j:Nat) t v,Tryz.f4.params[j]? =some t→args[j]? =some v→Value.okWide Tryz.prog W .any base t v:=Wu;have aem:=hW;obtain⟨p,q,Fw,hV,rfl,hfz,Sh⟩:=hW;have hA:DataW.TrodAll enc Tryz.prog W 0 (fun _=>true) true Tryz.f4.params.toList args.toList ds p:=Fw;rw [Tryz.params4]at hA hval;obtain⟨v0,aiU,d0,aiV,jO,q0,hargs,rfl,rfl,h0,b6⟩:=trodAll_cons hA;obtain⟨v1,aiW,d1,aiX,p1,q1,rfl,rfl,rfl,h1,r1⟩:=trodAll_cons b6;obtain⟨v2,aiY,d2,aiZ,p2,e5,rfl,rfl,rfl,h2,r2⟩:=trodAll_cons r1;obtain⟨rfl,rfl,rfl⟩:=trodAll_nil r2;obtain rfl:args=#[v0,v1,v2]:=by cases args;simp_all
 obtain⟨rfl,rfl⟩:=trodVars_none hV;have k0:=h0;have aen:∀x∈jO,x.block<W.heap.size:=by obtain⟨m,hm⟩:=k0;exact DataW.trod_lt m _ _ _ hm
 have k1:=h1;have aeo:∀x∈p1,x.block<W.heap.size:=by obtain⟨m,hm⟩:=k1;exact DataW.trod_lt m _ _ _ hm
 have k2:=h2;have aep:∀x∈p2,x.block<W.heap.size:=by obtain⟨m,hm⟩:=k2;exact DataW.trod_lt m _ _ _ hm
 obtain⟨jO,rfl,aeq⟩:=ad9 h0 (hval 0 25 v0 rfl rfl);obtain⟨q1,eE,c1,rfl,Wv⟩:=aeh h1 (hval 1 26 v1 rfl rfl);obtain⟨e5,lD,c2,rfl,aer⟩:=open_ints h2 (hval 2 22 v2 rfl rfl);clear Fw Wu;refine(akF jO q1 eE c1 e5 lD c2 W aeq.ct Wv.1 Wv.2.1 aer).mono fun e W' ⟨he,aF⟩=>?_;subst he;exact⟨_,rfl,_,_,_,[],_,[],aem,trodAll_mk1 (shut_bool Tryz.underlying4 _),(trodAll_cons_mk (Below.trod laidOut (by kernel_rfl) (of_decide_eq_true (by kernel_rfl)) k0 aF aen) (trodAll_cons_mk (Below.trod laidOut (by kernel_rfl) (of_decide_eq_true (by kernel_rfl)) k1 aF aeo) (trodAll_cons_mk (Below.trod laidOut (by kernel_rfl) (of_decide_eq_true (by kernel_rfl)) k2 aF aep) trodAll_mk0))),rfl,aF.frame _,fun h=>by cases h⟩
theorem over:Rows.viewerHeldRow.holds Tryz.pinned (OpenSpec.ofChange Rows.viewerHeldSpec):=
 OpenClaim.holds_of_wide 4 Tryz.f4 rfl rfl rfl rfl rfl rfl rfl ⟨rfl,rfl,rfl,rfl,rfl⟩ rfl rfl rfl rfl rfl (by kernel_rfl) Tryz.func4 (by kernel_rfl)
  (of_decide_eq_true (by kernel_rfl)) (by unfold Func.isWrapper;first|(rw [if_pos (by decide+kernel)];kernel_rfl)|(rw [if_neg (by decide+kernel)];exact⟨rfl,rfl⟩))
  (fun os started H enc _=>lifted os started H enc)
theorem proved:Rows.ViewerHeldSaid:=over
#print axioms proved
end Go.Proofs.YtmaijkoopjocdaaGreat.viewerHeld
