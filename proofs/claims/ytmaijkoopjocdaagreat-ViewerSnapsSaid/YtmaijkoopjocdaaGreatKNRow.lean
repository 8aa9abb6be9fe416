import Derived.Test.YtmaijkoopjocdaaGreatKN01
import Derived.Test.YtmaijkoopjocdaaGreatRows
import Derived.ProofKit
import Derived.ShutString
import Derived.ChangeOld
set_option maxRecDepth 100000
set_option maxHeartbeats 64000000
namespace Go.Proofs.YtmaijkoopjocdaaGreat.viewerSnaps
open Go.ChangeShapes Go.WideShapes Go.ChangeAt Go.RowKit
open Go.ChangeMaps (open_string shut_string)
set_option linter.unusedVariables false
theorem own:ownKnob Tryz.prog.godebug=none:=by kernel_rfl
theorem laidOut:laidOutB Tryz.prog=true:=by kernel_rfl
theorem lifted (os:Os) (started:os.Started) (H:Type) (enc:TypeId×Value→H):
 ReturnsInHanded {} Tryz.checked os 5 .any (Rows.viewerSnapsSpec.pre6 enc Tryz.prog Tryz.f5 Rows.viewerSnapsRow.domain false) (Rows.viewerSnapsSpec.post enc Tryz.prog Tryz.f5 false true false false):=by
 refine returnsInHanded_of_change (C:=Tryz.checked) own started (by kernel_rfl) Tryz.func5
  (ChangeSpec.witness6 (enc:=enc) (C:=Tryz.checked) false ⟨#[],#[.agg #[.string ByteArray.empty,.slice none 0 0,.int .i64 0,.int .i64 0,.int .i64 0,.int .i64 0,.int .i64 0,.int .i64 0,.int .i64 0,.int .i64 0,.slice none 0 0],.slice none 0 0,.slice none 0 0],[]⟩ 8 (by kernel_rfl) (by kernel_rfl) (by kernel_rfl) (by kernel_rfl)) ?_
 intro W base args ds gs before Ym hW hcnd _;have hval:∀(j:Nat) t v,Tryz.f5.params[j]? =some t→args[j]? =some v→Value.okWide Tryz.prog W .any base t v:=Ym;have ag1:=hW;obtain⟨p,q,Hl,hV,rfl,hfz,T9⟩:=hW;have hA:DataW.TrodAll enc Tryz.prog W 0 (fun _=>true) true Tryz.f5.params.toList args.toList ds p:=Hl;rw [Tryz.params5]at hA hval;obtain⟨v0,amK,d0,amL,jh,q0,hargs,rfl,rfl,h0,cu⟩:=trodAll_cons hA;obtain⟨v1,amM,d1,amN,p1,q1,rfl,rfl,rfl,h1,r1⟩:=trodAll_cons cu;obtain⟨v2,amO,d2,amP,p2,ic,rfl,rfl,rfl,h2,r2⟩:=trodAll_cons r1;obtain⟨rfl,rfl,rfl⟩:=trodAll_nil r2;obtain rfl:args=#[v0,v1,v2]:=by cases args;simp_all
 obtain⟨rfl,rfl⟩:=trodVars_none hV;have k0:=h0;have ag2:∀x∈jh,x.block<W.heap.size:=by obtain⟨m,hm⟩:=k0;exact DataW.trod_lt m _ _ _ hm
 have k1:=h1;have ag3:∀x∈p1,x.block<W.heap.size:=by obtain⟨m,hm⟩:=k1;exact DataW.trod_lt m _ _ _ hm
 have k2:=h2;have ag4:∀x∈p2,x.block<W.heap.size:=by obtain⟨m,hm⟩:=k2;exact DataW.trod_lt m _ _ _ hm
 obtain⟨jh,rfl,ag6⟩:=agO h0 (hval 0 25 v0 rfl rfl);obtain⟨q1,eX,c1,rfl,Yn⟩:=agW h1 (hval 1 26 v1 rfl rfl);obtain⟨ic,mz,c2,rfl,ag7⟩:=open_ints h2 (hval 2 22 v2 rfl rfl);clear Hl Ym;refine(aoz jh q1 eX c1 ic mz c2 W ag6.cq Yn.1 Yn.2.1 ag7).mono fun e W' ⟨he,aJ⟩=>?_;subst he;exact⟨_,rfl,_,_,_,[],_,[],ag1,trodAll_mk1 (shut_bool Tryz.underlying4 _),(trodAll_cons_mk (Below.trod laidOut (by kernel_rfl) (of_decide_eq_true (by kernel_rfl)) k0 aJ ag2) (trodAll_cons_mk (Below.trod laidOut (by kernel_rfl) (of_decide_eq_true (by kernel_rfl)) k1 aJ ag3) (trodAll_cons_mk (Below.trod laidOut (by kernel_rfl) (of_decide_eq_true (by kernel_rfl)) k2 aJ ag4) trodAll_mk0))),rfl,aJ.frame _,fun h=>by cases h⟩
theorem over:Rows.viewerSnapsRow.holds Tryz.pinned (OpenSpec.ofChange Rows.viewerSnapsSpec):=
 OpenClaim.holds_of_wide 5 Tryz.f5 rfl rfl rfl rfl rfl rfl rfl ⟨rfl,rfl,rfl,rfl,rfl⟩ rfl rfl rfl rfl rfl (by kernel_rfl) Tryz.func5 (by kernel_rfl)
  (of_decide_eq_true (by kernel_rfl)) (by unfold Func.isWrapper;first|(rw [if_pos (by decide+kernel)];kernel_rfl)|(rw [if_neg (by decide+kernel)];exact⟨rfl,rfl⟩))
  (fun os started H enc _=>lifted os started H enc)
theorem proved:Rows.ViewerSnapsSaid:=over
#print axioms proved
end Go.Proofs.YtmaijkoopjocdaaGreat.viewerSnaps
