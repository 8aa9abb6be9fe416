import Derived.Test.YtmaijkoopjocdaaGreatKW52
import Derived.Test.YtmaijkoopjocdaaGreatRows
import Derived.ProofKit
import Derived.ShutString
import Derived.ChangeOld
set_option maxRecDepth 100000
set_option maxHeartbeats 64000000
namespace Go.Proofs.YtmaijkoopjocdaaGreat.viewerPlays
open Go.ChangeShapes Go.WideShapes Go.ChangeAt Go.RowKit
open Go.ChangeMaps (open_string shut_string)
set_option linter.unusedVariables false
theorem own:ownKnob Tryz.prog.godebug=none:=eP
theorem laidOut:laidOutB Tryz.prog=true:=eP
theorem lifted (os:Os) (started:os.Started) (H:Type) (enc:TypeId×Value->H):
 ReturnsInHanded {} Tryz.checked os 6 .any (Rows.viewerPlaysSpec.pre6 enc Tryz.prog Tryz.f6 Rows.viewerPlaysRow.domain false) (Rows.viewerPlaysSpec.post enc Tryz.prog Tryz.f6 false true false false):=by
 refine returnsInHanded_of_change (C:=Tryz.checked) own started eP Tryz.func6
  (ChangeSpec.witness6 (enc:=enc) (C:=Tryz.checked) false ⟨#[],#[.agg #[.string ByteArray.empty,.slice none 0 0,↑(),↑(),↑(),↑(),↑(),↑(),↑(),↑(),.slice none 0 0],.slice none 0 0,.slice none 0 0,.int .u8 0],[]⟩ 8 eP eP eP eP) ?_
 intro W base args ds gs before K hW hcnd _;have hval:∀(j:Nat) t v,Tryz.f6.params[j]? =some t->args[j]? =some v->Value.okWide Tryz.prog W .any base t v:=K;have A:=hW;obtain⟨p,q,J,hV,rfl,hfz,c⟩:=hW;have hA:DataW.TrodAll enc Tryz.prog W 0 (fun _=>true) true Tryz.f6.params.toList args.toList ds p:=J;rw [Tryz.params6]at hA hval;obtain⟨v0,O,d0,P,jh,q0,hargs,rfl,rfl,h0,Y⟩:=trodAll_cons hA;obtain⟨v1,Q,d1,R,p1,q1,rfl,rfl,rfl,h1,r1⟩:=trodAll_cons Y;obtain⟨v2,T,d2,U,p2,N,rfl,rfl,rfl,h2,r2⟩:=trodAll_cons r1;obtain⟨v3,V,d3,X,p3,d,rfl,rfl,rfl,h3,S⟩:=trodAll_cons r2;obtain⟨rfl,rfl,rfl⟩:=trodAll_nil S;obtain rfl:args=#[v0,v1,v2,v3]:=by cases args;simp_all
 obtain⟨rfl,rfl⟩:=trodVars_none hV;have k0:=h0;have B:∀x∈jh,x.block<W.heap.size:=by obtain⟨m,hm⟩:=k0;exact DataW.trod_lt m _ _ _ hm
 have k1:=h1;have D:∀x∈p1,x.block<W.heap.size:=by obtain⟨m,hm⟩:=k1;exact DataW.trod_lt m _ _ _ hm
 have k2:=h2;have E:∀x∈p2,x.block<W.heap.size:=by obtain⟨m,hm⟩:=k2;exact DataW.trod_lt m _ _ _ hm
 have M:=h3;have F:∀x∈p3,x.block<W.heap.size:=by obtain⟨m,hm⟩:=M;exact DataW.trod_lt m _ _ _ hm
 obtain⟨jh,rfl,G⟩:=agO h0 (hval 0 25 v0 rfl rfl);obtain⟨q1,Z,c1,rfl,L⟩:=agW h1 (hval 1 26 v1 rfl rfl);obtain⟨N,b,c2,rfl,I⟩:=arB h2 (hval 2 61 v2 rfl rfl);obtain⟨a3,rfl,rfl,rfl,w3⟩:=open_int Tryz.underlying5 (hval 3 5 v3 rfl rfl) h3;clear J K;refine(arH jh q1 Z c1 N b c2 a3 W G.cq L.1 L.2.1 I.1 (bounds_u8 w3)).mono fun e W' ⟨he,aJ⟩=>?_;subst he;exact⟨_,rfl,_,_,_,[],_,[],A,trodAll_mk1 (shut_bool Tryz.underlying4 _),(trodAll_cons_mk (Below.trod laidOut eP (of_decide_eq_true eP) k0 aJ B) (trodAll_cons_mk (Below.trod laidOut eP (of_decide_eq_true eP) k1 aJ D) (trodAll_cons_mk (Below.trod laidOut eP (of_decide_eq_true eP) k2 aJ E) (trodAll_cons_mk (Below.trod laidOut eP (of_decide_eq_true eP) M aJ F) trodAll_mk0)))),rfl,aJ.frame _,fun h=>by cases h⟩
theorem over:Rows.viewerPlaysRow.holds Tryz.pinned (OpenSpec.ofChange Rows.viewerPlaysSpec):=
 OpenClaim.holds_of_wide 6 Tryz.f6 rfl rfl rfl rfl rfl rfl rfl ⟨rfl,rfl,rfl,rfl,rfl⟩ rfl rfl rfl rfl rfl eP Tryz.func6 eP
  (of_decide_eq_true eP) (by unfold Func.isWrapper;first|(rw [if_pos (by decide+kernel)];kernel_rfl)|(rw [if_neg (by decide+kernel)];exact⟨rfl,rfl⟩))
  (fun os started H enc _=>lifted os started H enc)
theorem proved:Rows.ViewerPlaysSaid:=over
#print axioms proved
end Go.Proofs.YtmaijkoopjocdaaGreat.viewerPlays
