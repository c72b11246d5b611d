/- RowB: a part of the proof of the row of a; no conditions. -/
import Derived.Test.YtamimodkcbbpmaaRows
import Derived.Test.YtamimodkcbbpmaaG2
import Derived.Test.YtamimodkcbbpmaaG8
import Derived.WalkKit
import Derived.ProofKit
import Derived.OpenShut
import Derived.ShutString
import Derived.ChangeOld
import Derived.Below
import Derived.SizedLaws
import Derived.Test.YtamimodkcbbpmaaG1
namespace Go.Proofs.Ytamimodkcbbpmaa.derivationCompareMatchesReference
open Go.ChangeShapes Go.WideShapes Go.ChangeAt Go.RowKit Go.Proofs.Ytamimodkcbbpmaa.Pr
set_option linter.unusedVariables false
theorem own : ownKnob Try.prog.godebug = none := by kernel_rfl
theorem laidOut : laidOutB Try.prog = true := by kernel_rfl
set_option maxRecDepth 100000 in
theorem lifted (os : Os) (started : os.Started) (H : Type) (enc : TypeId × Value → H) :
  ReturnsInHanded {} Try.checked os 4 .any (Rows.derivationCompareMatchesReferenceSpec.pre6 enc Try.prog Try.f4 Rows.derivationCompareMatchesReferenceRow.domain false) (Rows.derivationCompareMatchesReferenceSpec.post enc Try.prog Try.f4 false true false false) := by
 refine returnsInHanded_of_change_sized (C := Try.checked) own started (by kernel_rfl) Try.func4
  (ChangeSpec.witness6 (enc := enc) (C := Try.checked) false ⟨#[], #[.agg #[.int .i64 0, .slice none 0 0, .int .i64 0, .int .i64 0, .slice none 0 0, .int .i64 0, .slice none 0 0, .int .i64 0, .slice none 0 0]], []⟩ 8 (by kernel_rfl) (by kernel_rfl) (by kernel_rfl) (by kernel_rfl)) ?_
 intro W base args ds gs before hval0 hW hcnd hsz0 _;have hval : ∀ (j : Nat) t v, Try.f4.params[j]? = some t → args[j]? = some v → Value.okWide Try.prog W .any base t v := hval0;have hW' := hW;obtain ⟨p, q, ER, hV, rfl, hfz, hnd⟩ := hW;have hA : DataW.TrodAll enc Try.prog W 0 (fun _ => true) true Try.f4.params.toList args.toList ds p := ER;rw [Try.params4] at hA hval;obtain ⟨v0, vs0, d0, ds0, p0, q0, hargs, rfl, rfl, h0, r0⟩ := trodAll_cons hA;obtain ⟨rfl, rfl, rfl⟩ := trodAll_nil r0;obtain rfl : args = #[v0] := by cases args; simp_all
 obtain ⟨rfl, rfl⟩ := trodVars_none hV;have hv := hval 0 29 v0 rfl rfl;obtain ⟨cs, rfl⟩ : ∃ cs, v0 = .agg cs := by
  unfold Value.okWide at hv;rw [Try.underlying29] at hv;obtain ⟨cs, rfl, _⟩ := hv;exact ⟨cs, rfl⟩
 have k0 := h0;have lt0 : ∀ x ∈ p0, x.block < W.heap.size := by obtain ⟨m, hm⟩ := k0; exact DataW.trod_lt m _ _ _ hm
 obtain ⟨fuel, hf⟩ := h0;obtain ⟨v, A, c, l, r, d1, A1, k1, d2, A2, k2, d3, A3, k3, hcs, i0, br, i1, i2, i3⟩ := afE hf;obtain rfl : cs = #[.int .i64 v, .slice A l.length c, .int .i64 r, .int .i64 d1.f0, .slice A1 d1.f1.length k1, .int .i64 d2.f0, .slice A2 d2.f1.length k2, .int .i64 d3.f0, .slice A3 d3.f1.length k3] := by
  have h1 : cs.toList = _ := hcs
  cases cs;simp only at h1;rw [h1]
 clear ER hval0 hsz0 hf hcs hv;refine (eF v A c l r d1 A1 k1 d2 A2 k2 d3 A3 k3 W i0.C i0.c i0.f i1.C i1.c i1.f i2.C i2.c i2.f i3.C i3.c i3.f).mono fun e W' ⟨he, bO⟩ => ?_
 subst he;exact ⟨_, rfl, _, _, _, [], _, [], hW', trodAll_mk1 (shut_bool Try.underlying4 _), (trodAll_cons_mk (Below.trod laidOut (by kernel_rfl) (of_decide_eq_true (by kernel_rfl)) k0 bO lt0) trodAll_mk0), rfl, bO.frame _, fun h => by cases h⟩
theorem closed : joinedFacts Try.prog 4 Try.f4 Rows.derivationCompareMatchesReferenceSpec Rows.derivationCompareMatchesReferenceRow = true := by
 have e1 : (Rows.derivationCompareMatchesReferenceRow.lifted == Try.prog.liftsFinal) = true := by rw [MG]; rfl
 have e2 : (Try.prog.make == some Rows.derivationCompareMatchesReferenceRow.make) = true := by rw [QR]; rfl
 have e3 := MJ;have e4 := MK;unfold joinedFacts;repeat' with_reducible refine aid ?_ ?_
 all_goals first | with_reducible exact e1 | with_reducible exact e2 | with_reducible exact e3 | with_reducible exact e4 | kernel_rfl
theorem over : Rows.derivationCompareMatchesReferenceRow.holds Try.pinned (OpenSpec.ofChange Rows.derivationCompareMatchesReferenceSpec) :=
 OpenClaim.holds_of_wide 4 Try.f4 rfl rfl rfl rfl rfl rfl rfl ⟨rfl, rfl, rfl, rfl, rfl⟩ rfl rfl rfl rfl rfl (by kernel_rfl) Try.func4 closed
  (of_decide_eq_true (by kernel_rfl)) (by unfold Func.isWrapper; first | (rw [if_pos (by decide +kernel)]; kernel_rfl) | (rw [if_neg (by decide +kernel)]; exact ⟨rfl, rfl⟩))
  (fun os started H enc _ => lifted os started H enc)
theorem proved : Rows.DerivationCompareMatchesReferenceSaid := over
#print axioms proved
end Go.Proofs.Ytamimodkcbbpmaa.derivationCompareMatchesReference
namespace Go.Proofs.Ytamimodkcbbpmaa
theorem derivationCompareMatchesReference_holds : Rows.DerivationCompareMatchesReferenceSaid := derivationCompareMatchesReference.proved
end Go.Proofs.Ytamimodkcbbpmaa
