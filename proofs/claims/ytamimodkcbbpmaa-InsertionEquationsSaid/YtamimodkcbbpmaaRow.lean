/- RowX: a part of the proof of the row of a; no conditions. -/
import Derived.Test.YtamimodkcbbpmaaRows
import Derived.Test.YtamimodkcbbpmaaG2
import Derived.Test.YtamimodkcbbpmaaG10
import Derived.WalkKit
import Derived.ProofKit
import Derived.OpenShut
import Derived.ShutString
import Derived.ChangeOld
import Derived.Below
import Derived.SizedLaws
import Derived.Test.YtamimodkcbbpmaaG1
namespace Go.Proofs.Ytamimodkcbbpmaa.insertionEquations
open Go.ChangeShapes Go.WideShapes Go.ChangeAt Go.RowKit Go.Proofs.Ytamimodkcbbpmaa.Pr
set_option linter.unusedVariables false
theorem own : ownKnob Try.prog.godebug = none := by kernel_rfl
theorem laidOut : laidOutB Try.prog = true := by kernel_rfl
set_option maxRecDepth 100000 in
theorem lifted (os : Os) (started : os.Started) (H : Type) (enc : TypeId × Value → H) :
  ReturnsInHanded {} Try.checked os 17 .any (Rows.insertionEquationsSpec.pre6 enc Try.prog Try.f17 Rows.insertionEquationsRow.domain false) (Rows.insertionEquationsSpec.post enc Try.prog Try.f17 false true false false) := by
 refine returnsInHanded_of_change_sized (C := Try.checked) own started (by kernel_rfl) Try.func17
  (ChangeSpec.witness6 (enc := enc) (C := Try.checked) false ⟨#[], #[.agg #[.int .i64 0, .int .i64 0, .int .i64 0, .slice none 0 0], .slice none 0 0], []⟩ 8 (by kernel_rfl) (by kernel_rfl) (by kernel_rfl) (by kernel_rfl)) ?_
 intro W base args ds gs before hval0 hW hcnd hsz0 _;have hval : ∀ (j : Nat) t v, Try.f17.params[j]? = some t → args[j]? = some v → Value.okWide Try.prog W .any base t v := hval0;have hW' := hW;obtain ⟨p, q, ER, hV, rfl, hfz, hnd⟩ := hW;have hA : DataW.TrodAll enc Try.prog W 0 (fun _ => true) true Try.f17.params.toList args.toList ds p := ER;rw [Try.params17] at hA hval;obtain ⟨v0, vs0, x0, xs0, p0, q0, hargs, rfl, rfl, h0, r0⟩ := trodAll_cons hA;obtain ⟨v1, vs1, x1, xs1, p1, q1, rfl, rfl, rfl, h1, r1⟩ := trodAll_cons r0;obtain ⟨rfl, rfl, rfl⟩ := trodAll_nil r1;obtain rfl : args = #[v0, v1] := by cases args; simp_all
 obtain ⟨rfl, rfl⟩ := trodVars_none hV;have hv0 := hval 0 58 v0 rfl rfl;obtain ⟨cs0, rfl⟩ : ∃ cs, v0 = .agg cs := by
  unfold Value.okWide at hv0;rw [Try.underlying58] at hv0;obtain ⟨cs, rfl, _⟩ := hv0;exact ⟨cs, rfl⟩
 have k0 := h0;have lt0 : ∀ x ∈ p0, x.block < W.heap.size := by obtain ⟨m, hm⟩ := k0; exact DataW.trod_lt m _ _ _ hm
 obtain ⟨aOX, hf0⟩ := h0;obtain ⟨T0, N0, S0, A0, c0, l0, aFA, i0⟩ := azg hf0;obtain rfl : cs0 = #[.int .i64 T0, .int .i64 N0, .int .i64 S0, .slice A0 l0.length c0] := by
  have h1 : cs0.toList = _ := aFA
  cases cs0;simp only at h1;rw [h1]
 clear hf0 aFA hv0;obtain ⟨a1, aFB, F5, rfl⟩ := okWide_slice Try.underlying44 (hval 1 44 v1 rfl rfl);have k1 := h1;have lt1 : ∀ x ∈ p1, x.block < W.heap.size := by obtain ⟨m, hm⟩ := k1; exact DataW.trod_lt m _ _ _ hm
 obtain ⟨aOY, hf1⟩ := h1;obtain ⟨A1, c1, l1, hcs1, i1⟩ := azh hf1;obtain ⟨rfl, rfl, rfl⟩ : a1 = A1 ∧ aFB = l1.length ∧ F5 = c1 := by
  have h1 : [Value.slice a1 aFB F5] = _ := hcs1;injection h1 with h1
  injection h1 with e1 e2 e3
  exact ⟨e1, e2, e3⟩
 clear hf1 hcs1 ER hval0 hsz0;refine (aTy T0 N0 S0 A0 c0 l0 a1 F5 l1 W i0 i1).mono fun e W' ⟨he, bO⟩ => ?_
 subst he;exact ⟨_, rfl, _, _, _, [], _, [], hW', trodAll_mk1 (shut_bool Try.underlying4 _), (trodAll_cons_mk (Below.trod laidOut (by kernel_rfl) (of_decide_eq_true (by kernel_rfl)) k0 bO lt0) (trodAll_cons_mk (Below.trod laidOut (by kernel_rfl) (of_decide_eq_true (by kernel_rfl)) k1 bO lt1) trodAll_mk0)), rfl, bO.frame _, fun h => by cases h⟩
theorem closed : joinedFacts Try.prog 17 Try.f17 Rows.insertionEquationsSpec Rows.insertionEquationsRow = true := by
 have e1 : (Rows.insertionEquationsRow.lifted == Try.prog.liftsFinal) = true := by rw [MG]; rfl
 have e2 : (Try.prog.make == some Rows.insertionEquationsRow.make) = true := by rw [QR]; rfl
 have e3 := MJ;have e4 := MK;unfold joinedFacts;repeat' with_reducible refine aid ?_ ?_
 all_goals first | with_reducible exact e1 | with_reducible exact e2 | with_reducible exact e3 | with_reducible exact e4 | kernel_rfl
theorem over : Rows.insertionEquationsRow.holds Try.pinned (OpenSpec.ofChange Rows.insertionEquationsSpec) :=
 OpenClaim.holds_of_wide 17 Try.f17 rfl rfl rfl rfl rfl rfl rfl ⟨rfl, rfl, rfl, rfl, rfl⟩ rfl rfl rfl rfl rfl (by kernel_rfl) Try.func17 closed
  (of_decide_eq_true (by kernel_rfl)) (by unfold Func.isWrapper; first | (rw [if_pos (by decide +kernel)]; kernel_rfl) | (rw [if_neg (by decide +kernel)]; exact ⟨rfl, rfl⟩))
  (fun os started H enc _ => lifted os started H enc)
theorem proved : Rows.InsertionEquationsSaid := over
#print axioms proved
end Go.Proofs.Ytamimodkcbbpmaa.insertionEquations
namespace Go.Proofs.Ytamimodkcbbpmaa
theorem insertionEquations_holds : Rows.InsertionEquationsSaid := insertionEquations.proved
end Go.Proofs.Ytamimodkcbbpmaa
