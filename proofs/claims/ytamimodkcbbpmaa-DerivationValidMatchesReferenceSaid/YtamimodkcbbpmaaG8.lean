/- PA PB PC QA: a part of the proof of the row of DerivationValidMatchesReference; no conditions. -/
import Derived.Test.YtamimodkcbbpmaaG2
import Derived.Test.YtamimodkcbbpmaaG6
import Derived.Test.YtamimodkcbbpmaaG3
import Derived.Test.YtamimodkcbbpmaaG7
import Derived.Test.YtamimodkcbbpmaaG5
import Derived.Test.YtamimodkcbbpmaaG4
section
/- The functions of chapter 30 on trees: Valid and Value of the program and of the reference tell the same. -/
namespace Go.Proofs.Ytamimodkcbbpmaa.Pr
open Go.RowKit Go.Proofs.YtamimodkcbbpmaaW.PrintWords Go.Proofs.YtamimodkcbbpmaaW.PrintLast
set_option linter.unusedVariables false
set_option linter.unusedSimpArgs false

/-- From some number of rounds on it tells r. -/
def Ev {α : Type} (f : Nat → Option α) (r : α) : Prop := ∃ K, ∀ k, K ≤ k → f k = some r
theorem Ev.const {α : Type} (r : α) : Ev (fun _ => some r) r := ⟨0, fun _ _ => rfl⟩
theorem Ev.succ {α : Type} {f g : Nat → Option α} {r : α} (hg : Ev g r) (h : ∀ k, f (k + 1) = g k) : Ev f r := by
  obtain ⟨K, hK⟩ := hg
  refine ⟨K + 1, fun k hk => ?_⟩
  obtain ⟨m, rfl⟩ : ∃ m, k = m + 1 := ⟨k - 1, by omega⟩
  rw [h m]
  exact hK m (by omega)
theorem Ev.bind {α β : Type} {a : Nat → Option β} {b : β} {G : Nat → β → Option α} {r : α} (ha : Ev a b) (hG : Ev (fun k => G k b) r) : Ev (fun k => (a k).bind (G k)) r := by
  obtain ⟨K, hK⟩ := ha
  obtain ⟨L, hL⟩ := hG
  refine ⟨K + L, fun k hk => ?_⟩
  show (a k).bind (G k) = some r
  rw [hK k (by omega)]
  exact hL k (by omega)
theorem Ev.of_mono {α : Type} {f : Nat → Option α} {r : α} (h : ∀ k, LeO (f k) (f (k + 1))) {k : Nat} (hk : f k = some r) : Ev f r := by
  refine ⟨k, fun j hj => ?_⟩
  obtain ⟨d, rfl⟩ : ∃ d, j = k + d := ⟨j - k, by omega⟩
  clear hj
  induction d with
  | zero => exact hk
  | succ d ih => exact h (k + d) r ih
theorem Ev.ex {α : Type} {f : Nat → Option α} {r : α} (h : Ev f r) : ∃ k, f k = some r := by
  obtain ⟨K, hK⟩ := h
  exact ⟨K, hK K (Nat.le_refl _)⟩

theorem w64 (i : Nat) (h : i < 9223372036854775807) : wrap64 ((i : Int) + 1) = ((i + 1 : Nat) : Int) := by unfold wrap64; omega
/-- A valid derivation of a node. -/
inductive VD (es : List S54) : Int → S27 → Prop
  | mk (d : S27) (h0 : 0 ≤ d.f0) (h1 : d.f0 < (es.length : Int)) (hl : d.f1.length = (rd_T54 es d.f0).f1.length) (hk : ∀ j, j < d.f1.length → VD es ((rd_T54 es d.f0).f1.getD j 0) (d.f1.getD j z27)) : VD es (rd_T54 es d.f0).f0 d
theorem VD.inv {es : List S54} {root : Int} {d : S27} (h : VD es root d) : 0 ≤ d.f0 ∧ d.f0 < (es.length : Int) ∧ (rd_T54 es d.f0).f0 = root ∧ d.f1.length = (rd_T54 es d.f0).f1.length ∧ ∀ j, j < d.f1.length → VD es ((rd_T54 es d.f0).f1.getD j 0) (d.f1.getD j z27) := by
  cases h with
  | mk _ h0 h1 hl hk => exact ⟨h0, h1, rfl, hl, hk⟩
theorem Fits27.kid {d : S27} (h : Fits27 d) (j : Nat) (hj : j < d.f1.length) : Fits27 (d.f1.getD j z27) := by
  cases h with
  | mk _ _ _ hk => exact hk _ (getD_mem _ _ _ hj)
theorem Fits27.len {d : S27} (h : Fits27 d) : d.f1.length ≤ 9223372036854775807 := by
  cases h with
  | mk _ _ hl _ => exact hl

section
variable (n : Int) (es : List S54)
/-- Both loops over the kids. -/
theorem loop_Valid (d : S27) (hd : d.f1.length ≤ 9223372036854775807) (h0 : 0 ≤ d.f0) (h1 : d.f0 < (es.length : Int)) (hl : d.f1.length = (rd_T54 es d.f0).f1.length) (a b c e0 : Int)
    (hk : ∀ j, j < d.f1.length → ∃ r, Ev (fun k => derivation_Valid.f k n es ((rd_T54 es d.f0).f1.getD j 0) (d.f1.getD j z27).f0 (d.f1.getD j z27).f1) r ∧ Ev (fun k => emendateref30_Valid.f k n es ((rd_T54 es d.f0).f1.getD j 0) (d.f1.getD j z27).f0 (d.f1.getD j z27).f1) r ∧ (r = true ↔ VD es ((rd_T54 es d.f0).f1.getD j 0) (d.f1.getD j z27))) :
    ∀ m i, i + m = d.f1.length → ∃ r, Ev (fun k => derivation_Valid.l0 k d.f1 (d.f1.length : Int) (i : Int) n es e0 (rd_T54 es d.f0).f1 a b c) r ∧ Ev (fun k => emendateref30_Valid.l0 k (i : Int) n es d.f0 d.f1) r ∧ (r = true ↔ ∀ j, i ≤ j → j < d.f1.length → VD es ((rd_T54 es d.f0).f1.getD j 0) (d.f1.getD j z27))
  | 0, i, hi => by
    refine ⟨true, (Ev.const true).succ (fun k => ?_), (Ev.const true).succ (fun k => ?_), ⟨fun _ j h2 h3 => absurd h3 (by omega), fun _ => rfl⟩⟩
    · unfold derivation_Valid.l0
      rw [if_neg (by omega)]
    · unfold emendateref30_Valid.l0
      rw [if_neg (by omega)]
  | m + 1, i, hi => by
    obtain ⟨r1, ea, eb, hr1⟩ := hk i (by omega)
    have hw := w64 i (by omega)
    cases r1 with
    | false =>
      refine ⟨false, (ea.bind (G := fun k t => if t = true then derivation_Valid.l0 k d.f1 (d.f1.length : Int) ((i + 1 : Nat) : Int) n es e0 (rd_T54 es d.f0).f1 a b c else some false) (Ev.const false)).succ (fun k => ?_), (eb.bind (G := fun k t => if t = true then emendateref30_Valid.l0 k ((i + 1 : Nat) : Int) n es d.f0 d.f1 else some false) (Ev.const false)).succ (fun k => ?_), ⟨fun h => (by cases h), fun h => (hr1.2 (h i (Nat.le_refl _) (by omega)))⟩⟩
      · show derivation_Valid.l0 (k + 1) _ _ _ _ _ _ _ _ _ _ = _
        rw [derivation_Valid.l0, if_pos (by omega), if_pos (by omega), if_pos (by omega), if_pos (by omega), hw]
        rfl
      · show emendateref30_Valid.l0 (k + 1) _ _ _ _ _ = _
        rw [emendateref30_Valid.l0, if_pos (by omega), if_pos h0, if_pos h1, if_pos (by omega), if_pos (by omega), hw]
        rfl
    | true =>
      obtain ⟨r, ec, ed, hr⟩ := loop_Valid d hd h0 h1 hl a b c e0 hk m (i + 1) (by omega)
      refine ⟨r, (ea.bind (G := fun k t => if t = true then derivation_Valid.l0 k d.f1 (d.f1.length : Int) ((i + 1 : Nat) : Int) n es e0 (rd_T54 es d.f0).f1 a b c else some false) ec).succ (fun k => ?_), (eb.bind (G := fun k t => if t = true then emendateref30_Valid.l0 k ((i + 1 : Nat) : Int) n es d.f0 d.f1 else some false) ed).succ (fun k => ?_), ⟨fun h j h2 h3 => ?_, fun h => hr.2 (fun j h2 h3 => h j (by omega) h3)⟩⟩
      · show derivation_Valid.l0 (k + 1) _ _ _ _ _ _ _ _ _ _ = _
        rw [derivation_Valid.l0, if_pos (by omega), if_pos (by omega), if_pos (by omega), if_pos (by omega), hw]
        rfl
      · show emendateref30_Valid.l0 (k + 1) _ _ _ _ _ = _
        rw [emendateref30_Valid.l0, if_pos (by omega), if_pos h0, if_pos h1, if_pos (by omega), if_pos (by omega), hw]
        rfl
      · by_cases hj : j = i
        · subst hj; exact hr1.1 rfl
        · exact hr.1 h j (by omega) h3
/-- Both say whether the derivation is valid. -/
theorem both_Valid : ∀ d, Fits27 d → ∀ root, ∃ r, Ev (fun k => derivation_Valid.f k n es root d.f0 d.f1) r ∧ Ev (fun k => emendateref30_Valid.f k n es root d.f0 d.f1) r ∧ (r = true ↔ VD es root d) := by
  intro d hd
  induction hd with
  | mk d hf hl hk ih =>
    intro root
    by_cases h0 : d.f0 < 0
    · refine ⟨false, ?_, ?_, ⟨fun h => (by cases h), fun h => absurd h.inv.1 (by omega)⟩⟩
      · refine Ev.succ (g := fun k => derivation_Valid.j0 k root true n es d.f0 d.f1) (Ev.succ (Ev.const false) (fun k => ?_)) (fun k => ?_)
        · rw [derivation_Valid.j0, if_pos rfl]
        · rw [derivation_Valid.f, if_pos h0]
      · refine Ev.succ (g := fun k => emendateref30_Valid.j0 k true n es d.f0 d.f1) (Ev.succ (Ev.const false) (fun k => ?_)) (fun k => ?_)
        · rw [emendateref30_Valid.j0, if_pos rfl]
        · rw [emendateref30_Valid.f, if_pos h0]
    · by_cases h1 : d.f0 < (es.length : Int)
      · by_cases h2 : (rd_T54 es d.f0).f0 = root
        · subst h2
          by_cases h3 : d.f1.length = (rd_T54 es d.f0).f1.length
          · obtain ⟨r, ea, eb, hr⟩ := loop_Valid n es d hl (by omega) h1 h3 (rd_T54 es d.f0).f2 (rd_T54 es d.f0).f3.f0 (rd_T54 es d.f0).f3.f1 (rd_T54 es d.f0).f0 (fun j hj => ih _ (getD_mem _ _ _ hj) _) d.f1.length 0 (by omega)
            have hne1 : ((((rd_T54 es d.f0).f1).length : Int) != (d.f1.length : Int)) = false := by rw [bne_eq_false_iff_eq]; omega
            have hne2 : ((d.f1.length : Int) != (((rd_T54 es d.f0).f1).length : Int)) = false := by rw [bne_eq_false_iff_eq]; omega
            refine ⟨r, ?_, ?_, hr.trans ⟨fun h => VD.mk d (by omega) h1 h3 (fun j hj => h j (Nat.zero_le _) hj), fun h j _ hj => h.inv.2.2.2.2 j hj⟩⟩
            · refine Ev.succ (g := fun k => derivation_Valid.j0 k (rd_T54 es d.f0).f0 false n es d.f0 d.f1) (Ev.succ (g := fun k => derivation_Valid.j1 k (rd_T54 es d.f0).f0 n es d.f0 d.f1) (Ev.succ (g := fun k => derivation_Valid.j2 k false n es d.f0 d.f1 (rd_T54 es d.f0).f0 (rd_T54 es d.f0).f1 (rd_T54 es d.f0).f2 (rd_T54 es d.f0).f3.f0 (rd_T54 es d.f0).f3.f1) (Ev.succ (g := fun k => derivation_Valid.j3 k n es d.f0 d.f1 (rd_T54 es d.f0).f0 (rd_T54 es d.f0).f1 (rd_T54 es d.f0).f2 (rd_T54 es d.f0).f3.f0 (rd_T54 es d.f0).f3.f1) (Ev.succ ea (fun k => ?_)) (fun k => ?_)) (fun k => ?_)) (fun k => ?_)) (fun k => ?_)
              · rw [derivation_Valid.j3]; rfl
              · rw [derivation_Valid.j2, if_neg (by decide)]
              · rw [derivation_Valid.j1, if_pos (by omega), if_pos h1, if_pos rfl, hne1]
              · rw [derivation_Valid.j0, if_neg (by decide)]
              · rw [derivation_Valid.f, if_neg h0, decide_eq_false (by omega)]
            · refine Ev.succ (g := fun k => emendateref30_Valid.j0 k false n es d.f0 d.f1) (Ev.succ (g := fun k => emendateref30_Valid.j1 k n es d.f0 d.f1) (Ev.succ eb (fun k => ?_)) (fun k => ?_)) (fun k => ?_)
              · rw [emendateref30_Valid.j1]; rfl
              · rw [emendateref30_Valid.j0, if_neg (by decide)]
              · rw [emendateref30_Valid.f, if_neg h0, if_neg (by omega), if_pos (by omega), if_pos h1, if_pos rfl, hne2]
          · have hne1 : ((((rd_T54 es d.f0).f1).length : Int) != (d.f1.length : Int)) = true := by rw [bne_iff_ne]; omega
            have hne2 : ((d.f1.length : Int) != (((rd_T54 es d.f0).f1).length : Int)) = true := by rw [bne_iff_ne]; omega
            refine ⟨false, ?_, ?_, ⟨fun h => (by cases h), fun h => absurd h.inv.2.2.2.1 h3⟩⟩
            · refine Ev.succ (g := fun k => derivation_Valid.j0 k (rd_T54 es d.f0).f0 false n es d.f0 d.f1) (Ev.succ (g := fun k => derivation_Valid.j1 k (rd_T54 es d.f0).f0 n es d.f0 d.f1) (Ev.succ (g := fun k => derivation_Valid.j2 k true n es d.f0 d.f1 (rd_T54 es d.f0).f0 (rd_T54 es d.f0).f1 (rd_T54 es d.f0).f2 (rd_T54 es d.f0).f3.f0 (rd_T54 es d.f0).f3.f1) (Ev.succ (Ev.const false) (fun k => ?_)) (fun k => ?_)) (fun k => ?_)) (fun k => ?_)
              · rw [derivation_Valid.j2, if_pos rfl]
              · rw [derivation_Valid.j1, if_pos (by omega), if_pos h1, if_pos rfl, hne1]
              · rw [derivation_Valid.j0, if_neg (by decide)]
              · rw [derivation_Valid.f, if_neg h0, decide_eq_false (by omega)]
            · refine Ev.succ (g := fun k => emendateref30_Valid.j0 k true n es d.f0 d.f1) (Ev.succ (Ev.const false) (fun k => ?_)) (fun k => ?_)
              · rw [emendateref30_Valid.j0, if_pos rfl]
              · rw [emendateref30_Valid.f, if_neg h0, if_neg (by omega), if_pos (by omega), if_pos h1, if_pos rfl, hne2]
        · refine ⟨false, ?_, ?_, ⟨fun h => (by cases h), fun h => absurd h.inv.2.2.1 h2⟩⟩
          · refine Ev.succ (g := fun k => derivation_Valid.j0 k root false n es d.f0 d.f1) (Ev.succ (g := fun k => derivation_Valid.j1 k root n es d.f0 d.f1) (Ev.succ (g := fun k => derivation_Valid.j2 k true n es d.f0 d.f1 (rd_T54 es d.f0).f0 (rd_T54 es d.f0).f1 (rd_T54 es d.f0).f2 (rd_T54 es d.f0).f3.f0 (rd_T54 es d.f0).f3.f1) (Ev.succ (Ev.const false) (fun k => ?_)) (fun k => ?_)) (fun k => ?_)) (fun k => ?_)
            · rw [derivation_Valid.j2, if_pos rfl]
            · rw [derivation_Valid.j1, if_pos (by omega), if_pos h1, if_neg h2]
            · rw [derivation_Valid.j0, if_neg (by decide)]
            · rw [derivation_Valid.f, if_neg h0, decide_eq_false (by omega)]
          · refine Ev.succ (g := fun k => emendateref30_Valid.j0 k true n es d.f0 d.f1) (Ev.succ (Ev.const false) (fun k => ?_)) (fun k => ?_)
            · rw [emendateref30_Valid.j0, if_pos rfl]
            · rw [emendateref30_Valid.f, if_neg h0, if_neg (by omega), if_pos (by omega), if_pos h1, if_neg h2]
      · refine ⟨false, ?_, ?_, ⟨fun h => (by cases h), fun h => absurd h.inv.2.1 h1⟩⟩
        · refine Ev.succ (g := fun k => derivation_Valid.j0 k root true n es d.f0 d.f1) (Ev.succ (Ev.const false) (fun k => ?_)) (fun k => ?_)
          · rw [derivation_Valid.j0, if_pos rfl]
          · rw [derivation_Valid.f, if_neg h0, decide_eq_true (by omega)]
        · refine Ev.succ (g := fun k => emendateref30_Valid.j0 k true n es d.f0 d.f1) (Ev.succ (Ev.const false) (fun k => ?_)) (fun k => ?_)
          · rw [emendateref30_Valid.j0, if_pos rfl]
          · rw [emendateref30_Valid.f, if_neg h0, if_pos (by omega)]
end
end Go.Proofs.Ytamimodkcbbpmaa.Pr
end
section
/- The functions of chapter 30: Value, Size, Small, Short; what a fair case is. -/
namespace Go.Proofs.Ytamimodkcbbpmaa.Pr
open Go.RowKit Go.Proofs.YtamimodkcbbpmaaW.PrintWords Go.Proofs.YtamimodkcbbpmaaW.PrintLast
set_option linter.unusedVariables false
set_option linter.unusedSimpArgs false

theorem Ev.mp {α : Type} {f g : Nat → Option α} {r : α} (h : Ev g r) (e : ∀ k, f k = g k) : Ev f r := by
  obtain ⟨K, hK⟩ := h
  exact ⟨K, fun k hk => (e k).trans (hK k hk)⟩
/-- A small hypergraph. -/
structure SmallP (n : Int) (es : List S54) : Prop where
  n1 : 1 ≤ n
  n2 : n ≤ 30
  len : es.length ≤ 60
  ok : okE n.toNat es
  co : okC es
  ta : ∀ e, e ∈ es → e.f1.length ≤ 4

section
variable (n : Int) (es : List S54)
theorem values_end (hco : okC es) (d : S27) (h0 : 0 ≤ d.f0) (h1 : d.f0 < (es.length : Int)) (acc : List S34) (hal : acc.length ≤ 1000000) (hok : ∀ v, v ∈ acc → okV v) :
    Ev (fun k => knuth_Combine.f k ((rd_T54 es d.f0).f2) acc) ((combV (rd_T54 es d.f0).f2 acc).f0, (combV (rd_T54 es d.f0).f2 acc).f1) ∧ Ev (fun k => emendateref29_Combine.f k ((rd_T54 es d.f0).f2) acc) ((combV (rd_T54 es d.f0).f2 acc).f0, (combV (rd_T54 es d.f0).f2 acc).f1) := by
  obtain ⟨i, hi⟩ : ∃ i : Nat, d.f0 = (i : Int) := ⟨d.f0.toNat, by omega⟩
  have hc := okC_rd hco i (by omega)
  rw [← hi] at hc
  exact ⟨Ev.of_mono (fun k => knuth_Combine.mono _ _ k) (knuth_Combine_eq _ acc hal), Ev.of_mono (fun k => emendateref29_Combine.mono _ _ k) (refCombine_eq _ acc hal hc.1 hc.2 hok)⟩
theorem loop_Value (hco : okC es) (d : S27) (h0 : 0 ≤ d.f0) (h1 : d.f0 < (es.length : Int)) (hl : d.f1.length = (rd_T54 es d.f0).f1.length) (hs : d.f1.length ≤ 1000000)
    (hk : ∀ j, j < d.f1.length → ∃ v : S34, Ev (fun k => derivation_Value.f k n es (d.f1.getD j z27).f0 (d.f1.getD j z27).f1) (v.f0, v.f1) ∧ Ev (fun k => emendateref30_Value.f k n es (d.f1.getD j z27).f0 (d.f1.getD j z27).f1) (v.f0, v.f1) ∧ Der es ((rd_T54 es d.f0).f1.getD j 0) v) :
    ∀ m i (acc : List S34), i + m = d.f1.length → acc.length = i → (∀ j, j < acc.length → Der es ((rd_T54 es d.f0).f1.getD j 0) (acc.getD j z34)) →
      ∃ v : S34, Ev (fun k => derivation_Value.l0 k acc d.f1 (d.f1.length : Int) (i : Int) n es d.f0 d.f1) (v.f0, v.f1) ∧ Ev (fun k => emendateref30_Value.l0 k acc (i : Int) n es d.f0 d.f1) (v.f0, v.f1) ∧ Der es (rd_T54 es d.f0).f0 v
  | 0, i, acc, hi, ha, hd => by
    have hok : ∀ v, v ∈ acc → okV v := all_of_getD acc z34 (fun j hj => (hd j hj).ok hco)
    obtain ⟨e1, e2⟩ := values_end es hco d h0 h1 acc (by omega) hok
    obtain ⟨q, hq⟩ : ∃ q : Nat, d.f0 = (q : Int) := ⟨d.f0.toNat, by omega⟩
    refine ⟨combV (rd_T54 es d.f0).f2 acc, ?_, ?_, ?_⟩
    · refine (Ev.bind (G := fun _ t => some (t.1, t.2)) e1 (Ev.const _)).succ (fun k => ?_)
      show derivation_Value.l0 (k + 1) _ _ _ _ _ _ _ _ = _
      rw [derivation_Value.l0, if_neg (by omega), if_pos h0, if_pos h1]
    · refine (Ev.bind (G := fun _ t => some (t.1, t.2)) e2 (Ev.const _)).succ (fun k => ?_)
      show emendateref30_Value.l0 (k + 1) _ _ _ _ _ _ = _
      rw [emendateref30_Value.l0, if_neg (by omega), if_pos h0, if_pos h1]
    · rw [hq] at hl hd ⊢
      exact Der.mk q (by omega) acc (by omega) hd
  | m + 1, i, acc, hi, ha, hd => by
    obtain ⟨v, ea, eb, hv⟩ := hk i (by omega)
    have hw := w64 i (by omega)
    obtain ⟨r, ec, ed, hr⟩ := loop_Value hco d h0 h1 hl hs hk m (i + 1) (acc ++ [v]) (by omega) (by rw [List.length_append, List.length_singleton]; omega) (fun j hj => by
      rw [List.length_append, List.length_singleton] at hj
      by_cases hji : j = acc.length
      · subst hji
        rw [List.getD_eq_getElem?_getD (l := acc ++ [v]), List.getElem?_append_right (Nat.le_refl _), Nat.sub_self]
        rw [ha]
        exact hv
      · have := hd j (by omega)
        rw [List.getD_eq_getElem?_getD (l := acc ++ [v]), List.getElem?_append_left (by omega), ← List.getD_eq_getElem?_getD]
        exact this)
    refine ⟨r, ?_, ?_, hr⟩
    · refine (Ev.bind (G := fun k t => if acc.length < 8796093022208 then derivation_Value.l0 k (acc ++ [(⟨t.1, t.2⟩ : S34)]) d.f1 (d.f1.length : Int) ((i + 1 : Nat) : Int) n es d.f0 d.f1 else none) ea (Ev.mp ec (fun k => if_pos (by omega)))).succ (fun k => ?_)
      show derivation_Value.l0 (k + 1) _ _ _ _ _ _ _ _ = _
      rw [derivation_Value.l0, if_pos (by omega), if_pos (by omega), if_pos (by omega), hw]
      rfl
    · refine (Ev.bind (G := fun k t => if acc.length < 8796093022208 then emendateref30_Value.l0 k (acc ++ [(⟨t.1, t.2⟩ : S34)]) ((i + 1 : Nat) : Int) n es d.f0 d.f1 else none) eb (Ev.mp ed (fun k => if_pos (by omega)))).succ (fun k => ?_)
      show emendateref30_Value.l0 (k + 1) _ _ _ _ _ _ = _
      rw [emendateref30_Value.l0, if_pos (by omega), if_pos (by omega), hw]
      rfl
/-- The value of a valid derivation, by both. -/
theorem both_Value (hco : okC es) (hta : ∀ e, e ∈ es → e.f1.length ≤ 1000000) {root : Int} {d : S27} (h : VD es root d) : ∃ v : S34, Ev (fun k => derivation_Value.f k n es d.f0 d.f1) (v.f0, v.f1) ∧ Ev (fun k => emendateref30_Value.f k n es d.f0 d.f1) (v.f0, v.f1) ∧ Der es root v := by
  induction h with
  | mk d h0 h1 hl hk ih =>
    have hs : (rd_T54 es d.f0).f1.length ≤ 1000000 := by
      refine hta _ ?_
      simp only [rd_T54]
      exact getD_mem _ _ _ (by omega)
    obtain ⟨v, ea, eb, hv⟩ := loop_Value n es hco d h0 h1 hl (by omega) ih d.f1.length 0 [] (by omega) rfl (fun j hj => absurd hj (by simp))
    refine ⟨v, ea.succ (fun k => ?_), eb.succ (fun k => ?_), hv⟩
    · show derivation_Value.f (k + 1) _ _ _ _ = _
      rw [derivation_Value.f]
      rfl
    · show emendateref30_Value.f (k + 1) _ _ _ _ = _
      rw [emendateref30_Value.f]
      rfl
end
/-- Size ends. -/
theorem loop_Size (d : S27) (hl : d.f1.length ≤ 9223372036854775807) (hk : ∀ j, j < d.f1.length → ∃ v, Ev (fun k => emendateref30_Size.f k (d.f1.getD j z27).f0 (d.f1.getD j z27).f1) v) : ∀ m i (x : Int), i + m = d.f1.length → ∃ v, Ev (fun k => emendateref30_Size.l0 k x (i : Int) d.f0 d.f1) v
  | 0, i, x, hi => by
    refine ⟨x, (Ev.const x).succ (fun k => ?_)⟩
    show emendateref30_Size.l0 (k + 1) _ _ _ _ = _
    rw [emendateref30_Size.l0, if_neg (by omega)]
  | m + 1, i, x, hi => by
    obtain ⟨v, ea⟩ := hk i (by omega)
    have hw := w64 i (by omega)
    obtain ⟨r, ec⟩ := loop_Size d hl hk m (i + 1) (wrap64 (x + v)) (by omega)
    refine ⟨r, (Ev.bind (G := fun k t => emendateref30_Size.l0 k (wrap64 (x + t)) ((i + 1 : Nat) : Int) d.f0 d.f1) ea ec).succ (fun k => ?_)⟩
    show emendateref30_Size.l0 (k + 1) _ _ _ _ = _
    rw [emendateref30_Size.l0, if_pos (by omega), if_pos (by omega), hw]
    rfl
theorem ev_Size {d : S27} (h : Fits27 d) : ∃ v, Ev (fun k => emendateref30_Size.f k d.f0 d.f1) v := by
  induction h with
  | mk d hf hl hk ih =>
    obtain ⟨v, ea⟩ := loop_Size d hl (fun j hj => ih _ (getD_mem _ _ _ hj)) d.f1.length 0 1 (by omega)
    refine ⟨v, ea.succ (fun k => ?_)⟩
    show emendateref30_Size.f (k + 1) _ _ = _
    rw [emendateref30_Size.f]
    rfl
section
variable (n : Int) (es : List S54)
/-- The reference's test of a hypergraph, its inner loop. -/
theorem loop_Valid27' (hl : es.length ≤ 9223372036854775807) (q : Nat) (hq : q < es.length) (ht : (rd_T54 es (q : Int)).f1.length ≤ 9223372036854775807) (a b c e0 : Int) {r : Bool} (hrest : Ev (fun k => emendateref27_Valid.l0 k ((q + 1 : Nat) : Int) n es) r) :
    ∀ m i, i + m = (rd_T54 es (q : Int)).f1.length → Ev (fun k => emendateref27_Valid.l1 k (q : Int) (i : Int) n es e0 (rd_T54 es (q : Int)).f1 a b c) (((rd_T54 es (q : Int)).f1.drop i).all (inR n) && r)
  | 0, i, hi => by
    have hi2 : i = (rd_T54 es (q : Int)).f1.length := by omega
    rw [hi2, List.drop_length]
    refine hrest.succ (fun k => ?_)
    show emendateref27_Valid.l1 (k + 1) _ _ _ _ _ _ _ _ _ = _
    rw [emendateref27_Valid.l1, if_neg (by omega), w64 q (by omega)]
  | m + 1, i, hi => by
    have hlt : i < (rd_T54 es (q : Int)).f1.length := by omega
    have hd := all_drop_cons (inR n) (rd_T54 es (q : Int)).f1 0 i hlt
    have hrd : rd (rd_T54 es (q : Int)).f1 (i : Int) = (rd_T54 es (q : Int)).f1.getD i 0 := rfl
    rw [hd]
    by_cases h1 : (rd_T54 es (q : Int)).f1.getD i 0 < 0
    · rw [show inR n ((rd_T54 es (q : Int)).f1.getD i 0) = false by unfold inR; rw [decide_eq_false (by omega)]; rfl]
      refine (Ev.const false).succ (fun k => ?_)
      show emendateref27_Valid.l1 (k + 1) _ _ _ _ _ _ _ _ _ = _
      rw [emendateref27_Valid.l1, if_pos (by omega), if_pos (by omega), hrd, if_pos h1]
    · by_cases h2 : (rd_T54 es (q : Int)).f1.getD i 0 ≥ n
      · rw [show inR n ((rd_T54 es (q : Int)).f1.getD i 0) = false by unfold inR; rw [decide_eq_false (show ¬ (rd_T54 es (q : Int)).f1.getD i 0 < n by omega), Bool.and_false]]
        refine (Ev.const false).succ (fun k => ?_)
        show emendateref27_Valid.l1 (k + 1) _ _ _ _ _ _ _ _ _ = _
        rw [emendateref27_Valid.l1, if_pos (by omega), if_pos (by omega), hrd, if_neg h1, if_pos h2]
      · rw [show inR n ((rd_T54 es (q : Int)).f1.getD i 0) = true by unfold inR; rw [decide_eq_true (show 0 ≤ (rd_T54 es (q : Int)).f1.getD i 0 by omega), decide_eq_true (show (rd_T54 es (q : Int)).f1.getD i 0 < n by omega)]; rfl, Bool.true_and]
        refine (loop_Valid27' hl q hq ht a b c e0 hrest m (i + 1) (by omega)).succ (fun k => ?_)
        show emendateref27_Valid.l1 (k + 1) _ _ _ _ _ _ _ _ _ = _
        rw [emendateref27_Valid.l1, if_pos (by omega), if_pos (by omega), hrd, if_neg h1, if_neg h2, w64 i (by omega)]
theorem loop_Valid27 (hl : es.length ≤ 9223372036854775807) (ht : ∀ e, e ∈ es → e.f1.length ≤ 9223372036854775807) : ∀ m i, i + m = es.length → Ev (fun k => emendateref27_Valid.l0 k (i : Int) n es) ((es.drop i).all (edgeOk n))
  | 0, i, hi => by
    have hi2 : i = es.length := by omega
    rw [hi2, List.drop_length]
    refine (Ev.const true).succ (fun k => ?_)
    show emendateref27_Valid.l0 (k + 1) _ _ _ = _
    rw [emendateref27_Valid.l0, if_neg (by omega)]
  | m + 1, i, hi => by
    have hlt : i < es.length := by omega
    have hd := all_drop_cons (edgeOk n) es (rd_T54 es (i : Int)) i hlt
    have hge : es.getD i (rd_T54 es (i : Int)) = rd_T54 es (i : Int) := by
      simp only [rd_T54, Int.toNat_natCast, List.getD_eq_getElem?_getD, List.getElem?_eq_getElem hlt, Option.getD_some]
    rw [hge] at hd
    have ih := loop_Valid27 hl ht m (i + 1) (by omega)
    have hin := loop_Valid27' n es hl i hlt (ht _ (by simp only [rd_T54, Int.toNat_natCast]; exact getD_mem _ _ _ hlt)) (rd_T54 es (i : Int)).f2 (rd_T54 es (i : Int)).f3.f0 (rd_T54 es (i : Int)).f3.f1 (rd_T54 es (i : Int)).f0 ih (rd_T54 es (i : Int)).f1.length 0 (by omega)
    rw [List.drop_zero] at hin
    have hE : edgeOk n (rd_T54 es (i : Int)) = ((inR n (rd_T54 es (i : Int)).f0 && (decide (0 ≤ (rd_T54 es (i : Int)).f2) && decide ((rd_T54 es (i : Int)).f2 ≤ 1099511627776))) && (rd_T54 es (i : Int)).f1.all (inR n)) := rfl
    rw [hd, hE]
    have bad : ∀ r : Bool, (inR n (rd_T54 es (i : Int)).f0 && (decide (0 ≤ (rd_T54 es (i : Int)).f2) && decide ((rd_T54 es (i : Int)).f2 ≤ 1099511627776))) = false → Ev (fun k => emendateref27_Valid.j4 k (i : Int) true n es (rd_T54 es (i : Int)).f0 (rd_T54 es (i : Int)).f1 (rd_T54 es (i : Int)).f2 (rd_T54 es (i : Int)).f3.f0 (rd_T54 es (i : Int)).f3.f1) (((inR n (rd_T54 es (i : Int)).f0 && (decide (0 ≤ (rd_T54 es (i : Int)).f2) && decide ((rd_T54 es (i : Int)).f2 ≤ 1099511627776))) && (rd_T54 es (i : Int)).f1.all (inR n)) && r) := fun r h => by
      rw [h]
      refine (Ev.const false).succ (fun k => ?_)
      rw [emendateref27_Valid.j4, if_pos rfl]
    refine Ev.succ (g := fun k => emendateref27_Valid.j3 k (i : Int) n es) ?_ (fun k => by show emendateref27_Valid.l0 (k + 1) _ _ _ = _; rw [emendateref27_Valid.l0, if_pos (by omega)])
    by_cases h1 : (rd_T54 es (i : Int)).f0 < 0
    · refine (bad _ (by unfold inR; rw [decide_eq_false (show ¬ 0 ≤ (rd_T54 es (i : Int)).f0 by omega)]; rfl)).succ (fun k => ?_)
      rw [emendateref27_Valid.j3, if_pos (by omega), if_pos (by omega), if_pos h1]
    · by_cases h2 : (rd_T54 es (i : Int)).f0 ≥ n
      · refine (bad _ (by unfold inR; rw [decide_eq_false (show ¬ (rd_T54 es (i : Int)).f0 < n by omega), Bool.and_false]; rfl)).succ (fun k => ?_)
        rw [emendateref27_Valid.j3, if_pos (by omega), if_pos (by omega), if_neg h1, if_pos h2]
      · by_cases h3 : (rd_T54 es (i : Int)).f2 < 0
        · refine (bad _ (by rw [decide_eq_false (show ¬ 0 ≤ (rd_T54 es (i : Int)).f2 by omega), Bool.false_and, Bool.and_false])).succ (fun k => ?_)
          rw [emendateref27_Valid.j3, if_pos (by omega), if_pos (by omega), if_neg h1, if_neg h2, if_pos h3]
        · by_cases h4 : (rd_T54 es (i : Int)).f2 > 1099511627776
          · refine (bad _ (by rw [decide_eq_false (show ¬ (rd_T54 es (i : Int)).f2 ≤ 1099511627776 by omega), Bool.and_false, Bool.and_false])).succ (fun k => ?_)
            rw [emendateref27_Valid.j3, if_pos (by omega), if_pos (by omega), if_neg h1, if_neg h2, if_neg h3, decide_eq_true h4]
          · rw [show (inR n (rd_T54 es (i : Int)).f0 && (decide (0 ≤ (rd_T54 es (i : Int)).f2) && decide ((rd_T54 es (i : Int)).f2 ≤ 1099511627776))) = true by unfold inR; rw [decide_eq_true (show 0 ≤ (rd_T54 es (i : Int)).f0 by omega), decide_eq_true (show (rd_T54 es (i : Int)).f0 < n by omega), decide_eq_true (show 0 ≤ (rd_T54 es (i : Int)).f2 by omega), decide_eq_true (show (rd_T54 es (i : Int)).f2 ≤ 1099511627776 by omega)]; rfl, Bool.true_and]
            refine Ev.succ (g := fun k => emendateref27_Valid.j4 k (i : Int) false n es (rd_T54 es (i : Int)).f0 (rd_T54 es (i : Int)).f1 (rd_T54 es (i : Int)).f2 (rd_T54 es (i : Int)).f3.f0 (rd_T54 es (i : Int)).f3.f1) (Ev.succ (g := fun k => emendateref27_Valid.j5 k (i : Int) n es (rd_T54 es (i : Int)).f0 (rd_T54 es (i : Int)).f1 (rd_T54 es (i : Int)).f2 (rd_T54 es (i : Int)).f3.f0 (rd_T54 es (i : Int)).f3.f1) (hin.succ (fun k => ?_)) (fun k => ?_)) (fun k => ?_)
            · rw [emendateref27_Valid.j5]; rfl
            · rw [emendateref27_Valid.j4, if_neg (by decide)]
            · rw [emendateref27_Valid.j3, if_pos (by omega), if_pos (by omega), if_neg h1, if_neg h2, if_neg h3, decide_eq_false h4]
/-- The reference's test of a hypergraph. -/
theorem ev_Valid27 (hl : es.length ≤ 9223372036854775807) (ht : ∀ e, e ∈ es → e.f1.length ≤ 9223372036854775807) : Ev (fun k => emendateref27_Valid.f k n es) (hyValid n es) := by
  have hv : hyValid n es = ((decide (1 ≤ n) && decide (n ≤ 1048576)) && es.all (edgeOk n)) := rfl
  have h0 := loop_Valid27 n es hl ht es.length 0 (by omega)
  rw [List.drop_zero] at h0
  have bad : Ev (fun k => emendateref27_Valid.j0 k true n es) false := (Ev.const false).succ (fun k => by rw [emendateref27_Valid.j0, if_pos rfl])
  by_cases h1 : n < 1
  · rw [hv, decide_eq_false (show ¬ 1 ≤ n by omega)]
    exact bad.mp (fun k => by rw [emendateref27_Valid.f, if_pos h1])
  · by_cases h2 : n > 1048576
    · rw [hv, decide_eq_false (show ¬ n ≤ 1048576 by omega), Bool.and_false]
      exact bad.mp (fun k => by rw [emendateref27_Valid.f, if_neg h1, decide_eq_true h2])
    · rw [hv, decide_eq_true (show 1 ≤ n by omega), decide_eq_true (show n ≤ 1048576 by omega)]
      have h3 : Ev (fun k => emendateref27_Valid.j0 k false n es) (es.all (edgeOk n)) := Ev.succ (g := fun k => emendateref27_Valid.j1 k n es) (h0.succ (fun k => by rw [emendateref27_Valid.j1]; rfl)) (fun k => by rw [emendateref27_Valid.j0, if_neg (by decide)])
      exact h3.mp (fun k => by rw [emendateref27_Valid.f, if_neg h1, decide_eq_false h2])
end
end Go.Proofs.Ytamimodkcbbpmaa.Pr
end
section
/- What a fair case is; the first law of chapter 30 as plain Lean. -/
namespace Go.Proofs.Ytamimodkcbbpmaa.Pr
open Go.RowKit Go.Proofs.YtamimodkcbbpmaaW.PrintWords Go.Proofs.YtamimodkcbbpmaaW.PrintLast
set_option linter.unusedVariables false
set_option linter.unusedSimpArgs false
section
variable (n : Int) (es : List S54)
theorem hyValid_iff : hyValid n es = true ↔ (1 ≤ n ∧ n ≤ 1048576) ∧ ∀ e, e ∈ es → ((0 ≤ e.f0 ∧ e.f0 < n) ∧ 0 ≤ e.f2 ∧ e.f2 ≤ 1099511627776) ∧ ∀ t, t ∈ e.f1 → 0 ≤ t ∧ t < n := by
  simp only [hyValid, edgeOk, inR, Bool.and_eq_true, decide_eq_true_eq, List.all_eq_true]
theorem SmallP.of (hn : n ≤ 30) (hl : es.length ≤ 60) (ht : ∀ e, e ∈ es → e.f1.length ≤ 4) (h : hyValid n es = true) : SmallP n es := by
  obtain ⟨⟨h1, h2⟩, h3⟩ := (hyValid_iff n es).1 h
  refine ⟨h1, hn, hl, fun e he => ?_, fun e he => (h3 e he).1.2, ht⟩
  have h4 := h3 e he
  have h5 := ht e he
  refine ⟨by have := h4.1.1; omega, fun t ht => by have := h4.2 t ht; omega, by omega⟩
theorem SmallP.valid {n : Int} {es : List S54} (h : SmallP n es) : hyValid n es = true := by
  have h1 := h.n1
  have h2 := h.n2
  refine (hyValid_iff n es).2 ⟨by omega, fun e he => ?_⟩
  have h4 := h.ok e he
  have h5 := h.co e he
  exact ⟨⟨by have := h4.1; omega, h5⟩, fun t ht => by have := h4.2.1 t ht; omega⟩
theorem loop_Small (hl : es.length ≤ 9223372036854775807) {r : Bool} (hv : Ev (fun k => emendateref27_Valid.f k n es) r) : ∀ m i, i + m = es.length → ∃ b, Ev (fun k => emendateref27_Small.l0 k (i : Int) n es) b ∧ (b = true ↔ (∀ j : Nat, i ≤ j → j < es.length → (rd_T54 es (j : Int)).f1.length ≤ 4) ∧ r = true)
  | 0, i, hi => by
    refine ⟨r, (Ev.bind (G := fun _ t => some t) hv (Ev.const r)).succ (fun k => ?_), ⟨fun h => ⟨fun j h1 h2 => absurd h2 (by omega), h⟩, fun h => h.2⟩⟩
    show emendateref27_Small.l0 (k + 1) _ _ _ = _
    rw [emendateref27_Small.l0, if_neg (by omega)]
  | m + 1, i, hi => by
    by_cases h4 : (rd_T54 es (i : Int)).f1.length ≤ 4
    · obtain ⟨b, eb, hb⟩ := loop_Small hl hv m (i + 1) (by omega)
      refine ⟨b, eb.succ (fun k => ?_), hb.trans ⟨fun h => ⟨fun j h1 h2 => ?_, h.2⟩, fun h => ⟨fun j h1 h2 => h.1 j (by omega) h2, h.2⟩⟩⟩
      · show emendateref27_Small.l0 (k + 1) _ _ _ = _
        rw [emendateref27_Small.l0, if_pos (by omega), if_pos (by omega), if_neg (by omega), w64 i (by omega)]
      · by_cases hj : j = i
        · subst hj; exact h4
        · exact h.1 j (by omega) h2
    · refine ⟨false, (Ev.const false).succ (fun k => ?_), ⟨fun h => (by cases h), fun h => absurd (h.1 i (Nat.le_refl _) (by omega)) h4⟩⟩
      show emendateref27_Small.l0 (k + 1) _ _ _ = _
      rw [emendateref27_Small.l0, if_pos (by omega), if_pos (by omega), if_pos (by omega)]
theorem ev_Small (hl : es.length ≤ 9223372036854775807) (ht : ∀ e, e ∈ es → e.f1.length ≤ 9223372036854775807) : ∃ b, Ev (fun k => emendateref27_Small.f k n es) b ∧ (b = true ↔ SmallP n es) := by
  have bad : Ev (fun k => emendateref27_Small.j0 k true n es) false := (Ev.const false).succ (fun k => by rw [emendateref27_Small.j0, if_pos rfl])
  by_cases h1 : n > 30
  · exact ⟨false, bad.mp (fun k => by rw [emendateref27_Small.f, if_pos h1]), ⟨fun h => (by cases h), fun h => absurd h.n2 (by omega)⟩⟩
  · by_cases h2 : (es.length : Int) > 60
    · exact ⟨false, bad.mp (fun k => by rw [emendateref27_Small.f, if_neg h1, decide_eq_true h2]), ⟨fun h => (by cases h), fun h => absurd h.len (by omega)⟩⟩
    · obtain ⟨b, eb, hb⟩ := loop_Small n es hl (ev_Valid27 n es hl ht) es.length 0 (by omega)
      have h3 : Ev (fun k => emendateref27_Small.j0 k false n es) b := Ev.succ (g := fun k => emendateref27_Small.j1 k n es) (eb.succ (fun k => by rw [emendateref27_Small.j1]; rfl)) (fun k => by rw [emendateref27_Small.j0, if_neg (by decide)])
      refine ⟨b, h3.mp (fun k => by rw [emendateref27_Small.f, if_neg h1, decide_eq_false h2]), hb.trans ⟨fun h => SmallP.of n es (by omega) (by omega) (fun e he => ?_) h.2, fun h => ⟨fun j _ hj => h.ta _ ?_, h.valid⟩⟩⟩
      · obtain ⟨j, hj, e1⟩ := List.mem_iff_getElem.1 he
        have := h.1 j (Nat.zero_le _) hj
        simp only [rd_T54, Int.toNat_natCast, List.getD_eq_getElem?_getD, List.getElem?_eq_getElem hj, Option.getD_some, e1] at this
        exact this
      · simp only [rd_T54, Int.toNat_natCast]
        exact getD_mem _ _ _ hj
theorem SmallP.refOk {n : Int} {es : List S54} (h : SmallP n es) : refOk n es = true := by
  have h1 := h.n1
  have h2 := h.n2
  have h3 := h.len
  refine (refOk_iff n es).2 ⟨⟨by omega, by omega, by omega, fun e he => ?_⟩, h.co⟩
  have h4 := h.ok e he
  have h5 := h.ta e he
  exact ⟨by have := h4.1; omega, fun t ht => by have := h4.2.1 t ht; omega, by omega⟩
theorem loop_Short (vs : List S34) (hl : vs.length ≤ 9223372036854775807) : ∀ m i, i + m = vs.length → ∃ b, Ev (fun k => emendateref30_Short.l0 k vs (i : Int)) b ∧ (b = true ↔ ∀ j : Nat, i ≤ j → j < vs.length → (rd_T34 vs (j : Int)).f1 ≤ 1000)
  | 0, i, hi => by
    refine ⟨true, (Ev.const true).succ (fun k => ?_), ⟨fun _ j h1 h2 => absurd h2 (by omega), fun _ => rfl⟩⟩
    show emendateref30_Short.l0 (k + 1) _ _ = _
    rw [emendateref30_Short.l0, if_neg (by omega)]
  | m + 1, i, hi => by
    by_cases h4 : (rd_T34 vs (i : Int)).f1 > 1000
    · refine ⟨false, (Ev.const false).succ (fun k => ?_), ⟨fun h => (by cases h), fun h => absurd (h i (Nat.le_refl _) (by omega)) (by omega)⟩⟩
      show emendateref30_Short.l0 (k + 1) _ _ = _
      rw [emendateref30_Short.l0, if_pos (by omega), if_pos (by omega), if_pos h4]
    · obtain ⟨b, eb, hb⟩ := loop_Short vs hl m (i + 1) (by omega)
      refine ⟨b, eb.succ (fun k => ?_), hb.trans ⟨fun h j h1 h2 => ?_, fun h j h1 h2 => h j (by omega) h2⟩⟩
      · show emendateref30_Short.l0 (k + 1) _ _ = _
        rw [emendateref30_Short.l0, if_pos (by omega), if_pos (by omega), if_neg h4, w64 i (by omega)]
      · by_cases hj : j = i
        · subst hj; omega
        · exact h j (by omega) h2
/-- A small hypergraph all of whose least values have sizes up to 1000. -/
structure ShortP (n : Int) (es : List S54) : Prop where
  small : SmallP n es
  short : ∀ j : Nat, (j : Int) < n → (rd_T34 (solV n.toNat es) (j : Int)).f1 ≤ 1000
theorem SmallP.solLen {n : Int} {es : List S54} (h : SmallP n es) : (solV n.toNat es).length = n.toNat := (endM_sol h.co h.ok (fun e he => by have := h.ta e he; omega) (by have := h.len; omega)).len
theorem ev_Short (hl : es.length ≤ 9223372036854775807) (ht : ∀ e, e ∈ es → e.f1.length ≤ 9223372036854775807) : ∃ b, Ev (fun k => emendateref30_Short.f k n es) b ∧ (b = true ↔ ShortP n es) := by
  obtain ⟨b, eb, hb⟩ := ev_Small n es hl ht
  cases b with
  | false => exact ⟨false, (Ev.bind (G := fun k t => if t = true then emendateref30_Short.j0 k n es else some false) eb (Ev.const false)).mp (fun k => rfl), ⟨fun h => (by cases h), fun h => hb.2 h.small⟩⟩
  | true =>
    have hs := hb.1 rfl
    have hv := hs.solLen
    have hn := hs.n2
    obtain ⟨c, ec, hc⟩ := loop_Short (solV n.toNat es) (by rw [hv]; omega) (solV n.toNat es).length 0 (by omega)
    have e2 : Ev (fun k => emendateref30_Short.j0 k n es) c := ec.succ (fun k => by
      rw [emendateref30_Short.j0, emendateref29_Solve.f, if_pos hs.refOk]
      rfl)
    refine ⟨c, (Ev.bind (G := fun k t => if t = true then emendateref30_Short.j0 k n es else some false) eb e2).mp (fun k => rfl), hc.trans ⟨fun h => ⟨hs, fun j hj => h j (Nat.zero_le _) (by rw [hv]; omega)⟩, fun h j _ hj => h.short j (by rw [hv] at hj; omega)⟩⟩
theorem ev_fair (hl : es.length ≤ 9223372036854775807) (ht : ∀ e, e ∈ es → e.f1.length ≤ 9223372036854775807) (r : Int) {d1 d2 d3 : S27} (h1 : Fits27 d1) (h2 : Fits27 d2) (h3 : Fits27 d3) :
    ∃ b, Ev (fun k => emendatelaw30_fair.f k n es r d1.f0 d1.f1 d2.f0 d2.f1 d3.f0 d3.f1) b ∧ (b = true → ShortP n es) := by
  obtain ⟨b, eb, hb⟩ := ev_Short n es hl ht
  obtain ⟨z1, e1⟩ := ev_Size h1
  obtain ⟨z2, e2⟩ := ev_Size h2
  obtain ⟨z3, e3⟩ := ev_Size h3
  cases b with
  | false => exact ⟨false, (Ev.bind (G := fun k t => if t = true then _ else some false) eb (Ev.const false)).mp (fun k => rfl), fun h => (by cases h)⟩
  | true =>
    have hs := hb.1 rfl
    suffices h : ∃ b, Ev (fun k => (emendateref30_Size.f k d1.f0 d1.f1).bind fun t242 => (if t242 ≤ 100 then ((emendateref30_Size.f k d2.f0 d2.f1).bind fun t243 => (if t243 ≤ 100 then ((emendateref30_Size.f k d3.f0 d3.f1).bind fun t244 => (some (decide (t244 ≤ 100)))) else (some false))) else (some false))) b by
      obtain ⟨b, h⟩ := h
      exact ⟨b, (Ev.bind (G := fun k t => if t = true then _ else some false) eb h).mp (fun k => rfl), fun _ => hs⟩
    by_cases c1 : z1 ≤ 100
    · by_cases c2 : z2 ≤ 100
      · exact ⟨_, Ev.bind (G := fun k t242 => if t242 ≤ 100 then _ else some false) e1 (Ev.mp (Ev.bind (G := fun k t243 => if t243 ≤ 100 then _ else some false) e2 (Ev.mp (Ev.bind (G := fun k t244 => some (decide (t244 ≤ 100))) e3 (Ev.const _)) (fun k => if_pos c2))) (fun k => if_pos c1))⟩
      · exact ⟨false, Ev.bind (G := fun k t242 => if t242 ≤ 100 then _ else some false) e1 (Ev.mp (Ev.bind (G := fun k t243 => if t243 ≤ 100 then _ else some false) e2 (Ev.mp (Ev.const false) (fun k => if_neg c2))) (fun k => if_pos c1))⟩
    · exact ⟨false, Ev.bind (G := fun k t242 => if t242 ≤ 100 then _ else some false) e1 (Ev.mp (Ev.const false) (fun k => if_neg c1))⟩
end
theorem Ev.join {α β : Type} {f : Nat → Option α} {g : Nat → Option β} {a : α} {b : β} (h : Ev f a) (k : Ev g b) : ∃ K, f K = some a ∧ g K = some b := by
  obtain ⟨K, hK⟩ := h
  obtain ⟨L, hL⟩ := k
  exact ⟨K + L, hK _ (by omega), hL _ (by omega)⟩
/-- The first law. -/
theorem lawA_true (n : Int) (l : List S54) (r : Int) (d1 d2 d3 : S27) (hl : l.length ≤ 9223372036854775807) (hf : ∀ e, e ∈ l → Fits54 e) (h1 : Fits27 d1) (h2 : Fits27 d2) (h3 : Fits27 d3) :
    ∃ K bf, emendatelaw30_fair.f K n l r d1.f0 d1.f1 d2.f0 d2.f1 d3.f0 d3.f1 = some bf ∧
      (bf = true → ∃ bv : Bool, emendateref30_Valid.f K n l r d1.f0 d1.f1 = some bv ∧ derivation_Valid.f K n l r d1.f0 d1.f1 = some bv ∧ (bv = true → ∃ v0 v1 : Int, derivation_Value.f K n l d1.f0 d1.f1 = some (v0, v1) ∧ emendateref30_Value.f K n l d1.f0 d1.f1 = some (v0, v1))) := by
  obtain ⟨bf, ⟨K0, hK0⟩, hb⟩ := ev_fair n l hl (fun e he => (hf e he).len) r h1 h2 h3
  cases bf with
  | false => exact ⟨K0, false, hK0 K0 (Nat.le_refl _), fun h => (by cases h)⟩
  | true =>
    have hs := (hb rfl).small
    obtain ⟨bv, ⟨K1, hK1⟩, ⟨K2, hK2⟩, hv⟩ := both_Valid n l d1 h1 r
    cases bv with
    | false => exact ⟨K0 + K1 + K2, true, hK0 _ (by omega), fun _ => ⟨false, hK2 _ (by omega), hK1 _ (by omega), fun h => (by cases h)⟩⟩
    | true =>
      obtain ⟨v, ⟨K3, hK3⟩, ⟨K4, hK4⟩, _⟩ := both_Value n l hs.co (fun e he => by have := hs.ta e he; omega) (hv.1 rfl)
      exact ⟨K0 + K1 + K2 + K3 + K4, true, hK0 _ (by omega), fun _ => ⟨true, hK2 _ (by omega), hK1 _ (by omega), fun _ => ⟨v.f0, v.f1, hK3 _ (by omega), hK4 _ (by omega)⟩⟩⟩
end Go.Proofs.Ytamimodkcbbpmaa.Pr
end
section
/- The first law of chapter 30: walk and plain law joined. -/
namespace Go.Proofs.Ytamimodkcbbpmaa.Pr
open Go.RowKit Go.Proofs.YtamimodkcbbpmaaW.PrintWords Go.Proofs.YtamimodkcbbpmaaW.PrintLast
theorem law30A_calls (n : Int) (A : Option Addr) (c : Nat) (l : List S54) (r : Int) (d1 : S27) (A1 : Option Addr) (k1 : Nat) (d2 : S27) (A2 : Option Addr) (k2 : Nat) (d3 : S27) (A3 : Option Addr) (k3 : Nat) (w : World)
    (hC : Kd.C k54 w A l.length l) (hc : l.length ≤ c) (hf : ∀ e, e ∈ l → Fits54 e) (hC1 : Kd.C k27 w A1 d1.f1.length d1.f1) (hc1 : d1.f1.length ≤ k1) (f1 : Fits27 d1) (hC2 : Kd.C k27 w A2 d2.f1.length d2.f1) (hc2 : d2.f1.length ≤ k2) (f2 : Fits27 d2) (hC3 : Kd.C k27 w A3 d3.f1.length d3.f1) (hc3 : d3.f1.length ≤ k3) (f3 : Fits27 d3) :
    Calls Try.prog 3 #[.agg #[.int .i64 n, .slice A l.length c, .int .i64 r, .int .i64 d1.f0, .slice A1 d1.f1.length k1, .int .i64 d2.f0, .slice A2 d2.f1.length k2, .int .i64 d3.f0, .slice A3 d3.f1.length k3]] w fun e w' => e = .returned (.bool true) ∧ Below w.heap.size w w' := by
  obtain ⟨K, bf, h1, h2⟩ := lawA_true n l r d1 d2 d3 hC.2.1 hf f1 f2 f3
  exact lawA_calls K n A c l r d1 A1 k1 d2 A2 k2 d3 A3 k3 w hC hc hC1 hc1 hC2 hc2 hC3 hc3 bf h1 h2
end Go.Proofs.Ytamimodkcbbpmaa.Pr
end
