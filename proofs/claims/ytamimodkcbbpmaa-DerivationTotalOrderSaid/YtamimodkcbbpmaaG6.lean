/- F34 F77 LA LB LC LD F60 F62 F63 LE: a part of the proof of the row of DerivationValidMatchesReference; no conditions. -/
import Derived.Test.YtamimodkcbbpmaaG2
import Derived.Test.YtamimodkcbbpmaaG3
section
/- Printed by a program of this session (a turned print of the kit's) out of the translation: each Go function as a Lean function, and the proof that the machine's call answers what it says. Lean checks it. -/
namespace Go.Proofs.Ytamimodkcbbpmaa.Pr
open Go.RowKit Go.Proofs.YtamimodkcbbpmaaW.PrintWords Go.Proofs.YtamimodkcbbpmaaW.PrintLast Go.Proofs.YtamimodkcbbpmaaW.PrintMore Go.Proofs.YtamimodkcbbpmaaXW
attribute [local go_sem] max2_int min2_int max_two min_two max_three min_three max_four min_four   -- for this text's walks alone
set_option linter.unusedVariables false
set_option linter.unusedSimpArgs false

/-! ### emendateref27_Valid: function 34 -/
mutual
def emendateref27_Valid.j0 : Nat → Bool → Int → List (S54) → Option (Bool)
  | 0, _, _, _ => none
  | k + 1, x13, x221000, x221001 => if x13 = true then (some false) else (emendateref27_Valid.j1 k x221000 x221001)
def emendateref27_Valid.j1 : Nat → Int → List (S54) → Option (Bool)
  | 0, _, _ => none
  | k + 1, x221000, x221001 => emendateref27_Valid.l0 k 0 x221000 x221001
def emendateref27_Valid.l0 : Nat → Int → Int → List (S54) → Option (Bool)
  | 0, _, _, _ => none
  | k + 1, x3, x221000, x221001 => if x3 < (x221001.length : Int) then (emendateref27_Valid.j3 k x3 x221000 x221001) else (some true)
def emendateref27_Valid.j3 : Nat → Int → Int → List (S54) → Option (Bool)
  | 0, _, _, _ => none
  | k + 1, x3, x221000, x221001 => if 0 ≤ x3 then (if x3 < (x221001.length : Int) then (if ((rd_T54 x221001 x3).f0) < 0 then (emendateref27_Valid.j4 k x3 true x221000 x221001 ((rd_T54 x221001 x3).f0) ((rd_T54 x221001 x3).f1) ((rd_T54 x221001 x3).f2) ((rd_T54 x221001 x3).f3.f0) ((rd_T54 x221001 x3).f3.f1)) else (if ((rd_T54 x221001 x3).f0) ≥ x221000 then (emendateref27_Valid.j4 k x3 true x221000 x221001 ((rd_T54 x221001 x3).f0) ((rd_T54 x221001 x3).f1) ((rd_T54 x221001 x3).f2) ((rd_T54 x221001 x3).f3.f0) ((rd_T54 x221001 x3).f3.f1)) else (if ((rd_T54 x221001 x3).f2) < 0 then (emendateref27_Valid.j4 k x3 true x221000 x221001 ((rd_T54 x221001 x3).f0) ((rd_T54 x221001 x3).f1) ((rd_T54 x221001 x3).f2) ((rd_T54 x221001 x3).f3.f0) ((rd_T54 x221001 x3).f3.f1)) else (emendateref27_Valid.j4 k x3 (decide (((rd_T54 x221001 x3).f2) > 1099511627776)) x221000 x221001 ((rd_T54 x221001 x3).f0) ((rd_T54 x221001 x3).f1) ((rd_T54 x221001 x3).f2) ((rd_T54 x221001 x3).f3.f0) ((rd_T54 x221001 x3).f3.f1))))) else (none)) else (none)
def emendateref27_Valid.j4 : Nat → Int → Bool → Int → List (S54) → Int → List Int → Int → Int → Int → Option (Bool)
  | 0, _, _, _, _, _, _, _, _, _ => none
  | k + 1, x3, x45, x221000, x221001, x223000, x223001, x223002, x223003, x223004 => if x45 = true then (some false) else (emendateref27_Valid.j5 k x3 x221000 x221001 x223000 x223001 x223002 x223003 x223004)
def emendateref27_Valid.j5 : Nat → Int → Int → List (S54) → Int → List Int → Int → Int → Int → Option (Bool)
  | 0, _, _, _, _, _, _, _, _ => none
  | k + 1, x3, x221000, x221001, x223000, x223001, x223002, x223003, x223004 => emendateref27_Valid.l1 k x3 0 x221000 x221001 x223000 x223001 x223002 x223003 x223004
def emendateref27_Valid.l1 : Nat → Int → Int → Int → List (S54) → Int → List Int → Int → Int → Int → Option (Bool)
  | 0, _, _, _, _, _, _, _, _, _ => none
  | k + 1, x3, x5, x221000, x221001, x223000, x223001, x223002, x223003, x223004 => if x5 < (x223001.length : Int) then (if 0 ≤ x5 then (if (rd x223001 x5) < 0 then (some false) else (if (rd x223001 x5) ≥ x221000 then (some false) else (emendateref27_Valid.l1 k x3 (wrap64 (x5 + 1)) x221000 x221001 x223000 x223001 x223002 x223003 x223004))) else (none)) else (emendateref27_Valid.l0 k (wrap64 (x3 + 1)) x221000 x221001)
end
def emendateref27_Valid.f (k : Nat) (a0_0 : Int) (l0_1 : List (S54)) : Option (Bool) := if a0_0 < 1 then (emendateref27_Valid.j0 k true a0_0 l0_1) else (emendateref27_Valid.j0 k (decide (a0_0 > 1048576)) a0_0 l0_1)
theorem emendateref27_Valid.mono_l : ∀ k, (∀ y0 y1 y2, LeO (emendateref27_Valid.j0 k y0 y1 y2) (emendateref27_Valid.j0 (k + 1) y0 y1 y2)) ∧ (∀ y0 y1, LeO (emendateref27_Valid.j1 k y0 y1) (emendateref27_Valid.j1 (k + 1) y0 y1)) ∧ (∀ y0 y1 y2, LeO (emendateref27_Valid.l0 k y0 y1 y2) (emendateref27_Valid.l0 (k + 1) y0 y1 y2)) ∧ (∀ y0 y1 y2, LeO (emendateref27_Valid.j3 k y0 y1 y2) (emendateref27_Valid.j3 (k + 1) y0 y1 y2)) ∧ (∀ y0 y1 y2 y3 y4 y5 y6 y7 y8, LeO (emendateref27_Valid.j4 k y0 y1 y2 y3 y4 y5 y6 y7 y8) (emendateref27_Valid.j4 (k + 1) y0 y1 y2 y3 y4 y5 y6 y7 y8)) ∧ (∀ y0 y1 y2 y3 y4 y5 y6 y7, LeO (emendateref27_Valid.j5 k y0 y1 y2 y3 y4 y5 y6 y7) (emendateref27_Valid.j5 (k + 1) y0 y1 y2 y3 y4 y5 y6 y7)) ∧ (∀ y0 y1 y2 y3 y4 y5 y6 y7 y8, LeO (emendateref27_Valid.l1 k y0 y1 y2 y3 y4 y5 y6 y7 y8) (emendateref27_Valid.l1 (k + 1) y0 y1 y2 y3 y4 y5 y6 y7 y8))
  | 0 => ⟨fun _ _ _ r h => by simp [emendateref27_Valid.j0] at h, fun _ _ r h => by simp [emendateref27_Valid.j1] at h, fun _ _ _ r h => by simp [emendateref27_Valid.l0] at h, fun _ _ _ r h => by simp [emendateref27_Valid.j3] at h, fun _ _ _ _ _ _ _ _ _ r h => by simp [emendateref27_Valid.j4] at h, fun _ _ _ _ _ _ _ _ r h => by simp [emendateref27_Valid.j5] at h, fun _ _ _ _ _ _ _ _ _ r h => by simp [emendateref27_Valid.l1] at h⟩
  | k + 1 => by
    obtain ⟨ih0, ih1, ih2, ih3, ih4, ih5, ih6⟩ := emendateref27_Valid.mono_l k
    refine ⟨?_, ?_, ?_, ?_, ?_, ?_, ?_⟩
    all_goals intros
    all_goals first | unfold emendateref27_Valid.j0 | unfold emendateref27_Valid.j1 | unfold emendateref27_Valid.l0 | unfold emendateref27_Valid.j3 | unfold emendateref27_Valid.j4 | unfold emendateref27_Valid.j5 | unfold emendateref27_Valid.l1
    all_goals
      repeat' first
      | (with_reducible exact ih0 _ _ _)
      | (with_reducible exact ih1 _ _)
      | (with_reducible exact ih2 _ _ _)
      | (with_reducible exact ih3 _ _ _)
      | (with_reducible exact ih4 _ _ _ _ _ _ _ _ _)
      | (with_reducible exact ih5 _ _ _ _ _ _ _ _)
      | (with_reducible exact ih6 _ _ _ _ _ _ _ _ _)
      | (with_reducible exact LeO.refl _)
      | (with_reducible exact LeO.none _)
      | (with_reducible refine LeO.ite ?_ ?_)
      | (with_reducible refine LeO.bind ?_ (fun _ => ?_))
      | exact ih0 _ _ _
      | exact ih1 _ _
      | exact ih2 _ _ _
      | exact ih3 _ _ _
      | exact ih4 _ _ _ _ _ _ _ _ _
      | exact ih5 _ _ _ _ _ _ _ _
      | exact ih6 _ _ _ _ _ _ _ _ _
      | exact LeO.none _
      | refine LeO.ite ?_ ?_
      | refine LeO.bind ?_ (fun _ => ?_)
theorem emendateref27_Valid.mono : ∀ a0 a1 k, LeO (emendateref27_Valid.f k a0 a1) (emendateref27_Valid.f (k + 1) a0 a1) := by
  intro a0 a1 k
  obtain ⟨ih0, ih1, ih2, ih3, ih4, ih5, ih6⟩ := emendateref27_Valid.mono_l k
  unfold emendateref27_Valid.f
  repeat' first
      | (with_reducible exact ih0 _ _ _)
      | (with_reducible exact ih1 _ _)
      | (with_reducible exact ih2 _ _ _)
      | (with_reducible exact ih3 _ _ _)
      | (with_reducible exact ih4 _ _ _ _ _ _ _ _ _)
      | (with_reducible exact ih5 _ _ _ _ _ _ _ _)
      | (with_reducible exact ih6 _ _ _ _ _ _ _ _ _)
      | (with_reducible exact LeO.refl _)
      | (with_reducible exact LeO.none _)
      | (with_reducible refine LeO.ite ?_ ?_)
      | (with_reducible refine LeO.bind ?_ (fun _ => ?_))
      | exact ih0 _ _ _
      | exact ih1 _ _
      | exact ih2 _ _ _
      | exact ih3 _ _ _
      | exact ih4 _ _ _ _ _ _ _ _ _
      | exact ih5 _ _ _ _ _ _ _ _
      | exact ih6 _ _ _ _ _ _ _ _ _
      | exact LeO.none _
      | refine LeO.ite ?_ ?_
      | refine LeO.bind ?_ (fun _ => ?_)
set_option maxHeartbeats 8000000 in
set_option maxRecDepth 100000 in
theorem emendateref27_Valid.calls (k : Nat) (a0_0 : Int) (A0_1 : Option Addr) (c0_1 : Nat) (l0_1 : List (S54)) (r : Bool) (w : World) (hr0_1 : Kd.C k54 w A0_1 l0_1.length l0_1) (hc0_1 : l0_1.length ≤ c0_1) (h : emendateref27_Valid.f k a0_0 l0_1 = some r) :
    Calls Try.prog 34 #[.agg #[.int .i64 a0_0, .slice A0_1 l0_1.length c0_1]] w fun e w' => e = .returned (.bool r) ∧ Below w.heap.size w w' := by
  have hu24 := Try.underlying24
  have hu54 := Try.underlying54
  have HR0_1 := Aside0.mk hr0_1
  have HC0_1 := Aside0.mk hc0_1
  clear hr0_1 hc0_1
  have HB := Aside0.mk (Below.refl w.heap.size w)
  have H : (if a0_0 < 1 then (emendateref27_Valid.j0 k true a0_0 l0_1) else (emendateref27_Valid.j0 k (decide (a0_0 > 1048576)) a0_0 l0_1)) = some r := h
  clear h
  have HC2 := Aside0.mk H
  clear H
  go_enter Try.func34, Try.ntmps34
  go_upto_region 1 with (first | ((with_reducible refine gate_dst (N := 1) rfl ?_); refine box_event ?hg (N := 1) ?hd (cs := #[.int .i64 a0_0, .slice A0_1 l0_1.length c0_1]) (t := 24) ?hr ?_; (case hd => rfl); (case hg => rfl); (case hr => first | (go_simp; done) | (go_simp; rfl)); intro gb220 hg w3 hbox hb; have n0_ := Aside0.mk (below_step (bel HB) hb); have n1_ := Aside0.mk (hbox); have n2_ := Aside0.mk ((by rw [hg]; exact (below_size (bel HB)) : w.heap.size ≤ gb220)); have n3_ := Aside0.mk ((by rw [hg]; exact (below_size (bel HB)) : w.heap.size ≤ gb220)); clear HB; have HB := n0_; have BK220 := n1_; have GW220 := n2_; have GE220 := n3_; clear n0_ n1_ n2_ n3_; clear hb hbox hg))
  repeat (go_quiet (first | ((with_reducible refine gate_dst (N := 1) rfl ?_); refine box_event ?hg (N := 1) ?hd (cs := #[.int .i64 a0_0, .slice A0_1 l0_1.length c0_1]) (t := 24) ?hr ?_; (case hd => rfl); (case hg => rfl); (case hr => first | (go_simp; done) | (go_simp; rfl)); intro gb220 hg w3 hbox hb; have n0_ := Aside0.mk (below_step (bel HB) hb); have n1_ := Aside0.mk (hbox); have n2_ := Aside0.mk ((by rw [hg]; exact (below_size (bel HB)) : w.heap.size ≤ gb220)); have n3_ := Aside0.mk ((by rw [hg]; exact (below_size (bel HB)) : w.heap.size ≤ gb220)); clear HB; have HB := n0_; have BK220 := n1_; have GW220 := n2_; have GE220 := n3_; clear n0_ n1_ n2_ n3_; clear hb hbox hg)); go_upto_region 1 with (first | ((with_reducible refine gate_dst (N := 1) rfl ?_); refine box_event ?hg (N := 1) ?hd (cs := #[.int .i64 a0_0, .slice A0_1 l0_1.length c0_1]) (t := 24) ?hr ?_; (case hd => rfl); (case hg => rfl); (case hr => first | (go_simp; done) | (go_simp; rfl)); intro gb220 hg w3 hbox hb; have n0_ := Aside0.mk (below_step (bel HB) hb); have n1_ := Aside0.mk (hbox); have n2_ := Aside0.mk ((by rw [hg]; exact (below_size (bel HB)) : w.heap.size ≤ gb220)); have n3_ := Aside0.mk ((by rw [hg]; exact (below_size (bel HB)) : w.heap.size ≤ gb220)); clear HB; have HB := n0_; have BK220 := n1_; have GW220 := n2_; have GE220 := n3_; clear n0_ n1_ n2_ n3_; clear hb hbox hg)))
  (try simp only [Act.put, List.setIfInBounds_toArray, List.set_cons_zero, List.set_cons_succ])
  go_cut [13] (fun v13 wc => ∃ (kq : Nat) (x13_1 : Bool), v13 = .bool x13_1 ∧ Aside0 (emendateref27_Valid.j0 kq x13_1 a0_0 l0_1 = some r) ∧ Aside0 (kq ≤ k) ∧ Aside0 (wc.heap[gb220]? = some (.cells #[.int .i64 a0_0, (.slice A0_1 l0_1.length c0_1)] 24 (0, 0))) ∧ Aside0 (Below w.heap.size w wc))
  case first =>
    have H := HC2.out
    clear HC2
    by_cases c4 : a0_0 < 1
    · rw [if_pos c4] at H
      have c4b0 : decide (a0_0 < 1) = true := decide_eq_true c4
      clear c4
      (first | rw [c4b0] | (simp only [i64_w, i32_w]; rw [c4b0]) | skip)
      have H' := Aside0.mk H
      clear H
      have hcz5_0 : w3.cell? ⟨gb220, 0, none⟩ = some (.int .i64 a0_0) := (blk_cell BK220.out 0).trans rfl
      have hcz5_1 : w3.cell? ⟨gb220, 1, none⟩ = some (.slice A0_1 l0_1.length c0_1) := (blk_cell BK220.out 1).trans rfl
      have hfz5_0 := blk_frozen BK220.out 0
      have hfz5_1 := blk_frozen BK220.out 1
      go_wp2
      repeat (go_quiet (fail); try go_wp2)
      go_meet
      case rel => exact ⟨_, (true), (by first | rfl | (simp; done) | (simp [*]; done)), H', ⟨by first | omega | exact Nat.le_refl _⟩, ⟨by (with_reducible repeat (first | refine blk_drewN ?_ _ | refine blk_drew ?_ | refine blk_alloc ?_ _)); exact BK220.out⟩, ⟨bel HB⟩⟩
    · rw [if_neg c4] at H
      have c4b0 : decide (a0_0 < 1) = false := decide_eq_false c4
      clear c4
      (first | rw [c4b0] | (simp only [i64_w, i32_w]; rw [c4b0]) | skip)
      have H' := Aside0.mk H
      clear H
      have hcz6_0 : w3.cell? ⟨gb220, 0, none⟩ = some (.int .i64 a0_0) := (blk_cell BK220.out 0).trans rfl
      have hcz6_1 : w3.cell? ⟨gb220, 1, none⟩ = some (.slice A0_1 l0_1.length c0_1) := (blk_cell BK220.out 1).trans rfl
      have hfz6_0 := blk_frozen BK220.out 0
      have hfz6_1 := blk_frozen BK220.out 1
      go_wp2
      repeat (go_quiet (fail); try go_wp2)
      go_meet
      case rel => exact ⟨_, (decide (a0_0 > 1048576)), (by first | rfl | (simp; done) | (simp [*]; done)), H', ⟨by first | omega | exact Nat.le_refl _⟩, ⟨by (with_reducible repeat (first | refine blk_drewN ?_ _ | refine blk_drew ?_ | refine blk_alloc ?_ _)); exact BK220.out⟩, ⟨bel HB⟩⟩
  case rest =>
    clear HC2
    (try clear p2); (try clear c3); (try clear c4); (try clear c4b0); (try clear hcz5_0); (try clear hcz5_1); (try clear hcz6_0); (try clear hcz6_1); (try clear hfz5_0); (try clear hfz5_1); (try clear hfz6_0); (try clear hfz6_1)
    obtain ⟨kq, x13_1, rfl, HA, HJ1, BK220, HB⟩ := hcut
    cases kq with
    | zero => exact absurd HA.out (by simp [emendateref27_Valid.j0])
    | succ kj1 =>
      have H := HA.out
      clear HA
      simp only [emendateref27_Valid.j0] at H
      have HC7 := Aside0.mk H
      clear H
      go_upto_if 13 with (fail)
      repeat (go_quiet (fail); go_upto_if 13 with (fail))
      go_cut [] (fun wc => ∃ (kq : Nat), Aside0 (emendateref27_Valid.j1 kq a0_0 l0_1 = some r) ∧ Aside0 (kq ≤ kj1) ∧ Aside0 (wc.heap[gb220]? = some (.cells #[.int .i64 a0_0, (.slice A0_1 l0_1.length c0_1)] 24 (0, 0))) ∧ Aside0 (Below w.heap.size w wc))
      case first =>
        have H := HC7.out
        clear HC7
        by_cases c8 : x13_1 = true
        · subst c8
          have H1 : (some false) = some r := by rw [if_pos rfl] at H; exact H
          clear H
          have H := H1
          clear H1
          obtain rfl := Option.some.inj H
          go_wp2
          repeat (go_quiet (fail); try go_wp2)
          go_ret
          exact ⟨by first | rfl | (simp [errW_none, errW_some] <;> rfl) | (simp [*, errW_none, errW_some] <;> rfl), bel HB⟩
        · replace c8 := Bool.eq_false_iff.mpr c8
          subst c8
          have H1 : (emendateref27_Valid.j1 kj1 a0_0 l0_1) = some r := by rw [if_neg (show ¬ (false = true) by decide)] at H; exact H
          clear H
          have H := H1
          clear H1
          have H' := Aside0.mk H
          clear H
          go_wp2
          repeat (go_quiet (fail); try go_wp2)
          go_meet
          case rel => exact ⟨_, H', ⟨by have := HJ1.out; first | omega | exact Nat.le_refl _⟩, ⟨by (with_reducible repeat (first | refine blk_drewN ?_ _ | refine blk_drew ?_ | refine blk_alloc ?_ _)); exact BK220.out⟩, ⟨bel HB⟩⟩
      case rest =>
        clear HC7
        (try clear p2); (try clear c3); (try clear c4); (try clear c4b0); (try clear c8); (try clear hcz5_0); (try clear hcz5_1); (try clear hcz6_0); (try clear hcz6_1); (try clear hfz5_0); (try clear hfz5_1); (try clear hfz6_0); (try clear hfz6_1); (try clear p2)
        obtain ⟨kq, HA, HJ6, BK220, HB⟩ := hcut
        cases kq with
        | zero => exact absurd HA.out (by simp [emendateref27_Valid.j1])
        | succ kj6 =>
          have H := HA.out
          clear HA
          simp only [emendateref27_Valid.j1] at H
          have H' := Aside0.mk H
          clear H
          go_wp2
          repeat (go_quiet (fail); try go_wp2)
          go_loopg [3] kj6 (fun kq v3 w' => ∃ (x3_3 : Int), v3 = .int .i64 x3_3 ∧ Aside0 (emendateref27_Valid.l0 kq x3_3 a0_0 l0_1 = some r) ∧ Aside0 (kq ≤ kj6) ∧ Aside0 (w'.heap[gb220]? = some (.cells #[.int .i64 a0_0, (.slice A0_1 l0_1.length c0_1)] 24 (0, 0))) ∧ Aside0 (Below w.heap.size w w'))
          case atStart => exact ⟨(0), (by first | rfl | (simp; done) | (simp [*]; done)), H', ⟨Nat.le_refl _⟩, ⟨by (with_reducible repeat (first | refine blk_drewN ?_ _ | refine blk_drew ?_ | refine blk_alloc ?_ _)); exact BK220.out⟩, ⟨bel HB⟩⟩
          case round =>
            clear H'
            (try clear p2); (try clear c3); (try clear c4); (try clear c4b0); (try clear c8); (try clear hcz5_0); (try clear hcz5_1); (try clear hcz6_0); (try clear hcz6_1); (try clear hfz5_0); (try clear hfz5_1); (try clear hfz6_0); (try clear hfz6_1); (try clear p2)
            obtain ⟨x3_3, rfl, HA, HK3, BK220, HB⟩ := hrel
            cases gk with
            | zero => exact absurd HA.out (by simp [emendateref27_Valid.l0])
            | succ k3 =>
              have H := HA.out
              clear HA
              simp only [emendateref27_Valid.l0] at H
              have HC9 := Aside0.mk H
              clear H
              have hcz10_0 : wr.cell? ⟨gb220, 0, none⟩ = some (.int .i64 a0_0) := (blk_cell BK220.out 0).trans rfl
              have hcz10_1 : wr.cell? ⟨gb220, 1, none⟩ = some (.slice A0_1 l0_1.length c0_1) := (blk_cell BK220.out 1).trans rfl
              have hfz10_0 := blk_frozen BK220.out 0
              have hfz10_1 := blk_frozen BK220.out 1
              go_upto_if 18 with (fail)
              repeat (go_quiet (fail); go_upto_if 18 with (fail))
              go_cut [] (fun wc => ∃ (kq : Nat), Aside0 (emendateref27_Valid.j3 kq x3_3 a0_0 l0_1 = some r) ∧ Aside0 (kq ≤ k3) ∧ Aside0 (wc.heap[gb220]? = some (.cells #[.int .i64 a0_0, (.slice A0_1 l0_1.length c0_1)] 24 (0, 0))) ∧ Aside0 (Below w.heap.size w wc))
              case first =>
                have H := HC9.out
                clear HC9
                by_cases c11 : x3_3 < (l0_1.length : Int)
                · rw [if_pos c11] at H
                  have c11b0 : decide (x3_3 < (l0_1.length : Int)) = true := decide_eq_true c11
                  clear c11
                  (first | rw [c11b0] | (simp only [i64_w, i32_w]; rw [c11b0]) | skip)
                  have H' := Aside0.mk H
                  clear H
                  go_wp2
                  repeat (go_quiet (fail); try go_wp2)
                  go_meet
                  case rel => exact ⟨_, H', ⟨by have := HJ1.out; have := HJ6.out; have := HK3.out; first | omega | exact Nat.le_refl _⟩, ⟨by (with_reducible repeat (first | refine blk_drewN ?_ _ | refine blk_drew ?_ | refine blk_alloc ?_ _)); exact BK220.out⟩, ⟨bel HB⟩⟩
                · rw [if_neg c11] at H
                  have c11b0 : decide (x3_3 < (l0_1.length : Int)) = false := decide_eq_false c11
                  clear c11
                  (first | rw [c11b0] | (simp only [i64_w, i32_w]; rw [c11b0]) | skip)
                  obtain rfl := Option.some.inj H
                  go_wp2
                  repeat (go_quiet (fail); try go_wp2)
                  go_ret
                  exact ⟨by first | rfl | (simp [errW_none, errW_some] <;> rfl) | (simp [*, errW_none, errW_some] <;> rfl), bel HB⟩
              case rest =>
                clear HC9
                (try clear c1); (try clear p2); (try clear c3); (try clear c4); (try clear c4b0); (try clear c8); (try clear c11); (try clear c11b0); (try clear hcz10_0); (try clear hcz10_1); (try clear hcz5_0); (try clear hcz5_1); (try clear hcz6_0); (try clear hcz6_1); (try clear hfz10_0); (try clear hfz10_1); (try clear hfz5_0); (try clear hfz5_1); (try clear hfz6_0); (try clear hfz6_1); (try clear p2)
                obtain ⟨kq, HA, HJ8, BK220, HB⟩ := hcut
                cases kq with
                | zero => exact absurd HA.out (by simp [emendateref27_Valid.j3])
                | succ kj8 =>
                  have H := HA.out
                  clear HA
                  simp only [emendateref27_Valid.j3] at H
                  by_cases c12 : 0 ≤ x3_3
                  · rw [if_pos c12] at H
                    have c12b0 : decide (0 ≤ x3_3) = true := decide_eq_true c12
                    clear c12
                    by_cases c13 : x3_3 < (l0_1.length : Int)
                    · rw [if_pos c13] at H
                      have c13b0 : decide (x3_3 < (l0_1.length : Int)) = true := decide_eq_true c13
                      clear c13
                      have HC14 := Aside0.mk H
                      clear H
                      have hcz15_0 : wc.cell? ⟨gb220, 0, none⟩ = some (.int .i64 a0_0) := (blk_cell BK220.out 0).trans rfl
                      have hcz15_1 : wc.cell? ⟨gb220, 1, none⟩ = some (.slice A0_1 l0_1.length c0_1) := (blk_cell BK220.out 1).trans rfl
                      have hfz15_0 := blk_frozen BK220.out 0
                      have hfz15_1 := blk_frozen BK220.out 1
                      have p221 : 0 ≤ (x3_3 : Int) := of_decide_eq_true (by first | (with_reducible assumption) | assumption)
                      have q221 : x3_3 < (l0_1.length : Int) := of_decide_eq_true (by first | (with_reducible assumption) | assumption)
                      obtain ⟨ad221, A221_1, c221_1, e221, hx221_0, hx221_1, hx221_2, hx221_3, hx221_4, hl221_1, hi221_1⟩ := at_T54 HR0_1.out x3_3 p221 q221
                      cases e221
                      replace hx221_0 := (HB.out.cell (World.block_lt_of_cell? w _ hx221_0)).trans hx221_0
                      replace hx221_1 := (HB.out.cell (World.block_lt_of_cell? w _ hx221_1)).trans hx221_1
                      replace hx221_2 := (HB.out.cell (World.block_lt_of_cell? w _ hx221_2)).trans hx221_2
                      replace hx221_3 := (HB.out.cell (World.block_lt_of_cell? w _ hx221_3)).trans hx221_3
                      replace hx221_4 := (HB.out.cell (World.block_lt_of_cell? w _ hx221_4)).trans hx221_4
                      have HR221_1 := Aside0.mk hi221_1
                      have HC221_1 := Aside0.mk hl221_1
                      clear hi221_1 hl221_1
                      replace p221 := eq_true p221
                      replace q221 := eq_true q221
                      go_upto_region 7 with (first | ((with_reducible refine gate_dst (N := 4) rfl ?_); refine box_event ?hg (N := 4) ?hd (cs := #[.int .i64 0, .slice none 0 0, .int .i64 0, .int .i64 0, .int .i64 0]) (t := 54) ?hr ?_; (case hd => rfl); (case hg => rfl); (case hr => first | (go_simp; done) | (go_simp; rfl)); intro gb222 hg w16 hbox hb; have n0_ := Aside0.mk (blk_below (bk BK220) hb); have n1_ := Aside0.mk (below_step (bel HB) hb); have n2_ := Aside0.mk (hbox); have n3_ := Aside0.mk ((by rw [hg]; exact (below_size (bel HB)) : w.heap.size ≤ gb222)); have n4_ := Aside0.mk ((by rw [hg]; exact (below_size (bel HB)) : w.heap.size ≤ gb222)); have n5_ := Aside0.mk ((by rw [hg]; exact Nat.ne_of_lt (blk_lt (bk BK220)) : gb220 ≠ gb222)); have n6_ := Aside0.mk ((by rw [hg]; exact Nat.ne_of_gt (blk_lt (bk BK220)) : gb222 ≠ gb220)); clear BK220; clear HB; have BK220 := n0_; have HB := n1_; have BK222 := n2_; have GW222 := n3_; have GE222 := n4_; have NB220_222 := n5_; have NB222_220 := n6_; clear n0_ n1_ n2_ n3_ n4_ n5_ n6_; clear hb hbox hg; have hnb17 := NB222_220.out; have hnc17 := NB220_222.out; have hcz18_0 : w16.cell? ⟨gb222, 0, none⟩ = some (.int .i64 0) := (blk_cell BK222.out 0).trans rfl; have hcz18_1 : w16.cell? ⟨gb222, 1, none⟩ = some (.slice none 0 0) := (blk_cell BK222.out 1).trans rfl; have hcz18_2 : w16.cell? ⟨gb222, 2, none⟩ = some (.int .i64 0) := (blk_cell BK222.out 2).trans rfl; have hcz18_3 : w16.cell? ⟨gb222, 3, none⟩ = some (.int .i64 0) := (blk_cell BK222.out 3).trans rfl; have hcz18_4 : w16.cell? ⟨gb222, 4, none⟩ = some (.int .i64 0) := (blk_cell BK222.out 4).trans rfl; have hfz18_0 := blk_frozen BK222.out 0; have hfz18_1 := blk_frozen BK222.out 1; have hfz18_2 := blk_frozen BK222.out 2; have hfz18_3 := blk_frozen BK222.out 3; have hfz18_4 := blk_frozen BK222.out 4))
                      repeat (go_quiet (first | ((with_reducible refine gate_dst (N := 4) rfl ?_); refine box_event ?hg (N := 4) ?hd (cs := #[.int .i64 0, .slice none 0 0, .int .i64 0, .int .i64 0, .int .i64 0]) (t := 54) ?hr ?_; (case hd => rfl); (case hg => rfl); (case hr => first | (go_simp; done) | (go_simp; rfl)); intro gb222 hg w16 hbox hb; have n0_ := Aside0.mk (blk_below (bk BK220) hb); have n1_ := Aside0.mk (below_step (bel HB) hb); have n2_ := Aside0.mk (hbox); have n3_ := Aside0.mk ((by rw [hg]; exact (below_size (bel HB)) : w.heap.size ≤ gb222)); have n4_ := Aside0.mk ((by rw [hg]; exact (below_size (bel HB)) : w.heap.size ≤ gb222)); have n5_ := Aside0.mk ((by rw [hg]; exact Nat.ne_of_lt (blk_lt (bk BK220)) : gb220 ≠ gb222)); have n6_ := Aside0.mk ((by rw [hg]; exact Nat.ne_of_gt (blk_lt (bk BK220)) : gb222 ≠ gb220)); clear BK220; clear HB; have BK220 := n0_; have HB := n1_; have BK222 := n2_; have GW222 := n3_; have GE222 := n4_; have NB220_222 := n5_; have NB222_220 := n6_; clear n0_ n1_ n2_ n3_ n4_ n5_ n6_; clear hb hbox hg; have hnb17 := NB222_220.out; have hnc17 := NB220_222.out; have hcz18_0 : w16.cell? ⟨gb222, 0, none⟩ = some (.int .i64 0) := (blk_cell BK222.out 0).trans rfl; have hcz18_1 : w16.cell? ⟨gb222, 1, none⟩ = some (.slice none 0 0) := (blk_cell BK222.out 1).trans rfl; have hcz18_2 : w16.cell? ⟨gb222, 2, none⟩ = some (.int .i64 0) := (blk_cell BK222.out 2).trans rfl; have hcz18_3 : w16.cell? ⟨gb222, 3, none⟩ = some (.int .i64 0) := (blk_cell BK222.out 3).trans rfl; have hcz18_4 : w16.cell? ⟨gb222, 4, none⟩ = some (.int .i64 0) := (blk_cell BK222.out 4).trans rfl; have hfz18_0 := blk_frozen BK222.out 0; have hfz18_1 := blk_frozen BK222.out 1; have hfz18_2 := blk_frozen BK222.out 2; have hfz18_3 := blk_frozen BK222.out 3; have hfz18_4 := blk_frozen BK222.out 4)); go_upto_region 7 with (first | ((with_reducible refine gate_dst (N := 4) rfl ?_); refine box_event ?hg (N := 4) ?hd (cs := #[.int .i64 0, .slice none 0 0, .int .i64 0, .int .i64 0, .int .i64 0]) (t := 54) ?hr ?_; (case hd => rfl); (case hg => rfl); (case hr => first | (go_simp; done) | (go_simp; rfl)); intro gb222 hg w16 hbox hb; have n0_ := Aside0.mk (blk_below (bk BK220) hb); have n1_ := Aside0.mk (below_step (bel HB) hb); have n2_ := Aside0.mk (hbox); have n3_ := Aside0.mk ((by rw [hg]; exact (below_size (bel HB)) : w.heap.size ≤ gb222)); have n4_ := Aside0.mk ((by rw [hg]; exact (below_size (bel HB)) : w.heap.size ≤ gb222)); have n5_ := Aside0.mk ((by rw [hg]; exact Nat.ne_of_lt (blk_lt (bk BK220)) : gb220 ≠ gb222)); have n6_ := Aside0.mk ((by rw [hg]; exact Nat.ne_of_gt (blk_lt (bk BK220)) : gb222 ≠ gb220)); clear BK220; clear HB; have BK220 := n0_; have HB := n1_; have BK222 := n2_; have GW222 := n3_; have GE222 := n4_; have NB220_222 := n5_; have NB222_220 := n6_; clear n0_ n1_ n2_ n3_ n4_ n5_ n6_; clear hb hbox hg; have hnb17 := NB222_220.out; have hnc17 := NB220_222.out; have hcz18_0 : w16.cell? ⟨gb222, 0, none⟩ = some (.int .i64 0) := (blk_cell BK222.out 0).trans rfl; have hcz18_1 : w16.cell? ⟨gb222, 1, none⟩ = some (.slice none 0 0) := (blk_cell BK222.out 1).trans rfl; have hcz18_2 : w16.cell? ⟨gb222, 2, none⟩ = some (.int .i64 0) := (blk_cell BK222.out 2).trans rfl; have hcz18_3 : w16.cell? ⟨gb222, 3, none⟩ = some (.int .i64 0) := (blk_cell BK222.out 3).trans rfl; have hcz18_4 : w16.cell? ⟨gb222, 4, none⟩ = some (.int .i64 0) := (blk_cell BK222.out 4).trans rfl; have hfz18_0 := blk_frozen BK222.out 0; have hfz18_1 := blk_frozen BK222.out 1; have hfz18_2 := blk_frozen BK222.out 2; have hfz18_3 := blk_frozen BK222.out 3; have hfz18_4 := blk_frozen BK222.out 4)))
                      (try simp only [Act.put, List.setIfInBounds_toArray, List.set_cons_zero, List.set_cons_succ])
                      go_cut [45] (fun v45 wc => ∃ (kq : Nat) (x45_13 : Bool), v45 = .bool x45_13 ∧ Aside0 (emendateref27_Valid.j4 kq x3_3 x45_13 a0_0 l0_1 ((rd_T54 l0_1 x3_3).f0) ((rd_T54 l0_1 x3_3).f1) ((rd_T54 l0_1 x3_3).f2) ((rd_T54 l0_1 x3_3).f3.f0) ((rd_T54 l0_1 x3_3).f3.f1) = some r) ∧ Aside0 (kq ≤ kj8) ∧ Aside0 (wc.heap[gb220]? = some (.cells #[.int .i64 a0_0, (.slice (some ad221) l0_1.length c0_1)] 24 (0, 0))) ∧ Aside0 (wc.heap[gb222]? = some (.cells #[.int .i64 ((rd_T54 l0_1 x3_3).f0), (.slice A221_1 ((rd_T54 l0_1 x3_3).f1).length c221_1), .int .i64 ((rd_T54 l0_1 x3_3).f2), .int .i64 ((rd_T54 l0_1 x3_3).f3.f0), .int .i64 ((rd_T54 l0_1 x3_3).f3.f1)] 54 (0, 0))) ∧ Aside0 (Below w.heap.size w wc))
                      case first =>
                        have H := HC14.out
                        clear HC14
                        by_cases c19 : ((rd_T54 l0_1 x3_3).f0) < 0
                        · rw [if_pos c19] at H
                          have c19b0 : decide (((rd_T54 l0_1 x3_3).f0) < 0) = true := decide_eq_true c19
                          clear c19
                          (first | rw [c19b0] | (simp only [i64_w, i32_w]; rw [c19b0]) | skip)
                          have H' := Aside0.mk H
                          clear H
                          have hnb20 := NB222_220.out
                          have hnc20 := NB220_222.out
                          have hcz21_0 : w16.cell? ⟨gb222, 0, none⟩ = some (.int .i64 0) := (blk_cell BK222.out 0).trans rfl
                          have hcz21_1 : w16.cell? ⟨gb222, 1, none⟩ = some (.slice none 0 0) := (blk_cell BK222.out 1).trans rfl
                          have hcz21_2 : w16.cell? ⟨gb222, 2, none⟩ = some (.int .i64 0) := (blk_cell BK222.out 2).trans rfl
                          have hcz21_3 : w16.cell? ⟨gb222, 3, none⟩ = some (.int .i64 0) := (blk_cell BK222.out 3).trans rfl
                          have hcz21_4 : w16.cell? ⟨gb222, 4, none⟩ = some (.int .i64 0) := (blk_cell BK222.out 4).trans rfl
                          have hfz21_0 := blk_frozen BK222.out 0
                          have hfz21_1 := blk_frozen BK222.out 1
                          have hfz21_2 := blk_frozen BK222.out 2
                          have hfz21_3 := blk_frozen BK222.out 3
                          have hfz21_4 := blk_frozen BK222.out 4
                          go_wp2
                          repeat (go_quiet (fail); try go_wp2)
                          go_meet
                          case rel => exact ⟨_, (true), (by first | rfl | (simp; done) | (simp [*]; done)), H', ⟨by have := HJ1.out; have := HJ6.out; have := HK3.out; have := HJ8.out; first | omega | exact Nat.le_refl _⟩, ⟨by (with_reducible repeat (first | refine blk_drewN ?_ _ | refine blk_drew ?_ | refine blk_alloc ?_ _)); refine blk_far ?_ NB220_222.out _; (with_reducible repeat (first | refine blk_drewN ?_ _ | refine blk_drew ?_ | refine blk_alloc ?_ _)); refine blk_far ?_ NB220_222.out _; (with_reducible repeat (first | refine blk_drewN ?_ _ | refine blk_drew ?_ | refine blk_alloc ?_ _)); refine blk_far ?_ NB220_222.out _; (with_reducible repeat (first | refine blk_drewN ?_ _ | refine blk_drew ?_ | refine blk_alloc ?_ _)); refine blk_far ?_ NB220_222.out _; (with_reducible repeat (first | refine blk_drewN ?_ _ | refine blk_drew ?_ | refine blk_alloc ?_ _)); refine blk_far ?_ NB220_222.out _; (with_reducible repeat (first | refine blk_drewN ?_ _ | refine blk_drew ?_ | refine blk_alloc ?_ _)); exact BK220.out⟩, ⟨by (with_reducible repeat (first | refine blk_drewN ?_ _ | refine blk_drew ?_ | refine blk_alloc ?_ _)); refine blk_put (cs := #[.int .i64 ((rd_T54 l0_1 x3_3).f0), .slice A221_1 ((rd_T54 l0_1 x3_3).f1).length c221_1, .int .i64 ((rd_T54 l0_1 x3_3).f2), .int .i64 ((rd_T54 l0_1 x3_3).f3.f0), .int .i64 0]) ?_ 4 _ rfl; (with_reducible repeat (first | refine blk_drewN ?_ _ | refine blk_drew ?_ | refine blk_alloc ?_ _)); refine blk_put (cs := #[.int .i64 ((rd_T54 l0_1 x3_3).f0), .slice A221_1 ((rd_T54 l0_1 x3_3).f1).length c221_1, .int .i64 ((rd_T54 l0_1 x3_3).f2), .int .i64 0, .int .i64 0]) ?_ 3 _ rfl; (with_reducible repeat (first | refine blk_drewN ?_ _ | refine blk_drew ?_ | refine blk_alloc ?_ _)); refine blk_put (cs := #[.int .i64 ((rd_T54 l0_1 x3_3).f0), .slice A221_1 ((rd_T54 l0_1 x3_3).f1).length c221_1, .int .i64 0, .int .i64 0, .int .i64 0]) ?_ 2 _ rfl; (with_reducible repeat (first | refine blk_drewN ?_ _ | refine blk_drew ?_ | refine blk_alloc ?_ _)); refine blk_put (cs := #[.int .i64 ((rd_T54 l0_1 x3_3).f0), .slice none 0 0, .int .i64 0, .int .i64 0, .int .i64 0]) ?_ 1 _ rfl; (with_reducible repeat (first | refine blk_drewN ?_ _ | refine blk_drew ?_ | refine blk_alloc ?_ _)); refine blk_put (cs := #[.int .i64 0, .slice none 0 0, .int .i64 0, .int .i64 0, .int .i64 0]) ?_ 0 _ rfl; (with_reducible repeat (first | refine blk_drewN ?_ _ | refine blk_drew ?_ | refine blk_alloc ?_ _)); exact BK222.out⟩, ⟨bel HB⟩⟩
                        · rw [if_neg c19] at H
                          have c19b0 : decide (((rd_T54 l0_1 x3_3).f0) < 0) = false := decide_eq_false c19
                          clear c19
                          (first | rw [c19b0] | (simp only [i64_w, i32_w]; rw [c19b0]) | skip)
                          by_cases c22 : ((rd_T54 l0_1 x3_3).f0) ≥ a0_0
                          · rw [if_pos c22] at H
                            have c22b0 : decide (a0_0 ≤ ((rd_T54 l0_1 x3_3).f0)) = true := decide_eq_true c22
                            clear c22
                            have H' := Aside0.mk H
                            clear H
                            have hnb23 := NB222_220.out
                            have hnc23 := NB220_222.out
                            have hcz24_0 : w16.cell? ⟨gb222, 0, none⟩ = some (.int .i64 0) := (blk_cell BK222.out 0).trans rfl
                            have hcz24_1 : w16.cell? ⟨gb222, 1, none⟩ = some (.slice none 0 0) := (blk_cell BK222.out 1).trans rfl
                            have hcz24_2 : w16.cell? ⟨gb222, 2, none⟩ = some (.int .i64 0) := (blk_cell BK222.out 2).trans rfl
                            have hcz24_3 : w16.cell? ⟨gb222, 3, none⟩ = some (.int .i64 0) := (blk_cell BK222.out 3).trans rfl
                            have hcz24_4 : w16.cell? ⟨gb222, 4, none⟩ = some (.int .i64 0) := (blk_cell BK222.out 4).trans rfl
                            have hfz24_0 := blk_frozen BK222.out 0
                            have hfz24_1 := blk_frozen BK222.out 1
                            have hfz24_2 := blk_frozen BK222.out 2
                            have hfz24_3 := blk_frozen BK222.out 3
                            have hfz24_4 := blk_frozen BK222.out 4
                            have hcz25_0 : w16.cell? ⟨gb220, 0, none⟩ = some (.int .i64 a0_0) := (blk_cell BK220.out 0).trans rfl
                            have hcz25_1 : w16.cell? ⟨gb220, 1, none⟩ = some (.slice (some ad221) l0_1.length c0_1) := (blk_cell BK220.out 1).trans rfl
                            have hfz25_0 := blk_frozen BK220.out 0
                            have hfz25_1 := blk_frozen BK220.out 1
                            go_wp2
                            repeat (go_quiet (fail); try go_wp2)
                            go_meet
                            case rel => exact ⟨_, (true), (by first | rfl | (simp; done) | (simp [*]; done)), H', ⟨by have := HJ1.out; have := HJ6.out; have := HK3.out; have := HJ8.out; first | omega | exact Nat.le_refl _⟩, ⟨by (with_reducible repeat (first | refine blk_drewN ?_ _ | refine blk_drew ?_ | refine blk_alloc ?_ _)); refine blk_far ?_ NB220_222.out _; (with_reducible repeat (first | refine blk_drewN ?_ _ | refine blk_drew ?_ | refine blk_alloc ?_ _)); refine blk_far ?_ NB220_222.out _; (with_reducible repeat (first | refine blk_drewN ?_ _ | refine blk_drew ?_ | refine blk_alloc ?_ _)); refine blk_far ?_ NB220_222.out _; (with_reducible repeat (first | refine blk_drewN ?_ _ | refine blk_drew ?_ | refine blk_alloc ?_ _)); refine blk_far ?_ NB220_222.out _; (with_reducible repeat (first | refine blk_drewN ?_ _ | refine blk_drew ?_ | refine blk_alloc ?_ _)); refine blk_far ?_ NB220_222.out _; (with_reducible repeat (first | refine blk_drewN ?_ _ | refine blk_drew ?_ | refine blk_alloc ?_ _)); exact BK220.out⟩, ⟨by (with_reducible repeat (first | refine blk_drewN ?_ _ | refine blk_drew ?_ | refine blk_alloc ?_ _)); refine blk_put (cs := #[.int .i64 ((rd_T54 l0_1 x3_3).f0), .slice A221_1 ((rd_T54 l0_1 x3_3).f1).length c221_1, .int .i64 ((rd_T54 l0_1 x3_3).f2), .int .i64 ((rd_T54 l0_1 x3_3).f3.f0), .int .i64 0]) ?_ 4 _ rfl; (with_reducible repeat (first | refine blk_drewN ?_ _ | refine blk_drew ?_ | refine blk_alloc ?_ _)); refine blk_put (cs := #[.int .i64 ((rd_T54 l0_1 x3_3).f0), .slice A221_1 ((rd_T54 l0_1 x3_3).f1).length c221_1, .int .i64 ((rd_T54 l0_1 x3_3).f2), .int .i64 0, .int .i64 0]) ?_ 3 _ rfl; (with_reducible repeat (first | refine blk_drewN ?_ _ | refine blk_drew ?_ | refine blk_alloc ?_ _)); refine blk_put (cs := #[.int .i64 ((rd_T54 l0_1 x3_3).f0), .slice A221_1 ((rd_T54 l0_1 x3_3).f1).length c221_1, .int .i64 0, .int .i64 0, .int .i64 0]) ?_ 2 _ rfl; (with_reducible repeat (first | refine blk_drewN ?_ _ | refine blk_drew ?_ | refine blk_alloc ?_ _)); refine blk_put (cs := #[.int .i64 ((rd_T54 l0_1 x3_3).f0), .slice none 0 0, .int .i64 0, .int .i64 0, .int .i64 0]) ?_ 1 _ rfl; (with_reducible repeat (first | refine blk_drewN ?_ _ | refine blk_drew ?_ | refine blk_alloc ?_ _)); refine blk_put (cs := #[.int .i64 0, .slice none 0 0, .int .i64 0, .int .i64 0, .int .i64 0]) ?_ 0 _ rfl; (with_reducible repeat (first | refine blk_drewN ?_ _ | refine blk_drew ?_ | refine blk_alloc ?_ _)); exact BK222.out⟩, ⟨bel HB⟩⟩
                          · rw [if_neg c22] at H
                            have c22b0 : decide (a0_0 ≤ ((rd_T54 l0_1 x3_3).f0)) = false := decide_eq_false c22
                            clear c22
                            by_cases c26 : ((rd_T54 l0_1 x3_3).f2) < 0
                            · rw [if_pos c26] at H
                              have c26b0 : decide (((rd_T54 l0_1 x3_3).f2) < 0) = true := decide_eq_true c26
                              clear c26
                              have H' := Aside0.mk H
                              clear H
                              have hnb27 := NB222_220.out
                              have hnc27 := NB220_222.out
                              have hcz28_0 : w16.cell? ⟨gb222, 0, none⟩ = some (.int .i64 0) := (blk_cell BK222.out 0).trans rfl
                              have hcz28_1 : w16.cell? ⟨gb222, 1, none⟩ = some (.slice none 0 0) := (blk_cell BK222.out 1).trans rfl
                              have hcz28_2 : w16.cell? ⟨gb222, 2, none⟩ = some (.int .i64 0) := (blk_cell BK222.out 2).trans rfl
                              have hcz28_3 : w16.cell? ⟨gb222, 3, none⟩ = some (.int .i64 0) := (blk_cell BK222.out 3).trans rfl
                              have hcz28_4 : w16.cell? ⟨gb222, 4, none⟩ = some (.int .i64 0) := (blk_cell BK222.out 4).trans rfl
                              have hfz28_0 := blk_frozen BK222.out 0
                              have hfz28_1 := blk_frozen BK222.out 1
                              have hfz28_2 := blk_frozen BK222.out 2
                              have hfz28_3 := blk_frozen BK222.out 3
                              have hfz28_4 := blk_frozen BK222.out 4
                              have hcz29_0 : w16.cell? ⟨gb220, 0, none⟩ = some (.int .i64 a0_0) := (blk_cell BK220.out 0).trans rfl
                              have hcz29_1 : w16.cell? ⟨gb220, 1, none⟩ = some (.slice (some ad221) l0_1.length c0_1) := (blk_cell BK220.out 1).trans rfl
                              have hfz29_0 := blk_frozen BK220.out 0
                              have hfz29_1 := blk_frozen BK220.out 1
                              go_wp2
                              repeat (go_quiet (fail); try go_wp2)
                              go_meet
                              case rel => exact ⟨_, (true), (by first | rfl | (simp; done) | (simp [*]; done)), H', ⟨by have := HJ1.out; have := HJ6.out; have := HK3.out; have := HJ8.out; first | omega | exact Nat.le_refl _⟩, ⟨by (with_reducible repeat (first | refine blk_drewN ?_ _ | refine blk_drew ?_ | refine blk_alloc ?_ _)); refine blk_far ?_ NB220_222.out _; (with_reducible repeat (first | refine blk_drewN ?_ _ | refine blk_drew ?_ | refine blk_alloc ?_ _)); refine blk_far ?_ NB220_222.out _; (with_reducible repeat (first | refine blk_drewN ?_ _ | refine blk_drew ?_ | refine blk_alloc ?_ _)); refine blk_far ?_ NB220_222.out _; (with_reducible repeat (first | refine blk_drewN ?_ _ | refine blk_drew ?_ | refine blk_alloc ?_ _)); refine blk_far ?_ NB220_222.out _; (with_reducible repeat (first | refine blk_drewN ?_ _ | refine blk_drew ?_ | refine blk_alloc ?_ _)); refine blk_far ?_ NB220_222.out _; (with_reducible repeat (first | refine blk_drewN ?_ _ | refine blk_drew ?_ | refine blk_alloc ?_ _)); exact BK220.out⟩, ⟨by (with_reducible repeat (first | refine blk_drewN ?_ _ | refine blk_drew ?_ | refine blk_alloc ?_ _)); refine blk_put (cs := #[.int .i64 ((rd_T54 l0_1 x3_3).f0), .slice A221_1 ((rd_T54 l0_1 x3_3).f1).length c221_1, .int .i64 ((rd_T54 l0_1 x3_3).f2), .int .i64 ((rd_T54 l0_1 x3_3).f3.f0), .int .i64 0]) ?_ 4 _ rfl; (with_reducible repeat (first | refine blk_drewN ?_ _ | refine blk_drew ?_ | refine blk_alloc ?_ _)); refine blk_put (cs := #[.int .i64 ((rd_T54 l0_1 x3_3).f0), .slice A221_1 ((rd_T54 l0_1 x3_3).f1).length c221_1, .int .i64 ((rd_T54 l0_1 x3_3).f2), .int .i64 0, .int .i64 0]) ?_ 3 _ rfl; (with_reducible repeat (first | refine blk_drewN ?_ _ | refine blk_drew ?_ | refine blk_alloc ?_ _)); refine blk_put (cs := #[.int .i64 ((rd_T54 l0_1 x3_3).f0), .slice A221_1 ((rd_T54 l0_1 x3_3).f1).length c221_1, .int .i64 0, .int .i64 0, .int .i64 0]) ?_ 2 _ rfl; (with_reducible repeat (first | refine blk_drewN ?_ _ | refine blk_drew ?_ | refine blk_alloc ?_ _)); refine blk_put (cs := #[.int .i64 ((rd_T54 l0_1 x3_3).f0), .slice none 0 0, .int .i64 0, .int .i64 0, .int .i64 0]) ?_ 1 _ rfl; (with_reducible repeat (first | refine blk_drewN ?_ _ | refine blk_drew ?_ | refine blk_alloc ?_ _)); refine blk_put (cs := #[.int .i64 0, .slice none 0 0, .int .i64 0, .int .i64 0, .int .i64 0]) ?_ 0 _ rfl; (with_reducible repeat (first | refine blk_drewN ?_ _ | refine blk_drew ?_ | refine blk_alloc ?_ _)); exact BK222.out⟩, ⟨bel HB⟩⟩
                            · rw [if_neg c26] at H
                              have c26b0 : decide (((rd_T54 l0_1 x3_3).f2) < 0) = false := decide_eq_false c26
                              clear c26
                              have H' := Aside0.mk H
                              clear H
                              have hnb30 := NB222_220.out
                              have hnc30 := NB220_222.out
                              have hcz31_0 : w16.cell? ⟨gb222, 0, none⟩ = some (.int .i64 0) := (blk_cell BK222.out 0).trans rfl
                              have hcz31_1 : w16.cell? ⟨gb222, 1, none⟩ = some (.slice none 0 0) := (blk_cell BK222.out 1).trans rfl
                              have hcz31_2 : w16.cell? ⟨gb222, 2, none⟩ = some (.int .i64 0) := (blk_cell BK222.out 2).trans rfl
                              have hcz31_3 : w16.cell? ⟨gb222, 3, none⟩ = some (.int .i64 0) := (blk_cell BK222.out 3).trans rfl
                              have hcz31_4 : w16.cell? ⟨gb222, 4, none⟩ = some (.int .i64 0) := (blk_cell BK222.out 4).trans rfl
                              have hfz31_0 := blk_frozen BK222.out 0
                              have hfz31_1 := blk_frozen BK222.out 1
                              have hfz31_2 := blk_frozen BK222.out 2
                              have hfz31_3 := blk_frozen BK222.out 3
                              have hfz31_4 := blk_frozen BK222.out 4
                              have hcz32_0 : w16.cell? ⟨gb220, 0, none⟩ = some (.int .i64 a0_0) := (blk_cell BK220.out 0).trans rfl
                              have hcz32_1 : w16.cell? ⟨gb220, 1, none⟩ = some (.slice (some ad221) l0_1.length c0_1) := (blk_cell BK220.out 1).trans rfl
                              have hfz32_0 := blk_frozen BK220.out 0
                              have hfz32_1 := blk_frozen BK220.out 1
                              go_wp2
                              repeat (go_quiet (fail); try go_wp2)
                              go_meet
                              case rel => exact ⟨_, (decide (((rd_T54 l0_1 x3_3).f2) > 1099511627776)), (by first | rfl | (simp; done) | (simp [*]; done)), H', ⟨by have := HJ1.out; have := HJ6.out; have := HK3.out; have := HJ8.out; first | omega | exact Nat.le_refl _⟩, ⟨by (with_reducible repeat (first | refine blk_drewN ?_ _ | refine blk_drew ?_ | refine blk_alloc ?_ _)); refine blk_far ?_ NB220_222.out _; (with_reducible repeat (first | refine blk_drewN ?_ _ | refine blk_drew ?_ | refine blk_alloc ?_ _)); refine blk_far ?_ NB220_222.out _; (with_reducible repeat (first | refine blk_drewN ?_ _ | refine blk_drew ?_ | refine blk_alloc ?_ _)); refine blk_far ?_ NB220_222.out _; (with_reducible repeat (first | refine blk_drewN ?_ _ | refine blk_drew ?_ | refine blk_alloc ?_ _)); refine blk_far ?_ NB220_222.out _; (with_reducible repeat (first | refine blk_drewN ?_ _ | refine blk_drew ?_ | refine blk_alloc ?_ _)); refine blk_far ?_ NB220_222.out _; (with_reducible repeat (first | refine blk_drewN ?_ _ | refine blk_drew ?_ | refine blk_alloc ?_ _)); exact BK220.out⟩, ⟨by (with_reducible repeat (first | refine blk_drewN ?_ _ | refine blk_drew ?_ | refine blk_alloc ?_ _)); refine blk_put (cs := #[.int .i64 ((rd_T54 l0_1 x3_3).f0), .slice A221_1 ((rd_T54 l0_1 x3_3).f1).length c221_1, .int .i64 ((rd_T54 l0_1 x3_3).f2), .int .i64 ((rd_T54 l0_1 x3_3).f3.f0), .int .i64 0]) ?_ 4 _ rfl; (with_reducible repeat (first | refine blk_drewN ?_ _ | refine blk_drew ?_ | refine blk_alloc ?_ _)); refine blk_put (cs := #[.int .i64 ((rd_T54 l0_1 x3_3).f0), .slice A221_1 ((rd_T54 l0_1 x3_3).f1).length c221_1, .int .i64 ((rd_T54 l0_1 x3_3).f2), .int .i64 0, .int .i64 0]) ?_ 3 _ rfl; (with_reducible repeat (first | refine blk_drewN ?_ _ | refine blk_drew ?_ | refine blk_alloc ?_ _)); refine blk_put (cs := #[.int .i64 ((rd_T54 l0_1 x3_3).f0), .slice A221_1 ((rd_T54 l0_1 x3_3).f1).length c221_1, .int .i64 0, .int .i64 0, .int .i64 0]) ?_ 2 _ rfl; (with_reducible repeat (first | refine blk_drewN ?_ _ | refine blk_drew ?_ | refine blk_alloc ?_ _)); refine blk_put (cs := #[.int .i64 ((rd_T54 l0_1 x3_3).f0), .slice none 0 0, .int .i64 0, .int .i64 0, .int .i64 0]) ?_ 1 _ rfl; (with_reducible repeat (first | refine blk_drewN ?_ _ | refine blk_drew ?_ | refine blk_alloc ?_ _)); refine blk_put (cs := #[.int .i64 0, .slice none 0 0, .int .i64 0, .int .i64 0, .int .i64 0]) ?_ 0 _ rfl; (with_reducible repeat (first | refine blk_drewN ?_ _ | refine blk_drew ?_ | refine blk_alloc ?_ _)); exact BK222.out⟩, ⟨bel HB⟩⟩
                      case rest =>
                        clear HC14
                        (try clear c1); (try clear c2); (try clear p2); (try clear q2); (try clear hx2); (try clear c3); (try clear c4); (try clear c4b0); (try clear c8); (try clear c11); (try clear c11b0); (try clear c12); (try clear c12b0); (try clear c13); (try clear c13b0); (try clear c17); (try clear c19); (try clear c19b0); (try clear c20); (try clear c22); (try clear c22b0); (try clear p22); (try clear q22); (try clear hx22); (try clear c23); (try clear c26); (try clear c26b0); (try clear c27); (try clear c30); (try clear hcz10_0); (try clear hcz10_1); (try clear hcz15_0); (try clear hcz15_1); (try clear hcz18_0); (try clear hcz18_1); (try clear hcz18_2); (try clear hcz18_3); (try clear hcz18_4); (try clear hcz21_0); (try clear hcz21_1); (try clear hcz21_2); (try clear hcz21_3); (try clear hcz21_4); (try clear hcz24_0); (try clear hcz24_1); (try clear hcz24_2); (try clear hcz24_3); (try clear hcz24_4); (try clear hcz25_0); (try clear hcz25_1); (try clear hcz28_0); (try clear hcz28_1); (try clear hcz28_2); (try clear hcz28_3); (try clear hcz28_4); (try clear hcz29_0); (try clear hcz29_1); (try clear hcz31_0); (try clear hcz31_1); (try clear hcz31_2); (try clear hcz31_3); (try clear hcz31_4); (try clear hcz32_0); (try clear hcz32_1); (try clear hcz5_0); (try clear hcz5_1); (try clear hcz6_0); (try clear hcz6_1); (try clear hfz10_0); (try clear hfz10_1); (try clear hfz15_0); (try clear hfz15_1); (try clear hfz18_0); (try clear hfz18_1); (try clear hfz18_2); (try clear hfz18_3); (try clear hfz18_4); (try clear hfz21_0); (try clear hfz21_1); (try clear hfz21_2); (try clear hfz21_3); (try clear hfz21_4); (try clear hfz24_0); (try clear hfz24_1); (try clear hfz24_2); (try clear hfz24_3); (try clear hfz24_4); (try clear hfz25_0); (try clear hfz25_1); (try clear hfz28_0); (try clear hfz28_1); (try clear hfz28_2); (try clear hfz28_3); (try clear hfz28_4); (try clear hfz29_0); (try clear hfz29_1); (try clear hfz31_0); (try clear hfz31_1); (try clear hfz31_2); (try clear hfz31_3); (try clear hfz31_4); (try clear hfz32_0); (try clear hfz32_1); (try clear hfz5_0); (try clear hfz5_1); (try clear hfz6_0); (try clear hfz6_1); (try clear hx221_0); (try clear hx221_1); (try clear hx221_2); (try clear hx221_3); (try clear hx221_4); (try clear p2); (try clear p221); (try clear q221)
                        obtain ⟨kq, x45_13, rfl, HA, HJ13, BK220, BK222, HB⟩ := hcut
                        cases kq with
                        | zero => exact absurd HA.out (by simp [emendateref27_Valid.j4])
                        | succ kj13 =>
                          have H := HA.out
                          clear HA
                          simp only [emendateref27_Valid.j4] at H
                          have HC33 := Aside0.mk H
                          clear H
                          go_upto_if 45 with (fail)
                          repeat (go_quiet (fail); go_upto_if 45 with (fail))
                          go_cut [] (fun wc => ∃ (kq : Nat), Aside0 (emendateref27_Valid.j5 kq x3_3 a0_0 l0_1 ((rd_T54 l0_1 x3_3).f0) ((rd_T54 l0_1 x3_3).f1) ((rd_T54 l0_1 x3_3).f2) ((rd_T54 l0_1 x3_3).f3.f0) ((rd_T54 l0_1 x3_3).f3.f1) = some r) ∧ Aside0 (kq ≤ kj13) ∧ Aside0 (wc.heap[gb220]? = some (.cells #[.int .i64 a0_0, (.slice (some ad221) l0_1.length c0_1)] 24 (0, 0))) ∧ Aside0 (wc.heap[gb222]? = some (.cells #[.int .i64 ((rd_T54 l0_1 x3_3).f0), (.slice A221_1 ((rd_T54 l0_1 x3_3).f1).length c221_1), .int .i64 ((rd_T54 l0_1 x3_3).f2), .int .i64 ((rd_T54 l0_1 x3_3).f3.f0), .int .i64 ((rd_T54 l0_1 x3_3).f3.f1)] 54 (0, 0))) ∧ Aside0 (Below w.heap.size w wc))
                          case first =>
                            have H := HC33.out
                            clear HC33
                            by_cases c34 : x45_13 = true
                            · subst c34
                              have H1 : (some false) = some r := by rw [if_pos rfl] at H; exact H
                              clear H
                              have H := H1
                              clear H1
                              obtain rfl := Option.some.inj H
                              go_wp2
                              repeat (go_quiet (fail); try go_wp2)
                              go_ret
                              exact ⟨by first | rfl | (simp [errW_none, errW_some] <;> rfl) | (simp [*, errW_none, errW_some] <;> rfl), bel HB⟩
                            · replace c34 := Bool.eq_false_iff.mpr c34
                              subst c34
                              have H1 : (emendateref27_Valid.j5 kj13 x3_3 a0_0 l0_1 ((rd_T54 l0_1 x3_3).f0) ((rd_T54 l0_1 x3_3).f1) ((rd_T54 l0_1 x3_3).f2) ((rd_T54 l0_1 x3_3).f3.f0) ((rd_T54 l0_1 x3_3).f3.f1)) = some r := by rw [if_neg (show ¬ (false = true) by decide)] at H; exact H
                              clear H
                              have H := H1
                              clear H1
                              have H' := Aside0.mk H
                              clear H
                              go_wp2
                              repeat (go_quiet (fail); try go_wp2)
                              go_meet
                              case rel => exact ⟨_, H', ⟨by have := HJ1.out; have := HJ6.out; have := HK3.out; have := HJ8.out; have := HJ13.out; first | omega | exact Nat.le_refl _⟩, ⟨by (with_reducible repeat (first | refine blk_drewN ?_ _ | refine blk_drew ?_ | refine blk_alloc ?_ _)); exact BK220.out⟩, ⟨by (with_reducible repeat (first | refine blk_drewN ?_ _ | refine blk_drew ?_ | refine blk_alloc ?_ _)); exact BK222.out⟩, ⟨bel HB⟩⟩
                          case rest =>
                            clear HC33
                            (try clear c1); (try clear c2); (try clear p2); (try clear q2); (try clear hx2); (try clear c3); (try clear c4); (try clear c4b0); (try clear c8); (try clear c11); (try clear c11b0); (try clear c12); (try clear c12b0); (try clear c13); (try clear c13b0); (try clear c17); (try clear c19); (try clear c19b0); (try clear c20); (try clear c22); (try clear c22b0); (try clear p22); (try clear q22); (try clear hx22); (try clear c23); (try clear c26); (try clear c26b0); (try clear c27); (try clear c30); (try clear c34); (try clear hcz10_0); (try clear hcz10_1); (try clear hcz15_0); (try clear hcz15_1); (try clear hcz18_0); (try clear hcz18_1); (try clear hcz18_2); (try clear hcz18_3); (try clear hcz18_4); (try clear hcz21_0); (try clear hcz21_1); (try clear hcz21_2); (try clear hcz21_3); (try clear hcz21_4); (try clear hcz24_0); (try clear hcz24_1); (try clear hcz24_2); (try clear hcz24_3); (try clear hcz24_4); (try clear hcz25_0); (try clear hcz25_1); (try clear hcz28_0); (try clear hcz28_1); (try clear hcz28_2); (try clear hcz28_3); (try clear hcz28_4); (try clear hcz29_0); (try clear hcz29_1); (try clear hcz31_0); (try clear hcz31_1); (try clear hcz31_2); (try clear hcz31_3); (try clear hcz31_4); (try clear hcz32_0); (try clear hcz32_1); (try clear hcz5_0); (try clear hcz5_1); (try clear hcz6_0); (try clear hcz6_1); (try clear hfz10_0); (try clear hfz10_1); (try clear hfz15_0); (try clear hfz15_1); (try clear hfz18_0); (try clear hfz18_1); (try clear hfz18_2); (try clear hfz18_3); (try clear hfz18_4); (try clear hfz21_0); (try clear hfz21_1); (try clear hfz21_2); (try clear hfz21_3); (try clear hfz21_4); (try clear hfz24_0); (try clear hfz24_1); (try clear hfz24_2); (try clear hfz24_3); (try clear hfz24_4); (try clear hfz25_0); (try clear hfz25_1); (try clear hfz28_0); (try clear hfz28_1); (try clear hfz28_2); (try clear hfz28_3); (try clear hfz28_4); (try clear hfz29_0); (try clear hfz29_1); (try clear hfz31_0); (try clear hfz31_1); (try clear hfz31_2); (try clear hfz31_3); (try clear hfz31_4); (try clear hfz32_0); (try clear hfz32_1); (try clear hfz5_0); (try clear hfz5_1); (try clear hfz6_0); (try clear hfz6_1); (try clear hx221_0); (try clear hx221_1); (try clear hx221_2); (try clear hx221_3); (try clear hx221_4); (try clear p2); (try clear p22); (try clear p221); (try clear q2); (try clear q22); (try clear q221)
                            obtain ⟨kq, HA, HJ32, BK220, BK222, HB⟩ := hcut
                            cases kq with
                            | zero => exact absurd HA.out (by simp [emendateref27_Valid.j5])
                            | succ kj32 =>
                              have H := HA.out
                              clear HA
                              simp only [emendateref27_Valid.j5] at H
                              have H' := Aside0.mk H
                              clear H
                              go_wp2
                              repeat (go_quiet (fail); try go_wp2)
                              go_loopg [5] kj32 (fun kq v5 w' => ∃ (x5_7 : Int), v5 = .int .i64 x5_7 ∧ Aside0 (emendateref27_Valid.l1 kq x3_3 x5_7 a0_0 l0_1 ((rd_T54 l0_1 x3_3).f0) ((rd_T54 l0_1 x3_3).f1) ((rd_T54 l0_1 x3_3).f2) ((rd_T54 l0_1 x3_3).f3.f0) ((rd_T54 l0_1 x3_3).f3.f1) = some r) ∧ Aside0 (kq ≤ kj32) ∧ Aside0 (w'.heap[gb220]? = some (.cells #[.int .i64 a0_0, (.slice (some ad221) l0_1.length c0_1)] 24 (0, 0))) ∧ Aside0 (w'.heap[gb222]? = some (.cells #[.int .i64 ((rd_T54 l0_1 x3_3).f0), (.slice A221_1 ((rd_T54 l0_1 x3_3).f1).length c221_1), .int .i64 ((rd_T54 l0_1 x3_3).f2), .int .i64 ((rd_T54 l0_1 x3_3).f3.f0), .int .i64 ((rd_T54 l0_1 x3_3).f3.f1)] 54 (0, 0))) ∧ Aside0 (Below w.heap.size w w'))
                              case atStart => exact ⟨(0), (by first | rfl | (simp; done) | (simp [*]; done)), H', ⟨Nat.le_refl _⟩, ⟨by (with_reducible repeat (first | refine blk_drewN ?_ _ | refine blk_drew ?_ | refine blk_alloc ?_ _)); exact BK220.out⟩, ⟨by (with_reducible repeat (first | refine blk_drewN ?_ _ | refine blk_drew ?_ | refine blk_alloc ?_ _)); exact BK222.out⟩, ⟨bel HB⟩⟩
                              case round =>
                                clear H'
                                (try clear c1); (try clear c2); (try clear p2); (try clear q2); (try clear hx2); (try clear c3); (try clear c4); (try clear c4b0); (try clear c8); (try clear c11); (try clear c11b0); (try clear c12); (try clear c12b0); (try clear c13); (try clear c13b0); (try clear c17); (try clear c19); (try clear c19b0); (try clear c20); (try clear c22); (try clear c22b0); (try clear p22); (try clear q22); (try clear hx22); (try clear c23); (try clear c26); (try clear c26b0); (try clear c27); (try clear c30); (try clear c34); (try clear hcz10_0); (try clear hcz10_1); (try clear hcz15_0); (try clear hcz15_1); (try clear hcz18_0); (try clear hcz18_1); (try clear hcz18_2); (try clear hcz18_3); (try clear hcz18_4); (try clear hcz21_0); (try clear hcz21_1); (try clear hcz21_2); (try clear hcz21_3); (try clear hcz21_4); (try clear hcz24_0); (try clear hcz24_1); (try clear hcz24_2); (try clear hcz24_3); (try clear hcz24_4); (try clear hcz25_0); (try clear hcz25_1); (try clear hcz28_0); (try clear hcz28_1); (try clear hcz28_2); (try clear hcz28_3); (try clear hcz28_4); (try clear hcz29_0); (try clear hcz29_1); (try clear hcz31_0); (try clear hcz31_1); (try clear hcz31_2); (try clear hcz31_3); (try clear hcz31_4); (try clear hcz32_0); (try clear hcz32_1); (try clear hcz5_0); (try clear hcz5_1); (try clear hcz6_0); (try clear hcz6_1); (try clear hfz10_0); (try clear hfz10_1); (try clear hfz15_0); (try clear hfz15_1); (try clear hfz18_0); (try clear hfz18_1); (try clear hfz18_2); (try clear hfz18_3); (try clear hfz18_4); (try clear hfz21_0); (try clear hfz21_1); (try clear hfz21_2); (try clear hfz21_3); (try clear hfz21_4); (try clear hfz24_0); (try clear hfz24_1); (try clear hfz24_2); (try clear hfz24_3); (try clear hfz24_4); (try clear hfz25_0); (try clear hfz25_1); (try clear hfz28_0); (try clear hfz28_1); (try clear hfz28_2); (try clear hfz28_3); (try clear hfz28_4); (try clear hfz29_0); (try clear hfz29_1); (try clear hfz31_0); (try clear hfz31_1); (try clear hfz31_2); (try clear hfz31_3); (try clear hfz31_4); (try clear hfz32_0); (try clear hfz32_1); (try clear hfz5_0); (try clear hfz5_1); (try clear hfz6_0); (try clear hfz6_1); (try clear hx221_0); (try clear hx221_1); (try clear hx221_2); (try clear hx221_3); (try clear hx221_4); (try clear p2); (try clear p22); (try clear p221); (try clear q2); (try clear q22); (try clear q221)
                                obtain ⟨x5_7, rfl, HA, HK7, BK220, BK222, HB⟩ := hrel
                                cases gk with
                                | zero => exact absurd HA.out (by simp [emendateref27_Valid.l1])
                                | succ k7 =>
                                  have H := HA.out
                                  clear HA
                                  simp only [emendateref27_Valid.l1] at H
                                  by_cases c35 : x5_7 < (((rd_T54 l0_1 x3_3).f1).length : Int)
                                  · rw [if_pos c35] at H
                                    have c35b0 : decide (x5_7 < (((rd_T54 l0_1 x3_3).f1).length : Int)) = true := decide_eq_true c35
                                    clear c35
                                    by_cases c36 : 0 ≤ x5_7
                                    · rw [if_pos c36] at H
                                      have c36b0 : decide (0 ≤ x5_7) = true := decide_eq_true c36
                                      clear c36
                                      by_cases c37 : (rd ((rd_T54 l0_1 x3_3).f1) x5_7) < 0
                                      · rw [if_pos c37] at H
                                        have c37b0 : decide ((rd ((rd_T54 l0_1 x3_3).f1) x5_7) < 0) = true := decide_eq_true c37
                                        clear c37
                                        obtain rfl := Option.some.inj H
                                        have hnb38 := NB222_220.out
                                        have hnc38 := NB220_222.out
                                        have hcz39_0 : wr.cell? ⟨gb222, 0, none⟩ = some (.int .i64 ((rd_T54 l0_1 x3_3).f0)) := (blk_cell BK222.out 0).trans rfl
                                        have hcz39_1 : wr.cell? ⟨gb222, 1, none⟩ = some (.slice A221_1 ((rd_T54 l0_1 x3_3).f1).length c221_1) := (blk_cell BK222.out 1).trans rfl
                                        have hcz39_2 : wr.cell? ⟨gb222, 2, none⟩ = some (.int .i64 ((rd_T54 l0_1 x3_3).f2)) := (blk_cell BK222.out 2).trans rfl
                                        have hcz39_3 : wr.cell? ⟨gb222, 3, none⟩ = some (.int .i64 ((rd_T54 l0_1 x3_3).f3.f0)) := (blk_cell BK222.out 3).trans rfl
                                        have hcz39_4 : wr.cell? ⟨gb222, 4, none⟩ = some (.int .i64 ((rd_T54 l0_1 x3_3).f3.f1)) := (blk_cell BK222.out 4).trans rfl
                                        have hfz39_0 := blk_frozen BK222.out 0
                                        have hfz39_1 := blk_frozen BK222.out 1
                                        have hfz39_2 := blk_frozen BK222.out 2
                                        have hfz39_3 := blk_frozen BK222.out 3
                                        have hfz39_4 := blk_frozen BK222.out 4
                                        have p223 : 0 ≤ (x5_7 : Int) := of_decide_eq_true (by first | (with_reducible assumption) | assumption)
                                        have q223 : x5_7 < (((rd_T54 l0_1 x3_3).f1).length : Int) := of_decide_eq_true (by first | (with_reducible assumption) | assumption)
                                        obtain ⟨ad223, e223, hx223_0⟩ := Kd.at_int HR221_1.out x5_7 p223 q223
                                        cases e223
                                        replace hx223_0 := (HB.out.cell (World.block_lt_of_cell? w _ hx223_0)).trans hx223_0
                                        replace p223 := eq_true p223
                                        replace q223 := eq_true q223
                                        go_wp2
                                        repeat (go_quiet (fail); try go_wp2)
                                        go_ret
                                        exact ⟨by first | rfl | (simp [errW_none, errW_some] <;> rfl) | (simp [*, errW_none, errW_some] <;> rfl), bel HB⟩
                                      · rw [if_neg c37] at H
                                        have c37b0 : decide ((rd ((rd_T54 l0_1 x3_3).f1) x5_7) < 0) = false := decide_eq_false c37
                                        clear c37
                                        by_cases c40 : (rd ((rd_T54 l0_1 x3_3).f1) x5_7) ≥ a0_0
                                        · rw [if_pos c40] at H
                                          have c40b0 : decide (a0_0 ≤ (rd ((rd_T54 l0_1 x3_3).f1) x5_7)) = true := decide_eq_true c40
                                          clear c40
                                          obtain rfl := Option.some.inj H
                                          have hnb41 := NB222_220.out
                                          have hnc41 := NB220_222.out
                                          have hcz42_0 : wr.cell? ⟨gb222, 0, none⟩ = some (.int .i64 ((rd_T54 l0_1 x3_3).f0)) := (blk_cell BK222.out 0).trans rfl
                                          have hcz42_1 : wr.cell? ⟨gb222, 1, none⟩ = some (.slice A221_1 ((rd_T54 l0_1 x3_3).f1).length c221_1) := (blk_cell BK222.out 1).trans rfl
                                          have hcz42_2 : wr.cell? ⟨gb222, 2, none⟩ = some (.int .i64 ((rd_T54 l0_1 x3_3).f2)) := (blk_cell BK222.out 2).trans rfl
                                          have hcz42_3 : wr.cell? ⟨gb222, 3, none⟩ = some (.int .i64 ((rd_T54 l0_1 x3_3).f3.f0)) := (blk_cell BK222.out 3).trans rfl
                                          have hcz42_4 : wr.cell? ⟨gb222, 4, none⟩ = some (.int .i64 ((rd_T54 l0_1 x3_3).f3.f1)) := (blk_cell BK222.out 4).trans rfl
                                          have hfz42_0 := blk_frozen BK222.out 0
                                          have hfz42_1 := blk_frozen BK222.out 1
                                          have hfz42_2 := blk_frozen BK222.out 2
                                          have hfz42_3 := blk_frozen BK222.out 3
                                          have hfz42_4 := blk_frozen BK222.out 4
                                          have p223 : 0 ≤ (x5_7 : Int) := of_decide_eq_true (by first | (with_reducible assumption) | assumption)
                                          have q223 : x5_7 < (((rd_T54 l0_1 x3_3).f1).length : Int) := of_decide_eq_true (by first | (with_reducible assumption) | assumption)
                                          obtain ⟨ad223, e223, hx223_0⟩ := Kd.at_int HR221_1.out x5_7 p223 q223
                                          cases e223
                                          replace hx223_0 := (HB.out.cell (World.block_lt_of_cell? w _ hx223_0)).trans hx223_0
                                          replace p223 := eq_true p223
                                          replace q223 := eq_true q223
                                          have p224 : 0 ≤ (x5_7 : Int) := of_decide_eq_true (by first | (with_reducible assumption) | assumption)
                                          have q224 : x5_7 < (((rd_T54 l0_1 x3_3).f1).length : Int) := of_decide_eq_true (by first | (with_reducible assumption) | assumption)
                                          obtain ⟨ad224, e224, hx224_0⟩ := Kd.at_int HR221_1.out x5_7 p224 q224
                                          obtain rfl : ad223 = ad224 := (by injection e224)
                                          replace hx224_0 := (HB.out.cell (World.block_lt_of_cell? w _ hx224_0)).trans hx224_0
                                          replace p224 := eq_true p224
                                          replace q224 := eq_true q224
                                          have hcz43_0 : wr.cell? ⟨gb220, 0, none⟩ = some (.int .i64 a0_0) := (blk_cell BK220.out 0).trans rfl
                                          have hcz43_1 : wr.cell? ⟨gb220, 1, none⟩ = some (.slice (some ad221) l0_1.length c0_1) := (blk_cell BK220.out 1).trans rfl
                                          have hfz43_0 := blk_frozen BK220.out 0
                                          have hfz43_1 := blk_frozen BK220.out 1
                                          go_wp2
                                          repeat (go_quiet (fail); try go_wp2)
                                          go_ret
                                          exact ⟨by first | rfl | (simp [errW_none, errW_some] <;> rfl) | (simp [*, errW_none, errW_some] <;> rfl), bel HB⟩
                                        · rw [if_neg c40] at H
                                          have c40b0 : decide (a0_0 ≤ (rd ((rd_T54 l0_1 x3_3).f1) x5_7)) = false := decide_eq_false c40
                                          clear c40
                                          have H' := Aside0.mk H
                                          clear H
                                          have hnb44 := NB222_220.out
                                          have hnc44 := NB220_222.out
                                          have hcz45_0 : wr.cell? ⟨gb222, 0, none⟩ = some (.int .i64 ((rd_T54 l0_1 x3_3).f0)) := (blk_cell BK222.out 0).trans rfl
                                          have hcz45_1 : wr.cell? ⟨gb222, 1, none⟩ = some (.slice A221_1 ((rd_T54 l0_1 x3_3).f1).length c221_1) := (blk_cell BK222.out 1).trans rfl
                                          have hcz45_2 : wr.cell? ⟨gb222, 2, none⟩ = some (.int .i64 ((rd_T54 l0_1 x3_3).f2)) := (blk_cell BK222.out 2).trans rfl
                                          have hcz45_3 : wr.cell? ⟨gb222, 3, none⟩ = some (.int .i64 ((rd_T54 l0_1 x3_3).f3.f0)) := (blk_cell BK222.out 3).trans rfl
                                          have hcz45_4 : wr.cell? ⟨gb222, 4, none⟩ = some (.int .i64 ((rd_T54 l0_1 x3_3).f3.f1)) := (blk_cell BK222.out 4).trans rfl
                                          have hfz45_0 := blk_frozen BK222.out 0
                                          have hfz45_1 := blk_frozen BK222.out 1
                                          have hfz45_2 := blk_frozen BK222.out 2
                                          have hfz45_3 := blk_frozen BK222.out 3
                                          have hfz45_4 := blk_frozen BK222.out 4
                                          have p223 : 0 ≤ (x5_7 : Int) := of_decide_eq_true (by first | (with_reducible assumption) | assumption)
                                          have q223 : x5_7 < (((rd_T54 l0_1 x3_3).f1).length : Int) := of_decide_eq_true (by first | (with_reducible assumption) | assumption)
                                          obtain ⟨ad223, e223, hx223_0⟩ := Kd.at_int HR221_1.out x5_7 p223 q223
                                          cases e223
                                          replace hx223_0 := (HB.out.cell (World.block_lt_of_cell? w _ hx223_0)).trans hx223_0
                                          replace p223 := eq_true p223
                                          replace q223 := eq_true q223
                                          have p224 : 0 ≤ (x5_7 : Int) := of_decide_eq_true (by first | (with_reducible assumption) | assumption)
                                          have q224 : x5_7 < (((rd_T54 l0_1 x3_3).f1).length : Int) := of_decide_eq_true (by first | (with_reducible assumption) | assumption)
                                          obtain ⟨ad224, e224, hx224_0⟩ := Kd.at_int HR221_1.out x5_7 p224 q224
                                          obtain rfl : ad223 = ad224 := (by injection e224)
                                          replace hx224_0 := (HB.out.cell (World.block_lt_of_cell? w _ hx224_0)).trans hx224_0
                                          replace p224 := eq_true p224
                                          replace q224 := eq_true q224
                                          have hcz46_0 : wr.cell? ⟨gb220, 0, none⟩ = some (.int .i64 a0_0) := (blk_cell BK220.out 0).trans rfl
                                          have hcz46_1 : wr.cell? ⟨gb220, 1, none⟩ = some (.slice (some ad221) l0_1.length c0_1) := (blk_cell BK220.out 1).trans rfl
                                          have hfz46_0 := blk_frozen BK220.out 0
                                          have hfz46_1 := blk_frozen BK220.out 1
                                          go_wp2
                                          repeat (go_quiet (fail); try go_wp2)
                                          go_roundg k7
                                          case measure => have := HJ1.out; have := HJ6.out; have := HK3.out; have := HJ8.out; have := HJ13.out; have := HJ32.out; have := HK7.out; omega
                                          case rel => exact ⟨(wrap64 (x5_7 + 1)), (by first | rfl | (simp; done) | (simp [*]; done)), H', ⟨by have := HJ1.out; have := HJ6.out; have := HK3.out; have := HJ8.out; have := HJ13.out; have := HJ32.out; have := HK7.out; omega⟩, ⟨by (with_reducible repeat (first | refine blk_drewN ?_ _ | refine blk_drew ?_ | refine blk_alloc ?_ _)); exact BK220.out⟩, ⟨by (with_reducible repeat (first | refine blk_drewN ?_ _ | refine blk_drew ?_ | refine blk_alloc ?_ _)); exact BK222.out⟩, ⟨bel HB⟩⟩
                                    · rw [if_neg c36] at H
                                      exact absurd H (by simp)
                                  · rw [if_neg c35] at H
                                    have c35b0 : decide (x5_7 < (((rd_T54 l0_1 x3_3).f1).length : Int)) = false := decide_eq_false c35
                                    clear c35
                                    have H' := Aside0.mk H
                                    clear H
                                    have hnb47 := NB222_220.out
                                    have hnc47 := NB220_222.out
                                    have hcz48_0 : wr.cell? ⟨gb222, 0, none⟩ = some (.int .i64 ((rd_T54 l0_1 x3_3).f0)) := (blk_cell BK222.out 0).trans rfl
                                    have hcz48_1 : wr.cell? ⟨gb222, 1, none⟩ = some (.slice A221_1 ((rd_T54 l0_1 x3_3).f1).length c221_1) := (blk_cell BK222.out 1).trans rfl
                                    have hcz48_2 : wr.cell? ⟨gb222, 2, none⟩ = some (.int .i64 ((rd_T54 l0_1 x3_3).f2)) := (blk_cell BK222.out 2).trans rfl
                                    have hcz48_3 : wr.cell? ⟨gb222, 3, none⟩ = some (.int .i64 ((rd_T54 l0_1 x3_3).f3.f0)) := (blk_cell BK222.out 3).trans rfl
                                    have hcz48_4 : wr.cell? ⟨gb222, 4, none⟩ = some (.int .i64 ((rd_T54 l0_1 x3_3).f3.f1)) := (blk_cell BK222.out 4).trans rfl
                                    have hfz48_0 := blk_frozen BK222.out 0
                                    have hfz48_1 := blk_frozen BK222.out 1
                                    have hfz48_2 := blk_frozen BK222.out 2
                                    have hfz48_3 := blk_frozen BK222.out 3
                                    have hfz48_4 := blk_frozen BK222.out 4
                                    go_wp2
                                    repeat (go_quiet (fail); try go_wp2)
                                    go_roundg k7
                                    case measure => have := HJ1.out; have := HJ6.out; have := HK3.out; have := HJ8.out; have := HJ13.out; have := HJ32.out; have := HK7.out; omega
                                    case rel => exact ⟨(wrap64 (x3_3 + 1)), (by first | rfl | (simp; done) | (simp [*]; done)), H', ⟨by have := HJ1.out; have := HJ6.out; have := HK3.out; have := HJ8.out; have := HJ13.out; have := HJ32.out; have := HK7.out; omega⟩, ⟨by (with_reducible repeat (first | refine blk_drewN ?_ _ | refine blk_drew ?_ | refine blk_alloc ?_ _)); exact BK220.out⟩, ⟨bel HB⟩⟩
                    · rw [if_neg c13] at H
                      exact absurd H (by simp)
                  · rw [if_neg c12] at H
                    exact absurd H (by simp)

end Go.Proofs.Ytamimodkcbbpmaa.Pr
end
section
/- Printed by a program of this session (a turned print of the kit's) out of the translation: each Go function as a Lean function, and the proof that the machine's call answers what it says. Lean checks it. -/
namespace Go.Proofs.Ytamimodkcbbpmaa.Pr
open Go.RowKit Go.Proofs.YtamimodkcbbpmaaW.PrintWords Go.Proofs.YtamimodkcbbpmaaW.PrintLast Go.Proofs.YtamimodkcbbpmaaW.PrintMore Go.Proofs.YtamimodkcbbpmaaXW
attribute [local go_sem] max2_int min2_int max_two min_two max_three min_three max_four min_four   -- for this text's walks alone
set_option linter.unusedVariables false
set_option linter.unusedSimpArgs false

/-! ### emendateref27_Small: function 77 -/
mutual
def emendateref27_Small.j0 : Nat → Bool → Int → List (S54) → Option (Bool)
  | 0, _, _, _ => none
  | k + 1, x12, x226000, x226001 => if x12 = true then (some false) else (emendateref27_Small.j1 k x226000 x226001)
def emendateref27_Small.j1 : Nat → Int → List (S54) → Option (Bool)
  | 0, _, _ => none
  | k + 1, x226000, x226001 => emendateref27_Small.l0 k 0 x226000 x226001
def emendateref27_Small.l0 : Nat → Int → Int → List (S54) → Option (Bool)
  | 0, _, _, _ => none
  | k + 1, x3, x226000, x226001 => if x3 < (x226001.length : Int) then (if 0 ≤ x3 then (if (((rd_T54 x226001 x3).f1).length : Int) > 4 then (some false) else (emendateref27_Small.l0 k (wrap64 (x3 + 1)) x226000 x226001)) else (none)) else ((emendateref27_Valid.f k x226000 x226001).bind fun t227 => (some t227))
end
def emendateref27_Small.f (k : Nat) (a0_0 : Int) (l0_1 : List (S54)) : Option (Bool) := if a0_0 > 30 then (emendateref27_Small.j0 k true a0_0 l0_1) else (emendateref27_Small.j0 k (decide ((l0_1.length : Int) > 60)) a0_0 l0_1)
theorem emendateref27_Small.mono_l : ∀ k, (∀ y0 y1 y2, LeO (emendateref27_Small.j0 k y0 y1 y2) (emendateref27_Small.j0 (k + 1) y0 y1 y2)) ∧ (∀ y0 y1, LeO (emendateref27_Small.j1 k y0 y1) (emendateref27_Small.j1 (k + 1) y0 y1)) ∧ (∀ y0 y1 y2, LeO (emendateref27_Small.l0 k y0 y1 y2) (emendateref27_Small.l0 (k + 1) y0 y1 y2))
  | 0 => ⟨fun _ _ _ r h => by simp [emendateref27_Small.j0] at h, fun _ _ r h => by simp [emendateref27_Small.j1] at h, fun _ _ _ r h => by simp [emendateref27_Small.l0] at h⟩
  | k + 1 => by
    obtain ⟨ih0, ih1, ih2⟩ := emendateref27_Small.mono_l k
    refine ⟨?_, ?_, ?_⟩
    all_goals intros
    all_goals first | unfold emendateref27_Small.j0 | unfold emendateref27_Small.j1 | unfold emendateref27_Small.l0
    all_goals
      repeat' first
      | (with_reducible exact ih0 _ _ _)
      | (with_reducible exact ih1 _ _)
      | (with_reducible exact ih2 _ _ _)
      | (with_reducible exact emendateref27_Valid.mono _ _ _)
      | (with_reducible exact LeO.refl _)
      | (with_reducible exact LeO.none _)
      | (with_reducible refine LeO.ite ?_ ?_)
      | (with_reducible refine LeO.bind ?_ (fun _ => ?_))
      | exact ih0 _ _ _
      | exact ih1 _ _
      | exact ih2 _ _ _
      | exact emendateref27_Valid.mono _ _ _
      | exact LeO.none _
      | refine LeO.ite ?_ ?_
      | refine LeO.bind ?_ (fun _ => ?_)
theorem emendateref27_Small.mono : ∀ a0 a1 k, LeO (emendateref27_Small.f k a0 a1) (emendateref27_Small.f (k + 1) a0 a1) := by
  intro a0 a1 k
  obtain ⟨ih0, ih1, ih2⟩ := emendateref27_Small.mono_l k
  unfold emendateref27_Small.f
  repeat' first
      | (with_reducible exact ih0 _ _ _)
      | (with_reducible exact ih1 _ _)
      | (with_reducible exact ih2 _ _ _)
      | (with_reducible exact emendateref27_Valid.mono _ _ _)
      | (with_reducible exact LeO.refl _)
      | (with_reducible exact LeO.none _)
      | (with_reducible refine LeO.ite ?_ ?_)
      | (with_reducible refine LeO.bind ?_ (fun _ => ?_))
      | exact ih0 _ _ _
      | exact ih1 _ _
      | exact ih2 _ _ _
      | exact emendateref27_Valid.mono _ _ _
      | exact LeO.none _
      | refine LeO.ite ?_ ?_
      | refine LeO.bind ?_ (fun _ => ?_)
set_option maxHeartbeats 8000000 in
set_option maxRecDepth 100000 in
theorem emendateref27_Small.calls (k : Nat) (a0_0 : Int) (A0_1 : Option Addr) (c0_1 : Nat) (l0_1 : List (S54)) (r : Bool) (w : World) (hr0_1 : Kd.C k54 w A0_1 l0_1.length l0_1) (hc0_1 : l0_1.length ≤ c0_1) (h : emendateref27_Small.f k a0_0 l0_1 = some r) :
    Calls Try.prog 77 #[.agg #[.int .i64 a0_0, .slice A0_1 l0_1.length c0_1]] w fun e w' => e = .returned (.bool r) ∧ Below w.heap.size w w' := by
  have hu24 := Try.underlying24
  have HR0_1 := Aside0.mk hr0_1
  have HC0_1 := Aside0.mk hc0_1
  clear hr0_1 hc0_1
  have HB := Aside0.mk (Below.refl w.heap.size w)
  have H : (if a0_0 > 30 then (emendateref27_Small.j0 k true a0_0 l0_1) else (emendateref27_Small.j0 k (decide ((l0_1.length : Int) > 60)) a0_0 l0_1)) = some r := h
  clear h
  have HC2 := Aside0.mk H
  clear H
  go_enter Try.func77, Try.ntmps77
  go_upto_region 1 with (first | ((with_reducible refine gate_dst (N := 1) rfl ?_); (try (refine gate_guard (by rfl) ?_; dsimp only)); refine box_event ?hg (N := 1) ?hd (cs := #[.int .i64 a0_0, .slice A0_1 l0_1.length c0_1]) (t := 24) ?hr ?_; (case hd => rfl); (case hg => rfl); (case hr => first | (go_simp; done) | (go_simp; rfl)); intro gb225 hg w3 hbox hb; have n0_ := Aside0.mk (below_step (bel HB) hb); have n1_ := Aside0.mk (hbox); have n2_ := Aside0.mk ((by rw [hg]; exact (below_size (bel HB)) : w.heap.size ≤ gb225)); have n3_ := Aside0.mk ((by rw [hg]; exact (below_size (bel HB)) : w.heap.size ≤ gb225)); clear HB; have HB := n0_; have BK225 := n1_; have GW225 := n2_; have GE225 := n3_; clear n0_ n1_ n2_ n3_; clear hb hbox hg))
  (try simp only [Act.put, List.setIfInBounds_toArray, List.set_cons_zero, List.set_cons_succ])
  go_cut [12] (fun v12 wc => ∃ (kq : Nat) (x12_1 : Bool), v12 = .bool x12_1 ∧ Aside0 (emendateref27_Small.j0 kq x12_1 a0_0 l0_1 = some r) ∧ Aside0 (kq ≤ k) ∧ Aside0 (wc.heap[gb225]? = some (.cells #[.int .i64 a0_0, (.slice A0_1 l0_1.length c0_1)] 24 (0, 0))) ∧ Aside0 (Below w.heap.size w wc))
  case first =>
    have H := HC2.out
    clear HC2
    by_cases c4 : a0_0 > 30
    · rw [if_pos c4] at H
      have c4b0 : decide (30 < a0_0) = true := decide_eq_true c4
      clear c4
      (first | rw [c4b0] | (simp only [i64_w, i32_w]; rw [c4b0]) | skip)
      have H' := Aside0.mk H
      clear H
      have hcz5_0 : w3.cell? ⟨gb225, 0, none⟩ = some (.int .i64 a0_0) := (blk_cell BK225.out 0).trans rfl
      have hcz5_1 : w3.cell? ⟨gb225, 1, none⟩ = some (.slice A0_1 l0_1.length c0_1) := (blk_cell BK225.out 1).trans rfl
      have hfz5_0 := blk_frozen BK225.out 0
      have hfz5_1 := blk_frozen BK225.out 1
      go_wp2
      go_meet
      case rel => exact ⟨_, (true), (by first | rfl | (simp; done) | (simp [*]; done)), H', ⟨by first | omega | exact Nat.le_refl _⟩, ⟨by (with_reducible repeat (first | refine blk_drewN ?_ _ | refine blk_drew ?_ | refine blk_alloc ?_ _)); exact BK225.out⟩, ⟨bel HB⟩⟩
    · rw [if_neg c4] at H
      have c4b0 : decide (30 < a0_0) = false := decide_eq_false c4
      clear c4
      (first | rw [c4b0] | (simp only [i64_w, i32_w]; rw [c4b0]) | skip)
      have H' := Aside0.mk H
      clear H
      have hcz6_0 : w3.cell? ⟨gb225, 0, none⟩ = some (.int .i64 a0_0) := (blk_cell BK225.out 0).trans rfl
      have hcz6_1 : w3.cell? ⟨gb225, 1, none⟩ = some (.slice A0_1 l0_1.length c0_1) := (blk_cell BK225.out 1).trans rfl
      have hfz6_0 := blk_frozen BK225.out 0
      have hfz6_1 := blk_frozen BK225.out 1
      go_wp2
      go_meet
      case rel => exact ⟨_, (decide ((l0_1.length : Int) > 60)), (by first | rfl | (simp; done) | (simp [*]; done)), H', ⟨by first | omega | exact Nat.le_refl _⟩, ⟨by (with_reducible repeat (first | refine blk_drewN ?_ _ | refine blk_drew ?_ | refine blk_alloc ?_ _)); exact BK225.out⟩, ⟨bel HB⟩⟩
  case rest =>
    clear HC2
    (try clear p2); (try clear c4); (try clear c4b0); (try clear hcz5_0); (try clear hcz5_1); (try clear hcz6_0); (try clear hcz6_1); (try clear hfz5_0); (try clear hfz5_1); (try clear hfz6_0); (try clear hfz6_1)
    obtain ⟨kq, x12_1, rfl, HA, HJ1, BK225, HB⟩ := hcut
    cases kq with
    | zero => exact absurd HA.out (by simp [emendateref27_Small.j0])
    | succ kj1 =>
      have H := HA.out
      clear HA
      simp only [emendateref27_Small.j0] at H
      have HC7 := Aside0.mk H
      clear H
      go_upto_if 12 with (fail)
      go_cut [] (fun wc => ∃ (kq : Nat), Aside0 (emendateref27_Small.j1 kq a0_0 l0_1 = some r) ∧ Aside0 (kq ≤ kj1) ∧ Aside0 (wc.heap[gb225]? = some (.cells #[.int .i64 a0_0, (.slice A0_1 l0_1.length c0_1)] 24 (0, 0))) ∧ Aside0 (Below w.heap.size w wc))
      case first =>
        have H := HC7.out
        clear HC7
        by_cases c8 : x12_1 = true
        · subst c8
          have H1 : (some false) = some r := by rw [if_pos rfl] at H; exact H
          clear H
          have H := H1
          clear H1
          obtain rfl := Option.some.inj H
          go_wp2
          go_ret
          exact ⟨by first | rfl | (simp [errW_none, errW_some] <;> rfl) | (simp [*, errW_none, errW_some] <;> rfl), bel HB⟩
        · replace c8 := Bool.eq_false_iff.mpr c8
          subst c8
          have H1 : (emendateref27_Small.j1 kj1 a0_0 l0_1) = some r := by rw [if_neg (show ¬ (false = true) by decide)] at H; exact H
          clear H
          have H := H1
          clear H1
          have H' := Aside0.mk H
          clear H
          go_wp2
          go_meet
          case rel => exact ⟨_, H', ⟨by have := HJ1.out; first | omega | exact Nat.le_refl _⟩, ⟨by (with_reducible repeat (first | refine blk_drewN ?_ _ | refine blk_drew ?_ | refine blk_alloc ?_ _)); exact BK225.out⟩, ⟨bel HB⟩⟩
      case rest =>
        clear HC7
        (try clear p2); (try clear c4); (try clear c4b0); (try clear c7); (try clear c8); (try clear hcz5_0); (try clear hcz5_1); (try clear hcz6_0); (try clear hcz6_1); (try clear hfz5_0); (try clear hfz5_1); (try clear hfz6_0); (try clear hfz6_1); (try clear p2)
        obtain ⟨kq, HA, HJ6, BK225, HB⟩ := hcut
        cases kq with
        | zero => exact absurd HA.out (by simp [emendateref27_Small.j1])
        | succ kj6 =>
          have H := HA.out
          clear HA
          simp only [emendateref27_Small.j1] at H
          have H' := Aside0.mk H
          clear H
          go_wp2
          go_loopg [3] kj6 (fun kq v3 w' => ∃ (x3_3 : Int), v3 = .int .i64 x3_3 ∧ Aside0 (emendateref27_Small.l0 kq x3_3 a0_0 l0_1 = some r) ∧ Aside0 (kq ≤ kj6) ∧ Aside0 (w'.heap[gb225]? = some (.cells #[.int .i64 a0_0, (.slice A0_1 l0_1.length c0_1)] 24 (0, 0))) ∧ Aside0 (Below w.heap.size w w'))
          case atStart => exact ⟨(0), (by first | rfl | (simp; done) | (simp [*]; done)), H', ⟨Nat.le_refl _⟩, ⟨by (with_reducible repeat (first | refine blk_drewN ?_ _ | refine blk_drew ?_ | refine blk_alloc ?_ _)); exact BK225.out⟩, ⟨bel HB⟩⟩
          case round =>
            clear H'
            (try clear p2); (try clear c4); (try clear c4b0); (try clear c7); (try clear c8); (try clear hcz5_0); (try clear hcz5_1); (try clear hcz6_0); (try clear hcz6_1); (try clear hfz5_0); (try clear hfz5_1); (try clear hfz6_0); (try clear hfz6_1); (try clear p2)
            obtain ⟨x3_3, rfl, HA, HK3, BK225, HB⟩ := hrel
            cases gk with
            | zero => exact absurd HA.out (by simp [emendateref27_Small.l0])
            | succ k3 =>
              have H := HA.out
              clear HA
              simp only [emendateref27_Small.l0] at H
              by_cases c9 : x3_3 < (l0_1.length : Int)
              · rw [if_pos c9] at H
                have c9b0 : decide (x3_3 < (l0_1.length : Int)) = true := decide_eq_true c9
                clear c9
                by_cases c10 : 0 ≤ x3_3
                · rw [if_pos c10] at H
                  have c10b0 : decide (0 ≤ x3_3) = true := decide_eq_true c10
                  clear c10
                  by_cases c11 : (((rd_T54 l0_1 x3_3).f1).length : Int) > 4
                  · rw [if_pos c11] at H
                    have c11b0 : decide (4 < (((rd_T54 l0_1 x3_3).f1).length : Int)) = true := decide_eq_true c11
                    have c11b1 : decide (4 < ((rd_T54 l0_1 x3_3).f1).length) = true := decide_eq_true (by omega)
                    clear c11
                    obtain rfl := Option.some.inj H
                    have hcz12_0 : wr.cell? ⟨gb225, 0, none⟩ = some (.int .i64 a0_0) := (blk_cell BK225.out 0).trans rfl
                    have hcz12_1 : wr.cell? ⟨gb225, 1, none⟩ = some (.slice A0_1 l0_1.length c0_1) := (blk_cell BK225.out 1).trans rfl
                    have hfz12_0 := blk_frozen BK225.out 0
                    have hfz12_1 := blk_frozen BK225.out 1
                    have p226 : 0 ≤ (x3_3 : Int) := of_decide_eq_true (by first | (with_reducible assumption) | assumption)
                    have q226 : x3_3 < (l0_1.length : Int) := of_decide_eq_true (by first | (with_reducible assumption) | assumption)
                    obtain ⟨ad226, A226_1, c226_1, e226, hx226_0, hx226_1, hx226_2, hx226_3, hx226_4, hl226_1, hi226_1⟩ := at_T54 HR0_1.out x3_3 p226 q226
                    cases e226
                    replace hx226_0 := (HB.out.cell (World.block_lt_of_cell? w _ hx226_0)).trans hx226_0
                    replace hx226_1 := (HB.out.cell (World.block_lt_of_cell? w _ hx226_1)).trans hx226_1
                    replace hx226_2 := (HB.out.cell (World.block_lt_of_cell? w _ hx226_2)).trans hx226_2
                    replace hx226_3 := (HB.out.cell (World.block_lt_of_cell? w _ hx226_3)).trans hx226_3
                    replace hx226_4 := (HB.out.cell (World.block_lt_of_cell? w _ hx226_4)).trans hx226_4
                    have HR226_1 := Aside0.mk hi226_1
                    have HC226_1 := Aside0.mk hl226_1
                    clear hi226_1 hl226_1
                    replace p226 := eq_true p226
                    replace q226 := eq_true q226
                    go_wp2
                    go_ret
                    exact ⟨by first | rfl | (simp [errW_none, errW_some] <;> rfl) | (simp [*, errW_none, errW_some] <;> rfl), bel HB⟩
                  · rw [if_neg c11] at H
                    have c11b0 : decide (4 < (((rd_T54 l0_1 x3_3).f1).length : Int)) = false := decide_eq_false c11
                    have c11b1 : decide (4 < ((rd_T54 l0_1 x3_3).f1).length) = false := decide_eq_false (by omega)
                    clear c11
                    have H' := Aside0.mk H
                    clear H
                    have hcz13_0 : wr.cell? ⟨gb225, 0, none⟩ = some (.int .i64 a0_0) := (blk_cell BK225.out 0).trans rfl
                    have hcz13_1 : wr.cell? ⟨gb225, 1, none⟩ = some (.slice A0_1 l0_1.length c0_1) := (blk_cell BK225.out 1).trans rfl
                    have hfz13_0 := blk_frozen BK225.out 0
                    have hfz13_1 := blk_frozen BK225.out 1
                    have p226 : 0 ≤ (x3_3 : Int) := of_decide_eq_true (by first | (with_reducible assumption) | assumption)
                    have q226 : x3_3 < (l0_1.length : Int) := of_decide_eq_true (by first | (with_reducible assumption) | assumption)
                    obtain ⟨ad226, A226_1, c226_1, e226, hx226_0, hx226_1, hx226_2, hx226_3, hx226_4, hl226_1, hi226_1⟩ := at_T54 HR0_1.out x3_3 p226 q226
                    cases e226
                    replace hx226_0 := (HB.out.cell (World.block_lt_of_cell? w _ hx226_0)).trans hx226_0
                    replace hx226_1 := (HB.out.cell (World.block_lt_of_cell? w _ hx226_1)).trans hx226_1
                    replace hx226_2 := (HB.out.cell (World.block_lt_of_cell? w _ hx226_2)).trans hx226_2
                    replace hx226_3 := (HB.out.cell (World.block_lt_of_cell? w _ hx226_3)).trans hx226_3
                    replace hx226_4 := (HB.out.cell (World.block_lt_of_cell? w _ hx226_4)).trans hx226_4
                    have HR226_1 := Aside0.mk hi226_1
                    have HC226_1 := Aside0.mk hl226_1
                    clear hi226_1 hl226_1
                    replace p226 := eq_true p226
                    replace q226 := eq_true q226
                    go_wp2
                    go_roundg k3
                    case measure => have := HJ1.out; have := HJ6.out; have := HK3.out; omega
                    case rel => exact ⟨(wrap64 (x3_3 + 1)), (by first | rfl | (simp; done) | (simp [*]; done)), H', ⟨by have := HJ1.out; have := HJ6.out; have := HK3.out; omega⟩, ⟨by (with_reducible repeat (first | refine blk_drewN ?_ _ | refine blk_drew ?_ | refine blk_alloc ?_ _)); exact BK225.out⟩, ⟨bel HB⟩⟩
                · rw [if_neg c10] at H
                  exact absurd H (by simp)
              · rw [if_neg c9] at H
                have c9b0 : decide (x3_3 < (l0_1.length : Int)) = false := decide_eq_false c9
                clear c9
                replace H := Option.bind_eq_some_iff.mp H
                obtain ⟨t227, A140, H⟩ := H
                replace H : (some t227) = some r := H
                have A14 := Aside0.mk A140
                clear A140
                obtain rfl := Option.some.inj H
                have hcz15_0 : wr.cell? ⟨gb225, 0, none⟩ = some (.int .i64 a0_0) := (blk_cell BK225.out 0).trans rfl
                have hcz15_1 : wr.cell? ⟨gb225, 1, none⟩ = some (.slice A0_1 l0_1.length c0_1) := (blk_cell BK225.out 1).trans rfl
                have hfz15_0 := blk_frozen BK225.out 0
                have hfz15_1 := blk_frozen BK225.out 1
                go_wp2_with (first | ((with_reducible refine gate_callee (f := 34) rfl ?_); refine goesL_ (some 29) rfl rfl Try.func34 (by kernel_rfl) rfl #[.agg #[.int .i64 a0_0, .slice A0_1 l0_1.length c0_1]] rfl (by (try simp only [List.map_toArray, List.map_cons, List.map_nil]); first | done | rfl | (simp only [List.length_drop, List.length_take]; rfl)) ?_; (with_reducible refine (emendateref27_Valid.calls k3 a0_0 _ _ l0_1 t227 _ ?side1 ?side2 A14.out).mono ?_); (case side1 => repeat (first | exact (Kd.C_below HR0_1.out HB.out) | (with_reducible refine Kd.C_alloc ?_ _) | (with_reducible refine Kd.C_drewN ?_ _) | (with_reducible refine Kd.C_drew ?_))); (case side2 => exact HC0_1.out); rintro e w16 ⟨rfl, hb⟩; refine ⟨_, rfl, ?_⟩; have n0_ := Aside0.mk (blk_below (bk BK225) hb); have n1_ := Aside0.mk (below_step (bel HB) hb); clear BK225; clear HB; have BK225 := n0_; have HB := n1_; clear n0_ n1_; (try clear hb); (try clear hb2); (try clear hk); (try clear hi)))
                go_ret
                exact ⟨by first | rfl | (simp [errW_none, errW_some] <;> rfl) | (simp [*, errW_none, errW_some] <;> rfl), bel HB⟩
end Go.Proofs.Ytamimodkcbbpmaa.Pr
end
section
/- The order of values and of the queue's entries; the queue is a heap: what is left first is least. -/
namespace Go.Proofs.Ytamimodkcbbpmaa.Pr
open Go.RowKit Go.Proofs.YtamimodkcbbpmaaW.PrintWords Go.Proofs.YtamimodkcbbpmaaW.PrintLast Go.Proofs.YtamimodkcbbpmaaXW Go.Proofs.YtamimodkcbbpmaaXM
set_option linter.unusedVariables false
set_option linter.unusedSimpArgs false

/-- a is at most b: by the first number, then by the second. -/
def LeV (a b : S34) : Prop := a.f0 < b.f0 ∨ a.f0 = b.f0 ∧ a.f1 ≤ b.f1
theorem ltV_iff (a b : S34) : ltV a b = true ↔ a.f0 < b.f0 ∨ a.f0 = b.f0 ∧ a.f1 < b.f1 := by simp [ltV]
theorem ltV_false (a b : S34) : ltV a b = false ↔ LeV b a := by
  have h := ltV_iff a b
  unfold LeV
  cases hb : ltV a b with
  | true => rw [hb] at h; have h2 := h.1 rfl; constructor
            · intro h3; cases h3
            · intro h3; omega
  | false => rw [hb] at h; constructor
             · intro _
               have h3 : ¬ (a.f0 < b.f0 ∨ a.f0 = b.f0 ∧ a.f1 < b.f1) := fun h4 => by have := h.2 h4; cases this
               omega
             · intro _; rfl
theorem LeV.refl (a : S34) : LeV a a := by unfold LeV; omega
theorem LeV.trans {a b c : S34} (h1 : LeV a b) (h2 : LeV b c) : LeV a c := by unfold LeV at *; omega
theorem LeV.antisymm {a b : S34} (h1 : LeV a b) (h2 : LeV b a) : a = b := by
  obtain ⟨a0, a1⟩ := a
  obtain ⟨b0, b1⟩ := b
  unfold LeV at *
  have e0 : a0 = b0 := by simp only at h1 h2; omega
  have e1 : a1 = b1 := by simp only at h1 h2; omega
  rw [e0, e1]
theorem LeV.total (a b : S34) : LeV a b ∨ LeV b a := by unfold LeV; omega

/-- Entry a leaves no later than entry b. -/
def leB (a b : S139) : Prop := bef b a = false
theorem leB_iff (a b : S139) : leB a b ↔ (a.f0.f1.f0 < b.f0.f1.f0 ∨ a.f0.f1.f0 = b.f0.f1.f0 ∧ (a.f0.f1.f1 < b.f0.f1.f1 ∨ a.f0.f1.f1 = b.f0.f1.f1 ∧ a.f2 ≤ b.f2)) := by
  unfold leB bef ltV
  simp only [Bool.or_eq_false_iff, Bool.and_eq_false_iff, decide_eq_false_iff_not, Bool.not_eq_false, Bool.or_eq_true, Bool.and_eq_true, decide_eq_true_eq, Bool.not_eq_false', Bool.not_eq_true']
  omega
theorem leB.trans {a b c : S139} (h1 : leB a b) (h2 : leB b c) : leB a c := by rw [leB_iff] at *; omega
theorem leB.refl (a : S139) : leB a a := by rw [leB_iff]; omega
theorem leB_of_bef {a b : S139} (h : bef a b = true) : leB a b := by
  rcases Bool.eq_false_or_eq_true (bef b a) with h1 | h1
  · rw [leB_iff]
    unfold bef ltV at h h1
    simp only [Bool.or_eq_true, Bool.and_eq_true, decide_eq_true_eq, Bool.not_eq_true', Bool.or_eq_false_iff, Bool.and_eq_false_iff, decide_eq_false_iff_not] at h h1
    omega
  · exact h1
theorem leB_val {a b : S139} (h : leB a b) : LeV a.f0.f1 b.f0.f1 := by rw [leB_iff] at h; unfold LeV; omega

abbrev at139 (es : List S139) (i : Nat) : S139 := rd_T139 es (i : Int)
theorem at139_eq (es : List S139) (i : Nat) (h : i < es.length) : at139 es i = es[i] := by
  simp [at139, rd_T139, List.getD_eq_getElem?_getD, List.getElem?_eq_getElem h]
theorem getD_set' {α : Type} (l : List α) (t i : Nat) (b d : α) : (l.set t b).getD i d = if i = t ∧ t < l.length then b else l.getD i d := by
  simp only [List.getD_eq_getElem?_getD, List.getElem?_set]
  by_cases h : t = i
  · subst h
    by_cases h2 : t < l.length
    · simp [h2]
    · simp [h2]
  · rw [if_neg h, if_neg (fun h2 => h h2.1.symm)]
theorem at139_swp (es : List S139) (i j k : Nat) (hi : i < es.length) (hj : j < es.length) (hk : k < es.length) : at139 (swpE es (i : Int) (j : Int)) k = if k = j then at139 es i else if k = i then at139 es j else at139 es k := by
  show (((es.set i (at139 es j)).set j (at139 es i))).getD k _ = _
  rw [getD_set', getD_set', List.length_set]
  by_cases h1 : k = j
  · rw [if_pos ⟨h1, hj⟩, if_pos h1]
  · rw [if_neg (fun h => h1 h.1), if_neg h1]
    by_cases h2 : k = i
    · rw [if_pos ⟨h2, hi⟩, if_pos h2]
    · rw [if_neg (fun h => h2 h.1), if_neg h2]
      rfl
theorem mem139 (es : List S139) (x : S139) : x ∈ es ↔ ∃ k, k < es.length ∧ x = at139 es k := by
  rw [List.mem_iff_getElem]
  constructor
  · rintro ⟨k, hk, e⟩
    exact ⟨k, hk, by rw [at139_eq _ _ hk, e]⟩
  · rintro ⟨k, hk, e⟩
    exact ⟨k, hk, by rw [e, at139_eq _ _ hk]⟩
theorem swpE_mem_iff (es : List S139) (i j : Nat) (hi : i < es.length) (hj : j < es.length) (x : S139) : x ∈ swpE es (i : Int) (j : Int) ↔ x ∈ es := by
  rw [mem139, mem139, swpE_length]
  constructor
  · rintro ⟨k, hk, e⟩
    rw [at139_swp es i j k hi hj hk] at e
    split at e
    · exact ⟨i, hi, e⟩
    · split at e
      · exact ⟨j, hj, e⟩
      · exact ⟨k, hk, e⟩
  · rintro ⟨k, hk, e⟩
    by_cases h1 : k = i
    · refine ⟨j, hj, ?_⟩
      rw [at139_swp es i j j hi hj hj, if_pos rfl, e, h1]
    · by_cases h2 : k = j
      · refine ⟨i, hi, ?_⟩
        rw [at139_swp es i j i hi hj hi, e, h2]
        split
        · rename_i h3; rw [h3]
        · rw [if_pos rfl]
      · refine ⟨k, hk, ?_⟩
        rw [at139_swp es i j k hi hj hk, if_neg h2, if_neg h1, e]

/-- No entry is before its parent. -/
def Heap (es : List S139) : Prop := ∀ i, 0 < i → i < es.length → leB (at139 es ((i - 1) / 2)) (at139 es i)
theorem Heap.root {es : List S139} (h : Heap es) : ∀ i, i < es.length → leB (at139 es 0) (at139 es i) := by
  intro i
  induction i using Nat.strongRecOn with
  | ind i ih =>
    intro hi
    by_cases h0 : i = 0
    · subst h0; exact leB.refl _
    · exact (ih ((i - 1) / 2) (by omega) (by omega)).trans (h i (by omega) hi)
structure HeapU (es : List S139) (k : Nat) : Prop where
  a : ∀ i, 0 < i → i < es.length → i ≠ k → leB (at139 es ((i - 1) / 2)) (at139 es i)
  b : ∀ c, 0 < k → 0 < c → c < es.length → (c - 1) / 2 = k → leB (at139 es ((k - 1) / 2)) (at139 es c)
theorem upE_heap : ∀ (K : Nat) (es : List S139) (k : Nat), k < es.length → k ≤ K → HeapU es k → Heap (upE K es k)
  | 0, es, k, hk, hK, h => by
    obtain rfl : k = 0 := by omega
    exact fun i h0 h1 => h.a i h0 h1 (by omega)
  | K + 1, es, 0, hk, hK, h => fun i h0 h1 => h.a i h0 h1 (by omega)
  | K + 1, es, m + 1, hk, hK, h => by
    have e2 : ((m : Int) / 2) = ((m / 2 : Nat) : Int) := by omega
    have e1 : ((m : Int) + 1) = ((m + 1 : Nat) : Int) := by omega
    unfold upE
    rw [e1, e2]
    split
    · rename_i hb
      refine upE_heap K _ (m / 2) (by rw [swpE_length]; omega) (by omega) ?_
      have hle := leB_of_bef hb
      have hp : m / 2 < es.length := by omega
      have hsw : ∀ k, k < es.length → at139 (swpE es ((m + 1 : Nat) : Int) ((m / 2 : Nat) : Int)) k = if k = m / 2 then at139 es (m + 1) else if k = m + 1 then at139 es (m / 2) else at139 es k := fun k hk2 => at139_swp es (m + 1) (m / 2) k hk hp hk2
      constructor
      · intro i h0 h1 h2
        rw [swpE_length] at h1
        rw [hsw i h1, hsw ((i - 1) / 2) (by omega), if_neg h2]
        by_cases h3 : i = m + 1
        · subst h3
          rw [if_pos rfl, if_pos (by omega)]
          exact hle
        · rw [if_neg h3]
          by_cases h4 : (i - 1) / 2 = m / 2
          · rw [if_pos h4]
            have := h.a i h0 h1 h3
            rw [h4] at this
            exact hle.trans this
          · rw [if_neg h4]
            by_cases h5 : (i - 1) / 2 = m + 1
            · rw [if_pos h5]
              have := h.b i (by omega) h0 h1 h5
              exact this
            · rw [if_neg h5]
              exact h.a i h0 h1 h3
      · intro c hk0 h0 h1 h2
        rw [swpE_length] at h1
        have hpp := h.a (m / 2) hk0 hp (by omega)
        rw [hsw c h1, hsw ((m / 2 - 1) / 2) (by omega), if_neg (show ¬ (m / 2 - 1) / 2 = m / 2 by omega), if_neg (show ¬ (m / 2 - 1) / 2 = m + 1 by omega), if_neg (show ¬ c = m / 2 by omega)]
        by_cases h3 : c = m + 1
        · rw [if_pos h3]; exact hpp
        · rw [if_neg h3]
          have := h.a c h0 h1 h3
          rw [h2] at this
          exact hpp.trans this
    · rename_i hb
      have hb' : leB (at139 es (m / 2)) (at139 es (m + 1)) := Bool.eq_false_iff.2 hb
      intro i h0 h1
      by_cases h2 : i = m + 1
      · subst h2; exact hb'
      · exact h.a i h0 h1 h2
theorem upE_mem_iff : ∀ (K : Nat) (es : List S139) (k : Nat), k < es.length → ∀ x, x ∈ upE K es k ↔ x ∈ es
  | 0, es, k, hk, x => Iff.rfl
  | K + 1, es, 0, hk, x => Iff.rfl
  | K + 1, es, m + 1, hk, x => by
    have e2 : ((m : Int) / 2) = ((m / 2 : Nat) : Int) := by omega
    have e1 : ((m : Int) + 1) = ((m + 1 : Nat) : Int) := by omega
    unfold upE
    rw [e1, e2]
    split
    · rw [upE_mem_iff K _ (m / 2) (by rw [swpE_length]; omega) x]
      exact swpE_mem_iff es (m + 1) (m / 2) hk (by omega) x
    · exact Iff.rfl

structure HeapD (es : List S139) (k : Nat) : Prop where
  a : ∀ i, 0 < i → i < es.length → (i - 1) / 2 ≠ k → leB (at139 es ((i - 1) / 2)) (at139 es i)
  b : ∀ c, 0 < k → 0 < c → c < es.length → (c - 1) / 2 = k → leB (at139 es ((k - 1) / 2)) (at139 es c)
theorem lstE_spec (es : List S139) (i : Nat) : ∀ t, (lstE es i t = i ∨ ∃ s, s < t ∧ lstE es i t = 2 * i + 1 + s) ∧ leB (at139 es (lstE es i t)) (at139 es i) ∧ ∀ s, s < t → 2 * i + 1 + s < es.length → leB (at139 es (lstE es i t)) (at139 es (2 * i + 1 + s))
  | 0 => ⟨Or.inl rfl, leB.refl _, fun s hs => absurd hs (by omega)⟩
  | t + 1 => by
    obtain ⟨h1, h2, h3⟩ := lstE_spec es i t
    rw [lstE_succ]
    split
    · rename_i hc
      have hle := leB_of_bef hc.2
      refine ⟨Or.inr ⟨t, by omega, rfl⟩, hle.trans h2, fun s hs hl => ?_⟩
      by_cases hst : s = t
      · subst hst; exact leB.refl _
      · exact hle.trans (h3 s (by omega) hl)
    · rename_i hc
      refine ⟨?_, h2, fun s hs hl => ?_⟩
      · rcases h1 with h1 | ⟨s, hs, h1⟩
        · exact Or.inl h1
        · exact Or.inr ⟨s, by omega, h1⟩
      · by_cases hst : s = t
        · subst hst
          have : bef (at139 es (2 * i + 1 + s)) (at139 es (lstE es i s)) = false := by
            rcases Bool.eq_false_or_eq_true (bef (at139 es (2 * i + 1 + s)) (at139 es (lstE es i s))) with h5 | h5
            · exact absurd ⟨hl, h5⟩ hc
            · exact h5
          exact this
        · exact h3 s (by omega) hl
theorem downE_heap : ∀ (K : Nat) (es : List S139) (k : Nat), es.length ≤ k + K → HeapD es k → Heap (downE K es k)
  | 0, es, k, hK, h => by
    show Heap es
    exact fun i h0 h1 => h.a i h0 h1 (by omega)
  | K + 1, es, k, hK, h => by
    obtain ⟨h1, h2, h3⟩ := lstE_spec es k 2
    unfold downE
    split
    · rename_i he
      rw [he] at h3
      intro i h0 hi
      by_cases hp : (i - 1) / 2 = k
      · have := h3 (i - (2 * k + 1)) (by omega) (by omega)
        rw [hp]
        rw [show 2 * k + 1 + (i - (2 * k + 1)) = i by omega] at this
        exact this
      · exact h.a i h0 hi hp
    · rename_i he
      by_cases hk : k < es.length
      · have hl := (lstE_lt es k hk 2).1
        obtain ⟨L, hL⟩ : ∃ L, lstE es k 2 = L := ⟨_, rfl⟩
        rw [hL] at h1 h2 h3 hl he ⊢
        have hkL : (L - 1) / 2 = k ∧ k < L := by
          rcases h1 with h1 | ⟨s, hs, h1⟩
          · exact absurd h1 he
          · omega
        have hsw : ∀ i, i < es.length → at139 (swpE es (k : Int) (L : Int)) i = if i = L then at139 es k else if i = k then at139 es L else at139 es i := fun i hi => at139_swp es k L i hk hl hi
        refine downE_heap K _ L (by rw [swpE_length]; omega) ?_
        constructor
        · intro i h0 hi hp
          rw [swpE_length] at hi
          rw [hsw i hi, hsw ((i - 1) / 2) (by omega), if_neg hp]
          by_cases h4 : (i - 1) / 2 = k
          · rw [if_pos h4]
            by_cases h5 : i = L
            · rw [if_pos h5]; exact h2
            · rw [if_neg h5, if_neg (by omega)]
              have := h3 (i - (2 * k + 1)) (by omega) (by omega)
              rw [show 2 * k + 1 + (i - (2 * k + 1)) = i by omega] at this
              exact this
          · rw [if_neg h4, if_neg (show ¬ i = L by omega)]
            by_cases h5 : i = k
            · rw [if_pos h5]
              subst h5
              exact h.b L h0 (by omega) hl hkL.1
            · rw [if_neg h5]
              exact h.a i h0 hi h4
        · intro c hL0 h0 hc hp
          rw [swpE_length] at hc
          rw [hsw c hc, hsw ((L - 1) / 2) (by omega), hkL.1, if_neg (show ¬ k = L by omega), if_pos rfl, if_neg (show ¬ c = L by omega), if_neg (show ¬ c = k by omega)]
          have := h.a c h0 hc (by omega)
          rw [hp] at this
          exact this
      · rcases h1 with h1 | ⟨s, hs, h1⟩
        · exact absurd h1 he
        · exfalso
          have hz : ∀ t, lstE es k t = k := by
            intro t
            induction t with
            | zero => rfl
            | succ t ih => rw [lstE_succ, if_neg (by omega)]; exact ih
          exact he (hz 2)
theorem downE_mem_iff : ∀ (K : Nat) (es : List S139) (k : Nat), k < es.length → ∀ x, x ∈ downE K es k ↔ x ∈ es
  | 0, es, k, hk, x => Iff.rfl
  | K + 1, es, k, hk, x => by
    have hl := (lstE_lt es k hk 2).1
    unfold downE
    split
    · exact Iff.rfl
    · rw [downE_mem_iff K _ _ (by rw [swpE_length]; exact hl) x]
      exact swpE_mem_iff es k (lstE es k 2) hk hl x
theorem at139_take (es : List S139) (m i : Nat) (h : i < m) (hm : m ≤ es.length) : at139 (es.take m) i = at139 es i := by
  rw [at139_eq _ i (by rw [List.length_take]; omega), at139_eq _ i (by omega), List.getElem_take]
theorem popE_heap {es : List S139} (h : Heap es) : Heap (popE es) := by
  unfold popE
  refine downE_heap _ _ 0 (by rw [List.length_take, swpE_length]; omega) ?_
  constructor
  · intro i h0 hi hp
    rw [List.length_take, swpE_length] at hi
    rw [at139_take _ _ _ (by omega) (by rw [swpE_length]; omega), at139_take _ _ _ (by omega) (by rw [swpE_length]; omega)]
    have e : swpE es 0 ((es.length - 1 : Nat) : Int) = swpE es ((0 : Nat) : Int) ((es.length - 1 : Nat) : Int) := rfl
    rw [e, at139_swp es 0 (es.length - 1) i (by omega) (by omega) (by omega), at139_swp es 0 (es.length - 1) ((i - 1) / 2) (by omega) (by omega) (by omega), if_neg (by omega), if_neg (by omega), if_neg (by omega), if_neg (by omega)]
    exact h i h0 (by omega)
  · intro c hk
    omega
theorem popE_keep (e0 : S139) (r : List S139) (x : S139) (h : x ∈ e0 :: r) : x = e0 ∨ x ∈ popE (e0 :: r) := by
  by_cases hr : r = []
  · subst hr
    exact Or.inl (List.mem_singleton.1 h)
  · have hl : 0 < r.length := by cases r with | nil => exact absurd rfl hr | cons _ _ => simp
    obtain ⟨es, hes⟩ : ∃ es, es = e0 :: r := ⟨_, rfl⟩
    have hlen : es.length = r.length + 1 := by rw [hes]; rfl
    have h0 : at139 es 0 = e0 := by rw [at139_eq es 0 (by omega)]; simp [hes]
    rw [← hes] at h ⊢
    unfold popE
    rw [downE_mem_iff _ _ 0 (by rw [List.length_take, swpE_length]; omega), mem139]
    obtain ⟨k, hk, e⟩ := (mem139 es x).1 h
    have e9 : swpE es 0 ((es.length - 1 : Nat) : Int) = swpE es ((0 : Nat) : Int) ((es.length - 1 : Nat) : Int) := rfl
    by_cases hk0 : k = 0
    · subst hk0
      exact Or.inl (e.trans h0)
    · refine Or.inr ?_
      by_cases hkl : k = es.length - 1
      · refine ⟨0, by rw [List.length_take, swpE_length]; omega, ?_⟩
        rw [at139_take _ _ _ (by omega) (by rw [swpE_length]; omega), e9, at139_swp es 0 (es.length - 1) 0 (by omega) (by omega) (by omega), if_neg (by omega), if_pos rfl, e, hkl]
      · refine ⟨k, by rw [List.length_take, swpE_length]; omega, ?_⟩
        rw [at139_take _ _ _ (by omega) (by rw [swpE_length]; omega), e9, at139_swp es 0 (es.length - 1) k (by omega) (by omega) (by omega), if_neg hkl, if_neg hk0, e]
theorem pushQ_heap {Q : QQ} (h : Heap Q.es) (c : S124) : Heap (pushQ Q c).es := by
  refine upE_heap _ _ Q.es.length (by simp) (by omega) ?_
  have hat : ∀ i, i < Q.es.length → at139 (Q.es ++ [⟨c, Q.nx, Q.ck⟩]) i = at139 Q.es i := fun i hi => by
    rw [at139_eq _ i (by simp; omega), at139_eq _ i hi, List.getElem_append_left hi]
  constructor
  · intro i h0 hi hne
    rw [List.length_append, List.length_singleton] at hi
    rw [hat i (by omega), hat _ (by omega)]
    exact h i h0 (by omega)
  · intro x hk h0 hx hp
    rw [List.length_append, List.length_singleton] at hx
    omega
theorem pushQ_mem (Q : QQ) (c : S124) (x : S139) : x ∈ (pushQ Q c).es ↔ x ∈ Q.es ∨ x = ⟨c, Q.nx, Q.ck⟩ := by
  show x ∈ upE _ _ _ ↔ _
  rw [upE_mem_iff _ _ _ (by simp) x, List.mem_append, List.mem_singleton]
end Go.Proofs.Ytamimodkcbbpmaa.Pr
end
section
/- Combining values: a closed form; it is monotone and not below its parts; least values are what two conditions say. -/
namespace Go.Proofs.Ytamimodkcbbpmaa.Pr
open Go.RowKit Go.Proofs.YtamimodkcbbpmaaW.PrintWords Go.Proofs.YtamimodkcbbpmaaW.PrintLast Go.Proofs.YtamimodkcbbpmaaXW Go.Proofs.YtamimodkcbbpmaaXM
set_option linter.unusedVariables false
set_option linter.unusedSimpArgs false

/-- A value as the program makes them. -/
structure okV (v : S34) : Prop where
  a : 0 ≤ v.f0
  b : v.f0 ≤ 1099511627776
  c : 0 ≤ v.f1
  d : v.f1 ≤ 1099511627776
  e : v.f0 = 1099511627776 → v.f1 = 0
theorem okV_inf : okV infV := ⟨by decide, by decide, by decide, by decide, fun _ => rfl⟩
theorem okV.le_inf {v : S34} (h : okV v) : LeV v infV := by
  obtain ⟨a, b, c, d, e⟩ := h
  show v.f0 < 1099511627776 ∨ v.f0 = 1099511627776 ∧ v.f1 ≤ 0
  omega
theorem okV.inf_of {v : S34} (h : okV v) (hi : 1099511627776 ≤ v.f0) : v = infV := by
  obtain ⟨a, b, c, d, e⟩ := h
  obtain ⟨v0, v1⟩ := v
  have e0 : v0 = 1099511627776 := by simp only at b hi; omega
  have e1 := e e0
  simp only at e1
  rw [e0, e1]
def s0V (l : List S34) : Int := (l.map S34.f0).sum
def s1V (l : List S34) : Int := (l.map S34.f1).sum
theorem s0V_cons (v : S34) (l : List S34) : s0V (v :: l) = v.f0 + s0V l := by simp [s0V]
theorem s1V_cons (v : S34) (l : List S34) : s1V (v :: l) = v.f1 + s1V l := by simp [s1V]
theorem sV_pos : ∀ l : List S34, (∀ v, v ∈ l → okV v) → 0 ≤ s0V l ∧ 0 ≤ s1V l
  | [], _ => ⟨Int.le_refl _, Int.le_refl _⟩
  | v :: l, h => by
    have hv := h v (List.mem_cons_self ..)
    have ih := sV_pos l (fun x hx => h x (List.mem_cons_of_mem _ hx))
    have h1 := hv.a
    have h2 := hv.c
    rw [s0V_cons, s1V_cons]
    omega
theorem mn_min (a b : Int) : mn a b = min a b := by
  unfold mn
  split <;> omega
theorem foldV : ∀ (l : List S34) (a : S34), (0 ≤ a.f0 ∧ a.f0 ≤ 1099511627776) → (0 ≤ a.f1 ∧ a.f1 ≤ 1099511627776) → (∀ v, v ∈ l → okV v) → l.foldl stepV a = ⟨min (a.f0 + s0V l) 1099511627776, min (a.f1 + s1V l) 1099511627776⟩
  | [], a, h0, h1, _ => by
    obtain ⟨a0, a1⟩ := a
    simp only at h0 h1
    have e0 : min (a0 + 0) 1099511627776 = a0 := by omega
    have e1 : min (a1 + 0) 1099511627776 = a1 := by omega
    show S34.mk a0 a1 = ⟨min (a0 + 0) _, min (a1 + 0) _⟩
    rw [e0, e1]
  | v :: l, a, h0, h1, h => by
    have hv := h v (List.mem_cons_self ..)
    have hl := sV_pos l (fun x hx => h x (List.mem_cons_of_mem _ hx))
    obtain ⟨va, vb, vc, vd, ve⟩ := hv
    have w0 : wrap64 (a.f0 + v.f0) = a.f0 + v.f0 := by unfold wrap64; omega
    have w1 : wrap64 (a.f1 + v.f1) = a.f1 + v.f1 := by unfold wrap64; omega
    rw [List.foldl_cons, foldV l _ ?_ ?_ (fun x hx => h x (List.mem_cons_of_mem _ hx)), s0V_cons, s1V_cons]
    · simp only [stepV, mn_min, w0, w1]
      congr 1 <;> omega
    · simp only [stepV, mn_min, w0]
      omega
    · simp only [stepV, mn_min, w1]
      omega
theorem combV_eq (c : Int) (l : List S34) (hc : 0 ≤ c) (h : ∀ v, v ∈ l → okV v) : combV c l = if 1099511627776 ≤ c + s0V l then infV else ⟨c + s0V l, min (1 + s1V l) 1099511627776⟩ := by
  have hp := sV_pos l h
  unfold combV
  rw [foldV l _ ?_ ?_ h]
  · simp only [mn_min, endV]
    split
    · rename_i h1
      rw [if_pos (by omega)]
    · rename_i h1
      rw [if_neg (by omega)]
      congr 1
      omega
  · simp only [mn_min]; omega
  · simp only; omega
theorem combV_ok (c : Int) (l : List S34) (hc : 0 ≤ c) (h : ∀ v, v ∈ l → okV v) : okV (combV c l) := by
  have hp := sV_pos l h
  rw [combV_eq c l hc h]
  split
  · exact okV_inf
  · constructor <;> simp only <;> omega
theorem sV_mono : ∀ (l l' : List S34), l.length = l'.length → (∀ j, j < l.length → LeV (l.getD j z34) (l'.getD j z34)) → s0V l ≤ s0V l' ∧ (s0V l = s0V l' → s1V l ≤ s1V l')
  | [], [], _, _ => ⟨Int.le_refl _, fun _ => Int.le_refl _⟩
  | v :: l, v' :: l', hl, h => by
    have h0 : LeV v v' := h 0 (by simp)
    have ih := sV_mono l l' (by simpa using hl) (fun j hj => h (j + 1) (by simpa using hj))
    unfold LeV at h0
    rw [s0V_cons, s0V_cons, s1V_cons, s1V_cons]
    omega
  | [], _ :: _, hl, _ => by simp at hl
  | _ :: _, [], hl, _ => by simp at hl
theorem combV_mono (c : Int) (l l' : List S34) (hc : 0 ≤ c) (h : ∀ v, v ∈ l → okV v) (h' : ∀ v, v ∈ l' → okV v) (hl : l.length = l'.length) (hle : ∀ j, j < l.length → LeV (l.getD j z34) (l'.getD j z34)) : LeV (combV c l) (combV c l') := by
  have hm := sV_mono l l' hl hle
  rw [combV_eq c l hc h, combV_eq c l' hc h']
  split <;> split
  · exact LeV.refl _
  · exfalso; omega
  · refine Or.inl ?_
    show c + s0V l < 1099511627776
    omega
  · unfold LeV; simp only; omega
theorem sV_part : ∀ (l : List S34) (j : Nat), j < l.length → (∀ v, v ∈ l → okV v) → (l.getD j z34).f0 ≤ s0V l ∧ (l.getD j z34).f1 ≤ s1V l
  | v :: l, 0, _, h => by
    have hp := sV_pos l (fun x hx => h x (List.mem_cons_of_mem _ hx))
    rw [s0V_cons, s1V_cons, List.getD_cons_zero]
    omega
  | v :: l, j + 1, hj, h => by
    have ih := sV_part l j (by simpa using hj) (fun x hx => h x (List.mem_cons_of_mem _ hx))
    have hv := h v (List.mem_cons_self ..)
    have h1 := hv.a
    have h2 := hv.c
    rw [s0V_cons, s1V_cons, List.getD_cons_succ]
    omega
  | [], j, hj, _ => by simp at hj
theorem getD_mem {α : Type} (l : List α) (j : Nat) (z : α) (h : j < l.length) : l.getD j z ∈ l := by
  rw [List.getD_eq_getElem?_getD, List.getElem?_eq_getElem h]
  exact List.getElem_mem _
theorem combV_super (c : Int) (l : List S34) (hc : 0 ≤ c) (h : ∀ v, v ∈ l → okV v) (j : Nat) (hj : j < l.length) : LeV (l.getD j z34) (combV c l) := by
  have hs := sV_part l j hj h
  have hv := h _ (getD_mem l j z34 hj)
  rw [combV_eq c l hc h]
  split
  · exact hv.le_inf
  · obtain ⟨a, b, c', d, e⟩ := hv
    unfold LeV
    simp only
    omega
theorem combV_inf (c : Int) (l : List S34) (hc : 0 ≤ c) (h : ∀ v, v ∈ l → okV v) (j : Nat) (hj : j < l.length) (hi : l.getD j z34 = infV) : combV c l = infV := by
  have hs := sV_part l j hj h
  rw [hi] at hs
  have h0 := hs.1
  simp only at h0
  rw [combV_eq c l hc h, if_pos (by omega)]

/-- Hyperedges whose costs are in range. -/
def okC (es : List S54) : Prop := ∀ e, e ∈ es → 0 ≤ e.f2 ∧ e.f2 ≤ 1099511627776
theorem okC_rd {es : List S54} (h : okC es) (k : Nat) (h1 : k < es.length) : 0 ≤ (rd_T54 es (k : Int)).f2 ∧ (rd_T54 es (k : Int)).f2 ≤ 1099511627776 := by
  refine h _ ?_
  simp only [rd_T54, Int.toNat_natCast]
  exact getD_mem _ _ _ h1
/-- Node t has a derivation of value v. -/
inductive Der (es : List S54) : Int → S34 → Prop
  | mk (k : Nat) (hk : k < es.length) (vs : List S34) (hl : vs.length = (rd_T54 es (k : Int)).f1.length) (h : ∀ j, j < vs.length → Der es ((rd_T54 es (k : Int)).f1.getD j 0) (vs.getD j z34)) : Der es (rd_T54 es (k : Int)).f0 (combV (rd_T54 es (k : Int)).f2 vs)
theorem all_of_getD {α : Type} {P : α → Prop} (l : List α) (z : α) (h : ∀ j, j < l.length → P (l.getD j z)) : ∀ v, v ∈ l → P v := by
  intro v hv
  obtain ⟨j, hj, e⟩ := List.mem_iff_getElem.1 hv
  have := h j hj
  rw [List.getD_eq_getElem?_getD, List.getElem?_eq_getElem hj, Option.getD_some, e] at this
  exact this
theorem Der.ok {es : List S54} (hc : okC es) {t : Int} {v : S34} (h : Der es t v) : okV v := by
  induction h with
  | mk k hk vs hl _ ih => exact combV_ok _ _ (okC_rd hc k hk).1 (all_of_getD vs z34 ih)
/-- What Knuth's algorithm and the reference both find. -/
structure Sol (n : Nat) (es : List S54) (vs : List S34) : Prop where
  len : vs.length = n
  ok : ∀ v, v ∈ vs → okV v
  fix : ∀ k : Nat, k < es.length → LeV (rd_T34 vs (rd_T54 es (k : Int)).f0) (valE vs (rd_T54 es (k : Int)))
  att : ∀ t : Nat, t < n → rd_T34 vs (t : Int) = infV ∨ Der es (t : Int) (rd_T34 vs (t : Int))
theorem rd34_mem (vs : List S34) (t : Int) (h0 : 0 ≤ t) (h1 : t < (vs.length : Int)) : rd_T34 vs t ∈ vs := by
  unfold rd_T34
  exact getD_mem _ _ _ (by omega)
theorem tailV_getD (vs : List S34) (l : List Int) (j : Nat) (h : j < l.length) : (tailV vs l).getD j z34 = rd_T34 vs (l.getD j 0) := by
  simp [tailV, List.getD_eq_getElem?_getD, List.getElem?_eq_getElem h]
theorem tailV_length (vs : List S34) (l : List Int) : (tailV vs l).length = l.length := by simp [tailV]
theorem tailV_ok {vs : List S34} {l : List Int} (h : ∀ v, v ∈ vs → okV v) (hl : ∀ t, t ∈ l → 0 ≤ t ∧ t < (vs.length : Int)) : ∀ v, v ∈ tailV vs l → okV v := by
  intro v hv
  obtain ⟨t, ht, rfl⟩ := List.mem_map.1 hv
  exact h _ (rd34_mem vs t (hl t ht).1 (hl t ht).2)
theorem Sol.lower {n : Nat} {es : List S54} {vs : List S34} (h : Sol n es vs) (hc : okC es) (he : okE n es) {t : Int} {v : S34} (hd : Der es t v) : LeV (rd_T34 vs t) v := by
  induction hd with
  | mk k hk ws hl hw ih =>
    refine (h.fix k hk).trans ?_
    have hek := okE_rd he (k : Int) (by omega) (by omega)
    refine combV_mono _ _ _ (okC_rd hc k hk).1 (tailV_ok h.ok (fun t ht => by rw [h.len]; exact hek.2.1 t ht)) (all_of_getD ws z34 (fun j hj => (hw j hj).ok hc)) (by rw [tailV_length, hl]) (fun j hj => ?_)
    rw [tailV_length] at hj
    rw [tailV_getD _ _ _ hj]
    exact ih j (by omega)
theorem Sol.le {n : Nat} {es : List S54} {vs ws : List S34} (h : Sol n es vs) (h' : Sol n es ws) (hc : okC es) (he : okE n es) (t : Nat) (ht : t < n) : LeV (rd_T34 vs (t : Int)) (rd_T34 ws (t : Int)) := by
  rcases h'.att t ht with h1 | h1
  · rw [h1]
    exact (h.ok _ (rd34_mem vs t (by omega) (by rw [h.len]; omega))).le_inf
  · exact h.lower hc he h1
theorem Sol.uniq {n : Nat} {es : List S54} {vs ws : List S34} (h : Sol n es vs) (h' : Sol n es ws) (hc : okC es) (he : okE n es) : vs = ws := by
  refine List.ext_getElem (by rw [h.len, h'.len]) (fun i h1 h2 => ?_)
  have hi : i < n := by rw [← h.len]; exact h1
  have h3 := (h.le h' hc he i hi).antisymm (h'.le h hc he i hi)
  simp only [rd_T34, Int.toNat_natCast, List.getD_eq_getElem?_getD, List.getElem?_eq_getElem h1, List.getElem?_eq_getElem h2, Option.getD_some] at h3
  exact h3
end Go.Proofs.Ytamimodkcbbpmaa.Pr
end
section
/- Knuth's algorithm finds the least values. -/
namespace Go.Proofs.Ytamimodkcbbpmaa.Pr
open Go.RowKit Go.Proofs.YtamimodkcbbpmaaW.PrintWords Go.Proofs.YtamimodkcbbpmaaW.PrintLast Go.Proofs.YtamimodkcbbpmaaXW Go.Proofs.YtamimodkcbbpmaaXM
set_option linter.unusedVariables false
set_option linter.unusedSimpArgs false

theorem rd34_set (vs : List S34) (t : Nat) (ht : t < vs.length) (v : S34) (i : Int) (h0 : 0 ≤ i) : rd_T34 (vs.set t v) i = if i = (t : Int) then v else rd_T34 vs i := by
  unfold rd_T34
  rw [getD_set']
  by_cases h : i = (t : Int)
  · rw [if_pos h, if_pos ⟨by omega, ht⟩]
  · rw [if_neg h, if_neg (fun h2 => h (by omega))]
/-- How many tails are not settled. -/
def cntU (st : List Bool) (l : List Int) : Nat := l.countP (fun t => !st.getD t.toNat false)
theorem cntU_set (st : List Bool) (t : Nat) (ht : t < st.length) (hb : st.getD t false = false) : ∀ l : List Int, (∀ x, x ∈ l → 0 ≤ x) → cntU st l = cntU (st.set t true) l + l.count (t : Int)
  | [], _ => rfl
  | x :: l, h => by
    have ih := cntU_set st t ht hb l (fun y hy => h y (List.mem_cons_of_mem _ hy))
    have hx := h x (List.mem_cons_self ..)
    unfold cntU at ih ⊢
    rw [List.countP_cons, List.countP_cons, List.count_cons, getD_set', ih]
    by_cases hxt : x = (t : Int)
    · subst hxt
      simp only [Int.toNat_natCast, hb, ht, and_self, if_true, beq_self_eq_true, Bool.not_false, Bool.not_true]
      simp
      omega
    · have h2 : ¬ (x.toNat = t ∧ t < st.length) := fun h3 => hxt (by omega)
      have h3 : (x == (t : Int)) = false := by rw [beq_eq_false_iff_ne]; exact hxt
      rw [if_neg h2, h3]
      simp
      omega
theorem cntU_zero {st : List Bool} {l : List Int} (h : cntU st l = 0) : ∀ t, t ∈ l → st.getD t.toNat false = true := by
  intro t ht
  have := (List.countP_eq_zero.1 h) t ht
  simpa using this
theorem cntU_pos {st : List Bool} {l : List Int} (h : cntU st l ≠ 0) : ∃ j, j < l.length ∧ st.getD (l.getD j 0).toNat false = false := by
  have := List.countP_pos_iff.1 (Nat.pos_of_ne_zero h)
  obtain ⟨t, ht, hb⟩ := this
  obtain ⟨j, hj, e⟩ := List.mem_iff_getElem.1 ht
  refine ⟨j, hj, ?_⟩
  rw [List.getD_eq_getElem?_getD (l := l), List.getElem?_eq_getElem hj, Option.getD_some, e]
  simpa using hb
theorem cntU_le (st : List Bool) (l : List Int) : cntU st l ≤ l.length := List.countP_le_length

section
variable (n : Nat) (es : List S54)
/-- Hyperedge k can be left out: it gives nothing better than what is there or lies in the queue. -/
def Offd (vs : List S34) (st : List Bool) (Q : QQ) (k : Nat) : Prop :=
  valE vs (rd_T54 es (k : Int)) = infV ∨ (st.getD (rd_T54 es (k : Int)).f0.toNat false = true ∧ LeV (rd_T34 vs (rd_T54 es (k : Int)).f0) (valE vs (rd_T54 es (k : Int)))) ∨ ∃ x, x ∈ Q.es ∧ x.f0.f0 = (rd_T54 es (k : Int)).f0 ∧ x.f0.f1 = valE vs (rd_T54 es (k : Int))
/-- What holds at every time: all values are of derivations; top is the last value that left the queue. -/
structure Core (vs : List S34) (st : List Bool) (Q : QQ) (top : S34) : Prop where
  vl : vs.length = n
  sl : st.length = n
  uns : ∀ t : Nat, t < n → st.getD t false = false → rd_T34 vs (t : Int) = infV
  set : ∀ t : Nat, t < n → st.getD t false = true → Der es (t : Int) (rd_T34 vs (t : Int)) ∧ (rd_T34 vs (t : Int)).f0 < 1099511627776 ∧ LeV (rd_T34 vs (t : Int)) top
  ent : ∀ x, x ∈ Q.es → (0 ≤ x.f0.f0 ∧ x.f0.f0 < (n : Int)) ∧ LeV top x.f0.f1 ∧ x.f0.f1.f0 < 1099511627776 ∧ Der es x.f0.f0 x.f0.f1
  heap : Heap Q.es
structure Pend (st : List Bool) (op : List Int) (l : List Int) : Prop where
  ol : op.length = es.length
  op : ∀ k : Nat, k < es.length → op.getD k 0 = ((cntU st (rd_T54 es (k : Int)).f1 + l.count (k : Int) : Nat) : Int)
  bd : ∀ k : Nat, k < es.length → cntU st (rd_T54 es (k : Int)).f1 + l.count (k : Int) ≤ 1000000
end
section
variable {n : Nat} {es : List S54}
theorem Core.okvs {vs : List S34} {st : List Bool} {Q : QQ} {top : S34} (h : Core n es vs st Q top) (hc : okC es) : ∀ v, v ∈ vs → okV v := by
  refine all_of_getD vs z34 (fun j hj => ?_)
  have hj' : j < n := by rw [← h.vl]; exact hj
  have e : vs.getD j z34 = rd_T34 vs (j : Int) := rfl
  rw [e]
  cases hb : st.getD j false with
  | false => rw [h.uns j hj' hb]; exact okV_inf
  | true => exact (h.set j hj' hb).1.ok hc
theorem Core.val {vs : List S34} {st : List Bool} {Q : QQ} {top : S34} (h : Core n es vs st Q top) (hc : okC es) (he : okE n es) (k : Nat) (hk : k < es.length) : okV (valE vs (rd_T54 es (k : Int))) := by
  have hek := okE_rd he (k : Int) (by omega) (by omega)
  exact combV_ok _ _ (okC_rd hc k hk).1 (tailV_ok (h.okvs hc) (fun t ht => by rw [h.vl]; exact hek.2.1 t ht))
theorem Core.offer {vs : List S34} {st : List Bool} {Q : QQ} {top : S34} (h : Core n es vs st Q top) (hc : okC es) (he : okE n es) (k : Nat) (hk : k < es.length) (hs : ∀ t, t ∈ (rd_T54 es (k : Int)).f1 → st.getD t.toNat false = true) (ht : LeV top (valE vs (rd_T54 es (k : Int)))) :
    Core n es vs st (offerQ es vs st Q (k : Int)) top ∧ Offd es vs st (offerQ es vs st Q (k : Int)) k ∧ ∀ j, Offd es vs st Q j → Offd es vs st (offerQ es vs st Q (k : Int)) j := by
  have hek := okE_rd he (k : Int) (by omega) (by omega)
  have hv := h.val hc he k hk
  have hder : Der es (rd_T54 es (k : Int)).f0 (valE vs (rd_T54 es (k : Int))) := by
    refine Der.mk k hk _ (tailV_length _ _) (fun j hj => ?_)
    rw [tailV_length] at hj
    rw [tailV_getD _ _ _ hj]
    have hm := getD_mem (rd_T54 es (k : Int)).f1 j 0 hj
    have h1 := hek.2.1 _ hm
    have h2 := hs _ hm
    have h3 := (h.set ((rd_T54 es (k : Int)).f1.getD j 0).toNat (by omega) h2).1
    rw [Int.toNat_of_nonneg h1.1] at h3
    exact h3
  unfold offerQ
  split
  · rename_i hif
    refine ⟨⟨h.vl, h.sl, h.uns, h.set, fun x hx => ?_, pushQ_heap h.heap _⟩, Or.inr (Or.inr ⟨_, (pushQ_mem Q _ _).2 (Or.inr rfl), rfl, rfl⟩), fun j hj => ?_⟩
    · rcases (pushQ_mem Q _ _).1 hx with h1 | h1
      · exact h.ent x h1
      · subst h1
        exact ⟨hek.1, ht, hif.1, hder⟩
    · rcases hj with h1 | h1 | ⟨x, hx, h2⟩
      · exact Or.inl h1
      · exact Or.inr (Or.inl h1)
      · exact Or.inr (Or.inr ⟨x, (pushQ_mem Q _ _).2 (Or.inl hx), h2⟩)
  · rename_i hif
    refine ⟨h, ?_, fun j hj => hj⟩
    by_cases hlt : (valE vs (rd_T54 es (k : Int))).f0 < 1099511627776
    · have hst : st.getD (rd_T54 es (k : Int)).f0.toNat false = true := by
        rcases Bool.eq_false_or_eq_true (st.getD (rd_T54 es (k : Int)).f0.toNat false) with h1 | h1
        · exact h1
        · exact absurd ⟨hlt, h1⟩ hif
      have h3 := (h.set (rd_T54 es (k : Int)).f0.toNat (by omega) hst).2.2
      rw [Int.toNat_of_nonneg hek.1.1] at h3
      exact Or.inr (Or.inl ⟨hst, h3.trans ht⟩)
    · exact Or.inl (hv.inf_of (by omega))
theorem settleL_inv {vs : List S34} {st : List Bool} {top : S34} (hc : okC es) (he : okE n es) : ∀ (l : List Int) (op : List Int) (Q : QQ), (∀ k, k ∈ l → (0 ≤ k ∧ k < (es.length : Int)) ∧ LeV top (valE vs (rd_T54 es k))) → Core n es vs st Q top → Pend es st op l → (∀ k : Nat, k < es.length → op.getD k 0 = 0 → Offd es vs st Q k) →
    Core n es vs st (settleL es vs st l (op, Q)).2 top ∧ Pend es st (settleL es vs st l (op, Q)).1 [] ∧ ∀ k : Nat, k < es.length → (settleL es vs st l (op, Q)).1.getD k 0 = 0 → Offd es vs st (settleL es vs st l (op, Q)).2 k
  | [], op, Q, _, h, hp, ho => ⟨h, hp, ho⟩
  | k :: l, op, Q, hl, h, hp, ho => by
    obtain ⟨⟨hk0, hk1⟩, hkt⟩ := hl k (List.mem_cons_self ..)
    obtain ⟨kn, rfl⟩ : ∃ kn : Nat, k = (kn : Int) := ⟨k.toNat, by omega⟩
    have hkn : kn < es.length := by omega
    have hop := hp.op kn hkn
    have hbd := hp.bd kn hkn
    rw [List.count_cons_self] at hop hbd
    have hrd : rd op (kn : Int) = op.getD kn 0 := rfl
    have hw : wrap64 (rd op (kn : Int) - 1) = ((cntU st (rd_T54 es (kn : Int)).f1 + l.count (kn : Int) : Nat) : Int) := by
      rw [hrd, hop]
      unfold wrap64
      omega
    have hstep : settleL es vs st ((kn : Int) :: l) (op, Q) = settleL es vs st l (settleStep es vs st (op, Q) (kn : Int)) := rfl
    have hrd2 : rd (op.set (kn : Int).toNat (wrap64 (rd op (kn : Int) - 1))) (kn : Int) = ((cntU st (rd_T54 es (kn : Int)).f1 + l.count (kn : Int) : Nat) : Int) := by
      show (op.set kn _).getD kn 0 = _
      rw [getD_set', if_pos ⟨rfl, by rw [hp.ol]; exact hkn⟩, hw]
    have hp2 : Pend es st (op.set (kn : Int).toNat (wrap64 (rd op (kn : Int) - 1))) l := by
      refine ⟨by rw [List.length_set]; exact hp.ol, fun j hj => ?_, fun j hj => ?_⟩
      · show (op.set kn _).getD j 0 = _
        rw [getD_set']
        by_cases hjk : j = kn
        · subst hjk
          rw [if_pos ⟨rfl, by rw [hp.ol]; exact hkn⟩, hw]
        · rw [if_neg (fun h2 => hjk h2.1), hp.op j hj, List.count_cons_of_ne (by omega)]
      · have := hp.bd j hj
        rw [List.count_cons] at this
        omega
    have hl2 : ∀ k, k ∈ l → (0 ≤ k ∧ k < (es.length : Int)) ∧ LeV top (valE vs (rd_T54 es k)) := fun k hk => hl k (List.mem_cons_of_mem _ hk)
    have hoth : ∀ j : Nat, j < es.length → j ≠ kn → (op.set (kn : Int).toNat (wrap64 (rd op (kn : Int) - 1))).getD j 0 = op.getD j 0 := fun j hj hne => by
      show (op.set kn _).getD j 0 = _
      rw [getD_set', if_neg (fun h2 => hne h2.1)]
    rw [hstep]
    unfold settleStep
    simp only
    rw [hrd2]
    split
    · rename_i hz
      have hcz : cntU st (rd_T54 es (kn : Int)).f1 = 0 := by omega
      obtain ⟨h1, h2, h3⟩ := h.offer hc he kn hkn (cntU_zero hcz) hkt
      refine settleL_inv hc he l _ _ hl2 h1 hp2 (fun j hj hz2 => ?_)
      by_cases hjk : j = kn
      · rw [hjk]; exact h2
      · rw [hoth j hj hjk] at hz2
        exact h3 j (ho j hj hz2)
    · rename_i hz
      refine settleL_inv hc he l _ _ hl2 h hp2 (fun j hj hz2 => ?_)
      by_cases hjk : j = kn
      · subst hjk
        exact absurd (hrd2.symm.trans hz2) (fun e => hz e)
      · rw [hoth j hj hjk] at hz2
        exact ho j hj hz2
/-- The invariant of the main loop. -/
structure Inv (n : Nat) (es : List S54) (m : MS) (top : S34) : Prop where
  core : Core n es m.vs m.st m.Q top
  pend : Pend es m.st m.op []
  off : ∀ k : Nat, k < es.length → m.op.getD k 0 = 0 → Offd es m.vs m.st m.Q k
theorem Core.least {vs : List S34} {st : List Bool} {Q : QQ} {top : S34} (h : Core n es vs st Q top) {e0 : S139} {r : List S139} (hq : Q.es = e0 :: r) : ∀ x, x ∈ Q.es → LeV e0.f0.f1 x.f0.f1 := by
  intro x hx
  obtain ⟨k, hk, e⟩ := (mem139 _ x).1 hx
  have h0 : at139 Q.es 0 = e0 := by rw [at139_eq Q.es 0 (by rw [hq]; simp)]; simp [hq]
  have := leB_val (h.heap.root k hk)
  rw [h0, ← e] at this
  exact this
theorem Inv.step {us : List (List Int)} {m : MS} {top : S34} (h : Inv n es m top) (hc : okC es) (he : okE n es) (hul : ∀ t k, k ∈ us.getD t [] → 0 ≤ k ∧ k < (es.length : Int)) (hus : ∀ t k : Nat, t < n → k < es.length → (us.getD t []).count (k : Int) = (rd_T54 es (k : Int)).f1.count (t : Int))
    {e0 : S139} {r : List S139} (hq : m.Q.es = e0 :: r) : Inv n es (mainStep es us m e0) e0.f0.f1 := by
  have h0m : e0 ∈ m.Q.es := by rw [hq]; exact List.mem_cons_self ..
  obtain ⟨hn0, htop, hfin, hder⟩ := h.core.ent e0 h0m
  have hle := h.core.least hq
  have hpop : ∀ x, x ∈ popE m.Q.es → x ∈ m.Q.es := fun x hx => by rw [hq] at hx ⊢; exact popE_mem e0 r x hx
  have hkeep : ∀ x, x ∈ m.Q.es → x = e0 ∨ x ∈ popE m.Q.es := fun x hx => by rw [hq] at hx ⊢; exact popE_keep e0 r x hx
  obtain ⟨t, ht⟩ : ∃ t : Nat, e0.f0.f0 = (t : Int) := ⟨e0.f0.f0.toNat, by omega⟩
  have htn : t < n := by omega
  unfold mainStep
  rw [ht, Int.toNat_natCast]
  split
  · rename_i hst
    refine ⟨⟨h.core.vl, h.core.sl, h.core.uns, fun i hi hb => ⟨(h.core.set i hi hb).1, (h.core.set i hi hb).2.1, (h.core.set i hi hb).2.2.trans htop⟩, fun x hx => ⟨(h.core.ent x (hpop x hx)).1, hle x (hpop x hx), (h.core.ent x (hpop x hx)).2.2⟩, popE_heap h.core.heap⟩, h.pend, fun k hk hz => ?_⟩
    rcases h.off k hk hz with h1 | h1 | ⟨x, hx, h2, h3⟩
    · exact Or.inl h1
    · exact Or.inr (Or.inl h1)
    · rcases hkeep x hx with rfl | h4
      · refine Or.inr (Or.inl ⟨?_, ?_⟩)
        · rw [← h2, ht, Int.toNat_natCast]; exact hst
        · rw [← h2, ← h3, ht]
          exact (h.core.set t htn hst).2.2.trans htop
      · exact Or.inr (Or.inr ⟨x, h4, h2, h3⟩)
  · rename_i hst
    have hst' : m.st.getD t false = false := by simpa using hst
    have hsl : t < m.st.length := by rw [h.core.sl]; exact htn
    have hvl : t < m.vs.length := by rw [h.core.vl]; exact htn
    have hval : ∀ k : Nat, k < es.length → (∀ x, x ∈ (rd_T54 es (k : Int)).f1 → x ≠ (t : Int)) → valE (m.vs.set t e0.f0.f1) (rd_T54 es (k : Int)) = valE m.vs (rd_T54 es (k : Int)) := fun k hk hx => by
      have hek := okE_rd he (k : Int) (by omega) (by omega)
      unfold valE tailV
      congr 1
      refine List.map_congr_left (fun x hxm => ?_)
      rw [rd34_set m.vs t hvl _ x (hek.2.1 x hxm).1, if_neg (hx x hxm)]
    have hcore : Core n es (m.vs.set t e0.f0.f1) (m.st.set t true) ⟨popE m.Q.es, m.Q.nx, m.Q.ck⟩ e0.f0.f1 := by
      refine ⟨by rw [List.length_set]; exact h.core.vl, by rw [List.length_set]; exact h.core.sl, fun i hi hb => ?_, fun i hi hb => ?_, fun x hx => ⟨(h.core.ent x (hpop x hx)).1, hle x (hpop x hx), (h.core.ent x (hpop x hx)).2.2⟩, popE_heap h.core.heap⟩
      · rw [getD_set'] at hb
        rw [rd34_set m.vs t hvl _ _ (by omega)]
        by_cases hit : i = t
        · subst hit
          rw [if_pos ⟨rfl, hsl⟩] at hb
          cases hb
        · rw [if_neg (fun h2 => hit h2.1)] at hb
          rw [if_neg (by omega)]
          exact h.core.uns i hi hb
      · rw [getD_set'] at hb
        rw [rd34_set m.vs t hvl _ _ (by omega)]
        by_cases hit : i = t
        · subst hit
          rw [if_pos rfl, ← ht]
          exact ⟨hder, hfin, LeV.refl _⟩
        · rw [if_neg (fun h2 => hit h2.1)] at hb
          rw [if_neg (by omega)]
          exact ⟨(h.core.set i hi hb).1, (h.core.set i hi hb).2.1, (h.core.set i hi hb).2.2.trans htop⟩
    have hset : ∀ k : Nat, k < es.length → cntU m.st (rd_T54 es (k : Int)).f1 = cntU (m.st.set t true) (rd_T54 es (k : Int)).f1 + (rd_T54 es (k : Int)).f1.count (t : Int) := fun k hk => by
      have hek := okE_rd he (k : Int) (by omega) (by omega)
      exact cntU_set m.st t hsl hst' _ (fun x hx => (hek.2.1 x hx).1)
    have hpend : Pend es (m.st.set t true) m.op (us.getD t []) := by
      refine ⟨h.pend.ol, fun k hk => ?_, fun k hk => ?_⟩
      · have h1 := h.pend.op k hk
        rw [List.count_nil, Nat.add_zero, hset k hk] at h1
        rw [hus t k htn hk]
        exact h1
      · have h1 := h.pend.bd k hk
        rw [List.count_nil, Nat.add_zero, hset k hk] at h1
        rw [hus t k htn hk]
        exact h1
    have hoff : ∀ k : Nat, k < es.length → m.op.getD k 0 = 0 → Offd es (m.vs.set t e0.f0.f1) (m.st.set t true) ⟨popE m.Q.es, m.Q.nx, m.Q.ck⟩ k := fun k hk hz => by
      have hek := okE_rd he (k : Int) (by omega) (by omega)
      have hcz : cntU m.st (rd_T54 es (k : Int)).f1 = 0 := by
        have h1 := h.pend.op k hk
        rw [List.count_nil, Nat.add_zero, hz] at h1
        omega
      have hv := hval k hk (fun x hx hxt => by
        have := cntU_zero hcz x hx
        rw [hxt, Int.toNat_natCast, hst'] at this
        cases this)
      unfold Offd
      rw [hv, rd34_set m.vs t hvl _ _ hek.1.1, getD_set']
      rcases h.off k hk hz with h1 | ⟨h1, h1'⟩ | ⟨x, hx, h2, h3⟩
      · exact Or.inl h1
      · have hne : ¬ (rd_T54 es (k : Int)).f0 = (t : Int) := fun e => by rw [e, Int.toNat_natCast, hst'] at h1; cases h1
        refine Or.inr (Or.inl ?_)
        rw [if_neg (fun h5 => hne (by omega)), if_neg hne]
        exact ⟨h1, h1'⟩
      · rcases hkeep x hx with rfl | h4
        · refine Or.inr (Or.inl ?_)
          rw [if_pos ⟨by omega, hsl⟩, if_pos (by omega), h3]
          exact ⟨rfl, LeV.refl _⟩
        · exact Or.inr (Or.inr ⟨x, h4, h2, h3⟩)
    have hl : ∀ k, k ∈ us.getD t [] → (0 ≤ k ∧ k < (es.length : Int)) ∧ LeV e0.f0.f1 (valE (m.vs.set t e0.f0.f1) (rd_T54 es k)) := fun k hk => by
      have h1 := hul t k hk
      refine ⟨h1, ?_⟩
      obtain ⟨kn, rfl⟩ : ∃ kn : Nat, k = (kn : Int) := ⟨k.toNat, by omega⟩
      have hkn : kn < es.length := by omega
      have hek := okE_rd he (kn : Int) (by omega) (by omega)
      have hcnt : 0 < (rd_T54 es (kn : Int)).f1.count (t : Int) := by rw [← hus t kn htn hkn]; exact List.count_pos_iff.2 hk
      obtain ⟨j, hj, ej⟩ := List.mem_iff_getElem.1 (List.count_pos_iff.1 hcnt)
      have hs := combV_super (rd_T54 es (kn : Int)).f2 (tailV (m.vs.set t e0.f0.f1) (rd_T54 es (kn : Int)).f1) (okC_rd hc kn hkn).1 (tailV_ok (hcore.okvs hc) (fun x hx => by rw [hcore.vl]; exact hek.2.1 x hx)) j (by rw [tailV_length]; exact hj)
      rw [tailV_getD _ _ _ hj, List.getD_eq_getElem?_getD (l := (rd_T54 es (kn : Int)).f1), List.getElem?_eq_getElem hj, Option.getD_some, ej, rd34_set m.vs t hvl _ _ (by omega), if_pos rfl] at hs
      exact hs
    obtain ⟨r1, r2, r3⟩ := settleL_inv hc he (us.getD t []) m.op ⟨popE m.Q.es, m.Q.nx, m.Q.ck⟩ hl hcore hpend hoff
    exact ⟨r1, r2, r3⟩
theorem mainL_inv {us : List (List Int)} (hc : okC es) (he : okE n es) (hus : ∀ t k : Nat, t < n → k < es.length → (us.getD t []).count (k : Int) = (rd_T54 es (k : Int)).f1.count (t : Int)) : ∀ (g : Nat) (m : MS) (top : S34), Inv n es m top → okM n es us m → mu us m < g → ∃ top', Inv n es (mainL es us g m) top' ∧ (mainL es us g m).Q.es = []
  | 0, m, top, _, _, hg => absurd hg (by omega)
  | g + 1, m, top, h, hm, hg => by
    cases hq : m.Q.es with
    | nil =>
      have e : mainL es us (g + 1) m = m := by simp only [mainL, hq]
      rw [e]
      exact ⟨top, h, hq⟩
    | cons e0 r =>
      rw [mainL_succ es us g m e0 r hq]
      have hs := okM_step hm he hq
      exact mainL_inv hc he hus g _ _ (h.step hc he hm.us hus hq) hs.1 (by omega)
theorem Inv.sol {m : MS} {top : S34} (h : Inv n es m top) (hc : okC es) (he : okE n es) (hq : m.Q.es = []) : Sol n es m.vs := by
  have hok := h.core.okvs hc
  refine ⟨h.core.vl, hok, fun k hk => ?_, fun t ht => ?_⟩
  · have hek := okE_rd he (k : Int) (by omega) (by omega)
    have hhd := hok _ (rd34_mem m.vs (rd_T54 es (k : Int)).f0 hek.1.1 (by rw [h.core.vl]; exact hek.1.2))
    by_cases hz : cntU m.st (rd_T54 es (k : Int)).f1 = 0
    · have h1 := h.pend.op k hk
      rw [List.count_nil, Nat.add_zero, hz] at h1
      rcases h.off k hk h1 with h2 | h2 | ⟨x, hx, _⟩
      · rw [h2]; exact hhd.le_inf
      · exact h2.2
      · rw [hq] at hx; cases hx
    · obtain ⟨j, hj, hb⟩ := cntU_pos hz
      have hm := hek.2.1 _ (getD_mem _ j 0 hj)
      have hi := h.core.uns ((rd_T54 es (k : Int)).f1.getD j 0).toNat (by omega) hb
      rw [Int.toNat_of_nonneg hm.1] at hi
      have : valE m.vs (rd_T54 es (k : Int)) = infV := combV_inf _ _ (okC_rd hc k hk).1 (tailV_ok hok (fun x hx => by rw [h.core.vl]; exact hek.2.1 x hx)) j (by rw [tailV_length]; exact hj) (by rw [tailV_getD _ _ _ hj]; exact hi)
      rw [this]
      exact hhd.le_inf
  · cases hb : m.st.getD t false with
    | false => exact Or.inl (h.core.uns t ht hb)
    | true => exact Or.inr (h.core.set t ht hb).1
theorem usT_count (us : List (List Int)) (k : Int) (t : Nat) (ht : t < us.length) (x : Int) : ∀ l : List Int, (∀ y, y ∈ l → 0 ≤ y) → ((usT us k l).getD t []).count x = (us.getD t []).count x + if x = k then l.count (t : Int) else 0 := by
  intro l
  induction l generalizing us with
  | nil => intro _; simp [usT]
  | cons y l ih =>
    intro h
    have hy := h y (List.mem_cons_self ..)
    have e : usT us k (y :: l) = usT (us.set y.toNat (us.getD y.toNat [] ++ [k])) k l := rfl
    rw [e, ih _ (by rw [List.length_set]; exact ht) (fun z hz => h z (List.mem_cons_of_mem _ hz)), getD_set', List.count_cons]
    by_cases hyt : y = (t : Int)
    · subst hyt
      rw [if_pos ⟨by omega, by omega⟩, Int.toNat_natCast, List.count_append, List.count_singleton]
      by_cases hx : x = k
      · subst hx
        simp
        omega
      · have : (k == x) = false := by rw [beq_eq_false_iff_ne]; exact fun h => hx h.symm
        rw [this, if_neg hx, if_neg hx]
        simp
    · have h2 : (y == (t : Int)) = false := by rw [beq_eq_false_iff_ne]; exact hyt
      rw [if_neg (fun h3 => hyt (by omega)), h2]
      simp
theorem usB_count (he : okE n es) (t : Nat) (ht : t < n) (k : Nat) : ∀ i, i ≤ es.length → ((usB n es i).getD t []).count (k : Int) = if k < i then (rd_T54 es (k : Int)).f1.count (t : Int) else 0
  | 0, _ => by
    simp only [usB, List.getD_eq_getElem?_getD, List.getElem?_replicate]
    rw [if_pos ht]
    simp
  | i + 1, hi => by
    have ih := usB_count he t ht k i (by omega)
    have hei := okE_rd he (i : Int) (by omega) (by omega)
    have e : usB n es (i + 1) = usT (usB n es i) (i : Nat) (rd_T54 es (i : Nat)).f1 := rfl
    rw [e, usT_count _ _ t (by rw [usB_length]; exact ht) _ _ (fun y hy => (hei.2.1 y hy).1), ih]
    by_cases h1 : k < i
    · rw [if_pos h1, if_neg (by omega), if_pos (by omega)]
      rfl
    · by_cases h2 : k = i
      · subst h2
        rw [if_neg h1, if_pos rfl, if_pos (by omega)]
        omega
      · rw [if_neg h1, if_neg (by omega), if_neg (by omega)]
theorem getD_replicate' {α : Type} (m i : Nat) (a d : α) (h : i < m) : (List.replicate m a).getD i d = a := by
  simp [List.getD_eq_getElem?_getD, List.getElem?_replicate, h]
theorem initQ_inv (hc : okC es) (he : okE n es) : ∀ k, k ≤ es.length → Core n es (List.replicate n infV) (List.replicate n false) (initQ es (List.replicate n infV) (List.replicate n false) k) ⟨0, 0⟩ ∧ ∀ j, j < k → (rd_T54 es (j : Int)).f1.length = 0 → Offd es (List.replicate n infV) (List.replicate n false) (initQ es (List.replicate n infV) (List.replicate n false) k) j
  | 0, _ => by
    refine ⟨⟨by simp, by simp, fun t ht _ => getD_replicate' n t _ _ ht, fun t ht hb => ?_, fun x hx => by simp [initQ] at hx, fun i h0 h1 => by simp [initQ] at h1⟩, fun j hj => absurd hj (by omega)⟩
    rw [getD_replicate' n t _ _ ht] at hb
    cases hb
  | k + 1, hk => by
    obtain ⟨h1, h2⟩ := initQ_inv hc he k (by omega)
    rw [initQ_succ]
    split
    · rename_i hz
      have hv := h1.val hc he k (by omega)
      obtain ⟨r1, r2, r3⟩ := h1.offer hc he k (by omega) (fun t ht => by rw [List.eq_nil_of_length_eq_zero hz] at ht; cases ht) (by
        have ha := hv.a
        have hb := hv.c
        unfold LeV
        simp only
        omega)
      refine ⟨r1, fun j hj hz2 => ?_⟩
      by_cases hjk : j = k
      · rw [hjk]; exact r2
      · exact r3 j (h2 j (by omega) hz2)
    · rename_i hz
      refine ⟨h1, fun j hj hz2 => ?_⟩
      by_cases hjk : j = k
      · rw [hjk] at hz2; exact absurd hz2 hz
      · exact h2 j (by omega) hz2
theorem cntU_none (m : Nat) : ∀ l : List Int, cntU (List.replicate m false) l = l.length
  | [] => rfl
  | x :: l => by
    have ih := cntU_none m l
    unfold cntU at ih ⊢
    rw [List.countP_cons, ih, List.length_cons]
    have : (List.replicate m false).getD x.toNat false = false := by
      simp only [List.getD_eq_getElem?_getD, List.getElem?_replicate]
      split <;> rfl
    rw [this]
    rfl
theorem init_inv (hc : okC es) (he : okE n es) : Inv n es (m0L n es) ⟨0, 0⟩ := by
  obtain ⟨h1, h2⟩ := initQ_inv hc he es.length (Nat.le_refl _)
  refine ⟨h1, ⟨by simp [m0L, opB], fun k hk => ?_, fun k hk => ?_⟩, fun k hk hz => ?_⟩
  · have := opB_get es k hk
    rw [Int.toNat_natCast] at this
    show (opB es es.length).getD k 0 = _
    rw [this]
    show _ = ((cntU (List.replicate n false) _ + _ : Nat) : Int)
    rw [cntU_none, List.count_nil]
    rfl
  · show cntU (List.replicate n false) _ + _ ≤ _
    rw [cntU_none, List.count_nil]
    exact (okE_rd he (k : Int) (by omega) (by omega)).2.2
  · have := opB_get es k hk
    rw [Int.toNat_natCast] at this
    have hz2 : (opB es es.length).getD k 0 = 0 := hz
    rw [this] at hz2
    exact h2 k hk (by omega)
theorem endM_inv (hc : okC es) (he : okE n es) (hT : ∀ e, e ∈ es → e.f1.length ≤ 100) (hl : es.length ≤ 1000) : ∃ top, Inv n es (endM n es) top ∧ (endM n es).Q.es = [] :=
  mainL_inv hc he (fun t k ht hk => by rw [usB_count he t ht k es.length (Nat.le_refl _), if_pos hk]) 1000000 (m0L n es) ⟨0, 0⟩ (init_inv hc he) (okM_init n es he (m0L n es) rfl) (mu_init n es hT hl (m0L n es) rfl)
theorem endM_sol (hc : okC es) (he : okE n es) (hT : ∀ e, e ∈ es → e.f1.length ≤ 100) (hl : es.length ≤ 1000) : Sol n es (endM n es).vs := by
  obtain ⟨top, h, hq⟩ := endM_inv hc he hT hl
  exact h.sol hc he hq
end
end Go.Proofs.Ytamimodkcbbpmaa.Pr
end
section
/- The hyperedges that Solve chooses: for each node the first that attains its least value. -/
namespace Go.Proofs.Ytamimodkcbbpmaa.Pr
open Go.RowKit Go.Proofs.YtamimodkcbbpmaaW.PrintWords Go.Proofs.YtamimodkcbbpmaaW.PrintLast Go.Proofs.YtamimodkcbbpmaaXW Go.Proofs.YtamimodkcbbpmaaXM
set_option linter.unusedVariables false
set_option linter.unusedSimpArgs false

theorem edL_length (n : Nat) (es : List S54) (vs : List S34) (st : List Bool) : ∀ k, (edL n es vs st k).length = n
  | 0 => by simp [edL]
  | k + 1 => by
    have ih := edL_length n es vs st k
    rw [edL_succ]
    unfold edStep
    split
    · rw [List.length_set]; exact ih
    · exact ih
/-- Hyperedge k attains the finite least value of node t. -/
def Tight (es : List S54) (vs : List S34) (k : Nat) (t : Int) : Prop := (rd_T54 es (k : Int)).f0 = t ∧ (rd_T34 vs t).f0 < 1099511627776 ∧ valE vs (rd_T54 es (k : Int)) = rd_T34 vs t
/-- The choice is the first among the hyperedges below m. -/
structure Chosen (n : Nat) (es : List S54) (vs : List S34) (m : Nat) (ed : List Int) : Prop where
  len : ed.length = n
  ch : ∀ t : Nat, t < n → (ed.getD t 0 = -1 ∧ ∀ k, k < m → ¬ Tight es vs k (t : Int)) ∨ ∃ k, k < m ∧ ed.getD t 0 = (k : Int) ∧ Tight es vs k (t : Int) ∧ ∀ j, j < k → ¬ Tight es vs j (t : Int)
theorem Chosen.uniq {n : Nat} {es : List S54} {vs : List S34} {m : Nat} {a b : List Int} (ha : Chosen n es vs m a) (hb : Chosen n es vs m b) : a = b := by
  refine List.ext_getElem (by rw [ha.len, hb.len]) (fun i h1 h2 => ?_)
  have hi : i < n := by rw [← ha.len]; exact h1
  have h3 : a.getD i 0 = b.getD i 0 := by
    rcases ha.ch i hi with ⟨ea, ta⟩ | ⟨k, hk, ea, ta, fa⟩ <;> rcases hb.ch i hi with ⟨eb, tb⟩ | ⟨j, hj, eb, tb, fb⟩
    · rw [ea, eb]
    · exact absurd tb (ta j hj)
    · exact absurd ta (tb k hk)
    · rw [ea, eb]
      by_cases h4 : k < j
      · exact absurd ta (fb k h4)
      · by_cases h5 : j < k
        · exact absurd tb (fa j h5)
        · omega
  simp only [List.getD_eq_getElem?_getD, List.getElem?_eq_getElem h1, List.getElem?_eq_getElem h2, Option.getD_some] at h3
  exact h3
theorem edL_chosen {n : Nat} {es : List S54} {vs : List S34} {st : List Bool} (he : okE n es) (hst : ∀ t : Nat, t < n → (st.getD t false = true ↔ (rd_T34 vs (t : Int)).f0 < 1099511627776)) : ∀ m, m ≤ es.length → Chosen n es vs m (edL n es vs st m)
  | 0, _ => ⟨by simp [edL], fun t ht => Or.inl ⟨getD_replicate' n t _ _ ht, fun k hk => absurd hk (by omega)⟩⟩
  | m + 1, hm => by
    have ih := edL_chosen he hst m (by omega)
    have hek := okE_rd he (m : Int) (by omega) (by omega)
    obtain ⟨hd, hhd⟩ : ∃ hd : Nat, (rd_T54 es (m : Int)).f0 = (hd : Int) := ⟨(rd_T54 es (m : Int)).f0.toNat, by omega⟩
    have hdn : hd < n := by omega
    rw [edL_succ]
    unfold edStep
    rw [hhd, Int.toNat_natCast]
    have hneg : ∀ t : Nat, t < n → ((edL n es vs st m).getD t 0 < 0 ↔ ∀ k, k < m → ¬ Tight es vs k (t : Int)) := fun t ht => by
      rcases ih.ch t ht with ⟨e, h⟩ | ⟨k, hk, e, h, _⟩
      · rw [e]; exact ⟨fun _ => h, fun _ => by decide⟩
      · rw [e]; exact ⟨fun h2 => absurd h2 (by omega), fun h2 => absurd h (h2 k hk)⟩
    split
    · rename_i hif
      obtain ⟨i1, i2, i3⟩ := hif
      have htm : Tight es vs m (hd : Int) := ⟨hhd, (hst hd hdn).1 i2, (eqV_iff _ _).1 i3⟩
      refine ⟨by rw [List.length_set]; exact ih.len, fun t ht => ?_⟩
      rw [getD_set']
      by_cases hth : t = hd
      · subst hth
        rw [if_pos ⟨rfl, by rw [ih.len]; exact ht⟩]
        exact Or.inr ⟨m, by omega, rfl, htm, (hneg t ht).1 i1⟩
      · rw [if_neg (fun h => hth h.1)]
        rcases ih.ch t ht with ⟨e, h⟩ | ⟨k, hk, e, h⟩
        · refine Or.inl ⟨e, fun k hk hT => ?_⟩
          by_cases hkm : k = m
          · subst hkm
            have := hT.1
            omega
          · exact h k (by omega) hT
        · exact Or.inr ⟨k, by omega, e, h⟩
    · rename_i hif
      refine ⟨ih.len, fun t ht => ?_⟩
      rcases ih.ch t ht with ⟨e, h⟩ | ⟨k, hk, e, h⟩
      · refine Or.inl ⟨e, fun k hk hT => ?_⟩
        by_cases hkm : k = m
        · subst hkm
          have hth : (t : Int) = (hd : Int) := hT.1.symm.trans hhd
          obtain rfl : t = hd := by omega
          exact hif ⟨by rw [e]; decide, (hst t ht).2 hT.2.1, (eqV_iff _ _).2 hT.2.2⟩
        · exact h k (by omega) hT
      · exact Or.inr ⟨k, by omega, e, h⟩
theorem Inv.settled {n : Nat} {es : List S54} {m : MS} {top : S34} (h : Inv n es m top) (t : Nat) (ht : t < n) : m.st.getD t false = true ↔ (rd_T34 m.vs (t : Int)).f0 < 1099511627776 := by
  cases hb : m.st.getD t false with
  | false =>
    rw [h.core.uns t ht hb]
    exact ⟨fun h => (by cases h), fun h => absurd h (by decide)⟩
  | true => exact ⟨fun _ => (h.core.set t ht hb).2.1, fun _ => rfl⟩
theorem solE_chosen {n : Nat} {es : List S54} (hc : okC es) (he : okE n es) (hT : ∀ e, e ∈ es → e.f1.length ≤ 100) (hl : es.length ≤ 1000) : Chosen n es (solV n es) es.length (solE n es) := by
  obtain ⟨top, h, hq⟩ := endM_inv hc he hT hl
  exact edL_chosen he (fun t ht => h.settled t ht) es.length (Nat.le_refl _)
end Go.Proofs.Ytamimodkcbbpmaa.Pr
end
section
/- Printed by a program of this session (a turned print of the kit's) out of the translation: each Go function as a Lean function, and the proof that the machine's call answers what it says. Lean checks it. -/
namespace Go.Proofs.Ytamimodkcbbpmaa.Pr
open Go.RowKit Go.Proofs.YtamimodkcbbpmaaW.PrintWords Go.Proofs.YtamimodkcbbpmaaW.PrintLast Go.Proofs.YtamimodkcbbpmaaW.PrintMore Go.Proofs.YtamimodkcbbpmaaXW
attribute [local go_sem] max2_int min2_int max_two min_two max_three min_three max_four min_four   -- for this text's walks alone
set_option linter.unusedVariables false
set_option linter.unusedSimpArgs false

/-! ### emendateref29_Less: function 60 -/
def emendateref29_Less.f (a0_0 : Int) (a0_1 : Int) (a1_0 : Int) (a1_1 : Int) : Option (Bool) := if a0_0 < a1_0 then (some true) else (if a0_0 = a1_0 then (some (decide (a0_1 < a1_1))) else (some false))
set_option maxHeartbeats 8000000 in
set_option maxRecDepth 100000 in
theorem emendateref29_Less.calls (a0_0 : Int) (a0_1 : Int) (a1_0 : Int) (a1_1 : Int) (r : Bool) (w : World) (h : emendateref29_Less.f a0_0 a0_1 a1_0 a1_1 = some r) :
    Calls Try.prog 60 #[.agg #[.int .i64 a0_0, .int .i64 a0_1], .agg #[.int .i64 a1_0, .int .i64 a1_1]] w fun e w' => e = .returned (.bool r) ∧ Below w.heap.size w w' := by
  have hu34 := Try.underlying34
  have HB := Aside0.mk (Below.refl w.heap.size w)
  have H : (if a0_0 < a1_0 then (some true) else (if a0_0 = a1_0 then (some (decide (a0_1 < a1_1))) else (some false))) = some r := h
  clear h
  by_cases c3 : a0_0 < a1_0
  · rw [if_pos c3] at H
    have c3b0 : decide (a0_0 < a1_0) = true := decide_eq_true c3
    clear c3
    obtain rfl := Option.some.inj H
    go_enter Try.func60, Try.ntmps60
    go_wp2_with (first | ((with_reducible refine gate_dst (N := 2) rfl ?_); refine box_event ?hg (N := 2) ?hd (cs := #[.int .i64 a0_0, .int .i64 a0_1]) (t := 34) ?hr ?_; (case hd => rfl); (case hg => rfl); (case hr => first | (go_simp; done) | (go_simp; rfl)); intro gb209 hg w4 hbox hb; have n0_ := Aside0.mk (below_step (bel HB) hb); have n1_ := Aside0.mk (hbox); have n2_ := Aside0.mk ((by rw [hg]; exact (below_size (bel HB)) : w.heap.size ≤ gb209)); have n3_ := Aside0.mk ((by rw [hg]; exact (below_size (bel HB)) : w.heap.size ≤ gb209)); clear HB; have HB := n0_; have BK209 := n1_; have GW209 := n2_; have GE209 := n3_; clear n0_ n1_ n2_ n3_; clear hb hbox hg) | ((with_reducible refine gate_dst (N := 3) rfl ?_); refine box_event ?hg (N := 3) ?hd (cs := #[.int .i64 a1_0, .int .i64 a1_1]) (t := 34) ?hr ?_; (case hd => rfl); (case hg => rfl); (case hr => first | (go_simp; done) | (go_simp; rfl)); intro gb210 hg w5 hbox hb; have n0_ := Aside0.mk (blk_below (bk BK209) hb); have n1_ := Aside0.mk (below_step (bel HB) hb); have n2_ := Aside0.mk (hbox); have n3_ := Aside0.mk ((by rw [hg]; exact (below_size (bel HB)) : w.heap.size ≤ gb210)); have n4_ := Aside0.mk ((by rw [hg]; exact (below_size (bel HB)) : w.heap.size ≤ gb210)); have n5_ := Aside0.mk ((by rw [hg]; exact Nat.ne_of_lt (blk_lt (bk BK209)) : gb209 ≠ gb210)); have n6_ := Aside0.mk ((by rw [hg]; exact Nat.ne_of_gt (blk_lt (bk BK209)) : gb210 ≠ gb209)); clear BK209; clear HB; have BK209 := n0_; have HB := n1_; have BK210 := n2_; have GW210 := n3_; have GE210 := n4_; have NB209_210 := n5_; have NB210_209 := n6_; clear n0_ n1_ n2_ n3_ n4_ n5_ n6_; clear hb hbox hg; have hnb6 := NB209_210.out; have hnc6 := NB210_209.out; have hcz7_0 : w5.cell? ⟨gb209, 0, none⟩ = some (.int .i64 a0_0) := (blk_cell BK209.out 0).trans rfl; have hcz7_1 : w5.cell? ⟨gb209, 1, none⟩ = some (.int .i64 a0_1) := (blk_cell BK209.out 1).trans rfl; have hfz7_0 := blk_frozen BK209.out 0; have hfz7_1 := blk_frozen BK209.out 1; have hcz8_0 : w5.cell? ⟨gb210, 0, none⟩ = some (.int .i64 a1_0) := (blk_cell BK210.out 0).trans rfl; have hcz8_1 : w5.cell? ⟨gb210, 1, none⟩ = some (.int .i64 a1_1) := (blk_cell BK210.out 1).trans rfl; have hfz8_0 := blk_frozen BK210.out 0; have hfz8_1 := blk_frozen BK210.out 1))
    go_ret
    exact ⟨by first | rfl | (simp [errW_none, errW_some] <;> rfl) | (simp [*, errW_none, errW_some] <;> rfl), bel HB⟩
  · rw [if_neg c3] at H
    have c3b0 : decide (a0_0 < a1_0) = false := decide_eq_false c3
    clear c3
    by_cases c9 : a0_0 = a1_0
    · rw [if_pos c9] at H
      have c9b0 : (a0_0 == a1_0) = true := beq_iff_eq.mpr c9
      have c9b1 : (a0_0 != a1_0) = false := bne_eq_false_iff_eq.mpr c9
      clear c9
      obtain rfl := Option.some.inj H
      go_enter Try.func60, Try.ntmps60
      go_wp2_with (first | ((with_reducible refine gate_dst (N := 2) rfl ?_); refine box_event ?hg (N := 2) ?hd (cs := #[.int .i64 a0_0, .int .i64 a0_1]) (t := 34) ?hr ?_; (case hd => rfl); (case hg => rfl); (case hr => first | (go_simp; done) | (go_simp; rfl)); intro gb209 hg w10 hbox hb; have n0_ := Aside0.mk (below_step (bel HB) hb); have n1_ := Aside0.mk (hbox); have n2_ := Aside0.mk ((by rw [hg]; exact (below_size (bel HB)) : w.heap.size ≤ gb209)); have n3_ := Aside0.mk ((by rw [hg]; exact (below_size (bel HB)) : w.heap.size ≤ gb209)); clear HB; have HB := n0_; have BK209 := n1_; have GW209 := n2_; have GE209 := n3_; clear n0_ n1_ n2_ n3_; clear hb hbox hg) | ((with_reducible refine gate_dst (N := 3) rfl ?_); refine box_event ?hg (N := 3) ?hd (cs := #[.int .i64 a1_0, .int .i64 a1_1]) (t := 34) ?hr ?_; (case hd => rfl); (case hg => rfl); (case hr => first | (go_simp; done) | (go_simp; rfl)); intro gb210 hg w11 hbox hb; have n0_ := Aside0.mk (blk_below (bk BK209) hb); have n1_ := Aside0.mk (below_step (bel HB) hb); have n2_ := Aside0.mk (hbox); have n3_ := Aside0.mk ((by rw [hg]; exact (below_size (bel HB)) : w.heap.size ≤ gb210)); have n4_ := Aside0.mk ((by rw [hg]; exact (below_size (bel HB)) : w.heap.size ≤ gb210)); have n5_ := Aside0.mk ((by rw [hg]; exact Nat.ne_of_lt (blk_lt (bk BK209)) : gb209 ≠ gb210)); have n6_ := Aside0.mk ((by rw [hg]; exact Nat.ne_of_gt (blk_lt (bk BK209)) : gb210 ≠ gb209)); clear BK209; clear HB; have BK209 := n0_; have HB := n1_; have BK210 := n2_; have GW210 := n3_; have GE210 := n4_; have NB209_210 := n5_; have NB210_209 := n6_; clear n0_ n1_ n2_ n3_ n4_ n5_ n6_; clear hb hbox hg; have hnb12 := NB209_210.out; have hnc12 := NB210_209.out; have hcz13_0 : w11.cell? ⟨gb209, 0, none⟩ = some (.int .i64 a0_0) := (blk_cell BK209.out 0).trans rfl; have hcz13_1 : w11.cell? ⟨gb209, 1, none⟩ = some (.int .i64 a0_1) := (blk_cell BK209.out 1).trans rfl; have hfz13_0 := blk_frozen BK209.out 0; have hfz13_1 := blk_frozen BK209.out 1; have hcz14_0 : w11.cell? ⟨gb210, 0, none⟩ = some (.int .i64 a1_0) := (blk_cell BK210.out 0).trans rfl; have hcz14_1 : w11.cell? ⟨gb210, 1, none⟩ = some (.int .i64 a1_1) := (blk_cell BK210.out 1).trans rfl; have hfz14_0 := blk_frozen BK210.out 0; have hfz14_1 := blk_frozen BK210.out 1))
      go_ret
      exact ⟨by first | rfl | (simp [errW_none, errW_some] <;> rfl) | (simp [*, errW_none, errW_some] <;> rfl), bel HB⟩
    · rw [if_neg c9] at H
      have c9b0 : (a0_0 == a1_0) = false := beq_eq_false_iff_ne.mpr c9
      have c9b1 : (a0_0 != a1_0) = true := bne_iff_ne.mpr c9
      obtain rfl := Option.some.inj H
      go_enter Try.func60, Try.ntmps60
      go_wp2_with (first | ((with_reducible refine gate_dst (N := 2) rfl ?_); refine box_event ?hg (N := 2) ?hd (cs := #[.int .i64 a0_0, .int .i64 a0_1]) (t := 34) ?hr ?_; (case hd => rfl); (case hg => rfl); (case hr => first | (go_simp; done) | (go_simp; rfl)); intro gb209 hg w15 hbox hb; have n0_ := Aside0.mk (below_step (bel HB) hb); have n1_ := Aside0.mk (hbox); have n2_ := Aside0.mk ((by rw [hg]; exact (below_size (bel HB)) : w.heap.size ≤ gb209)); have n3_ := Aside0.mk ((by rw [hg]; exact (below_size (bel HB)) : w.heap.size ≤ gb209)); clear HB; have HB := n0_; have BK209 := n1_; have GW209 := n2_; have GE209 := n3_; clear n0_ n1_ n2_ n3_; clear hb hbox hg) | ((with_reducible refine gate_dst (N := 3) rfl ?_); refine box_event ?hg (N := 3) ?hd (cs := #[.int .i64 a1_0, .int .i64 a1_1]) (t := 34) ?hr ?_; (case hd => rfl); (case hg => rfl); (case hr => first | (go_simp; done) | (go_simp; rfl)); intro gb210 hg w16 hbox hb; have n0_ := Aside0.mk (blk_below (bk BK209) hb); have n1_ := Aside0.mk (below_step (bel HB) hb); have n2_ := Aside0.mk (hbox); have n3_ := Aside0.mk ((by rw [hg]; exact (below_size (bel HB)) : w.heap.size ≤ gb210)); have n4_ := Aside0.mk ((by rw [hg]; exact (below_size (bel HB)) : w.heap.size ≤ gb210)); have n5_ := Aside0.mk ((by rw [hg]; exact Nat.ne_of_lt (blk_lt (bk BK209)) : gb209 ≠ gb210)); have n6_ := Aside0.mk ((by rw [hg]; exact Nat.ne_of_gt (blk_lt (bk BK209)) : gb210 ≠ gb209)); clear BK209; clear HB; have BK209 := n0_; have HB := n1_; have BK210 := n2_; have GW210 := n3_; have GE210 := n4_; have NB209_210 := n5_; have NB210_209 := n6_; clear n0_ n1_ n2_ n3_ n4_ n5_ n6_; clear hb hbox hg; have hnb17 := NB209_210.out; have hnc17 := NB210_209.out; have hcz18_0 : w16.cell? ⟨gb209, 0, none⟩ = some (.int .i64 a0_0) := (blk_cell BK209.out 0).trans rfl; have hcz18_1 : w16.cell? ⟨gb209, 1, none⟩ = some (.int .i64 a0_1) := (blk_cell BK209.out 1).trans rfl; have hfz18_0 := blk_frozen BK209.out 0; have hfz18_1 := blk_frozen BK209.out 1; have hcz19_0 : w16.cell? ⟨gb210, 0, none⟩ = some (.int .i64 a1_0) := (blk_cell BK210.out 0).trans rfl; have hcz19_1 : w16.cell? ⟨gb210, 1, none⟩ = some (.int .i64 a1_1) := (blk_cell BK210.out 1).trans rfl; have hfz19_0 := blk_frozen BK210.out 0; have hfz19_1 := blk_frozen BK210.out 1))
      go_ret
      exact ⟨by first | rfl | (simp [errW_none, errW_some] <;> rfl) | (simp [*, errW_none, errW_some] <;> rfl), bel HB⟩
end Go.Proofs.Ytamimodkcbbpmaa.Pr
end
section
/- Printed by a program of this session (a turned print of the kit's) out of the translation: each Go function as a Lean function, and the proof that the machine's call answers what it says. Lean checks it. -/
namespace Go.Proofs.Ytamimodkcbbpmaa.Pr
open Go.RowKit Go.Proofs.YtamimodkcbbpmaaW.PrintWords Go.Proofs.YtamimodkcbbpmaaW.PrintLast Go.Proofs.YtamimodkcbbpmaaW.PrintMore Go.Proofs.YtamimodkcbbpmaaXW
attribute [local go_sem] max2_int min2_int max_two min_two max_three min_three max_four min_four   -- for this text's walks alone
set_option linter.unusedVariables false
set_option linter.unusedSimpArgs false

/-! ### emendateref29_Combine: function 62 -/
def emendateref29_Combine.l0 : Nat → List (S34) → Int → Int → Int → Option (Int × Int)
  | 0, _, _, _, _ => none
  | k + 1, x1, x5, x6, x7 => if x7 < (x1.length : Int) then (if 0 ≤ x7 then (emendateref29_Combine.l0 k x1 (mn (wrap64 (x5 + ((rd_T34 x1 x7).f0))) 1099511627776) (mn (wrap64 (x6 + ((rd_T34 x1 x7).f1))) 1099511627776) (wrap64 (x7 + 1))) else (none)) else (if x5 ≥ 1099511627776 then (some (1099511627776, 0)) else (some (x5, x6)))
def emendateref29_Combine.f (k : Nat) (a0 : Int) (l1 : List (S34)) : Option (Int × Int) := emendateref29_Combine.l0 k l1 a0 1 0
theorem emendateref29_Combine.mono_l : ∀ k, (∀ y0 y1 y2 y3, LeO (emendateref29_Combine.l0 k y0 y1 y2 y3) (emendateref29_Combine.l0 (k + 1) y0 y1 y2 y3))
  | 0 => fun _ _ _ _ r h => by simp [emendateref29_Combine.l0] at h
  | k + 1 => by
    have ih0 := emendateref29_Combine.mono_l k
    · intro y0 y1 y2 y3
      unfold emendateref29_Combine.l0
      repeat' first
      | (with_reducible exact ih0 _ _ _ _)
      | (with_reducible exact LeO.refl _)
      | (with_reducible exact LeO.none _)
      | (with_reducible refine LeO.ite ?_ ?_)
      | (with_reducible refine LeO.bind ?_ (fun _ => ?_))
      | exact ih0 _ _ _ _
      | exact LeO.none _
      | refine LeO.ite ?_ ?_
      | refine LeO.bind ?_ (fun _ => ?_)
theorem emendateref29_Combine.mono : ∀ a0 a1 k, LeO (emendateref29_Combine.f k a0 a1) (emendateref29_Combine.f (k + 1) a0 a1) := by
  intro a0 a1 k
  have ih0 := emendateref29_Combine.mono_l k
  unfold emendateref29_Combine.f
  repeat' first
      | (with_reducible exact ih0 _ _ _ _)
      | (with_reducible exact LeO.refl _)
      | (with_reducible exact LeO.none _)
      | (with_reducible refine LeO.ite ?_ ?_)
      | (with_reducible refine LeO.bind ?_ (fun _ => ?_))
      | exact ih0 _ _ _ _
      | exact LeO.none _
      | refine LeO.ite ?_ ?_
      | refine LeO.bind ?_ (fun _ => ?_)
set_option maxHeartbeats 8000000 in
set_option maxRecDepth 100000 in
theorem emendateref29_Combine.calls (k : Nat) (a0 : Int) (A1 : Option Addr) (c1 : Nat) (l1 : List (S34)) (r1 : Int) (r2 : Int) (w : World) (hr1 : Kd.C k34 w A1 l1.length l1) (hc1 : l1.length ≤ c1) (h : emendateref29_Combine.f k a0 l1 = some (r1, r2)) :
    Calls Try.prog 62 #[.int .i64 a0, .slice A1 l1.length c1] w fun e w' => e = .returned (.agg #[.int .i64 r1, .int .i64 r2]) ∧ Below w.heap.size w w' := by
  have hu34 := Try.underlying34
  have HR1 := Aside0.mk hr1
  have HC1 := Aside0.mk hc1
  clear hr1 hc1
  have HB := Aside0.mk (Below.refl w.heap.size w)
  have H : (emendateref29_Combine.l0 k l1 a0 1 0) = some (r1, r2) := h
  clear h
  have H' := Aside0.mk H
  clear H
  go_enter Try.func62, Try.ntmps62
  go_wp2_with (first | ((with_reducible refine gate_dst (N := 4) rfl ?_); refine box_event ?hg (N := 4) ?hd (cs := #[.int .i64 0, .int .i64 0]) (t := 34) ?hr ?_; (case hd => rfl); (case hg => rfl); (case hr => first | (go_simp; done) | (go_simp; rfl)); intro gb211 hg w3 hbox hb; have n0_ := Aside0.mk (below_step (bel HB) hb); have n1_ := Aside0.mk (hbox); have n2_ := Aside0.mk ((by rw [hg]; exact (below_size (bel HB)) : w.heap.size ≤ gb211)); have n3_ := Aside0.mk ((by rw [hg]; exact (below_size (bel HB)) : w.heap.size ≤ gb211)); clear HB; have HB := n0_; have BK211 := n1_; have GW211 := n2_; have GE211 := n3_; clear n0_ n1_ n2_ n3_; clear hb hbox hg))
  repeat (go_quiet (first | ((with_reducible refine gate_dst (N := 4) rfl ?_); refine box_event ?hg (N := 4) ?hd (cs := #[.int .i64 0, .int .i64 0]) (t := 34) ?hr ?_; (case hd => rfl); (case hg => rfl); (case hr => first | (go_simp; done) | (go_simp; rfl)); intro gb211 hg w3 hbox hb; have n0_ := Aside0.mk (below_step (bel HB) hb); have n1_ := Aside0.mk (hbox); have n2_ := Aside0.mk ((by rw [hg]; exact (below_size (bel HB)) : w.heap.size ≤ gb211)); have n3_ := Aside0.mk ((by rw [hg]; exact (below_size (bel HB)) : w.heap.size ≤ gb211)); clear HB; have HB := n0_; have BK211 := n1_; have GW211 := n2_; have GE211 := n3_; clear n0_ n1_ n2_ n3_; clear hb hbox hg)); try go_wp2_with (first | ((with_reducible refine gate_dst (N := 4) rfl ?_); refine box_event ?hg (N := 4) ?hd (cs := #[.int .i64 0, .int .i64 0]) (t := 34) ?hr ?_; (case hd => rfl); (case hg => rfl); (case hr => first | (go_simp; done) | (go_simp; rfl)); intro gb211 hg w3 hbox hb; have n0_ := Aside0.mk (below_step (bel HB) hb); have n1_ := Aside0.mk (hbox); have n2_ := Aside0.mk ((by rw [hg]; exact (below_size (bel HB)) : w.heap.size ≤ gb211)); have n3_ := Aside0.mk ((by rw [hg]; exact (below_size (bel HB)) : w.heap.size ≤ gb211)); clear HB; have HB := n0_; have BK211 := n1_; have GW211 := n2_; have GE211 := n3_; clear n0_ n1_ n2_ n3_; clear hb hbox hg)))
  go_loopg [5, 6, 7] k (fun kq v5 v6 v7 w' => ∃ (x5_1 : Int) (x6_1 : Int) (x7_1 : Int), v5 = .int .i64 x5_1 ∧ v6 = .int .i64 x6_1 ∧ v7 = .int .i64 x7_1 ∧ Aside0 (emendateref29_Combine.l0 kq l1 x5_1 x6_1 x7_1 = some (r1, r2)) ∧ Aside0 (kq ≤ k) ∧ Aside0 (w'.heap[gb211]? = some (.cells #[.int .i64 0, .int .i64 0] 34 (0, 0))) ∧ Aside0 (Below w.heap.size w w'))
  case atStart => exact ⟨(a0), (1), (0), (by first | rfl | (simp; done) | (simp [*]; done)), (by first | rfl | (simp; done) | (simp [*]; done)), (by first | rfl | (simp; done) | (simp [*]; done)), H', ⟨Nat.le_refl _⟩, ⟨by (with_reducible repeat (first | refine blk_drewN ?_ _ | refine blk_drew ?_ | refine blk_alloc ?_ _)); exact BK211.out⟩, ⟨bel HB⟩⟩
  case round =>
    clear H'
    (try clear c1); (try clear p2)
    obtain ⟨x5_1, x6_1, x7_1, rfl, rfl, rfl, HA, HK1, BK211, HB⟩ := hrel
    cases gk with
    | zero => exact absurd HA.out (by simp [emendateref29_Combine.l0])
    | succ k1 =>
      have H := HA.out
      clear HA
      simp only [emendateref29_Combine.l0] at H
      by_cases c4 : x7_1 < (l1.length : Int)
      · rw [if_pos c4] at H
        have c4b0 : decide (x7_1 < (l1.length : Int)) = true := decide_eq_true c4
        clear c4
        by_cases c5 : 0 ≤ x7_1
        · rw [if_pos c5] at H
          have c5b0 : decide (0 ≤ x7_1) = true := decide_eq_true c5
          clear c5
          obtain ⟨ji6, hji6⟩ : ∃ j_ : Int, (mn (wrap64 (x5_1 + ((rd_T34 l1 x7_1).f0))) 1099511627776) = j_ := ⟨_, rfl⟩
          replace H : (emendateref29_Combine.l0 k1 l1 ji6 (mn (wrap64 (x6_1 + ((rd_T34 l1 x7_1).f1))) 1099511627776) (wrap64 (x7_1 + 1))) = some (r1, r2) := by first | (rw [hji6] at H; exact H) | (simp only [hji6] at H ⊢; exact H)
          have hji6_ : (if 1099511627776 < (wrap64 (x5_1 + ((rd_T34 l1 x7_1).f0))) then 1099511627776 else (wrap64 (x5_1 + ((rd_T34 l1 x7_1).f0)))) = ji6 := hji6
          obtain ⟨ji7, hji7⟩ : ∃ j_ : Int, (mn (wrap64 (x6_1 + ((rd_T34 l1 x7_1).f1))) 1099511627776) = j_ := ⟨_, rfl⟩
          replace H : (emendateref29_Combine.l0 k1 l1 ji6 ji7 (wrap64 (x7_1 + 1))) = some (r1, r2) := by first | (rw [hji7] at H; exact H) | (simp only [hji7] at H ⊢; exact H)
          have hji7_ : (if 1099511627776 < (wrap64 (x6_1 + ((rd_T34 l1 x7_1).f1))) then 1099511627776 else (wrap64 (x6_1 + ((rd_T34 l1 x7_1).f1)))) = ji7 := hji7
          have H' := Aside0.mk H
          clear H
          have p212 : 0 ≤ (x7_1 : Int) := of_decide_eq_true (by first | (with_reducible assumption) | assumption)
          have q212 : x7_1 < (l1.length : Int) := of_decide_eq_true (by first | (with_reducible assumption) | assumption)
          obtain ⟨ad212, e212, hx212_0, hx212_1⟩ := at_T34 HR1.out x7_1 p212 q212
          cases e212
          replace hx212_0 := (HB.out.cell (World.block_lt_of_cell? w _ hx212_0)).trans hx212_0
          replace hx212_1 := (HB.out.cell (World.block_lt_of_cell? w _ hx212_1)).trans hx212_1
          replace p212 := eq_true p212
          replace q212 := eq_true q212
          have p213 : 0 ≤ (x7_1 : Int) := of_decide_eq_true (by first | (with_reducible assumption) | assumption)
          have q213 : x7_1 < (l1.length : Int) := of_decide_eq_true (by first | (with_reducible assumption) | assumption)
          obtain ⟨ad213, e213, hx213_0, hx213_1⟩ := at_T34 HR1.out x7_1 p213 q213
          obtain rfl : ad212 = ad213 := (by injection e213)
          replace hx213_0 := (HB.out.cell (World.block_lt_of_cell? w _ hx213_0)).trans hx213_0
          replace hx213_1 := (HB.out.cell (World.block_lt_of_cell? w _ hx213_1)).trans hx213_1
          replace p213 := eq_true p213
          replace q213 := eq_true q213
          go_wp2
          repeat (go_quiet (fail); try go_wp2)
          go_roundg k1
          case measure => have := HK1.out; omega
          case rel => exact ⟨(ji6), (ji7), (wrap64 (x7_1 + 1)), (by first | rfl | (simp; done) | (simp only [← hji6] <;> (first | rfl | simp)) | (simp [*]; done)), (by first | rfl | (simp; done) | (simp only [← hji7] <;> (first | rfl | simp)) | (simp [*]; done)), (by first | rfl | (simp; done) | (simp [*]; done)), H', ⟨by have := HK1.out; omega⟩, ⟨by (with_reducible repeat (first | refine blk_drewN ?_ _ | refine blk_drew ?_ | refine blk_alloc ?_ _)); exact BK211.out⟩, ⟨bel HB⟩⟩
        · rw [if_neg c5] at H
          exact absurd H (by simp)
      · rw [if_neg c4] at H
        have c4b0 : decide (x7_1 < (l1.length : Int)) = false := decide_eq_false c4
        clear c4
        by_cases c8 : x5_1 ≥ 1099511627776
        · rw [if_pos c8] at H
          have c8b0 : decide (1099511627776 ≤ x5_1) = true := decide_eq_true c8
          clear c8
          simp only [Option.some.injEq, Prod.mk.injEq] at H
          obtain ⟨rfl, rfl⟩ := H
          have hcz9_0 : wr.cell? ⟨gb211, 0, none⟩ = some (.int .i64 0) := (blk_cell BK211.out 0).trans rfl
          have hcz9_1 : wr.cell? ⟨gb211, 1, none⟩ = some (.int .i64 0) := (blk_cell BK211.out 1).trans rfl
          have hfz9_0 := blk_frozen BK211.out 0
          have hfz9_1 := blk_frozen BK211.out 1
          go_wp2
          repeat (go_quiet (fail); try go_wp2)
          refine bodyPost_ret (results_cell_row rfl _ _ gb211 34 #[.int .i64 1099511627776, .int .i64 0] (0, 0) _ rfl (by (with_reducible repeat (first | refine blk_drewN ?_ _ | refine blk_drew ?_ | refine blk_alloc ?_ _)); refine blk_put (cs := #[.int .i64 1099511627776, .int .i64 0]) ?_ 1 _ rfl; (with_reducible repeat (first | refine blk_drewN ?_ _ | refine blk_drew ?_ | refine blk_alloc ?_ _)); refine blk_put (cs := #[.int .i64 0, .int .i64 0]) ?_ 0 _ rfl; (with_reducible repeat (first | refine blk_drewN ?_ _ | refine blk_drew ?_ | refine blk_alloc ?_ _)); exact BK211.out) Try.underlying34 rfl (by kernel_rfl)) rfl ?_
          exact ⟨by first | rfl | (simp [errW_none, errW_some] <;> rfl) | (simp [*, errW_none, errW_some] <;> rfl), bel HB⟩
        · rw [if_neg c8] at H
          have c8b0 : decide (1099511627776 ≤ x5_1) = false := decide_eq_false c8
          clear c8
          simp only [Option.some.injEq, Prod.mk.injEq] at H
          obtain ⟨rfl, rfl⟩ := H
          have hcz10_0 : wr.cell? ⟨gb211, 0, none⟩ = some (.int .i64 0) := (blk_cell BK211.out 0).trans rfl
          have hcz10_1 : wr.cell? ⟨gb211, 1, none⟩ = some (.int .i64 0) := (blk_cell BK211.out 1).trans rfl
          have hfz10_0 := blk_frozen BK211.out 0
          have hfz10_1 := blk_frozen BK211.out 1
          go_wp2
          repeat (go_quiet (fail); try go_wp2)
          refine bodyPost_ret (results_cell_row rfl _ _ gb211 34 #[.int .i64 x5_1, .int .i64 x6_1] (0, 0) _ rfl (by (with_reducible repeat (first | refine blk_drewN ?_ _ | refine blk_drew ?_ | refine blk_alloc ?_ _)); refine blk_put (cs := #[.int .i64 x5_1, .int .i64 0]) ?_ 1 _ rfl; (with_reducible repeat (first | refine blk_drewN ?_ _ | refine blk_drew ?_ | refine blk_alloc ?_ _)); refine blk_put (cs := #[.int .i64 0, .int .i64 0]) ?_ 0 _ rfl; (with_reducible repeat (first | refine blk_drewN ?_ _ | refine blk_drew ?_ | refine blk_alloc ?_ _)); exact BK211.out) Try.underlying34 rfl (by kernel_rfl)) rfl ?_
          exact ⟨by first | rfl | (simp [errW_none, errW_some] <;> rfl) | (simp [*, errW_none, errW_some] <;> rfl), bel HB⟩
end Go.Proofs.Ytamimodkcbbpmaa.Pr
end
section
/- Printed by a program of this session (a turned print of the kit's) out of the translation: each Go function as a Lean function, and the proof that the machine's call answers what it says. Lean checks it. -/
namespace Go.Proofs.Ytamimodkcbbpmaa.Pr
open Go.RowKit Go.Proofs.YtamimodkcbbpmaaW.PrintWords Go.Proofs.YtamimodkcbbpmaaW.PrintLast Go.Proofs.YtamimodkcbbpmaaW.PrintMore Go.Proofs.YtamimodkcbbpmaaXW
attribute [local go_sem] max2_int min2_int max_two min_two max_three min_three max_four min_four   -- for this text's walks alone
set_option linter.unusedVariables false
set_option linter.unusedSimpArgs false

/-! ### emendateref29_Tails: function 63 -/
def emendateref29_Tails.l0 : Nat → List (S34) → List (S34) → Int → Int → List Int → Int → Int → Int → Option ((List (S34)))
  | 0, _, _, _, _, _, _, _, _ => none
  | k + 1, x1, x5, x6, x215000, x215001, x215002, x215003, x215004 => if x6 < (x215001.length : Int) then (if 0 ≤ x6 then (if 0 ≤ (rd x215001 x6) then (if (rd x215001 x6) < (x1.length : Int) then (if x5.length < 8796093022208 then (emendateref29_Tails.l0 k x1 (x5 ++ [(⟨(rd_T34 x1 (rd x215001 x6)).f0, (rd_T34 x1 (rd x215001 x6)).f1⟩ : S34)]) (wrap64 (x6 + 1)) x215000 x215001 x215002 x215003 x215004) else (none)) else (none)) else (none)) else (none)) else (some x5)
def emendateref29_Tails.f (k : Nat) (a0_0 : Int) (l0_1 : List Int) (a0_2 : Int) (a0_3 : Int) (a0_4 : Int) (l1 : List (S34)) : Option ((List (S34))) := emendateref29_Tails.l0 k l1 ([] : List (S34)) 0 a0_0 l0_1 a0_2 a0_3 a0_4
theorem emendateref29_Tails.mono_l : ∀ k, (∀ y0 y1 y2 y3 y4 y5 y6 y7, LeO (emendateref29_Tails.l0 k y0 y1 y2 y3 y4 y5 y6 y7) (emendateref29_Tails.l0 (k + 1) y0 y1 y2 y3 y4 y5 y6 y7))
  | 0 => fun _ _ _ _ _ _ _ _ r h => by simp [emendateref29_Tails.l0] at h
  | k + 1 => by
    have ih0 := emendateref29_Tails.mono_l k
    · intro y0 y1 y2 y3 y4 y5 y6 y7
      unfold emendateref29_Tails.l0
      repeat' first
      | (with_reducible exact ih0 _ _ _ _ _ _ _ _)
      | (with_reducible exact LeO.refl _)
      | (with_reducible exact LeO.none _)
      | (with_reducible refine LeO.ite ?_ ?_)
      | (with_reducible refine LeO.bind ?_ (fun _ => ?_))
      | exact ih0 _ _ _ _ _ _ _ _
      | exact LeO.none _
      | refine LeO.ite ?_ ?_
      | refine LeO.bind ?_ (fun _ => ?_)
theorem emendateref29_Tails.mono : ∀ a0 a1 a2 a3 a4 a5 k, LeO (emendateref29_Tails.f k a0 a1 a2 a3 a4 a5) (emendateref29_Tails.f (k + 1) a0 a1 a2 a3 a4 a5) := by
  intro a0 a1 a2 a3 a4 a5 k
  have ih0 := emendateref29_Tails.mono_l k
  unfold emendateref29_Tails.f
  repeat' first
      | (with_reducible exact ih0 _ _ _ _ _ _ _ _)
      | (with_reducible exact LeO.refl _)
      | (with_reducible exact LeO.none _)
      | (with_reducible refine LeO.ite ?_ ?_)
      | (with_reducible refine LeO.bind ?_ (fun _ => ?_))
      | exact ih0 _ _ _ _ _ _ _ _
      | exact LeO.none _
      | refine LeO.ite ?_ ?_
      | refine LeO.bind ?_ (fun _ => ?_)
set_option maxHeartbeats 8000000 in
set_option maxRecDepth 100000 in
theorem emendateref29_Tails.calls (k : Nat) (a0_0 : Int) (A0_1 : Option Addr) (c0_1 : Nat) (l0_1 : List Int) (a0_2 : Int) (a0_3 : Int) (a0_4 : Int) (A1 : Option Addr) (c1 : Nat) (l1 : List (S34)) (r : List (S34)) (w : World) (hr0_1 : Kd.C (Kd.int .i64) w A0_1 l0_1.length l0_1) (hc0_1 : l0_1.length ≤ c0_1) (hr1 : Kd.C k34 w A1 l1.length l1) (hc1 : l1.length ≤ c1) (h : emendateref29_Tails.f k a0_0 l0_1 a0_2 a0_3 a0_4 l1 = some r) :
    Calls Try.prog 63 #[.agg #[.int .i64 a0_0, .slice A0_1 l0_1.length c0_1, .int .i64 a0_2, .int .i64 a0_3, .int .i64 a0_4], .slice A1 l1.length c1] w fun e w' => ∃ v0_ : Value, e = .returned (v0_) ∧ Kd.R k34 34 w' w.heap.size (fun _ => True) v0_ r ∧ Below w.heap.size w w' := by
  have hu54 := Try.underlying54
  have hu34 := Try.underlying34
  have HR0_1 := Aside0.mk hr0_1
  have HC0_1 := Aside0.mk hc0_1
  clear hr0_1 hc0_1
  have HR1 := Aside0.mk hr1
  have HC1 := Aside0.mk hc1
  clear hr1 hc1
  have HB := Aside0.mk (Below.refl w.heap.size w)
  have H : (emendateref29_Tails.l0 k l1 ([] : List (S34)) 0 a0_0 l0_1 a0_2 a0_3 a0_4) = some r := h
  clear h
  have H' := Aside0.mk H
  clear H
  go_enter Try.func63, Try.ntmps63
  go_wp2_with (first | ((with_reducible refine gate_dst (N := 2) rfl ?_); refine box_event ?hg (N := 2) ?hd (cs := #[.int .i64 a0_0, .slice A0_1 l0_1.length c0_1, .int .i64 a0_2, .int .i64 a0_3, .int .i64 a0_4]) (t := 54) ?hr ?_; (case hd => rfl); (case hg => rfl); (case hr => first | (go_simp; done) | (go_simp; rfl)); intro gb214 hg w3 hbox hb; have n0_ := Aside0.mk (below_step (bel HB) hb); have n1_ := Aside0.mk (hbox); have n2_ := Aside0.mk ((by rw [hg]; exact (below_size (bel HB)) : w.heap.size ≤ gb214)); have n3_ := Aside0.mk ((by rw [hg]; exact (below_size (bel HB)) : w.heap.size ≤ gb214)); clear HB; have HB := n0_; have BK214 := n1_; have GW214 := n2_; have GE214 := n3_; clear n0_ n1_ n2_ n3_; clear hb hbox hg))
  go_loopg [5, 6] k (fun kq v5 v6 w' => ∃ (x5_1 : List (S34)) (x6_1 : Int), v6 = .int .i64 x6_1 ∧ Aside0 (emendateref29_Tails.l0 kq l1 x5_1 x6_1 a0_0 l0_1 a0_2 a0_3 a0_4 = some r) ∧ Aside0 (kq ≤ k) ∧ Aside0 (Kd.R k34 34 w' w.heap.size (fun _ => True) v5 x5_1) ∧ Aside0 (w'.heap[gb214]? = some (.cells #[.int .i64 a0_0, (.slice A0_1 l0_1.length c0_1), .int .i64 a0_2, .int .i64 a0_3, .int .i64 a0_4] 54 (0, 0))) ∧ Aside0 (Below w.heap.size w w'))
  case atStart => exact ⟨(([] : List (S34))), (0), (by first | rfl | (simp; done) | (simp [*]; done)), H', ⟨Nat.le_refl _⟩, ⟨by first | exact Kd.R_nil _ _ _ _ _ | exact Kd.N_nil _ _ _ _ _ | exact Kd.V_nil _ _ _ _ _ | exact Kd.Q_nil _ _ _ _ _ | exact Kd.S_nil _ _ _ _ _⟩, ⟨by (with_reducible repeat (first | refine blk_drewN ?_ _ | refine blk_drew ?_ | refine blk_alloc ?_ _)); exact BK214.out⟩, ⟨bel HB⟩⟩
  case round =>
    clear H'
    (try clear c1); (try clear p2)
    obtain ⟨x5_1, x6_1, rfl, HA, HK1, HO_5, BK214, HB⟩ := hrel
    cases gk with
    | zero => exact absurd HA.out (by simp [emendateref29_Tails.l0])
    | succ k1 =>
      have H := HA.out
      clear HA
      simp only [emendateref29_Tails.l0] at H
      by_cases c4 : x6_1 < (l0_1.length : Int)
      · rw [if_pos c4] at H
        have c4b0 : decide (x6_1 < (l0_1.length : Int)) = true := decide_eq_true c4
        clear c4
        by_cases c5 : 0 ≤ x6_1
        · rw [if_pos c5] at H
          have c5b0 : decide (0 ≤ x6_1) = true := decide_eq_true c5
          clear c5
          by_cases c6 : 0 ≤ (rd l0_1 x6_1)
          · rw [if_pos c6] at H
            have c6b0 : decide (0 ≤ (rd l0_1 x6_1)) = true := decide_eq_true c6
            clear c6
            by_cases c7 : (rd l0_1 x6_1) < (l1.length : Int)
            · rw [if_pos c7] at H
              have c7b0 : decide ((rd l0_1 x6_1) < (l1.length : Int)) = true := decide_eq_true c7
              clear c7
              by_cases c8 : x5_1.length < 8796093022208
              · rw [if_pos c8] at H
                have LMc8 := Aside0.mk c8
                clear c8
                obtain ⟨y217, hy217⟩ : ∃ y_ : List (S34), y_ = (x5_1 ++ [(⟨(rd_T34 l1 (rd l0_1 x6_1)).f0, (rd_T34 l1 (rd l0_1 x6_1)).f1⟩ : S34)]) := ⟨_, rfl⟩
                replace H : (emendateref29_Tails.l0 k1 l1 y217 (wrap64 (x6_1 + 1)) a0_0 l0_1 a0_2 a0_3 a0_4) = some r := by first | (rw [hy217]; with_reducible exact H) | (have H2_ := (Option.bind_some _ _).symm.trans H; rw [hy217]; with_reducible exact H2_) | (have H2_ := (Option.bind_some _ _).symm.trans H; with_reducible exact H2_) | with_reducible exact H | (rw [hy217]; exact H) | exact H
                have Ny217 := Aside0.mk hy217
                clear hy217
                have H' := Aside0.mk H
                clear H
                have hcz9_0 : wr.cell? ⟨gb214, 0, none⟩ = some (.int .i64 a0_0) := (blk_cell BK214.out 0).trans rfl
                have hcz9_1 : wr.cell? ⟨gb214, 1, none⟩ = some (.slice A0_1 l0_1.length c0_1) := (blk_cell BK214.out 1).trans rfl
                have hcz9_2 : wr.cell? ⟨gb214, 2, none⟩ = some (.int .i64 a0_2) := (blk_cell BK214.out 2).trans rfl
                have hcz9_3 : wr.cell? ⟨gb214, 3, none⟩ = some (.int .i64 a0_3) := (blk_cell BK214.out 3).trans rfl
                have hcz9_4 : wr.cell? ⟨gb214, 4, none⟩ = some (.int .i64 a0_4) := (blk_cell BK214.out 4).trans rfl
                have hfz9_0 := blk_frozen BK214.out 0
                have hfz9_1 := blk_frozen BK214.out 1
                have hfz9_2 := blk_frozen BK214.out 2
                have hfz9_3 := blk_frozen BK214.out 3
                have hfz9_4 := blk_frozen BK214.out 4
                have p215 : 0 ≤ (x6_1 : Int) := of_decide_eq_true (by first | (with_reducible assumption) | assumption)
                have q215 : x6_1 < (l0_1.length : Int) := of_decide_eq_true (by first | (with_reducible assumption) | assumption)
                obtain ⟨ad215, e215, hx215_0⟩ := Kd.at_int HR0_1.out x6_1 p215 q215
                cases e215
                replace hx215_0 := (HB.out.cell (World.block_lt_of_cell? w _ hx215_0)).trans hx215_0
                replace p215 := eq_true p215
                replace q215 := eq_true q215
                have p216 : 0 ≤ ((rd l0_1 x6_1) : Int) := of_decide_eq_true (by first | (with_reducible assumption) | assumption)
                have q216 : (rd l0_1 x6_1) < (l1.length : Int) := of_decide_eq_true (by first | (with_reducible assumption) | assumption)
                obtain ⟨ad216, e216, hx216_0, hx216_1⟩ := at_T34 HR1.out (rd l0_1 x6_1) p216 q216
                cases e216
                replace hx216_0 := (HB.out.cell (World.block_lt_of_cell? w _ hx216_0)).trans hx216_0
                replace hx216_1 := (HB.out.cell (World.block_lt_of_cell? w _ hx216_1)).trans hx216_1
                replace p216 := eq_true p216
                replace q216 := eq_true q216
                go_wp2_with (first | ((with_reducible refine gate_builtin (b := .append) (xs := #[.tmp 14, .tmp 23]) rfl ?_); at_builtin; refine Kd.R_append k34 (w0 := w) w.heap.size rfl (.tmp 14) (.tmp 23) 43 34 (.agg #[(.int .i64 0), (.int .i64 0)]) 16 rfl Try.underlying43 info34 rfl (by decide) (by omega) u5 x5_1 (⟨(rd_T34 l1 (rd l0_1 x6_1)).f0, (rd_T34 l1 (rd l0_1 x6_1)).f1⟩ : S34) [.int .i64 ((rd_T34 l1 (rd l0_1 x6_1)).f0), .int .i64 ((rd_T34 l1 (rd l0_1 x6_1)).f1)] (fun _ => True) (fun _ => False) rfl rfl ?aP (fun _ hk => hk.elim) ?aF ?aO ?aB ?aS ?aL ?_; (case aP => exact k34_mkM _ _ _ (⟨(rd_T34 l1 (rd l0_1 x6_1)).f0, (rd_T34 l1 (rd l0_1 x6_1)).f1⟩ : S34)); (case aB => exact (bel HB)); (case aF => exact (fun _ _ => trivial)); (case aO => exact (by (with_reducible repeat (first | apply Kd.R_alloc | apply Kd.R_drewN | apply Kd.R_drew)); exact HO_5.out)); (case aS => exact (below_size (bel HB))); (case aL => have := LMc8.out; omega); intro v218 w10 ho hb hg hat; rw [← Ny217.out] at ho; have n0_ := Aside0.mk (blk_grown (bk BK214) hg (Kd.R_ne HO_5.out BK214.out (by decide))); have n1_ := Aside0.mk (hb); have n2_ := Aside0.mk (ho); clear BK214; clear HB; clear HO_5; have BK214 := n0_; have HB := n1_; have HO219 := n2_; clear n0_ n1_ n2_; clear ho hb hg hat))
                go_roundg k1
                case measure => have := HK1.out; omega
                case rel => exact ⟨(y217), (wrap64 (x6_1 + 1)), (by first | rfl | (simp; done) | (simp [*]; done)), H', ⟨by have := HK1.out; omega⟩, ⟨by (with_reducible repeat (first | apply Kd.R_alloc | apply Kd.R_drewN | apply Kd.R_drew)); exact HO219.out⟩, ⟨by (with_reducible repeat (first | refine blk_drewN ?_ _ | refine blk_drew ?_ | refine blk_alloc ?_ _)); exact BK214.out⟩, ⟨bel HB⟩⟩
              · rw [if_neg c8] at H
                exact absurd H (by simp)
            · rw [if_neg c7] at H
              exact absurd H (by simp)
          · rw [if_neg c6] at H
            exact absurd H (by simp)
        · rw [if_neg c5] at H
          exact absurd H (by simp)
      · rw [if_neg c4] at H
        have c4b0 : decide (x6_1 < (l0_1.length : Int)) = false := decide_eq_false c4
        clear c4
        obtain rfl := Option.some.inj H
        have hcz11_0 : wr.cell? ⟨gb214, 0, none⟩ = some (.int .i64 a0_0) := (blk_cell BK214.out 0).trans rfl
        have hcz11_1 : wr.cell? ⟨gb214, 1, none⟩ = some (.slice A0_1 l0_1.length c0_1) := (blk_cell BK214.out 1).trans rfl
        have hcz11_2 : wr.cell? ⟨gb214, 2, none⟩ = some (.int .i64 a0_2) := (blk_cell BK214.out 2).trans rfl
        have hcz11_3 : wr.cell? ⟨gb214, 3, none⟩ = some (.int .i64 a0_3) := (blk_cell BK214.out 3).trans rfl
        have hcz11_4 : wr.cell? ⟨gb214, 4, none⟩ = some (.int .i64 a0_4) := (blk_cell BK214.out 4).trans rfl
        have hfz11_0 := blk_frozen BK214.out 0
        have hfz11_1 := blk_frozen BK214.out 1
        have hfz11_2 := blk_frozen BK214.out 2
        have hfz11_3 := blk_frozen BK214.out 3
        have hfz11_4 := blk_frozen BK214.out 4
        go_wp2
        go_ret
        exact ⟨_, by first | rfl | (simp [errW_none, errW_some] <;> rfl) | (simp [*, errW_none, errW_some] <;> rfl), by (with_reducible repeat (first | apply Kd.R_alloc | apply Kd.R_drewN | apply Kd.R_drew)); exact HO_5.out, bel HB⟩

end Go.Proofs.Ytamimodkcbbpmaa.Pr
end
section
/- The reference's solver as plain Lean: what its rounds keep, what grows less, what its choice is. -/
namespace Go.Proofs.Ytamimodkcbbpmaa.Pr
open Go.RowKit Go.Proofs.YtamimodkcbbpmaaW.PrintWords Go.Proofs.YtamimodkcbbpmaaW.PrintLast Go.Proofs.YtamimodkcbbpmaaXW Go.Proofs.YtamimodkcbbpmaaXM
set_option linter.unusedVariables false
set_option linter.unusedSimpArgs false

theorem refLess_eq (a b : S34) : emendateref29_Less.f a.f0 a.f1 b.f0 b.f1 = some (ltV a b) := by
  unfold emendateref29_Less.f ltV
  by_cases h1 : a.f0 < b.f0
  · simp [h1]
  · by_cases h2 : a.f0 = b.f0
    · simp [h2]
    · simp [h1, h2]
theorem refCombine_l0 (l : List S34) : ∀ (k i : Nat) (a : S34), i ≤ l.length → l.length < i + k → l.length ≤ 1000000 → emendateref29_Combine.l0 k l a.f0 a.f1 (i : Int) = if ((l.drop i).foldl stepV a).f0 ≥ 1099511627776 then some (1099511627776, 0) else some (((l.drop i).foldl stepV a).f0, ((l.drop i).foldl stepV a).f1)
  | 0, i, a, h1, h2, _ => by omega
  | k + 1, i, a, h1, h2, h3 => by
    unfold emendateref29_Combine.l0
    by_cases h : i < l.length
    · rw [if_pos (by omega), if_pos (by omega)]
      have hw : wrap64 ((i : Int) + 1) = ((i + 1 : Nat) : Int) := by unfold wrap64; omega
      have hd : l.drop i = rd_T34 l (i : Int) :: l.drop (i + 1) := by
        rw [List.drop_eq_getElem_cons h]
        simp [rd_T34, List.getD_eq_getElem?_getD, List.getElem?_eq_getElem h]
      rw [hw, hd, List.foldl_cons]
      exact refCombine_l0 l k (i + 1) (stepV a (rd_T34 l (i : Int))) (by omega) (by omega) h3
    · have hi : i = l.length := by omega
      subst hi
      rw [if_neg (by omega), List.drop_length, List.foldl_nil]
theorem refCombine_eq (cost : Int) (l : List S34) (h : l.length ≤ 1000000) (h0 : 0 ≤ cost) (h1 : cost ≤ 1099511627776) (hok : ∀ v, v ∈ l → okV v) : emendateref29_Combine.f (l.length + 1) cost l = some ((combV cost l).f0, (combV cost l).f1) := by
  have h2 := refCombine_l0 l (l.length + 1) 0 ⟨cost, 1⟩ (by omega) (by omega) h
  have hp := sV_pos l hok
  rw [List.drop_zero, foldV l _ ⟨h0, h1⟩ ⟨show (0 : Int) ≤ 1 by decide, show (1 : Int) ≤ 1099511627776 by decide⟩ hok] at h2
  unfold emendateref29_Combine.f
  rw [combV_eq cost l h0 hok]
  refine h2.trans ?_
  simp only
  by_cases h3 : 1099511627776 ≤ cost + s0V l
  · rw [if_pos (by omega), if_pos h3]
  · rw [if_neg (by omega), if_neg h3, show min (cost + s0V l) 1099511627776 = cost + s0V l by omega]
theorem refTails_l0 (vs : List S34) (a0 : Int) (l : List Int) (a2 a3 a4 : Int) (hr : ∀ t, t ∈ l → 0 ≤ t ∧ t < (vs.length : Int)) (hl : l.length ≤ 1000000) : ∀ (k i : Nat) (acc : List S34), i ≤ l.length → l.length < i + k → acc.length ≤ i → emendateref29_Tails.l0 k vs acc (i : Int) a0 l a2 a3 a4 = some (acc ++ tailV vs (l.drop i))
  | 0, i, acc, h1, h2, _ => by omega
  | k + 1, i, acc, h1, h2, h3 => by
    unfold emendateref29_Tails.l0
    by_cases h : i < l.length
    · have hrd : rd l (i : Int) = l.getD i 0 := rfl
      have hm := hr _ (getD_mem l i 0 h)
      rw [if_pos (by omega), if_pos (by omega), hrd, if_pos hm.1, if_pos hm.2, if_pos (by omega)]
      have hw : wrap64 ((i : Int) + 1) = ((i + 1 : Nat) : Int) := by unfold wrap64; omega
      have hd : l.drop i = l.getD i 0 :: l.drop (i + 1) := by
        rw [List.drop_eq_getElem_cons h]
        simp [List.getD_eq_getElem?_getD, List.getElem?_eq_getElem h]
      rw [hw, refTails_l0 vs a0 l a2 a3 a4 hr hl k (i + 1) _ (by omega) (by omega) (by rw [List.length_append, List.length_singleton]; omega), hd]
      simp [tailV]
    · have hi : i = l.length := by omega
      subst hi
      rw [if_neg (by omega), List.drop_length]
      simp [tailV]
theorem refTails_eq (vs : List S34) (e : S54) (hr : ∀ t, t ∈ e.f1 → 0 ≤ t ∧ t < (vs.length : Int)) (hl : e.f1.length ≤ 1000000) : emendateref29_Tails.f (e.f1.length + 1) e.f0 e.f1 e.f2 e.f3.f0 e.f3.f1 vs = some (tailV vs e.f1) :=
  refTails_l0 vs e.f0 e.f1 e.f2 e.f3.f0 e.f3.f1 hr hl (e.f1.length + 1) 0 [] (by omega) (by omega) (by simp)

/-- What the rounds keep. -/
structure Pre (n : Nat) (es : List S54) (vs : List S34) : Prop where
  len : vs.length = n
  ok : ∀ v, v ∈ vs → okV v
  att : ∀ t : Nat, t < n → rd_T34 vs (t : Int) = infV ∨ Der es (t : Int) (rd_T34 vs (t : Int))
theorem Pre.val {n : Nat} {es : List S54} {vs : List S34} (h : Pre n es vs) (hc : okC es) (he : okE n es) (k : Nat) (hk : k < es.length) : okV (valE vs (rd_T54 es (k : Int))) := by
  have hek := okE_rd he (k : Int) (by omega) (by omega)
  exact combV_ok _ _ (okC_rd hc k hk).1 (tailV_ok h.ok (fun t ht => by rw [h.len]; exact hek.2.1 t ht))
theorem Pre.set {n : Nat} {es : List S54} {vs : List S34} (h : Pre n es vs) (hc : okC es) (he : okE n es) (k : Nat) (hk : k < es.length) (hlt : ltV (valE vs (rd_T54 es (k : Int))) (rd_T34 vs (rd_T54 es (k : Int)).f0) = true) : Pre n es (vs.set (rd_T54 es (k : Int)).f0.toNat (valE vs (rd_T54 es (k : Int)))) := by
  have hek := okE_rd he (k : Int) (by omega) (by omega)
  have hv := h.val hc he k hk
  have hhd := h.ok _ (rd34_mem vs (rd_T54 es (k : Int)).f0 hek.1.1 (by rw [h.len]; exact hek.1.2))
  have hfin : valE vs (rd_T54 es (k : Int)) ≠ infV := fun e => by
    rw [e] at hlt
    have h1 := (ltV_iff _ _).1 hlt
    have h2 := hhd.le_inf
    unfold LeV at h2
    omega
  have htok : ∀ v, v ∈ tailV vs (rd_T54 es (k : Int)).f1 → okV v := tailV_ok h.ok (fun t ht => by rw [h.len]; exact hek.2.1 t ht)
  have hder : Der es (rd_T54 es (k : Int)).f0 (valE vs (rd_T54 es (k : Int))) := by
    refine Der.mk k hk _ (tailV_length _ _) (fun j hj => ?_)
    rw [tailV_length] at hj
    rw [tailV_getD _ _ _ hj]
    have h1 := hek.2.1 _ (getD_mem (rd_T54 es (k : Int)).f1 j 0 hj)
    have h3 := h.att ((rd_T54 es (k : Int)).f1.getD j 0).toNat (by omega)
    rw [Int.toNat_of_nonneg h1.1] at h3
    rcases h3 with h3 | h3
    · exact absurd (combV_inf _ _ (okC_rd hc k hk).1 htok j (by rw [tailV_length]; exact hj) (by rw [tailV_getD _ _ _ hj]; exact h3)) hfin
    · exact h3
  obtain ⟨hd, hhd2⟩ : ∃ hd : Nat, (rd_T54 es (k : Int)).f0 = (hd : Int) := ⟨(rd_T54 es (k : Int)).f0.toNat, by omega⟩
  have hdn : hd < vs.length := by rw [h.len]; omega
  rw [hhd2] at hder ⊢
  rw [Int.toNat_natCast]
  refine ⟨by rw [List.length_set]; exact h.len, fun v hv2 => ?_, fun t ht => ?_⟩
  · rcases List.mem_or_eq_of_mem_set hv2 with h1 | h1
    · exact h.ok v h1
    · rw [h1]; exact hv
  · rw [rd34_set vs hd hdn _ _ (by omega)]
    by_cases hth : (t : Int) = (hd : Int)
    · rw [if_pos hth, hth]
      exact Or.inr hder
    · rw [if_neg hth]
      exact h.att t ht
/-- What grows less. -/
def mV (vs : List S34) : Nat := (vs.map (fun v => v.f0.toNat * 2199023255552 + v.f1.toNat)).sum
theorem mV_set : ∀ (vs : List S34) (i : Nat) (x : S34), i < vs.length → okV x → (∀ v, v ∈ vs → okV v) → ltV x (vs.getD i z34) = true → mV (vs.set i x) < mV vs
  | v :: vs, 0, x, _, hx, hv, hlt => by
    have h0 := hv v (List.mem_cons_self ..)
    have h1 : ltV x v = true := hlt
    rw [ltV_iff] at h1
    obtain ⟨a, b, c, d, e⟩ := hx
    obtain ⟨a', b', c', d', e'⟩ := h0
    simp only [mV, List.set_cons_zero, List.map_cons, List.sum_cons]
    omega
  | v :: vs, i + 1, x, hi, hx, hv, hlt => by
    have ih := mV_set vs i x (by simpa using hi) hx (fun y hy => hv y (List.mem_cons_of_mem _ hy)) hlt
    simp only [mV, List.set_cons_succ, List.map_cons, List.sum_cons] at ih ⊢
    omega
  | [], i, x, hi, _, _, _ => by simp at hi
theorem mV_step {n : Nat} {es : List S54} {vs : List S34} (h : Pre n es vs) (hc : okC es) (he : okE n es) (k : Nat) (hk : k < es.length) (hlt : ltV (valE vs (rd_T54 es (k : Int))) (rd_T34 vs (rd_T54 es (k : Int)).f0) = true) : mV (vs.set (rd_T54 es (k : Int)).f0.toNat (valE vs (rd_T54 es (k : Int)))) < mV vs := by
  have hek := okE_rd he (k : Int) (by omega) (by omega)
  exact mV_set vs _ _ (by rw [h.len]; omega) (h.val hc he k hk) h.ok hlt
/-- In one round: either nothing has changed and the first k hyperedges give nothing better, or the values have grown less. -/
structure Rnd (n : Nat) (es : List S54) (v0 vs : List S34) (k : Nat) (more : Bool) : Prop where
  pre : Pre n es vs
  no : more = false → vs = v0 ∧ ∀ j : Nat, j < k → LeV (rd_T34 vs (rd_T54 es (j : Int)).f0) (valE vs (rd_T54 es (j : Int)))
  yes : more = true → mV vs < mV v0
theorem Rnd.zero {n : Nat} {es : List S54} {vs : List S34} (h : Pre n es vs) : Rnd n es vs vs 0 false := ⟨h, fun _ => ⟨rfl, fun j hj => absurd hj (by omega)⟩, fun h => by cases h⟩
theorem Rnd.skip {n : Nat} {es : List S54} {v0 vs : List S34} {k : Nat} {more : Bool} (h : Rnd n es v0 vs k more) (hlt : ltV (valE vs (rd_T54 es (k : Int))) (rd_T34 vs (rd_T54 es (k : Int)).f0) = false) : Rnd n es v0 vs (k + 1) more := by
  refine ⟨h.pre, fun hm => ⟨(h.no hm).1, fun j hj => ?_⟩, h.yes⟩
  by_cases hjk : j = k
  · rw [hjk]; exact (ltV_false _ _).1 hlt
  · exact (h.no hm).2 j (by omega)
theorem Rnd.step {n : Nat} {es : List S54} {v0 vs : List S34} {k : Nat} {more : Bool} (h : Rnd n es v0 vs k more) (hc : okC es) (he : okE n es) (hk : k < es.length) (hlt : ltV (valE vs (rd_T54 es (k : Int))) (rd_T34 vs (rd_T54 es (k : Int)).f0) = true) : Rnd n es v0 (vs.set (rd_T54 es (k : Int)).f0.toNat (valE vs (rd_T54 es (k : Int)))) (k + 1) true := by
  have hm := mV_step h.pre hc he k hk hlt
  refine ⟨h.pre.set hc he k hk hlt, fun h => (by cases h), fun _ => ?_⟩
  cases more with
  | true => have := h.yes rfl; omega
  | false => rw [← (h.no rfl).1]; exact hm
theorem Rnd.sol {n : Nat} {es : List S54} {v0 vs : List S34} (h : Rnd n es v0 vs es.length false) : Sol n es vs := ⟨h.pre.len, h.pre.ok, (h.no rfl).2, h.pre.att⟩
theorem Pre.init (n : Nat) (es : List S54) : Pre n es (List.replicate n infV) :=
  ⟨by simp, fun v hv => by rw [(List.mem_replicate.1 hv).2]; exact okV_inf, fun t ht => Or.inl (getD_replicate' n t _ _ ht)⟩

/-- The choice, made from the last hyperedge down to hyperedge i. -/
structure Down (n : Nat) (es : List S54) (vs : List S34) (i : Nat) (ed : List Int) : Prop where
  len : ed.length = n
  ch : ∀ t : Nat, t < n → (ed.getD t 0 = -1 ∧ ∀ k, i ≤ k → k < es.length → ¬ Tight es vs k (t : Int)) ∨ ∃ k, (i ≤ k ∧ k < es.length) ∧ ed.getD t 0 = (k : Int) ∧ Tight es vs k (t : Int) ∧ ∀ j, i ≤ j → j < k → ¬ Tight es vs j (t : Int)
theorem Down.init (n : Nat) (es : List S54) (vs : List S34) : Down n es vs es.length (List.replicate n (-1)) :=
  ⟨by simp, fun t ht => Or.inl ⟨getD_replicate' n t _ _ ht, fun k h1 h2 => absurd h2 (by omega)⟩⟩
theorem Down.chosen {n : Nat} {es : List S54} {vs : List S34} {ed : List Int} (h : Down n es vs 0 ed) : Chosen n es vs es.length ed := by
  refine ⟨h.len, fun t ht => ?_⟩
  rcases h.ch t ht with ⟨e, h1⟩ | ⟨k, hk, e, h1, h2⟩
  · exact Or.inl ⟨e, fun k hk => h1 k (by omega) hk⟩
  · exact Or.inr ⟨k, hk.2, e, h1, fun j hj => h2 j (by omega) hj⟩
theorem Down.skip {n : Nat} {es : List S54} {vs : List S34} {i : Nat} {ed : List Int} (h : Down n es vs (i + 1) ed) (hT : ¬ Tight es vs i (rd_T54 es (i : Int)).f0) : Down n es vs i ed := by
  have hno : ∀ t : Nat, ¬ Tight es vs i (t : Int) := fun t ht => hT (by rw [ht.1]; exact ht)
  refine ⟨h.len, fun t ht => ?_⟩
  rcases h.ch t ht with ⟨e, h1⟩ | ⟨k, hk, e, h1, h2⟩
  · refine Or.inl ⟨e, fun k h3 h4 => ?_⟩
    by_cases hki : k = i
    · rw [hki]; exact hno t
    · exact h1 k (by omega) h4
  · refine Or.inr ⟨k, by omega, e, h1, fun j h3 h4 => ?_⟩
    by_cases hji : j = i
    · rw [hji]; exact hno t
    · exact h2 j (by omega) h4
theorem Down.step {n : Nat} {es : List S54} {vs : List S34} {i : Nat} {ed : List Int} (h : Down n es vs (i + 1) ed) (he : okE n es) (hi : i < es.length) (hT : Tight es vs i (rd_T54 es (i : Int)).f0) : Down n es vs i (ed.set (rd_T54 es (i : Int)).f0.toNat (i : Int)) := by
  have hek := okE_rd he (i : Int) (by omega) (by omega)
  obtain ⟨hd, hhd⟩ : ∃ hd : Nat, (rd_T54 es (i : Int)).f0 = (hd : Int) := ⟨(rd_T54 es (i : Int)).f0.toNat, by omega⟩
  rw [hhd] at hT ⊢
  rw [Int.toNat_natCast]
  refine ⟨by rw [List.length_set]; exact h.len, fun t ht => ?_⟩
  rw [getD_set']
  by_cases hth : t = hd
  · subst hth
    rw [if_pos ⟨rfl, by rw [h.len]; exact ht⟩]
    exact Or.inr ⟨i, ⟨Nat.le_refl _, hi⟩, rfl, hT, fun j h3 h4 => absurd h4 (by omega)⟩
  · rw [if_neg (fun h => hth h.1)]
    have hno : ¬ Tight es vs i (t : Int) := fun h2 => hth (by have := h2.1; omega)
    rcases h.ch t ht with ⟨e, h1⟩ | ⟨k, hk, e, h1, h2⟩
    · refine Or.inl ⟨e, fun k h3 h4 => ?_⟩
      by_cases hki : k = i
      · rw [hki]; exact hno
      · exact h1 k (by omega) h4
    · refine Or.inr ⟨k, by omega, e, h1, fun j h3 h4 => ?_⟩
      by_cases hji : j = i
      · rw [hji]; exact hno
      · exact h2 j (by omega) h4
/-- What the reference finds is what Knuth's algorithm finds. -/
theorem ref_sol {n : Nat} {es : List S54} {vs : List S34} {ed : List Int} (hc : okC es) (he : okE n es) (hT : ∀ e, e ∈ es → e.f1.length ≤ 100) (hl : es.length ≤ 1000) (h : Sol n es vs) (hd : Down n es vs 0 ed) : vs = solV n es ∧ ed = solE n es := by
  have h1 : vs = solV n es := h.uniq (endM_sol hc he hT hl) hc he
  subst h1
  exact ⟨rfl, hd.chosen.uniq (solE_chosen hc he hT hl)⟩
end Go.Proofs.Ytamimodkcbbpmaa.Pr
end
