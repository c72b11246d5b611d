/- F31 F28 F74 F33 XAwake: a part of the proof of the row of DerivationValidMatchesReference; no conditions. -/
import Derived.Test.YtamimodkcbbpmaaG2
import Derived.WalkMore
import Derived.Test.YtamimodkcbbpmaaG4
import Derived.Test.YtamimodkcbbpmaaG3
section
/- Printed by a program of this session (a turned print of the kit's) out of the translation: each Go function as a Lean function, and the proof that the machine's call answers what it says. Lean checks it. -/
namespace Go.Proofs.Ytamimodkcbbpmaa.Pr
open Go.RowKit Go.Proofs.YtamimodkcbbpmaaW.PrintWords Go.Proofs.YtamimodkcbbpmaaW.PrintLast Go.Proofs.YtamimodkcbbpmaaW.PrintMore Go.Proofs.YtamimodkcbbpmaaXW
attribute [local go_sem] max2_int min2_int max_two min_two max_three min_three max_four min_four   -- for this text's walks alone
set_option linter.unusedVariables false
set_option linter.unusedSimpArgs false

/-! ### derivation_Compare: function 31 -/
mutual
def derivation_Compare.j0 : Nat → Int → List (S54) → Int → List (S27) → Int → List (S27) → Option (Int)
  | 0, _, _, _, _, _, _ => none
  | k + 1, x133000, x133001, x134000, x134001, x135000, x135001 => if x134000 = x135000 then (derivation_Compare.j1 k x133000 x133001 x134000 x134001 x135000 x135001) else (if x134000 < x135000 then (some (-1)) else (some 1))
def derivation_Compare.j1 : Nat → Int → List (S54) → Int → List (S27) → Int → List (S27) → Option (Int)
  | 0, _, _, _, _, _, _ => none
  | k + 1, x133000, x133001, x134000, x134001, x135000, x135001 => derivation_Compare.l0 k 0 x134001 (x134001.length : Int) 0 x133000 x133001 x135000 x135001
def derivation_Compare.l0 : Nat → Int → List (S27) → Int → Int → Int → List (S54) → Int → List (S27) → Option (Int)
  | 0, _, _, _, _, _, _, _, _ => none
  | k + 1, x8, x33, x34, x35, x133000, x133001, x135000, x135001 => if x35 < x34 then (if 0 ≤ x35 then (if x35 < (x33.length : Int) then (if x35 < (x135001.length : Int) then ((derivation_Compare.f k x133000 x133001 ((rd_T27 x33 x35).f0) ((rd_T27 x33 x35).f1) ((rd_T27 x135001 x35).f0) ((rd_T27 x135001 x35).f1)).bind fun t143 => (if t143 = 0 then (derivation_Compare.l0 k x8 x33 x34 (wrap64 (x35 + 1)) x133000 x133001 x135000 x135001) else (some t143))) else (none)) else (none)) else (none)) else (some x8)
def derivation_Compare.f : Nat → Int → List (S54) → Int → List (S27) → Int → List (S27) → Option (Int)
  | 0, _, _, _, _, _, _ => none
  | k + 1, a0_0, l0_1, a1_0, l1_1, a2_0, l2_1 => (derivation_Value.f k a0_0 l0_1 a1_0 l1_1).bind fun bt135 => ((derivation_Value.f k a0_0 l0_1 a2_0 l2_1).bind fun bt137 => ((derivation_values.f bt135.1 bt135.2 bt137.1 bt137.2).bind fun t139 => (if t139 = 0 then (derivation_Compare.j0 k a0_0 l0_1 a1_0 l1_1 a2_0 l2_1) else (some t139))))
end
theorem derivation_Compare.mono_l : ∀ k, (∀ y0 y1 y2 y3 y4 y5, LeO (derivation_Compare.f k y0 y1 y2 y3 y4 y5) (derivation_Compare.f (k + 1) y0 y1 y2 y3 y4 y5)) ∧ (∀ y0 y1 y2 y3 y4 y5, LeO (derivation_Compare.j0 k y0 y1 y2 y3 y4 y5) (derivation_Compare.j0 (k + 1) y0 y1 y2 y3 y4 y5)) ∧ (∀ y0 y1 y2 y3 y4 y5, LeO (derivation_Compare.j1 k y0 y1 y2 y3 y4 y5) (derivation_Compare.j1 (k + 1) y0 y1 y2 y3 y4 y5)) ∧ (∀ y0 y1 y2 y3 y4 y5 y6 y7, LeO (derivation_Compare.l0 k y0 y1 y2 y3 y4 y5 y6 y7) (derivation_Compare.l0 (k + 1) y0 y1 y2 y3 y4 y5 y6 y7))
  | 0 => ⟨fun _ _ _ _ _ _ r h => by simp [derivation_Compare.f] at h, fun _ _ _ _ _ _ r h => by simp [derivation_Compare.j0] at h, fun _ _ _ _ _ _ r h => by simp [derivation_Compare.j1] at h, fun _ _ _ _ _ _ _ _ r h => by simp [derivation_Compare.l0] at h⟩
  | k + 1 => by
    obtain ⟨ih0, ih1, ih2, ih3⟩ := derivation_Compare.mono_l k
    refine ⟨?_, ?_, ?_, ?_⟩
    all_goals intros
    all_goals first | unfold derivation_Compare.f | unfold derivation_Compare.j0 | unfold derivation_Compare.j1 | unfold derivation_Compare.l0
    all_goals
      repeat' first
      | (with_reducible exact ih0 _ _ _ _ _ _)
      | (with_reducible exact ih1 _ _ _ _ _ _)
      | (with_reducible exact ih2 _ _ _ _ _ _)
      | (with_reducible exact ih3 _ _ _ _ _ _ _ _)
      | (with_reducible exact derivation_Value.mono _ _ _ _ _)
      | (with_reducible exact LeO.refl _)
      | (with_reducible exact LeO.none _)
      | (with_reducible refine LeO.ite ?_ ?_)
      | (with_reducible refine LeO.bind ?_ (fun _ => ?_))
      | exact ih0 _ _ _ _ _ _
      | exact ih1 _ _ _ _ _ _
      | exact ih2 _ _ _ _ _ _
      | exact ih3 _ _ _ _ _ _ _ _
      | exact derivation_Value.mono _ _ _ _ _
      | exact LeO.none _
      | refine LeO.ite ?_ ?_
      | refine LeO.bind ?_ (fun _ => ?_)
theorem derivation_Compare.mono : ∀ a0 a1 a2 a3 a4 a5 k, LeO (derivation_Compare.f k a0 a1 a2 a3 a4 a5) (derivation_Compare.f (k + 1) a0 a1 a2 a3 a4 a5) := by
  intro a0 a1 a2 a3 a4 a5 k
  obtain ⟨ih0, ih1, ih2, ih3⟩ := derivation_Compare.mono_l k
  exact ih0 a0 a1 a2 a3 a4 a5
def derivation_Compare.T1 : Bool × List (List Nat × List Nat) := (true, [([], []), ([], []), ([0, 1], [0, 1]), ([], []), ([], []), ([3, 4, 2], [3, 4]), ([2, 5, 5], [2, 5]), ([6, 6, 0, 1, 2, 3, 4, 5, 6], [6])])
def derivation_Compare.B1 : List Nat := [0, 0, 3, 0, 0, 31, 63, 127]
theorem derivation_Compare.tab1 : rtab .any (opsOf Try.f31 1) = derivation_Compare.T1 := by kernel_rfl
theorem derivation_Compare.bits1 : waitsOk derivation_Compare.T1.2 derivation_Compare.B1 = true := by kernel_rfl
def derivation_Compare.T12 : Bool × List (List Nat × List Nat) := (true, [([], []), ([], []), ([], []), ([2], [2]), ([], []), ([3, 4], [3, 4]), ([5], [5]), ([0, 1, 6], [0, 1, 6]), ([7, 7, 0, 1, 2, 3, 4, 5, 6, 7], [7])])
def derivation_Compare.B12 : List Nat := [0, 0, 0, 4, 0, 28, 60, 127, 255]
theorem derivation_Compare.tab12 : rtab .any (opsOf Try.f31 12) = derivation_Compare.T12 := by kernel_rfl
theorem derivation_Compare.bits12 : waitsOk derivation_Compare.T12.2 derivation_Compare.B12 = true := by kernel_rfl
set_option maxHeartbeats 8000000 in
set_option maxRecDepth 100000 in
theorem derivation_Compare.calls (k : Nat) : ∀ (a0_0 : Int) (A0_1 : Option Addr) (c0_1 : Nat) (l0_1 : List (S54)) (a1_0 : Int) (A1_1 : Option Addr) (c1_1 : Nat) (l1_1 : List (S27)) (a2_0 : Int) (A2_1 : Option Addr) (c2_1 : Nat) (l2_1 : List (S27)) (r : Int) (w : World) (hr0_1 : Kd.C k54 w A0_1 l0_1.length l0_1) (hc0_1 : l0_1.length ≤ c0_1) (hr1_1 : Kd.C k27 w A1_1 l1_1.length l1_1) (hc1_1 : l1_1.length ≤ c1_1) (hr2_1 : Kd.C k27 w A2_1 l2_1.length l2_1) (hc2_1 : l2_1.length ≤ c2_1) (h : derivation_Compare.f k a0_0 l0_1 a1_0 l1_1 a2_0 l2_1 = some r),
    Calls Try.prog 31 #[.agg #[.int .i64 a0_0, .slice A0_1 l0_1.length c0_1], .agg #[.int .i64 a1_0, .slice A1_1 l1_1.length c1_1], .agg #[.int .i64 a2_0, .slice A2_1 l2_1.length c2_1]] w fun e w' => e = .returned (.int .i64 r) ∧ Below w.heap.size w w' := by
  induction k using Nat.strongRecOn with
  | _ k ih =>
  intro a0_0 A0_1 c0_1 l0_1 a1_0 A1_1 c1_1 l1_1 a2_0 A2_1 c2_1 l2_1 r w hr0_1 hc0_1 hr1_1 hc1_1 hr2_1 hc2_1 h
  cases k with
  | zero => exact absurd h (by simp [derivation_Compare.f])
  | succ k =>
  simp only [derivation_Compare.f] at h
  have hu24 := Try.underlying24
  have hu27 := Try.underlying27
  have HR0_1 := Aside0.mk hr0_1
  have HC0_1 := Aside0.mk hc0_1
  clear hr0_1 hc0_1
  have HR1_1 := Aside0.mk hr1_1
  have HC1_1 := Aside0.mk hc1_1
  clear hr1_1 hc1_1
  have HR2_1 := Aside0.mk hr2_1
  have HC2_1 := Aside0.mk hc2_1
  clear hr2_1 hc2_1
  have HB := Aside0.mk (Below.refl w.heap.size w)
  have H : ((derivation_Value.f k a0_0 l0_1 a1_0 l1_1).bind fun bt135 => ((derivation_Value.f k a0_0 l0_1 a2_0 l2_1).bind fun bt137 => ((derivation_values.f bt135.1 bt135.2 bt137.1 bt137.2).bind fun t139 => (if t139 = 0 then (derivation_Compare.j0 k a0_0 l0_1 a1_0 l1_1 a2_0 l2_1) else (some t139))))) = some r := h
  clear h
  replace H := Option.bind_eq_some_iff.mp H
  obtain ⟨⟨t135, t136⟩, A40, H⟩ := H
  replace H : ((derivation_Value.f k a0_0 l0_1 a2_0 l2_1).bind fun bt137 => ((derivation_values.f t135 t136 bt137.1 bt137.2).bind fun t139 => (if t139 = 0 then (derivation_Compare.j0 k a0_0 l0_1 a1_0 l1_1 a2_0 l2_1) else (some t139)))) = some r := H
  have A4 := Aside0.mk A40
  clear A40
  replace H := Option.bind_eq_some_iff.mp H
  obtain ⟨⟨t137, t138⟩, A50, H⟩ := H
  replace H : ((derivation_values.f t135 t136 t137 t138).bind fun t139 => (if t139 = 0 then (derivation_Compare.j0 k a0_0 l0_1 a1_0 l1_1 a2_0 l2_1) else (some t139))) = some r := H
  have A5 := Aside0.mk A50
  clear A50
  replace H := Option.bind_eq_some_iff.mp H
  obtain ⟨t139, A60, H⟩ := H
  replace H : (if t139 = 0 then (derivation_Compare.j0 k a0_0 l0_1 a1_0 l1_1 a2_0 l2_1) else (some t139)) = some r := H
  have A6 := Aside0.mk A60
  clear A60
  have HC7 := Aside0.mk H
  clear H
  go_enter Try.func31, Try.ntmps31
  try go_wp2_with (first | ((with_reducible refine gate_dst (N := 3) rfl ?_); refine box_event ?hg (N := 3) ?hd (cs := #[.int .i64 a0_0, .slice A0_1 l0_1.length c0_1]) (t := 24) ?hr ?_; (case hd => rfl); (case hg => rfl); (case hr => first | (go_simp; done) | (go_simp; rfl)); intro gb132 hg w8 hbox hb; have n0_ := Aside0.mk (below_step (bel HB) hb); have n1_ := Aside0.mk (hbox); have n2_ := Aside0.mk ((by rw [hg]; exact (below_size (bel HB)) : w.heap.size ≤ gb132)); have n3_ := Aside0.mk ((by rw [hg]; exact (below_size (bel HB)) : w.heap.size ≤ gb132)); clear HB; have HB := n0_; have BK132 := n1_; have GW132 := n2_; have GE132 := n3_; clear n0_ n1_ n2_ n3_; clear hb hbox hg) | ((with_reducible refine gate_dst (N := 4) rfl ?_); refine box_event ?hg (N := 4) ?hd (cs := #[.int .i64 a1_0, .slice A1_1 l1_1.length c1_1]) (t := 27) ?hr ?_; (case hd => rfl); (case hg => rfl); (case hr => first | (go_simp; done) | (go_simp; rfl)); intro gb133 hg w9 hbox hb; have n0_ := Aside0.mk (blk_below (bk BK132) hb); have n1_ := Aside0.mk (below_step (bel HB) hb); have n2_ := Aside0.mk (hbox); have n3_ := Aside0.mk ((by rw [hg]; exact (below_size (bel HB)) : w.heap.size ≤ gb133)); have n4_ := Aside0.mk ((by rw [hg]; exact (below_size (bel HB)) : w.heap.size ≤ gb133)); have n5_ := Aside0.mk ((by rw [hg]; exact Nat.ne_of_lt (blk_lt (bk BK132)) : gb132 ≠ gb133)); have n6_ := Aside0.mk ((by rw [hg]; exact Nat.ne_of_gt (blk_lt (bk BK132)) : gb133 ≠ gb132)); clear BK132; clear HB; have BK132 := n0_; have HB := n1_; have BK133 := n2_; have GW133 := n3_; have GE133 := n4_; have NB132_133 := n5_; have NB133_132 := n6_; clear n0_ n1_ n2_ n3_ n4_ n5_ n6_; clear hb hbox hg) | ((with_reducible refine gate_dst (N := 5) rfl ?_); refine box_event ?hg (N := 5) ?hd (cs := #[.int .i64 a2_0, .slice A2_1 l2_1.length c2_1]) (t := 27) ?hr ?_; (case hd => rfl); (case hg => rfl); (case hr => first | (go_simp; done) | (go_simp; rfl)); intro gb134 hg w10 hbox hb; have n0_ := Aside0.mk (blk_below (bk BK132) hb); have n1_ := Aside0.mk (blk_below (bk BK133) hb); have n2_ := Aside0.mk (below_step (bel HB) hb); have n3_ := Aside0.mk (hbox); have n4_ := Aside0.mk ((by rw [hg]; exact (below_size (bel HB)) : w.heap.size ≤ gb134)); have n5_ := Aside0.mk ((by rw [hg]; exact (below_size (bel HB)) : w.heap.size ≤ gb134)); have n6_ := Aside0.mk ((by rw [hg]; exact Nat.ne_of_lt (blk_lt (bk BK132)) : gb132 ≠ gb134)); have n7_ := Aside0.mk ((by rw [hg]; exact Nat.ne_of_gt (blk_lt (bk BK132)) : gb134 ≠ gb132)); have n8_ := Aside0.mk ((by rw [hg]; exact Nat.ne_of_lt (blk_lt (bk BK133)) : gb133 ≠ gb134)); have n9_ := Aside0.mk ((by rw [hg]; exact Nat.ne_of_gt (blk_lt (bk BK133)) : gb134 ≠ gb133)); clear BK132; clear BK133; clear HB; have BK132 := n0_; have BK133 := n1_; have HB := n2_; have BK134 := n3_; have GW134 := n4_; have GE134 := n5_; have NB132_134 := n6_; have NB134_132 := n7_; have NB133_134 := n8_; have NB134_133 := n9_; clear n0_ n1_ n2_ n3_ n4_ n5_ n6_ n7_ n8_ n9_; clear hb hbox hg))
  refine wp_scope_straight ?_
  go_upto_region 1 with (fail)
  have n0_ := Aside0.mk (blk_drew BK132.out)
  have n1_ := Aside0.mk (blk_drew BK133.out)
  have n2_ := Aside0.mk (blk_drew BK134.out)
  have n3_ := Aside0.mk (below_drew1 HB.out)
  clear BK132
  clear BK133
  clear BK134
  clear HB
  have BK132 := n0_
  have BK133 := n1_
  have BK134 := n2_
  have HB := n3_
  clear n0_ n1_ n2_ n3_
  refine start_ (n := 8) (S := fun w' => w'.cell? ⟨gb132, 0, none⟩ = some (.int .i64 a0_0) ∧ w'.cell? ⟨gb132, 1, none⟩ = some (.slice A0_1 l0_1.length c0_1) ∧ w'.cell? ⟨gb133, 0, none⟩ = some (.int .i64 a1_0) ∧ w'.cell? ⟨gb133, 1, none⟩ = some (.slice A1_1 l1_1.length c1_1) ∧ w'.cell? ⟨gb134, 0, none⟩ = some (.int .i64 a2_0) ∧ w'.cell? ⟨gb134, 1, none⟩ = some (.slice A2_1 l2_1.length c2_1)) (ds := []) #[false, false, false, false, false, false, false, false] (by kernel_rfl) rfl rfl ⟨(blk_cell BK132.out 0).trans rfl, (blk_cell BK132.out 1).trans rfl, (blk_cell BK133.out 0).trans rfl, (blk_cell BK133.out 1).trans rfl, (blk_cell BK134.out 0).trans rfl, (blk_cell BK134.out 1).trans rfl⟩ (fun hHeld => ?_); refine with_tabW derivation_Compare.tab1 derivation_Compare.bits1 (fun HT_ HW_ => ?_)
  generalize w10.drew = w11 at BK132 BK133 BK134 HB hHeld ⊢
  refine bulk_ (fuel := 4) [(0, 12), (1, 13), (3, 15), (4, 16)] #[true, true, false, true, true, false, false, false] (bulkB_of HT_.out HW_.out _ _ _ (by kernel_rfl)) rfl (fun _ _ _ _ _ h => h) hHeld (a' := ?_) ?_ ?_
  rotate_left
  · iterate 4
      refine chain_cons (v := ?_) (a1 := ?_) rfl rfl (Or.inl ⟨by rfl, ?_⟩) ?_ ?_
      rotate_left 2
      · rintro w' ⟨s0, s1, s2, s3, s4, s5⟩
        go_simp
        with_reducible rfl
      · simp only [Act.put, List.setIfInBounds_toArray, List.set_cons_zero, List.set_cons_succ, i64_w, i32_w]
        rfl
    exact chain_nil
  refine one_ (i := 2) (N := some 14) #[true, true, true, true, true, false, false, false] rfl rfl (one_of HT_.out (by kernel_rfl)) (by decide) (fun K hK => ?_)
  refine goes_ Try.func29 (by kernel_rfl) rfl #[.agg #[.int .i64 a0_0, .slice A0_1 l0_1.length c0_1], .agg #[.int .i64 a1_0, .slice A1_1 l1_1.length c1_1]] (by rfl) rfl rfl (by (try simp only [List.map_toArray, List.map_cons, List.map_nil]); first | done | rfl | (simp only [List.length_drop, List.length_take]; rfl)) ?_
  with_reducible refine (derivation_Value.calls k a0_0 _ _ l0_1 a1_0 _ _ l1_1 t135 t136 _ ?side1 ?side2 ?side3 ?side4 A4.out).mono ?_
  (case side1 => repeat (first | exact (Kd.C_below HR0_1.out HB.out) | (with_reducible refine Kd.C_alloc ?_ _) | (with_reducible refine Kd.C_drewN ?_ _) | (with_reducible refine Kd.C_drew ?_)))
  (case side2 => exact HC0_1.out)
  (case side3 => repeat (first | exact (Kd.C_below HR1_1.out HB.out) | (with_reducible refine Kd.C_alloc ?_ _) | (with_reducible refine Kd.C_drewN ?_ _) | (with_reducible refine Kd.C_drew ?_)))
  (case side4 => exact HC1_1.out)
  rintro e w12 ⟨rfl, hb⟩
  refine ⟨_, rfl, ?_⟩
  have n0_ := Aside0.mk (blk_below (bk BK132) hb)
  have n1_ := Aside0.mk (blk_below (bk BK133) hb)
  have n2_ := Aside0.mk (blk_below (bk BK134) hb)
  have n3_ := Aside0.mk (below_step (bel HB) hb)
  clear BK132
  clear BK133
  clear BK134
  clear HB
  have BK132 := n0_
  have BK133 := n1_
  have BK134 := n2_
  have HB := n3_
  clear n0_ n1_ n2_ n3_
  (try clear hb)
  (try clear hb2)
  (try clear hk)
  (try clear hi)
  refine hK.out _ _ ⟨(blk_cell BK132.out 0).trans rfl, (blk_cell BK132.out 1).trans rfl, (blk_cell BK133.out 0).trans rfl, (blk_cell BK133.out 1).trans rfl, (blk_cell BK134.out 0).trans rfl, (blk_cell BK134.out 1).trans rfl⟩ (fun hHeld => ?_)
  clear hK K
  refine norm_ (a' := ?_) ?_ ?_
  rotate_left
  · show Act.put _ (some 14) _ = _
    simp only [Act.put, List.setIfInBounds_toArray, List.set_cons_zero, List.set_cons_succ, i64_w, i32_w]
    rfl
  refine one_ (i := 5) (N := some 17) #[true, true, true, true, true, true, false, false] rfl rfl (one_of HT_.out (by kernel_rfl)) (by decide) (fun K hK => ?_)
  refine goes_ Try.func29 (by kernel_rfl) rfl #[.agg #[.int .i64 a0_0, .slice A0_1 l0_1.length c0_1], .agg #[.int .i64 a2_0, .slice A2_1 l2_1.length c2_1]] (by rfl) rfl rfl (by (try simp only [List.map_toArray, List.map_cons, List.map_nil]); first | done | rfl | (simp only [List.length_drop, List.length_take]; rfl)) ?_
  with_reducible refine (derivation_Value.calls k a0_0 _ _ l0_1 a2_0 _ _ l2_1 t137 t138 _ ?side1 ?side2 ?side3 ?side4 A5.out).mono ?_
  (case side1 => repeat (first | exact (Kd.C_below HR0_1.out HB.out) | (with_reducible refine Kd.C_alloc ?_ _) | (with_reducible refine Kd.C_drewN ?_ _) | (with_reducible refine Kd.C_drew ?_)))
  (case side2 => exact HC0_1.out)
  (case side3 => repeat (first | exact (Kd.C_below HR2_1.out HB.out) | (with_reducible refine Kd.C_alloc ?_ _) | (with_reducible refine Kd.C_drewN ?_ _) | (with_reducible refine Kd.C_drew ?_)))
  (case side4 => exact HC2_1.out)
  rintro e w13 ⟨rfl, hb⟩
  refine ⟨_, rfl, ?_⟩
  have n0_ := Aside0.mk (blk_below (bk BK132) hb)
  have n1_ := Aside0.mk (blk_below (bk BK133) hb)
  have n2_ := Aside0.mk (blk_below (bk BK134) hb)
  have n3_ := Aside0.mk (below_step (bel HB) hb)
  clear BK132
  clear BK133
  clear BK134
  clear HB
  have BK132 := n0_
  have BK133 := n1_
  have BK134 := n2_
  have HB := n3_
  clear n0_ n1_ n2_ n3_
  (try clear hb)
  (try clear hb2)
  (try clear hk)
  (try clear hi)
  refine hK.out _ _ ⟨(blk_cell BK132.out 0).trans rfl, (blk_cell BK132.out 1).trans rfl, (blk_cell BK133.out 0).trans rfl, (blk_cell BK133.out 1).trans rfl, (blk_cell BK134.out 0).trans rfl, (blk_cell BK134.out 1).trans rfl⟩ (fun hHeld => ?_)
  clear hK K
  refine norm_ (a' := ?_) ?_ ?_
  rotate_left
  · show Act.put _ (some 17) _ = _
    simp only [Act.put, List.setIfInBounds_toArray, List.set_cons_zero, List.set_cons_succ, i64_w, i32_w]
    rfl
  refine one_ (i := 6) (N := some 18) #[true, true, true, true, true, true, true, false] rfl rfl (one_of HT_.out (by kernel_rfl)) (by decide) (fun K hK => ?_)
  refine goes_ Try.func76 (by kernel_rfl) rfl #[.agg #[.int .i64 t135, .int .i64 t136], .agg #[.int .i64 t137, .int .i64 t138]] (by rfl) rfl rfl (by (try simp only [List.map_toArray, List.map_cons, List.map_nil]); first | done | rfl | (simp only [List.length_drop, List.length_take]; rfl)) ?_
  with_reducible refine (derivation_values.calls t135 t136 t137 t138 t139 _ A6.out).mono ?_
  rintro e w14 ⟨rfl, hb⟩
  refine ⟨_, rfl, ?_⟩
  have n0_ := Aside0.mk (blk_below (bk BK132) hb)
  have n1_ := Aside0.mk (blk_below (bk BK133) hb)
  have n2_ := Aside0.mk (blk_below (bk BK134) hb)
  have n3_ := Aside0.mk (below_step (bel HB) hb)
  clear BK132
  clear BK133
  clear BK134
  clear HB
  have BK132 := n0_
  have BK133 := n1_
  have BK134 := n2_
  have HB := n3_
  clear n0_ n1_ n2_ n3_
  (try clear hb)
  (try clear hb2)
  (try clear hk)
  (try clear hi)
  refine hK.out _ _ ⟨(blk_cell BK132.out 0).trans rfl, (blk_cell BK132.out 1).trans rfl, (blk_cell BK133.out 0).trans rfl, (blk_cell BK133.out 1).trans rfl, (blk_cell BK134.out 0).trans rfl, (blk_cell BK134.out 1).trans rfl⟩ (fun hHeld => ?_)
  clear hK K
  refine norm_ (a' := ?_) ?_ ?_
  rotate_left
  · show Act.put _ (some 18) _ = _
    simp only [Act.put, List.setIfInBounds_toArray, List.set_cons_zero, List.set_cons_succ, i64_w, i32_w]
    rfl
  refine pure_ (i := 7) (N := some 7) (v := ?_) (a' := ?_) #[true, true, true, true, true, true, true, true] rfl rfl (any_of HT_.out (by kernel_rfl)) (fun _ _ _ h => h) (Or.inl ⟨by rfl, ?_⟩) ?_ ?_
  rotate_left
  · intro w'
    go_simp
    with_reducible rfl
  rotate_left
  · simp only [Act.put, List.setIfInBounds_toArray, List.set_cons_zero, List.set_cons_succ, i64_w, i32_w]
    rfl
  refine done_ (done_of HT_.out (by kernel_rfl)) ?_
  go_upto_if 20 with (fail)
  go_cut [] (fun wc => ∃ (kq : Nat), Aside0 (derivation_Compare.j0 kq a0_0 l0_1 a1_0 l1_1 a2_0 l2_1 = some r) ∧ Aside0 (kq ≤ k) ∧ Aside0 (wc.heap[gb132]? = some (.cells #[.int .i64 a0_0, (.slice A0_1 l0_1.length c0_1)] 24 (0, 0))) ∧ Aside0 (wc.heap[gb133]? = some (.cells #[.int .i64 a1_0, (.slice A1_1 l1_1.length c1_1)] 27 (0, 0))) ∧ Aside0 (wc.heap[gb134]? = some (.cells #[.int .i64 a2_0, (.slice A2_1 l2_1.length c2_1)] 27 (0, 0))) ∧ Aside0 (Below w.heap.size w wc))
  case first =>
    have H := HC7.out
    clear HC7
    by_cases c15 : t139 = 0
    · rw [if_pos c15] at H
      have c15b0 : (t139 == 0) = true := beq_iff_eq.mpr c15
      have c15b1 : (t139 != 0) = false := bne_eq_false_iff_eq.mpr c15
      clear c15
      (first | rw [c15b0] | (simp only [i64_w, i32_w]; rw [c15b0]) | skip)
      have H' := Aside0.mk H
      clear H
      go_wp2
      go_meet
      case rel => exact ⟨_, H', ⟨by first | omega | exact Nat.le_refl _⟩, ⟨by (with_reducible repeat (first | refine blk_drewN ?_ _ | refine blk_drew ?_ | refine blk_alloc ?_ _)); exact BK132.out⟩, ⟨by (with_reducible repeat (first | refine blk_drewN ?_ _ | refine blk_drew ?_ | refine blk_alloc ?_ _)); exact BK133.out⟩, ⟨by (with_reducible repeat (first | refine blk_drewN ?_ _ | refine blk_drew ?_ | refine blk_alloc ?_ _)); exact BK134.out⟩, ⟨bel HB⟩⟩
    · rw [if_neg c15] at H
      have c15b0 : (t139 == 0) = false := beq_eq_false_iff_ne.mpr c15
      have c15b1 : (t139 != 0) = true := bne_iff_ne.mpr c15
      (first | rw [c15b0] | (simp only [i64_w, i32_w]; rw [c15b0]) | skip)
      obtain rfl := Option.some.inj H
      go_wp2
      (try rw [Exit.noGoto_ret])
      go_ret
      exact ⟨by first | rfl | (simp [errW_none, errW_some] <;> rfl) | (simp [*, errW_none, errW_some] <;> rfl), bel HB⟩
  case rest =>
    clear HC7
    (try clear c1); (try clear c2); (try clear p2); (try clear c3); (try clear c7); (try clear c15); (try clear c15b0); (try clear c15b1)
    obtain ⟨kq, HA, HJ6, BK132, BK133, BK134, HB⟩ := hcut
    cases kq with
    | zero => exact absurd HA.out (by simp [derivation_Compare.j0])
    | succ kj6 =>
      have H := HA.out
      clear HA
      simp only [derivation_Compare.j0] at H
      have HC16 := Aside0.mk H
      clear H
      have hnb17 := NB133_132.out
      have hnc17 := NB132_133.out
      have hnb18 := NB133_134.out
      have hnc18 := NB134_133.out
      have hcz19_0 : wc.cell? ⟨gb133, 0, none⟩ = some (.int .i64 a1_0) := (blk_cell BK133.out 0).trans rfl
      have hcz19_1 : wc.cell? ⟨gb133, 1, none⟩ = some (.slice A1_1 l1_1.length c1_1) := (blk_cell BK133.out 1).trans rfl
      have hfz19_0 := blk_frozen BK133.out 0
      have hfz19_1 := blk_frozen BK133.out 1
      have hnb20 := NB134_132.out
      have hnc20 := NB132_134.out
      have hcz21_0 : wc.cell? ⟨gb134, 0, none⟩ = some (.int .i64 a2_0) := (blk_cell BK134.out 0).trans rfl
      have hcz21_1 : wc.cell? ⟨gb134, 1, none⟩ = some (.slice A2_1 l2_1.length c2_1) := (blk_cell BK134.out 1).trans rfl
      have hfz21_0 := blk_frozen BK134.out 0
      have hfz21_1 := blk_frozen BK134.out 1
      go_upto_if 26 with (fail)
      go_cut [] (fun wc => ∃ (kq : Nat), Aside0 (derivation_Compare.j1 kq a0_0 l0_1 a1_0 l1_1 a2_0 l2_1 = some r) ∧ Aside0 (kq ≤ kj6) ∧ Aside0 (wc.heap[gb132]? = some (.cells #[.int .i64 a0_0, (.slice A0_1 l0_1.length c0_1)] 24 (0, 0))) ∧ Aside0 (wc.heap[gb133]? = some (.cells #[.int .i64 a1_0, (.slice A1_1 l1_1.length c1_1)] 27 (0, 0))) ∧ Aside0 (wc.heap[gb134]? = some (.cells #[.int .i64 a2_0, (.slice A2_1 l2_1.length c2_1)] 27 (0, 0))) ∧ Aside0 (Below w.heap.size w wc))
      case first =>
        have H := HC16.out
        clear HC16
        by_cases c22 : a1_0 = a2_0
        · rw [if_pos c22] at H
          have c22b0 : (a1_0 == a2_0) = true := beq_iff_eq.mpr c22
          have c22b1 : (a1_0 != a2_0) = false := bne_eq_false_iff_eq.mpr c22
          clear c22
          (first | rw [c22b0] | (simp only [i64_w, i32_w]; rw [c22b0]) | skip)
          have H' := Aside0.mk H
          clear H
          go_wp2
          go_meet
          case rel => exact ⟨_, H', ⟨by have := HJ6.out; first | omega | exact Nat.le_refl _⟩, ⟨by (with_reducible repeat (first | refine blk_drewN ?_ _ | refine blk_drew ?_ | refine blk_alloc ?_ _)); exact BK132.out⟩, ⟨by (with_reducible repeat (first | refine blk_drewN ?_ _ | refine blk_drew ?_ | refine blk_alloc ?_ _)); exact BK133.out⟩, ⟨by (with_reducible repeat (first | refine blk_drewN ?_ _ | refine blk_drew ?_ | refine blk_alloc ?_ _)); exact BK134.out⟩, ⟨bel HB⟩⟩
        · rw [if_neg c22] at H
          have c22b0 : (a1_0 == a2_0) = false := beq_eq_false_iff_ne.mpr c22
          have c22b1 : (a1_0 != a2_0) = true := bne_iff_ne.mpr c22
          (first | rw [c22b0] | (simp only [i64_w, i32_w]; rw [c22b0]) | skip)
          by_cases c23 : a1_0 < a2_0
          · rw [if_pos c23] at H
            have c23b0 : decide (a1_0 < a2_0) = true := decide_eq_true c23
            clear c23
            obtain rfl := Option.some.inj H
            have hnb24 := NB133_132.out
            have hnc24 := NB132_133.out
            have hnb25 := NB133_134.out
            have hnc25 := NB134_133.out
            have hcz26_0 : wc.cell? ⟨gb133, 0, none⟩ = some (.int .i64 a1_0) := (blk_cell BK133.out 0).trans rfl
            have hcz26_1 : wc.cell? ⟨gb133, 1, none⟩ = some (.slice A1_1 l1_1.length c1_1) := (blk_cell BK133.out 1).trans rfl
            have hfz26_0 := blk_frozen BK133.out 0
            have hfz26_1 := blk_frozen BK133.out 1
            have hnb27 := NB134_132.out
            have hnc27 := NB132_134.out
            have hcz28_0 : wc.cell? ⟨gb134, 0, none⟩ = some (.int .i64 a2_0) := (blk_cell BK134.out 0).trans rfl
            have hcz28_1 : wc.cell? ⟨gb134, 1, none⟩ = some (.slice A2_1 l2_1.length c2_1) := (blk_cell BK134.out 1).trans rfl
            have hfz28_0 := blk_frozen BK134.out 0
            have hfz28_1 := blk_frozen BK134.out 1
            go_wp2
            (try rw [Exit.noGoto_ret])
            go_ret
            exact ⟨by first | rfl | (simp [errW_none, errW_some] <;> rfl) | (simp [*, errW_none, errW_some] <;> rfl), bel HB⟩
          · rw [if_neg c23] at H
            have c23b0 : decide (a1_0 < a2_0) = false := decide_eq_false c23
            clear c23
            obtain rfl := Option.some.inj H
            have hnb29 := NB133_132.out
            have hnc29 := NB132_133.out
            have hnb30 := NB133_134.out
            have hnc30 := NB134_133.out
            have hcz31_0 : wc.cell? ⟨gb133, 0, none⟩ = some (.int .i64 a1_0) := (blk_cell BK133.out 0).trans rfl
            have hcz31_1 : wc.cell? ⟨gb133, 1, none⟩ = some (.slice A1_1 l1_1.length c1_1) := (blk_cell BK133.out 1).trans rfl
            have hfz31_0 := blk_frozen BK133.out 0
            have hfz31_1 := blk_frozen BK133.out 1
            have hnb32 := NB134_132.out
            have hnc32 := NB132_134.out
            have hcz33_0 : wc.cell? ⟨gb134, 0, none⟩ = some (.int .i64 a2_0) := (blk_cell BK134.out 0).trans rfl
            have hcz33_1 : wc.cell? ⟨gb134, 1, none⟩ = some (.slice A2_1 l2_1.length c2_1) := (blk_cell BK134.out 1).trans rfl
            have hfz33_0 := blk_frozen BK134.out 0
            have hfz33_1 := blk_frozen BK134.out 1
            go_wp2
            (try rw [Exit.noGoto_ret])
            go_ret
            exact ⟨by first | rfl | (simp [errW_none, errW_some] <;> rfl) | (simp [*, errW_none, errW_some] <;> rfl), bel HB⟩
      case rest =>
        clear HC16
        (try clear c1); (try clear c2); (try clear p2); (try clear c3); (try clear c7); (try clear c15); (try clear c15b0); (try clear c15b1); (try clear c17); (try clear c18); (try clear c20); (try clear c22); (try clear c22b0); (try clear c22b1); (try clear c23); (try clear c23b0); (try clear c24); (try clear c25); (try clear c27); (try clear c29); (try clear c30); (try clear c31); (try clear c32); (try clear hcz19_0); (try clear hcz19_1); (try clear hcz21_0); (try clear hcz21_1); (try clear hcz26_0); (try clear hcz26_1); (try clear hcz28_0); (try clear hcz28_1); (try clear hcz31_0); (try clear hcz31_1); (try clear hcz33_0); (try clear hcz33_1); (try clear hfz19_0); (try clear hfz19_1); (try clear hfz21_0); (try clear hfz21_1); (try clear hfz26_0); (try clear hfz26_1); (try clear hfz28_0); (try clear hfz28_1); (try clear hfz31_0); (try clear hfz31_1); (try clear hfz33_0); (try clear hfz33_1); (try clear p2)
        obtain ⟨kq, HA, HJ15, BK132, BK133, BK134, HB⟩ := hcut
        cases kq with
        | zero => exact absurd HA.out (by simp [derivation_Compare.j1])
        | succ kj15 =>
          have H := HA.out
          clear HA
          simp only [derivation_Compare.j1] at H
          have H' := Aside0.mk H
          clear H
          have hnb34 := NB133_132.out
          have hnc34 := NB132_133.out
          have hnb35 := NB133_134.out
          have hnc35 := NB134_133.out
          have hcz36_0 : wc.cell? ⟨gb133, 0, none⟩ = some (.int .i64 a1_0) := (blk_cell BK133.out 0).trans rfl
          have hcz36_1 : wc.cell? ⟨gb133, 1, none⟩ = some (.slice A1_1 l1_1.length c1_1) := (blk_cell BK133.out 1).trans rfl
          have hfz36_0 := blk_frozen BK133.out 0
          have hfz36_1 := blk_frozen BK133.out 1
          go_wp2
          go_step3
          go_wp2
          go_loopg [8, 35] kj15 (fun kq v8 v35 w' => ∃ (x8_3 : Int) (x35_3 : Int), v8 = .int .i64 x8_3 ∧ v35 = .int .i64 x35_3 ∧ Aside0 (derivation_Compare.l0 kq x8_3 l1_1 (l1_1.length : Int) x35_3 a0_0 l0_1 a2_0 l2_1 = some r) ∧ Aside0 (kq ≤ kj15) ∧ Aside0 (w'.heap[gb132]? = some (.cells #[.int .i64 a0_0, (.slice A0_1 l0_1.length c0_1)] 24 (0, 0))) ∧ Aside0 (w'.heap[gb133]? = some (.cells #[.int .i64 a1_0, (.slice A1_1 l1_1.length c1_1)] 27 (0, 0))) ∧ Aside0 (w'.heap[gb134]? = some (.cells #[.int .i64 a2_0, (.slice A2_1 l2_1.length c2_1)] 27 (0, 0))) ∧ Aside0 (Below w.heap.size w w'))
          case atStart => exact ⟨(0), (0), (by first | rfl | (simp; done) | (simp [*]; done)), (by first | rfl | (simp; done) | (simp [*]; done)), H', ⟨Nat.le_refl _⟩, ⟨by (with_reducible repeat (first | refine blk_drewN ?_ _ | refine blk_drew ?_ | refine blk_alloc ?_ _)); exact BK132.out⟩, ⟨by (with_reducible repeat (first | refine blk_drewN ?_ _ | refine blk_drew ?_ | refine blk_alloc ?_ _)); exact BK133.out⟩, ⟨by (with_reducible repeat (first | refine blk_drewN ?_ _ | refine blk_drew ?_ | refine blk_alloc ?_ _)); exact BK134.out⟩, ⟨bel HB⟩⟩
          case round =>
            clear H'
            (try clear c1); (try clear c2); (try clear p2); (try clear c3); (try clear c7); (try clear c15); (try clear c15b0); (try clear c15b1); (try clear c17); (try clear c18); (try clear c20); (try clear c22); (try clear c22b0); (try clear c22b1); (try clear c23); (try clear c23b0); (try clear c24); (try clear c25); (try clear c27); (try clear c29); (try clear c30); (try clear c31); (try clear c32); (try clear c34); (try clear c35); (try clear hcz19_0); (try clear hcz19_1); (try clear hcz21_0); (try clear hcz21_1); (try clear hcz26_0); (try clear hcz26_1); (try clear hcz28_0); (try clear hcz28_1); (try clear hcz31_0); (try clear hcz31_1); (try clear hcz33_0); (try clear hcz33_1); (try clear hcz36_0); (try clear hcz36_1); (try clear hfz19_0); (try clear hfz19_1); (try clear hfz21_0); (try clear hfz21_1); (try clear hfz26_0); (try clear hfz26_1); (try clear hfz28_0); (try clear hfz28_1); (try clear hfz31_0); (try clear hfz31_1); (try clear hfz33_0); (try clear hfz33_1); (try clear hfz36_0); (try clear hfz36_1); (try clear p2)
            obtain ⟨x8_3, x35_3, rfl, rfl, HA, HK3, BK132, BK133, BK134, HB⟩ := hrel
            cases gk with
            | zero => exact absurd HA.out (by simp [derivation_Compare.l0])
            | succ k3 =>
              have H := HA.out
              clear HA
              simp only [derivation_Compare.l0] at H
              by_cases c37 : x35_3 < (l1_1.length : Int)
              · rw [if_pos c37] at H
                have c37b0 : decide (x35_3 < (l1_1.length : Int)) = true := decide_eq_true c37
                clear c37
                by_cases c38 : 0 ≤ x35_3
                · rw [if_pos c38] at H
                  have c38b0 : decide (0 ≤ x35_3) = true := decide_eq_true c38
                  clear c38
                  by_cases c39 : x35_3 < (l1_1.length : Int)
                  · rw [if_pos c39] at H
                    have c39b0 : decide (x35_3 < (l1_1.length : Int)) = true := decide_eq_true c39
                    clear c39
                    by_cases c40 : x35_3 < (l2_1.length : Int)
                    · rw [if_pos c40] at H
                      have c40b0 : decide (x35_3 < (l2_1.length : Int)) = true := decide_eq_true c40
                      clear c40
                      replace H := Option.bind_eq_some_iff.mp H
                      obtain ⟨t143, A410, H⟩ := H
                      replace H : (if t143 = 0 then (derivation_Compare.l0 k3 x8_3 l1_1 (l1_1.length : Int) (wrap64 (x35_3 + 1)) a0_0 l0_1 a2_0 l2_1) else (some t143)) = some r := H
                      have A41 := Aside0.mk A410
                      clear A410
                      by_cases c42 : t143 = 0
                      · rw [if_pos c42] at H
                        have c42b0 : (t143 == 0) = true := beq_iff_eq.mpr c42
                        have c42b1 : (t143 != 0) = false := bne_eq_false_iff_eq.mpr c42
                        clear c42
                        have H' := Aside0.mk H
                        clear H
                        have p140 : 0 ≤ (x35_3 : Int) := of_decide_eq_true (by first | (with_reducible assumption) | assumption)
                        have q140 : x35_3 < (l1_1.length : Int) := of_decide_eq_true (by first | (with_reducible assumption) | assumption)
                        obtain ⟨ad140, A140_1, c140_1, e140, hx140_0, hx140_1, hl140_1, hi140_1⟩ := at_T27 HR1_1.out x35_3 p140 q140
                        cases e140
                        replace hx140_0 := (HB.out.cell (World.block_lt_of_cell? w _ hx140_0)).trans hx140_0
                        replace hx140_1 := (HB.out.cell (World.block_lt_of_cell? w _ hx140_1)).trans hx140_1
                        have HR140_1 := Aside0.mk hi140_1
                        have HC140_1 := Aside0.mk hl140_1
                        clear hi140_1 hl140_1
                        replace p140 := eq_true p140
                        replace q140 := eq_true q140
                        try go_wp2_with (first | ((with_reducible refine gate_dst (N := 10) rfl ?_); refine box_event ?hg (N := 10) ?hd (cs := #[.int .i64 0, .slice none 0 0]) (t := 27) ?hr ?_; (case hd => rfl); (case hg => rfl); (case hr => first | (go_simp; done) | (go_simp; rfl)); intro gb141 hg w43 hbox hb; have n0_ := Aside0.mk (blk_below (bk BK132) hb); have n1_ := Aside0.mk (blk_below (bk BK133) hb); have n2_ := Aside0.mk (blk_below (bk BK134) hb); have n3_ := Aside0.mk (below_step (bel HB) hb); have n4_ := Aside0.mk (hbox); have n5_ := Aside0.mk ((by rw [hg]; exact (below_size (bel HB)) : w.heap.size ≤ gb141)); have n6_ := Aside0.mk ((by rw [hg]; exact (below_size (bel HB)) : w.heap.size ≤ gb141)); have n7_ := Aside0.mk ((by rw [hg]; exact Nat.ne_of_lt (blk_lt (bk BK132)) : gb132 ≠ gb141)); have n8_ := Aside0.mk ((by rw [hg]; exact Nat.ne_of_gt (blk_lt (bk BK132)) : gb141 ≠ gb132)); have n9_ := Aside0.mk ((by rw [hg]; exact Nat.ne_of_lt (blk_lt (bk BK133)) : gb133 ≠ gb141)); have n10_ := Aside0.mk ((by rw [hg]; exact Nat.ne_of_gt (blk_lt (bk BK133)) : gb141 ≠ gb133)); have n11_ := Aside0.mk ((by rw [hg]; exact Nat.ne_of_lt (blk_lt (bk BK134)) : gb134 ≠ gb141)); have n12_ := Aside0.mk ((by rw [hg]; exact Nat.ne_of_gt (blk_lt (bk BK134)) : gb141 ≠ gb134)); clear BK132; clear BK133; clear BK134; clear HB; have BK132 := n0_; have BK133 := n1_; have BK134 := n2_; have HB := n3_; have BK141 := n4_; have GW141 := n5_; have GE141 := n6_; have NB132_141 := n7_; have NB141_132 := n8_; have NB133_141 := n9_; have NB141_133 := n10_; have NB134_141 := n11_; have NB141_134 := n12_; clear n0_ n1_ n2_ n3_ n4_ n5_ n6_ n7_ n8_ n9_ n10_ n11_ n12_; clear hb hbox hg; have hnb44 := NB141_132.out; have hnc44 := NB132_141.out; have hnb45 := NB141_133.out; have hnc45 := NB133_141.out; have hnb46 := NB141_134.out; have hnc46 := NB134_141.out; have hcz47_0 : w43.cell? ⟨gb141, 0, none⟩ = some (.int .i64 0) := (blk_cell BK141.out 0).trans rfl; have hcz47_1 : w43.cell? ⟨gb141, 1, none⟩ = some (.slice none 0 0) := (blk_cell BK141.out 1).trans rfl; have hfz47_0 := blk_frozen BK141.out 0; have hfz47_1 := blk_frozen BK141.out 1))
                        have n0_ : Aside0 (((w43.setCell ⟨gb141, 0, none⟩ (.int .i64 ((rd_T27 l1_1 x35_3).f0))).setCell ⟨gb141, 1, none⟩ (.slice A140_1 ((rd_T27 l1_1 x35_3).f1).length c140_1)).heap[gb132]? = some (.cells #[.int .i64 a0_0, .slice A0_1 l0_1.length c0_1] 24 (0, 0))) := ⟨by (with_reducible repeat (first | refine blk_drewN ?_ _ | refine blk_drew ?_ | refine blk_alloc ?_ _)); refine blk_far ?_ NB132_141.out _; (with_reducible repeat (first | refine blk_drewN ?_ _ | refine blk_drew ?_ | refine blk_alloc ?_ _)); refine blk_far ?_ NB132_141.out _; (with_reducible repeat (first | refine blk_drewN ?_ _ | refine blk_drew ?_ | refine blk_alloc ?_ _)); exact BK132.out⟩
                        have n1_ : Aside0 (((w43.setCell ⟨gb141, 0, none⟩ (.int .i64 ((rd_T27 l1_1 x35_3).f0))).setCell ⟨gb141, 1, none⟩ (.slice A140_1 ((rd_T27 l1_1 x35_3).f1).length c140_1)).heap[gb133]? = some (.cells #[.int .i64 a1_0, .slice (some ad140) l1_1.length c1_1] 27 (0, 0))) := ⟨by (with_reducible repeat (first | refine blk_drewN ?_ _ | refine blk_drew ?_ | refine blk_alloc ?_ _)); refine blk_far ?_ NB133_141.out _; (with_reducible repeat (first | refine blk_drewN ?_ _ | refine blk_drew ?_ | refine blk_alloc ?_ _)); refine blk_far ?_ NB133_141.out _; (with_reducible repeat (first | refine blk_drewN ?_ _ | refine blk_drew ?_ | refine blk_alloc ?_ _)); exact BK133.out⟩
                        have n2_ : Aside0 (((w43.setCell ⟨gb141, 0, none⟩ (.int .i64 ((rd_T27 l1_1 x35_3).f0))).setCell ⟨gb141, 1, none⟩ (.slice A140_1 ((rd_T27 l1_1 x35_3).f1).length c140_1)).heap[gb134]? = some (.cells #[.int .i64 a2_0, .slice A2_1 l2_1.length c2_1] 27 (0, 0))) := ⟨by (with_reducible repeat (first | refine blk_drewN ?_ _ | refine blk_drew ?_ | refine blk_alloc ?_ _)); refine blk_far ?_ NB134_141.out _; (with_reducible repeat (first | refine blk_drewN ?_ _ | refine blk_drew ?_ | refine blk_alloc ?_ _)); refine blk_far ?_ NB134_141.out _; (with_reducible repeat (first | refine blk_drewN ?_ _ | refine blk_drew ?_ | refine blk_alloc ?_ _)); exact BK134.out⟩
                        have n3_ : Aside0 (((w43.setCell ⟨gb141, 0, none⟩ (.int .i64 ((rd_T27 l1_1 x35_3).f0))).setCell ⟨gb141, 1, none⟩ (.slice A140_1 ((rd_T27 l1_1 x35_3).f1).length c140_1)).heap[gb141]? = some (.cells #[.int .i64 ((rd_T27 l1_1 x35_3).f0), .slice A140_1 ((rd_T27 l1_1 x35_3).f1).length c140_1] 27 (0, 0))) := ⟨by (with_reducible repeat (first | refine blk_drewN ?_ _ | refine blk_drew ?_ | refine blk_alloc ?_ _)); refine blk_put (cs := #[.int .i64 ((rd_T27 l1_1 x35_3).f0), .slice none 0 0]) ?_ 1 _ rfl; (with_reducible repeat (first | refine blk_drewN ?_ _ | refine blk_drew ?_ | refine blk_alloc ?_ _)); refine blk_put (cs := #[.int .i64 0, .slice none 0 0]) ?_ 0 _ rfl; (with_reducible repeat (first | refine blk_drewN ?_ _ | refine blk_drew ?_ | refine blk_alloc ?_ _)); exact BK141.out⟩
                        have n4_ : Aside0 (Below w.heap.size w ((w43.setCell ⟨gb141, 0, none⟩ (.int .i64 ((rd_T27 l1_1 x35_3).f0))).setCell ⟨gb141, 1, none⟩ (.slice A140_1 ((rd_T27 l1_1 x35_3).f1).length c140_1))) := ⟨bel HB⟩
                        (try clear BK132)
                        (try clear BK133)
                        (try clear BK134)
                        (try clear BK141)
                        (try clear HB)
                        generalize ((w43.setCell ⟨gb141, 0, none⟩ (.int .i64 ((rd_T27 l1_1 x35_3).f0))).setCell ⟨gb141, 1, none⟩ (.slice A140_1 ((rd_T27 l1_1 x35_3).f1).length c140_1)) = w48 at n0_ n1_ n2_ n3_ n4_ ⊢
                        have BK132 := n0_
                        have BK133 := n1_
                        have BK134 := n2_
                        have BK141 := n3_
                        have HB := n4_
                        clear n0_ n1_ n2_ n3_ n4_
                        have n0_ := Aside0.mk (blk_drew BK132.out)
                        have n1_ := Aside0.mk (blk_drew BK133.out)
                        have n2_ := Aside0.mk (blk_drew BK134.out)
                        have n3_ := Aside0.mk (blk_drew BK141.out)
                        have n4_ := Aside0.mk (below_drew1 HB.out)
                        clear BK132
                        clear BK133
                        clear BK134
                        clear BK141
                        clear HB
                        have BK132 := n0_
                        have BK133 := n1_
                        have BK134 := n2_
                        have BK141 := n3_
                        have HB := n4_
                        clear n0_ n1_ n2_ n3_ n4_
                        have p142 : 0 ≤ (x35_3 : Int) := of_decide_eq_true (by first | (with_reducible assumption) | assumption)
                        have q142 : x35_3 < (l2_1.length : Int) := of_decide_eq_true (by first | (with_reducible assumption) | assumption)
                        obtain ⟨ad142, A142_1, c142_1, e142, hx142_0, hx142_1, hl142_1, hi142_1⟩ := at_T27 HR2_1.out x35_3 p142 q142
                        have hw142_1 := hx142_1
                        have hw142_0 := hx142_0
                        cases e142
                        replace hx142_0 := (HB.out.cell (World.block_lt_of_cell? w _ hx142_0)).trans hx142_0
                        replace hx142_1 := (HB.out.cell (World.block_lt_of_cell? w _ hx142_1)).trans hx142_1
                        have HR142_1 := Aside0.mk hi142_1
                        have HC142_1 := Aside0.mk hl142_1
                        clear hi142_1 hl142_1
                        replace p142 := eq_true p142
                        replace q142 := eq_true q142
                        refine start_ (n := 9) (S := fun w' => w'.cell? ⟨gb132, 0, none⟩ = some (.int .i64 a0_0) ∧ w'.cell? ⟨gb132, 1, none⟩ = some (.slice A0_1 l0_1.length c0_1) ∧ w'.cell? ⟨gb141, 0, none⟩ = some (.int .i64 ((rd_T27 l1_1 x35_3).f0)) ∧ w'.cell? ⟨gb141, 1, none⟩ = some (.slice A140_1 ((rd_T27 l1_1 x35_3).f1).length c140_1) ∧ w'.cell? ⟨gb134, 0, none⟩ = some (.int .i64 a2_0) ∧ w'.cell? ⟨gb134, 1, none⟩ = some (.slice (some ad142) l2_1.length c2_1) ∧ w'.cell? (ad142.add ((x35_3).toNat * 2)) = some (.int .i64 ((rd_T27 l2_1 x35_3).f0)) ∧ w'.cell? ⟨(ad142.add ((x35_3).toNat * 2)).block, (ad142.add ((x35_3).toNat * 2)).off + 1, none⟩ = some (.slice A142_1 ((rd_T27 l2_1 x35_3).f1).length c142_1)) (ds := []) #[false, false, false, false, false, false, false, false, false] (by kernel_rfl) rfl rfl ⟨(blk_cell BK132.out 0).trans rfl, (blk_cell BK132.out 1).trans rfl, (blk_cell BK141.out 0).trans rfl, (blk_cell BK141.out 1).trans rfl, (blk_cell BK134.out 0).trans rfl, (blk_cell BK134.out 1).trans rfl, ((HB.out.cell (World.block_lt_of_cell? w _ hw142_0)).trans hw142_0), ((HB.out.cell (World.block_lt_of_cell? w _ hw142_1)).trans hw142_1)⟩ (fun hHeld => ?_); refine with_tabW derivation_Compare.tab12 derivation_Compare.bits12 (fun HT_ HW_ => ?_)
                        generalize w48.drew = w49 at BK132 BK133 BK134 BK141 HB HR142_1 hx142_0 hx142_1 hHeld ⊢
                        refine bulk_ (fuel := 2) [(2, 42), (4, 44), (0, 40), (1, 41), (3, 43), (5, 45), (6, 46)] #[true, true, true, true, true, true, true, false, false] (bulkB_of HT_.out HW_.out _ _ _ (by kernel_rfl)) rfl (fun _ _ _ _ _ h => h) hHeld (a' := ?_) ?_ ?_
                        rotate_left
                        · iterate 7
                            refine chain_cons (v := ?_) (a1 := ?_) rfl rfl (Or.inl ⟨by rfl, ?_⟩) ?_ ?_
                            rotate_left 2
                            · rintro w' ⟨s0, s1, s2, s3, s4, s5, s6, s7⟩
                              go_simp
                              with_reducible rfl
                            · simp only [Act.put, List.setIfInBounds_toArray, List.set_cons_zero, List.set_cons_succ, i64_w, i32_w]
                              rfl
                          exact chain_nil
                        refine one_ (i := 7) (N := some 47) #[true, true, true, true, true, true, true, true, false] rfl rfl (one_of HT_.out (by kernel_rfl)) (by decide) (fun K hK => ?_)
                        refine goes_ Try.func31 (by kernel_rfl) rfl #[.agg #[.int .i64 a0_0, .slice A0_1 l0_1.length c0_1], .agg #[.int .i64 ((rd_T27 l1_1 x35_3).f0), .slice A140_1 ((rd_T27 l1_1 x35_3).f1).length c140_1], .agg #[.int .i64 ((rd_T27 l2_1 x35_3).f0), .slice A142_1 ((rd_T27 l2_1 x35_3).f1).length c142_1]] (by rfl) rfl rfl (by (try simp only [List.map_toArray, List.map_cons, List.map_nil]); first | done | rfl | (simp only [List.length_drop, List.length_take]; rfl)) ?_
                        with_reducible refine (ih k3 (by have := HJ6.out; have := HJ15.out; have := HK3.out; omega) a0_0 _ _ l0_1 ((rd_T27 l1_1 x35_3).f0) _ _ ((rd_T27 l1_1 x35_3).f1) ((rd_T27 l2_1 x35_3).f0) _ _ ((rd_T27 l2_1 x35_3).f1) t143 _ ?side1 ?side2 ?side3 ?side4 ?side5 ?side6 A41.out).mono ?_
                        (case side1 => repeat (first | exact (Kd.C_below HR0_1.out HB.out) | (with_reducible refine Kd.C_alloc ?_ _) | (with_reducible refine Kd.C_drewN ?_ _) | (with_reducible refine Kd.C_drew ?_)))
                        (case side2 => exact HC0_1.out)
                        (case side3 => repeat (first | exact (Kd.C_below HR140_1.out HB.out) | (with_reducible refine Kd.C_alloc ?_ _) | (with_reducible refine Kd.C_drewN ?_ _) | (with_reducible refine Kd.C_drew ?_)))
                        (case side4 => exact HC140_1.out)
                        (case side5 => repeat (first | exact (Kd.C_below HR142_1.out HB.out) | (with_reducible refine Kd.C_alloc ?_ _) | (with_reducible refine Kd.C_drewN ?_ _) | (with_reducible refine Kd.C_drew ?_)))
                        (case side6 => exact HC142_1.out)
                        rintro e w50 ⟨rfl, hb⟩
                        refine ⟨_, rfl, ?_⟩
                        have n0_ := Aside0.mk (blk_below (bk BK132) hb)
                        have n1_ := Aside0.mk (blk_below (bk BK133) hb)
                        have n2_ := Aside0.mk (blk_below (bk BK134) hb)
                        have n3_ := Aside0.mk (blk_below (bk BK141) hb)
                        have n4_ := Aside0.mk (below_step (bel HB) hb)
                        clear BK132
                        clear BK133
                        clear BK134
                        clear BK141
                        clear HB
                        have BK132 := n0_
                        have BK133 := n1_
                        have BK134 := n2_
                        have BK141 := n3_
                        have HB := n4_
                        clear n0_ n1_ n2_ n3_ n4_
                        (try clear hb)
                        (try clear hb2)
                        (try clear hk)
                        (try clear hi)
                        refine hK.out _ _ ⟨(blk_cell BK132.out 0).trans rfl, (blk_cell BK132.out 1).trans rfl, (blk_cell BK141.out 0).trans rfl, (blk_cell BK141.out 1).trans rfl, (blk_cell BK134.out 0).trans rfl, (blk_cell BK134.out 1).trans rfl, ((HB.out.cell (World.block_lt_of_cell? w _ hw142_0)).trans hw142_0), ((HB.out.cell (World.block_lt_of_cell? w _ hw142_1)).trans hw142_1)⟩ (fun hHeld => ?_)
                        clear hK K
                        refine norm_ (a' := ?_) ?_ ?_
                        rotate_left
                        · show Act.put _ (some 47) _ = _
                          simp only [Act.put, List.setIfInBounds_toArray, List.set_cons_zero, List.set_cons_succ, i64_w, i32_w]
                          rfl
                        refine pure_ (i := 8) (N := some 11) (v := ?_) (a' := ?_) #[true, true, true, true, true, true, true, true, true] rfl rfl (any_of HT_.out (by kernel_rfl)) (fun _ _ _ h => h) (Or.inl ⟨by rfl, ?_⟩) ?_ ?_
                        rotate_left
                        · intro w'
                          go_simp
                          with_reducible rfl
                        rotate_left
                        · simp only [Act.put, List.setIfInBounds_toArray, List.set_cons_zero, List.set_cons_succ, i64_w, i32_w]
                          rfl
                        refine done_ (done_of HT_.out (by kernel_rfl)) ?_
                        try go_wp2
                        go_roundg k3
                        case measure => have := HJ6.out; have := HJ15.out; have := HK3.out; omega
                        case rel => exact ⟨(x8_3), (wrap64 (x35_3 + 1)), (by first | rfl | (simp; done) | (simp [*]; done)), (by first | rfl | (simp; done) | (simp [*]; done)), H', ⟨by have := HJ6.out; have := HJ15.out; have := HK3.out; omega⟩, ⟨by (with_reducible repeat (first | refine blk_drewN ?_ _ | refine blk_drew ?_ | refine blk_alloc ?_ _)); exact BK132.out⟩, ⟨by (with_reducible repeat (first | refine blk_drewN ?_ _ | refine blk_drew ?_ | refine blk_alloc ?_ _)); exact BK133.out⟩, ⟨by (with_reducible repeat (first | refine blk_drewN ?_ _ | refine blk_drew ?_ | refine blk_alloc ?_ _)); exact BK134.out⟩, ⟨bel HB⟩⟩
                      · rw [if_neg c42] at H
                        have c42b0 : (t143 == 0) = false := beq_eq_false_iff_ne.mpr c42
                        have c42b1 : (t143 != 0) = true := bne_iff_ne.mpr c42
                        obtain rfl := Option.some.inj H
                        have p140 : 0 ≤ (x35_3 : Int) := of_decide_eq_true (by first | (with_reducible assumption) | assumption)
                        have q140 : x35_3 < (l1_1.length : Int) := of_decide_eq_true (by first | (with_reducible assumption) | assumption)
                        obtain ⟨ad140, A140_1, c140_1, e140, hx140_0, hx140_1, hl140_1, hi140_1⟩ := at_T27 HR1_1.out x35_3 p140 q140
                        cases e140
                        replace hx140_0 := (HB.out.cell (World.block_lt_of_cell? w _ hx140_0)).trans hx140_0
                        replace hx140_1 := (HB.out.cell (World.block_lt_of_cell? w _ hx140_1)).trans hx140_1
                        have HR140_1 := Aside0.mk hi140_1
                        have HC140_1 := Aside0.mk hl140_1
                        clear hi140_1 hl140_1
                        replace p140 := eq_true p140
                        replace q140 := eq_true q140
                        try go_wp2_with (first | ((with_reducible refine gate_dst (N := 10) rfl ?_); refine box_event ?hg (N := 10) ?hd (cs := #[.int .i64 0, .slice none 0 0]) (t := 27) ?hr ?_; (case hd => rfl); (case hg => rfl); (case hr => first | (go_simp; done) | (go_simp; rfl)); intro gb141 hg w51 hbox hb; have n0_ := Aside0.mk (blk_below (bk BK132) hb); have n1_ := Aside0.mk (blk_below (bk BK133) hb); have n2_ := Aside0.mk (blk_below (bk BK134) hb); have n3_ := Aside0.mk (below_step (bel HB) hb); have n4_ := Aside0.mk (hbox); have n5_ := Aside0.mk ((by rw [hg]; exact (below_size (bel HB)) : w.heap.size ≤ gb141)); have n6_ := Aside0.mk ((by rw [hg]; exact (below_size (bel HB)) : w.heap.size ≤ gb141)); have n7_ := Aside0.mk ((by rw [hg]; exact Nat.ne_of_lt (blk_lt (bk BK132)) : gb132 ≠ gb141)); have n8_ := Aside0.mk ((by rw [hg]; exact Nat.ne_of_gt (blk_lt (bk BK132)) : gb141 ≠ gb132)); have n9_ := Aside0.mk ((by rw [hg]; exact Nat.ne_of_lt (blk_lt (bk BK133)) : gb133 ≠ gb141)); have n10_ := Aside0.mk ((by rw [hg]; exact Nat.ne_of_gt (blk_lt (bk BK133)) : gb141 ≠ gb133)); have n11_ := Aside0.mk ((by rw [hg]; exact Nat.ne_of_lt (blk_lt (bk BK134)) : gb134 ≠ gb141)); have n12_ := Aside0.mk ((by rw [hg]; exact Nat.ne_of_gt (blk_lt (bk BK134)) : gb141 ≠ gb134)); clear BK132; clear BK133; clear BK134; clear HB; have BK132 := n0_; have BK133 := n1_; have BK134 := n2_; have HB := n3_; have BK141 := n4_; have GW141 := n5_; have GE141 := n6_; have NB132_141 := n7_; have NB141_132 := n8_; have NB133_141 := n9_; have NB141_133 := n10_; have NB134_141 := n11_; have NB141_134 := n12_; clear n0_ n1_ n2_ n3_ n4_ n5_ n6_ n7_ n8_ n9_ n10_ n11_ n12_; clear hb hbox hg; have hnb52 := NB141_132.out; have hnc52 := NB132_141.out; have hnb53 := NB141_133.out; have hnc53 := NB133_141.out; have hnb54 := NB141_134.out; have hnc54 := NB134_141.out; have hcz55_0 : w51.cell? ⟨gb141, 0, none⟩ = some (.int .i64 0) := (blk_cell BK141.out 0).trans rfl; have hcz55_1 : w51.cell? ⟨gb141, 1, none⟩ = some (.slice none 0 0) := (blk_cell BK141.out 1).trans rfl; have hfz55_0 := blk_frozen BK141.out 0; have hfz55_1 := blk_frozen BK141.out 1))
                        have n0_ : Aside0 (((w51.setCell ⟨gb141, 0, none⟩ (.int .i64 ((rd_T27 l1_1 x35_3).f0))).setCell ⟨gb141, 1, none⟩ (.slice A140_1 ((rd_T27 l1_1 x35_3).f1).length c140_1)).heap[gb132]? = some (.cells #[.int .i64 a0_0, .slice A0_1 l0_1.length c0_1] 24 (0, 0))) := ⟨by (with_reducible repeat (first | refine blk_drewN ?_ _ | refine blk_drew ?_ | refine blk_alloc ?_ _)); refine blk_far ?_ NB132_141.out _; (with_reducible repeat (first | refine blk_drewN ?_ _ | refine blk_drew ?_ | refine blk_alloc ?_ _)); refine blk_far ?_ NB132_141.out _; (with_reducible repeat (first | refine blk_drewN ?_ _ | refine blk_drew ?_ | refine blk_alloc ?_ _)); exact BK132.out⟩
                        have n1_ : Aside0 (((w51.setCell ⟨gb141, 0, none⟩ (.int .i64 ((rd_T27 l1_1 x35_3).f0))).setCell ⟨gb141, 1, none⟩ (.slice A140_1 ((rd_T27 l1_1 x35_3).f1).length c140_1)).heap[gb133]? = some (.cells #[.int .i64 a1_0, .slice (some ad140) l1_1.length c1_1] 27 (0, 0))) := ⟨by (with_reducible repeat (first | refine blk_drewN ?_ _ | refine blk_drew ?_ | refine blk_alloc ?_ _)); refine blk_far ?_ NB133_141.out _; (with_reducible repeat (first | refine blk_drewN ?_ _ | refine blk_drew ?_ | refine blk_alloc ?_ _)); refine blk_far ?_ NB133_141.out _; (with_reducible repeat (first | refine blk_drewN ?_ _ | refine blk_drew ?_ | refine blk_alloc ?_ _)); exact BK133.out⟩
                        have n2_ : Aside0 (((w51.setCell ⟨gb141, 0, none⟩ (.int .i64 ((rd_T27 l1_1 x35_3).f0))).setCell ⟨gb141, 1, none⟩ (.slice A140_1 ((rd_T27 l1_1 x35_3).f1).length c140_1)).heap[gb134]? = some (.cells #[.int .i64 a2_0, .slice A2_1 l2_1.length c2_1] 27 (0, 0))) := ⟨by (with_reducible repeat (first | refine blk_drewN ?_ _ | refine blk_drew ?_ | refine blk_alloc ?_ _)); refine blk_far ?_ NB134_141.out _; (with_reducible repeat (first | refine blk_drewN ?_ _ | refine blk_drew ?_ | refine blk_alloc ?_ _)); refine blk_far ?_ NB134_141.out _; (with_reducible repeat (first | refine blk_drewN ?_ _ | refine blk_drew ?_ | refine blk_alloc ?_ _)); exact BK134.out⟩
                        have n3_ : Aside0 (((w51.setCell ⟨gb141, 0, none⟩ (.int .i64 ((rd_T27 l1_1 x35_3).f0))).setCell ⟨gb141, 1, none⟩ (.slice A140_1 ((rd_T27 l1_1 x35_3).f1).length c140_1)).heap[gb141]? = some (.cells #[.int .i64 ((rd_T27 l1_1 x35_3).f0), .slice A140_1 ((rd_T27 l1_1 x35_3).f1).length c140_1] 27 (0, 0))) := ⟨by (with_reducible repeat (first | refine blk_drewN ?_ _ | refine blk_drew ?_ | refine blk_alloc ?_ _)); refine blk_put (cs := #[.int .i64 ((rd_T27 l1_1 x35_3).f0), .slice none 0 0]) ?_ 1 _ rfl; (with_reducible repeat (first | refine blk_drewN ?_ _ | refine blk_drew ?_ | refine blk_alloc ?_ _)); refine blk_put (cs := #[.int .i64 0, .slice none 0 0]) ?_ 0 _ rfl; (with_reducible repeat (first | refine blk_drewN ?_ _ | refine blk_drew ?_ | refine blk_alloc ?_ _)); exact BK141.out⟩
                        have n4_ : Aside0 (Below w.heap.size w ((w51.setCell ⟨gb141, 0, none⟩ (.int .i64 ((rd_T27 l1_1 x35_3).f0))).setCell ⟨gb141, 1, none⟩ (.slice A140_1 ((rd_T27 l1_1 x35_3).f1).length c140_1))) := ⟨bel HB⟩
                        (try clear BK132)
                        (try clear BK133)
                        (try clear BK134)
                        (try clear BK141)
                        (try clear HB)
                        generalize ((w51.setCell ⟨gb141, 0, none⟩ (.int .i64 ((rd_T27 l1_1 x35_3).f0))).setCell ⟨gb141, 1, none⟩ (.slice A140_1 ((rd_T27 l1_1 x35_3).f1).length c140_1)) = w56 at n0_ n1_ n2_ n3_ n4_ ⊢
                        have BK132 := n0_
                        have BK133 := n1_
                        have BK134 := n2_
                        have BK141 := n3_
                        have HB := n4_
                        clear n0_ n1_ n2_ n3_ n4_
                        have n0_ := Aside0.mk (blk_drew BK132.out)
                        have n1_ := Aside0.mk (blk_drew BK133.out)
                        have n2_ := Aside0.mk (blk_drew BK134.out)
                        have n3_ := Aside0.mk (blk_drew BK141.out)
                        have n4_ := Aside0.mk (below_drew1 HB.out)
                        clear BK132
                        clear BK133
                        clear BK134
                        clear BK141
                        clear HB
                        have BK132 := n0_
                        have BK133 := n1_
                        have BK134 := n2_
                        have BK141 := n3_
                        have HB := n4_
                        clear n0_ n1_ n2_ n3_ n4_
                        have p142 : 0 ≤ (x35_3 : Int) := of_decide_eq_true (by first | (with_reducible assumption) | assumption)
                        have q142 : x35_3 < (l2_1.length : Int) := of_decide_eq_true (by first | (with_reducible assumption) | assumption)
                        obtain ⟨ad142, A142_1, c142_1, e142, hx142_0, hx142_1, hl142_1, hi142_1⟩ := at_T27 HR2_1.out x35_3 p142 q142
                        have hw142_1 := hx142_1
                        have hw142_0 := hx142_0
                        cases e142
                        replace hx142_0 := (HB.out.cell (World.block_lt_of_cell? w _ hx142_0)).trans hx142_0
                        replace hx142_1 := (HB.out.cell (World.block_lt_of_cell? w _ hx142_1)).trans hx142_1
                        have HR142_1 := Aside0.mk hi142_1
                        have HC142_1 := Aside0.mk hl142_1
                        clear hi142_1 hl142_1
                        replace p142 := eq_true p142
                        replace q142 := eq_true q142
                        refine start_ (n := 9) (S := fun w' => w'.cell? ⟨gb132, 0, none⟩ = some (.int .i64 a0_0) ∧ w'.cell? ⟨gb132, 1, none⟩ = some (.slice A0_1 l0_1.length c0_1) ∧ w'.cell? ⟨gb141, 0, none⟩ = some (.int .i64 ((rd_T27 l1_1 x35_3).f0)) ∧ w'.cell? ⟨gb141, 1, none⟩ = some (.slice A140_1 ((rd_T27 l1_1 x35_3).f1).length c140_1) ∧ w'.cell? ⟨gb134, 0, none⟩ = some (.int .i64 a2_0) ∧ w'.cell? ⟨gb134, 1, none⟩ = some (.slice (some ad142) l2_1.length c2_1) ∧ w'.cell? (ad142.add ((x35_3).toNat * 2)) = some (.int .i64 ((rd_T27 l2_1 x35_3).f0)) ∧ w'.cell? ⟨(ad142.add ((x35_3).toNat * 2)).block, (ad142.add ((x35_3).toNat * 2)).off + 1, none⟩ = some (.slice A142_1 ((rd_T27 l2_1 x35_3).f1).length c142_1)) (ds := []) #[false, false, false, false, false, false, false, false, false] (by kernel_rfl) rfl rfl ⟨(blk_cell BK132.out 0).trans rfl, (blk_cell BK132.out 1).trans rfl, (blk_cell BK141.out 0).trans rfl, (blk_cell BK141.out 1).trans rfl, (blk_cell BK134.out 0).trans rfl, (blk_cell BK134.out 1).trans rfl, ((HB.out.cell (World.block_lt_of_cell? w _ hw142_0)).trans hw142_0), ((HB.out.cell (World.block_lt_of_cell? w _ hw142_1)).trans hw142_1)⟩ (fun hHeld => ?_); refine with_tabW derivation_Compare.tab12 derivation_Compare.bits12 (fun HT_ HW_ => ?_)
                        generalize w56.drew = w57 at BK132 BK133 BK134 BK141 HB HR142_1 hx142_0 hx142_1 hHeld ⊢
                        refine bulk_ (fuel := 2) [(2, 42), (4, 44), (0, 40), (1, 41), (3, 43), (5, 45), (6, 46)] #[true, true, true, true, true, true, true, false, false] (bulkB_of HT_.out HW_.out _ _ _ (by kernel_rfl)) rfl (fun _ _ _ _ _ h => h) hHeld (a' := ?_) ?_ ?_
                        rotate_left
                        · iterate 7
                            refine chain_cons (v := ?_) (a1 := ?_) rfl rfl (Or.inl ⟨by rfl, ?_⟩) ?_ ?_
                            rotate_left 2
                            · rintro w' ⟨s0, s1, s2, s3, s4, s5, s6, s7⟩
                              go_simp
                              with_reducible rfl
                            · simp only [Act.put, List.setIfInBounds_toArray, List.set_cons_zero, List.set_cons_succ, i64_w, i32_w]
                              rfl
                          exact chain_nil
                        refine one_ (i := 7) (N := some 47) #[true, true, true, true, true, true, true, true, false] rfl rfl (one_of HT_.out (by kernel_rfl)) (by decide) (fun K hK => ?_)
                        refine goes_ Try.func31 (by kernel_rfl) rfl #[.agg #[.int .i64 a0_0, .slice A0_1 l0_1.length c0_1], .agg #[.int .i64 ((rd_T27 l1_1 x35_3).f0), .slice A140_1 ((rd_T27 l1_1 x35_3).f1).length c140_1], .agg #[.int .i64 ((rd_T27 l2_1 x35_3).f0), .slice A142_1 ((rd_T27 l2_1 x35_3).f1).length c142_1]] (by rfl) rfl rfl (by (try simp only [List.map_toArray, List.map_cons, List.map_nil]); first | done | rfl | (simp only [List.length_drop, List.length_take]; rfl)) ?_
                        with_reducible refine (ih k3 (by have := HJ6.out; have := HJ15.out; have := HK3.out; omega) a0_0 _ _ l0_1 ((rd_T27 l1_1 x35_3).f0) _ _ ((rd_T27 l1_1 x35_3).f1) ((rd_T27 l2_1 x35_3).f0) _ _ ((rd_T27 l2_1 x35_3).f1) t143 _ ?side1 ?side2 ?side3 ?side4 ?side5 ?side6 A41.out).mono ?_
                        (case side1 => repeat (first | exact (Kd.C_below HR0_1.out HB.out) | (with_reducible refine Kd.C_alloc ?_ _) | (with_reducible refine Kd.C_drewN ?_ _) | (with_reducible refine Kd.C_drew ?_)))
                        (case side2 => exact HC0_1.out)
                        (case side3 => repeat (first | exact (Kd.C_below HR140_1.out HB.out) | (with_reducible refine Kd.C_alloc ?_ _) | (with_reducible refine Kd.C_drewN ?_ _) | (with_reducible refine Kd.C_drew ?_)))
                        (case side4 => exact HC140_1.out)
                        (case side5 => repeat (first | exact (Kd.C_below HR142_1.out HB.out) | (with_reducible refine Kd.C_alloc ?_ _) | (with_reducible refine Kd.C_drewN ?_ _) | (with_reducible refine Kd.C_drew ?_)))
                        (case side6 => exact HC142_1.out)
                        rintro e w58 ⟨rfl, hb⟩
                        refine ⟨_, rfl, ?_⟩
                        have n0_ := Aside0.mk (blk_below (bk BK132) hb)
                        have n1_ := Aside0.mk (blk_below (bk BK133) hb)
                        have n2_ := Aside0.mk (blk_below (bk BK134) hb)
                        have n3_ := Aside0.mk (blk_below (bk BK141) hb)
                        have n4_ := Aside0.mk (below_step (bel HB) hb)
                        clear BK132
                        clear BK133
                        clear BK134
                        clear BK141
                        clear HB
                        have BK132 := n0_
                        have BK133 := n1_
                        have BK134 := n2_
                        have BK141 := n3_
                        have HB := n4_
                        clear n0_ n1_ n2_ n3_ n4_
                        (try clear hb)
                        (try clear hb2)
                        (try clear hk)
                        (try clear hi)
                        refine hK.out _ _ ⟨(blk_cell BK132.out 0).trans rfl, (blk_cell BK132.out 1).trans rfl, (blk_cell BK141.out 0).trans rfl, (blk_cell BK141.out 1).trans rfl, (blk_cell BK134.out 0).trans rfl, (blk_cell BK134.out 1).trans rfl, ((HB.out.cell (World.block_lt_of_cell? w _ hw142_0)).trans hw142_0), ((HB.out.cell (World.block_lt_of_cell? w _ hw142_1)).trans hw142_1)⟩ (fun hHeld => ?_)
                        clear hK K
                        refine norm_ (a' := ?_) ?_ ?_
                        rotate_left
                        · show Act.put _ (some 47) _ = _
                          simp only [Act.put, List.setIfInBounds_toArray, List.set_cons_zero, List.set_cons_succ, i64_w, i32_w]
                          rfl
                        refine pure_ (i := 8) (N := some 11) (v := ?_) (a' := ?_) #[true, true, true, true, true, true, true, true, true] rfl rfl (any_of HT_.out (by kernel_rfl)) (fun _ _ _ h => h) (Or.inl ⟨by rfl, ?_⟩) ?_ ?_
                        rotate_left
                        · intro w'
                          go_simp
                          with_reducible rfl
                        rotate_left
                        · simp only [Act.put, List.setIfInBounds_toArray, List.set_cons_zero, List.set_cons_succ, i64_w, i32_w]
                          rfl
                        refine done_ (done_of HT_.out (by kernel_rfl)) ?_
                        try go_wp2
                        (try rw [Exit.noGoto_ret])
                        go_ret
                        exact ⟨by first | rfl | (simp [errW_none, errW_some] <;> rfl) | (simp [*, errW_none, errW_some] <;> rfl), bel HB⟩
                    · rw [if_neg c40] at H
                      exact absurd H (by simp)
                  · rw [if_neg c39] at H
                    exact absurd H (by simp)
                · rw [if_neg c38] at H
                  exact absurd H (by simp)
              · rw [if_neg c37] at H
                have c37b0 : decide (x35_3 < (l1_1.length : Int)) = false := decide_eq_false c37
                clear c37
                obtain rfl := Option.some.inj H
                go_wp2
                (try rw [Exit.noGoto_ret])
                go_ret
                exact ⟨by first | rfl | (simp [errW_none, errW_some] <;> rfl) | (simp [*, errW_none, errW_some] <;> rfl), bel HB⟩

end Go.Proofs.Ytamimodkcbbpmaa.Pr
end
section
/- Printed by a program of this session (a turned print of the kit's) out of the translation: each Go function as a Lean function, and the proof that the machine's call answers what it says. Lean checks it. -/
namespace Go.Proofs.Ytamimodkcbbpmaa.Pr
open Go.RowKit Go.Proofs.YtamimodkcbbpmaaW.PrintWords Go.Proofs.YtamimodkcbbpmaaW.PrintLast Go.Proofs.YtamimodkcbbpmaaW.PrintMore Go.Proofs.YtamimodkcbbpmaaXW
attribute [local go_sem] max2_int min2_int max_two min_two max_three min_three max_four min_four   -- for this text's walks alone
set_option linter.unusedVariables false
set_option linter.unusedSimpArgs false

/-! ### derivation_Valid: function 28 -/
mutual
def derivation_Valid.j0 : Nat → Int → Bool → Int → List (S54) → Int → List (S27) → Option (Bool)
  | 0, _, _, _, _, _, _ => none
  | k + 1, x1, x20, x102000, x102001, x103000, x103001 => if x20 = true then (some false) else (derivation_Valid.j1 k x1 x102000 x102001 x103000 x103001)
def derivation_Valid.j1 : Nat → Int → Int → List (S54) → Int → List (S27) → Option (Bool)
  | 0, _, _, _, _, _ => none
  | k + 1, x1, x102000, x102001, x103000, x103001 => if 0 ≤ x103000 then (if x103000 < (x102001.length : Int) then (if ((rd_T54 x102001 x103000).f0) = x1 then (derivation_Valid.j2 k ((((rd_T54 x102001 x103000).f1).length : Int) != (x103001.length : Int)) x102000 x102001 x103000 x103001 ((rd_T54 x102001 x103000).f0) ((rd_T54 x102001 x103000).f1) ((rd_T54 x102001 x103000).f2) ((rd_T54 x102001 x103000).f3.f0) ((rd_T54 x102001 x103000).f3.f1)) else (derivation_Valid.j2 k true x102000 x102001 x103000 x103001 ((rd_T54 x102001 x103000).f0) ((rd_T54 x102001 x103000).f1) ((rd_T54 x102001 x103000).f2) ((rd_T54 x102001 x103000).f3.f0) ((rd_T54 x102001 x103000).f3.f1))) else (none)) else (none)
def derivation_Valid.j2 : Nat → Bool → Int → List (S54) → Int → List (S27) → Int → List Int → Int → Int → Int → Option (Bool)
  | 0, _, _, _, _, _, _, _, _, _, _ => none
  | k + 1, x39, x102000, x102001, x103000, x103001, x105000, x105001, x105002, x105003, x105004 => if x39 = true then (some false) else (derivation_Valid.j3 k x102000 x102001 x103000 x103001 x105000 x105001 x105002 x105003 x105004)
def derivation_Valid.j3 : Nat → Int → List (S54) → Int → List (S27) → Int → List Int → Int → Int → Int → Option (Bool)
  | 0, _, _, _, _, _, _, _, _, _ => none
  | k + 1, x102000, x102001, x103000, x103001, x105000, x105001, x105002, x105003, x105004 => derivation_Valid.l0 k x103001 (x103001.length : Int) 0 x102000 x102001 x105000 x105001 x105002 x105003 x105004
def derivation_Valid.l0 : Nat → List (S27) → Int → Int → Int → List (S54) → Int → List Int → Int → Int → Int → Option (Bool)
  | 0, _, _, _, _, _, _, _, _, _, _ => none
  | k + 1, x41, x42, x43, x102000, x102001, x105000, x105001, x105002, x105003, x105004 => if x43 < x42 then (if 0 ≤ x43 then (if x43 < (x41.length : Int) then (if x43 < (x105001.length : Int) then ((derivation_Valid.f k x102000 x102001 (rd x105001 x43) ((rd_T27 x41 x43).f0) ((rd_T27 x41 x43).f1)).bind fun t108 => (if t108 = true then (derivation_Valid.l0 k x41 x42 (wrap64 (x43 + 1)) x102000 x102001 x105000 x105001 x105002 x105003 x105004) else (some false))) else (none)) else (none)) else (none)) else (some true)
def derivation_Valid.f : Nat → Int → List (S54) → Int → Int → List (S27) → Option (Bool)
  | 0, _, _, _, _, _ => none
  | k + 1, a0_0, l0_1, a1, a2_0, l2_1 => if a2_0 < 0 then (derivation_Valid.j0 k a1 true a0_0 l0_1 a2_0 l2_1) else (derivation_Valid.j0 k a1 (decide (a2_0 ≥ (l0_1.length : Int))) a0_0 l0_1 a2_0 l2_1)
end
theorem derivation_Valid.mono_l : ∀ k, (∀ y0 y1 y2 y3 y4, LeO (derivation_Valid.f k y0 y1 y2 y3 y4) (derivation_Valid.f (k + 1) y0 y1 y2 y3 y4)) ∧ (∀ y0 y1 y2 y3 y4 y5, LeO (derivation_Valid.j0 k y0 y1 y2 y3 y4 y5) (derivation_Valid.j0 (k + 1) y0 y1 y2 y3 y4 y5)) ∧ (∀ y0 y1 y2 y3 y4, LeO (derivation_Valid.j1 k y0 y1 y2 y3 y4) (derivation_Valid.j1 (k + 1) y0 y1 y2 y3 y4)) ∧ (∀ y0 y1 y2 y3 y4 y5 y6 y7 y8 y9, LeO (derivation_Valid.j2 k y0 y1 y2 y3 y4 y5 y6 y7 y8 y9) (derivation_Valid.j2 (k + 1) y0 y1 y2 y3 y4 y5 y6 y7 y8 y9)) ∧ (∀ y0 y1 y2 y3 y4 y5 y6 y7 y8, LeO (derivation_Valid.j3 k y0 y1 y2 y3 y4 y5 y6 y7 y8) (derivation_Valid.j3 (k + 1) y0 y1 y2 y3 y4 y5 y6 y7 y8)) ∧ (∀ y0 y1 y2 y3 y4 y5 y6 y7 y8 y9, LeO (derivation_Valid.l0 k y0 y1 y2 y3 y4 y5 y6 y7 y8 y9) (derivation_Valid.l0 (k + 1) y0 y1 y2 y3 y4 y5 y6 y7 y8 y9))
  | 0 => ⟨fun _ _ _ _ _ r h => by simp [derivation_Valid.f] at h, fun _ _ _ _ _ _ r h => by simp [derivation_Valid.j0] at h, fun _ _ _ _ _ r h => by simp [derivation_Valid.j1] at h, fun _ _ _ _ _ _ _ _ _ _ r h => by simp [derivation_Valid.j2] at h, fun _ _ _ _ _ _ _ _ _ r h => by simp [derivation_Valid.j3] at h, fun _ _ _ _ _ _ _ _ _ _ r h => by simp [derivation_Valid.l0] at h⟩
  | k + 1 => by
    obtain ⟨ih0, ih1, ih2, ih3, ih4, ih5⟩ := derivation_Valid.mono_l k
    refine ⟨?_, ?_, ?_, ?_, ?_, ?_⟩
    all_goals intros
    all_goals first | unfold derivation_Valid.f | unfold derivation_Valid.j0 | unfold derivation_Valid.j1 | unfold derivation_Valid.j2 | unfold derivation_Valid.j3 | unfold derivation_Valid.l0
    all_goals
      repeat' first
      | (with_reducible exact ih0 _ _ _ _ _)
      | (with_reducible exact ih1 _ _ _ _ _ _)
      | (with_reducible exact ih2 _ _ _ _ _)
      | (with_reducible exact ih3 _ _ _ _ _ _ _ _ _ _)
      | (with_reducible exact ih4 _ _ _ _ _ _ _ _ _)
      | (with_reducible exact ih5 _ _ _ _ _ _ _ _ _ _)
      | (with_reducible exact LeO.refl _)
      | (with_reducible exact LeO.none _)
      | (with_reducible refine LeO.ite ?_ ?_)
      | (with_reducible refine LeO.bind ?_ (fun _ => ?_))
      | exact ih0 _ _ _ _ _
      | exact ih1 _ _ _ _ _ _
      | exact ih2 _ _ _ _ _
      | exact ih3 _ _ _ _ _ _ _ _ _ _
      | exact ih4 _ _ _ _ _ _ _ _ _
      | exact ih5 _ _ _ _ _ _ _ _ _ _
      | exact LeO.none _
      | refine LeO.ite ?_ ?_
      | refine LeO.bind ?_ (fun _ => ?_)
theorem derivation_Valid.mono : ∀ a0 a1 a2 a3 a4 k, LeO (derivation_Valid.f k a0 a1 a2 a3 a4) (derivation_Valid.f (k + 1) a0 a1 a2 a3 a4) := by
  intro a0 a1 a2 a3 a4 k
  obtain ⟨ih0, ih1, ih2, ih3, ih4, ih5⟩ := derivation_Valid.mono_l k
  exact ih0 a0 a1 a2 a3 a4
def derivation_Valid.T9 : Bool × List (List Nat × List Nat) := (true, [([], []), ([], []), ([1], [1]), ([], []), ([2, 3], [2, 3]), ([4], [4]), ([], []), ([0, 5, 6], [0, 5, 6]), ([7], [7])])
def derivation_Valid.B9 : List Nat := [0, 0, 2, 0, 14, 30, 0, 127, 255]
theorem derivation_Valid.tab9 : rtab .any (opsOf Try.f28 9) = derivation_Valid.T9 := by kernel_rfl
theorem derivation_Valid.bits9 : waitsOk derivation_Valid.T9.2 derivation_Valid.B9 = true := by kernel_rfl
set_option maxHeartbeats 8000000 in
set_option maxRecDepth 100000 in
theorem derivation_Valid.calls (k : Nat) : ∀ (a0_0 : Int) (A0_1 : Option Addr) (c0_1 : Nat) (l0_1 : List (S54)) (a1 : Int) (a2_0 : Int) (A2_1 : Option Addr) (c2_1 : Nat) (l2_1 : List (S27)) (r : Bool) (w : World) (hr0_1 : Kd.C k54 w A0_1 l0_1.length l0_1) (hc0_1 : l0_1.length ≤ c0_1) (hr2_1 : Kd.C k27 w A2_1 l2_1.length l2_1) (hc2_1 : l2_1.length ≤ c2_1) (h : derivation_Valid.f k a0_0 l0_1 a1 a2_0 l2_1 = some r),
    Calls Try.prog 28 #[.agg #[.int .i64 a0_0, .slice A0_1 l0_1.length c0_1], .int .i64 a1, .agg #[.int .i64 a2_0, .slice A2_1 l2_1.length c2_1]] w fun e w' => e = .returned (.bool r) ∧ Below w.heap.size w w' := by
  induction k using Nat.strongRecOn with
  | _ k ih =>
  intro a0_0 A0_1 c0_1 l0_1 a1 a2_0 A2_1 c2_1 l2_1 r w hr0_1 hc0_1 hr2_1 hc2_1 h
  cases k with
  | zero => exact absurd h (by simp [derivation_Valid.f])
  | succ k =>
  simp only [derivation_Valid.f] at h
  have hu24 := Try.underlying24
  have hu27 := Try.underlying27
  have hu54 := Try.underlying54
  have HR0_1 := Aside0.mk hr0_1
  have HC0_1 := Aside0.mk hc0_1
  clear hr0_1 hc0_1
  have HR2_1 := Aside0.mk hr2_1
  have HC2_1 := Aside0.mk hc2_1
  clear hr2_1 hc2_1
  have HB := Aside0.mk (Below.refl w.heap.size w)
  have H : (if a2_0 < 0 then (derivation_Valid.j0 k a1 true a0_0 l0_1 a2_0 l2_1) else (derivation_Valid.j0 k a1 (decide (a2_0 ≥ (l0_1.length : Int))) a0_0 l0_1 a2_0 l2_1)) = some r := h
  clear h
  have HC4 := Aside0.mk H
  clear H
  go_enter Try.func28, Try.ntmps28
  go_upto_region 1 with (first | ((with_reducible refine gate_dst (N := 3) rfl ?_); (try (refine gate_guard (by rfl) ?_; dsimp only)); refine box_event ?hg (N := 3) ?hd (cs := #[.int .i64 a0_0, .slice A0_1 l0_1.length c0_1]) (t := 24) ?hr ?_; (case hd => rfl); (case hg => rfl); (case hr => first | (go_simp; done) | (go_simp; rfl)); intro gb101 hg w5 hbox hb; have n0_ := Aside0.mk (below_step (bel HB) hb); have n1_ := Aside0.mk (hbox); have n2_ := Aside0.mk ((by rw [hg]; exact (below_size (bel HB)) : w.heap.size ≤ gb101)); have n3_ := Aside0.mk ((by rw [hg]; exact (below_size (bel HB)) : w.heap.size ≤ gb101)); clear HB; have HB := n0_; have BK101 := n1_; have GW101 := n2_; have GE101 := n3_; clear n0_ n1_ n2_ n3_; clear hb hbox hg) | ((with_reducible refine gate_dst (N := 5) rfl ?_); (try (refine gate_guard (by rfl) ?_; dsimp only)); refine box_event ?hg (N := 5) ?hd (cs := #[.int .i64 a2_0, .slice A2_1 l2_1.length c2_1]) (t := 27) ?hr ?_; (case hd => rfl); (case hg => rfl); (case hr => first | (go_simp; done) | (go_simp; rfl)); intro gb102 hg w6 hbox hb; have n0_ := Aside0.mk (blk_below (bk BK101) hb); have n1_ := Aside0.mk (below_step (bel HB) hb); have n2_ := Aside0.mk (hbox); have n3_ := Aside0.mk ((by rw [hg]; exact (below_size (bel HB)) : w.heap.size ≤ gb102)); have n4_ := Aside0.mk ((by rw [hg]; exact (below_size (bel HB)) : w.heap.size ≤ gb102)); have n5_ := Aside0.mk ((by rw [hg]; exact Nat.ne_of_lt (blk_lt (bk BK101)) : gb101 ≠ gb102)); have n6_ := Aside0.mk ((by rw [hg]; exact Nat.ne_of_gt (blk_lt (bk BK101)) : gb102 ≠ gb101)); clear BK101; clear HB; have BK101 := n0_; have HB := n1_; have BK102 := n2_; have GW102 := n3_; have GE102 := n4_; have NB101_102 := n5_; have NB102_101 := n6_; clear n0_ n1_ n2_ n3_ n4_ n5_ n6_; clear hb hbox hg))
  (try simp only [Act.put, List.setIfInBounds_toArray, List.set_cons_zero, List.set_cons_succ])
  go_cut [20] (fun v20 wc => ∃ (kq : Nat) (x20_3 : Bool), v20 = .bool x20_3 ∧ Aside0 (derivation_Valid.j0 kq a1 x20_3 a0_0 l0_1 a2_0 l2_1 = some r) ∧ Aside0 (kq ≤ k) ∧ Aside0 (wc.heap[gb101]? = some (.cells #[.int .i64 a0_0, (.slice A0_1 l0_1.length c0_1)] 24 (0, 0))) ∧ Aside0 (wc.heap[gb102]? = some (.cells #[.int .i64 a2_0, (.slice A2_1 l2_1.length c2_1)] 27 (0, 0))) ∧ Aside0 (Below w.heap.size w wc))
  case first =>
    have H := HC4.out
    clear HC4
    by_cases c7 : a2_0 < 0
    · rw [if_pos c7] at H
      have c7b0 : decide (a2_0 < 0) = true := decide_eq_true c7
      clear c7
      (first | rw [c7b0] | (simp only [i64_w, i32_w]; rw [c7b0]) | skip)
      have H' := Aside0.mk H
      clear H
      have hnb8 := NB102_101.out
      have hnc8 := NB101_102.out
      have hcz9_0 : w6.cell? ⟨gb102, 0, none⟩ = some (.int .i64 a2_0) := (blk_cell BK102.out 0).trans rfl
      have hcz9_1 : w6.cell? ⟨gb102, 1, none⟩ = some (.slice A2_1 l2_1.length c2_1) := (blk_cell BK102.out 1).trans rfl
      have hfz9_0 := blk_frozen BK102.out 0
      have hfz9_1 := blk_frozen BK102.out 1
      go_wp2
      go_meet
      case rel => exact ⟨_, (true), (by first | rfl | (simp; done) | (simp [*]; done)), H', ⟨by first | omega | exact Nat.le_refl _⟩, ⟨by (with_reducible repeat (first | refine blk_drewN ?_ _ | refine blk_drew ?_ | refine blk_alloc ?_ _)); exact BK101.out⟩, ⟨by (with_reducible repeat (first | refine blk_drewN ?_ _ | refine blk_drew ?_ | refine blk_alloc ?_ _)); exact BK102.out⟩, ⟨bel HB⟩⟩
    · rw [if_neg c7] at H
      have c7b0 : decide (a2_0 < 0) = false := decide_eq_false c7
      clear c7
      (first | rw [c7b0] | (simp only [i64_w, i32_w]; rw [c7b0]) | skip)
      have H' := Aside0.mk H
      clear H
      have hnb10 := NB102_101.out
      have hnc10 := NB101_102.out
      have hcz11_0 : w6.cell? ⟨gb102, 0, none⟩ = some (.int .i64 a2_0) := (blk_cell BK102.out 0).trans rfl
      have hcz11_1 : w6.cell? ⟨gb102, 1, none⟩ = some (.slice A2_1 l2_1.length c2_1) := (blk_cell BK102.out 1).trans rfl
      have hfz11_0 := blk_frozen BK102.out 0
      have hfz11_1 := blk_frozen BK102.out 1
      have hcz12_0 : w6.cell? ⟨gb101, 0, none⟩ = some (.int .i64 a0_0) := (blk_cell BK101.out 0).trans rfl
      have hcz12_1 : w6.cell? ⟨gb101, 1, none⟩ = some (.slice A0_1 l0_1.length c0_1) := (blk_cell BK101.out 1).trans rfl
      have hfz12_0 := blk_frozen BK101.out 0
      have hfz12_1 := blk_frozen BK101.out 1
      go_wp2
      go_meet
      case rel => exact ⟨_, (decide (a2_0 ≥ (l0_1.length : Int))), (by first | rfl | (simp; done) | (simp [*]; done)), H', ⟨by first | omega | exact Nat.le_refl _⟩, ⟨by (with_reducible repeat (first | refine blk_drewN ?_ _ | refine blk_drew ?_ | refine blk_alloc ?_ _)); exact BK101.out⟩, ⟨by (with_reducible repeat (first | refine blk_drewN ?_ _ | refine blk_drew ?_ | refine blk_alloc ?_ _)); exact BK102.out⟩, ⟨bel HB⟩⟩
  case rest =>
    clear HC4
    (try clear c1); (try clear c2); (try clear p2); (try clear c7); (try clear c7b0); (try clear c8); (try clear c10); (try clear hcz11_0); (try clear hcz11_1); (try clear hcz12_0); (try clear hcz12_1); (try clear hcz9_0); (try clear hcz9_1); (try clear hfz11_0); (try clear hfz11_1); (try clear hfz12_0); (try clear hfz12_1); (try clear hfz9_0); (try clear hfz9_1)
    obtain ⟨kq, x20_3, rfl, HA, HJ3, BK101, BK102, HB⟩ := hcut
    cases kq with
    | zero => exact absurd HA.out (by simp [derivation_Valid.j0])
    | succ kj3 =>
      have H := HA.out
      clear HA
      simp only [derivation_Valid.j0] at H
      have HC13 := Aside0.mk H
      clear H
      go_upto_if 20 with (fail)
      go_cut [] (fun wc => ∃ (kq : Nat), Aside0 (derivation_Valid.j1 kq a1 a0_0 l0_1 a2_0 l2_1 = some r) ∧ Aside0 (kq ≤ kj3) ∧ Aside0 (wc.heap[gb101]? = some (.cells #[.int .i64 a0_0, (.slice A0_1 l0_1.length c0_1)] 24 (0, 0))) ∧ Aside0 (wc.heap[gb102]? = some (.cells #[.int .i64 a2_0, (.slice A2_1 l2_1.length c2_1)] 27 (0, 0))) ∧ Aside0 (Below w.heap.size w wc))
      case first =>
        have H := HC13.out
        clear HC13
        by_cases c14 : x20_3 = true
        · subst c14
          have H1 : (some false) = some r := by rw [if_pos rfl] at H; exact H
          clear H
          have H := H1
          clear H1
          obtain rfl := Option.some.inj H
          go_wp2
          go_ret
          exact ⟨by first | rfl | (simp [errW_none, errW_some] <;> rfl) | (simp [*, errW_none, errW_some] <;> rfl), bel HB⟩
        · replace c14 := Bool.eq_false_iff.mpr c14
          subst c14
          have H1 : (derivation_Valid.j1 kj3 a1 a0_0 l0_1 a2_0 l2_1) = some r := by rw [if_neg (show ¬ (false = true) by decide)] at H; exact H
          clear H
          have H := H1
          clear H1
          have H' := Aside0.mk H
          clear H
          go_wp2
          go_meet
          case rel => exact ⟨_, H', ⟨by have := HJ3.out; first | omega | exact Nat.le_refl _⟩, ⟨by (with_reducible repeat (first | refine blk_drewN ?_ _ | refine blk_drew ?_ | refine blk_alloc ?_ _)); exact BK101.out⟩, ⟨by (with_reducible repeat (first | refine blk_drewN ?_ _ | refine blk_drew ?_ | refine blk_alloc ?_ _)); exact BK102.out⟩, ⟨bel HB⟩⟩
      case rest =>
        clear HC13
        (try clear c1); (try clear c2); (try clear p2); (try clear c7); (try clear c7b0); (try clear c8); (try clear c10); (try clear c14); (try clear hcz11_0); (try clear hcz11_1); (try clear hcz12_0); (try clear hcz12_1); (try clear hcz9_0); (try clear hcz9_1); (try clear hfz11_0); (try clear hfz11_1); (try clear hfz12_0); (try clear hfz12_1); (try clear hfz9_0); (try clear hfz9_1); (try clear p2)
        obtain ⟨kq, HA, HJ12, BK101, BK102, HB⟩ := hcut
        cases kq with
        | zero => exact absurd HA.out (by simp [derivation_Valid.j1])
        | succ kj12 =>
          have H := HA.out
          clear HA
          simp only [derivation_Valid.j1] at H
          by_cases c15 : 0 ≤ a2_0
          · rw [if_pos c15] at H
            have c15b0 : decide (0 ≤ a2_0) = true := decide_eq_true c15
            clear c15
            by_cases c16 : a2_0 < (l0_1.length : Int)
            · rw [if_pos c16] at H
              have c16b0 : decide (a2_0 < (l0_1.length : Int)) = true := decide_eq_true c16
              clear c16
              have HC17 := Aside0.mk H
              clear H
              have hnb18 := NB101_102.out
              have hnc18 := NB102_101.out
              have hcz19_0 : wc.cell? ⟨gb101, 0, none⟩ = some (.int .i64 a0_0) := (blk_cell BK101.out 0).trans rfl
              have hcz19_1 : wc.cell? ⟨gb101, 1, none⟩ = some (.slice A0_1 l0_1.length c0_1) := (blk_cell BK101.out 1).trans rfl
              have hfz19_0 := blk_frozen BK101.out 0
              have hfz19_1 := blk_frozen BK101.out 1
              have hcz20_0 : wc.cell? ⟨gb102, 0, none⟩ = some (.int .i64 a2_0) := (blk_cell BK102.out 0).trans rfl
              have hcz20_1 : wc.cell? ⟨gb102, 1, none⟩ = some (.slice A2_1 l2_1.length c2_1) := (blk_cell BK102.out 1).trans rfl
              have hfz20_0 := blk_frozen BK102.out 0
              have hfz20_1 := blk_frozen BK102.out 1
              have p103 : 0 ≤ (a2_0 : Int) := of_decide_eq_true (by first | (with_reducible assumption) | assumption)
              have q103 : a2_0 < (l0_1.length : Int) := of_decide_eq_true (by first | (with_reducible assumption) | assumption)
              obtain ⟨ad103, A103_1, c103_1, e103, hx103_0, hx103_1, hx103_2, hx103_3, hx103_4, hl103_1, hi103_1⟩ := at_T54 HR0_1.out a2_0 p103 q103
              cases e103
              replace hx103_0 := (HB.out.cell (World.block_lt_of_cell? w _ hx103_0)).trans hx103_0
              replace hx103_1 := (HB.out.cell (World.block_lt_of_cell? w _ hx103_1)).trans hx103_1
              replace hx103_2 := (HB.out.cell (World.block_lt_of_cell? w _ hx103_2)).trans hx103_2
              replace hx103_3 := (HB.out.cell (World.block_lt_of_cell? w _ hx103_3)).trans hx103_3
              replace hx103_4 := (HB.out.cell (World.block_lt_of_cell? w _ hx103_4)).trans hx103_4
              have HR103_1 := Aside0.mk hi103_1
              have HC103_1 := Aside0.mk hl103_1
              clear hi103_1 hl103_1
              replace p103 := eq_true p103
              replace q103 := eq_true q103
              go_upto_region 4 with (first | ((with_reducible refine gate_dst (N := 7) rfl ?_); (try (refine gate_guard (by rfl) ?_; dsimp only)); refine box_event ?hg (N := 7) ?hd (cs := #[.int .i64 0, .slice none 0 0, .int .i64 0, .int .i64 0, .int .i64 0]) (t := 54) ?hr ?_; (case hd => rfl); (case hg => rfl); (case hr => first | (go_simp; done) | (go_simp; rfl)); intro gb104 hg w21 hbox hb; have n0_ := Aside0.mk (blk_below (bk BK101) hb); have n1_ := Aside0.mk (blk_below (bk BK102) hb); have n2_ := Aside0.mk (below_step (bel HB) hb); have n3_ := Aside0.mk (hbox); have n4_ := Aside0.mk ((by rw [hg]; exact (below_size (bel HB)) : w.heap.size ≤ gb104)); have n5_ := Aside0.mk ((by rw [hg]; exact (below_size (bel HB)) : w.heap.size ≤ gb104)); have n6_ := Aside0.mk ((by rw [hg]; exact Nat.ne_of_lt (blk_lt (bk BK101)) : gb101 ≠ gb104)); have n7_ := Aside0.mk ((by rw [hg]; exact Nat.ne_of_gt (blk_lt (bk BK101)) : gb104 ≠ gb101)); have n8_ := Aside0.mk ((by rw [hg]; exact Nat.ne_of_lt (blk_lt (bk BK102)) : gb102 ≠ gb104)); have n9_ := Aside0.mk ((by rw [hg]; exact Nat.ne_of_gt (blk_lt (bk BK102)) : gb104 ≠ gb102)); clear BK101; clear BK102; clear HB; have BK101 := n0_; have BK102 := n1_; have HB := n2_; have BK104 := n3_; have GW104 := n4_; have GE104 := n5_; have NB101_104 := n6_; have NB104_101 := n7_; have NB102_104 := n8_; have NB104_102 := n9_; clear n0_ n1_ n2_ n3_ n4_ n5_ n6_ n7_ n8_ n9_; clear hb hbox hg; have hnb22 := NB104_101.out; have hnc22 := NB101_104.out; have hnb23 := NB104_102.out; have hnc23 := NB102_104.out; have hcz24_0 : w21.cell? ⟨gb104, 0, none⟩ = some (.int .i64 0) := (blk_cell BK104.out 0).trans rfl; have hcz24_1 : w21.cell? ⟨gb104, 1, none⟩ = some (.slice none 0 0) := (blk_cell BK104.out 1).trans rfl; have hcz24_2 : w21.cell? ⟨gb104, 2, none⟩ = some (.int .i64 0) := (blk_cell BK104.out 2).trans rfl; have hcz24_3 : w21.cell? ⟨gb104, 3, none⟩ = some (.int .i64 0) := (blk_cell BK104.out 3).trans rfl; have hcz24_4 : w21.cell? ⟨gb104, 4, none⟩ = some (.int .i64 0) := (blk_cell BK104.out 4).trans rfl; have hfz24_0 := blk_frozen BK104.out 0; have hfz24_1 := blk_frozen BK104.out 1; have hfz24_2 := blk_frozen BK104.out 2; have hfz24_3 := blk_frozen BK104.out 3; have hfz24_4 := blk_frozen BK104.out 4))
              (try simp only [Act.put, List.setIfInBounds_toArray, List.set_cons_zero, List.set_cons_succ])
              go_cut [39] (fun v39 wc => ∃ (kq : Nat) (x39_16 : Bool), v39 = .bool x39_16 ∧ Aside0 (derivation_Valid.j2 kq x39_16 a0_0 l0_1 a2_0 l2_1 ((rd_T54 l0_1 a2_0).f0) ((rd_T54 l0_1 a2_0).f1) ((rd_T54 l0_1 a2_0).f2) ((rd_T54 l0_1 a2_0).f3.f0) ((rd_T54 l0_1 a2_0).f3.f1) = some r) ∧ Aside0 (kq ≤ kj12) ∧ Aside0 (wc.heap[gb101]? = some (.cells #[.int .i64 a0_0, (.slice (some ad103) l0_1.length c0_1)] 24 (0, 0))) ∧ Aside0 (wc.heap[gb102]? = some (.cells #[.int .i64 a2_0, (.slice A2_1 l2_1.length c2_1)] 27 (0, 0))) ∧ Aside0 (wc.heap[gb104]? = some (.cells #[.int .i64 ((rd_T54 l0_1 a2_0).f0), (.slice A103_1 ((rd_T54 l0_1 a2_0).f1).length c103_1), .int .i64 ((rd_T54 l0_1 a2_0).f2), .int .i64 ((rd_T54 l0_1 a2_0).f3.f0), .int .i64 ((rd_T54 l0_1 a2_0).f3.f1)] 54 (0, 0))) ∧ Aside0 (Below w.heap.size w wc))
              case first =>
                have H := HC17.out
                clear HC17
                by_cases c25 : ((rd_T54 l0_1 a2_0).f0) = a1
                · rw [if_pos c25] at H
                  have c25b0 : (((rd_T54 l0_1 a2_0).f0) == a1) = true := beq_iff_eq.mpr c25
                  have c25b1 : (((rd_T54 l0_1 a2_0).f0) != a1) = false := bne_eq_false_iff_eq.mpr c25
                  clear c25
                  (first | rw [c25b0] | (simp only [i64_w, i32_w]; rw [c25b0]) | skip)
                  have H' := Aside0.mk H
                  clear H
                  have hnb26 := NB104_101.out
                  have hnc26 := NB101_104.out
                  have hnb27 := NB104_102.out
                  have hnc27 := NB102_104.out
                  have hcz28_0 : w21.cell? ⟨gb104, 0, none⟩ = some (.int .i64 0) := (blk_cell BK104.out 0).trans rfl
                  have hcz28_1 : w21.cell? ⟨gb104, 1, none⟩ = some (.slice none 0 0) := (blk_cell BK104.out 1).trans rfl
                  have hcz28_2 : w21.cell? ⟨gb104, 2, none⟩ = some (.int .i64 0) := (blk_cell BK104.out 2).trans rfl
                  have hcz28_3 : w21.cell? ⟨gb104, 3, none⟩ = some (.int .i64 0) := (blk_cell BK104.out 3).trans rfl
                  have hcz28_4 : w21.cell? ⟨gb104, 4, none⟩ = some (.int .i64 0) := (blk_cell BK104.out 4).trans rfl
                  have hfz28_0 := blk_frozen BK104.out 0
                  have hfz28_1 := blk_frozen BK104.out 1
                  have hfz28_2 := blk_frozen BK104.out 2
                  have hfz28_3 := blk_frozen BK104.out 3
                  have hfz28_4 := blk_frozen BK104.out 4
                  have hnb29 := NB102_101.out
                  have hnc29 := NB101_102.out
                  have hcz30_0 : w21.cell? ⟨gb102, 0, none⟩ = some (.int .i64 a2_0) := (blk_cell BK102.out 0).trans rfl
                  have hcz30_1 : w21.cell? ⟨gb102, 1, none⟩ = some (.slice A2_1 l2_1.length c2_1) := (blk_cell BK102.out 1).trans rfl
                  have hfz30_0 := blk_frozen BK102.out 0
                  have hfz30_1 := blk_frozen BK102.out 1
                  go_wp2
                  go_meet
                  case rel => exact ⟨_, (((((rd_T54 l0_1 a2_0).f1).length : Int) != (l2_1.length : Int))), (by first | rfl | (simp; done) | (simp [*]; done)), H', ⟨by have := HJ3.out; have := HJ12.out; first | omega | exact Nat.le_refl _⟩, ⟨by (with_reducible repeat (first | refine blk_drewN ?_ _ | refine blk_drew ?_ | refine blk_alloc ?_ _)); refine blk_far ?_ NB101_104.out _; (with_reducible repeat (first | refine blk_drewN ?_ _ | refine blk_drew ?_ | refine blk_alloc ?_ _)); refine blk_far ?_ NB101_104.out _; (with_reducible repeat (first | refine blk_drewN ?_ _ | refine blk_drew ?_ | refine blk_alloc ?_ _)); refine blk_far ?_ NB101_104.out _; (with_reducible repeat (first | refine blk_drewN ?_ _ | refine blk_drew ?_ | refine blk_alloc ?_ _)); refine blk_far ?_ NB101_104.out _; (with_reducible repeat (first | refine blk_drewN ?_ _ | refine blk_drew ?_ | refine blk_alloc ?_ _)); refine blk_far ?_ NB101_104.out _; (with_reducible repeat (first | refine blk_drewN ?_ _ | refine blk_drew ?_ | refine blk_alloc ?_ _)); exact BK101.out⟩, ⟨by (with_reducible repeat (first | refine blk_drewN ?_ _ | refine blk_drew ?_ | refine blk_alloc ?_ _)); refine blk_far ?_ NB102_104.out _; (with_reducible repeat (first | refine blk_drewN ?_ _ | refine blk_drew ?_ | refine blk_alloc ?_ _)); refine blk_far ?_ NB102_104.out _; (with_reducible repeat (first | refine blk_drewN ?_ _ | refine blk_drew ?_ | refine blk_alloc ?_ _)); refine blk_far ?_ NB102_104.out _; (with_reducible repeat (first | refine blk_drewN ?_ _ | refine blk_drew ?_ | refine blk_alloc ?_ _)); refine blk_far ?_ NB102_104.out _; (with_reducible repeat (first | refine blk_drewN ?_ _ | refine blk_drew ?_ | refine blk_alloc ?_ _)); refine blk_far ?_ NB102_104.out _; (with_reducible repeat (first | refine blk_drewN ?_ _ | refine blk_drew ?_ | refine blk_alloc ?_ _)); exact BK102.out⟩, ⟨by (with_reducible repeat (first | refine blk_drewN ?_ _ | refine blk_drew ?_ | refine blk_alloc ?_ _)); refine blk_put (cs := #[.int .i64 ((rd_T54 l0_1 a2_0).f0), .slice A103_1 ((rd_T54 l0_1 a2_0).f1).length c103_1, .int .i64 ((rd_T54 l0_1 a2_0).f2), .int .i64 ((rd_T54 l0_1 a2_0).f3.f0), .int .i64 0]) ?_ 4 _ rfl; (with_reducible repeat (first | refine blk_drewN ?_ _ | refine blk_drew ?_ | refine blk_alloc ?_ _)); refine blk_put (cs := #[.int .i64 ((rd_T54 l0_1 a2_0).f0), .slice A103_1 ((rd_T54 l0_1 a2_0).f1).length c103_1, .int .i64 ((rd_T54 l0_1 a2_0).f2), .int .i64 0, .int .i64 0]) ?_ 3 _ rfl; (with_reducible repeat (first | refine blk_drewN ?_ _ | refine blk_drew ?_ | refine blk_alloc ?_ _)); refine blk_put (cs := #[.int .i64 ((rd_T54 l0_1 a2_0).f0), .slice A103_1 ((rd_T54 l0_1 a2_0).f1).length c103_1, .int .i64 0, .int .i64 0, .int .i64 0]) ?_ 2 _ rfl; (with_reducible repeat (first | refine blk_drewN ?_ _ | refine blk_drew ?_ | refine blk_alloc ?_ _)); refine blk_put (cs := #[.int .i64 ((rd_T54 l0_1 a2_0).f0), .slice none 0 0, .int .i64 0, .int .i64 0, .int .i64 0]) ?_ 1 _ rfl; (with_reducible repeat (first | refine blk_drewN ?_ _ | refine blk_drew ?_ | refine blk_alloc ?_ _)); refine blk_put (cs := #[.int .i64 0, .slice none 0 0, .int .i64 0, .int .i64 0, .int .i64 0]) ?_ 0 _ rfl; (with_reducible repeat (first | refine blk_drewN ?_ _ | refine blk_drew ?_ | refine blk_alloc ?_ _)); exact BK104.out⟩, ⟨bel HB⟩⟩
                · rw [if_neg c25] at H
                  have c25b0 : (((rd_T54 l0_1 a2_0).f0) == a1) = false := beq_eq_false_iff_ne.mpr c25
                  have c25b1 : (((rd_T54 l0_1 a2_0).f0) != a1) = true := bne_iff_ne.mpr c25
                  (first | rw [c25b0] | (simp only [i64_w, i32_w]; rw [c25b0]) | skip)
                  have H' := Aside0.mk H
                  clear H
                  have hnb31 := NB104_101.out
                  have hnc31 := NB101_104.out
                  have hnb32 := NB104_102.out
                  have hnc32 := NB102_104.out
                  have hcz33_0 : w21.cell? ⟨gb104, 0, none⟩ = some (.int .i64 0) := (blk_cell BK104.out 0).trans rfl
                  have hcz33_1 : w21.cell? ⟨gb104, 1, none⟩ = some (.slice none 0 0) := (blk_cell BK104.out 1).trans rfl
                  have hcz33_2 : w21.cell? ⟨gb104, 2, none⟩ = some (.int .i64 0) := (blk_cell BK104.out 2).trans rfl
                  have hcz33_3 : w21.cell? ⟨gb104, 3, none⟩ = some (.int .i64 0) := (blk_cell BK104.out 3).trans rfl
                  have hcz33_4 : w21.cell? ⟨gb104, 4, none⟩ = some (.int .i64 0) := (blk_cell BK104.out 4).trans rfl
                  have hfz33_0 := blk_frozen BK104.out 0
                  have hfz33_1 := blk_frozen BK104.out 1
                  have hfz33_2 := blk_frozen BK104.out 2
                  have hfz33_3 := blk_frozen BK104.out 3
                  have hfz33_4 := blk_frozen BK104.out 4
                  go_wp2
                  go_meet
                  case rel => exact ⟨_, (true), (by first | rfl | (simp; done) | (simp [*]; done)), H', ⟨by have := HJ3.out; have := HJ12.out; first | omega | exact Nat.le_refl _⟩, ⟨by (with_reducible repeat (first | refine blk_drewN ?_ _ | refine blk_drew ?_ | refine blk_alloc ?_ _)); refine blk_far ?_ NB101_104.out _; (with_reducible repeat (first | refine blk_drewN ?_ _ | refine blk_drew ?_ | refine blk_alloc ?_ _)); refine blk_far ?_ NB101_104.out _; (with_reducible repeat (first | refine blk_drewN ?_ _ | refine blk_drew ?_ | refine blk_alloc ?_ _)); refine blk_far ?_ NB101_104.out _; (with_reducible repeat (first | refine blk_drewN ?_ _ | refine blk_drew ?_ | refine blk_alloc ?_ _)); refine blk_far ?_ NB101_104.out _; (with_reducible repeat (first | refine blk_drewN ?_ _ | refine blk_drew ?_ | refine blk_alloc ?_ _)); refine blk_far ?_ NB101_104.out _; (with_reducible repeat (first | refine blk_drewN ?_ _ | refine blk_drew ?_ | refine blk_alloc ?_ _)); exact BK101.out⟩, ⟨by (with_reducible repeat (first | refine blk_drewN ?_ _ | refine blk_drew ?_ | refine blk_alloc ?_ _)); refine blk_far ?_ NB102_104.out _; (with_reducible repeat (first | refine blk_drewN ?_ _ | refine blk_drew ?_ | refine blk_alloc ?_ _)); refine blk_far ?_ NB102_104.out _; (with_reducible repeat (first | refine blk_drewN ?_ _ | refine blk_drew ?_ | refine blk_alloc ?_ _)); refine blk_far ?_ NB102_104.out _; (with_reducible repeat (first | refine blk_drewN ?_ _ | refine blk_drew ?_ | refine blk_alloc ?_ _)); refine blk_far ?_ NB102_104.out _; (with_reducible repeat (first | refine blk_drewN ?_ _ | refine blk_drew ?_ | refine blk_alloc ?_ _)); refine blk_far ?_ NB102_104.out _; (with_reducible repeat (first | refine blk_drewN ?_ _ | refine blk_drew ?_ | refine blk_alloc ?_ _)); exact BK102.out⟩, ⟨by (with_reducible repeat (first | refine blk_drewN ?_ _ | refine blk_drew ?_ | refine blk_alloc ?_ _)); refine blk_put (cs := #[.int .i64 ((rd_T54 l0_1 a2_0).f0), .slice A103_1 ((rd_T54 l0_1 a2_0).f1).length c103_1, .int .i64 ((rd_T54 l0_1 a2_0).f2), .int .i64 ((rd_T54 l0_1 a2_0).f3.f0), .int .i64 0]) ?_ 4 _ rfl; (with_reducible repeat (first | refine blk_drewN ?_ _ | refine blk_drew ?_ | refine blk_alloc ?_ _)); refine blk_put (cs := #[.int .i64 ((rd_T54 l0_1 a2_0).f0), .slice A103_1 ((rd_T54 l0_1 a2_0).f1).length c103_1, .int .i64 ((rd_T54 l0_1 a2_0).f2), .int .i64 0, .int .i64 0]) ?_ 3 _ rfl; (with_reducible repeat (first | refine blk_drewN ?_ _ | refine blk_drew ?_ | refine blk_alloc ?_ _)); refine blk_put (cs := #[.int .i64 ((rd_T54 l0_1 a2_0).f0), .slice A103_1 ((rd_T54 l0_1 a2_0).f1).length c103_1, .int .i64 0, .int .i64 0, .int .i64 0]) ?_ 2 _ rfl; (with_reducible repeat (first | refine blk_drewN ?_ _ | refine blk_drew ?_ | refine blk_alloc ?_ _)); refine blk_put (cs := #[.int .i64 ((rd_T54 l0_1 a2_0).f0), .slice none 0 0, .int .i64 0, .int .i64 0, .int .i64 0]) ?_ 1 _ rfl; (with_reducible repeat (first | refine blk_drewN ?_ _ | refine blk_drew ?_ | refine blk_alloc ?_ _)); refine blk_put (cs := #[.int .i64 0, .slice none 0 0, .int .i64 0, .int .i64 0, .int .i64 0]) ?_ 0 _ rfl; (with_reducible repeat (first | refine blk_drewN ?_ _ | refine blk_drew ?_ | refine blk_alloc ?_ _)); exact BK104.out⟩, ⟨bel HB⟩⟩
              case rest =>
                clear HC17
                (try clear c1); (try clear p1); (try clear q1); (try clear hx1); (try clear c2); (try clear p2); (try clear c3); (try clear c7); (try clear c7b0); (try clear c8); (try clear c10); (try clear p10); (try clear q10); (try clear hx10); (try clear c14); (try clear c15); (try clear c15b0); (try clear c16); (try clear c16b0); (try clear c18); (try clear c22); (try clear c23); (try clear c25); (try clear c25b0); (try clear c25b1); (try clear c26); (try clear c27); (try clear c28); (try clear c29); (try clear c31); (try clear c32); (try clear hcz11_0); (try clear hcz11_1); (try clear hcz12_0); (try clear hcz12_1); (try clear hcz19_0); (try clear hcz19_1); (try clear hcz20_0); (try clear hcz20_1); (try clear hcz24_0); (try clear hcz24_1); (try clear hcz24_2); (try clear hcz24_3); (try clear hcz24_4); (try clear hcz28_0); (try clear hcz28_1); (try clear hcz28_2); (try clear hcz28_3); (try clear hcz28_4); (try clear hcz30_0); (try clear hcz30_1); (try clear hcz33_0); (try clear hcz33_1); (try clear hcz33_2); (try clear hcz33_3); (try clear hcz33_4); (try clear hcz9_0); (try clear hcz9_1); (try clear hfz11_0); (try clear hfz11_1); (try clear hfz12_0); (try clear hfz12_1); (try clear hfz19_0); (try clear hfz19_1); (try clear hfz20_0); (try clear hfz20_1); (try clear hfz24_0); (try clear hfz24_1); (try clear hfz24_2); (try clear hfz24_3); (try clear hfz24_4); (try clear hfz28_0); (try clear hfz28_1); (try clear hfz28_2); (try clear hfz28_3); (try clear hfz28_4); (try clear hfz30_0); (try clear hfz30_1); (try clear hfz33_0); (try clear hfz33_1); (try clear hfz33_2); (try clear hfz33_3); (try clear hfz33_4); (try clear hfz9_0); (try clear hfz9_1); (try clear hx103_0); (try clear hx103_1); (try clear hx103_2); (try clear hx103_3); (try clear hx103_4); (try clear p103); (try clear p2); (try clear q103)
                obtain ⟨kq, x39_16, rfl, HA, HJ16, BK101, BK102, BK104, HB⟩ := hcut
                cases kq with
                | zero => exact absurd HA.out (by simp [derivation_Valid.j2])
                | succ kj16 =>
                  have H := HA.out
                  clear HA
                  simp only [derivation_Valid.j2] at H
                  have HC34 := Aside0.mk H
                  clear H
                  go_upto_if 39 with (fail)
                  go_cut [] (fun wc => ∃ (kq : Nat), Aside0 (derivation_Valid.j3 kq a0_0 l0_1 a2_0 l2_1 ((rd_T54 l0_1 a2_0).f0) ((rd_T54 l0_1 a2_0).f1) ((rd_T54 l0_1 a2_0).f2) ((rd_T54 l0_1 a2_0).f3.f0) ((rd_T54 l0_1 a2_0).f3.f1) = some r) ∧ Aside0 (kq ≤ kj16) ∧ Aside0 (wc.heap[gb101]? = some (.cells #[.int .i64 a0_0, (.slice (some ad103) l0_1.length c0_1)] 24 (0, 0))) ∧ Aside0 (wc.heap[gb102]? = some (.cells #[.int .i64 a2_0, (.slice A2_1 l2_1.length c2_1)] 27 (0, 0))) ∧ Aside0 (wc.heap[gb104]? = some (.cells #[.int .i64 ((rd_T54 l0_1 a2_0).f0), (.slice A103_1 ((rd_T54 l0_1 a2_0).f1).length c103_1), .int .i64 ((rd_T54 l0_1 a2_0).f2), .int .i64 ((rd_T54 l0_1 a2_0).f3.f0), .int .i64 ((rd_T54 l0_1 a2_0).f3.f1)] 54 (0, 0))) ∧ Aside0 (Below w.heap.size w wc))
                  case first =>
                    have H := HC34.out
                    clear HC34
                    by_cases c35 : x39_16 = true
                    · subst c35
                      have H1 : (some false) = some r := by rw [if_pos rfl] at H; exact H
                      clear H
                      have H := H1
                      clear H1
                      obtain rfl := Option.some.inj H
                      go_wp2
                      go_ret
                      exact ⟨by first | rfl | (simp [errW_none, errW_some] <;> rfl) | (simp [*, errW_none, errW_some] <;> rfl), bel HB⟩
                    · replace c35 := Bool.eq_false_iff.mpr c35
                      subst c35
                      have H1 : (derivation_Valid.j3 kj16 a0_0 l0_1 a2_0 l2_1 ((rd_T54 l0_1 a2_0).f0) ((rd_T54 l0_1 a2_0).f1) ((rd_T54 l0_1 a2_0).f2) ((rd_T54 l0_1 a2_0).f3.f0) ((rd_T54 l0_1 a2_0).f3.f1)) = some r := by rw [if_neg (show ¬ (false = true) by decide)] at H; exact H
                      clear H
                      have H := H1
                      clear H1
                      have H' := Aside0.mk H
                      clear H
                      go_wp2
                      go_meet
                      case rel => exact ⟨_, H', ⟨by have := HJ3.out; have := HJ12.out; have := HJ16.out; first | omega | exact Nat.le_refl _⟩, ⟨by (with_reducible repeat (first | refine blk_drewN ?_ _ | refine blk_drew ?_ | refine blk_alloc ?_ _)); exact BK101.out⟩, ⟨by (with_reducible repeat (first | refine blk_drewN ?_ _ | refine blk_drew ?_ | refine blk_alloc ?_ _)); exact BK102.out⟩, ⟨by (with_reducible repeat (first | refine blk_drewN ?_ _ | refine blk_drew ?_ | refine blk_alloc ?_ _)); exact BK104.out⟩, ⟨bel HB⟩⟩
                  case rest =>
                    clear HC34
                    (try clear c1); (try clear p1); (try clear q1); (try clear hx1); (try clear c2); (try clear p2); (try clear c3); (try clear c7); (try clear c7b0); (try clear c8); (try clear c10); (try clear p10); (try clear q10); (try clear hx10); (try clear c14); (try clear c15); (try clear c15b0); (try clear c16); (try clear c16b0); (try clear c18); (try clear c22); (try clear c23); (try clear c25); (try clear c25b0); (try clear c25b1); (try clear c26); (try clear c27); (try clear c28); (try clear c29); (try clear c31); (try clear c32); (try clear c35); (try clear hcz11_0); (try clear hcz11_1); (try clear hcz12_0); (try clear hcz12_1); (try clear hcz19_0); (try clear hcz19_1); (try clear hcz20_0); (try clear hcz20_1); (try clear hcz24_0); (try clear hcz24_1); (try clear hcz24_2); (try clear hcz24_3); (try clear hcz24_4); (try clear hcz28_0); (try clear hcz28_1); (try clear hcz28_2); (try clear hcz28_3); (try clear hcz28_4); (try clear hcz30_0); (try clear hcz30_1); (try clear hcz33_0); (try clear hcz33_1); (try clear hcz33_2); (try clear hcz33_3); (try clear hcz33_4); (try clear hcz9_0); (try clear hcz9_1); (try clear hfz11_0); (try clear hfz11_1); (try clear hfz12_0); (try clear hfz12_1); (try clear hfz19_0); (try clear hfz19_1); (try clear hfz20_0); (try clear hfz20_1); (try clear hfz24_0); (try clear hfz24_1); (try clear hfz24_2); (try clear hfz24_3); (try clear hfz24_4); (try clear hfz28_0); (try clear hfz28_1); (try clear hfz28_2); (try clear hfz28_3); (try clear hfz28_4); (try clear hfz30_0); (try clear hfz30_1); (try clear hfz33_0); (try clear hfz33_1); (try clear hfz33_2); (try clear hfz33_3); (try clear hfz33_4); (try clear hfz9_0); (try clear hfz9_1); (try clear hx103_0); (try clear hx103_1); (try clear hx103_2); (try clear hx103_3); (try clear hx103_4); (try clear p1); (try clear p10); (try clear p103); (try clear p2); (try clear q1); (try clear q10); (try clear q103)
                    obtain ⟨kq, HA, HJ33, BK101, BK102, BK104, HB⟩ := hcut
                    cases kq with
                    | zero => exact absurd HA.out (by simp [derivation_Valid.j3])
                    | succ kj33 =>
                      have H := HA.out
                      clear HA
                      simp only [derivation_Valid.j3] at H
                      have H' := Aside0.mk H
                      clear H
                      have hnb36 := NB102_101.out
                      have hnc36 := NB101_102.out
                      have hnb37 := NB102_104.out
                      have hnc37 := NB104_102.out
                      have hcz38_0 : wc.cell? ⟨gb102, 0, none⟩ = some (.int .i64 a2_0) := (blk_cell BK102.out 0).trans rfl
                      have hcz38_1 : wc.cell? ⟨gb102, 1, none⟩ = some (.slice A2_1 l2_1.length c2_1) := (blk_cell BK102.out 1).trans rfl
                      have hfz38_0 := blk_frozen BK102.out 0
                      have hfz38_1 := blk_frozen BK102.out 1
                      go_wp2
                      go_loopg [43] kj33 (fun kq v43 w' => ∃ (x43_5 : Int), v43 = .int .i64 x43_5 ∧ Aside0 (derivation_Valid.l0 kq l2_1 (l2_1.length : Int) x43_5 a0_0 l0_1 ((rd_T54 l0_1 a2_0).f0) ((rd_T54 l0_1 a2_0).f1) ((rd_T54 l0_1 a2_0).f2) ((rd_T54 l0_1 a2_0).f3.f0) ((rd_T54 l0_1 a2_0).f3.f1) = some r) ∧ Aside0 (kq ≤ kj33) ∧ Aside0 (w'.heap[gb101]? = some (.cells #[.int .i64 a0_0, (.slice (some ad103) l0_1.length c0_1)] 24 (0, 0))) ∧ Aside0 (w'.heap[gb102]? = some (.cells #[.int .i64 a2_0, (.slice A2_1 l2_1.length c2_1)] 27 (0, 0))) ∧ Aside0 (w'.heap[gb104]? = some (.cells #[.int .i64 ((rd_T54 l0_1 a2_0).f0), (.slice A103_1 ((rd_T54 l0_1 a2_0).f1).length c103_1), .int .i64 ((rd_T54 l0_1 a2_0).f2), .int .i64 ((rd_T54 l0_1 a2_0).f3.f0), .int .i64 ((rd_T54 l0_1 a2_0).f3.f1)] 54 (0, 0))) ∧ Aside0 (Below w.heap.size w w'))
                      case atStart => exact ⟨(0), (by first | rfl | (simp; done) | (simp [*]; done)), H', ⟨Nat.le_refl _⟩, ⟨by (with_reducible repeat (first | refine blk_drewN ?_ _ | refine blk_drew ?_ | refine blk_alloc ?_ _)); exact BK101.out⟩, ⟨by (with_reducible repeat (first | refine blk_drewN ?_ _ | refine blk_drew ?_ | refine blk_alloc ?_ _)); exact BK102.out⟩, ⟨by (with_reducible repeat (first | refine blk_drewN ?_ _ | refine blk_drew ?_ | refine blk_alloc ?_ _)); exact BK104.out⟩, ⟨bel HB⟩⟩
                      case round =>
                        clear H'
                        (try clear c1); (try clear p1); (try clear q1); (try clear hx1); (try clear c2); (try clear p2); (try clear c3); (try clear c7); (try clear c7b0); (try clear c8); (try clear c10); (try clear p10); (try clear q10); (try clear hx10); (try clear c14); (try clear c15); (try clear c15b0); (try clear c16); (try clear c16b0); (try clear c18); (try clear c22); (try clear c23); (try clear c25); (try clear c25b0); (try clear c25b1); (try clear c26); (try clear c27); (try clear c28); (try clear c29); (try clear c31); (try clear c32); (try clear c35); (try clear c36); (try clear c37); (try clear hcz11_0); (try clear hcz11_1); (try clear hcz12_0); (try clear hcz12_1); (try clear hcz19_0); (try clear hcz19_1); (try clear hcz20_0); (try clear hcz20_1); (try clear hcz24_0); (try clear hcz24_1); (try clear hcz24_2); (try clear hcz24_3); (try clear hcz24_4); (try clear hcz28_0); (try clear hcz28_1); (try clear hcz28_2); (try clear hcz28_3); (try clear hcz28_4); (try clear hcz30_0); (try clear hcz30_1); (try clear hcz33_0); (try clear hcz33_1); (try clear hcz33_2); (try clear hcz33_3); (try clear hcz33_4); (try clear hcz38_0); (try clear hcz38_1); (try clear hcz9_0); (try clear hcz9_1); (try clear hfz11_0); (try clear hfz11_1); (try clear hfz12_0); (try clear hfz12_1); (try clear hfz19_0); (try clear hfz19_1); (try clear hfz20_0); (try clear hfz20_1); (try clear hfz24_0); (try clear hfz24_1); (try clear hfz24_2); (try clear hfz24_3); (try clear hfz24_4); (try clear hfz28_0); (try clear hfz28_1); (try clear hfz28_2); (try clear hfz28_3); (try clear hfz28_4); (try clear hfz30_0); (try clear hfz30_1); (try clear hfz33_0); (try clear hfz33_1); (try clear hfz33_2); (try clear hfz33_3); (try clear hfz33_4); (try clear hfz38_0); (try clear hfz38_1); (try clear hfz9_0); (try clear hfz9_1); (try clear hx103_0); (try clear hx103_1); (try clear hx103_2); (try clear hx103_3); (try clear hx103_4); (try clear p1); (try clear p10); (try clear p103); (try clear p2); (try clear q1); (try clear q10); (try clear q103)
                        obtain ⟨x43_5, rfl, HA, HK5, BK101, BK102, BK104, HB⟩ := hrel
                        cases gk with
                        | zero => exact absurd HA.out (by simp [derivation_Valid.l0])
                        | succ k5 =>
                          have H := HA.out
                          clear HA
                          simp only [derivation_Valid.l0] at H
                          by_cases c39 : x43_5 < (l2_1.length : Int)
                          · rw [if_pos c39] at H
                            have c39b0 : decide (x43_5 < (l2_1.length : Int)) = true := decide_eq_true c39
                            clear c39
                            by_cases c40 : 0 ≤ x43_5
                            · rw [if_pos c40] at H
                              have c40b0 : decide (0 ≤ x43_5) = true := decide_eq_true c40
                              clear c40
                              by_cases c41 : x43_5 < (l2_1.length : Int)
                              · rw [if_pos c41] at H
                                have c41b0 : decide (x43_5 < (l2_1.length : Int)) = true := decide_eq_true c41
                                clear c41
                                by_cases c42 : x43_5 < (((rd_T54 l0_1 a2_0).f1).length : Int)
                                · rw [if_pos c42] at H
                                  have c42b0 : decide (x43_5 < (((rd_T54 l0_1 a2_0).f1).length : Int)) = true := decide_eq_true c42
                                  clear c42
                                  replace H := Option.bind_eq_some_iff.mp H
                                  obtain ⟨t108, A430, H⟩ := H
                                  replace H : (if t108 = true then (derivation_Valid.l0 k5 l2_1 (l2_1.length : Int) (wrap64 (x43_5 + 1)) a0_0 l0_1 ((rd_T54 l0_1 a2_0).f0) ((rd_T54 l0_1 a2_0).f1) ((rd_T54 l0_1 a2_0).f2) ((rd_T54 l0_1 a2_0).f3.f0) ((rd_T54 l0_1 a2_0).f3.f1)) else (some false)) = some r := H
                                  have A43 := Aside0.mk A430
                                  clear A430
                                  by_cases c44 : t108 = true
                                  · subst c44
                                    have H1 : (derivation_Valid.l0 k5 l2_1 (l2_1.length : Int) (wrap64 (x43_5 + 1)) a0_0 l0_1 ((rd_T54 l0_1 a2_0).f0) ((rd_T54 l0_1 a2_0).f1) ((rd_T54 l0_1 a2_0).f2) ((rd_T54 l0_1 a2_0).f3.f0) ((rd_T54 l0_1 a2_0).f3.f1)) = some r := by rw [if_pos rfl] at H; exact H
                                    clear H
                                    have H := H1
                                    clear H1
                                    have H' := Aside0.mk H
                                    clear H
                                    have p105 : 0 ≤ (x43_5 : Int) := of_decide_eq_true (by first | (with_reducible assumption) | assumption)
                                    have q105 : x43_5 < (l2_1.length : Int) := of_decide_eq_true (by first | (with_reducible assumption) | assumption)
                                    obtain ⟨ad105, A105_1, c105_1, e105, hx105_0, hx105_1, hl105_1, hi105_1⟩ := at_T27 HR2_1.out x43_5 p105 q105
                                    cases e105
                                    replace hx105_0 := (HB.out.cell (World.block_lt_of_cell? w _ hx105_0)).trans hx105_0
                                    replace hx105_1 := (HB.out.cell (World.block_lt_of_cell? w _ hx105_1)).trans hx105_1
                                    have HR105_1 := Aside0.mk hi105_1
                                    have HC105_1 := Aside0.mk hl105_1
                                    clear hi105_1 hl105_1
                                    replace p105 := eq_true p105
                                    replace q105 := eq_true q105
                                    try go_wp2_with (first | ((with_reducible refine gate_dst (N := 9) rfl ?_); (try (refine gate_guard (by rfl) ?_; dsimp only)); refine box_event ?hg (N := 9) ?hd (cs := #[.int .i64 0, .slice none 0 0]) (t := 27) ?hr ?_; (case hd => rfl); (case hg => rfl); (case hr => first | (go_simp; done) | (go_simp; rfl)); intro gb106 hg w45 hbox hb; have n0_ := Aside0.mk (blk_below (bk BK101) hb); have n1_ := Aside0.mk (blk_below (bk BK102) hb); have n2_ := Aside0.mk (blk_below (bk BK104) hb); have n3_ := Aside0.mk (below_step (bel HB) hb); have n4_ := Aside0.mk (hbox); have n5_ := Aside0.mk ((by rw [hg]; exact (below_size (bel HB)) : w.heap.size ≤ gb106)); have n6_ := Aside0.mk ((by rw [hg]; exact (below_size (bel HB)) : w.heap.size ≤ gb106)); have n7_ := Aside0.mk ((by rw [hg]; exact Nat.ne_of_lt (blk_lt (bk BK101)) : gb101 ≠ gb106)); have n8_ := Aside0.mk ((by rw [hg]; exact Nat.ne_of_gt (blk_lt (bk BK101)) : gb106 ≠ gb101)); have n9_ := Aside0.mk ((by rw [hg]; exact Nat.ne_of_lt (blk_lt (bk BK102)) : gb102 ≠ gb106)); have n10_ := Aside0.mk ((by rw [hg]; exact Nat.ne_of_gt (blk_lt (bk BK102)) : gb106 ≠ gb102)); have n11_ := Aside0.mk ((by rw [hg]; exact Nat.ne_of_lt (blk_lt (bk BK104)) : gb104 ≠ gb106)); have n12_ := Aside0.mk ((by rw [hg]; exact Nat.ne_of_gt (blk_lt (bk BK104)) : gb106 ≠ gb104)); clear BK101; clear BK102; clear BK104; clear HB; have BK101 := n0_; have BK102 := n1_; have BK104 := n2_; have HB := n3_; have BK106 := n4_; have GW106 := n5_; have GE106 := n6_; have NB101_106 := n7_; have NB106_101 := n8_; have NB102_106 := n9_; have NB106_102 := n10_; have NB104_106 := n11_; have NB106_104 := n12_; clear n0_ n1_ n2_ n3_ n4_ n5_ n6_ n7_ n8_ n9_ n10_ n11_ n12_; clear hb hbox hg; have hnb46 := NB106_101.out; have hnc46 := NB101_106.out; have hnb47 := NB106_102.out; have hnc47 := NB102_106.out; have hnb48 := NB106_104.out; have hnc48 := NB104_106.out; have hcz49_0 : w45.cell? ⟨gb106, 0, none⟩ = some (.int .i64 0) := (blk_cell BK106.out 0).trans rfl; have hcz49_1 : w45.cell? ⟨gb106, 1, none⟩ = some (.slice none 0 0) := (blk_cell BK106.out 1).trans rfl; have hfz49_0 := blk_frozen BK106.out 0; have hfz49_1 := blk_frozen BK106.out 1))
                                    have n0_ : Aside0 (((w45.setCell ⟨gb106, 0, none⟩ (.int .i64 ((rd_T27 l2_1 x43_5).f0))).setCell ⟨gb106, 1, none⟩ (.slice A105_1 ((rd_T27 l2_1 x43_5).f1).length c105_1)).heap[gb101]? = some (.cells #[.int .i64 a0_0, .slice (some ad103) l0_1.length c0_1] 24 (0, 0))) := ⟨by (with_reducible repeat (first | refine blk_drewN ?_ _ | refine blk_drew ?_ | refine blk_alloc ?_ _)); refine blk_far ?_ NB101_106.out _; (with_reducible repeat (first | refine blk_drewN ?_ _ | refine blk_drew ?_ | refine blk_alloc ?_ _)); refine blk_far ?_ NB101_106.out _; (with_reducible repeat (first | refine blk_drewN ?_ _ | refine blk_drew ?_ | refine blk_alloc ?_ _)); exact BK101.out⟩
                                    have n1_ : Aside0 (((w45.setCell ⟨gb106, 0, none⟩ (.int .i64 ((rd_T27 l2_1 x43_5).f0))).setCell ⟨gb106, 1, none⟩ (.slice A105_1 ((rd_T27 l2_1 x43_5).f1).length c105_1)).heap[gb102]? = some (.cells #[.int .i64 a2_0, .slice (some ad105) l2_1.length c2_1] 27 (0, 0))) := ⟨by (with_reducible repeat (first | refine blk_drewN ?_ _ | refine blk_drew ?_ | refine blk_alloc ?_ _)); refine blk_far ?_ NB102_106.out _; (with_reducible repeat (first | refine blk_drewN ?_ _ | refine blk_drew ?_ | refine blk_alloc ?_ _)); refine blk_far ?_ NB102_106.out _; (with_reducible repeat (first | refine blk_drewN ?_ _ | refine blk_drew ?_ | refine blk_alloc ?_ _)); exact BK102.out⟩
                                    have n2_ : Aside0 (((w45.setCell ⟨gb106, 0, none⟩ (.int .i64 ((rd_T27 l2_1 x43_5).f0))).setCell ⟨gb106, 1, none⟩ (.slice A105_1 ((rd_T27 l2_1 x43_5).f1).length c105_1)).heap[gb104]? = some (.cells #[.int .i64 ((rd_T54 l0_1 a2_0).f0), .slice A103_1 ((rd_T54 l0_1 a2_0).f1).length c103_1, .int .i64 ((rd_T54 l0_1 a2_0).f2), .int .i64 ((rd_T54 l0_1 a2_0).f3.f0), .int .i64 ((rd_T54 l0_1 a2_0).f3.f1)] 54 (0, 0))) := ⟨by (with_reducible repeat (first | refine blk_drewN ?_ _ | refine blk_drew ?_ | refine blk_alloc ?_ _)); refine blk_far ?_ NB104_106.out _; (with_reducible repeat (first | refine blk_drewN ?_ _ | refine blk_drew ?_ | refine blk_alloc ?_ _)); refine blk_far ?_ NB104_106.out _; (with_reducible repeat (first | refine blk_drewN ?_ _ | refine blk_drew ?_ | refine blk_alloc ?_ _)); exact BK104.out⟩
                                    have n3_ : Aside0 (((w45.setCell ⟨gb106, 0, none⟩ (.int .i64 ((rd_T27 l2_1 x43_5).f0))).setCell ⟨gb106, 1, none⟩ (.slice A105_1 ((rd_T27 l2_1 x43_5).f1).length c105_1)).heap[gb106]? = some (.cells #[.int .i64 ((rd_T27 l2_1 x43_5).f0), .slice A105_1 ((rd_T27 l2_1 x43_5).f1).length c105_1] 27 (0, 0))) := ⟨by (with_reducible repeat (first | refine blk_drewN ?_ _ | refine blk_drew ?_ | refine blk_alloc ?_ _)); refine blk_put (cs := #[.int .i64 ((rd_T27 l2_1 x43_5).f0), .slice none 0 0]) ?_ 1 _ rfl; (with_reducible repeat (first | refine blk_drewN ?_ _ | refine blk_drew ?_ | refine blk_alloc ?_ _)); refine blk_put (cs := #[.int .i64 0, .slice none 0 0]) ?_ 0 _ rfl; (with_reducible repeat (first | refine blk_drewN ?_ _ | refine blk_drew ?_ | refine blk_alloc ?_ _)); exact BK106.out⟩
                                    have n4_ : Aside0 (Below w.heap.size w ((w45.setCell ⟨gb106, 0, none⟩ (.int .i64 ((rd_T27 l2_1 x43_5).f0))).setCell ⟨gb106, 1, none⟩ (.slice A105_1 ((rd_T27 l2_1 x43_5).f1).length c105_1))) := ⟨bel HB⟩
                                    (try clear BK101)
                                    (try clear BK102)
                                    (try clear BK104)
                                    (try clear BK106)
                                    (try clear HB)
                                    generalize ((w45.setCell ⟨gb106, 0, none⟩ (.int .i64 ((rd_T27 l2_1 x43_5).f0))).setCell ⟨gb106, 1, none⟩ (.slice A105_1 ((rd_T27 l2_1 x43_5).f1).length c105_1)) = w50 at n0_ n1_ n2_ n3_ n4_ ⊢
                                    have BK101 := n0_
                                    have BK102 := n1_
                                    have BK104 := n2_
                                    have BK106 := n3_
                                    have HB := n4_
                                    clear n0_ n1_ n2_ n3_ n4_
                                    have n0_ := Aside0.mk (blk_drew BK101.out)
                                    have n1_ := Aside0.mk (blk_drew BK102.out)
                                    have n2_ := Aside0.mk (blk_drew BK104.out)
                                    have n3_ := Aside0.mk (blk_drew BK106.out)
                                    have n4_ := Aside0.mk (below_drew1 HB.out)
                                    clear BK101
                                    clear BK102
                                    clear BK104
                                    clear BK106
                                    clear HB
                                    have BK101 := n0_
                                    have BK102 := n1_
                                    have BK104 := n2_
                                    have BK106 := n3_
                                    have HB := n4_
                                    clear n0_ n1_ n2_ n3_ n4_
                                    have p107 : 0 ≤ (x43_5 : Int) := of_decide_eq_true (by first | (with_reducible assumption) | assumption)
                                    have q107 : x43_5 < (((rd_T54 l0_1 a2_0).f1).length : Int) := of_decide_eq_true (by first | (with_reducible assumption) | assumption)
                                    obtain ⟨ad107, e107, hx107_0⟩ := Kd.at_int HR103_1.out x43_5 p107 q107
                                    have hw107_0 := hx107_0
                                    cases e107
                                    replace hx107_0 := (HB.out.cell (World.block_lt_of_cell? w _ hx107_0)).trans hx107_0
                                    replace p107 := eq_true p107
                                    replace q107 := eq_true q107
                                    refine start_ (n := 9) (S := fun w' => w'.cell? ⟨gb101, 0, none⟩ = some (.int .i64 a0_0) ∧ w'.cell? ⟨gb101, 1, none⟩ = some (.slice (some ad103) l0_1.length c0_1) ∧ w'.cell? ⟨gb104, 0, none⟩ = some (.int .i64 ((rd_T54 l0_1 a2_0).f0)) ∧ w'.cell? ⟨gb104, 1, none⟩ = some (.slice (some ad107) ((rd_T54 l0_1 a2_0).f1).length c103_1) ∧ w'.cell? ⟨gb104, 2, none⟩ = some (.int .i64 ((rd_T54 l0_1 a2_0).f2)) ∧ w'.cell? ⟨gb104, 3, none⟩ = some (.int .i64 ((rd_T54 l0_1 a2_0).f3.f0)) ∧ w'.cell? ⟨gb104, 4, none⟩ = some (.int .i64 ((rd_T54 l0_1 a2_0).f3.f1)) ∧ w'.cell? ⟨gb106, 0, none⟩ = some (.int .i64 ((rd_T27 l2_1 x43_5).f0)) ∧ w'.cell? ⟨gb106, 1, none⟩ = some (.slice A105_1 ((rd_T27 l2_1 x43_5).f1).length c105_1) ∧ w'.cell? (ad107.add (x43_5).toNat) = some (.int .i64 (rd ((rd_T54 l0_1 a2_0).f1) x43_5))) (ds := []) #[false, false, false, false, false, false, false, false, false] (by kernel_rfl) rfl rfl ⟨(blk_cell BK101.out 0).trans rfl, (blk_cell BK101.out 1).trans rfl, (blk_cell BK104.out 0).trans rfl, (blk_cell BK104.out 1).trans rfl, (blk_cell BK104.out 2).trans rfl, (blk_cell BK104.out 3).trans rfl, (blk_cell BK104.out 4).trans rfl, (blk_cell BK106.out 0).trans rfl, (blk_cell BK106.out 1).trans rfl, ((HB.out.cell (World.block_lt_of_cell? w _ hw107_0)).trans hw107_0)⟩ (fun hHeld => ?_); refine with_tabW derivation_Valid.tab9 derivation_Valid.bits9 (fun HT_ HW_ => ?_)
                                    generalize w50.drew = w51 at BK101 BK102 BK104 BK106 HB hx107_0 hHeld ⊢
                                    refine bulk_ (fuel := 2) [(1, 49), (3, 51), (0, 48), (2, 50), (4, 52), (5, 53), (6, 54)] #[true, true, true, true, true, true, true, false, false] (bulkB_of HT_.out HW_.out _ _ _ (by kernel_rfl)) rfl (fun _ _ _ _ _ h => h) hHeld (a' := ?_) ?_ ?_
                                    rotate_left
                                    · iterate 7
                                        refine chain_cons (v := ?_) (a1 := ?_) rfl rfl (Or.inl ⟨by rfl, ?_⟩) ?_ ?_
                                        rotate_left 2
                                        · rintro w' ⟨s0, s1, s2, s3, s4, s5, s6, s7, s8, s9⟩
                                          go_simp
                                          with_reducible rfl
                                        · simp only [Act.put, List.setIfInBounds_toArray, List.set_cons_zero, List.set_cons_succ, i64_w, i32_w]
                                          rfl
                                      exact chain_nil
                                    refine one_ (i := 7) (N := some 55) #[true, true, true, true, true, true, true, true, false] rfl rfl (one_of HT_.out (by kernel_rfl)) (by decide) (fun K hK => ?_)
                                    refine goes_ Try.func28 (by kernel_rfl) rfl #[.agg #[.int .i64 a0_0, .slice (some ad103) l0_1.length c0_1], .int .i64 (rd ((rd_T54 l0_1 a2_0).f1) x43_5), .agg #[.int .i64 ((rd_T27 l2_1 x43_5).f0), .slice A105_1 ((rd_T27 l2_1 x43_5).f1).length c105_1]] (by rfl) rfl rfl (by (try simp only [List.map_toArray, List.map_cons, List.map_nil]); first | done | rfl | (simp only [List.length_drop, List.length_take]; rfl)) ?_
                                    with_reducible refine (ih k5 (by have := HJ3.out; have := HJ12.out; have := HJ16.out; have := HJ33.out; have := HK5.out; omega) a0_0 _ _ l0_1 (rd ((rd_T54 l0_1 a2_0).f1) x43_5) ((rd_T27 l2_1 x43_5).f0) _ _ ((rd_T27 l2_1 x43_5).f1) true _ ?side1 ?side2 ?side3 ?side4 A43.out).mono ?_
                                    (case side1 => repeat (first | exact (Kd.C_below HR0_1.out HB.out) | (with_reducible refine Kd.C_alloc ?_ _) | (with_reducible refine Kd.C_drewN ?_ _) | (with_reducible refine Kd.C_drew ?_)))
                                    (case side2 => exact HC0_1.out)
                                    (case side3 => repeat (first | exact (Kd.C_below HR105_1.out HB.out) | (with_reducible refine Kd.C_alloc ?_ _) | (with_reducible refine Kd.C_drewN ?_ _) | (with_reducible refine Kd.C_drew ?_)))
                                    (case side4 => exact HC105_1.out)
                                    rintro e w52 ⟨rfl, hb⟩
                                    refine ⟨_, rfl, ?_⟩
                                    have n0_ := Aside0.mk (blk_below (bk BK101) hb)
                                    have n1_ := Aside0.mk (blk_below (bk BK102) hb)
                                    have n2_ := Aside0.mk (blk_below (bk BK104) hb)
                                    have n3_ := Aside0.mk (blk_below (bk BK106) hb)
                                    have n4_ := Aside0.mk (below_step (bel HB) hb)
                                    clear BK101
                                    clear BK102
                                    clear BK104
                                    clear BK106
                                    clear HB
                                    have BK101 := n0_
                                    have BK102 := n1_
                                    have BK104 := n2_
                                    have BK106 := n3_
                                    have HB := n4_
                                    clear n0_ n1_ n2_ n3_ n4_
                                    (try clear hb)
                                    (try clear hb2)
                                    (try clear hk)
                                    (try clear hi)
                                    refine hK.out _ _ ⟨(blk_cell BK101.out 0).trans rfl, (blk_cell BK101.out 1).trans rfl, (blk_cell BK104.out 0).trans rfl, (blk_cell BK104.out 1).trans rfl, (blk_cell BK104.out 2).trans rfl, (blk_cell BK104.out 3).trans rfl, (blk_cell BK104.out 4).trans rfl, (blk_cell BK106.out 0).trans rfl, (blk_cell BK106.out 1).trans rfl, ((HB.out.cell (World.block_lt_of_cell? w _ hw107_0)).trans hw107_0)⟩ (fun hHeld => ?_)
                                    clear hK K
                                    refine norm_ (a' := ?_) ?_ ?_
                                    rotate_left
                                    · show Act.put _ (some 55) _ = _
                                      simp only [Act.put, List.setIfInBounds_toArray, List.set_cons_zero, List.set_cons_succ, i64_w, i32_w]
                                      rfl
                                    refine pure_ (i := 8) (N := some 56) (v := ?_) (a' := ?_) #[true, true, true, true, true, true, true, true, true] rfl rfl (any_of HT_.out (by kernel_rfl)) (fun _ _ _ h => h) (Or.inl ⟨by rfl, ?_⟩) ?_ ?_
                                    rotate_left
                                    · intro w'
                                      go_simp
                                      with_reducible rfl
                                    rotate_left
                                    · simp only [Act.put, List.setIfInBounds_toArray, List.set_cons_zero, List.set_cons_succ, i64_w, i32_w]
                                      rfl
                                    refine done_ (done_of HT_.out (by kernel_rfl)) ?_
                                    try go_wp2
                                    go_roundg k5
                                    case measure => have := HJ3.out; have := HJ12.out; have := HJ16.out; have := HJ33.out; have := HK5.out; omega
                                    case rel => exact ⟨(wrap64 (x43_5 + 1)), (by first | rfl | (simp; done) | (simp [*]; done)), H', ⟨by have := HJ3.out; have := HJ12.out; have := HJ16.out; have := HJ33.out; have := HK5.out; omega⟩, ⟨by (with_reducible repeat (first | refine blk_drewN ?_ _ | refine blk_drew ?_ | refine blk_alloc ?_ _)); exact BK101.out⟩, ⟨by (with_reducible repeat (first | refine blk_drewN ?_ _ | refine blk_drew ?_ | refine blk_alloc ?_ _)); exact BK102.out⟩, ⟨by (with_reducible repeat (first | refine blk_drewN ?_ _ | refine blk_drew ?_ | refine blk_alloc ?_ _)); exact BK104.out⟩, ⟨bel HB⟩⟩
                                  · replace c44 := Bool.eq_false_iff.mpr c44
                                    subst c44
                                    have H1 : (some false) = some r := by rw [if_neg (show ¬ (false = true) by decide)] at H; exact H
                                    clear H
                                    have H := H1
                                    clear H1
                                    obtain rfl := Option.some.inj H
                                    have p105 : 0 ≤ (x43_5 : Int) := of_decide_eq_true (by first | (with_reducible assumption) | assumption)
                                    have q105 : x43_5 < (l2_1.length : Int) := of_decide_eq_true (by first | (with_reducible assumption) | assumption)
                                    obtain ⟨ad105, A105_1, c105_1, e105, hx105_0, hx105_1, hl105_1, hi105_1⟩ := at_T27 HR2_1.out x43_5 p105 q105
                                    cases e105
                                    replace hx105_0 := (HB.out.cell (World.block_lt_of_cell? w _ hx105_0)).trans hx105_0
                                    replace hx105_1 := (HB.out.cell (World.block_lt_of_cell? w _ hx105_1)).trans hx105_1
                                    have HR105_1 := Aside0.mk hi105_1
                                    have HC105_1 := Aside0.mk hl105_1
                                    clear hi105_1 hl105_1
                                    replace p105 := eq_true p105
                                    replace q105 := eq_true q105
                                    try go_wp2_with (first | ((with_reducible refine gate_dst (N := 9) rfl ?_); (try (refine gate_guard (by rfl) ?_; dsimp only)); refine box_event ?hg (N := 9) ?hd (cs := #[.int .i64 0, .slice none 0 0]) (t := 27) ?hr ?_; (case hd => rfl); (case hg => rfl); (case hr => first | (go_simp; done) | (go_simp; rfl)); intro gb106 hg w53 hbox hb; have n0_ := Aside0.mk (blk_below (bk BK101) hb); have n1_ := Aside0.mk (blk_below (bk BK102) hb); have n2_ := Aside0.mk (blk_below (bk BK104) hb); have n3_ := Aside0.mk (below_step (bel HB) hb); have n4_ := Aside0.mk (hbox); have n5_ := Aside0.mk ((by rw [hg]; exact (below_size (bel HB)) : w.heap.size ≤ gb106)); have n6_ := Aside0.mk ((by rw [hg]; exact (below_size (bel HB)) : w.heap.size ≤ gb106)); have n7_ := Aside0.mk ((by rw [hg]; exact Nat.ne_of_lt (blk_lt (bk BK101)) : gb101 ≠ gb106)); have n8_ := Aside0.mk ((by rw [hg]; exact Nat.ne_of_gt (blk_lt (bk BK101)) : gb106 ≠ gb101)); have n9_ := Aside0.mk ((by rw [hg]; exact Nat.ne_of_lt (blk_lt (bk BK102)) : gb102 ≠ gb106)); have n10_ := Aside0.mk ((by rw [hg]; exact Nat.ne_of_gt (blk_lt (bk BK102)) : gb106 ≠ gb102)); have n11_ := Aside0.mk ((by rw [hg]; exact Nat.ne_of_lt (blk_lt (bk BK104)) : gb104 ≠ gb106)); have n12_ := Aside0.mk ((by rw [hg]; exact Nat.ne_of_gt (blk_lt (bk BK104)) : gb106 ≠ gb104)); clear BK101; clear BK102; clear BK104; clear HB; have BK101 := n0_; have BK102 := n1_; have BK104 := n2_; have HB := n3_; have BK106 := n4_; have GW106 := n5_; have GE106 := n6_; have NB101_106 := n7_; have NB106_101 := n8_; have NB102_106 := n9_; have NB106_102 := n10_; have NB104_106 := n11_; have NB106_104 := n12_; clear n0_ n1_ n2_ n3_ n4_ n5_ n6_ n7_ n8_ n9_ n10_ n11_ n12_; clear hb hbox hg; have hnb54 := NB106_101.out; have hnc54 := NB101_106.out; have hnb55 := NB106_102.out; have hnc55 := NB102_106.out; have hnb56 := NB106_104.out; have hnc56 := NB104_106.out; have hcz57_0 : w53.cell? ⟨gb106, 0, none⟩ = some (.int .i64 0) := (blk_cell BK106.out 0).trans rfl; have hcz57_1 : w53.cell? ⟨gb106, 1, none⟩ = some (.slice none 0 0) := (blk_cell BK106.out 1).trans rfl; have hfz57_0 := blk_frozen BK106.out 0; have hfz57_1 := blk_frozen BK106.out 1))
                                    have n0_ : Aside0 (((w53.setCell ⟨gb106, 0, none⟩ (.int .i64 ((rd_T27 l2_1 x43_5).f0))).setCell ⟨gb106, 1, none⟩ (.slice A105_1 ((rd_T27 l2_1 x43_5).f1).length c105_1)).heap[gb101]? = some (.cells #[.int .i64 a0_0, .slice (some ad103) l0_1.length c0_1] 24 (0, 0))) := ⟨by (with_reducible repeat (first | refine blk_drewN ?_ _ | refine blk_drew ?_ | refine blk_alloc ?_ _)); refine blk_far ?_ NB101_106.out _; (with_reducible repeat (first | refine blk_drewN ?_ _ | refine blk_drew ?_ | refine blk_alloc ?_ _)); refine blk_far ?_ NB101_106.out _; (with_reducible repeat (first | refine blk_drewN ?_ _ | refine blk_drew ?_ | refine blk_alloc ?_ _)); exact BK101.out⟩
                                    have n1_ : Aside0 (((w53.setCell ⟨gb106, 0, none⟩ (.int .i64 ((rd_T27 l2_1 x43_5).f0))).setCell ⟨gb106, 1, none⟩ (.slice A105_1 ((rd_T27 l2_1 x43_5).f1).length c105_1)).heap[gb102]? = some (.cells #[.int .i64 a2_0, .slice (some ad105) l2_1.length c2_1] 27 (0, 0))) := ⟨by (with_reducible repeat (first | refine blk_drewN ?_ _ | refine blk_drew ?_ | refine blk_alloc ?_ _)); refine blk_far ?_ NB102_106.out _; (with_reducible repeat (first | refine blk_drewN ?_ _ | refine blk_drew ?_ | refine blk_alloc ?_ _)); refine blk_far ?_ NB102_106.out _; (with_reducible repeat (first | refine blk_drewN ?_ _ | refine blk_drew ?_ | refine blk_alloc ?_ _)); exact BK102.out⟩
                                    have n2_ : Aside0 (((w53.setCell ⟨gb106, 0, none⟩ (.int .i64 ((rd_T27 l2_1 x43_5).f0))).setCell ⟨gb106, 1, none⟩ (.slice A105_1 ((rd_T27 l2_1 x43_5).f1).length c105_1)).heap[gb104]? = some (.cells #[.int .i64 ((rd_T54 l0_1 a2_0).f0), .slice A103_1 ((rd_T54 l0_1 a2_0).f1).length c103_1, .int .i64 ((rd_T54 l0_1 a2_0).f2), .int .i64 ((rd_T54 l0_1 a2_0).f3.f0), .int .i64 ((rd_T54 l0_1 a2_0).f3.f1)] 54 (0, 0))) := ⟨by (with_reducible repeat (first | refine blk_drewN ?_ _ | refine blk_drew ?_ | refine blk_alloc ?_ _)); refine blk_far ?_ NB104_106.out _; (with_reducible repeat (first | refine blk_drewN ?_ _ | refine blk_drew ?_ | refine blk_alloc ?_ _)); refine blk_far ?_ NB104_106.out _; (with_reducible repeat (first | refine blk_drewN ?_ _ | refine blk_drew ?_ | refine blk_alloc ?_ _)); exact BK104.out⟩
                                    have n3_ : Aside0 (((w53.setCell ⟨gb106, 0, none⟩ (.int .i64 ((rd_T27 l2_1 x43_5).f0))).setCell ⟨gb106, 1, none⟩ (.slice A105_1 ((rd_T27 l2_1 x43_5).f1).length c105_1)).heap[gb106]? = some (.cells #[.int .i64 ((rd_T27 l2_1 x43_5).f0), .slice A105_1 ((rd_T27 l2_1 x43_5).f1).length c105_1] 27 (0, 0))) := ⟨by (with_reducible repeat (first | refine blk_drewN ?_ _ | refine blk_drew ?_ | refine blk_alloc ?_ _)); refine blk_put (cs := #[.int .i64 ((rd_T27 l2_1 x43_5).f0), .slice none 0 0]) ?_ 1 _ rfl; (with_reducible repeat (first | refine blk_drewN ?_ _ | refine blk_drew ?_ | refine blk_alloc ?_ _)); refine blk_put (cs := #[.int .i64 0, .slice none 0 0]) ?_ 0 _ rfl; (with_reducible repeat (first | refine blk_drewN ?_ _ | refine blk_drew ?_ | refine blk_alloc ?_ _)); exact BK106.out⟩
                                    have n4_ : Aside0 (Below w.heap.size w ((w53.setCell ⟨gb106, 0, none⟩ (.int .i64 ((rd_T27 l2_1 x43_5).f0))).setCell ⟨gb106, 1, none⟩ (.slice A105_1 ((rd_T27 l2_1 x43_5).f1).length c105_1))) := ⟨bel HB⟩
                                    (try clear BK101)
                                    (try clear BK102)
                                    (try clear BK104)
                                    (try clear BK106)
                                    (try clear HB)
                                    generalize ((w53.setCell ⟨gb106, 0, none⟩ (.int .i64 ((rd_T27 l2_1 x43_5).f0))).setCell ⟨gb106, 1, none⟩ (.slice A105_1 ((rd_T27 l2_1 x43_5).f1).length c105_1)) = w58 at n0_ n1_ n2_ n3_ n4_ ⊢
                                    have BK101 := n0_
                                    have BK102 := n1_
                                    have BK104 := n2_
                                    have BK106 := n3_
                                    have HB := n4_
                                    clear n0_ n1_ n2_ n3_ n4_
                                    have n0_ := Aside0.mk (blk_drew BK101.out)
                                    have n1_ := Aside0.mk (blk_drew BK102.out)
                                    have n2_ := Aside0.mk (blk_drew BK104.out)
                                    have n3_ := Aside0.mk (blk_drew BK106.out)
                                    have n4_ := Aside0.mk (below_drew1 HB.out)
                                    clear BK101
                                    clear BK102
                                    clear BK104
                                    clear BK106
                                    clear HB
                                    have BK101 := n0_
                                    have BK102 := n1_
                                    have BK104 := n2_
                                    have BK106 := n3_
                                    have HB := n4_
                                    clear n0_ n1_ n2_ n3_ n4_
                                    have p107 : 0 ≤ (x43_5 : Int) := of_decide_eq_true (by first | (with_reducible assumption) | assumption)
                                    have q107 : x43_5 < (((rd_T54 l0_1 a2_0).f1).length : Int) := of_decide_eq_true (by first | (with_reducible assumption) | assumption)
                                    obtain ⟨ad107, e107, hx107_0⟩ := Kd.at_int HR103_1.out x43_5 p107 q107
                                    have hw107_0 := hx107_0
                                    cases e107
                                    replace hx107_0 := (HB.out.cell (World.block_lt_of_cell? w _ hx107_0)).trans hx107_0
                                    replace p107 := eq_true p107
                                    replace q107 := eq_true q107
                                    refine start_ (n := 9) (S := fun w' => w'.cell? ⟨gb101, 0, none⟩ = some (.int .i64 a0_0) ∧ w'.cell? ⟨gb101, 1, none⟩ = some (.slice (some ad103) l0_1.length c0_1) ∧ w'.cell? ⟨gb104, 0, none⟩ = some (.int .i64 ((rd_T54 l0_1 a2_0).f0)) ∧ w'.cell? ⟨gb104, 1, none⟩ = some (.slice (some ad107) ((rd_T54 l0_1 a2_0).f1).length c103_1) ∧ w'.cell? ⟨gb104, 2, none⟩ = some (.int .i64 ((rd_T54 l0_1 a2_0).f2)) ∧ w'.cell? ⟨gb104, 3, none⟩ = some (.int .i64 ((rd_T54 l0_1 a2_0).f3.f0)) ∧ w'.cell? ⟨gb104, 4, none⟩ = some (.int .i64 ((rd_T54 l0_1 a2_0).f3.f1)) ∧ w'.cell? ⟨gb106, 0, none⟩ = some (.int .i64 ((rd_T27 l2_1 x43_5).f0)) ∧ w'.cell? ⟨gb106, 1, none⟩ = some (.slice A105_1 ((rd_T27 l2_1 x43_5).f1).length c105_1) ∧ w'.cell? (ad107.add (x43_5).toNat) = some (.int .i64 (rd ((rd_T54 l0_1 a2_0).f1) x43_5))) (ds := []) #[false, false, false, false, false, false, false, false, false] (by kernel_rfl) rfl rfl ⟨(blk_cell BK101.out 0).trans rfl, (blk_cell BK101.out 1).trans rfl, (blk_cell BK104.out 0).trans rfl, (blk_cell BK104.out 1).trans rfl, (blk_cell BK104.out 2).trans rfl, (blk_cell BK104.out 3).trans rfl, (blk_cell BK104.out 4).trans rfl, (blk_cell BK106.out 0).trans rfl, (blk_cell BK106.out 1).trans rfl, ((HB.out.cell (World.block_lt_of_cell? w _ hw107_0)).trans hw107_0)⟩ (fun hHeld => ?_); refine with_tabW derivation_Valid.tab9 derivation_Valid.bits9 (fun HT_ HW_ => ?_)
                                    generalize w58.drew = w59 at BK101 BK102 BK104 BK106 HB hx107_0 hHeld ⊢
                                    refine bulk_ (fuel := 2) [(1, 49), (3, 51), (0, 48), (2, 50), (4, 52), (5, 53), (6, 54)] #[true, true, true, true, true, true, true, false, false] (bulkB_of HT_.out HW_.out _ _ _ (by kernel_rfl)) rfl (fun _ _ _ _ _ h => h) hHeld (a' := ?_) ?_ ?_
                                    rotate_left
                                    · iterate 7
                                        refine chain_cons (v := ?_) (a1 := ?_) rfl rfl (Or.inl ⟨by rfl, ?_⟩) ?_ ?_
                                        rotate_left 2
                                        · rintro w' ⟨s0, s1, s2, s3, s4, s5, s6, s7, s8, s9⟩
                                          go_simp
                                          with_reducible rfl
                                        · simp only [Act.put, List.setIfInBounds_toArray, List.set_cons_zero, List.set_cons_succ, i64_w, i32_w]
                                          rfl
                                      exact chain_nil
                                    refine one_ (i := 7) (N := some 55) #[true, true, true, true, true, true, true, true, false] rfl rfl (one_of HT_.out (by kernel_rfl)) (by decide) (fun K hK => ?_)
                                    refine goes_ Try.func28 (by kernel_rfl) rfl #[.agg #[.int .i64 a0_0, .slice (some ad103) l0_1.length c0_1], .int .i64 (rd ((rd_T54 l0_1 a2_0).f1) x43_5), .agg #[.int .i64 ((rd_T27 l2_1 x43_5).f0), .slice A105_1 ((rd_T27 l2_1 x43_5).f1).length c105_1]] (by rfl) rfl rfl (by (try simp only [List.map_toArray, List.map_cons, List.map_nil]); first | done | rfl | (simp only [List.length_drop, List.length_take]; rfl)) ?_
                                    with_reducible refine (ih k5 (by have := HJ3.out; have := HJ12.out; have := HJ16.out; have := HJ33.out; have := HK5.out; omega) a0_0 _ _ l0_1 (rd ((rd_T54 l0_1 a2_0).f1) x43_5) ((rd_T27 l2_1 x43_5).f0) _ _ ((rd_T27 l2_1 x43_5).f1) false _ ?side1 ?side2 ?side3 ?side4 A43.out).mono ?_
                                    (case side1 => repeat (first | exact (Kd.C_below HR0_1.out HB.out) | (with_reducible refine Kd.C_alloc ?_ _) | (with_reducible refine Kd.C_drewN ?_ _) | (with_reducible refine Kd.C_drew ?_)))
                                    (case side2 => exact HC0_1.out)
                                    (case side3 => repeat (first | exact (Kd.C_below HR105_1.out HB.out) | (with_reducible refine Kd.C_alloc ?_ _) | (with_reducible refine Kd.C_drewN ?_ _) | (with_reducible refine Kd.C_drew ?_)))
                                    (case side4 => exact HC105_1.out)
                                    rintro e w60 ⟨rfl, hb⟩
                                    refine ⟨_, rfl, ?_⟩
                                    have n0_ := Aside0.mk (blk_below (bk BK101) hb)
                                    have n1_ := Aside0.mk (blk_below (bk BK102) hb)
                                    have n2_ := Aside0.mk (blk_below (bk BK104) hb)
                                    have n3_ := Aside0.mk (blk_below (bk BK106) hb)
                                    have n4_ := Aside0.mk (below_step (bel HB) hb)
                                    clear BK101
                                    clear BK102
                                    clear BK104
                                    clear BK106
                                    clear HB
                                    have BK101 := n0_
                                    have BK102 := n1_
                                    have BK104 := n2_
                                    have BK106 := n3_
                                    have HB := n4_
                                    clear n0_ n1_ n2_ n3_ n4_
                                    (try clear hb)
                                    (try clear hb2)
                                    (try clear hk)
                                    (try clear hi)
                                    refine hK.out _ _ ⟨(blk_cell BK101.out 0).trans rfl, (blk_cell BK101.out 1).trans rfl, (blk_cell BK104.out 0).trans rfl, (blk_cell BK104.out 1).trans rfl, (blk_cell BK104.out 2).trans rfl, (blk_cell BK104.out 3).trans rfl, (blk_cell BK104.out 4).trans rfl, (blk_cell BK106.out 0).trans rfl, (blk_cell BK106.out 1).trans rfl, ((HB.out.cell (World.block_lt_of_cell? w _ hw107_0)).trans hw107_0)⟩ (fun hHeld => ?_)
                                    clear hK K
                                    refine norm_ (a' := ?_) ?_ ?_
                                    rotate_left
                                    · show Act.put _ (some 55) _ = _
                                      simp only [Act.put, List.setIfInBounds_toArray, List.set_cons_zero, List.set_cons_succ, i64_w, i32_w]
                                      rfl
                                    refine pure_ (i := 8) (N := some 56) (v := ?_) (a' := ?_) #[true, true, true, true, true, true, true, true, true] rfl rfl (any_of HT_.out (by kernel_rfl)) (fun _ _ _ h => h) (Or.inl ⟨by rfl, ?_⟩) ?_ ?_
                                    rotate_left
                                    · intro w'
                                      go_simp
                                      with_reducible rfl
                                    rotate_left
                                    · simp only [Act.put, List.setIfInBounds_toArray, List.set_cons_zero, List.set_cons_succ, i64_w, i32_w]
                                      rfl
                                    refine done_ (done_of HT_.out (by kernel_rfl)) ?_
                                    try go_wp2
                                    go_ret
                                    exact ⟨by first | rfl | (simp [errW_none, errW_some] <;> rfl) | (simp [*, errW_none, errW_some] <;> rfl), bel HB⟩
                                · rw [if_neg c42] at H
                                  exact absurd H (by simp)
                              · rw [if_neg c41] at H
                                exact absurd H (by simp)
                            · rw [if_neg c40] at H
                              exact absurd H (by simp)
                          · rw [if_neg c39] at H
                            have c39b0 : decide (x43_5 < (l2_1.length : Int)) = false := decide_eq_false c39
                            clear c39
                            obtain rfl := Option.some.inj H
                            go_wp2
                            go_ret
                            exact ⟨by first | rfl | (simp [errW_none, errW_some] <;> rfl) | (simp [*, errW_none, errW_some] <;> rfl), bel HB⟩
            · rw [if_neg c16] at H
              exact absurd H (by simp)
          · rw [if_neg c15] at H
            exact absurd H (by simp)

end Go.Proofs.Ytamimodkcbbpmaa.Pr
end
section
/- Printed by a program of this session (a turned print of the kit's) out of the translation: each Go function as a Lean function, and the proof that the machine's call answers what it says. Lean checks it. -/
namespace Go.Proofs.Ytamimodkcbbpmaa.Pr
open Go.RowKit Go.Proofs.YtamimodkcbbpmaaW.PrintWords Go.Proofs.YtamimodkcbbpmaaW.PrintLast Go.Proofs.YtamimodkcbbpmaaW.PrintMore Go.Proofs.YtamimodkcbbpmaaXW
attribute [local go_sem] max2_int min2_int max_two min_two max_three min_three max_four min_four   -- for this text's walks alone
set_option linter.unusedVariables false
set_option linter.unusedSimpArgs false

/-! ### emendatelaw30_example: function 74 -/
def emendatelaw30_example.f  : Option (Int × (List (S54))) := some (2, (([(⟨1, ([] : List Int), 2, (⟨0, 0⟩ : S52)⟩ : S54), (⟨1, ([] : List Int), 2, (⟨0, 0⟩ : S52)⟩ : S54), (⟨0, (([1, 1] : List Int)), 1, (⟨0, 0⟩ : S52)⟩ : S54)] : List (S54))))
set_option maxHeartbeats 8000000 in
set_option maxRecDepth 100000 in
theorem emendatelaw30_example.calls  (r1 : Int) (r2 : List (S54)) (w : World) (h : emendatelaw30_example.f  = some (r1, r2)) :
    Calls Try.prog 74 #[] w fun e w' => ∃ v1_ : Value, e = .returned (.agg #[.int .i64 r1, v1_]) ∧ Kd.N k54 54 w' w.heap.size (fun k_ => (w.heap.size ≤ k_)) v1_ r2 ∧ Below w.heap.size w w' := by
  have hu24 := Try.underlying24
  have hu54 := Try.underlying54
  have HB := Aside0.mk (Below.refl w.heap.size w)
  have H : (some (2, (([(⟨1, ([] : List Int), 2, (⟨0, 0⟩ : S52)⟩ : S54), (⟨1, ([] : List Int), 2, (⟨0, 0⟩ : S52)⟩ : S54), (⟨0, (([1, 1] : List Int)), 1, (⟨0, 0⟩ : S52)⟩ : S54)] : List (S54))))) = some (r1, r2) := h
  clear h
  obtain ⟨y177, hy177⟩ : ∃ y_ : List Int, y_ = (([1, 1] : List Int)) := ⟨_, rfl⟩
  replace H : (some (2, (([(⟨1, ([] : List Int), 2, (⟨0, 0⟩ : S52)⟩ : S54), (⟨1, ([] : List Int), 2, (⟨0, 0⟩ : S52)⟩ : S54), (⟨0, y177, 1, (⟨0, 0⟩ : S52)⟩ : S54)] : List (S54))))) = some (r1, r2) := by first | (rw [hy177]; with_reducible exact H) | (have H2_ := (Option.bind_some _ _).symm.trans H; rw [hy177]; with_reducible exact H2_) | (have H2_ := (Option.bind_some _ _).symm.trans H; with_reducible exact H2_) | with_reducible exact H | (rw [hy177]; exact H) | exact H
  have Ny177 := Aside0.mk hy177
  clear hy177
  obtain ⟨y180, hy180⟩ : ∃ y_ : List (S54), y_ = (([(⟨1, ([] : List Int), 2, (⟨0, 0⟩ : S52)⟩ : S54), (⟨1, ([] : List Int), 2, (⟨0, 0⟩ : S52)⟩ : S54), (⟨0, y177, 1, (⟨0, 0⟩ : S52)⟩ : S54)] : List (S54))) := ⟨_, rfl⟩
  replace H : (some (2, y180)) = some (r1, r2) := by first | (rw [hy180]; with_reducible exact H) | (have H2_ := (Option.bind_some _ _).symm.trans H; rw [hy180]; with_reducible exact H2_) | (have H2_ := (Option.bind_some _ _).symm.trans H; with_reducible exact H2_) | with_reducible exact H | (rw [hy180]; exact H) | exact H
  have Ny180 := Aside0.mk hy180
  clear hy180
  simp only [Option.some.injEq, Prod.mk.injEq] at H
  obtain ⟨rfl, rfl⟩ := H
  go_enter Try.func74, Try.ntmps74
  go_wp2_with (first | ((with_reducible refine gate_dst (N := 0) rfl ?_); refine box_event ?hg (N := 0) ?hd (cs := #[.int .i64 0, .slice none 0 0]) (t := 24) ?hr ?_; (case hd => rfl); (case hg => rfl); (case hr => first | (go_simp; done) | (go_simp; rfl)); intro gb176 hg w1 hbox hb; have n0_ := Aside0.mk (below_step (bel HB) hb); have n1_ := Aside0.mk (hbox); have n2_ := Aside0.mk ((by rw [hg]; exact (below_size (bel HB)) : w.heap.size ≤ gb176)); have n3_ := Aside0.mk ((by rw [hg]; exact (below_size (bel HB)) : w.heap.size ≤ gb176)); clear HB; have HB := n0_; have BK176 := n1_; have GW176 := n2_; have GE176 := n3_; clear n0_ n1_ n2_ n3_; clear hb hbox hg) | ((with_reducible refine gate_dst (N := 3) rfl ?_); refine Kd.R_lit (Kd.int .i64) _ 3 ?hg (N := 3) ?hd (xs := ([1, 1] : List Int)) (inner := [.int .i64 1, .int .i64 1]) (ok := fun _ => True) (okp := fun _ => True) ?hr ?hp (fun _ hk => hk) trivial (Below.refl _ _) (Nat.le_refl _) (by simp) ?_; (case hd => rfl); (case hg => rfl); (case hr => first | (go_simp; done) | (go_simp; rfl)); (case hp => exact (Reps.one (show Kd.M (Kd.int .i64) _ _ _ 1 [.int .i64 1] from rfl) (Reps.one (show Kd.M (Kd.int .i64) _ _ _ 1 [.int .i64 1] from rfl) (Reps.none _ _)))); intro v178 w2 ho3 hb hg_ hnew_; clear hg_ hnew_; (first | rw [← Ny177.out] at ho3 | (simp only [Int.reduceToNat] at ho3; rw [← Ny177.out] at ho3)); have n0_ := Aside0.mk (Kd.R_lower (Kd.R_newM (M := fun k_ => (w.heap.size ≤ k_)) ho3 (below_size (bel HB)) (fun k_ h_ => h_)) (below_size (bel HB))); have n1_ := Aside0.mk (blk_below (bk BK176) hb); have n2_ := Aside0.mk (below_step (bel HB) hb); clear BK176; clear HB; have HO179 := n0_; have BK176 := n1_; have HB := n2_; clear n0_ n1_ n2_; clear hb ho3; obtain ⟨Ao4, co4, eo4⟩ := Kd.R_slice HO179.out; subst eo4) | ((with_reducible refine gate_dst (N := 5) rfl ?_); refine Kd.N_lit k54 _ 54 ?hg (N' := 5) ?hd (xs := ([(⟨1, ([] : List Int), 2, (⟨0, 0⟩ : S52)⟩ : S54), (⟨1, ([] : List Int), 2, (⟨0, 0⟩ : S52)⟩ : S54), (⟨0, y177, 1, (⟨0, 0⟩ : S52)⟩ : S54)] : List (S54))) (inner := [.int .i64 1, .slice none 0 0, .int .i64 2, .int .i64 0, .int .i64 0, .int .i64 1, .slice none 0 0, .int .i64 2, .int .i64 0, .int .i64 0, .int .i64 0, .slice Ao4 y177.length co4, .int .i64 1, .int .i64 0, .int .i64 0]) (ok := (fun k_ => (w.heap.size ≤ k_) ∧ k_ ≠ gb176)) (okp := (fun k_ => (w.heap.size ≤ k_) ∧ k_ ≠ gb176)) ?hr ?hp (fun _ hk => hk) ((show ∀ k_, w2.heap.size ≤ k_ → (fun k_ => (w.heap.size ≤ k_) ∧ k_ ≠ gb176) k_ from fun k_ hk => ⟨(Nat.le_trans (below_size (bel HB)) hk), Kd.freshB (bk BK176) k_ hk⟩) _ (Nat.le_refl _)) (Below.refl _ _) (Nat.le_refl _) (by simp) ?_; (case hd => rfl); (case hg => rfl); (case hr => first | (go_simp; done) | (go_simp; rfl)); (case hp => exact (Reps.c5 (show Kd.FK k54 _ _ (⟨1, ([] : List Int), 2, (⟨0, 0⟩ : S52)⟩ : S54) [.int .i64 1, .slice none 0 0, .int .i64 2, .int .i64 0, .int .i64 0] from (k54_mkF _ _ (⟨1, ([] : List Int), 2, (⟨0, 0⟩ : S52)⟩ : S54) (Nat.le_refl _) (Kd.F_nil _ _ _))) (Reps.c5 (show Kd.FK k54 _ _ (⟨1, ([] : List Int), 2, (⟨0, 0⟩ : S52)⟩ : S54) [.int .i64 1, .slice none 0 0, .int .i64 2, .int .i64 0, .int .i64 0] from (k54_mkF _ _ (⟨1, ([] : List Int), 2, (⟨0, 0⟩ : S52)⟩ : S54) (Nat.le_refl _) (Kd.F_nil _ _ _))) (Reps.c5 (show Kd.FK k54 _ _ (⟨0, y177, 1, (⟨0, 0⟩ : S52)⟩ : S54) [.int .i64 0, .slice Ao4 y177.length co4, .int .i64 1, .int .i64 0, .int .i64 0] from (k54_mkF _ _ (⟨0, y177, 1, (⟨0, 0⟩ : S52)⟩ : S54) (Kd.R_reads' (Kd.R_mono (ok' := (fun k_ => (w.heap.size ≤ k_) ∧ k_ ≠ gb176)) (Kd.R_types (HO179.out) BK176.out (by decide)) (fun k_ hk => ⟨hk.1.1, hk.2⟩))).2.1 (Kd.R_F (Kd.R_mono (ok' := (fun k_ => (w.heap.size ≤ k_) ∧ k_ ≠ gb176)) (Kd.R_types (HO179.out) BK176.out (by decide)) (fun k_ hk => ⟨hk.1.1, hk.2⟩))))) (Reps.none _ _))))); intro v181 w5 ho6 hb hg_ hnew_; clear hg_ hnew_; (first | rw [← Ny180.out] at ho6 | (simp only [Int.reduceToNat] at ho6; rw [← Ny180.out] at ho6)); have n0_ := Aside0.mk (Kd.N_lower ho6 (below_size (bel HB))); have n1_ := Aside0.mk (blk_below (bk BK176) hb); have n2_ := Aside0.mk (below_step (bel HB) hb); clear BK176; clear HB; clear HO179; have HO182 := n0_; have BK176 := n1_; have HB := n2_; clear n0_ n1_ n2_; clear hb ho6; obtain ⟨Ao7, co7, eo7⟩ := Kd.N_slice HO182.out; subst eo7; have hcz8_0 : w5.cell? ⟨gb176, 0, none⟩ = some (.int .i64 0) := (blk_cell BK176.out 0).trans rfl; have hcz8_1 : w5.cell? ⟨gb176, 1, none⟩ = some (.slice none 0 0) := (blk_cell BK176.out 1).trans rfl; have hfz8_0 := blk_frozen BK176.out 0; have hfz8_1 := blk_frozen BK176.out 1))
  refine bodyPost_ret (results_cell_row rfl _ _ gb176 24 #[.int .i64 2, .slice Ao7 y180.length co7] (0, 0) _ rfl (by (with_reducible repeat (first | refine blk_drewN ?_ _ | refine blk_drew ?_ | refine blk_alloc ?_ _)); refine blk_put (cs := #[.int .i64 2, .slice none 0 0]) ?_ 1 _ rfl; (with_reducible repeat (first | refine blk_drewN ?_ _ | refine blk_drew ?_ | refine blk_alloc ?_ _)); refine blk_put (cs := #[.int .i64 0, .slice none 0 0]) ?_ 0 _ rfl; (with_reducible repeat (first | refine blk_drewN ?_ _ | refine blk_drew ?_ | refine blk_alloc ?_ _)); exact BK176.out) Try.underlying24 rfl (by kernel_rfl)) rfl ?_
  exact ⟨_, by first | rfl | (simp [errW_none, errW_some] <;> rfl) | (simp [*, errW_none, errW_some] <;> rfl), by (with_reducible repeat (first | apply Kd.N_alloc | apply Kd.N_drewN | apply Kd.N_drew)); exact Kd.N_mono (Kd.N_far (p := ⟨gb176, 1, none⟩) (Kd.N_far (p := ⟨gb176, 0, none⟩) (Kd.N_mono HO182.out (fun k_ hk => (⟨hk, hk.2⟩ : _ ∧ k_ ≠ gb176))) (fun _ hk => hk.2) (.int .i64 2)) (fun _ hk => hk.2) (.slice Ao7 y180.length co7)) (fun _ hk => hk.1.1), bel HB⟩

end Go.Proofs.Ytamimodkcbbpmaa.Pr
end
section
/- Printed by a program of this session (a turned print of the kit's) out of the translation: each Go function as a Lean function, and the proof that the machine's call answers what it says. Lean checks it. -/
namespace Go.Proofs.Ytamimodkcbbpmaa.Pr
open Go.RowKit Go.Proofs.YtamimodkcbbpmaaW.PrintWords Go.Proofs.YtamimodkcbbpmaaW.PrintLast Go.Proofs.YtamimodkcbbpmaaW.PrintMore Go.Proofs.YtamimodkcbbpmaaXW
attribute [local go_sem] max2_int min2_int max_two min_two max_three min_three max_four min_four   -- for this text's walks alone
set_option linter.unusedVariables false
set_option linter.unusedSimpArgs false

/-! ### emendateref30_Equal: function 33 -/
mutual
def emendateref30_Equal.j0 : Nat → Bool → Int → List (S27) → Int → List (S27) → Option (Bool)
  | 0, _, _, _, _, _ => none
  | k + 1, x19, x145000, x145001, x146000, x146001 => if x19 = true then (some false) else (emendateref30_Equal.j1 k x145000 x145001 x146000 x146001)
def emendateref30_Equal.j1 : Nat → Int → List (S27) → Int → List (S27) → Option (Bool)
  | 0, _, _, _, _ => none
  | k + 1, x145000, x145001, x146000, x146001 => emendateref30_Equal.l0 k 0 x145000 x145001 x146000 x146001
def emendateref30_Equal.l0 : Nat → Int → Int → List (S27) → Int → List (S27) → Option (Bool)
  | 0, _, _, _, _, _ => none
  | k + 1, x5, x145000, x145001, x146000, x146001 => if x5 < (x145001.length : Int) then (if 0 ≤ x5 then (if x5 < (x146001.length : Int) then ((emendateref30_Equal.f k ((rd_T27 x145001 x5).f0) ((rd_T27 x145001 x5).f1) ((rd_T27 x146001 x5).f0) ((rd_T27 x146001 x5).f1)).bind fun t148 => (if t148 = true then (emendateref30_Equal.l0 k (wrap64 (x5 + 1)) x145000 x145001 x146000 x146001) else (some false))) else (none)) else (none)) else (some true)
def emendateref30_Equal.f : Nat → Int → List (S27) → Int → List (S27) → Option (Bool)
  | 0, _, _, _, _ => none
  | k + 1, a0_0, l0_1, a1_0, l1_1 => if a0_0 = a1_0 then (emendateref30_Equal.j0 k ((l0_1.length : Int) != (l1_1.length : Int)) a0_0 l0_1 a1_0 l1_1) else (emendateref30_Equal.j0 k true a0_0 l0_1 a1_0 l1_1)
end
theorem emendateref30_Equal.mono_l : ∀ k, (∀ y0 y1 y2 y3, LeO (emendateref30_Equal.f k y0 y1 y2 y3) (emendateref30_Equal.f (k + 1) y0 y1 y2 y3)) ∧ (∀ y0 y1 y2 y3 y4, LeO (emendateref30_Equal.j0 k y0 y1 y2 y3 y4) (emendateref30_Equal.j0 (k + 1) y0 y1 y2 y3 y4)) ∧ (∀ y0 y1 y2 y3, LeO (emendateref30_Equal.j1 k y0 y1 y2 y3) (emendateref30_Equal.j1 (k + 1) y0 y1 y2 y3)) ∧ (∀ y0 y1 y2 y3 y4, LeO (emendateref30_Equal.l0 k y0 y1 y2 y3 y4) (emendateref30_Equal.l0 (k + 1) y0 y1 y2 y3 y4))
  | 0 => ⟨fun _ _ _ _ r h => by simp [emendateref30_Equal.f] at h, fun _ _ _ _ _ r h => by simp [emendateref30_Equal.j0] at h, fun _ _ _ _ r h => by simp [emendateref30_Equal.j1] at h, fun _ _ _ _ _ r h => by simp [emendateref30_Equal.l0] at h⟩
  | k + 1 => by
    obtain ⟨ih0, ih1, ih2, ih3⟩ := emendateref30_Equal.mono_l k
    refine ⟨?_, ?_, ?_, ?_⟩
    all_goals intros
    all_goals first | unfold emendateref30_Equal.f | unfold emendateref30_Equal.j0 | unfold emendateref30_Equal.j1 | unfold emendateref30_Equal.l0
    all_goals
      repeat' first
      | (with_reducible exact ih0 _ _ _ _)
      | (with_reducible exact ih1 _ _ _ _ _)
      | (with_reducible exact ih2 _ _ _ _)
      | (with_reducible exact ih3 _ _ _ _ _)
      | (with_reducible exact LeO.refl _)
      | (with_reducible exact LeO.none _)
      | (with_reducible refine LeO.ite ?_ ?_)
      | (with_reducible refine LeO.bind ?_ (fun _ => ?_))
      | exact ih0 _ _ _ _
      | exact ih1 _ _ _ _ _
      | exact ih2 _ _ _ _
      | exact ih3 _ _ _ _ _
      | exact LeO.none _
      | refine LeO.ite ?_ ?_
      | refine LeO.bind ?_ (fun _ => ?_)
theorem emendateref30_Equal.mono : ∀ a0 a1 a2 a3 k, LeO (emendateref30_Equal.f k a0 a1 a2 a3) (emendateref30_Equal.f (k + 1) a0 a1 a2 a3) := by
  intro a0 a1 a2 a3 k
  obtain ⟨ih0, ih1, ih2, ih3⟩ := emendateref30_Equal.mono_l k
  exact ih0 a0 a1 a2 a3
def emendateref30_Equal.T6 : Bool × List (List Nat × List Nat) := (true, [([], []), ([0], [0]), ([], []), ([1, 2], [1, 2]), ([3], [3]), ([], []), ([5], [5]), ([], []), ([6, 7], [6, 7]), ([8], [8]), ([4, 9], [4, 9]), ([10], [10])])
def emendateref30_Equal.B6 : List Nat := [0, 1, 0, 7, 15, 0, 32, 0, 224, 480, 1023, 2047]
theorem emendateref30_Equal.tab6 : rtab .any (opsOf Try.f33 6) = emendateref30_Equal.T6 := by kernel_rfl
theorem emendateref30_Equal.bits6 : waitsOk emendateref30_Equal.T6.2 emendateref30_Equal.B6 = true := by kernel_rfl
set_option maxHeartbeats 8000000 in
set_option maxRecDepth 100000 in
theorem emendateref30_Equal.calls (k : Nat) : ∀ (a0_0 : Int) (A0_1 : Option Addr) (c0_1 : Nat) (l0_1 : List (S27)) (a1_0 : Int) (A1_1 : Option Addr) (c1_1 : Nat) (l1_1 : List (S27)) (r : Bool) (w : World) (hr0_1 : Kd.C k27 w A0_1 l0_1.length l0_1) (hc0_1 : l0_1.length ≤ c0_1) (hr1_1 : Kd.C k27 w A1_1 l1_1.length l1_1) (hc1_1 : l1_1.length ≤ c1_1) (h : emendateref30_Equal.f k a0_0 l0_1 a1_0 l1_1 = some r),
    Calls Try.prog 33 #[.agg #[.int .i64 a0_0, .slice A0_1 l0_1.length c0_1], .agg #[.int .i64 a1_0, .slice A1_1 l1_1.length c1_1]] w fun e w' => e = .returned (.bool r) ∧ Below w.heap.size w w' := by
  induction k using Nat.strongRecOn with
  | _ k ih =>
  intro a0_0 A0_1 c0_1 l0_1 a1_0 A1_1 c1_1 l1_1 r w hr0_1 hc0_1 hr1_1 hc1_1 h
  cases k with
  | zero => exact absurd h (by simp [emendateref30_Equal.f])
  | succ k =>
  simp only [emendateref30_Equal.f] at h
  have hu27 := Try.underlying27
  have HR0_1 := Aside0.mk hr0_1
  have HC0_1 := Aside0.mk hc0_1
  clear hr0_1 hc0_1
  have HR1_1 := Aside0.mk hr1_1
  have HC1_1 := Aside0.mk hc1_1
  clear hr1_1 hc1_1
  have HB := Aside0.mk (Below.refl w.heap.size w)
  have H : (if a0_0 = a1_0 then (emendateref30_Equal.j0 k ((l0_1.length : Int) != (l1_1.length : Int)) a0_0 l0_1 a1_0 l1_1) else (emendateref30_Equal.j0 k true a0_0 l0_1 a1_0 l1_1)) = some r := h
  clear h
  have HC3 := Aside0.mk H
  clear H
  go_enter Try.func33, Try.ntmps33
  go_upto_region 1 with (first | ((with_reducible refine gate_dst (N := 2) rfl ?_); (try (refine gate_guard (by rfl) ?_; dsimp only)); refine box_event ?hg (N := 2) ?hd (cs := #[.int .i64 a0_0, .slice A0_1 l0_1.length c0_1]) (t := 27) ?hr ?_; (case hd => rfl); (case hg => rfl); (case hr => first | (go_simp; done) | (go_simp; rfl)); intro gb144 hg w4 hbox hb; have n0_ := Aside0.mk (below_step (bel HB) hb); have n1_ := Aside0.mk (hbox); have n2_ := Aside0.mk ((by rw [hg]; exact (below_size (bel HB)) : w.heap.size ≤ gb144)); have n3_ := Aside0.mk ((by rw [hg]; exact (below_size (bel HB)) : w.heap.size ≤ gb144)); clear HB; have HB := n0_; have BK144 := n1_; have GW144 := n2_; have GE144 := n3_; clear n0_ n1_ n2_ n3_; clear hb hbox hg) | ((with_reducible refine gate_dst (N := 3) rfl ?_); (try (refine gate_guard (by rfl) ?_; dsimp only)); refine box_event ?hg (N := 3) ?hd (cs := #[.int .i64 a1_0, .slice A1_1 l1_1.length c1_1]) (t := 27) ?hr ?_; (case hd => rfl); (case hg => rfl); (case hr => first | (go_simp; done) | (go_simp; rfl)); intro gb145 hg w5 hbox hb; have n0_ := Aside0.mk (blk_below (bk BK144) hb); have n1_ := Aside0.mk (below_step (bel HB) hb); have n2_ := Aside0.mk (hbox); have n3_ := Aside0.mk ((by rw [hg]; exact (below_size (bel HB)) : w.heap.size ≤ gb145)); have n4_ := Aside0.mk ((by rw [hg]; exact (below_size (bel HB)) : w.heap.size ≤ gb145)); have n5_ := Aside0.mk ((by rw [hg]; exact Nat.ne_of_lt (blk_lt (bk BK144)) : gb144 ≠ gb145)); have n6_ := Aside0.mk ((by rw [hg]; exact Nat.ne_of_gt (blk_lt (bk BK144)) : gb145 ≠ gb144)); clear BK144; clear HB; have BK144 := n0_; have HB := n1_; have BK145 := n2_; have GW145 := n3_; have GE145 := n4_; have NB144_145 := n5_; have NB145_144 := n6_; clear n0_ n1_ n2_ n3_ n4_ n5_ n6_; clear hb hbox hg))
  (try simp only [Act.put, List.setIfInBounds_toArray, List.set_cons_zero, List.set_cons_succ])
  go_cut [19] (fun v19 wc => ∃ (kq : Nat) (x19_2 : Bool), v19 = .bool x19_2 ∧ Aside0 (emendateref30_Equal.j0 kq x19_2 a0_0 l0_1 a1_0 l1_1 = some r) ∧ Aside0 (kq ≤ k) ∧ Aside0 (wc.heap[gb144]? = some (.cells #[.int .i64 a0_0, (.slice A0_1 l0_1.length c0_1)] 27 (0, 0))) ∧ Aside0 (wc.heap[gb145]? = some (.cells #[.int .i64 a1_0, (.slice A1_1 l1_1.length c1_1)] 27 (0, 0))) ∧ Aside0 (Below w.heap.size w wc))
  case first =>
    have H := HC3.out
    clear HC3
    by_cases c6 : a0_0 = a1_0
    · rw [if_pos c6] at H
      have c6b0 : (a0_0 == a1_0) = true := beq_iff_eq.mpr c6
      have c6b1 : (a0_0 != a1_0) = false := bne_eq_false_iff_eq.mpr c6
      clear c6
      (first | rw [c6b0] | (simp only [i64_w, i32_w]; rw [c6b0]) | skip)
      have H' := Aside0.mk H
      clear H
      have hnb7 := NB144_145.out
      have hnc7 := NB145_144.out
      have hcz8_0 : w5.cell? ⟨gb144, 0, none⟩ = some (.int .i64 a0_0) := (blk_cell BK144.out 0).trans rfl
      have hcz8_1 : w5.cell? ⟨gb144, 1, none⟩ = some (.slice A0_1 l0_1.length c0_1) := (blk_cell BK144.out 1).trans rfl
      have hfz8_0 := blk_frozen BK144.out 0
      have hfz8_1 := blk_frozen BK144.out 1
      have hcz9_0 : w5.cell? ⟨gb145, 0, none⟩ = some (.int .i64 a1_0) := (blk_cell BK145.out 0).trans rfl
      have hcz9_1 : w5.cell? ⟨gb145, 1, none⟩ = some (.slice A1_1 l1_1.length c1_1) := (blk_cell BK145.out 1).trans rfl
      have hfz9_0 := blk_frozen BK145.out 0
      have hfz9_1 := blk_frozen BK145.out 1
      go_wp2
      go_meet
      case rel => exact ⟨_, (((l0_1.length : Int) != (l1_1.length : Int))), (by first | rfl | (simp; done) | (simp [*]; done)), H', ⟨by first | omega | exact Nat.le_refl _⟩, ⟨by (with_reducible repeat (first | refine blk_drewN ?_ _ | refine blk_drew ?_ | refine blk_alloc ?_ _)); exact BK144.out⟩, ⟨by (with_reducible repeat (first | refine blk_drewN ?_ _ | refine blk_drew ?_ | refine blk_alloc ?_ _)); exact BK145.out⟩, ⟨bel HB⟩⟩
    · rw [if_neg c6] at H
      have c6b0 : (a0_0 == a1_0) = false := beq_eq_false_iff_ne.mpr c6
      have c6b1 : (a0_0 != a1_0) = true := bne_iff_ne.mpr c6
      (first | rw [c6b0] | (simp only [i64_w, i32_w]; rw [c6b0]) | skip)
      have H' := Aside0.mk H
      clear H
      have hnb10 := NB144_145.out
      have hnc10 := NB145_144.out
      have hcz11_0 : w5.cell? ⟨gb144, 0, none⟩ = some (.int .i64 a0_0) := (blk_cell BK144.out 0).trans rfl
      have hcz11_1 : w5.cell? ⟨gb144, 1, none⟩ = some (.slice A0_1 l0_1.length c0_1) := (blk_cell BK144.out 1).trans rfl
      have hfz11_0 := blk_frozen BK144.out 0
      have hfz11_1 := blk_frozen BK144.out 1
      have hcz12_0 : w5.cell? ⟨gb145, 0, none⟩ = some (.int .i64 a1_0) := (blk_cell BK145.out 0).trans rfl
      have hcz12_1 : w5.cell? ⟨gb145, 1, none⟩ = some (.slice A1_1 l1_1.length c1_1) := (blk_cell BK145.out 1).trans rfl
      have hfz12_0 := blk_frozen BK145.out 0
      have hfz12_1 := blk_frozen BK145.out 1
      go_wp2
      go_meet
      case rel => exact ⟨_, (true), (by first | rfl | (simp; done) | (simp [*]; done)), H', ⟨by first | omega | exact Nat.le_refl _⟩, ⟨by (with_reducible repeat (first | refine blk_drewN ?_ _ | refine blk_drew ?_ | refine blk_alloc ?_ _)); exact BK144.out⟩, ⟨by (with_reducible repeat (first | refine blk_drewN ?_ _ | refine blk_drew ?_ | refine blk_alloc ?_ _)); exact BK145.out⟩, ⟨bel HB⟩⟩
  case rest =>
    clear HC3
    (try clear c1); (try clear p2); (try clear c3); (try clear c6); (try clear c6b0); (try clear c6b1); (try clear c7); (try clear c10); (try clear hcz11_0); (try clear hcz11_1); (try clear hcz12_0); (try clear hcz12_1); (try clear hcz8_0); (try clear hcz8_1); (try clear hcz9_0); (try clear hcz9_1); (try clear hfz11_0); (try clear hfz11_1); (try clear hfz12_0); (try clear hfz12_1); (try clear hfz8_0); (try clear hfz8_1); (try clear hfz9_0); (try clear hfz9_1)
    obtain ⟨kq, x19_2, rfl, HA, HJ2, BK144, BK145, HB⟩ := hcut
    cases kq with
    | zero => exact absurd HA.out (by simp [emendateref30_Equal.j0])
    | succ kj2 =>
      have H := HA.out
      clear HA
      simp only [emendateref30_Equal.j0] at H
      have HC13 := Aside0.mk H
      clear H
      go_upto_if 19 with (fail)
      go_cut [] (fun wc => ∃ (kq : Nat), Aside0 (emendateref30_Equal.j1 kq a0_0 l0_1 a1_0 l1_1 = some r) ∧ Aside0 (kq ≤ kj2) ∧ Aside0 (wc.heap[gb144]? = some (.cells #[.int .i64 a0_0, (.slice A0_1 l0_1.length c0_1)] 27 (0, 0))) ∧ Aside0 (wc.heap[gb145]? = some (.cells #[.int .i64 a1_0, (.slice A1_1 l1_1.length c1_1)] 27 (0, 0))) ∧ Aside0 (Below w.heap.size w wc))
      case first =>
        have H := HC13.out
        clear HC13
        by_cases c14 : x19_2 = true
        · subst c14
          have H1 : (some false) = some r := by rw [if_pos rfl] at H; exact H
          clear H
          have H := H1
          clear H1
          obtain rfl := Option.some.inj H
          go_wp2
          go_ret
          exact ⟨by first | rfl | (simp [errW_none, errW_some] <;> rfl) | (simp [*, errW_none, errW_some] <;> rfl), bel HB⟩
        · replace c14 := Bool.eq_false_iff.mpr c14
          subst c14
          have H1 : (emendateref30_Equal.j1 kj2 a0_0 l0_1 a1_0 l1_1) = some r := by rw [if_neg (show ¬ (false = true) by decide)] at H; exact H
          clear H
          have H := H1
          clear H1
          have H' := Aside0.mk H
          clear H
          go_wp2
          go_meet
          case rel => exact ⟨_, H', ⟨by have := HJ2.out; first | omega | exact Nat.le_refl _⟩, ⟨by (with_reducible repeat (first | refine blk_drewN ?_ _ | refine blk_drew ?_ | refine blk_alloc ?_ _)); exact BK144.out⟩, ⟨by (with_reducible repeat (first | refine blk_drewN ?_ _ | refine blk_drew ?_ | refine blk_alloc ?_ _)); exact BK145.out⟩, ⟨bel HB⟩⟩
      case rest =>
        clear HC13
        (try clear c1); (try clear p2); (try clear c3); (try clear c6); (try clear c6b0); (try clear c6b1); (try clear c7); (try clear c10); (try clear c14); (try clear hcz11_0); (try clear hcz11_1); (try clear hcz12_0); (try clear hcz12_1); (try clear hcz8_0); (try clear hcz8_1); (try clear hcz9_0); (try clear hcz9_1); (try clear hfz11_0); (try clear hfz11_1); (try clear hfz12_0); (try clear hfz12_1); (try clear hfz8_0); (try clear hfz8_1); (try clear hfz9_0); (try clear hfz9_1); (try clear p2)
        obtain ⟨kq, HA, HJ12, BK144, BK145, HB⟩ := hcut
        cases kq with
        | zero => exact absurd HA.out (by simp [emendateref30_Equal.j1])
        | succ kj12 =>
          have H := HA.out
          clear HA
          simp only [emendateref30_Equal.j1] at H
          have H' := Aside0.mk H
          clear H
          go_wp2
          go_loopg [5] kj12 (fun kq v5 w' => ∃ (x5_3 : Int), v5 = .int .i64 x5_3 ∧ Aside0 (emendateref30_Equal.l0 kq x5_3 a0_0 l0_1 a1_0 l1_1 = some r) ∧ Aside0 (kq ≤ kj12) ∧ Aside0 (w'.heap[gb144]? = some (.cells #[.int .i64 a0_0, (.slice A0_1 l0_1.length c0_1)] 27 (0, 0))) ∧ Aside0 (w'.heap[gb145]? = some (.cells #[.int .i64 a1_0, (.slice A1_1 l1_1.length c1_1)] 27 (0, 0))) ∧ Aside0 (Below w.heap.size w w'))
          case atStart => exact ⟨(0), (by first | rfl | (simp; done) | (simp [*]; done)), H', ⟨Nat.le_refl _⟩, ⟨by (with_reducible repeat (first | refine blk_drewN ?_ _ | refine blk_drew ?_ | refine blk_alloc ?_ _)); exact BK144.out⟩, ⟨by (with_reducible repeat (first | refine blk_drewN ?_ _ | refine blk_drew ?_ | refine blk_alloc ?_ _)); exact BK145.out⟩, ⟨bel HB⟩⟩
          case round =>
            clear H'
            (try clear c1); (try clear p2); (try clear c3); (try clear c6); (try clear c6b0); (try clear c6b1); (try clear c7); (try clear c10); (try clear c14); (try clear hcz11_0); (try clear hcz11_1); (try clear hcz12_0); (try clear hcz12_1); (try clear hcz8_0); (try clear hcz8_1); (try clear hcz9_0); (try clear hcz9_1); (try clear hfz11_0); (try clear hfz11_1); (try clear hfz12_0); (try clear hfz12_1); (try clear hfz8_0); (try clear hfz8_1); (try clear hfz9_0); (try clear hfz9_1); (try clear p2)
            obtain ⟨x5_3, rfl, HA, HK3, BK144, BK145, HB⟩ := hrel
            cases gk with
            | zero => exact absurd HA.out (by simp [emendateref30_Equal.l0])
            | succ k3 =>
              have H := HA.out
              clear HA
              simp only [emendateref30_Equal.l0] at H
              by_cases c15 : x5_3 < (l0_1.length : Int)
              · rw [if_pos c15] at H
                have c15b0 : decide (x5_3 < (l0_1.length : Int)) = true := decide_eq_true c15
                clear c15
                by_cases c16 : 0 ≤ x5_3
                · rw [if_pos c16] at H
                  have c16b0 : decide (0 ≤ x5_3) = true := decide_eq_true c16
                  clear c16
                  by_cases c17 : x5_3 < (l1_1.length : Int)
                  · rw [if_pos c17] at H
                    have c17b0 : decide (x5_3 < (l1_1.length : Int)) = true := decide_eq_true c17
                    clear c17
                    replace H := Option.bind_eq_some_iff.mp H
                    obtain ⟨t148, A180, H⟩ := H
                    replace H : (if t148 = true then (emendateref30_Equal.l0 k3 (wrap64 (x5_3 + 1)) a0_0 l0_1 a1_0 l1_1) else (some false)) = some r := H
                    have A18 := Aside0.mk A180
                    clear A180
                    by_cases c19 : t148 = true
                    · subst c19
                      have H1 : (emendateref30_Equal.l0 k3 (wrap64 (x5_3 + 1)) a0_0 l0_1 a1_0 l1_1) = some r := by rw [if_pos rfl] at H; exact H
                      clear H
                      have H := H1
                      clear H1
                      have H' := Aside0.mk H
                      clear H
                      have hnb20 := NB144_145.out
                      have hnc20 := NB145_144.out
                      have hcz21_0 : wr.cell? ⟨gb144, 0, none⟩ = some (.int .i64 a0_0) := (blk_cell BK144.out 0).trans rfl
                      have hcz21_1 : wr.cell? ⟨gb144, 1, none⟩ = some (.slice A0_1 l0_1.length c0_1) := (blk_cell BK144.out 1).trans rfl
                      have hfz21_0 := blk_frozen BK144.out 0
                      have hfz21_1 := blk_frozen BK144.out 1
                      try go_wp2
                      have n0_ := Aside0.mk (blk_drew BK144.out)
                      have n1_ := Aside0.mk (blk_drew BK145.out)
                      have n2_ := Aside0.mk (below_drew1 HB.out)
                      clear BK144
                      clear BK145
                      clear HB
                      have BK144 := n0_
                      have BK145 := n1_
                      have HB := n2_
                      clear n0_ n1_ n2_
                      have p146 : 0 ≤ (x5_3 : Int) := of_decide_eq_true (by first | (with_reducible assumption) | assumption)
                      have q146 : x5_3 < (l0_1.length : Int) := of_decide_eq_true (by first | (with_reducible assumption) | assumption)
                      obtain ⟨ad146, A146_1, c146_1, e146, hx146_0, hx146_1, hl146_1, hi146_1⟩ := at_T27 HR0_1.out x5_3 p146 q146
                      have hw146_1 := hx146_1
                      have hw146_0 := hx146_0
                      cases e146
                      replace hx146_0 := (HB.out.cell (World.block_lt_of_cell? w _ hx146_0)).trans hx146_0
                      replace hx146_1 := (HB.out.cell (World.block_lt_of_cell? w _ hx146_1)).trans hx146_1
                      have HR146_1 := Aside0.mk hi146_1
                      have HC146_1 := Aside0.mk hl146_1
                      clear hi146_1 hl146_1
                      replace p146 := eq_true p146
                      replace q146 := eq_true q146
                      have p147 : 0 ≤ (x5_3 : Int) := of_decide_eq_true (by first | (with_reducible assumption) | assumption)
                      have q147 : x5_3 < (l1_1.length : Int) := of_decide_eq_true (by first | (with_reducible assumption) | assumption)
                      obtain ⟨ad147, A147_1, c147_1, e147, hx147_0, hx147_1, hl147_1, hi147_1⟩ := at_T27 HR1_1.out x5_3 p147 q147
                      have hw147_1 := hx147_1
                      have hw147_0 := hx147_0
                      cases e147
                      replace hx147_0 := (HB.out.cell (World.block_lt_of_cell? w _ hx147_0)).trans hx147_0
                      replace hx147_1 := (HB.out.cell (World.block_lt_of_cell? w _ hx147_1)).trans hx147_1
                      have HR147_1 := Aside0.mk hi147_1
                      have HC147_1 := Aside0.mk hl147_1
                      clear hi147_1 hl147_1
                      replace p147 := eq_true p147
                      replace q147 := eq_true q147
                      refine start_ (n := 12) (S := fun w' => w'.cell? ⟨gb144, 0, none⟩ = some (.int .i64 a0_0) ∧ w'.cell? ⟨gb144, 1, none⟩ = some (.slice (some ad146) l0_1.length c0_1) ∧ w'.cell? ⟨gb145, 0, none⟩ = some (.int .i64 a1_0) ∧ w'.cell? ⟨gb145, 1, none⟩ = some (.slice (some ad147) l1_1.length c1_1) ∧ w'.cell? (ad146.add ((x5_3).toNat * 2)) = some (.int .i64 ((rd_T27 l0_1 x5_3).f0)) ∧ w'.cell? ⟨(ad146.add ((x5_3).toNat * 2)).block, (ad146.add ((x5_3).toNat * 2)).off + 1, none⟩ = some (.slice A146_1 ((rd_T27 l0_1 x5_3).f1).length c146_1) ∧ w'.cell? (ad147.add ((x5_3).toNat * 2)) = some (.int .i64 ((rd_T27 l1_1 x5_3).f0)) ∧ w'.cell? ⟨(ad147.add ((x5_3).toNat * 2)).block, (ad147.add ((x5_3).toNat * 2)).off + 1, none⟩ = some (.slice A147_1 ((rd_T27 l1_1 x5_3).f1).length c147_1)) (ds := []) #[false, false, false, false, false, false, false, false, false, false, false, false] (by kernel_rfl) rfl rfl ⟨(blk_cell BK144.out 0).trans rfl, (blk_cell BK144.out 1).trans rfl, (blk_cell BK145.out 0).trans rfl, (blk_cell BK145.out 1).trans rfl, ((HB.out.cell (World.block_lt_of_cell? w _ hw146_0)).trans hw146_0), ((HB.out.cell (World.block_lt_of_cell? w _ hw146_1)).trans hw146_1), ((HB.out.cell (World.block_lt_of_cell? w _ hw147_0)).trans hw147_0), ((HB.out.cell (World.block_lt_of_cell? w _ hw147_1)).trans hw147_1)⟩ (fun hHeld => ?_); refine with_tabW emendateref30_Equal.tab6 emendateref30_Equal.bits6 (fun HT_ HW_ => ?_)
                      generalize wr.drew = w22 at BK144 BK145 HB HR146_1 HR147_1 hx146_0 hx146_1 hx147_0 hx147_1 hHeld ⊢
                      refine bulk_ (fuel := 2) [(0, 27), (2, 29), (5, 32), (7, 34), (1, 28), (3, 30), (4, 31), (6, 33), (8, 35), (9, 36)] #[true, true, true, true, true, true, true, true, true, true, false, false] (bulkB_of HT_.out HW_.out _ _ _ (by kernel_rfl)) rfl (fun _ _ _ _ _ h => h) hHeld (a' := ?_) ?_ ?_
                      rotate_left
                      · iterate 10
                          refine chain_cons (v := ?_) (a1 := ?_) rfl rfl (Or.inl ⟨by rfl, ?_⟩) ?_ ?_
                          rotate_left 2
                          · rintro w' ⟨s0, s1, s2, s3, s4, s5, s6, s7⟩
                            go_simp
                            with_reducible rfl
                          · simp only [Act.put, List.setIfInBounds_toArray, List.set_cons_zero, List.set_cons_succ, i64_w, i32_w]
                            rfl
                        exact chain_nil
                      refine one_ (i := 10) (N := some 37) #[true, true, true, true, true, true, true, true, true, true, true, false] rfl rfl (one_of HT_.out (by kernel_rfl)) (by decide) (fun K hK => ?_)
                      refine goes_ Try.func33 (by kernel_rfl) rfl #[.agg #[.int .i64 ((rd_T27 l0_1 x5_3).f0), .slice A146_1 ((rd_T27 l0_1 x5_3).f1).length c146_1], .agg #[.int .i64 ((rd_T27 l1_1 x5_3).f0), .slice A147_1 ((rd_T27 l1_1 x5_3).f1).length c147_1]] (by rfl) rfl rfl (by (try simp only [List.map_toArray, List.map_cons, List.map_nil]); first | done | rfl | (simp only [List.length_drop, List.length_take]; rfl)) ?_
                      with_reducible refine (ih k3 (by have := HJ2.out; have := HJ12.out; have := HK3.out; omega) ((rd_T27 l0_1 x5_3).f0) _ _ ((rd_T27 l0_1 x5_3).f1) ((rd_T27 l1_1 x5_3).f0) _ _ ((rd_T27 l1_1 x5_3).f1) true _ ?side1 ?side2 ?side3 ?side4 A18.out).mono ?_
                      (case side1 => repeat (first | exact (Kd.C_below HR146_1.out HB.out) | (with_reducible refine Kd.C_alloc ?_ _) | (with_reducible refine Kd.C_drewN ?_ _) | (with_reducible refine Kd.C_drew ?_)))
                      (case side2 => exact HC146_1.out)
                      (case side3 => repeat (first | exact (Kd.C_below HR147_1.out HB.out) | (with_reducible refine Kd.C_alloc ?_ _) | (with_reducible refine Kd.C_drewN ?_ _) | (with_reducible refine Kd.C_drew ?_)))
                      (case side4 => exact HC147_1.out)
                      rintro e w23 ⟨rfl, hb⟩
                      refine ⟨_, rfl, ?_⟩
                      have n0_ := Aside0.mk (blk_below (bk BK144) hb)
                      have n1_ := Aside0.mk (blk_below (bk BK145) hb)
                      have n2_ := Aside0.mk (below_step (bel HB) hb)
                      clear BK144
                      clear BK145
                      clear HB
                      have BK144 := n0_
                      have BK145 := n1_
                      have HB := n2_
                      clear n0_ n1_ n2_
                      (try clear hb)
                      (try clear hb2)
                      (try clear hk)
                      (try clear hi)
                      refine hK.out _ _ ⟨(blk_cell BK144.out 0).trans rfl, (blk_cell BK144.out 1).trans rfl, (blk_cell BK145.out 0).trans rfl, (blk_cell BK145.out 1).trans rfl, ((HB.out.cell (World.block_lt_of_cell? w _ hw146_0)).trans hw146_0), ((HB.out.cell (World.block_lt_of_cell? w _ hw146_1)).trans hw146_1), ((HB.out.cell (World.block_lt_of_cell? w _ hw147_0)).trans hw147_0), ((HB.out.cell (World.block_lt_of_cell? w _ hw147_1)).trans hw147_1)⟩ (fun hHeld => ?_)
                      clear hK K
                      refine norm_ (a' := ?_) ?_ ?_
                      rotate_left
                      · show Act.put _ (some 37) _ = _
                        simp only [Act.put, List.setIfInBounds_toArray, List.set_cons_zero, List.set_cons_succ, i64_w, i32_w]
                        rfl
                      refine pure_ (i := 11) (N := some 38) (v := ?_) (a' := ?_) #[true, true, true, true, true, true, true, true, true, true, true, true] rfl rfl (any_of HT_.out (by kernel_rfl)) (fun _ _ _ h => h) (Or.inl ⟨by rfl, ?_⟩) ?_ ?_
                      rotate_left
                      · intro w'
                        go_simp
                        with_reducible rfl
                      rotate_left
                      · simp only [Act.put, List.setIfInBounds_toArray, List.set_cons_zero, List.set_cons_succ, i64_w, i32_w]
                        rfl
                      refine done_ (done_of HT_.out (by kernel_rfl)) ?_
                      try go_wp2
                      go_roundg k3
                      case measure => have := HJ2.out; have := HJ12.out; have := HK3.out; omega
                      case rel => exact ⟨(wrap64 (x5_3 + 1)), (by first | rfl | (simp; done) | (simp [*]; done)), H', ⟨by have := HJ2.out; have := HJ12.out; have := HK3.out; omega⟩, ⟨by (with_reducible repeat (first | refine blk_drewN ?_ _ | refine blk_drew ?_ | refine blk_alloc ?_ _)); exact BK144.out⟩, ⟨by (with_reducible repeat (first | refine blk_drewN ?_ _ | refine blk_drew ?_ | refine blk_alloc ?_ _)); exact BK145.out⟩, ⟨bel HB⟩⟩
                    · replace c19 := Bool.eq_false_iff.mpr c19
                      subst c19
                      have H1 : (some false) = some r := by rw [if_neg (show ¬ (false = true) by decide)] at H; exact H
                      clear H
                      have H := H1
                      clear H1
                      obtain rfl := Option.some.inj H
                      have hnb24 := NB144_145.out
                      have hnc24 := NB145_144.out
                      have hcz25_0 : wr.cell? ⟨gb144, 0, none⟩ = some (.int .i64 a0_0) := (blk_cell BK144.out 0).trans rfl
                      have hcz25_1 : wr.cell? ⟨gb144, 1, none⟩ = some (.slice A0_1 l0_1.length c0_1) := (blk_cell BK144.out 1).trans rfl
                      have hfz25_0 := blk_frozen BK144.out 0
                      have hfz25_1 := blk_frozen BK144.out 1
                      try go_wp2
                      have n0_ := Aside0.mk (blk_drew BK144.out)
                      have n1_ := Aside0.mk (blk_drew BK145.out)
                      have n2_ := Aside0.mk (below_drew1 HB.out)
                      clear BK144
                      clear BK145
                      clear HB
                      have BK144 := n0_
                      have BK145 := n1_
                      have HB := n2_
                      clear n0_ n1_ n2_
                      have p146 : 0 ≤ (x5_3 : Int) := of_decide_eq_true (by first | (with_reducible assumption) | assumption)
                      have q146 : x5_3 < (l0_1.length : Int) := of_decide_eq_true (by first | (with_reducible assumption) | assumption)
                      obtain ⟨ad146, A146_1, c146_1, e146, hx146_0, hx146_1, hl146_1, hi146_1⟩ := at_T27 HR0_1.out x5_3 p146 q146
                      have hw146_1 := hx146_1
                      have hw146_0 := hx146_0
                      cases e146
                      replace hx146_0 := (HB.out.cell (World.block_lt_of_cell? w _ hx146_0)).trans hx146_0
                      replace hx146_1 := (HB.out.cell (World.block_lt_of_cell? w _ hx146_1)).trans hx146_1
                      have HR146_1 := Aside0.mk hi146_1
                      have HC146_1 := Aside0.mk hl146_1
                      clear hi146_1 hl146_1
                      replace p146 := eq_true p146
                      replace q146 := eq_true q146
                      have p147 : 0 ≤ (x5_3 : Int) := of_decide_eq_true (by first | (with_reducible assumption) | assumption)
                      have q147 : x5_3 < (l1_1.length : Int) := of_decide_eq_true (by first | (with_reducible assumption) | assumption)
                      obtain ⟨ad147, A147_1, c147_1, e147, hx147_0, hx147_1, hl147_1, hi147_1⟩ := at_T27 HR1_1.out x5_3 p147 q147
                      have hw147_1 := hx147_1
                      have hw147_0 := hx147_0
                      cases e147
                      replace hx147_0 := (HB.out.cell (World.block_lt_of_cell? w _ hx147_0)).trans hx147_0
                      replace hx147_1 := (HB.out.cell (World.block_lt_of_cell? w _ hx147_1)).trans hx147_1
                      have HR147_1 := Aside0.mk hi147_1
                      have HC147_1 := Aside0.mk hl147_1
                      clear hi147_1 hl147_1
                      replace p147 := eq_true p147
                      replace q147 := eq_true q147
                      refine start_ (n := 12) (S := fun w' => w'.cell? ⟨gb144, 0, none⟩ = some (.int .i64 a0_0) ∧ w'.cell? ⟨gb144, 1, none⟩ = some (.slice (some ad146) l0_1.length c0_1) ∧ w'.cell? ⟨gb145, 0, none⟩ = some (.int .i64 a1_0) ∧ w'.cell? ⟨gb145, 1, none⟩ = some (.slice (some ad147) l1_1.length c1_1) ∧ w'.cell? (ad146.add ((x5_3).toNat * 2)) = some (.int .i64 ((rd_T27 l0_1 x5_3).f0)) ∧ w'.cell? ⟨(ad146.add ((x5_3).toNat * 2)).block, (ad146.add ((x5_3).toNat * 2)).off + 1, none⟩ = some (.slice A146_1 ((rd_T27 l0_1 x5_3).f1).length c146_1) ∧ w'.cell? (ad147.add ((x5_3).toNat * 2)) = some (.int .i64 ((rd_T27 l1_1 x5_3).f0)) ∧ w'.cell? ⟨(ad147.add ((x5_3).toNat * 2)).block, (ad147.add ((x5_3).toNat * 2)).off + 1, none⟩ = some (.slice A147_1 ((rd_T27 l1_1 x5_3).f1).length c147_1)) (ds := []) #[false, false, false, false, false, false, false, false, false, false, false, false] (by kernel_rfl) rfl rfl ⟨(blk_cell BK144.out 0).trans rfl, (blk_cell BK144.out 1).trans rfl, (blk_cell BK145.out 0).trans rfl, (blk_cell BK145.out 1).trans rfl, ((HB.out.cell (World.block_lt_of_cell? w _ hw146_0)).trans hw146_0), ((HB.out.cell (World.block_lt_of_cell? w _ hw146_1)).trans hw146_1), ((HB.out.cell (World.block_lt_of_cell? w _ hw147_0)).trans hw147_0), ((HB.out.cell (World.block_lt_of_cell? w _ hw147_1)).trans hw147_1)⟩ (fun hHeld => ?_); refine with_tabW emendateref30_Equal.tab6 emendateref30_Equal.bits6 (fun HT_ HW_ => ?_)
                      generalize wr.drew = w26 at BK144 BK145 HB HR146_1 HR147_1 hx146_0 hx146_1 hx147_0 hx147_1 hHeld ⊢
                      refine bulk_ (fuel := 2) [(0, 27), (2, 29), (5, 32), (7, 34), (1, 28), (3, 30), (4, 31), (6, 33), (8, 35), (9, 36)] #[true, true, true, true, true, true, true, true, true, true, false, false] (bulkB_of HT_.out HW_.out _ _ _ (by kernel_rfl)) rfl (fun _ _ _ _ _ h => h) hHeld (a' := ?_) ?_ ?_
                      rotate_left
                      · iterate 10
                          refine chain_cons (v := ?_) (a1 := ?_) rfl rfl (Or.inl ⟨by rfl, ?_⟩) ?_ ?_
                          rotate_left 2
                          · rintro w' ⟨s0, s1, s2, s3, s4, s5, s6, s7⟩
                            go_simp
                            with_reducible rfl
                          · simp only [Act.put, List.setIfInBounds_toArray, List.set_cons_zero, List.set_cons_succ, i64_w, i32_w]
                            rfl
                        exact chain_nil
                      refine one_ (i := 10) (N := some 37) #[true, true, true, true, true, true, true, true, true, true, true, false] rfl rfl (one_of HT_.out (by kernel_rfl)) (by decide) (fun K hK => ?_)
                      refine goes_ Try.func33 (by kernel_rfl) rfl #[.agg #[.int .i64 ((rd_T27 l0_1 x5_3).f0), .slice A146_1 ((rd_T27 l0_1 x5_3).f1).length c146_1], .agg #[.int .i64 ((rd_T27 l1_1 x5_3).f0), .slice A147_1 ((rd_T27 l1_1 x5_3).f1).length c147_1]] (by rfl) rfl rfl (by (try simp only [List.map_toArray, List.map_cons, List.map_nil]); first | done | rfl | (simp only [List.length_drop, List.length_take]; rfl)) ?_
                      with_reducible refine (ih k3 (by have := HJ2.out; have := HJ12.out; have := HK3.out; omega) ((rd_T27 l0_1 x5_3).f0) _ _ ((rd_T27 l0_1 x5_3).f1) ((rd_T27 l1_1 x5_3).f0) _ _ ((rd_T27 l1_1 x5_3).f1) false _ ?side1 ?side2 ?side3 ?side4 A18.out).mono ?_
                      (case side1 => repeat (first | exact (Kd.C_below HR146_1.out HB.out) | (with_reducible refine Kd.C_alloc ?_ _) | (with_reducible refine Kd.C_drewN ?_ _) | (with_reducible refine Kd.C_drew ?_)))
                      (case side2 => exact HC146_1.out)
                      (case side3 => repeat (first | exact (Kd.C_below HR147_1.out HB.out) | (with_reducible refine Kd.C_alloc ?_ _) | (with_reducible refine Kd.C_drewN ?_ _) | (with_reducible refine Kd.C_drew ?_)))
                      (case side4 => exact HC147_1.out)
                      rintro e w27 ⟨rfl, hb⟩
                      refine ⟨_, rfl, ?_⟩
                      have n0_ := Aside0.mk (blk_below (bk BK144) hb)
                      have n1_ := Aside0.mk (blk_below (bk BK145) hb)
                      have n2_ := Aside0.mk (below_step (bel HB) hb)
                      clear BK144
                      clear BK145
                      clear HB
                      have BK144 := n0_
                      have BK145 := n1_
                      have HB := n2_
                      clear n0_ n1_ n2_
                      (try clear hb)
                      (try clear hb2)
                      (try clear hk)
                      (try clear hi)
                      refine hK.out _ _ ⟨(blk_cell BK144.out 0).trans rfl, (blk_cell BK144.out 1).trans rfl, (blk_cell BK145.out 0).trans rfl, (blk_cell BK145.out 1).trans rfl, ((HB.out.cell (World.block_lt_of_cell? w _ hw146_0)).trans hw146_0), ((HB.out.cell (World.block_lt_of_cell? w _ hw146_1)).trans hw146_1), ((HB.out.cell (World.block_lt_of_cell? w _ hw147_0)).trans hw147_0), ((HB.out.cell (World.block_lt_of_cell? w _ hw147_1)).trans hw147_1)⟩ (fun hHeld => ?_)
                      clear hK K
                      refine norm_ (a' := ?_) ?_ ?_
                      rotate_left
                      · show Act.put _ (some 37) _ = _
                        simp only [Act.put, List.setIfInBounds_toArray, List.set_cons_zero, List.set_cons_succ, i64_w, i32_w]
                        rfl
                      refine pure_ (i := 11) (N := some 38) (v := ?_) (a' := ?_) #[true, true, true, true, true, true, true, true, true, true, true, true] rfl rfl (any_of HT_.out (by kernel_rfl)) (fun _ _ _ h => h) (Or.inl ⟨by rfl, ?_⟩) ?_ ?_
                      rotate_left
                      · intro w'
                        go_simp
                        with_reducible rfl
                      rotate_left
                      · simp only [Act.put, List.setIfInBounds_toArray, List.set_cons_zero, List.set_cons_succ, i64_w, i32_w]
                        rfl
                      refine done_ (done_of HT_.out (by kernel_rfl)) ?_
                      try go_wp2
                      go_ret
                      exact ⟨by first | rfl | (simp [errW_none, errW_some] <;> rfl) | (simp [*, errW_none, errW_some] <;> rfl), bel HB⟩
                  · rw [if_neg c17] at H
                    exact absurd H (by simp)
                · rw [if_neg c16] at H
                  exact absurd H (by simp)
              · rw [if_neg c15] at H
                have c15b0 : decide (x5_3 < (l0_1.length : Int)) = false := decide_eq_false c15
                clear c15
                obtain rfl := Option.some.inj H
                have hnb28 := NB144_145.out
                have hnc28 := NB145_144.out
                have hcz29_0 : wr.cell? ⟨gb144, 0, none⟩ = some (.int .i64 a0_0) := (blk_cell BK144.out 0).trans rfl
                have hcz29_1 : wr.cell? ⟨gb144, 1, none⟩ = some (.slice A0_1 l0_1.length c0_1) := (blk_cell BK144.out 1).trans rfl
                have hfz29_0 := blk_frozen BK144.out 0
                have hfz29_1 := blk_frozen BK144.out 1
                go_wp2
                go_ret
                exact ⟨by first | rfl | (simp [errW_none, errW_some] <;> rfl) | (simp [*, errW_none, errW_some] <;> rfl), bel HB⟩

-- NOT PRINTED: function 102 (knuth_candidate)

-- NOT PRINTED: function 107 (knuth_solver_combine)

-- NOT PRINTED: function 111 (knuth_candidate_swap)

-- NOT PRINTED: function 117 (knuth_candidate_before)

-- NOT PRINTED: function 116 (knuth_candidate_up)

-- NOT PRINTED: function 110 (knuth_candidate_Push)

-- NOT PRINTED: function 104 (knuth_solver_offer)

-- NOT PRINTED: function 112 (knuth_candidate_down)

-- NOT PRINTED: function 105 (knuth_candidate_Pop)

-- NOT PRINTED: function 106 (knuth_solver_settle)

end Go.Proofs.Ytamimodkcbbpmaa.Pr
end
section
/- emendatelaw30.awake: the document's example holds. -/
namespace Go.Proofs.Ytamimodkcbbpmaa.Pr
open Go.RowKit Go.Proofs.YtamimodkcbbpmaaW.PrintWords Go.Proofs.YtamimodkcbbpmaaW.PrintLast Go.Proofs.YtamimodkcbbpmaaXW
set_option linter.unusedVariables false
set_option linter.unusedSimpArgs false

def exE : List S54 := [⟨1, [], 2, ⟨0, 0⟩⟩, ⟨1, [], 2, ⟨0, 0⟩⟩, ⟨0, [1, 1], 1, ⟨0, 0⟩⟩]
abbrev exX : List S27 := [⟨1, []⟩, ⟨0, []⟩]
abbrev exY : List S27 := [⟨0, []⟩, ⟨0, []⟩]
theorem ex_f : emendatelaw30_example.f = some (2, exE) := by kernel_rfl
theorem ex_best : derivation_Best.f 40 2 exE 0 = some (2, exY, 0) := by kernel_rfl
theorem ex_eq : emendateref30_Equal.f 40 2 exY 2 exY = some true := by kernel_rfl
theorem ex_valid0 : derivation_Valid.f 40 2 exE 0 2 exX = some true := by kernel_rfl
theorem ex_valid1 : derivation_Valid.f 40 2 exE 1 2 exX = some false := by kernel_rfl
theorem ex_value : derivation_Value.f 40 2 exE 2 exY = some (5, 3) := by kernel_rfl
theorem ex_cmp1 : derivation_Compare.f 40 2 exE 2 exY 2 exX = some (-1) := by kernel_rfl
theorem ex_cmp0 : derivation_Compare.f 40 2 exE 2 exX 2 exX = some 0 := by kernel_rfl
/-- Two derivations without kids, side by side. -/
theorem two_leaves {w : World} {b : Nat} {x y : Int} (h : w.heap[b]? = some (.cells #[.int .i64 x, .slice none 0 0, .int .i64 y, .slice none 0 0] 27 (0, 0))) : Kd.C k27 w (some ⟨b, 0, none⟩) 2 [⟨x, []⟩, ⟨y, []⟩] := by
  have hnil : Kd.C k27 w none 0 [] := ⟨rfl, by decide, fun h => absurd h (by decide)⟩
  refine ⟨rfl, by decide, fun _ => ⟨_, rfl, fun j p hj => ?_⟩⟩
  match j, hj with
  | 0, hj =>
    obtain rfl : (⟨x, []⟩ : S27) = p := by simpa using hj
    refine ⟨[.int .i64 x, .slice none 0 0], rfl, k27_mk w ⟨x, []⟩ (Nat.le_refl _) hnil, fun i u hi => ?_⟩
    match i, hi with
    | 0, hi => obtain rfl : Value.int .i64 x = u := by simpa using hi
               show w.cell? ⟨b, 0, none⟩ = _
               rw [blk_cell h 0]; rfl
    | 1, hi => obtain rfl : Value.slice none 0 0 = u := by simpa using hi
               show w.cell? ⟨b, 1, none⟩ = _
               rw [blk_cell h 1]; rfl
    | i + 2, hi => simp at hi
  | 1, hj =>
    obtain rfl : (⟨y, []⟩ : S27) = p := by simpa using hj
    refine ⟨[.int .i64 y, .slice none 0 0], rfl, k27_mk w ⟨y, []⟩ (Nat.le_refl _) hnil, fun i u hi => ?_⟩
    match i, hi with
    | 0, hi => obtain rfl : Value.int .i64 y = u := by simpa using hi
               show w.cell? ⟨b, 2, none⟩ = _
               rw [blk_cell h 2]; rfl
    | 1, hi => obtain rfl : Value.slice none 0 0 = u := by simpa using hi
               show w.cell? ⟨b, 3, none⟩ = _
               rw [blk_cell h 3]; rfl
    | i + 2, hi => simp at hi
  | j + 2, hj => simp at hj
set_option maxRecDepth 100000 in
set_option maxHeartbeats 8000000 in
theorem awake_calls (w : World) : Calls Try.prog 25 #[] w fun e w' => e = .returned (.bool true) ∧ Below w.heap.size w w' := by
  go_enter Try.func25, Try.ntmps25
  go_upto_region 2 with (first | (go_at_call 74; refine (emendatelaw30_example.calls 2 exE w ex_f).mono ?_; rintro x w1 ⟨v1, rfl, hN, hB⟩; obtain ⟨A, c, rfl, hc, hC⟩ := Kd.N_reads hN; have HC := Aside0.mk hC; have HB := Aside0.mk hB; clear hN hB hC))
  have hal := h_alloc54 w1 (.cells #[.int .i64 2, .slice A exE.length c] 24)
  have HB2 := Aside0.mk (below_step HB.out hal.1)
  have HC2 := Aside0.mk (Kd.C_below HC.out hal.1)
  have H1 := Aside0.mk hal.2
  obtain ⟨b1, hb1⟩ : ∃ b1, b1 = w1.heap.size := ⟨_, rfl⟩
  rw [← hb1] at H1 ⊢
  clear hb1 hal HB HC
  generalize (w1.alloc (.cells #[.int .i64 2, .slice A exE.length c] 24)) = w2 at *
  have h10 : w2.cell? ⟨b1, 0, none⟩ = some (.int .i64 2) := (by rw [blk_cell H1.out 0]; rfl)
  have h11 : w2.cell? ⟨b1, 1, none⟩ = some (.slice A exE.length c) := (by rw [blk_cell H1.out 1]; rfl)
  go_upto_region 3 with (first | (go_at_call 36; refine (derivation_Best.calls 40 2 A c exE 0 2 exY 0 w2 HC2.out hc ex_best).mono ?_; rintro x w3 ⟨v3, rfl, hR, hB⟩; obtain ⟨Ad, cd, rfl, hcd, hCd⟩ := Kd.R_reads hR; have HCD := Aside0.mk hCd; have HB3 := Aside0.mk hB; clear hR hB hCd))
  have hal := h_alloc54 w3 (.cells #[.int .i64 2, .slice Ad exY.length cd] 27)
  have HB4 := Aside0.mk (below_step (below_step HB2.out HB3.out) hal.1)
  have HC4 := Aside0.mk (Kd.C_below (Kd.C_below HC2.out HB3.out) hal.1)
  have HCD4 := Aside0.mk (Kd.C_below HCD.out hal.1)
  have H14 := Aside0.mk (blk_below (blk_below H1.out HB3.out) hal.1)
  have H24 := Aside0.mk hal.2
  obtain ⟨b2, hb2⟩ : ∃ b2, b2 = w3.heap.size := ⟨_, rfl⟩
  rw [← hb2] at H24 ⊢
  clear hb2 hal HB2 HB3 HC2 HCD H1 h10 h11
  generalize (w3.alloc (.cells #[.int .i64 2, .slice Ad exY.length cd] 27)) = w4 at *
  go_upto_region 4 with (fail)
  have hal := h_alloc54 w4 (.cells #[.int .i64 1, .slice none 0 0, .int .i64 0, .slice none 0 0] 27)
  have hal2 := h_alloc54 (w4.alloc (.cells #[.int .i64 1, .slice none 0 0, .int .i64 0, .slice none 0 0] 27)) (.cells #[.int .i64 2, .slice (some ⟨w4.heap.size, 0, none⟩) 2 2] 27)
  have HRow := Aside0.mk (two_leaves (blk_below hal.2 hal2.1))
  have HBox := Aside0.mk hal2.2
  obtain ⟨rX, hr_⟩ : ∃ r, r = w4.heap.size := ⟨_, rfl⟩
  have hsz : (w4.alloc (.cells #[.int .i64 1, .slice none 0 0, .int .i64 0, .slice none 0 0] 27)).heap.size = w4.heap.size + 1 := (by show (w4.heap.push _).size = _; simp)
  rw [hsz] at HBox
  obtain ⟨b4, hb_⟩ : ∃ b, b = w4.heap.size + 1 := ⟨_, rfl⟩
  rw [← hb_] at HBox ⊢
  clear hsz
  rw [← hr_] at HRow HBox ⊢
  obtain ⟨w5, hw_⟩ : ∃ w', w' = ((w4.alloc (.cells #[.int .i64 1, .slice none 0 0, .int .i64 0, .slice none 0 0] 27)).alloc (.cells #[.int .i64 2, .slice (some ⟨rX, 0, none⟩) 2 2] 27)) := ⟨_, rfl⟩
  have HBn : Aside0 (Below w4.heap.size w4 w5) := ⟨by rw [hw_, hr_]; exact below_step hal.1 hal2.1⟩
  rw [← hw_] at HRow HBox ⊢
  clear hal hal2 hr_ hb_ hw_
  have HB5 := Aside0.mk (below_step HB4.out HBn.out)
  have HC5 := Aside0.mk (Kd.C_below HC4.out HBn.out)
  have HD5 := Aside0.mk (Kd.C_below HCD4.out HBn.out)
  have H15 := Aside0.mk (blk_below H14.out HBn.out)
  have H25 := Aside0.mk (blk_below H24.out HBn.out)
  have HX5 := HRow
  have H45 := HBox
  clear HBn HRow HBox HB4 HC4 HCD4 H14 H24
  go_upto_region 5 with (fail)
  have hal := h_alloc54 w5 (.cells #[.int .i64 0, .slice none 0 0, .int .i64 0, .slice none 0 0] 27)
  have hal2 := h_alloc54 (w5.alloc (.cells #[.int .i64 0, .slice none 0 0, .int .i64 0, .slice none 0 0] 27)) (.cells #[.int .i64 2, .slice (some ⟨w5.heap.size, 0, none⟩) 2 2] 27)
  have HRow := Aside0.mk (two_leaves (blk_below hal.2 hal2.1))
  have HBox := Aside0.mk hal2.2
  obtain ⟨rY, hr_⟩ : ∃ r, r = w5.heap.size := ⟨_, rfl⟩
  have hsz : (w5.alloc (.cells #[.int .i64 0, .slice none 0 0, .int .i64 0, .slice none 0 0] 27)).heap.size = w5.heap.size + 1 := (by show (w5.heap.push _).size = _; simp)
  rw [hsz] at HBox
  obtain ⟨b5, hb_⟩ : ∃ b, b = w5.heap.size + 1 := ⟨_, rfl⟩
  rw [← hb_] at HBox ⊢
  clear hsz
  rw [← hr_] at HRow HBox ⊢
  obtain ⟨w6, hw_⟩ : ∃ w', w' = ((w5.alloc (.cells #[.int .i64 0, .slice none 0 0, .int .i64 0, .slice none 0 0] 27)).alloc (.cells #[.int .i64 2, .slice (some ⟨rY, 0, none⟩) 2 2] 27)) := ⟨_, rfl⟩
  have HBn : Aside0 (Below w5.heap.size w5 w6) := ⟨by rw [hw_, hr_]; exact below_step hal.1 hal2.1⟩
  rw [← hw_] at HRow HBox ⊢
  clear hal hal2 hr_ hb_ hw_
  have HB6 := Aside0.mk (below_step HB5.out HBn.out)
  have HC6 := Aside0.mk (Kd.C_below HC5.out HBn.out)
  have HD6 := Aside0.mk (Kd.C_below HD5.out HBn.out)
  have HX6 := Aside0.mk (Kd.C_below HX5.out HBn.out)
  have H16 := Aside0.mk (blk_below H15.out HBn.out)
  have H26 := Aside0.mk (blk_below H25.out HBn.out)
  have H46 := Aside0.mk (blk_below H45.out HBn.out)
  have HY6 := HRow
  have H56 := HBox
  clear HBn HRow HBox HB5 HC5 HD5 HX5 H15 H25 H45
  have HCE : Aside0 (∀ w', Below w6.heap.size w6 w' → w'.cell? ⟨b1, 0, none⟩ = some (.int .i64 2) ∧ w'.cell? ⟨b1, 1, none⟩ = some (.slice A exE.length c) ∧ w'.cell? ⟨b2, 0, none⟩ = some (.int .i64 2) ∧ w'.cell? ⟨b2, 1, none⟩ = some (.slice Ad exY.length cd) ∧ w'.cell? ⟨b4, 0, none⟩ = some (.int .i64 2) ∧ w'.cell? ⟨b4, 1, none⟩ = some (.slice (some ⟨rX, 0, none⟩) 2 2) ∧ w'.cell? ⟨b5, 0, none⟩ = some (.int .i64 2) ∧ w'.cell? ⟨b5, 1, none⟩ = some (.slice (some ⟨rY, 0, none⟩) 2 2)) := ⟨fun w' h => ⟨by rw [blk_cell (blk_below H16.out h) 0]; rfl, by rw [blk_cell (blk_below H16.out h) 1]; rfl, by rw [blk_cell (blk_below H26.out h) 0]; rfl, by rw [blk_cell (blk_below H26.out h) 1]; rfl, by rw [blk_cell (blk_below H46.out h) 0]; rfl, by rw [blk_cell (blk_below H46.out h) 1]; rfl, by rw [blk_cell (blk_below H56.out h) 0]; rfl, by rw [blk_cell (blk_below H56.out h) 1]; rfl⟩⟩
  obtain ⟨c0, c1, c2, c3, c4, c5, c6, c7⟩ := HCE.out w6 (Below.refl _ _)
  clear H16 H26 H46 H56
  have HQ6 := Aside0.mk (Below.refl w6.heap.size w6)
  have L0 : Aside0 (∀ w', Below w6.heap.size w6 w' → Calls Try.prog 33 #[.agg #[.int .i64 2, .slice Ad 2 cd], .agg #[.int .i64 2, .slice (some ⟨rY, 0, none⟩) 2 2]] w' fun e w'' => e = .returned (.bool true) ∧ Below w'.heap.size w' w'') := ⟨fun w' h => emendateref30_Equal.calls 40 2 Ad cd exY 2 (some ⟨rY, 0, none⟩) 2 exY true w' (Kd.C_below HD6.out h) hcd (Kd.C_below HY6.out h) (Nat.le_refl _) ex_eq⟩
  have L1 : Aside0 (∀ w', Below w6.heap.size w6 w' → Calls Try.prog 28 #[.agg #[.int .i64 2, .slice A exE.length c], .int .i64 0, .agg #[.int .i64 2, .slice (some ⟨rX, 0, none⟩) 2 2]] w' fun e w'' => e = .returned (.bool true) ∧ Below w'.heap.size w' w'') := ⟨fun w' h => derivation_Valid.calls 40 2 A c exE 0 2 (some ⟨rX, 0, none⟩) 2 exX true w' (Kd.C_below HC6.out h) hc (Kd.C_below HX6.out h) (Nat.le_refl _) ex_valid0⟩
  have L2 : Aside0 (∀ w', Below w6.heap.size w6 w' → Calls Try.prog 28 #[.agg #[.int .i64 2, .slice A exE.length c], .int .i64 1, .agg #[.int .i64 2, .slice (some ⟨rX, 0, none⟩) 2 2]] w' fun e w'' => e = .returned (.bool false) ∧ Below w'.heap.size w' w'') := ⟨fun w' h => derivation_Valid.calls 40 2 A c exE 1 2 (some ⟨rX, 0, none⟩) 2 exX false w' (Kd.C_below HC6.out h) hc (Kd.C_below HX6.out h) (Nat.le_refl _) ex_valid1⟩
  have L3 : Aside0 (∀ w', Below w6.heap.size w6 w' → Calls Try.prog 29 #[.agg #[.int .i64 2, .slice A exE.length c], .agg #[.int .i64 2, .slice (some ⟨rY, 0, none⟩) 2 2]] w' fun e w'' => e = .returned (.agg #[.int .i64 5, .int .i64 3]) ∧ Below w'.heap.size w' w'') := ⟨fun w' h => derivation_Value.calls 40 2 A c exE 2 (some ⟨rY, 0, none⟩) 2 exY 5 3 w' (Kd.C_below HC6.out h) hc (Kd.C_below HY6.out h) (Nat.le_refl _) ex_value⟩
  have L4 : Aside0 (∀ w', Below w6.heap.size w6 w' → Calls Try.prog 31 #[.agg #[.int .i64 2, .slice A exE.length c], .agg #[.int .i64 2, .slice (some ⟨rY, 0, none⟩) 2 2], .agg #[.int .i64 2, .slice (some ⟨rX, 0, none⟩) 2 2]] w' fun e w'' => e = .returned (.int .i64 (-1)) ∧ Below w'.heap.size w' w'') := ⟨fun w' h => derivation_Compare.calls 40 2 A c exE 2 (some ⟨rY, 0, none⟩) 2 exY 2 (some ⟨rX, 0, none⟩) 2 exX (-1) w' (Kd.C_below HC6.out h) hc (Kd.C_below HY6.out h) (Nat.le_refl _) (Kd.C_below HX6.out h) (Nat.le_refl _) ex_cmp1⟩
  have L5 : Aside0 (∀ w', Below w6.heap.size w6 w' → Calls Try.prog 31 #[.agg #[.int .i64 2, .slice A exE.length c], .agg #[.int .i64 2, .slice (some ⟨rX, 0, none⟩) 2 2], .agg #[.int .i64 2, .slice (some ⟨rX, 0, none⟩) 2 2]] w' fun e w'' => e = .returned (.int .i64 0) ∧ Below w'.heap.size w' w'') := ⟨fun w' h => derivation_Compare.calls 40 2 A c exE 2 (some ⟨rX, 0, none⟩) 2 exX 2 (some ⟨rX, 0, none⟩) 2 exX 0 w' (Kd.C_below HC6.out h) hc (Kd.C_below HX6.out h) (Nat.le_refl _) (Kd.C_below HX6.out h) (Nat.le_refl _) ex_cmp0⟩
  go_upto_region 7 with (first | (go_at_call 33; with_reducible refine (L0.out w6 HQ6.out).mono ?_; rintro x w7 ⟨rfl, hB⟩; have HQ7 := Aside0.mk (below_step HQ6.out hB); clear hB c0 c1 c2 c3 c4 c5 c6 c7; obtain ⟨c0, c1, c2, c3, c4, c5, c6, c7⟩ := HCE.out w7 HQ7.out) | (go_at_call 28; with_reducible refine (L1.out w7 HQ7.out).mono ?_; rintro x w8 ⟨rfl, hB⟩; have HQ8 := Aside0.mk (below_step HQ7.out hB); clear hB c0 c1 c2 c3 c4 c5 c6 c7; obtain ⟨c0, c1, c2, c3, c4, c5, c6, c7⟩ := HCE.out w8 HQ8.out) | (go_at_call 28; with_reducible refine (L2.out w8 HQ8.out).mono ?_; rintro x w9 ⟨rfl, hB⟩; have HQ9 := Aside0.mk (below_step HQ8.out hB); clear hB c0 c1 c2 c3 c4 c5 c6 c7; obtain ⟨c0, c1, c2, c3, c4, c5, c6, c7⟩ := HCE.out w9 HQ9.out))
  go_wp2_with (first | (go_at_call 29; with_reducible refine (L3.out w9 HQ9.out).mono ?_; rintro x w10 ⟨rfl, hB⟩; have HQ10 := Aside0.mk (below_step HQ9.out hB); clear hB c0 c1 c2 c3 c4 c5 c6 c7; obtain ⟨c0, c1, c2, c3, c4, c5, c6, c7⟩ := HCE.out w10 HQ10.out) | (go_at_call 31; with_reducible refine (L4.out w10 HQ10.out).mono ?_; rintro x w11 ⟨rfl, hB⟩; have HQ11 := Aside0.mk (below_step HQ10.out hB); clear hB c0 c1 c2 c3 c4 c5 c6 c7; obtain ⟨c0, c1, c2, c3, c4, c5, c6, c7⟩ := HCE.out w11 HQ11.out) | (go_at_call 31; with_reducible refine (L5.out w11 HQ11.out).mono ?_; rintro x w12 ⟨rfl, hB⟩; have HQ12 := Aside0.mk (below_step HQ11.out hB); clear hB c0 c1 c2 c3 c4 c5 c6 c7))
  go_ret
  exact ⟨rfl, below_step HB6.out HQ12.out⟩
def emendatelaw30_awake.f : Option Bool := some true
theorem emendatelaw30_awake.calls (r : Bool) (w : World) (h : emendatelaw30_awake.f = some r) : Calls Try.prog 25 #[] w fun e w' => e = .returned (.bool r) ∧ Below w.heap.size w w' := by
  injection h with h
  subst h
  exact awake_calls w
end Go.Proofs.Ytamimodkcbbpmaa.Pr
end
