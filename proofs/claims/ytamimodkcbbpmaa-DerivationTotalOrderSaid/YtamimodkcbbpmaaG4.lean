/- XJ XSolve F36 F29 F76: a part of the proof of the row of DerivationValidMatchesReference; no conditions. -/
import Derived.Test.YtamimodkcbbpmaaG3
import Derived.Test.YtamimodkcbbpmaaG2
section
/- Knuth's solver: what Solve's first region makes. -/
namespace Go.Proofs.Ytamimodkcbbpmaa.Pr
open Go.RowKit Go.Proofs.YtamimodkcbbpmaaW.PrintWords Go.Proofs.YtamimodkcbbpmaaW.PrintLast Go.Proofs.YtamimodkcbbpmaaXW Go.Proofs.YtamimodkcbbpmaaXM
set_option linter.unusedVariables false
set_option linter.unusedSimpArgs false

theorem mkV {ops : Array Oper} {o : Oper} {a : Act} {Q : Exit → Act → World → Prop} {Kc : Act → World → Prop} {w W : World} {n : Nat} {x : Operand} (hw : Region.wanted o (yielded ops a.tmps) = true) (hd : o.dst = some 20) (ho : o.op = .makeSlice 43 x x) (hx : a.eval x = .int .i64 (n : Nat)) (hn : n ≤ 1000) (hB : Below w.heap.size w W)
    (h : ∀ g c W2, Kd.R k34 34 W2 w.heap.size (fun k => W.heap.size ≤ k) (.slice (some ⟨g, 0, none⟩) n c) (List.replicate n z34) → Below w.heap.size w W2 → Below W.heap.size W W2 → W.heap.size ≤ g → Kc (a.put (some 20) (.slice (some ⟨g, 0, none⟩) n c)) W2) :
    if Region.wanted o (yielded ops a.tmps) = true then Oper.wp Try.prog o a W Kc Q else Kc (a.put (some 20) undef) W := by
  rw [← hd]
  refine Kd.R_make_step k34 (w0 := w) (W := W) w.heap.size 34 hw hd 43 x x ho (n : Int) hx hx Try.underlying43 (.agg #[.int .i64 0, .int .i64 0]) 16 info34 rfl (by decide) (by omega) z34 (ok := fun k => W.heap.size ≤ k) (okp := fun k => W.heap.size ≤ k) (k34_mkM _ _ _ z34) (fun _ hk => hk) (Nat.le_refl _) (by omega) (by omega) hB hB.size ?_
  intro v W2 hR hB2 hg hat
  obtain ⟨g, hb, hl⟩ := hat
  obtain ⟨c, rfl⟩ := R_formb hR hb
  rw [Int.toNat_natCast, List.length_replicate] at *
  rw [hd]
  exact h g c W2 hR hB2 (below_none hg) hl
theorem mkS {ops : Array Oper} {o : Oper} {a : Act} {Q : Exit → Act → World → Prop} {Kc : Act → World → Prop} {w W : World} {n : Nat} {x : Operand} (hw : Region.wanted o (yielded ops a.tmps) = true) (hd : o.dst = some 23) (ho : o.op = .makeSlice 81 x x) (hx : a.eval x = .int .i64 (n : Nat)) (hn : n ≤ 1000) (hB : Below w.heap.size w W)
    (h : ∀ g c W2, Kd.R Kd.bool 4 W2 w.heap.size (fun k => W.heap.size ≤ k) (.slice (some ⟨g, 0, none⟩) n c) (List.replicate n false) → Below w.heap.size w W2 → Below W.heap.size W W2 → W.heap.size ≤ g → Kc (a.put (some 23) (.slice (some ⟨g, 0, none⟩) n c)) W2) :
    if Region.wanted o (yielded ops a.tmps) = true then Oper.wp Try.prog o a W Kc Q else Kc (a.put (some 23) undef) W := by
  rw [← hd]
  refine Kd.R_make_step Kd.bool (w0 := w) (W := W) w.heap.size 4 hw hd 81 x x ho (n : Int) hx hx Try.underlying81 (.bool false) 1 info4 rfl (by decide) (by omega) false (ok := fun k => W.heap.size ≤ k) (okp := fun k => W.heap.size ≤ k) rfl (fun _ hk => hk) (Nat.le_refl _) (by omega) (by omega) hB hB.size ?_
  intro v W2 hR hB2 hg hat
  obtain ⟨g, hb, hl⟩ := hat
  obtain ⟨c, rfl⟩ := R_formb hR hb
  rw [Int.toNat_natCast, List.length_replicate] at *
  rw [hd]
  exact h g c W2 hR hB2 (below_none hg) hl
theorem mkO {ops : Array Oper} {o : Oper} {a : Act} {Q : Exit → Act → World → Prop} {Kc : Act → World → Prop} {w W : World} {n : Nat} {x : Operand} (hw : Region.wanted o (yielded ops a.tmps) = true) (hd : o.dst = some 27) (ho : o.op = .makeSlice 44 x x) (hx : a.eval x = .int .i64 (n : Nat)) (hn : n ≤ 1000) (hB : Below w.heap.size w W)
    (h : ∀ g c W2, Kd.R (Kd.int .i64) 3 W2 w.heap.size (fun k => W.heap.size ≤ k) (.slice (some ⟨g, 0, none⟩) n c) (List.replicate n (0 : Int)) → Below w.heap.size w W2 → Below W.heap.size W W2 → W.heap.size ≤ g → Kc (a.put (some 27) (.slice (some ⟨g, 0, none⟩) n c)) W2) :
    if Region.wanted o (yielded ops a.tmps) = true then Oper.wp Try.prog o a W Kc Q else Kc (a.put (some 27) undef) W := by
  rw [← hd]
  refine Kd.R_make_step (Kd.int .i64) (w0 := w) (W := W) w.heap.size 3 hw hd 44 x x ho (n : Int) hx hx Try.underlying44 (.int .i64 0) 8 info3 rfl (by decide) (by omega) (0 : Int) (ok := fun k => W.heap.size ≤ k) (okp := fun k => W.heap.size ≤ k) rfl (fun _ hk => hk) (Nat.le_refl _) (by omega) (by omega) hB hB.size ?_
  intro v W2 hR hB2 hg hat
  obtain ⟨g, hb, hl⟩ := hat
  obtain ⟨c, rfl⟩ := R_formb hR hb
  rw [Int.toNat_natCast, List.length_replicate] at *
  rw [hd]
  exact h g c W2 hR hB2 (below_none hg) hl
theorem mkU {ops : Array Oper} {o : Oper} {a : Act} {Q : Exit → Act → World → Prop} {Kc : Act → World → Prop} {w W : World} {n : Nat} {x : Operand} (hw : Region.wanted o (yielded ops a.tmps) = true) (hd : o.dst = some 30) (ho : o.op = .makeSlice 115 x x) (hx : a.eval x = .int .i64 (n : Nat)) (hn : n ≤ 1000) (hB : Below w.heap.size w W)
    (h : ∀ g c W2, Kd.S (Kd.slice 3 (Kd.int .i64)) 44 W2 w.heap.size (fun k => W.heap.size ≤ k) (.slice (some ⟨g, 0, none⟩) n c) (List.replicate n ([] : List Int)) → Below w.heap.size w W2 → Below W.heap.size W W2 → W.heap.size ≤ g → Kc (a.put (some 30) (.slice (some ⟨g, 0, none⟩) n c)) W2) :
    if Region.wanted o (yielded ops a.tmps) = true then Oper.wp Try.prog o a W Kc Q else Kc (a.put (some 30) undef) W := by
  rw [← hd]
  refine Kd.S_make_step (Kd.slice 3 (Kd.int .i64)) (w0 := w) (W := W) w.heap.size 44 hw hd 115 x x ho (n : Int) hx hx Try.underlying115 (.slice none 0 0) 24 info44 rfl (by decide) (by omega) ([] : List Int) (ok := fun k => W.heap.size ≤ k) (okp := fun k => W.heap.size ≤ k) ⟨.slice none 0 0, rfl, Kd.R_nil _ _ _ _ _⟩ (fun _ hk => hk) (Nat.le_refl _) (by omega) (by omega) hB hB.size ?_
  intro v W2 hR hB2 hg hat
  obtain ⟨g, hb, hl⟩ := hat
  obtain ⟨c, rfl⟩ := R_formb (Kd.S_R hR) hb
  rw [Int.toNat_natCast, List.length_replicate] at *
  rw [hd]
  exact h g c W2 hR hB2 (below_none hg) hl

def R79.T1 : Bool × List (List Nat × List Nat) := (true, [([], []), ([], []), ([1], [1]), ([2, 2], [2]), ([], []), ([4], [4]), ([5, 5], [5]), ([], []), ([7], [7]), ([8], [8]), ([9, 9], [9]), ([], []), ([11], [11]), ([12, 12], [12]), ([0, 3, 6, 10, 13], [0, 3, 6, 10, 13]), ([14], [14]), ([15, 0, 1, 2, 3, 4, 5, 6, 7, 8, 9, 10, 11, 12, 13, 14, 15], [15])])
def R79.B1 : List Nat := [0, 0, 2, 6, 0, 16, 48, 0, 128, 384, 896, 0, 2048, 6144, 16383, 32767, 65535]
theorem R79.tab1 : rtab .any (opsOf Try.f79 1) = R79.T1 := by kernel_rfl
theorem R79.bits1 : waitsOk R79.T1.2 R79.B1 = true := by kernel_rfl
def R79.T13 : Bool × List (List Nat × List Nat) := (true, [([], []), ([0], [0]), ([1], [1]), ([2], [2]), ([], []), ([], []), ([5], [5]), ([6], [6]), ([3, 4, 0, 1, 2, 3, 4, 5, 6, 7], [3, 4]), ([8, 7, 0, 1, 2, 3, 4, 5, 6, 7], [7, 8])])
def R79.B13 : List Nat := [0, 1, 3, 7, 0, 0, 32, 96, 255, 511]
theorem R79.tab13 : rtab .any (opsOf Try.f79 13) = R79.T13 := by kernel_rfl
theorem R79.bits13 : waitsOk R79.T13.2 R79.B13 = true := by kernel_rfl
def R79.T17 : Bool × List (List Nat × List Nat) := (true, [([], []), ([0], [0]), ([1], [1]), ([2], [2]), ([], []), ([], []), ([5], [5]), ([6], [6]), ([7], [7]), ([], []), ([8, 9], [8, 9]), ([10], [10]), ([], []), ([12], [12]), ([11, 13], [11, 13]), ([3, 4, 0, 1, 2, 3, 4, 5, 6, 7, 8, 9, 10, 11, 12, 13, 14], [3, 4]), ([15, 14, 14, 0, 1, 2, 3, 4, 5, 6, 7, 8, 9, 10, 11, 12, 13, 14], [14, 15])])
def R79.B17 : List Nat := [0, 1, 3, 7, 0, 0, 32, 96, 224, 0, 992, 2016, 0, 4096, 16352, 32767, 65535]
theorem R79.tab17 : rtab .any (opsOf Try.f79 17) = R79.T17 := by kernel_rfl
theorem R79.bits17 : waitsOk R79.T17.2 R79.B17 = true := by kernel_rfl
def R79.T28 : Bool × List (List Nat × List Nat) := (true, [([], []), ([0], [0]), ([1], [1]), ([2], [2]), ([], []), ([4], [4]), ([3, 5], [3, 5]), ([6], [6]), ([7], [7])])
def R79.B28 : List Nat := [0, 1, 3, 7, 0, 16, 63, 127, 255]
theorem R79.tab28 : rtab .any (opsOf Try.f79 28) = R79.T28 := by kernel_rfl
theorem R79.bits28 : waitsOk R79.T28.2 R79.B28 = true := by kernel_rfl
def R79.T33 : Bool × List (List Nat × List Nat) := (true, [([], []), ([], []), ([1], [1]), ([0, 2], [0, 2]), ([3], [3]), ([4], [4]), ([5], [5]), ([6], [6]), ([7, 6], [6, 7]), ([8, 6], [6, 8]), ([9, 6], [6, 9]), ([6], [6]), ([11, 6], [6, 11]), ([10, 12, 6], [6, 10, 12]), ([13, 6], [6, 13]), ([6, 14], [6, 14]), ([15, 6], [15]), ([16], [16]), ([16], [16]), ([17, 18, 16, 16], [16, 17, 18]), ([16], [16]), ([20, 16], [16, 20]), ([21, 16], [16, 21]), ([22, 16], [16, 22]), ([16], [16]), ([24, 16], [16, 24]), ([23, 25, 16], [16, 23, 25]), ([26, 16], [16, 26]), ([19, 27, 16], [16, 19, 27]), ([16, 28], [16, 28])])
def R79.B33 : List Nat := [0, 0, 2, 7, 15, 31, 63, 127, 255, 511, 1023, 127, 2175, 8191, 16383, 32767, 65535, 131071, 131071, 524287, 131071, 1179647, 3276799, 7471103, 131071, 16908287, 66191359, 133300223, 268435455, 536870911]
theorem R79.tab33 : rtab .any (opsOf Try.f79 33) = R79.T33 := by kernel_rfl
theorem R79.bits33 : waitsOk R79.T33.2 R79.B33 = true := by kernel_rfl
set_option maxRecDepth 100000 in
set_option maxHeartbeats 8000000 in
theorem solve_calls (n : Nat) (A : Option Addr) (c : Nat) (es : List S54) (w : World) (hC : Kd.C k54 w A es.length es) (hn : n ≤ 1000) (he : es.length ≤ 1000) (hok : okE n es) (hT : ∀ e, e ∈ es → e.f1.length ≤ 100) :
    Calls Try.prog 79 #[.agg #[.int .i64 (n : Nat), .slice A es.length c]] w fun e w' => ∃ v0_ v1_, e = .returned (.tuple #[v0_, v1_]) ∧ Kd.R k34 34 w' w.heap.size (fun _ => True) v0_ (solV n es) ∧ Kd.R (Kd.int .i64) 3 w' w.heap.size (fun _ => True) v1_ (solE n es) ∧ Below w.heap.size w w' := by
  go_enter Try.func79, Try.ntmps79
  go_upto_region 1 with (fail)
  have hA0 := h_alloc54 w (.cells #[.int .i64 (n : Nat), .slice A es.length c] 24)
  have HB0 := Aside0.mk hA0.1
  have hb1 := hA0.2
  obtain ⟨b1, e1⟩ : ∃ b1, b1 = w.heap.size := ⟨_, rfl⟩
  rw [← e1] at hb1 ⊢
  have E1 := Aside0.mk e1
  clear hA0 e1
  generalize (w.alloc (.cells #[.int .i64 (n : Nat), .slice A es.length c] 24)) = wA at *
  have s0 : wA.drew.cell? ⟨b1, 0, none⟩ = some (.int .i64 (n : Nat)) := by show wA.cell? _ = _; rw [blk_cell hb1 0]; rfl
  have s1 : wA.drew.cell? ⟨b1, 1, none⟩ = some (.slice A es.length c) := by show wA.cell? _ = _; rw [blk_cell hb1 1]; rfl
  refine start_ (n := 17) (S := fun w' => w'.cell? ⟨b1, 0, none⟩ = some (.int .i64 (n : Nat)) ∧ w'.cell? ⟨b1, 1, none⟩ = some (.slice A es.length c)) (ds := []) #[false, false, false, false, false, false, false, false, false, false, false, false, false, false, false, false, false] (by kernel_rfl) rfl rfl ⟨s0, s1⟩ (fun hHeld => ?_)
  refine with_tabW R79.tab1 R79.bits1 (fun HT_ HW_ => ?_)
  refine bulk_ (fuel := 7) [(0, 17), (1, 18), (2, 19), (4, 21), (5, 22), (7, 24), (8, 25), (9, 26), (11, 28), (12, 29)] #[true, true, true, false, true, true, false, true, true, true, false, true, true, false, false, false, false] (bulkB_of HT_.out HW_.out _ _ _ (by kernel_rfl)) rfl (fun _ _ _ _ _ h => h) hHeld (a' := ?_) ?_ ?_
  rotate_left
  · iterate 10
      refine chain_cons (v := ?_) (a1 := ?_) rfl rfl (Or.inl ⟨by rfl, ?_⟩) ?_ ?_
      rotate_left 2
      · rintro w' ⟨s0, s1⟩
        go_simp
        with_reducible rfl
      · simp only [Act.put, List.setIfInBounds_toArray, List.set_cons_zero, List.set_cons_succ, i64_w, i32_w]
        rfl
    exact chain_nil
  clear s0 s1 hHeld
  have hB : Below w.heap.size w wA.drew := below_drew HB0.out
  have hb : wA.drew.heap[b1]? = some (.cells #[.int .i64 (n : Nat), .slice A es.length c] 24 (0, 0)) := hb1
  clear hb1 HB0
  generalize wA.drew = WC at hB hb ⊢
  refine join_ (σ := (Nat × Nat) × (Nat × Nat) × (Nat × Nat) × Nat × Nat) 3 #[true, true, true, true, true, true, true, true, true, true, true, true, true, true, false, false, false] (fun s => [(20, .slice (some ⟨s.1.1, 0, none⟩) n s.1.2), (23, .slice (some ⟨s.2.1.1, 0, none⟩) n s.2.1.2), (27, .slice (some ⟨s.2.2.1.1, 0, none⟩) es.length s.2.2.1.2), (30, .slice (some ⟨s.2.2.2.1, 0, none⟩) n s.2.2.2.2)]) (fun s w' => Below w.heap.size w w' ∧ w'.heap[b1]? = some (.cells #[.int .i64 (n : Nat), .slice A es.length c] 24 (0, 0)) ∧ Kd.R k34 34 w' w.heap.size (fun _ => True) (.slice (some ⟨s.1.1, 0, none⟩) n s.1.2) (List.replicate n z34) ∧ Kd.R Kd.bool 4 w' w.heap.size (fun _ => True) (.slice (some ⟨s.2.1.1, 0, none⟩) n s.2.1.2) (List.replicate n false) ∧ Kd.R (Kd.int .i64) 3 w' w.heap.size (fun _ => True) (.slice (some ⟨s.2.2.1.1, 0, none⟩) es.length s.2.2.1.2) (List.replicate es.length 0) ∧ Kd.S (Kd.slice 3 (Kd.int .i64)) 44 w' w.heap.size (fun k => k ≠ s.2.2.1.1) (.slice (some ⟨s.2.2.2.1, 0, none⟩) n s.2.2.2.2) (List.replicate n [])) ?hcont (fun hc => ?_)
  case hcont =>
    clear hB hb
    rintro ⟨⟨gv, cv⟩, ⟨gs, cs⟩, ⟨go, co⟩, gu, cu⟩ w2 ⟨hB, hb, hV, hS, hO, hU⟩
    refine norm_ (a' := ?_) ?_ ?_
    rotate_left
    · simp only [putAll, Act.put, List.setIfInBounds_toArray, List.set_cons_zero, List.set_cons_succ]
      rfl
    refine bulk_ (fuel := 2) [(14, 31)] #[true, true, true, true, true, true, true, true, true, true, true, true, true, true, true, false, false] (bulkB_of HT_.out HW_.out _ _ _ (by kernel_rfl)) rfl (fun _ _ _ _ _ h => h) ⟨(by rw [blk_cell hb 0]; rfl), (by rw [blk_cell hb 1]; rfl)⟩ (a' := ?_) ?_ ?_
    rotate_left
    · refine chain_cons (v := ?_) (a1 := ?_) rfl rfl (Or.inl ⟨by rfl, ?_⟩) ?_ ?_
      rotate_left 2
      · rintro w' ⟨s0, s1⟩
        go_simp
        with_reducible rfl
      · simp only [Act.put, List.setIfInBounds_toArray, List.set_cons_zero, List.set_cons_succ, i64_w, i32_w]
        rfl
      exact chain_nil
    refine one_ (i := 15) (N := some 32) #[true, true, true, true, true, true, true, true, true, true, true, true, true, true, true, true, false] rfl rfl (one_of HT_.out (by kernel_rfl)) (by decide) (fun K hK => ?_)
    refine value_ (w1 := w2.alloc (.cells #[.int .i64 (n : Nat), .slice A es.length c, .slice (some ⟨gv, 0, none⟩) n cv, .slice (some ⟨gs, 0, none⟩) n cs, .slice (some ⟨go, 0, none⟩) es.length co, .slice (some ⟨gu, 0, none⟩) n cu, .pointer none] 121)) (v := .pointer (some ⟨w2.heap.size, 0, none⟩)) (by rfl) rfl ?_ ?_
    · first | (go_simp; done) | (go_simp; rfl)
    have hal := h_alloc54 w2 (.cells #[.int .i64 (n : Nat), .slice A es.length c, .slice (some ⟨gv, 0, none⟩) n cv, .slice (some ⟨gs, 0, none⟩) n cs, .slice (some ⟨go, 0, none⟩) es.length co, .slice (some ⟨gu, 0, none⟩) n cu, .pointer none] 121)
    replace hb := blk_below hb hal.1
    refine hK.out _ _ ⟨(by rw [blk_cell hb 0]; rfl), (by rw [blk_cell hb 1]; rfl)⟩ (fun _ => ?_)
    clear hK K
    refine norm_ (a' := ?_) ?_ ?_
    rotate_left
    · show Act.put _ (some 32) _ = _
      simp only [Act.put, List.setIfInBounds_toArray, List.set_cons_zero, List.set_cons_succ, i64_w, i32_w]
      rfl
    refine bulk_ (fuel := 0) [(16, 4)] #[true, true, true, true, true, true, true, true, true, true, true, true, true, true, true, true, true] (bulkB_of HT_.out HW_.out _ _ _ (by kernel_rfl)) rfl (fun _ _ _ _ _ h => h) ⟨(by rw [blk_cell hb 0]; rfl), (by rw [blk_cell hb 1]; rfl)⟩ (a' := ?_) ?_ ?_
    rotate_left
    · refine chain_cons (v := ?_) (a1 := ?_) rfl rfl (Or.inl ⟨by rfl, ?_⟩) ?_ ?_
      rotate_left 2
      · rintro w' ⟨s0, s1⟩
        go_simp
        with_reducible rfl
      · simp only [Act.put, List.setIfInBounds_toArray, List.set_cons_zero, List.set_cons_succ, i64_w, i32_w]
        rfl
      exact chain_nil
    refine done_ (done_of HT_.out (by kernel_rfl)) ?_
    replace hV := Kd.R_below hV hal.1
    replace hS := Kd.R_below hS hal.1
    replace hO := Kd.R_below hO hal.1
    replace hU := Kd.S_below hU hal.1
    have hB0_ := hB.size
    replace hB := below_step hB hal.1
    have hs := hal.2
    obtain ⟨s, es_⟩ : ∃ s, s = w2.heap.size := ⟨_, rfl⟩
    have hsb : w.heap.size ≤ s := by have := hB0_; omega
    rw [← es_] at hs ⊢
    clear hal es_ HT_ HW_ hB0_
    generalize w2.alloc (.cells #[.int .i64 (n : Nat), .slice A es.length c, .slice (some ⟨gv, 0, none⟩) n cv, .slice (some ⟨gs, 0, none⟩) n cs, .slice (some ⟨go, 0, none⟩) es.length co, .slice (some ⟨gu, 0, none⟩) n cu, .pointer none] 121) = w3 at *
    have HV := Aside0.mk hV
    have HS := Aside0.mk hS
    have HO := Aside0.mk hO
    have HU := Aside0.mk hU
    have HB := Aside0.mk hB
    have Hs := Aside0.mk hs
    have Hb := Aside0.mk hb
    clear hV hS hO hU hB hs hb
    go_upto_region 3 with (first | (go_at_call 102; refine (new_calls w3).mono ?_; rintro x w4 ⟨rfl, hq4, hm4, hB4⟩; have hs4 := blk_below Hs.out hB4; have s6 : w4.cell? ⟨s, 6, none⟩ = some (.pointer none) := (by rw [blk_cell hs4 6]; rfl); have f6 := blk_frozen hs4 6; have Hq4 := Aside0.mk hq4; have Hm4 := Aside0.mk hm4; have HB4 := Aside0.mk hB4; have Hs4 := Aside0.mk hs4; clear hq4 hm4 hB4 hs4))
    obtain ⟨q, eq_⟩ : ∃ q, q = w3.heap.size + 1 := ⟨_, rfl⟩
    have hqb : w.heap.size ≤ q := by have := HB.out.size; omega
    have hmb : w.heap.size ≤ w3.heap.size := HB.out.size
    have hq4 := Hq4.out
    rw [← eq_] at hq4 ⊢
    have hs5 := blk_set Hs4.out 6 (.pointer (some ⟨q, 0, none⟩))
    have hV5 := Kd.R_set (Kd.R_below HV.out HB4.out) Hs4.out (by decide) 6 (.pointer (some ⟨q, 0, none⟩))
    have hS5 := Kd.R_set (Kd.R_below HS.out HB4.out) Hs4.out (by decide) 6 (.pointer (some ⟨q, 0, none⟩))
    have hO5 := Kd.R_set (Kd.R_below HO.out HB4.out) Hs4.out (by decide) 6 (.pointer (some ⟨q, 0, none⟩))
    have hU5 := Kd.S_set (Kd.S_below HU.out HB4.out) Hs4.out (by decide) 6 (.pointer (some ⟨q, 0, none⟩))
    have hb4 := blk_below Hb.out HB4.out
    have hb5 := blk_far hb4 (p := ⟨s, 6, none⟩) (blk_ne hb4 Hs4.out (by decide)) (.pointer (some ⟨q, 0, none⟩))
    have hq5 := blk_far hq4 (p := ⟨s, 6, none⟩) (blk_ne hq4 Hs4.out (by decide)) (.pointer (some ⟨q, 0, none⟩))
    have hmne : w3.heap.size ≠ s := by have := blk_lt Hs.out; omega
    have hm5 := (Below.heap_setCell w4 ⟨s, 6, none⟩ (.pointer (some ⟨q, 0, none⟩)) w3.heap.size hmne).trans Hm4.out
    have HB5 := Aside0.mk (((below_step HB.out HB4.out).setCell hsb (.pointer (some ⟨q, 0, none⟩)) : Below w.heap.size w (w4.setCell ⟨s, 6, none⟩ (.pointer (some ⟨q, 0, none⟩)))))
    clear HV HS HO HU HB Hs Hb Hq4 Hm4 HB4 Hs4 hq4 hb4 s6 f6 hmne eq_
    generalize w4.setCell ⟨s, 6, none⟩ (.pointer (some ⟨q, 0, none⟩)) = w5 at *
    have hQ5 : QS w.heap.size w5 q [] 0 0 := ⟨.slice none 0 0, w3.heap.size, #[], 0, hq5, hqb, Kd.R_nil _ _ _ _ _, hm5, hmb, fun e he => by simp at he⟩
    have hs5' : w5.heap[s]? = some (.cells #[.int .i64 (n : Nat), .slice A es.length c, .slice (some ⟨gv, 0, none⟩) n cv, .slice (some ⟨gs, 0, none⟩) n cs, .slice (some ⟨go, 0, none⟩) es.length co, .slice (some ⟨gu, 0, none⟩) n cu, .pointer (some ⟨q, 0, none⟩)] 121 (0, 0)) := by simpa using hs5
    have b0 : w5.cell? ⟨b1, 0, none⟩ = some (.int .i64 (n : Nat)) := by rw [blk_cell hb5 0]; rfl
    have hgo5 := Kd.R_lt hO5 go rfl
    have HV := Aside0.mk hV5
    have HS := Aside0.mk hS5
    have HO := Aside0.mk hO5
    have HU := Aside0.mk hU5
    have Hs := Aside0.mk hs5'
    have Hb := Aside0.mk hb5
    have HQ := Aside0.mk hQ5
    clear hV5 hS5 hO5 hU5 hs5 hs5' hb5 hq5 hm5 hQ5
    go_upto_region 4 with (first | ((with_reducible refine gate_dst (N := 39) rfl ?_); refine Kd.R_make (Kd.int .i64) w.heap.size 3 rfl (N := 39) rfl 44 _ _ rfl (n : Int) rfl rfl Try.underlying44 (.int .i64 0) 8 info3 rfl (by decide) (by omega) (0 : Int) (ok := fun k => w5.heap.size ≤ k) (okp := fun k => w5.heap.size ≤ k) rfl (fun _ hk => hk) (Nat.le_refl _) (by omega) (by omega) HB5.out HB5.out.size ?_; intro v39 w6 hE hB6 hg6 hat; obtain ⟨ge, hbe, hle⟩ := hat; obtain ⟨ce, rfl⟩ := R_formb hE hbe; rw [Int.toNat_natCast, List.length_replicate] at hE; have h6 := below_none hg6; have HE := Aside0.mk hE; have H6 := Aside0.mk h6; have HB6 := Aside0.mk hB6; clear hE h6 hB6 hg6 hbe))
    have HSS : Aside0 (SS ⟨w, s, q, n, A, c, es, gv, cv, gs, cs, go, co, gu, cu, ge, ce⟩ w6 (List.replicate n z34) (List.replicate n false) (List.replicate es.length 0) (List.replicate n []) (List.replicate n 0) ⟨[], 0, 0⟩) := ⟨HB6.out, blk_below Hs.out H6.out, hsb, hC, Kd.R_below HV.out H6.out, Kd.R_below HS.out H6.out, Kd.R_mono (ok' := fun k => k ≠ ge) (Kd.R_below (Kd.R_bound HO.out) H6.out) (fun k hk => by have := hk.2.2.1; omega), Kd.S_mono (ok' := fun k => k ≠ go ∧ k ≠ ge) (Kd.S_below (Kd.S_bound HU.out) H6.out) (fun k hk => ⟨hk.1, by have := hk.2.2.1; omega⟩), Kd.R_mono (ok' := fun k => k ≠ go) HE.out (fun k hk => by omega), qs_below HQ.out H6.out⟩
    have HB1 := Aside0.mk (blk_below Hb.out H6.out)
    clear HV HS HO HU Hs Hb HQ HE H6 HB6 HB5 b0 hgo5 hmb hle
    rw [← filA_zero n (⟨1099511627776, 0⟩ : S34) z34, ← filA_zero n (-1 : Int) 0] at HSS
    obtain ⟨wO, rfl⟩ : ∃ wO : World, wO = w6 := ⟨_, rfl⟩
    have s2 : wO.cell? ⟨s, 2, none⟩ = some (.slice (some ⟨gv, 0, none⟩) n cv) := (by rw [blk_cell HSS.out.hs 2]; rfl)
    go_wp2_with fail
    go_loopg [45] (n + 1) (fun g v45 wr => ∃ i : Nat, v45 = .int .i64 i ∧ Aside0 (i ≤ n) ∧ Aside0 (n - i < g) ∧ Aside0 (SS (⟨w, s, q, n, A, c, es, gv, cv, gs, cs, go, co, gu, cu, ge, ce⟩ : Ctx) wr (filA n (⟨1099511627776, 0⟩ : S34) z34 i) (List.replicate n false) (List.replicate es.length 0) (List.replicate n []) (filA n (-1 : Int) 0 i) ⟨[], 0, 0⟩) ∧ Aside0 (wr.heap[b1]? = some (.cells #[.int .i64 (n : Nat), .slice A es.length c] 24 (0, 0))))
    case atStart => exact ⟨0, by go_num, ⟨by omega⟩, ⟨by omega⟩, HSS, HB1⟩
    case round =>
      obtain ⟨i, rfl, hi, hg, HS, HB⟩ := hrel
      clear HSS HB1 s2
      by_cases hin : i < n
      · have hi1 : i ≤ 1000 := by omega
        have s2 : wr.cell? ⟨s, 2, none⟩ = some (.slice (some ⟨gv, 0, none⟩) n cv) := (by rw [blk_cell HS.out.hs 2]; rfl)
        have hcs := R34_cells HS.out.hV (i : Int) (by omega) (by show (i : Int) < (n : Int); omega)
        have hst := R34_set HS.out.hV (i : Int) (by omega) (by show (i : Int) < (n : Int); omega) ⟨1099511627776, 0⟩
        simp only [Int.toNat_natCast] at hcs hst
        rw [filA_set n _ _ i hin] at hst
        obtain ⟨l0, l1, f0, f1⟩ := hcs
        have D1 := HS.out.setV hst.1 hst.2
        have hb2 := blk_grown HB.out hst.2 (Kd.R_ne HS.out.hV HB.out (by decide))
        have hce := scal_cell D1.hE 0 (i : Int) (by omega) (by show (i : Int) < (n : Int); omega)
        have hpe := Kd.R_putg D1.hE (i : Int) (-1)
        simp only [Int.toNat_natCast] at hce hpe
        rw [filA_set n _ _ i hin] at hpe
        have D2 := Aside0.mk (D1.setE hpe.1 hpe.2)
        have HB2 := Aside0.mk (blk_grown hb2 hpe.2 (Kd.R_ne D1.hE hb2 (by decide)))
        obtain ⟨e0, ef0⟩ := hce
        clear hst D1 hb2 hpe
        go_wp2_with fail
        go_roundg (n - i)
        case measure => have := hg.out; omega
        case rel => exact ⟨i + 1, by go_num, ⟨by omega⟩, ⟨by omega⟩, D2, HB2⟩
      · obtain rfl : n = i := by have := hi.out; omega
        rw [filA_end, filA_end] at HS
        have HS0 : Aside0 (SS (⟨w, s, q, n, A, c, es, gv, cv, gs, cs, go, co, gu, cu, ge, ce⟩ : Ctx) wr (List.replicate n (⟨1099511627776, 0⟩ : S34)) (List.replicate n false) (opB es 0) (usB n es 0) (List.replicate n (-1 : Int)) ⟨[], 0, 0⟩) := ⟨by have h := HS.out; simpa [opB, usB] using h⟩
        clear HS hg hi
        have b1c : wr.cell? ⟨b1, 1, none⟩ = some (.slice A es.length c) := (by rw [blk_cell HB.out 1]; rfl)
        have hii : ¬ ((n : Int) < (n : Int)) := by omega
        clear hin
        obtain ⟨wO, rfl⟩ : ∃ wO : World, wO = wr := ⟨_, rfl⟩
        obtain ⟨gO, rfl⟩ : ∃ gO : Nat, gO = gk := ⟨_, rfl⟩
        go_wp2_with fail
        go_loopg [62] (es.length + 1) (fun g v62 wr => ∃ k : Nat, v62 = .int .i64 k ∧ Aside0 (k ≤ es.length) ∧ Aside0 (es.length - k < g) ∧ Aside0 (SS (⟨w, s, q, n, A, c, es, gv, cv, gs, cs, go, co, gu, cu, ge, ce⟩ : Ctx) wr (List.replicate n (⟨1099511627776, 0⟩ : S34)) (List.replicate n false) (opB es k) (usB n es k) (List.replicate n (-1 : Int)) ⟨[], 0, 0⟩) ∧ Aside0 (wr.heap[b1]? = some (.cells #[.int .i64 (n : Nat), .slice A es.length c] 24 (0, 0))))
        case atStart => exact ⟨0, by go_num, ⟨by omega⟩, ⟨by omega⟩, HS0, HB⟩
        case round =>
          obtain ⟨k, rfl, hk, hg, HS, HB⟩ := hrel
          clear HS0 b1c
          by_cases hkn : k < es.length
          · obtain ⟨ad, A1, c1, hA, d0, d1, d2, d3, d4, hc1, hC1⟩ := at_T54 hC (k : Int) (by omega) (by omega)
            subst hA
            replace d0 := pw_cell_below HS.out.hB d0; replace d1 := pw_cell_below HS.out.hB d1; replace d2 := pw_cell_below HS.out.hB d2; replace d3 := pw_cell_below HS.out.hB d3; replace d4 := pw_cell_below HS.out.hB d4
            have hokk := okE_rd hok (k : Int) (by omega) (by omega)
            have hop := opB_set es k hkn
            obtain ⟨e, he_⟩ : ∃ e, rd_T54 es (k : Int) = e := ⟨_, rfl⟩
            rw [he_] at d0 d1 d2 d3 d4 hc1 hC1 hokk hop
            simp only [Int.toNat_natCast] at d0 d1 d2 d3 d4
            have HE := Aside0.mk he_
            have HOP := Aside0.mk hop
            have HOK := Aside0.mk hokk
            have HC1 := Aside0.mk hC1
            clear he_ hop hokk hC1
            go_upto_region 13 with (fail)
            have hA8 := h_alloc54 wr (.cells #[.int .i64 e.f0, .slice A1 e.f1.length c1, .int .i64 e.f2, .int .i64 e.f3.f0, .int .i64 e.f3.f1] 54)
            have HSA := Aside0.mk (HS.out.below hA8.1)
            have HBA := Aside0.mk (blk_below HB.out hA8.1)
            have H8 := Aside0.mk hA8.2
            obtain ⟨b8, hb8⟩ : ∃ b8, b8 = wr.heap.size := ⟨_, rfl⟩
            rw [← hb8] at H8 ⊢
            clear hb8 hA8 HS HB d0 d1 d2 d3 d4
            generalize (wr.alloc (.cells #[.int .i64 e.f0, .slice A1 e.f1.length c1, .int .i64 e.f2, .int .i64 e.f3.f0, .int .i64 e.f3.f1] 54)) = wA at *
            have hd := below_drew (Below.refl wA.heap.size wA)
            have HD := HSA.out.below hd
            have h8 := blk_below H8.out hd
            have s4 : wA.drew.cell? ⟨s, 4, none⟩ = some (.slice (some ⟨go, 0, none⟩) es.length co) := (by rw [blk_cell HD.hs 4]; rfl)
            have h81 : wA.drew.cell? ⟨b8, 1, none⟩ = some (.slice A1 e.f1.length c1) := (by rw [blk_cell h8 1]; rfl)
            have hoc := scal_cell HD.hO 0 (k : Int) (by omega) (by show (k : Int) < (es.length : Int); omega)
            have hpo := Kd.R_putg HD.hO (k : Int) (e.f1.length : Int)
            simp only [Int.toNat_natCast] at hoc hpo
            rw [HOP.out] at hpo
            obtain ⟨W1, hW1⟩ : ∃ W1, W1 = wA.drew.setCell ⟨go, k, none⟩ (.int .i64 (e.f1.length : Int)) := ⟨_, rfl⟩
            rw [← hW1] at hpo
            have D1 := HD.setO hpo.1 hpo.2
            have h82 := blk_grown h8 hpo.2 (Kd.R_ne HD.hO h8 (by decide))
            have hb2 := blk_grown (blk_below HBA.out hd) hpo.2 (Kd.R_ne HD.hO (blk_below HBA.out hd) (by decide))
            have s41 : W1.cell? ⟨s, 4, none⟩ = some (.slice (some ⟨go, 0, none⟩) es.length co) := (by rw [blk_cell D1.hs 4]; rfl)
            have h811 : W1.cell? ⟨b8, 1, none⟩ = some (.slice A1 e.f1.length c1) := (by rw [blk_cell h82 1]; rfl)
            obtain ⟨o0, of0⟩ := hoc
            have HD1 := Aside0.mk D1
            have H82 := Aside0.mk h82
            have HB2 := Aside0.mk hb2
            clear D1 h82 hb2 hpo HD h8 H8 HSA HBA hd
            refine start_ (n := 10) (S := fun w' => w'.cell? ⟨s, 4, none⟩ = some (.slice (some ⟨go, 0, none⟩) es.length co) ∧ w'.cell? ⟨b8, 1, none⟩ = some (.slice A1 e.f1.length c1)) (ds := []) #[false, false, false, false, false, false, false, false, false, false] (by kernel_rfl) rfl rfl ⟨s4, h81⟩ (fun hHeld => ?_)
            refine with_tabW R79.tab13 R79.bits13 (fun HT_ HW_ => ?_)
            refine bulk_ (fuel := 1) [(0, 67), (1, 68), (2, 69), (3, 70), (4, 71), (5, 72), (6, 73), (7, 74), (8, 75)] #[true, true, true, true, true, true, true, true, true, false] (bulkB_of HT_.out HW_.out _ _ _ (by kernel_rfl)) rfl (fun _ _ _ _ _ h => h) hHeld (a' := ?_) ?_ ?_
            rotate_left
            · iterate 9
                refine chain_cons (v := ?_) (a1 := ?_) rfl rfl (Or.inl ⟨by rfl, ?_⟩) ?_ ?_
                rotate_left 2
                · rintro w' ⟨s0, s1⟩
                  go_simp
                  with_reducible rfl
                · simp only [Act.put, List.setIfInBounds_toArray, List.set_cons_zero, List.set_cons_succ, i64_w, i32_w]
                  rfl
              exact chain_nil
            refine one_ (i := 9) (N := none) #[true, true, true, true, true, true, true, true, true, true] rfl rfl (one_of HT_.out (by kernel_rfl)) (by decide) (fun K hK => ?_)
            refine skip_ (w1 := W1) (by rfl) rfl ?_ ?_
            · rw [hW1]
              first | (go_simp; done) | (go_simp; rfl)
            refine hK.out _ _ ⟨s41, h811⟩ (fun hHeld => ?_)
            clear hK K
            refine done_ (done_of HT_.out (by kernel_rfl)) ?_
            clear s4 h81 o0 of0 hW1 s41 hHeld
            obtain ⟨wP, rfl⟩ : ∃ wP : World, wP = W1 := ⟨_, rfl⟩
            obtain ⟨gP, rfl⟩ : ∃ gP : Nat, gP = gk := ⟨_, rfl⟩
            have hlen6 := HOK.out.2.2
            go_wp2_with fail
            go_loopg [79] (e.f1.length + 1) (fun g v79 wr => ∃ j : Nat, v79 = .int .i64 j ∧ Aside0 (j ≤ e.f1.length) ∧ Aside0 (e.f1.length - j < g) ∧ Aside0 (SS (⟨w, s, q, n, some ad, c, es, gv, cv, gs, cs, go, co, gu, cu, ge, ce⟩ : Ctx) wr (List.replicate n (⟨1099511627776, 0⟩ : S34)) (List.replicate n false) (opB es (k + 1)) (usT (usB n es k) (k : Nat) (e.f1.take j)) (List.replicate n (-1 : Int)) ⟨[], 0, 0⟩) ∧
              Aside0 (wr.heap[b1]? = some (.cells #[.int .i64 (n : Nat), .slice (some ad) es.length c] 24 (0, 0))) ∧ Aside0 (wr.heap[b8]? = some (.cells #[.int .i64 e.f0, .slice A1 e.f1.length c1, .int .i64 e.f2, .int .i64 e.f3.f0, .int .i64 e.f3.f1] 54 (0, 0))))
            case atStart => exact ⟨0, by go_num, ⟨by omega⟩, ⟨by omega⟩, HD1, HB2, H82⟩
            case round =>
              obtain ⟨j, rfl, hj, hgj, HS, HB, H8⟩ := hrel
              clear HD1 HB2 H82 h811
              by_cases hjn : j < e.f1.length
              · obtain ⟨ta, rfl, htc⟩ := int_at (Kd.C_below HC1.out HS.out.hB) j hjn
                have htr := HOK.out.2.1 (e.f1.getD j 0) (by rw [List.getD_eq_getElem?_getD, List.getElem?_eq_getElem hjn]; exact List.getElem_mem _)
                have hus := usT_take (usB n es k) (k : Nat) e.f1 j hjn
                have hltl := usT_len (usB n es k) (k : Nat) (e.f1.take j) (e.f1.getD j 0).toNat
                have hltl2 := usB_len n es (fun x hx => (hok x hx).2.2) k (e.f1.getD j 0).toNat (by omega)
                obtain ⟨us, hus_⟩ : ∃ us, usT (usB n es k) (k : Nat) (e.f1.take j) = us := ⟨_, rfl⟩
                rw [hus_] at hus HS hltl
                generalize e.f1.getD j 0 = t at *
                obtain ⟨ht0, ht1⟩ := htr
                go_upto_region 17 with (fail)
                have HSD := Aside0.mk (HS.out.below (below_drew (Below.refl _ _)))
                obtain ⟨oki, cc, hcl, hM, hcc, hoki, hH⟩ := Kd.S_lend HSD.out.hU [] t ht0 (by show t < (n : Int); exact ht1)
                obtain ⟨vt, rfl, hvt⟩ := hM
                rw [List.length_take] at hltl
                obtain ⟨lt, hlt_⟩ : ∃ lt, us.getD t.toNat [] = lt := ⟨_, rfl⟩
                rw [hlt_] at hvt hltl hus
                have hltl3 : (lt.length + 1) * 8 ≤ 140737488355328 := by have := Nat.min_le_left j e.f1.length; omega
                have hsz : go < wr.drew.heap.size := Kd.R_lt HSD.out.hO go rfl
                have hsze : ge < wr.drew.heap.size := Kd.R_lt HSD.out.hE ge rfl
                have s5 : wr.drew.cell? ⟨s, 5, none⟩ = some (.slice (some ⟨gu, 0, none⟩) n cu) := (by rw [blk_cell HSD.out.hs 5]; rfl)
                have hut : wr.drew.cell? ⟨gu, t.toNat, none⟩ = some vt := (by have h := hcc 0 vt rfl; rw [show (Kd.slice 3 (Kd.int .i64)).sz = 1 from rfl, Nat.mul_one, Nat.add_zero] at h; exact h)
                obtain ⟨OKV, hOKV⟩ : ∃ OKV : Nat → Prop, OKV = fun k => oki k ∨ (k ≠ go ∧ k ≠ ge) ∧ wr.drew.heap.size ≤ k := ⟨_, rfl⟩
                have HHW := Aside0.mk (show Kd.H (Kd.slice 3 (Kd.int .i64)) 44 wr.drew w.heap.size (fun k => k ≠ go ∧ k ≠ ge) (.slice (some ⟨gu, 0, none⟩) n cu) us t OKV [vt] by rw [hOKV]; exact Kd.H_widen hH)
                have HVT := Aside0.mk (show Kd.R (Kd.int .i64) 3 wr.drew w.heap.size OKV vt lt by rw [hOKV]; exact Kd.R_mono hvt (fun k hk => Or.inl hk))
                have hfr : ∀ k, wr.drew.heap.size ≤ k → OKV k := fun k hk => by rw [hOKV]; exact Or.inr ⟨⟨by omega, by omega⟩, hk⟩
                have HVT0 := Aside0.mk hvt
                have HOKI := Aside0.mk (show ∀ k, oki k → k ≠ go ∧ k ≠ ge from fun k hk => (hoki k hk).1)
                obtain ⟨uc, huc⟩ := Kd.S_typed HSD.out.hU gu rfl
                have HGU := Aside0.mk huc
                have HNB := Aside0.mk (Kd.S_ne HS.out.hU HB.out (by decide))
                have HN8 := Aside0.mk (Kd.S_ne HS.out.hU H8.out (by decide))
                have HUS := Aside0.mk hus
                clear hus hlt_ hus_ hvt hH hoki hcc hcl huc hsz hsze hltl hltl2 hOKV htc
                replace hltl := hltl3
                clear hltl3
                refine start_ (n := 17) (S := fun w' => w'.cell? ⟨s, 5, none⟩ = some (.slice (some ⟨gu, 0, none⟩) n cu) ∧ w'.cell? ⟨gu, t.toNat, none⟩ = some (vt)) (ds := [16]) #[false, false, false, false, false, false, false, false, false, false, false, false, false, false, false, false, false] (by kernel_rfl) rfl rfl ⟨s5, hut⟩ (fun hHeld => ?_)
                refine with_tabW R79.tab17 R79.bits17 (fun HT_ HW_ => ?_)
                refine bulkP_ (fuel := 8) [(0, 83), (1, 84), (2, 85), (4, 87), (5, 88), (6, 89), (7, 90), (9, 92), (12, 95)] #[true, true, true, false, true, true, true, true, false, true, false, false, true, false, false, false, false] (bulkP_of HT_.out _ _ _ (by kernel_rfl)) rfl (fun _ _ _ _ _ h => h) (a' := ?_) ?_ ?_
                rotate_left
                · iterate 9
                    refine chainP_cons (v := ?_) (a1 := ?_) rfl rfl (Or.inl ⟨by rfl, ?_⟩) ?_ ?_
                    rotate_left 2
                    · intro w'
                      go_simp
                      with_reducible rfl
                    · simp only [Act.put, List.setIfInBounds_toArray, List.set_cons_zero, List.set_cons_succ, i64_w, i32_w]
                      rfl
                  exact chainP_nil
                refine bulk_ (fuel := 6) [(3, 86), (8, 91)] #[true, true, true, true, true, true, true, true, true, true, false, false, true, false, false, false, false] (bulkB_of HT_.out HW_.out _ _ _ (by kernel_rfl)) rfl (fun _ _ _ _ _ h => h) hHeld (a' := ?_) ?_ ?_
                rotate_left
                · iterate 2
                    refine chain_cons (v := ?_) (a1 := ?_) rfl rfl (Or.inl ⟨by rfl, ?_⟩) ?_ ?_
                    rotate_left 2
                    · rintro w' ⟨s0, s1⟩
                      go_simp
                      with_reducible rfl
                    · simp only [Act.put, List.setIfInBounds_toArray, List.set_cons_zero, List.set_cons_succ, i64_w, i32_w]
                      rfl
                  exact chain_nil
                refine bulkP_ (fuel := 5) [(10, 93)] #[true, true, true, true, true, true, true, true, true, true, true, false, true, false, false, false, false] (bulkP_of HT_.out _ _ _ (by kernel_rfl)) rfl (fun _ _ _ _ _ h => h) (a' := ?_) ?_ ?_
                rotate_left
                · iterate 1
                    refine chainP_cons (v := ?_) (a1 := ?_) rfl rfl (Or.inl ⟨by rfl, ?_⟩) ?_ ?_
                    rotate_left 2
                    · intro w'
                      go_simp
                      with_reducible rfl
                    · simp only [Act.put, List.setIfInBounds_toArray, List.set_cons_zero, List.set_cons_succ, i64_w, i32_w]
                      rfl
                  exact chainP_nil
                refine bulk_ (fuel := 4) [(11, 94)] #[true, true, true, true, true, true, true, true, true, true, true, true, true, false, false, false, false] (bulkB_of HT_.out HW_.out _ _ _ (by kernel_rfl)) rfl (fun _ _ _ _ _ h => h) hHeld (a' := ?_) ?_ ?_
                rotate_left
                · iterate 1
                    refine chain_cons (v := ?_) (a1 := ?_) rfl rfl (Or.inl ⟨by rfl, ?_⟩) ?_ ?_
                    rotate_left 2
                    · rintro w' ⟨s0, s1⟩
                      go_simp
                      with_reducible rfl
                    · simp only [Act.put, List.setIfInBounds_toArray, List.set_cons_zero, List.set_cons_succ, i64_w, i32_w]
                      rfl
                  exact chain_nil
                refine one_ (i := 13) (N := some 96) #[true, true, true, true, true, true, true, true, true, true, true, true, true, true, false, false, false] rfl rfl (one_of HT_.out (by kernel_rfl)) (by decide) (fun K hK => ?_)
                refine value_ (w1 := wr.drew.alloc (.cells #[.int .i64 (k : Nat)] 3)) (v := .slice (some ⟨wr.drew.heap.size, 0, none⟩) 1 1) (by rfl) rfl ?_ ?_
                · first | (go_simp; done) | (go_simp; rfl)
                refine hK.out _ _ ⟨old1 hHeld.1 _, old1 hHeld.2 _⟩ (fun hHeld => ?_)
                clear hK K
                refine norm_ (a' := ?_) ?_ ?_
                rotate_left
                · show Act.put _ (some 96) _ = _
                  simp only [Act.put, List.setIfInBounds_toArray, List.set_cons_zero, List.set_cons_succ, i64_w, i32_w]
                  rfl
                refine one_ (i := 14) (N := some 97) #[true, true, true, true, true, true, true, true, true, true, true, true, true, true, true, false, false] rfl rfl (one_of HT_.out (by kernel_rfl)) (by decide) (fun K hK => ?_)
                refine Kd.R_append_step (Kd.int .i64) (w0 := w) (W := wr.drew) w.heap.size (by rfl) (.tmp 94) (.tmp 96) 44 3 (.int .i64 0) 8 rfl Try.underlying44 info3 rfl (by decide) (by omega) vt lt (k : Int) [.int .i64 (k : Nat)] OKV (fun _ => False) rfl rfl rfl (fun _ hk => hk.elim) hfr HVT.out HSD.out.hB HSD.out.size hltl ?_
                intro v1 w2 hR2 hB2 hg2 hat2
                obtain ⟨Av1, cv1, rfl⟩ := Kd.R_slice hR2
                have s52 := cell_grown hg2 s5 (Kd.R_ne HVT.out HSD.out.hs (by decide))
                have hu2 := cell_grown hg2 hut (Kd.R_ne HVT.out HGU.out (by decide))
                refine hK.out _ _ ⟨s52, hu2⟩ (fun hHeld => ?_)
                clear hK K
                refine norm_ (a' := ?_) ?_ ?_
                rotate_left
                · show Act.put _ (some 97) _ = _
                  simp only [Act.put, List.setIfInBounds_toArray, List.set_cons_zero, List.set_cons_succ, i64_w, i32_w]
                  rfl
                refine bulkP_ (fuel := 1) [(15, 98)] #[true, true, true, true, true, true, true, true, true, true, true, true, true, true, true, true, false] (bulkP_of HT_.out _ _ _ (by kernel_rfl)) rfl (fun _ _ _ _ _ h => h) (a' := ?_) ?_ ?_
                rotate_left
                · iterate 1
                    refine chainP_cons (v := ?_) (a1 := ?_) rfl rfl (Or.inl ⟨by rfl, ?_⟩) ?_ ?_
                    rotate_left 2
                    · intro w'
                      go_simp
                      with_reducible rfl
                    · simp only [Act.put, List.setIfInBounds_toArray, List.set_cons_zero, List.set_cons_succ, i64_w, i32_w]
                      rfl
                  exact chainP_nil
                refine last_ (i := 16) (N := none) #[true, true, true, true, true, true, true, true, true, true, true, true, true, true, true, true, true] rfl rfl (one_of HT_.out (by kernel_rfl)) (by decide) (fun K hK => ?_)
                have hH2 := Kd.H_grown HHW.out hg2 (fun k hk => HVT.out.1 k hk)
                have hfz := (Kd.H_at hH2 ht0 (by show t < (n : Int); exact ht1)).2 0
                have hsg := Kd.S_seg0 hH2 ht0 (by show t < (n : Int); exact ht1) (seg := [.slice Av1 (lt ++ [(k : Int)]).length cv1]) (j := 0) (x' := lt ++ [(k : Int)]) (okp := OKV) (Nat.le_refl 1) ⟨_, rfl, hR2⟩ (fun _ hk => hk)
                rw [show (Kd.slice 3 (Kd.int .i64)).sz = 1 from rfl, Nat.mul_one, Nat.add_zero] at hsg hfz
                obtain ⟨W3, hW3⟩ : ∃ W3, W3 = w2.setCell ⟨gu, t.toNat, none⟩ (.slice Av1 (lt ++ [(k : Int)]).length cv1) := ⟨_, rfl⟩
                replace hsg := (show Kd.S (Kd.slice 3 (Kd.int .i64)) 44 W3 w.heap.size (fun k => k ≠ go ∧ k ≠ ge) (.slice (some ⟨gu, 0, none⟩) n cu) (List.set _ t.toNat (lt ++ [(k : Int)])) ∧ w2.grownBy W3 (some gu) by rw [hW3]; exact hsg)
                have HD3 := Aside0.mk (HSD.out.uses HVT0.out HOKI.out hg2 hB2 hsg.2 hsg.1)
                have HB3 := Aside0.mk (blk_grown (blk_grown (blk_below HB.out (below_drew (Below.refl _ _))) hg2 (Kd.R_ne HVT.out (blk_below HB.out (below_drew (Below.refl _ _))) (by decide))) hsg.2 HNB.out)
                have H83 := Aside0.mk (blk_grown (blk_grown (blk_below H8.out (below_drew (Below.refl _ _))) hg2 (Kd.R_ne HVT.out (blk_below H8.out (below_drew (Below.refl _ _))) (by decide))) hsg.2 HN8.out)
                clear hsg hH2
                refine skip_ (w1 := W3) (by rfl) rfl ?_ ?_
                · rw [hW3]
                  first | (go_simp; done) | (go_simp; rfl)
                clear hW3
                refine hK.out _ _ ?_
                clear hK K
                refine done_ (done_of HT_.out (by kernel_rfl)) ?_
                clear s5 hut hfr
                go_wp2_with fail
                go_roundg (e.f1.length - j)
                case measure => have := hgj.out; omega
                case rel => exact ⟨j + 1, by go_num, ⟨by omega⟩, ⟨by omega⟩, ⟨by rw [HUS.out]; exact HD3.out⟩, HB3, H83⟩
              · obtain rfl : j = e.f1.length := by have := hj.out; omega
                have hjj : ¬ ((e.f1.length : Int) < (e.f1.length : Int)) := by omega
                rw [List.take_length] at HS
                have HS1 : Aside0 (SS (⟨w, s, q, n, some ad, c, es, gv, cv, gs, cs, go, co, gu, cu, ge, ce⟩ : Ctx) wr (List.replicate n (⟨1099511627776, 0⟩ : S34)) (List.replicate n false) (opB es (k + 1)) (usB n es (k + 1)) (List.replicate n (-1 : Int)) ⟨[], 0, 0⟩) := ⟨by have h := HS.out; rw [← HE.out] at h; exact h⟩
                go_wp2_with fail
                go_roundg (es.length - k)
                case measure => have := hg.out; omega
                case rel => exact ⟨k + 1, by go_num, ⟨by omega⟩, ⟨by omega⟩, HS1, HB⟩
          · obtain rfl : k = es.length := by have := hk.out; omega
            have hkk : ¬ ((es.length : Int) < (es.length : Int)) := by omega
            have HS0 : Aside0 (SS (⟨w, s, q, n, A, c, es, gv, cv, gs, cs, go, co, gu, cu, ge, ce⟩ : Ctx) wr (List.replicate n (⟨1099511627776, 0⟩ : S34)) (List.replicate n false) (opB es es.length) (usB n es es.length) (List.replicate n (-1 : Int)) (initQ es (List.replicate n (⟨1099511627776, 0⟩ : S34)) (List.replicate n false) 0)) := ⟨HS.out⟩
            have s4 : wr.cell? ⟨s, 4, none⟩ = some (.slice (some ⟨go, 0, none⟩) es.length co) := (by rw [blk_cell HS.out.hs 4]; rfl)
            clear HS hg hk hkn
            obtain ⟨wP, rfl⟩ : ∃ wP : World, wP = wr := ⟨_, rfl⟩
            obtain ⟨gP, rfl⟩ : ∃ gP : Nat, gP = gk := ⟨_, rfl⟩
            go_wp2_with fail
            go_loopg [106] (es.length + 1) (fun g v106 wr => ∃ k : Nat, v106 = .int .i64 k ∧ Aside0 (k ≤ es.length) ∧ Aside0 (es.length - k < g) ∧ Aside0 (SS (⟨w, s, q, n, A, c, es, gv, cv, gs, cs, go, co, gu, cu, ge, ce⟩ : Ctx) wr (List.replicate n (⟨1099511627776, 0⟩ : S34)) (List.replicate n false) (opB es es.length) (usB n es es.length) (List.replicate n (-1 : Int)) (initQ es (List.replicate n (⟨1099511627776, 0⟩ : S34)) (List.replicate n false) k)) ∧ Aside0 (wr.heap[b1]? = some (.cells #[.int .i64 (n : Nat), .slice A es.length c] 24 (0, 0))))
            case atStart => exact ⟨0, by go_num, ⟨by omega⟩, ⟨by omega⟩, HS0, HB⟩
            case round =>
              obtain ⟨k, rfl, hk, hg, HS, HB⟩ := hrel
              clear HS0 s4
              by_cases hkn : k < es.length
              · obtain ⟨o0, _⟩ := scal_cell HS.out.hO 0 (k : Int) (by omega) (by show (k : Int) < (es.length : Int); omega)
                rw [show (opB es es.length).getD (k : Int).toNat 0 = ((rd_T54 es (k : Int)).f1.length : Int) from opB_get es k hkn, Int.toNat_natCast] at o0
                obtain ⟨ad, A1, c1, hA, d0, d1, d2, d3, d4, hc1, hC1⟩ := at_T54 hC (k : Int) (by omega) (by omega)
                have hb1c : wr.cell? ⟨b1, 1, none⟩ = some (.slice (some ad) es.length c) := (by rw [blk_cell HB.out 1, ← hA]; rfl)
                replace d1 := pw_cell_below HS.out.hB d1
                simp only [Int.toNat_natCast] at d1
                have hql := initQ_length es (List.replicate n (⟨1099511627776, 0⟩ : S34)) (List.replicate n false) k
                have hiq := initQ_succ es (List.replicate n (⟨1099511627776, 0⟩ : S34)) (List.replicate n false) k
                have hle := (okE_rd hok (k : Int) (by omega) (by omega)).2.2
                clear d0 d2 d3 d4 hC1
                by_cases hte : (rd_T54 es (k : Int)).f1.length = 0
                · rw [hte] at o0 d1
                  rw [if_pos hte] at hiq
                  have HIQ := Aside0.mk hiq
                  clear hiq hte hle hA
                  go_wp2_with (first | (go_at_call 104; refine (offer_calls (⟨w, s, q, n, A, c, es, gv, cv, gs, cs, go, co, gu, cu, ge, ce⟩ : Ctx) _ _ _ _ _ _ _ HS.out hok (k : Int) (by omega) (by show (k : Int) < (es.length : Int); omega) (by omega)).mono ?_; rintro x w5 ⟨rfl, hS5, hF5⟩; have HS5 := Aside0.mk hS5; have HB5 := Aside0.mk (hF5.keep _ _ _ _ HB.out (by decide) (by decide)); clear hS5 hF5))
                  go_roundg (es.length - k)
                  case measure => have := hg.out; omega
                  case rel => exact ⟨k + 1, by go_num, ⟨by omega⟩, ⟨by omega⟩, ⟨by rw [HIQ.out]; exact HS5.out⟩, HB5⟩
                · rw [if_neg hte] at hiq
                  have HIQ := Aside0.mk hiq
                  have hte2 : (((rd_T54 es (k : Int)).f1.length : Int) == 0) = false := by rw [beq_eq_false_iff_ne]; omega
                  have hte3 : ¬ ((rd_T54 es (k : Int)).f1.length : Int) = 0 := by omega
                  clear hiq hA
                  generalize (rd_T54 es (k : Int)).f1.length = m at *
                  go_wp2_with fail
                  go_roundg (es.length - k)
                  case measure => have := hg.out; omega
                  case rel => exact ⟨k + 1, by go_num, ⟨by omega⟩, ⟨by omega⟩, ⟨by rw [HIQ.out]; exact HS.out⟩, HB⟩
              · obtain rfl : k = es.length := by have := hk.out; omega
                have hkk : ¬ ((es.length : Int) < (es.length : Int)) := by omega
                obtain ⟨us, hus_⟩ : ∃ us, usB n es es.length = us := ⟨_, rfl⟩
                obtain ⟨m0, hm0⟩ : ∃ m0 : MS, m0 = ⟨List.replicate n (⟨1099511627776, 0⟩ : S34), List.replicate n false, opB es es.length, initQ es (List.replicate n (⟨1099511627776, 0⟩ : S34)) (List.replicate n false) es.length⟩ := ⟨_, rfl⟩
                have HOM := Aside0.mk (okM_init n es hok m0 hm0)
                have HMU := Aside0.mk (mu_init n es hT he m0 hm0)
                rw [hus_] at HOM HMU HS
                have HS0 : Aside0 (SS (⟨w, s, q, n, A, c, es, gv, cv, gs, cs, go, co, gu, cu, ge, ce⟩ : Ctx) wr m0.vs m0.st m0.op us (List.replicate n (-1 : Int)) m0.Q) := ⟨by rw [hm0]; exact HS.out⟩
                have HM0 := Aside0.mk hm0
                have HUS := Aside0.mk hus_
                clear HS hg hk hkn hm0 hus_
                obtain ⟨wQ, rfl⟩ : ∃ wQ : World, wQ = wr := ⟨_, rfl⟩
                obtain ⟨gQ, rfl⟩ : ∃ gQ : Nat, gQ = gk := ⟨_, rfl⟩
                go_wp2_with fail
                go_loopg [] 1000000 (fun g wr => ∃ m : MS, Aside0 (SS (⟨w, s, q, n, A, c, es, gv, cv, gs, cs, go, co, gu, cu, ge, ce⟩ : Ctx) wr m.vs m.st m.op us (List.replicate n (-1 : Int)) m.Q) ∧ Aside0 (wr.heap[b1]? = some (.cells #[.int .i64 (n : Nat), .slice A es.length c] 24 (0, 0))) ∧ Aside0 (okM n es us m) ∧ Aside0 (mu us m < g) ∧ Aside0 (g ≤ 1000000) ∧ Aside0 (mainL es us g m = mainL es us 1000000 m0))
                case atStart => exact ⟨m0, HS0, HB, HOM, HMU, ⟨Nat.le_refl _⟩, ⟨rfl⟩⟩
                case round =>
                  obtain ⟨m, HS, HB, HO, HG, HL, HE⟩ := hrel
                  clear HS0 HOM HMU
                  have s6 : wr.cell? ⟨s, 6, none⟩ = some (.pointer (some ⟨q, 0, none⟩)) := (by rw [blk_cell HS.out.hs 6]; rfl)
                  have hqs := HS.out.hQ
                  cases hqe : m.Q.es with
                  | nil =>
                    rw [hqe] at hqs
                    have HQS := Aside0.mk hqs
                    have HEM : Aside0 (m = endM n es) := ⟨by have h1 := (mainL_nil es us gk m hqe).symm.trans HE.out; rw [HM0.out, ← HUS.out] at h1; exact h1⟩
                    clear hqs HE HG HL HO HM0
                    go_upto_region 30 with (first | (go_at_call 105; refine (pop_empty w.heap.size q m.Q.nx m.Q.ck wr HQS.out).mono ?_; rintro x w5 ⟨rfl, hQ5, hF5⟩; have HS5 := Aside0.mk (HS.out.queue hF5 ⟨[], m.Q.nx, m.Q.ck⟩ hQ5); have HB5 := Aside0.mk (hF5.keep _ _ _ _ HB.out (by decide) (by decide)); clear hQ5 hF5 s6))
                    have hA13 := h_alloc54 w5 (.cells #[.int .i64 0, .int .i64 0, .int .i64 0] 124)
                    have HSA := Aside0.mk (HS5.out.below hA13.1)
                    have HBA := Aside0.mk (blk_below HB5.out hA13.1)
                    clear hA13 HS5 HB5 HS HB HQS
                    generalize (w5.alloc (.cells #[.int .i64 0, .int .i64 0, .int .i64 0] 124)) = wA at *
                    have b1c : wA.cell? ⟨b1, 1, none⟩ = some (.slice A es.length c) := (by rw [blk_cell HBA.out 1]; rfl)
                    obtain ⟨Q0, hQ0⟩ : ∃ Q0 : QQ, Q0 = ⟨[], m.Q.nx, m.Q.ck⟩ := ⟨_, rfl⟩
                    rw [← hQ0] at HSA
                    clear hQ0 hqe
                    have HSE : Aside0 (SS (⟨w, s, q, n, A, c, es, gv, cv, gs, cs, go, co, gu, cu, ge, ce⟩ : Ctx) wA m.vs m.st m.op us (edL n es m.vs m.st 0) Q0) := HSA
                    clear HSA HBA
                    obtain ⟨wM, rfl⟩ : ∃ wM : World, wM = wr := ⟨_, rfl⟩
                    obtain ⟨gM, rfl⟩ : ∃ gM : Nat, gM = gk := ⟨_, rfl⟩
                    go_wp2_with fail
                    go_loopg [152] (es.length + 1) (fun g v152 wr => ∃ k : Nat, v152 = .int .i64 k ∧ Aside0 (k ≤ es.length) ∧ Aside0 (es.length - k < g) ∧ Aside0 (SS (⟨w, s, q, n, A, c, es, gv, cv, gs, cs, go, co, gu, cu, ge, ce⟩ : Ctx) wr m.vs m.st m.op us (edL n es m.vs m.st k) Q0))
                    case atStart => exact ⟨0, by go_num, ⟨by omega⟩, ⟨by omega⟩, HSE⟩
                    case round =>
                      obtain ⟨k, rfl, hk, hg, HS⟩ := hrel
                      clear HSE b1c
                      by_cases hkn : k < es.length
                      · obtain ⟨ad, A1, c1, hA, d0, d1, d2, d3, d4, hc1, hC1⟩ := at_T54 hC (k : Int) (by omega) (by omega)
                        subst hA
                        replace d0 := pw_cell_below HS.out.hB d0; replace d1 := pw_cell_below HS.out.hB d1; replace d2 := pw_cell_below HS.out.hB d2; replace d3 := pw_cell_below HS.out.hB d3; replace d4 := pw_cell_below HS.out.hB d4
                        have hokk := okE_rd hok (k : Int) (by omega) (by omega)
                        have hed := edL_succ n es m.vs m.st k
                        unfold edStep at hed
                        obtain ⟨e, he_⟩ : ∃ e, rd_T54 es (k : Int) = e := ⟨_, rfl⟩
                        rw [he_] at d0 d1 d2 d3 d4 hc1 hC1 hokk hed
                        simp only [Int.toNat_natCast] at d0 d1 d2 d3 d4
                        obtain ⟨ed, hed_⟩ : ∃ ed, edL n es m.vs m.st k = ed := ⟨_, rfl⟩
                        rw [hed_] at hed HS
                        have HED := Aside0.mk hed
                        have HOK := Aside0.mk hokk
                        have HC1 := Aside0.mk hC1
                        clear he_ hed_ hed hokk hC1
                        go_upto_region 33 with (fail)
                        have hA8 := h_alloc54 wr (.cells #[.int .i64 e.f0, .slice A1 e.f1.length c1, .int .i64 e.f2, .int .i64 e.f3.f0, .int .i64 e.f3.f1] 54)
                        have HSA := Aside0.mk (HS.out.below hA8.1)
                        have H8 := Aside0.mk hA8.2
                        obtain ⟨b8, hb8⟩ : ∃ b8, b8 = wr.heap.size := ⟨_, rfl⟩
                        rw [← hb8] at H8 ⊢
                        clear hb8 hA8 HS d0 d1 d2 d3 d4
                        generalize (wr.alloc (.cells #[.int .i64 e.f0, .slice A1 e.f1.length c1, .int .i64 e.f2, .int .i64 e.f3.f0, .int .i64 e.f3.f1] 54)) = wA at *
                        have hd := below_drew (Below.refl wA.heap.size wA)
                        have HD := HSA.out.below hd
                        have h8 := blk_below H8.out hd
                        have HDA := Aside0.mk HD
                        have H8A := Aside0.mk h8
                        have h80 : wA.drew.cell? ⟨b8, 0, none⟩ = some (.int .i64 e.f0) := (by rw [blk_cell h8 0]; rfl)
                        obtain ⟨⟨he0, he1⟩, hte, hle⟩ := HOK.out
                        have HTE := Aside0.mk hte
                        have he1' : e.f0 < (n : Int) := he1
                        obtain ⟨g5, g5f⟩ := scal_cell HD.hE 0 e.f0 he0 he1'
                        obtain ⟨x, hx⟩ : ∃ x, ed.getD e.f0.toNat 0 = x := ⟨_, rfl⟩
                        obtain ⟨bs, hbs⟩ : ∃ bs, m.st.getD e.f0.toNat false = bs := ⟨_, rfl⟩
                        rw [hx] at g5
                        have HX := Aside0.mk hx
                        have HBS := Aside0.mk hbs
                        clear hte hx hbs HSA H8
                        by_cases hx0 : x < 0
                        · have s3 : wA.drew.cell? ⟨s, 3, none⟩ = some (.slice (some ⟨gs, 0, none⟩) n cs) := (by rw [blk_cell HD.hs 3]; rfl)
                          have g3 : wA.drew.cell? ⟨gs, e.f0.toNat, none⟩ = some (.bool bs) := (by rw [← HBS.out]; exact (scal_cell HD.hS false e.f0 he0 he1').1)
                          have h81 : wA.drew.cell? ⟨b8, 1, none⟩ = some (.slice A1 e.f1.length c1) := (by rw [blk_cell h8 1]; rfl)
                          have h82 : wA.drew.cell? ⟨b8, 2, none⟩ = some (.int .i64 e.f2) := (by rw [blk_cell h8 2]; rfl)
                          have h83 : wA.drew.cell? ⟨b8, 3, none⟩ = some (.int .i64 e.f3.f0) := (by rw [blk_cell h8 3]; rfl)
                          have h84 : wA.drew.cell? ⟨b8, 4, none⟩ = some (.int .i64 e.f3.f1) := (by rw [blk_cell h8 4]; rfl)
                          cases bs with
                          | false =>
                            clear h81 h82 h83 h84 HD h8 hd
                            refine start_ (n := 30) (S := fun w' => w'.cell? ⟨b8, 0, none⟩ = some (.int .i64 e.f0) ∧ w'.cell? ⟨ge, e.f0.toNat, none⟩ = some (.int .i64 x) ∧ w'.cell? ⟨s, 3, none⟩ = some (.slice (some ⟨gs, 0, none⟩) n cs) ∧ w'.cell? ⟨gs, e.f0.toNat, none⟩ = some (.bool false)) (ds := []) #[false, false, false, false, false, false, false, false, false, false, false, false, false, false, false, false, false, false, false, false, false, false, false, false, false, false, false, false, false, false] (by kernel_rfl) rfl rfl ⟨h80, g5, s3, g3⟩ (fun hHeld => ?_)
                            refine with_tabW R79.tab33 R79.bits33 (fun HT_ HW_ => ?_)
                            refine bulk_ (fuel := 0) [(0, 157), (1, 158), (2, 159), (3, 160), (4, 161), (5, 162), (6, 163), (7, 164), (8, 165), (9, 166), (10, 167), (11, 168), (12, 169), (13, 170), (14, 171), (15, 172), (16, 173), (17, 174), (18, 175), (19, 176), (20, 177), (21, 178), (22, 179), (23, 180), (24, 181), (25, 182), (26, 183), (27, 184), (28, 185), (29, 186)] #[true, true, true, true, true, true, true, true, true, true, true, true, true, true, true, true, true, true, true, true, true, true, true, true, true, true, true, true, true, true] (bulkB_of HT_.out HW_.out _ _ _ (by kernel_rfl)) rfl (fun _ _ _ _ _ h => h) hHeld (a' := ?_) ?_ ?_
                            rotate_left
                            · iterate 17
                                refine chain_cons (v := ?_) (a1 := ?_) rfl rfl (Or.inl ⟨by rfl, ?_⟩) ?_ ?_
                                rotate_left 2
                                · rintro w' ⟨s0, s1, s2, s3⟩
                                  go_simp
                                  with_reducible rfl
                                · simp only [Act.put, List.setIfInBounds_toArray, List.set_cons_zero, List.set_cons_succ, i64_w, i32_w]
                                  rfl
                              iterate 12
                                refine chain_off (a1 := ?_) rfl rfl (by rfl) ?_ ?_
                                rotate_left
                                · simp only [Act.put, List.setIfInBounds_toArray, List.set_cons_zero, List.set_cons_succ]
                                  rfl
                              iterate 1
                                refine chain_cons (v := ?_) (a1 := ?_) rfl rfl (Or.inl ⟨by rfl, ?_⟩) ?_ ?_
                                rotate_left 2
                                · rintro w' ⟨s0, s1, s2, s3⟩
                                  go_simp
                                  with_reducible rfl
                                · simp only [Act.put, List.setIfInBounds_toArray, List.set_cons_zero, List.set_cons_succ, i64_w, i32_w]
                                  rfl
                              exact chain_nil
                            refine done_ (done_of HT_.out (by kernel_rfl)) ?_
                            clear s3 g3 h80 g5 hHeld
                            go_wp2_with fail
                            go_roundg (es.length - k)
                            case measure => have := hg.out; omega
                            case rel => exact ⟨k + 1, by go_num, ⟨by omega⟩, ⟨by omega⟩, ⟨by rw [HED.out, if_neg (fun h => by rw [HBS.out] at h; exact absurd h.2.1 (by decide))]; exact HDA.out⟩⟩
                          | true =>
                            obtain ⟨g20, g21, _, _⟩ := R34_cells HD.hV e.f0 he0 he1'
                            have s2 : wA.drew.cell? ⟨s, 2, none⟩ = some (.slice (some ⟨gv, 0, none⟩) n cv) := (by rw [blk_cell HD.hs 2]; rfl)
                            obtain ⟨y, hy⟩ : ∃ y, rd_T34 m.vs e.f0 = y := ⟨_, rfl⟩
                            rw [hy] at g20 g21
                            have HY := Aside0.mk hy
                            obtain ⟨hvn, hvc, hCV⟩ := Kd.R_reads' HD.hV
                            have HCV := Aside0.mk hCV
                            have HVN := Aside0.mk (show n = m.vs.length from hvn)
                            have s2' : wA.drew.cell? ⟨s, 2, none⟩ = some (.slice (some ⟨gv, 0, none⟩) m.vs.length cv) := (by rw [← HVN.out]; exact s2)
                            have S2' := Aside0.mk s2'
                            have HC8 := Aside0.mk (Kd.C_below (Kd.C_below HC1.out HDA.out.hB) (below_drew (Below.refl _ _)))
                            clear hy hCV hvn hvc s2' h8 hd HD
                            refine start_ (n := 30) (S := fun w' => w'.cell? ⟨b8, 0, none⟩ = some (.int .i64 e.f0) ∧ w'.cell? ⟨ge, e.f0.toNat, none⟩ = some (.int .i64 x) ∧ w'.cell? ⟨s, 3, none⟩ = some (.slice (some ⟨gs, 0, none⟩) n cs) ∧ w'.cell? ⟨gs, e.f0.toNat, none⟩ = some (.bool true) ∧ w'.cell? ⟨b8, 1, none⟩ = some (.slice A1 e.f1.length c1) ∧ w'.cell? ⟨b8, 2, none⟩ = some (.int .i64 e.f2) ∧ w'.cell? ⟨b8, 3, none⟩ = some (.int .i64 e.f3.f0) ∧ w'.cell? ⟨b8, 4, none⟩ = some (.int .i64 e.f3.f1) ∧ w'.cell? ⟨s, 2, none⟩ = some (.slice (some ⟨gv, 0, none⟩) n cv) ∧ w'.cell? ⟨gv, e.f0.toNat * 2, none⟩ = some (.int .i64 y.f0) ∧ w'.cell? ⟨gv, e.f0.toNat * 2 + 1, none⟩ = some (.int .i64 y.f1)) (ds := []) #[false, false, false, false, false, false, false, false, false, false, false, false, false, false, false, false, false, false, false, false, false, false, false, false, false, false, false, false, false, false] (by kernel_rfl) rfl rfl ⟨h80, g5, s3, g3, h81, h82, h83, h84, s2, g20, g21⟩ (fun hHeld => ?_)
                            refine with_tabW R79.tab33 R79.bits33 (fun HT_ HW_ => ?_)
                            refine bulk_ (fuel := 3) [(0, 157), (1, 158), (2, 159), (3, 160), (4, 161), (5, 162), (6, 163), (7, 164), (8, 165), (9, 166), (10, 167), (11, 168), (12, 169), (13, 170), (14, 171), (15, 172), (16, 173), (17, 174), (18, 175), (20, 177), (21, 178), (22, 179), (23, 180), (24, 181), (25, 182), (26, 183), (27, 184)] #[true, true, true, true, true, true, true, true, true, true, true, true, true, true, true, true, true, true, true, false, true, true, true, true, true, true, true, true, false, false] (bulkB_of HT_.out HW_.out _ _ _ (by kernel_rfl)) rfl (fun _ _ _ _ _ h => h) hHeld (a' := ?_) ?_ ?_
                            rotate_left
                            · iterate 27
                                refine chain_cons (v := ?_) (a1 := ?_) rfl rfl (Or.inl ⟨by rfl, ?_⟩) ?_ ?_
                                rotate_left 2
                                · rintro w' ⟨s0, s1, s2, s3, s4, s5, s6, s7, s8, s9, s10⟩
                                  (go_simp; try rw [ite_eqV])
                                  try with_reducible rfl
                                · simp only [Act.put, List.setIfInBounds_toArray, List.set_cons_zero, List.set_cons_succ, i64_w, i32_w]
                                  rfl
                              exact chain_nil
                            refine one_ (i := 19) (N := some 176) #[true, true, true, true, true, true, true, true, true, true, true, true, true, true, true, true, true, true, true, true, true, true, true, true, true, true, true, true, false, false] rfl rfl (one_of HT_.out (by kernel_rfl)) (by decide) (fun K hK => ?_)
                            refine call_ 107 #[.pointer (some ⟨s, 0, none⟩), .agg #[.int .i64 e.f0, .slice A1 e.f1.length c1, .int .i64 e.f2, .int .i64 e.f3.f0, .int .i64 e.f3.f1]] (by rfl) rfl ?_ ?_
                            · have he := enters_ Try.func107 (by kernel_rfl) rfl #[.pointer (some ⟨s, 0, none⟩), .agg #[.int .i64 e.f0, .slice A1 e.f1.length c1, .int .i64 e.f2, .int .i64 e.f3.f0, .int .i64 e.f3.f1]] wA.drew
                              unfold execOp
                              simp [resolve, Deferred.ofValue, invoke, Act.eval, he]
                            refine (combine_calls s m.vs (some ⟨gv, 0, none⟩) cv e A1 c1 wA.drew S2'.out HCV.out HC8.out (fun t ht => by rw [← HVN.out]; exact HTE.out t ht) hle).mono ?_
                            rintro x7 w7 ⟨rfl, hB7⟩
                            have HB7 := Aside0.mk hB7
                            clear hB7
                            refine ⟨_, rfl, ?_⟩
                            refine hK.out _ _ ⟨pw_cell_below HB7.out h80, pw_cell_below HB7.out g5, pw_cell_below HB7.out s3, pw_cell_below HB7.out g3, pw_cell_below HB7.out h81, pw_cell_below HB7.out h82, pw_cell_below HB7.out h83, pw_cell_below HB7.out h84, pw_cell_below HB7.out s2, pw_cell_below HB7.out g20, pw_cell_below HB7.out g21⟩ (fun hHeld => ?_)
                            clear hK K
                            refine norm_ (a' := ?_) ?_ ?_
                            rotate_left
                            · show Act.put _ (some 176) _ = _
                              simp only [Act.put, List.setIfInBounds_toArray, List.set_cons_zero, List.set_cons_succ, i64_w, i32_w]
                              rfl
                            refine bulk_ (fuel := 0) [(28, 185), (29, 186)] #[true, true, true, true, true, true, true, true, true, true, true, true, true, true, true, true, true, true, true, true, true, true, true, true, true, true, true, true, true, true] (bulkB_of HT_.out HW_.out _ _ _ (by kernel_rfl)) rfl (fun _ _ _ _ _ h => h) hHeld (a' := ?_) ?_ ?_
                            rotate_left
                            · iterate 2
                                refine chain_cons (v := ?_) (a1 := ?_) rfl rfl (Or.inl ⟨by rfl, ?_⟩) ?_ ?_
                                rotate_left 2
                                · rintro w' ⟨s0, s1, s2, s3, s4, s5, s6, s7, s8, s9, s10⟩
                                  (go_simp; try rw [ite_eqV])
                                  try with_reducible rfl
                                · simp only [Act.put, List.setIfInBounds_toArray, List.set_cons_zero, List.set_cons_succ, i64_w, i32_w]
                                  rfl
                              exact chain_nil
                            refine done_ (done_of HT_.out (by kernel_rfl)) ?_
                            clear s2 s3 g3 g20 g21 h80 h81 h82 h83 h84 g5 hHeld
                            obtain ⟨bq, hbq⟩ : ∃ bq, eqV (combV e.f2 (tailV m.vs e.f1)) y = bq := ⟨_, rfl⟩
                            rw [hbq]
                            have HBQ := Aside0.mk hbq
                            have HS7 := Aside0.mk (HDA.out.below HB7.out)
                            have H87 := Aside0.mk (blk_below H8A.out HB7.out)
                            clear hbq HDA H8A HB7 HCV HC8 S2'
                            cases bq with
                            | false =>
                              go_wp2_with fail
                              go_roundg (es.length - k)
                              case measure => have := hg.out; omega
                              case rel => exact ⟨k + 1, by go_num, ⟨by omega⟩, ⟨by omega⟩, ⟨by rw [HED.out, if_neg (fun h => by have h9 := h.2.2; rw [HY.out] at h9; exact absurd (h9.symm.trans HBQ.out) (by decide))]; exact HS7.out⟩⟩
                            | true =>
                              have h807 : w7.cell? ⟨b8, 0, none⟩ = some (.int .i64 e.f0) := (by rw [blk_cell H87.out 0]; rfl)
                              obtain ⟨g5, g5f⟩ := scal_cell HS7.out.hE 0 e.f0 he0 he1'
                              have hpe := Kd.R_putg HS7.out.hE e.f0 (k : Int)
                              have HS8 := Aside0.mk (HS7.out.setE hpe.1 hpe.2)
                              clear hpe
                              go_wp2_with fail
                              go_roundg (es.length - k)
                              case measure => have := hg.out; omega
                              case rel => exact ⟨k + 1, by go_num, ⟨by omega⟩, ⟨by omega⟩, ⟨by rw [HED.out, if_pos ⟨by rw [HX.out]; exact hx0, HBS.out, by rw [HY.out]; exact HBQ.out⟩]; exact HS8.out⟩⟩
                        · clear HD h8 hd
                          refine start_ (n := 30) (S := fun w' => w'.cell? ⟨b8, 0, none⟩ = some (.int .i64 e.f0) ∧ w'.cell? ⟨ge, e.f0.toNat, none⟩ = some (.int .i64 x)) (ds := []) #[false, false, false, false, false, false, false, false, false, false, false, false, false, false, false, false, false, false, false, false, false, false, false, false, false, false, false, false, false, false] (by kernel_rfl) rfl rfl ⟨h80, g5⟩ (fun hHeld => ?_)
                          refine with_tabW R79.tab33 R79.bits33 (fun HT_ HW_ => ?_)
                          refine bulk_ (fuel := 0) [(0, 157), (1, 158), (2, 159), (3, 160), (4, 161), (5, 162), (6, 163), (7, 164), (8, 165), (9, 166), (10, 167), (11, 168), (12, 169), (13, 170), (14, 171), (15, 172), (16, 173), (17, 174), (18, 175), (19, 176), (20, 177), (21, 178), (22, 179), (23, 180), (24, 181), (25, 182), (26, 183), (27, 184), (28, 185), (29, 186)] #[true, true, true, true, true, true, true, true, true, true, true, true, true, true, true, true, true, true, true, true, true, true, true, true, true, true, true, true, true, true] (bulkB_of HT_.out HW_.out _ _ _ (by kernel_rfl)) rfl (fun _ _ _ _ _ h => h) hHeld (a' := ?_) ?_ ?_
                          rotate_left
                          · iterate 7
                              refine chain_cons (v := ?_) (a1 := ?_) rfl rfl (Or.inl ⟨by rfl, ?_⟩) ?_ ?_
                              rotate_left 2
                              · rintro w' ⟨s0, s1⟩
                                go_simp
                                with_reducible rfl
                              · simp only [Act.put, List.setIfInBounds_toArray, List.set_cons_zero, List.set_cons_succ, i64_w, i32_w]
                                rfl
                            iterate 8
                              refine chain_off (a1 := ?_) rfl rfl (by rfl) ?_ ?_
                              rotate_left
                              · simp only [Act.put, List.setIfInBounds_toArray, List.set_cons_zero, List.set_cons_succ]
                                rfl
                            iterate 2
                              refine chain_cons (v := ?_) (a1 := ?_) rfl rfl (Or.inl ⟨by rfl, ?_⟩) ?_ ?_
                              rotate_left 2
                              · rintro w' ⟨s0, s1⟩
                                go_simp
                                with_reducible rfl
                              · simp only [Act.put, List.setIfInBounds_toArray, List.set_cons_zero, List.set_cons_succ, i64_w, i32_w]
                                rfl
                            iterate 12
                              refine chain_off (a1 := ?_) rfl rfl (by rfl) ?_ ?_
                              rotate_left
                              · simp only [Act.put, List.setIfInBounds_toArray, List.set_cons_zero, List.set_cons_succ]
                                rfl
                            iterate 1
                              refine chain_cons (v := ?_) (a1 := ?_) rfl rfl (Or.inl ⟨by rfl, ?_⟩) ?_ ?_
                              rotate_left 2
                              · rintro w' ⟨s0, s1⟩
                                go_simp
                                with_reducible rfl
                              · simp only [Act.put, List.setIfInBounds_toArray, List.set_cons_zero, List.set_cons_succ, i64_w, i32_w]
                                rfl
                            exact chain_nil
                          refine done_ (done_of HT_.out (by kernel_rfl)) ?_
                          clear h80 g5 hHeld
                          go_wp2_with fail
                          go_roundg (es.length - k)
                          case measure => have := hg.out; omega
                          case rel => exact ⟨k + 1, by go_num, ⟨by omega⟩, ⟨by omega⟩, ⟨by rw [HED.out, if_neg (fun h => by have h9 := h.1; rw [HX.out] at h9; omega)]; exact HDA.out⟩⟩
                      · obtain rfl : k = es.length := by have := hk.out; omega
                        have hkk : ¬ ((es.length : Int) < (es.length : Int)) := by omega
                        have s2 : wr.cell? ⟨s, 2, none⟩ = some (.slice (some ⟨gv, 0, none⟩) n cv) := (by rw [blk_cell HS.out.hs 2]; rfl)
                        go_wp2_with fail
                        have h9 := HS.out
                        rw [HEM.out] at h9
                        go_ret2
                        exact ⟨_, _, rfl, h9.hV, Kd.R_mono h9.hE (fun _ _ => trivial), h9.hB⟩
                  | cons e0 r =>
                    rw [hqe] at hqs
                    have HQS := Aside0.mk hqs
                    have HQE := Aside0.mk hqe
                    have hst := okM_step HO.out hok hqe
                    have hrl : r.length < 1000000 := by have h1 := HG.out; have h2 := HL.out; simp only [mu, hqe, List.length_cons] at h1; omega
                    clear hqs hqe
                    have HST := Aside0.mk hst
                    clear hst
                    go_upto_region 28 with (first | (go_at_call 105; refine (pop_some w.heap.size q e0 r m.Q.nx m.Q.ck wr HQS.out hrl).mono ?_; rintro x w5 ⟨rfl, hQ5, hF5⟩; have HS5 := Aside0.mk (HS.out.queue hF5 ⟨popE (e0 :: r), m.Q.nx, m.Q.ck⟩ hQ5); have HB5 := Aside0.mk (hF5.keep _ _ _ _ HB.out (by decide) (by decide)); clear hQ5 hF5 s6))
                    have he0 := HO.out.q e0 (by rw [HQE.out]; exact List.mem_cons_self ..)
                    have hA13 := h_alloc54 w5 (.cells #[.int .i64 e0.f0.f0, .int .i64 e0.f0.f1.f0, .int .i64 e0.f0.f1.f1] 124)
                    have HSA := Aside0.mk (HS5.out.below hA13.1)
                    have HBA := Aside0.mk (blk_below HB5.out hA13.1)
                    have H13 := Aside0.mk hA13.2
                    obtain ⟨b13, hb13⟩ : ∃ b13, b13 = w5.heap.size := ⟨_, rfl⟩
                    rw [← hb13] at H13 ⊢
                    clear hb13 hA13 HS5 HB5
                    generalize (w5.alloc (.cells #[.int .i64 e0.f0.f0, .int .i64 e0.f0.f1.f0, .int .i64 e0.f0.f1.f1] 124)) = wA at *
                    have hd := below_drew (Below.refl wA.heap.size wA)
                    have HD := HSA.out.below hd
                    have h13 := blk_below H13.out hd
                    have s3 : wA.drew.cell? ⟨s, 3, none⟩ = some (.slice (some ⟨gs, 0, none⟩) n cs) := (by rw [blk_cell HD.hs 3]; rfl)
                    have h130 : wA.drew.cell? ⟨b13, 0, none⟩ = some (.int .i64 e0.f0.f0) := (by rw [blk_cell h13 0]; rfl)
                    obtain ⟨bs, hbs⟩ : ∃ bs, m.st.getD e0.f0.f0.toNat false = bs := ⟨_, rfl⟩
                    have g3 : wA.drew.cell? ⟨gs, e0.f0.f0.toNat, none⟩ = some (.bool bs) := (by rw [← hbs]; exact (scal_cell HD.hS false e0.f0.f0 he0.1 (by show e0.f0.f0 < (n : Int); exact he0.2)).1)
                    have HBS := Aside0.mk hbs
                    have HD_ := Aside0.mk HD
                    have H13_ := Aside0.mk h13
                    have HB_ := Aside0.mk (blk_below HBA.out hd)
                    obtain ⟨he00, he01⟩ := he0
                    clear hbs HD h13 hd HSA H13 HBA
                    refine start_ (n := 9) (S := fun w' => w'.cell? ⟨s, 3, none⟩ = some (.slice (some ⟨gs, 0, none⟩) n cs) ∧ w'.cell? ⟨b13, 0, none⟩ = some (.int .i64 e0.f0.f0) ∧ w'.cell? ⟨gs, e0.f0.f0.toNat, none⟩ = some (.bool bs)) (ds := []) #[false, false, false, false, false, false, false, false, false] (by kernel_rfl) rfl rfl ⟨s3, h130, g3⟩ (fun hHeld => ?_)
                    refine with_tabW R79.tab28 R79.bits28 (fun HT_ HW_ => ?_)
                    refine bulk_ (fuel := 0) [(0, 137), (1, 138), (2, 139), (3, 140), (4, 141), (5, 142), (6, 143), (7, 144), (8, 145)] #[true, true, true, true, true, true, true, true, true] (bulkB_of HT_.out HW_.out _ _ _ (by kernel_rfl)) rfl (fun _ _ _ _ _ h => h) hHeld (a' := ?_) ?_ ?_
                    rotate_left
                    · iterate 9
                        refine chain_cons (v := ?_) (a1 := ?_) rfl rfl (Or.inl ⟨by rfl, ?_⟩) ?_ ?_
                        rotate_left 2
                        · rintro w' ⟨s0, s1, s2⟩
                          go_simp
                          with_reducible rfl
                        · simp only [Act.put, List.setIfInBounds_toArray, List.set_cons_zero, List.set_cons_succ, i64_w, i32_w]
                          rfl
                      exact chain_nil
                    refine done_ (done_of HT_.out (by kernel_rfl)) ?_
                    clear s3 h130 g3 hHeld
                    obtain ⟨g, rfl⟩ : ∃ g, gk = g + 1 := ⟨gk - 1, by have := HG.out; omega⟩
                    have HE2 := Aside0.mk ((mainL_succ es us g m e0 r HQE.out).symm.trans HE.out)
                    clear HE
                    cases bs with
                    | true =>
                      have hms : mainStep es us m e0 = ⟨m.vs, m.st, m.op, ⟨popE m.Q.es, m.Q.nx, m.Q.ck⟩⟩ := if_pos HBS.out
                      rw [HQE.out] at hms
                      have HMS := Aside0.mk hms
                      clear hms
                      go_wp2_with fail
                      go_roundg g
                      case measure => omega
                      case rel => exact ⟨mainStep es us m e0, ⟨by rw [HMS.out]; exact HD_.out⟩, HB_, ⟨HST.out.1⟩, ⟨by have h1 := HST.out.2; have h2 := HG.out; omega⟩, ⟨by have := HL.out; omega⟩, HE2⟩
                    | false =>
                      have hms : mainStep es us m e0 = _ := if_neg (by rw [HBS.out]; decide)
                      rw [HQE.out] at hms
                      have HMS := Aside0.mk hms
                      clear hms
                      have h0 : wA.drew.cell? ⟨b13, 0, none⟩ = some (.int .i64 e0.f0.f0) := (by rw [blk_cell H13_.out 0]; rfl)
                      have h1 : wA.drew.cell? ⟨b13, 1, none⟩ = some (.int .i64 e0.f0.f1.f0) := (by rw [blk_cell H13_.out 1]; rfl)
                      have h2 : wA.drew.cell? ⟨b13, 2, none⟩ = some (.int .i64 e0.f0.f1.f1) := (by rw [blk_cell H13_.out 2]; rfl)
                      have hw := wt_set us m.st e0.f0.f0.toNat (by rw [HO.out.sl]; omega) (by rw [HO.out.sl, HO.out.ul]) HBS.out
                      have hsz : (popE (e0 :: r)).length + (us.getD e0.f0.f0.toNat []).length < 1000000 := by
                        have h1 := HG.out; have h2 := HL.out; have h3 := popE_length (e0 :: r); simp only [mu, HQE.out, List.length_cons] at h1 h3; omega
                      have HSZ := Aside0.mk hsz
                      clear hsz hw
                      go_wp2_with (first | (go_at_call 106; refine (settle_calls (⟨w, s, q, n, A, c, es, gv, cv, gs, cs, go, co, gu, cu, ge, ce⟩ : Ctx) _ _ _ _ _ _ _ HD_.out hok e0.f0 he00 (by show e0.f0.f0 < (n : Int); exact he01) (HO.out.us _) HSZ.out).mono ?_; rintro x w7 ⟨rfl, hS7, hK7⟩; have HS7 := Aside0.mk hS7; have HB7 : Aside0 (w7.heap[b1]? = some (.cells #[.int .i64 (n : Nat), .slice A es.length c] 24 (0, 0))) := ⟨hK7 _ _ _ HB_.out⟩; clear hS7 hK7))
                      go_roundg g
                      case measure => omega
                      case rel => exact ⟨mainStep es us m e0, ⟨by rw [HMS.out]; exact HS7.out⟩, HB7, ⟨HST.out.1⟩, ⟨by have h1 := HST.out.2; have h2 := HG.out; omega⟩, ⟨by have := HL.out; omega⟩, HE2⟩
  refine wpAnyLast_ready (fuel := 6) (rs := [3, 6, 10, 13]) (four_of HT_.out (by kernel_rfl)) (by simp) (AllReadyL.cons rfl (by simp) (fun K hK => ?_) (AllReadyL.cons rfl (by simp) (fun K hK => ?_) (AllReadyL.cons rfl (by simp) (fun K hK => ?_) (AllReadyL.cons rfl (by simp) (fun K hK => ?_) AllReadyL.nil))))
  · refine mkV (by rfl) rfl rfl rfl hn hB (fun gV cV WD hV hB2 hg hlV => ?_)
    replace hb := blk_below hb hg; replace hB := hB2
    refine hK.out _ _ ⟨(by rw [blk_cell hb 0]; rfl), (by rw [blk_cell hb 1]; rfl)⟩ (fun _ => norm_ (by simp only [Act.put, List.setIfInBounds_toArray, List.set_cons_zero, List.set_cons_succ]; rfl) ?_)
    clear hK K hg hB2
    refine three_ (fuel := 5) (i := 6) (j := 10) (k := 13) #[true, true, true, true, true, true, true, true, true, true, false, true, true, false, false, false, false] #[true, true, true, true, true, true, false, true, true, true, true, true, true, false, false, false, false] #[true, true, true, true, true, true, false, true, true, true, false, true, true, true, false, false, false] rfl rfl rfl rfl rfl rfl (three_of HT_.out (by kernel_rfl)) (by decide) (by decide) (by decide) (fun K hK => ?_) (fun K hK => ?_) (fun K hK => ?_)
    · refine mkS (by rfl) rfl rfl rfl hn hB (fun gS cS WD hS hB2 hg hlS => ?_)
      replace hV := Kd.R_below hV hg
      replace hb := blk_below hb hg; replace hB := hB2
      refine hK.out _ _ ⟨(by rw [blk_cell hb 0]; rfl), (by rw [blk_cell hb 1]; rfl)⟩ (fun _ => norm_ (by simp only [Act.put, List.setIfInBounds_toArray, List.set_cons_zero, List.set_cons_succ]; rfl) ?_)
      clear hK K hg hB2
      refine two_ (fuel := 4) (i := 10) (j := 13) #[true, true, true, true, true, true, true, true, true, true, true, true, true, false, false, false, false] #[true, true, true, true, true, true, true, true, true, true, false, true, true, true, false, false, false] rfl rfl rfl rfl (two_of HT_.out (by kernel_rfl)) (by decide) (by decide) (fun K hK => ?_) (fun K hK => ?_)
      · refine mkO (by rfl) rfl rfl rfl he hB (fun gO cO WD hO hB2 hg hlO => ?_)
        replace hV := Kd.R_below hV hg
        replace hS := Kd.R_below hS hg
        replace hb := blk_below hb hg; replace hB := hB2
        refine hK.out _ _ ⟨(by rw [blk_cell hb 0]; rfl), (by rw [blk_cell hb 1]; rfl)⟩ (fun _ => norm_ (by simp only [Act.put, List.setIfInBounds_toArray, List.set_cons_zero, List.set_cons_succ]; rfl) ?_)
        clear hK K hg hB2
        refine one_ (fuel := 3) (i := 13) #[true, true, true, true, true, true, true, true, true, true, true, true, true, true, false, false, false] rfl rfl (one_of HT_.out (by kernel_rfl)) (by decide) (fun K hK => ?_)
        · refine mkU (by rfl) rfl rfl rfl hn hB (fun gU cU WD hU hB2 hg hlU => ?_)
          replace hU := Kd.S_mono (ok' := fun k => k ≠ gO) hU (fun k (hk : _ ≤ k) => by have := Kd.R_lt hO gO rfl; omega)
          replace hV := Kd.R_below hV hg
          replace hS := Kd.R_below hS hg
          replace hO := Kd.R_below hO hg
          replace hb := blk_below hb hg; replace hB := hB2
          refine hK.out _ _ ⟨(by rw [blk_cell hb 0]; rfl), (by rw [blk_cell hb 1]; rfl)⟩ (fun _ => norm_ (by simp only [Act.put, List.setIfInBounds_toArray, List.set_cons_zero, List.set_cons_succ]; rfl) ?_)
          clear hK K hg hB2
          exact norm_ (by simp only [putAll, Act.put, List.setIfInBounds_toArray, List.set_cons_zero, List.set_cons_succ]) (hc ((gV, cV), (gS, cS), (gO, cO), gU, cU) _ ⟨hB, hb, Kd.R_mono hV (fun _ _ => trivial), Kd.R_mono hS (fun _ _ => trivial), Kd.R_mono hO (fun _ _ => trivial), hU⟩)
      · refine mkU (by rfl) rfl rfl rfl hn hB (fun gU cU WD hU hB2 hg hlU => ?_)
        replace hV := Kd.R_below hV hg
        replace hS := Kd.R_below hS hg
        replace hb := blk_below hb hg; replace hB := hB2
        refine hK.out _ _ ⟨(by rw [blk_cell hb 0]; rfl), (by rw [blk_cell hb 1]; rfl)⟩ (fun _ => norm_ (by simp only [Act.put, List.setIfInBounds_toArray, List.set_cons_zero, List.set_cons_succ]; rfl) ?_)
        clear hK K hg hB2
        refine one_ (fuel := 3) (i := 10) #[true, true, true, true, true, true, true, true, true, true, true, true, true, true, false, false, false] rfl rfl (one_of HT_.out (by kernel_rfl)) (by decide) (fun K hK => ?_)
        · refine mkO (by rfl) rfl rfl rfl he hB (fun gO cO WD hO hB2 hg hlO => ?_)
          replace hU := Kd.S_mono (ok' := fun k => k ≠ gO) (Kd.S_bound hU) (fun k hk => by have h3 := hk.2.2.1; omega)
          replace hV := Kd.R_below hV hg
          replace hS := Kd.R_below hS hg
          replace hU := Kd.S_below hU hg
          replace hb := blk_below hb hg; replace hB := hB2
          refine hK.out _ _ ⟨(by rw [blk_cell hb 0]; rfl), (by rw [blk_cell hb 1]; rfl)⟩ (fun _ => norm_ (by simp only [Act.put, List.setIfInBounds_toArray, List.set_cons_zero, List.set_cons_succ]; rfl) ?_)
          clear hK K hg hB2
          exact norm_ (by simp only [putAll, Act.put, List.setIfInBounds_toArray, List.set_cons_zero, List.set_cons_succ]) (hc ((gV, cV), (gS, cS), (gO, cO), gU, cU) _ ⟨hB, hb, Kd.R_mono hV (fun _ _ => trivial), Kd.R_mono hS (fun _ _ => trivial), Kd.R_mono hO (fun _ _ => trivial), hU⟩)
    · refine mkO (by rfl) rfl rfl rfl he hB (fun gO cO WD hO hB2 hg hlO => ?_)
      replace hV := Kd.R_below hV hg
      replace hb := blk_below hb hg; replace hB := hB2
      refine hK.out _ _ ⟨(by rw [blk_cell hb 0]; rfl), (by rw [blk_cell hb 1]; rfl)⟩ (fun _ => norm_ (by simp only [Act.put, List.setIfInBounds_toArray, List.set_cons_zero, List.set_cons_succ]; rfl) ?_)
      clear hK K hg hB2
      refine two_ (fuel := 4) (i := 6) (j := 13) #[true, true, true, true, true, true, true, true, true, true, true, true, true, false, false, false, false] #[true, true, true, true, true, true, false, true, true, true, true, true, true, true, false, false, false] rfl rfl rfl rfl (two_of HT_.out (by kernel_rfl)) (by decide) (by decide) (fun K hK => ?_) (fun K hK => ?_)
      · refine mkS (by rfl) rfl rfl rfl hn hB (fun gS cS WD hS hB2 hg hlS => ?_)
        replace hV := Kd.R_below hV hg
        replace hO := Kd.R_below hO hg
        replace hb := blk_below hb hg; replace hB := hB2
        refine hK.out _ _ ⟨(by rw [blk_cell hb 0]; rfl), (by rw [blk_cell hb 1]; rfl)⟩ (fun _ => norm_ (by simp only [Act.put, List.setIfInBounds_toArray, List.set_cons_zero, List.set_cons_succ]; rfl) ?_)
        clear hK K hg hB2
        refine one_ (fuel := 3) (i := 13) #[true, true, true, true, true, true, true, true, true, true, true, true, true, true, false, false, false] rfl rfl (one_of HT_.out (by kernel_rfl)) (by decide) (fun K hK => ?_)
        · refine mkU (by rfl) rfl rfl rfl hn hB (fun gU cU WD hU hB2 hg hlU => ?_)
          replace hU := Kd.S_mono (ok' := fun k => k ≠ gO) hU (fun k (hk : _ ≤ k) => by have := Kd.R_lt hO gO rfl; omega)
          replace hV := Kd.R_below hV hg
          replace hS := Kd.R_below hS hg
          replace hO := Kd.R_below hO hg
          replace hb := blk_below hb hg; replace hB := hB2
          refine hK.out _ _ ⟨(by rw [blk_cell hb 0]; rfl), (by rw [blk_cell hb 1]; rfl)⟩ (fun _ => norm_ (by simp only [Act.put, List.setIfInBounds_toArray, List.set_cons_zero, List.set_cons_succ]; rfl) ?_)
          clear hK K hg hB2
          exact norm_ (by simp only [putAll, Act.put, List.setIfInBounds_toArray, List.set_cons_zero, List.set_cons_succ]) (hc ((gV, cV), (gS, cS), (gO, cO), gU, cU) _ ⟨hB, hb, Kd.R_mono hV (fun _ _ => trivial), Kd.R_mono hS (fun _ _ => trivial), Kd.R_mono hO (fun _ _ => trivial), hU⟩)
      · refine mkU (by rfl) rfl rfl rfl hn hB (fun gU cU WD hU hB2 hg hlU => ?_)
        replace hU := Kd.S_mono (ok' := fun k => k ≠ gO) hU (fun k (hk : _ ≤ k) => by have := Kd.R_lt hO gO rfl; omega)
        replace hV := Kd.R_below hV hg
        replace hO := Kd.R_below hO hg
        replace hb := blk_below hb hg; replace hB := hB2
        refine hK.out _ _ ⟨(by rw [blk_cell hb 0]; rfl), (by rw [blk_cell hb 1]; rfl)⟩ (fun _ => norm_ (by simp only [Act.put, List.setIfInBounds_toArray, List.set_cons_zero, List.set_cons_succ]; rfl) ?_)
        clear hK K hg hB2
        refine one_ (fuel := 3) (i := 6) #[true, true, true, true, true, true, true, true, true, true, true, true, true, true, false, false, false] rfl rfl (one_of HT_.out (by kernel_rfl)) (by decide) (fun K hK => ?_)
        · refine mkS (by rfl) rfl rfl rfl hn hB (fun gS cS WD hS hB2 hg hlS => ?_)
          replace hV := Kd.R_below hV hg
          replace hO := Kd.R_below hO hg
          replace hU := Kd.S_below hU hg
          replace hb := blk_below hb hg; replace hB := hB2
          refine hK.out _ _ ⟨(by rw [blk_cell hb 0]; rfl), (by rw [blk_cell hb 1]; rfl)⟩ (fun _ => norm_ (by simp only [Act.put, List.setIfInBounds_toArray, List.set_cons_zero, List.set_cons_succ]; rfl) ?_)
          clear hK K hg hB2
          exact norm_ (by simp only [putAll, Act.put, List.setIfInBounds_toArray, List.set_cons_zero, List.set_cons_succ]) (hc ((gV, cV), (gS, cS), (gO, cO), gU, cU) _ ⟨hB, hb, Kd.R_mono hV (fun _ _ => trivial), Kd.R_mono hS (fun _ _ => trivial), Kd.R_mono hO (fun _ _ => trivial), hU⟩)
    · refine mkU (by rfl) rfl rfl rfl hn hB (fun gU cU WD hU hB2 hg hlU => ?_)
      replace hV := Kd.R_below hV hg
      replace hb := blk_below hb hg; replace hB := hB2
      refine hK.out _ _ ⟨(by rw [blk_cell hb 0]; rfl), (by rw [blk_cell hb 1]; rfl)⟩ (fun _ => norm_ (by simp only [Act.put, List.setIfInBounds_toArray, List.set_cons_zero, List.set_cons_succ]; rfl) ?_)
      clear hK K hg hB2
      refine two_ (fuel := 4) (i := 6) (j := 10) #[true, true, true, true, true, true, true, true, true, true, false, true, true, true, false, false, false] #[true, true, true, true, true, true, false, true, true, true, true, true, true, true, false, false, false] rfl rfl rfl rfl (two_of HT_.out (by kernel_rfl)) (by decide) (by decide) (fun K hK => ?_) (fun K hK => ?_)
      · refine mkS (by rfl) rfl rfl rfl hn hB (fun gS cS WD hS hB2 hg hlS => ?_)
        replace hV := Kd.R_below hV hg
        replace hU := Kd.S_below hU hg
        replace hb := blk_below hb hg; replace hB := hB2
        refine hK.out _ _ ⟨(by rw [blk_cell hb 0]; rfl), (by rw [blk_cell hb 1]; rfl)⟩ (fun _ => norm_ (by simp only [Act.put, List.setIfInBounds_toArray, List.set_cons_zero, List.set_cons_succ]; rfl) ?_)
        clear hK K hg hB2
        refine one_ (fuel := 3) (i := 10) #[true, true, true, true, true, true, true, true, true, true, true, true, true, true, false, false, false] rfl rfl (one_of HT_.out (by kernel_rfl)) (by decide) (fun K hK => ?_)
        · refine mkO (by rfl) rfl rfl rfl he hB (fun gO cO WD hO hB2 hg hlO => ?_)
          replace hU := Kd.S_mono (ok' := fun k => k ≠ gO) (Kd.S_bound hU) (fun k hk => by have h3 := hk.2.2.1; omega)
          replace hV := Kd.R_below hV hg
          replace hS := Kd.R_below hS hg
          replace hU := Kd.S_below hU hg
          replace hb := blk_below hb hg; replace hB := hB2
          refine hK.out _ _ ⟨(by rw [blk_cell hb 0]; rfl), (by rw [blk_cell hb 1]; rfl)⟩ (fun _ => norm_ (by simp only [Act.put, List.setIfInBounds_toArray, List.set_cons_zero, List.set_cons_succ]; rfl) ?_)
          clear hK K hg hB2
          exact norm_ (by simp only [putAll, Act.put, List.setIfInBounds_toArray, List.set_cons_zero, List.set_cons_succ]) (hc ((gV, cV), (gS, cS), (gO, cO), gU, cU) _ ⟨hB, hb, Kd.R_mono hV (fun _ _ => trivial), Kd.R_mono hS (fun _ _ => trivial), Kd.R_mono hO (fun _ _ => trivial), hU⟩)
      · refine mkO (by rfl) rfl rfl rfl he hB (fun gO cO WD hO hB2 hg hlO => ?_)
        replace hU := Kd.S_mono (ok' := fun k => k ≠ gO) (Kd.S_bound hU) (fun k hk => by have h3 := hk.2.2.1; omega)
        replace hV := Kd.R_below hV hg
        replace hU := Kd.S_below hU hg
        replace hb := blk_below hb hg; replace hB := hB2
        refine hK.out _ _ ⟨(by rw [blk_cell hb 0]; rfl), (by rw [blk_cell hb 1]; rfl)⟩ (fun _ => norm_ (by simp only [Act.put, List.setIfInBounds_toArray, List.set_cons_zero, List.set_cons_succ]; rfl) ?_)
        clear hK K hg hB2
        refine one_ (fuel := 3) (i := 6) #[true, true, true, true, true, true, true, true, true, true, true, true, true, true, false, false, false] rfl rfl (one_of HT_.out (by kernel_rfl)) (by decide) (fun K hK => ?_)
        · refine mkS (by rfl) rfl rfl rfl hn hB (fun gS cS WD hS hB2 hg hlS => ?_)
          replace hV := Kd.R_below hV hg
          replace hO := Kd.R_below hO hg
          replace hU := Kd.S_below hU hg
          replace hb := blk_below hb hg; replace hB := hB2
          refine hK.out _ _ ⟨(by rw [blk_cell hb 0]; rfl), (by rw [blk_cell hb 1]; rfl)⟩ (fun _ => norm_ (by simp only [Act.put, List.setIfInBounds_toArray, List.set_cons_zero, List.set_cons_succ]; rfl) ?_)
          clear hK K hg hB2
          exact norm_ (by simp only [putAll, Act.put, List.setIfInBounds_toArray, List.set_cons_zero, List.set_cons_succ]) (hc ((gV, cV), (gS, cS), (gO, cO), gU, cU) _ ⟨hB, hb, Kd.R_mono hV (fun _ _ => trivial), Kd.R_mono hS (fun _ _ => trivial), Kd.R_mono hO (fun _ _ => trivial), hU⟩)
  · refine mkS (by rfl) rfl rfl rfl hn hB (fun gS cS WD hS hB2 hg hlS => ?_)
    replace hb := blk_below hb hg; replace hB := hB2
    refine hK.out _ _ ⟨(by rw [blk_cell hb 0]; rfl), (by rw [blk_cell hb 1]; rfl)⟩ (fun _ => norm_ (by simp only [Act.put, List.setIfInBounds_toArray, List.set_cons_zero, List.set_cons_succ]; rfl) ?_)
    clear hK K hg hB2
    refine three_ (fuel := 5) (i := 3) (j := 10) (k := 13) #[true, true, true, true, true, true, true, true, true, true, false, true, true, false, false, false, false] #[true, true, true, false, true, true, true, true, true, true, true, true, true, false, false, false, false] #[true, true, true, false, true, true, true, true, true, true, false, true, true, true, false, false, false] rfl rfl rfl rfl rfl rfl (three_of HT_.out (by kernel_rfl)) (by decide) (by decide) (by decide) (fun K hK => ?_) (fun K hK => ?_) (fun K hK => ?_)
    · refine mkV (by rfl) rfl rfl rfl hn hB (fun gV cV WD hV hB2 hg hlV => ?_)
      replace hS := Kd.R_below hS hg
      replace hb := blk_below hb hg; replace hB := hB2
      refine hK.out _ _ ⟨(by rw [blk_cell hb 0]; rfl), (by rw [blk_cell hb 1]; rfl)⟩ (fun _ => norm_ (by simp only [Act.put, List.setIfInBounds_toArray, List.set_cons_zero, List.set_cons_succ]; rfl) ?_)
      clear hK K hg hB2
      refine two_ (fuel := 4) (i := 10) (j := 13) #[true, true, true, true, true, true, true, true, true, true, true, true, true, false, false, false, false] #[true, true, true, true, true, true, true, true, true, true, false, true, true, true, false, false, false] rfl rfl rfl rfl (two_of HT_.out (by kernel_rfl)) (by decide) (by decide) (fun K hK => ?_) (fun K hK => ?_)
      · refine mkO (by rfl) rfl rfl rfl he hB (fun gO cO WD hO hB2 hg hlO => ?_)
        replace hV := Kd.R_below hV hg
        replace hS := Kd.R_below hS hg
        replace hb := blk_below hb hg; replace hB := hB2
        refine hK.out _ _ ⟨(by rw [blk_cell hb 0]; rfl), (by rw [blk_cell hb 1]; rfl)⟩ (fun _ => norm_ (by simp only [Act.put, List.setIfInBounds_toArray, List.set_cons_zero, List.set_cons_succ]; rfl) ?_)
        clear hK K hg hB2
        refine one_ (fuel := 3) (i := 13) #[true, true, true, true, true, true, true, true, true, true, true, true, true, true, false, false, false] rfl rfl (one_of HT_.out (by kernel_rfl)) (by decide) (fun K hK => ?_)
        · refine mkU (by rfl) rfl rfl rfl hn hB (fun gU cU WD hU hB2 hg hlU => ?_)
          replace hU := Kd.S_mono (ok' := fun k => k ≠ gO) hU (fun k (hk : _ ≤ k) => by have := Kd.R_lt hO gO rfl; omega)
          replace hV := Kd.R_below hV hg
          replace hS := Kd.R_below hS hg
          replace hO := Kd.R_below hO hg
          replace hb := blk_below hb hg; replace hB := hB2
          refine hK.out _ _ ⟨(by rw [blk_cell hb 0]; rfl), (by rw [blk_cell hb 1]; rfl)⟩ (fun _ => norm_ (by simp only [Act.put, List.setIfInBounds_toArray, List.set_cons_zero, List.set_cons_succ]; rfl) ?_)
          clear hK K hg hB2
          exact norm_ (by simp only [putAll, Act.put, List.setIfInBounds_toArray, List.set_cons_zero, List.set_cons_succ]) (hc ((gV, cV), (gS, cS), (gO, cO), gU, cU) _ ⟨hB, hb, Kd.R_mono hV (fun _ _ => trivial), Kd.R_mono hS (fun _ _ => trivial), Kd.R_mono hO (fun _ _ => trivial), hU⟩)
      · refine mkU (by rfl) rfl rfl rfl hn hB (fun gU cU WD hU hB2 hg hlU => ?_)
        replace hV := Kd.R_below hV hg
        replace hS := Kd.R_below hS hg
        replace hb := blk_below hb hg; replace hB := hB2
        refine hK.out _ _ ⟨(by rw [blk_cell hb 0]; rfl), (by rw [blk_cell hb 1]; rfl)⟩ (fun _ => norm_ (by simp only [Act.put, List.setIfInBounds_toArray, List.set_cons_zero, List.set_cons_succ]; rfl) ?_)
        clear hK K hg hB2
        refine one_ (fuel := 3) (i := 10) #[true, true, true, true, true, true, true, true, true, true, true, true, true, true, false, false, false] rfl rfl (one_of HT_.out (by kernel_rfl)) (by decide) (fun K hK => ?_)
        · refine mkO (by rfl) rfl rfl rfl he hB (fun gO cO WD hO hB2 hg hlO => ?_)
          replace hU := Kd.S_mono (ok' := fun k => k ≠ gO) (Kd.S_bound hU) (fun k hk => by have h3 := hk.2.2.1; omega)
          replace hV := Kd.R_below hV hg
          replace hS := Kd.R_below hS hg
          replace hU := Kd.S_below hU hg
          replace hb := blk_below hb hg; replace hB := hB2
          refine hK.out _ _ ⟨(by rw [blk_cell hb 0]; rfl), (by rw [blk_cell hb 1]; rfl)⟩ (fun _ => norm_ (by simp only [Act.put, List.setIfInBounds_toArray, List.set_cons_zero, List.set_cons_succ]; rfl) ?_)
          clear hK K hg hB2
          exact norm_ (by simp only [putAll, Act.put, List.setIfInBounds_toArray, List.set_cons_zero, List.set_cons_succ]) (hc ((gV, cV), (gS, cS), (gO, cO), gU, cU) _ ⟨hB, hb, Kd.R_mono hV (fun _ _ => trivial), Kd.R_mono hS (fun _ _ => trivial), Kd.R_mono hO (fun _ _ => trivial), hU⟩)
    · refine mkO (by rfl) rfl rfl rfl he hB (fun gO cO WD hO hB2 hg hlO => ?_)
      replace hS := Kd.R_below hS hg
      replace hb := blk_below hb hg; replace hB := hB2
      refine hK.out _ _ ⟨(by rw [blk_cell hb 0]; rfl), (by rw [blk_cell hb 1]; rfl)⟩ (fun _ => norm_ (by simp only [Act.put, List.setIfInBounds_toArray, List.set_cons_zero, List.set_cons_succ]; rfl) ?_)
      clear hK K hg hB2
      refine two_ (fuel := 4) (i := 3) (j := 13) #[true, true, true, true, true, true, true, true, true, true, true, true, true, false, false, false, false] #[true, true, true, false, true, true, true, true, true, true, true, true, true, true, false, false, false] rfl rfl rfl rfl (two_of HT_.out (by kernel_rfl)) (by decide) (by decide) (fun K hK => ?_) (fun K hK => ?_)
      · refine mkV (by rfl) rfl rfl rfl hn hB (fun gV cV WD hV hB2 hg hlV => ?_)
        replace hS := Kd.R_below hS hg
        replace hO := Kd.R_below hO hg
        replace hb := blk_below hb hg; replace hB := hB2
        refine hK.out _ _ ⟨(by rw [blk_cell hb 0]; rfl), (by rw [blk_cell hb 1]; rfl)⟩ (fun _ => norm_ (by simp only [Act.put, List.setIfInBounds_toArray, List.set_cons_zero, List.set_cons_succ]; rfl) ?_)
        clear hK K hg hB2
        refine one_ (fuel := 3) (i := 13) #[true, true, true, true, true, true, true, true, true, true, true, true, true, true, false, false, false] rfl rfl (one_of HT_.out (by kernel_rfl)) (by decide) (fun K hK => ?_)
        · refine mkU (by rfl) rfl rfl rfl hn hB (fun gU cU WD hU hB2 hg hlU => ?_)
          replace hU := Kd.S_mono (ok' := fun k => k ≠ gO) hU (fun k (hk : _ ≤ k) => by have := Kd.R_lt hO gO rfl; omega)
          replace hV := Kd.R_below hV hg
          replace hS := Kd.R_below hS hg
          replace hO := Kd.R_below hO hg
          replace hb := blk_below hb hg; replace hB := hB2
          refine hK.out _ _ ⟨(by rw [blk_cell hb 0]; rfl), (by rw [blk_cell hb 1]; rfl)⟩ (fun _ => norm_ (by simp only [Act.put, List.setIfInBounds_toArray, List.set_cons_zero, List.set_cons_succ]; rfl) ?_)
          clear hK K hg hB2
          exact norm_ (by simp only [putAll, Act.put, List.setIfInBounds_toArray, List.set_cons_zero, List.set_cons_succ]) (hc ((gV, cV), (gS, cS), (gO, cO), gU, cU) _ ⟨hB, hb, Kd.R_mono hV (fun _ _ => trivial), Kd.R_mono hS (fun _ _ => trivial), Kd.R_mono hO (fun _ _ => trivial), hU⟩)
      · refine mkU (by rfl) rfl rfl rfl hn hB (fun gU cU WD hU hB2 hg hlU => ?_)
        replace hU := Kd.S_mono (ok' := fun k => k ≠ gO) hU (fun k (hk : _ ≤ k) => by have := Kd.R_lt hO gO rfl; omega)
        replace hS := Kd.R_below hS hg
        replace hO := Kd.R_below hO hg
        replace hb := blk_below hb hg; replace hB := hB2
        refine hK.out _ _ ⟨(by rw [blk_cell hb 0]; rfl), (by rw [blk_cell hb 1]; rfl)⟩ (fun _ => norm_ (by simp only [Act.put, List.setIfInBounds_toArray, List.set_cons_zero, List.set_cons_succ]; rfl) ?_)
        clear hK K hg hB2
        refine one_ (fuel := 3) (i := 3) #[true, true, true, true, true, true, true, true, true, true, true, true, true, true, false, false, false] rfl rfl (one_of HT_.out (by kernel_rfl)) (by decide) (fun K hK => ?_)
        · refine mkV (by rfl) rfl rfl rfl hn hB (fun gV cV WD hV hB2 hg hlV => ?_)
          replace hS := Kd.R_below hS hg
          replace hO := Kd.R_below hO hg
          replace hU := Kd.S_below hU hg
          replace hb := blk_below hb hg; replace hB := hB2
          refine hK.out _ _ ⟨(by rw [blk_cell hb 0]; rfl), (by rw [blk_cell hb 1]; rfl)⟩ (fun _ => norm_ (by simp only [Act.put, List.setIfInBounds_toArray, List.set_cons_zero, List.set_cons_succ]; rfl) ?_)
          clear hK K hg hB2
          exact norm_ (by simp only [putAll, Act.put, List.setIfInBounds_toArray, List.set_cons_zero, List.set_cons_succ]) (hc ((gV, cV), (gS, cS), (gO, cO), gU, cU) _ ⟨hB, hb, Kd.R_mono hV (fun _ _ => trivial), Kd.R_mono hS (fun _ _ => trivial), Kd.R_mono hO (fun _ _ => trivial), hU⟩)
    · refine mkU (by rfl) rfl rfl rfl hn hB (fun gU cU WD hU hB2 hg hlU => ?_)
      replace hS := Kd.R_below hS hg
      replace hb := blk_below hb hg; replace hB := hB2
      refine hK.out _ _ ⟨(by rw [blk_cell hb 0]; rfl), (by rw [blk_cell hb 1]; rfl)⟩ (fun _ => norm_ (by simp only [Act.put, List.setIfInBounds_toArray, List.set_cons_zero, List.set_cons_succ]; rfl) ?_)
      clear hK K hg hB2
      refine two_ (fuel := 4) (i := 3) (j := 10) #[true, true, true, true, true, true, true, true, true, true, false, true, true, true, false, false, false] #[true, true, true, false, true, true, true, true, true, true, true, true, true, true, false, false, false] rfl rfl rfl rfl (two_of HT_.out (by kernel_rfl)) (by decide) (by decide) (fun K hK => ?_) (fun K hK => ?_)
      · refine mkV (by rfl) rfl rfl rfl hn hB (fun gV cV WD hV hB2 hg hlV => ?_)
        replace hS := Kd.R_below hS hg
        replace hU := Kd.S_below hU hg
        replace hb := blk_below hb hg; replace hB := hB2
        refine hK.out _ _ ⟨(by rw [blk_cell hb 0]; rfl), (by rw [blk_cell hb 1]; rfl)⟩ (fun _ => norm_ (by simp only [Act.put, List.setIfInBounds_toArray, List.set_cons_zero, List.set_cons_succ]; rfl) ?_)
        clear hK K hg hB2
        refine one_ (fuel := 3) (i := 10) #[true, true, true, true, true, true, true, true, true, true, true, true, true, true, false, false, false] rfl rfl (one_of HT_.out (by kernel_rfl)) (by decide) (fun K hK => ?_)
        · refine mkO (by rfl) rfl rfl rfl he hB (fun gO cO WD hO hB2 hg hlO => ?_)
          replace hU := Kd.S_mono (ok' := fun k => k ≠ gO) (Kd.S_bound hU) (fun k hk => by have h3 := hk.2.2.1; omega)
          replace hV := Kd.R_below hV hg
          replace hS := Kd.R_below hS hg
          replace hU := Kd.S_below hU hg
          replace hb := blk_below hb hg; replace hB := hB2
          refine hK.out _ _ ⟨(by rw [blk_cell hb 0]; rfl), (by rw [blk_cell hb 1]; rfl)⟩ (fun _ => norm_ (by simp only [Act.put, List.setIfInBounds_toArray, List.set_cons_zero, List.set_cons_succ]; rfl) ?_)
          clear hK K hg hB2
          exact norm_ (by simp only [putAll, Act.put, List.setIfInBounds_toArray, List.set_cons_zero, List.set_cons_succ]) (hc ((gV, cV), (gS, cS), (gO, cO), gU, cU) _ ⟨hB, hb, Kd.R_mono hV (fun _ _ => trivial), Kd.R_mono hS (fun _ _ => trivial), Kd.R_mono hO (fun _ _ => trivial), hU⟩)
      · refine mkO (by rfl) rfl rfl rfl he hB (fun gO cO WD hO hB2 hg hlO => ?_)
        replace hU := Kd.S_mono (ok' := fun k => k ≠ gO) (Kd.S_bound hU) (fun k hk => by have h3 := hk.2.2.1; omega)
        replace hS := Kd.R_below hS hg
        replace hU := Kd.S_below hU hg
        replace hb := blk_below hb hg; replace hB := hB2
        refine hK.out _ _ ⟨(by rw [blk_cell hb 0]; rfl), (by rw [blk_cell hb 1]; rfl)⟩ (fun _ => norm_ (by simp only [Act.put, List.setIfInBounds_toArray, List.set_cons_zero, List.set_cons_succ]; rfl) ?_)
        clear hK K hg hB2
        refine one_ (fuel := 3) (i := 3) #[true, true, true, true, true, true, true, true, true, true, true, true, true, true, false, false, false] rfl rfl (one_of HT_.out (by kernel_rfl)) (by decide) (fun K hK => ?_)
        · refine mkV (by rfl) rfl rfl rfl hn hB (fun gV cV WD hV hB2 hg hlV => ?_)
          replace hS := Kd.R_below hS hg
          replace hO := Kd.R_below hO hg
          replace hU := Kd.S_below hU hg
          replace hb := blk_below hb hg; replace hB := hB2
          refine hK.out _ _ ⟨(by rw [blk_cell hb 0]; rfl), (by rw [blk_cell hb 1]; rfl)⟩ (fun _ => norm_ (by simp only [Act.put, List.setIfInBounds_toArray, List.set_cons_zero, List.set_cons_succ]; rfl) ?_)
          clear hK K hg hB2
          exact norm_ (by simp only [putAll, Act.put, List.setIfInBounds_toArray, List.set_cons_zero, List.set_cons_succ]) (hc ((gV, cV), (gS, cS), (gO, cO), gU, cU) _ ⟨hB, hb, Kd.R_mono hV (fun _ _ => trivial), Kd.R_mono hS (fun _ _ => trivial), Kd.R_mono hO (fun _ _ => trivial), hU⟩)
  · refine mkO (by rfl) rfl rfl rfl he hB (fun gO cO WD hO hB2 hg hlO => ?_)
    replace hb := blk_below hb hg; replace hB := hB2
    refine hK.out _ _ ⟨(by rw [blk_cell hb 0]; rfl), (by rw [blk_cell hb 1]; rfl)⟩ (fun _ => norm_ (by simp only [Act.put, List.setIfInBounds_toArray, List.set_cons_zero, List.set_cons_succ]; rfl) ?_)
    clear hK K hg hB2
    refine three_ (fuel := 5) (i := 3) (j := 6) (k := 13) #[true, true, true, true, true, true, false, true, true, true, true, true, true, false, false, false, false] #[true, true, true, false, true, true, true, true, true, true, true, true, true, false, false, false, false] #[true, true, true, false, true, true, false, true, true, true, true, true, true, true, false, false, false] rfl rfl rfl rfl rfl rfl (three_of HT_.out (by kernel_rfl)) (by decide) (by decide) (by decide) (fun K hK => ?_) (fun K hK => ?_) (fun K hK => ?_)
    · refine mkV (by rfl) rfl rfl rfl hn hB (fun gV cV WD hV hB2 hg hlV => ?_)
      replace hO := Kd.R_below hO hg
      replace hb := blk_below hb hg; replace hB := hB2
      refine hK.out _ _ ⟨(by rw [blk_cell hb 0]; rfl), (by rw [blk_cell hb 1]; rfl)⟩ (fun _ => norm_ (by simp only [Act.put, List.setIfInBounds_toArray, List.set_cons_zero, List.set_cons_succ]; rfl) ?_)
      clear hK K hg hB2
      refine two_ (fuel := 4) (i := 6) (j := 13) #[true, true, true, true, true, true, true, true, true, true, true, true, true, false, false, false, false] #[true, true, true, true, true, true, false, true, true, true, true, true, true, true, false, false, false] rfl rfl rfl rfl (two_of HT_.out (by kernel_rfl)) (by decide) (by decide) (fun K hK => ?_) (fun K hK => ?_)
      · refine mkS (by rfl) rfl rfl rfl hn hB (fun gS cS WD hS hB2 hg hlS => ?_)
        replace hV := Kd.R_below hV hg
        replace hO := Kd.R_below hO hg
        replace hb := blk_below hb hg; replace hB := hB2
        refine hK.out _ _ ⟨(by rw [blk_cell hb 0]; rfl), (by rw [blk_cell hb 1]; rfl)⟩ (fun _ => norm_ (by simp only [Act.put, List.setIfInBounds_toArray, List.set_cons_zero, List.set_cons_succ]; rfl) ?_)
        clear hK K hg hB2
        refine one_ (fuel := 3) (i := 13) #[true, true, true, true, true, true, true, true, true, true, true, true, true, true, false, false, false] rfl rfl (one_of HT_.out (by kernel_rfl)) (by decide) (fun K hK => ?_)
        · refine mkU (by rfl) rfl rfl rfl hn hB (fun gU cU WD hU hB2 hg hlU => ?_)
          replace hU := Kd.S_mono (ok' := fun k => k ≠ gO) hU (fun k (hk : _ ≤ k) => by have := Kd.R_lt hO gO rfl; omega)
          replace hV := Kd.R_below hV hg
          replace hS := Kd.R_below hS hg
          replace hO := Kd.R_below hO hg
          replace hb := blk_below hb hg; replace hB := hB2
          refine hK.out _ _ ⟨(by rw [blk_cell hb 0]; rfl), (by rw [blk_cell hb 1]; rfl)⟩ (fun _ => norm_ (by simp only [Act.put, List.setIfInBounds_toArray, List.set_cons_zero, List.set_cons_succ]; rfl) ?_)
          clear hK K hg hB2
          exact norm_ (by simp only [putAll, Act.put, List.setIfInBounds_toArray, List.set_cons_zero, List.set_cons_succ]) (hc ((gV, cV), (gS, cS), (gO, cO), gU, cU) _ ⟨hB, hb, Kd.R_mono hV (fun _ _ => trivial), Kd.R_mono hS (fun _ _ => trivial), Kd.R_mono hO (fun _ _ => trivial), hU⟩)
      · refine mkU (by rfl) rfl rfl rfl hn hB (fun gU cU WD hU hB2 hg hlU => ?_)
        replace hU := Kd.S_mono (ok' := fun k => k ≠ gO) hU (fun k (hk : _ ≤ k) => by have := Kd.R_lt hO gO rfl; omega)
        replace hV := Kd.R_below hV hg
        replace hO := Kd.R_below hO hg
        replace hb := blk_below hb hg; replace hB := hB2
        refine hK.out _ _ ⟨(by rw [blk_cell hb 0]; rfl), (by rw [blk_cell hb 1]; rfl)⟩ (fun _ => norm_ (by simp only [Act.put, List.setIfInBounds_toArray, List.set_cons_zero, List.set_cons_succ]; rfl) ?_)
        clear hK K hg hB2
        refine one_ (fuel := 3) (i := 6) #[true, true, true, true, true, true, true, true, true, true, true, true, true, true, false, false, false] rfl rfl (one_of HT_.out (by kernel_rfl)) (by decide) (fun K hK => ?_)
        · refine mkS (by rfl) rfl rfl rfl hn hB (fun gS cS WD hS hB2 hg hlS => ?_)
          replace hV := Kd.R_below hV hg
          replace hO := Kd.R_below hO hg
          replace hU := Kd.S_below hU hg
          replace hb := blk_below hb hg; replace hB := hB2
          refine hK.out _ _ ⟨(by rw [blk_cell hb 0]; rfl), (by rw [blk_cell hb 1]; rfl)⟩ (fun _ => norm_ (by simp only [Act.put, List.setIfInBounds_toArray, List.set_cons_zero, List.set_cons_succ]; rfl) ?_)
          clear hK K hg hB2
          exact norm_ (by simp only [putAll, Act.put, List.setIfInBounds_toArray, List.set_cons_zero, List.set_cons_succ]) (hc ((gV, cV), (gS, cS), (gO, cO), gU, cU) _ ⟨hB, hb, Kd.R_mono hV (fun _ _ => trivial), Kd.R_mono hS (fun _ _ => trivial), Kd.R_mono hO (fun _ _ => trivial), hU⟩)
    · refine mkS (by rfl) rfl rfl rfl hn hB (fun gS cS WD hS hB2 hg hlS => ?_)
      replace hO := Kd.R_below hO hg
      replace hb := blk_below hb hg; replace hB := hB2
      refine hK.out _ _ ⟨(by rw [blk_cell hb 0]; rfl), (by rw [blk_cell hb 1]; rfl)⟩ (fun _ => norm_ (by simp only [Act.put, List.setIfInBounds_toArray, List.set_cons_zero, List.set_cons_succ]; rfl) ?_)
      clear hK K hg hB2
      refine two_ (fuel := 4) (i := 3) (j := 13) #[true, true, true, true, true, true, true, true, true, true, true, true, true, false, false, false, false] #[true, true, true, false, true, true, true, true, true, true, true, true, true, true, false, false, false] rfl rfl rfl rfl (two_of HT_.out (by kernel_rfl)) (by decide) (by decide) (fun K hK => ?_) (fun K hK => ?_)
      · refine mkV (by rfl) rfl rfl rfl hn hB (fun gV cV WD hV hB2 hg hlV => ?_)
        replace hS := Kd.R_below hS hg
        replace hO := Kd.R_below hO hg
        replace hb := blk_below hb hg; replace hB := hB2
        refine hK.out _ _ ⟨(by rw [blk_cell hb 0]; rfl), (by rw [blk_cell hb 1]; rfl)⟩ (fun _ => norm_ (by simp only [Act.put, List.setIfInBounds_toArray, List.set_cons_zero, List.set_cons_succ]; rfl) ?_)
        clear hK K hg hB2
        refine one_ (fuel := 3) (i := 13) #[true, true, true, true, true, true, true, true, true, true, true, true, true, true, false, false, false] rfl rfl (one_of HT_.out (by kernel_rfl)) (by decide) (fun K hK => ?_)
        · refine mkU (by rfl) rfl rfl rfl hn hB (fun gU cU WD hU hB2 hg hlU => ?_)
          replace hU := Kd.S_mono (ok' := fun k => k ≠ gO) hU (fun k (hk : _ ≤ k) => by have := Kd.R_lt hO gO rfl; omega)
          replace hV := Kd.R_below hV hg
          replace hS := Kd.R_below hS hg
          replace hO := Kd.R_below hO hg
          replace hb := blk_below hb hg; replace hB := hB2
          refine hK.out _ _ ⟨(by rw [blk_cell hb 0]; rfl), (by rw [blk_cell hb 1]; rfl)⟩ (fun _ => norm_ (by simp only [Act.put, List.setIfInBounds_toArray, List.set_cons_zero, List.set_cons_succ]; rfl) ?_)
          clear hK K hg hB2
          exact norm_ (by simp only [putAll, Act.put, List.setIfInBounds_toArray, List.set_cons_zero, List.set_cons_succ]) (hc ((gV, cV), (gS, cS), (gO, cO), gU, cU) _ ⟨hB, hb, Kd.R_mono hV (fun _ _ => trivial), Kd.R_mono hS (fun _ _ => trivial), Kd.R_mono hO (fun _ _ => trivial), hU⟩)
      · refine mkU (by rfl) rfl rfl rfl hn hB (fun gU cU WD hU hB2 hg hlU => ?_)
        replace hU := Kd.S_mono (ok' := fun k => k ≠ gO) hU (fun k (hk : _ ≤ k) => by have := Kd.R_lt hO gO rfl; omega)
        replace hS := Kd.R_below hS hg
        replace hO := Kd.R_below hO hg
        replace hb := blk_below hb hg; replace hB := hB2
        refine hK.out _ _ ⟨(by rw [blk_cell hb 0]; rfl), (by rw [blk_cell hb 1]; rfl)⟩ (fun _ => norm_ (by simp only [Act.put, List.setIfInBounds_toArray, List.set_cons_zero, List.set_cons_succ]; rfl) ?_)
        clear hK K hg hB2
        refine one_ (fuel := 3) (i := 3) #[true, true, true, true, true, true, true, true, true, true, true, true, true, true, false, false, false] rfl rfl (one_of HT_.out (by kernel_rfl)) (by decide) (fun K hK => ?_)
        · refine mkV (by rfl) rfl rfl rfl hn hB (fun gV cV WD hV hB2 hg hlV => ?_)
          replace hS := Kd.R_below hS hg
          replace hO := Kd.R_below hO hg
          replace hU := Kd.S_below hU hg
          replace hb := blk_below hb hg; replace hB := hB2
          refine hK.out _ _ ⟨(by rw [blk_cell hb 0]; rfl), (by rw [blk_cell hb 1]; rfl)⟩ (fun _ => norm_ (by simp only [Act.put, List.setIfInBounds_toArray, List.set_cons_zero, List.set_cons_succ]; rfl) ?_)
          clear hK K hg hB2
          exact norm_ (by simp only [putAll, Act.put, List.setIfInBounds_toArray, List.set_cons_zero, List.set_cons_succ]) (hc ((gV, cV), (gS, cS), (gO, cO), gU, cU) _ ⟨hB, hb, Kd.R_mono hV (fun _ _ => trivial), Kd.R_mono hS (fun _ _ => trivial), Kd.R_mono hO (fun _ _ => trivial), hU⟩)
    · refine mkU (by rfl) rfl rfl rfl hn hB (fun gU cU WD hU hB2 hg hlU => ?_)
      replace hU := Kd.S_mono (ok' := fun k => k ≠ gO) hU (fun k (hk : _ ≤ k) => by have := Kd.R_lt hO gO rfl; omega)
      replace hO := Kd.R_below hO hg
      replace hb := blk_below hb hg; replace hB := hB2
      refine hK.out _ _ ⟨(by rw [blk_cell hb 0]; rfl), (by rw [blk_cell hb 1]; rfl)⟩ (fun _ => norm_ (by simp only [Act.put, List.setIfInBounds_toArray, List.set_cons_zero, List.set_cons_succ]; rfl) ?_)
      clear hK K hg hB2
      refine two_ (fuel := 4) (i := 3) (j := 6) #[true, true, true, true, true, true, false, true, true, true, true, true, true, true, false, false, false] #[true, true, true, false, true, true, true, true, true, true, true, true, true, true, false, false, false] rfl rfl rfl rfl (two_of HT_.out (by kernel_rfl)) (by decide) (by decide) (fun K hK => ?_) (fun K hK => ?_)
      · refine mkV (by rfl) rfl rfl rfl hn hB (fun gV cV WD hV hB2 hg hlV => ?_)
        replace hO := Kd.R_below hO hg
        replace hU := Kd.S_below hU hg
        replace hb := blk_below hb hg; replace hB := hB2
        refine hK.out _ _ ⟨(by rw [blk_cell hb 0]; rfl), (by rw [blk_cell hb 1]; rfl)⟩ (fun _ => norm_ (by simp only [Act.put, List.setIfInBounds_toArray, List.set_cons_zero, List.set_cons_succ]; rfl) ?_)
        clear hK K hg hB2
        refine one_ (fuel := 3) (i := 6) #[true, true, true, true, true, true, true, true, true, true, true, true, true, true, false, false, false] rfl rfl (one_of HT_.out (by kernel_rfl)) (by decide) (fun K hK => ?_)
        · refine mkS (by rfl) rfl rfl rfl hn hB (fun gS cS WD hS hB2 hg hlS => ?_)
          replace hV := Kd.R_below hV hg
          replace hO := Kd.R_below hO hg
          replace hU := Kd.S_below hU hg
          replace hb := blk_below hb hg; replace hB := hB2
          refine hK.out _ _ ⟨(by rw [blk_cell hb 0]; rfl), (by rw [blk_cell hb 1]; rfl)⟩ (fun _ => norm_ (by simp only [Act.put, List.setIfInBounds_toArray, List.set_cons_zero, List.set_cons_succ]; rfl) ?_)
          clear hK K hg hB2
          exact norm_ (by simp only [putAll, Act.put, List.setIfInBounds_toArray, List.set_cons_zero, List.set_cons_succ]) (hc ((gV, cV), (gS, cS), (gO, cO), gU, cU) _ ⟨hB, hb, Kd.R_mono hV (fun _ _ => trivial), Kd.R_mono hS (fun _ _ => trivial), Kd.R_mono hO (fun _ _ => trivial), hU⟩)
      · refine mkS (by rfl) rfl rfl rfl hn hB (fun gS cS WD hS hB2 hg hlS => ?_)
        replace hO := Kd.R_below hO hg
        replace hU := Kd.S_below hU hg
        replace hb := blk_below hb hg; replace hB := hB2
        refine hK.out _ _ ⟨(by rw [blk_cell hb 0]; rfl), (by rw [blk_cell hb 1]; rfl)⟩ (fun _ => norm_ (by simp only [Act.put, List.setIfInBounds_toArray, List.set_cons_zero, List.set_cons_succ]; rfl) ?_)
        clear hK K hg hB2
        refine one_ (fuel := 3) (i := 3) #[true, true, true, true, true, true, true, true, true, true, true, true, true, true, false, false, false] rfl rfl (one_of HT_.out (by kernel_rfl)) (by decide) (fun K hK => ?_)
        · refine mkV (by rfl) rfl rfl rfl hn hB (fun gV cV WD hV hB2 hg hlV => ?_)
          replace hS := Kd.R_below hS hg
          replace hO := Kd.R_below hO hg
          replace hU := Kd.S_below hU hg
          replace hb := blk_below hb hg; replace hB := hB2
          refine hK.out _ _ ⟨(by rw [blk_cell hb 0]; rfl), (by rw [blk_cell hb 1]; rfl)⟩ (fun _ => norm_ (by simp only [Act.put, List.setIfInBounds_toArray, List.set_cons_zero, List.set_cons_succ]; rfl) ?_)
          clear hK K hg hB2
          exact norm_ (by simp only [putAll, Act.put, List.setIfInBounds_toArray, List.set_cons_zero, List.set_cons_succ]) (hc ((gV, cV), (gS, cS), (gO, cO), gU, cU) _ ⟨hB, hb, Kd.R_mono hV (fun _ _ => trivial), Kd.R_mono hS (fun _ _ => trivial), Kd.R_mono hO (fun _ _ => trivial), hU⟩)
  · refine mkU (by rfl) rfl rfl rfl hn hB (fun gU cU WD hU hB2 hg hlU => ?_)
    replace hb := blk_below hb hg; replace hB := hB2
    refine hK.out _ _ ⟨(by rw [blk_cell hb 0]; rfl), (by rw [blk_cell hb 1]; rfl)⟩ (fun _ => norm_ (by simp only [Act.put, List.setIfInBounds_toArray, List.set_cons_zero, List.set_cons_succ]; rfl) ?_)
    clear hK K hg hB2
    refine three_ (fuel := 5) (i := 3) (j := 6) (k := 10) #[true, true, true, true, true, true, false, true, true, true, false, true, true, true, false, false, false] #[true, true, true, false, true, true, true, true, true, true, false, true, true, true, false, false, false] #[true, true, true, false, true, true, false, true, true, true, true, true, true, true, false, false, false] rfl rfl rfl rfl rfl rfl (three_of HT_.out (by kernel_rfl)) (by decide) (by decide) (by decide) (fun K hK => ?_) (fun K hK => ?_) (fun K hK => ?_)
    · refine mkV (by rfl) rfl rfl rfl hn hB (fun gV cV WD hV hB2 hg hlV => ?_)
      replace hU := Kd.S_below hU hg
      replace hb := blk_below hb hg; replace hB := hB2
      refine hK.out _ _ ⟨(by rw [blk_cell hb 0]; rfl), (by rw [blk_cell hb 1]; rfl)⟩ (fun _ => norm_ (by simp only [Act.put, List.setIfInBounds_toArray, List.set_cons_zero, List.set_cons_succ]; rfl) ?_)
      clear hK K hg hB2
      refine two_ (fuel := 4) (i := 6) (j := 10) #[true, true, true, true, true, true, true, true, true, true, false, true, true, true, false, false, false] #[true, true, true, true, true, true, false, true, true, true, true, true, true, true, false, false, false] rfl rfl rfl rfl (two_of HT_.out (by kernel_rfl)) (by decide) (by decide) (fun K hK => ?_) (fun K hK => ?_)
      · refine mkS (by rfl) rfl rfl rfl hn hB (fun gS cS WD hS hB2 hg hlS => ?_)
        replace hV := Kd.R_below hV hg
        replace hU := Kd.S_below hU hg
        replace hb := blk_below hb hg; replace hB := hB2
        refine hK.out _ _ ⟨(by rw [blk_cell hb 0]; rfl), (by rw [blk_cell hb 1]; rfl)⟩ (fun _ => norm_ (by simp only [Act.put, List.setIfInBounds_toArray, List.set_cons_zero, List.set_cons_succ]; rfl) ?_)
        clear hK K hg hB2
        refine one_ (fuel := 3) (i := 10) #[true, true, true, true, true, true, true, true, true, true, true, true, true, true, false, false, false] rfl rfl (one_of HT_.out (by kernel_rfl)) (by decide) (fun K hK => ?_)
        · refine mkO (by rfl) rfl rfl rfl he hB (fun gO cO WD hO hB2 hg hlO => ?_)
          replace hU := Kd.S_mono (ok' := fun k => k ≠ gO) (Kd.S_bound hU) (fun k hk => by have h3 := hk.2.2.1; omega)
          replace hV := Kd.R_below hV hg
          replace hS := Kd.R_below hS hg
          replace hU := Kd.S_below hU hg
          replace hb := blk_below hb hg; replace hB := hB2
          refine hK.out _ _ ⟨(by rw [blk_cell hb 0]; rfl), (by rw [blk_cell hb 1]; rfl)⟩ (fun _ => norm_ (by simp only [Act.put, List.setIfInBounds_toArray, List.set_cons_zero, List.set_cons_succ]; rfl) ?_)
          clear hK K hg hB2
          exact norm_ (by simp only [putAll, Act.put, List.setIfInBounds_toArray, List.set_cons_zero, List.set_cons_succ]) (hc ((gV, cV), (gS, cS), (gO, cO), gU, cU) _ ⟨hB, hb, Kd.R_mono hV (fun _ _ => trivial), Kd.R_mono hS (fun _ _ => trivial), Kd.R_mono hO (fun _ _ => trivial), hU⟩)
      · refine mkO (by rfl) rfl rfl rfl he hB (fun gO cO WD hO hB2 hg hlO => ?_)
        replace hU := Kd.S_mono (ok' := fun k => k ≠ gO) (Kd.S_bound hU) (fun k hk => by have h3 := hk.2.2.1; omega)
        replace hV := Kd.R_below hV hg
        replace hU := Kd.S_below hU hg
        replace hb := blk_below hb hg; replace hB := hB2
        refine hK.out _ _ ⟨(by rw [blk_cell hb 0]; rfl), (by rw [blk_cell hb 1]; rfl)⟩ (fun _ => norm_ (by simp only [Act.put, List.setIfInBounds_toArray, List.set_cons_zero, List.set_cons_succ]; rfl) ?_)
        clear hK K hg hB2
        refine one_ (fuel := 3) (i := 6) #[true, true, true, true, true, true, true, true, true, true, true, true, true, true, false, false, false] rfl rfl (one_of HT_.out (by kernel_rfl)) (by decide) (fun K hK => ?_)
        · refine mkS (by rfl) rfl rfl rfl hn hB (fun gS cS WD hS hB2 hg hlS => ?_)
          replace hV := Kd.R_below hV hg
          replace hO := Kd.R_below hO hg
          replace hU := Kd.S_below hU hg
          replace hb := blk_below hb hg; replace hB := hB2
          refine hK.out _ _ ⟨(by rw [blk_cell hb 0]; rfl), (by rw [blk_cell hb 1]; rfl)⟩ (fun _ => norm_ (by simp only [Act.put, List.setIfInBounds_toArray, List.set_cons_zero, List.set_cons_succ]; rfl) ?_)
          clear hK K hg hB2
          exact norm_ (by simp only [putAll, Act.put, List.setIfInBounds_toArray, List.set_cons_zero, List.set_cons_succ]) (hc ((gV, cV), (gS, cS), (gO, cO), gU, cU) _ ⟨hB, hb, Kd.R_mono hV (fun _ _ => trivial), Kd.R_mono hS (fun _ _ => trivial), Kd.R_mono hO (fun _ _ => trivial), hU⟩)
    · refine mkS (by rfl) rfl rfl rfl hn hB (fun gS cS WD hS hB2 hg hlS => ?_)
      replace hU := Kd.S_below hU hg
      replace hb := blk_below hb hg; replace hB := hB2
      refine hK.out _ _ ⟨(by rw [blk_cell hb 0]; rfl), (by rw [blk_cell hb 1]; rfl)⟩ (fun _ => norm_ (by simp only [Act.put, List.setIfInBounds_toArray, List.set_cons_zero, List.set_cons_succ]; rfl) ?_)
      clear hK K hg hB2
      refine two_ (fuel := 4) (i := 3) (j := 10) #[true, true, true, true, true, true, true, true, true, true, false, true, true, true, false, false, false] #[true, true, true, false, true, true, true, true, true, true, true, true, true, true, false, false, false] rfl rfl rfl rfl (two_of HT_.out (by kernel_rfl)) (by decide) (by decide) (fun K hK => ?_) (fun K hK => ?_)
      · refine mkV (by rfl) rfl rfl rfl hn hB (fun gV cV WD hV hB2 hg hlV => ?_)
        replace hS := Kd.R_below hS hg
        replace hU := Kd.S_below hU hg
        replace hb := blk_below hb hg; replace hB := hB2
        refine hK.out _ _ ⟨(by rw [blk_cell hb 0]; rfl), (by rw [blk_cell hb 1]; rfl)⟩ (fun _ => norm_ (by simp only [Act.put, List.setIfInBounds_toArray, List.set_cons_zero, List.set_cons_succ]; rfl) ?_)
        clear hK K hg hB2
        refine one_ (fuel := 3) (i := 10) #[true, true, true, true, true, true, true, true, true, true, true, true, true, true, false, false, false] rfl rfl (one_of HT_.out (by kernel_rfl)) (by decide) (fun K hK => ?_)
        · refine mkO (by rfl) rfl rfl rfl he hB (fun gO cO WD hO hB2 hg hlO => ?_)
          replace hU := Kd.S_mono (ok' := fun k => k ≠ gO) (Kd.S_bound hU) (fun k hk => by have h3 := hk.2.2.1; omega)
          replace hV := Kd.R_below hV hg
          replace hS := Kd.R_below hS hg
          replace hU := Kd.S_below hU hg
          replace hb := blk_below hb hg; replace hB := hB2
          refine hK.out _ _ ⟨(by rw [blk_cell hb 0]; rfl), (by rw [blk_cell hb 1]; rfl)⟩ (fun _ => norm_ (by simp only [Act.put, List.setIfInBounds_toArray, List.set_cons_zero, List.set_cons_succ]; rfl) ?_)
          clear hK K hg hB2
          exact norm_ (by simp only [putAll, Act.put, List.setIfInBounds_toArray, List.set_cons_zero, List.set_cons_succ]) (hc ((gV, cV), (gS, cS), (gO, cO), gU, cU) _ ⟨hB, hb, Kd.R_mono hV (fun _ _ => trivial), Kd.R_mono hS (fun _ _ => trivial), Kd.R_mono hO (fun _ _ => trivial), hU⟩)
      · refine mkO (by rfl) rfl rfl rfl he hB (fun gO cO WD hO hB2 hg hlO => ?_)
        replace hU := Kd.S_mono (ok' := fun k => k ≠ gO) (Kd.S_bound hU) (fun k hk => by have h3 := hk.2.2.1; omega)
        replace hS := Kd.R_below hS hg
        replace hU := Kd.S_below hU hg
        replace hb := blk_below hb hg; replace hB := hB2
        refine hK.out _ _ ⟨(by rw [blk_cell hb 0]; rfl), (by rw [blk_cell hb 1]; rfl)⟩ (fun _ => norm_ (by simp only [Act.put, List.setIfInBounds_toArray, List.set_cons_zero, List.set_cons_succ]; rfl) ?_)
        clear hK K hg hB2
        refine one_ (fuel := 3) (i := 3) #[true, true, true, true, true, true, true, true, true, true, true, true, true, true, false, false, false] rfl rfl (one_of HT_.out (by kernel_rfl)) (by decide) (fun K hK => ?_)
        · refine mkV (by rfl) rfl rfl rfl hn hB (fun gV cV WD hV hB2 hg hlV => ?_)
          replace hS := Kd.R_below hS hg
          replace hO := Kd.R_below hO hg
          replace hU := Kd.S_below hU hg
          replace hb := blk_below hb hg; replace hB := hB2
          refine hK.out _ _ ⟨(by rw [blk_cell hb 0]; rfl), (by rw [blk_cell hb 1]; rfl)⟩ (fun _ => norm_ (by simp only [Act.put, List.setIfInBounds_toArray, List.set_cons_zero, List.set_cons_succ]; rfl) ?_)
          clear hK K hg hB2
          exact norm_ (by simp only [putAll, Act.put, List.setIfInBounds_toArray, List.set_cons_zero, List.set_cons_succ]) (hc ((gV, cV), (gS, cS), (gO, cO), gU, cU) _ ⟨hB, hb, Kd.R_mono hV (fun _ _ => trivial), Kd.R_mono hS (fun _ _ => trivial), Kd.R_mono hO (fun _ _ => trivial), hU⟩)
    · refine mkO (by rfl) rfl rfl rfl he hB (fun gO cO WD hO hB2 hg hlO => ?_)
      replace hU := Kd.S_mono (ok' := fun k => k ≠ gO) (Kd.S_bound hU) (fun k hk => by have h3 := hk.2.2.1; omega)
      replace hU := Kd.S_below hU hg
      replace hb := blk_below hb hg; replace hB := hB2
      refine hK.out _ _ ⟨(by rw [blk_cell hb 0]; rfl), (by rw [blk_cell hb 1]; rfl)⟩ (fun _ => norm_ (by simp only [Act.put, List.setIfInBounds_toArray, List.set_cons_zero, List.set_cons_succ]; rfl) ?_)
      clear hK K hg hB2
      refine two_ (fuel := 4) (i := 3) (j := 6) #[true, true, true, true, true, true, false, true, true, true, true, true, true, true, false, false, false] #[true, true, true, false, true, true, true, true, true, true, true, true, true, true, false, false, false] rfl rfl rfl rfl (two_of HT_.out (by kernel_rfl)) (by decide) (by decide) (fun K hK => ?_) (fun K hK => ?_)
      · refine mkV (by rfl) rfl rfl rfl hn hB (fun gV cV WD hV hB2 hg hlV => ?_)
        replace hO := Kd.R_below hO hg
        replace hU := Kd.S_below hU hg
        replace hb := blk_below hb hg; replace hB := hB2
        refine hK.out _ _ ⟨(by rw [blk_cell hb 0]; rfl), (by rw [blk_cell hb 1]; rfl)⟩ (fun _ => norm_ (by simp only [Act.put, List.setIfInBounds_toArray, List.set_cons_zero, List.set_cons_succ]; rfl) ?_)
        clear hK K hg hB2
        refine one_ (fuel := 3) (i := 6) #[true, true, true, true, true, true, true, true, true, true, true, true, true, true, false, false, false] rfl rfl (one_of HT_.out (by kernel_rfl)) (by decide) (fun K hK => ?_)
        · refine mkS (by rfl) rfl rfl rfl hn hB (fun gS cS WD hS hB2 hg hlS => ?_)
          replace hV := Kd.R_below hV hg
          replace hO := Kd.R_below hO hg
          replace hU := Kd.S_below hU hg
          replace hb := blk_below hb hg; replace hB := hB2
          refine hK.out _ _ ⟨(by rw [blk_cell hb 0]; rfl), (by rw [blk_cell hb 1]; rfl)⟩ (fun _ => norm_ (by simp only [Act.put, List.setIfInBounds_toArray, List.set_cons_zero, List.set_cons_succ]; rfl) ?_)
          clear hK K hg hB2
          exact norm_ (by simp only [putAll, Act.put, List.setIfInBounds_toArray, List.set_cons_zero, List.set_cons_succ]) (hc ((gV, cV), (gS, cS), (gO, cO), gU, cU) _ ⟨hB, hb, Kd.R_mono hV (fun _ _ => trivial), Kd.R_mono hS (fun _ _ => trivial), Kd.R_mono hO (fun _ _ => trivial), hU⟩)
      · refine mkS (by rfl) rfl rfl rfl hn hB (fun gS cS WD hS hB2 hg hlS => ?_)
        replace hO := Kd.R_below hO hg
        replace hU := Kd.S_below hU hg
        replace hb := blk_below hb hg; replace hB := hB2
        refine hK.out _ _ ⟨(by rw [blk_cell hb 0]; rfl), (by rw [blk_cell hb 1]; rfl)⟩ (fun _ => norm_ (by simp only [Act.put, List.setIfInBounds_toArray, List.set_cons_zero, List.set_cons_succ]; rfl) ?_)
        clear hK K hg hB2
        refine one_ (fuel := 3) (i := 3) #[true, true, true, true, true, true, true, true, true, true, true, true, true, true, false, false, false] rfl rfl (one_of HT_.out (by kernel_rfl)) (by decide) (fun K hK => ?_)
        · refine mkV (by rfl) rfl rfl rfl hn hB (fun gV cV WD hV hB2 hg hlV => ?_)
          replace hS := Kd.R_below hS hg
          replace hO := Kd.R_below hO hg
          replace hU := Kd.S_below hU hg
          replace hb := blk_below hb hg; replace hB := hB2
          refine hK.out _ _ ⟨(by rw [blk_cell hb 0]; rfl), (by rw [blk_cell hb 1]; rfl)⟩ (fun _ => norm_ (by simp only [Act.put, List.setIfInBounds_toArray, List.set_cons_zero, List.set_cons_succ]; rfl) ?_)
          clear hK K hg hB2
          exact norm_ (by simp only [putAll, Act.put, List.setIfInBounds_toArray, List.set_cons_zero, List.set_cons_succ]) (hc ((gV, cV), (gS, cS), (gO, cO), gU, cU) _ ⟨hB, hb, Kd.R_mono hV (fun _ _ => trivial), Kd.R_mono hS (fun _ _ => trivial), Kd.R_mono hO (fun _ _ => trivial), hU⟩)
end Go.Proofs.Ytamimodkcbbpmaa.Pr
end
section
/- knuth.Solve: its contract in the form of the printed ones. -/
namespace Go.Proofs.Ytamimodkcbbpmaa.Pr
open Go.RowKit Go.Proofs.YtamimodkcbbpmaaW.PrintWords Go.Proofs.YtamimodkcbbpmaaW.PrintLast Go.Proofs.YtamimodkcbbpmaaXW Go.Proofs.YtamimodkcbbpmaaXM
set_option linter.unusedVariables false
set_option linter.unusedSimpArgs false

/-- Small enough, and all nodes in range. -/
def solveOk (n : Int) (es : List S54) : Bool := decide (0 ≤ n) && (decide (n ≤ 1000) && (decide (es.length ≤ 1000) && es.all (fun e => (decide (0 ≤ e.f0) && decide (e.f0 < n)) && (e.f1.all (fun t => decide (0 ≤ t) && decide (t < n)) && decide (e.f1.length ≤ 100)))))
def knuth_Solve.f (n : Int) (es : List S54) : Option (List S34 × List Int) := if solveOk n es = true then some (solV n.toNat es, solE n.toNat es) else none
theorem solveOk_iff (n : Int) (es : List S54) : solveOk n es = true ↔ 0 ≤ n ∧ n ≤ 1000 ∧ es.length ≤ 1000 ∧ ∀ e, e ∈ es → (0 ≤ e.f0 ∧ e.f0 < n) ∧ (∀ t, t ∈ e.f1 → 0 ≤ t ∧ t < n) ∧ e.f1.length ≤ 100 := by
  simp only [solveOk, Bool.and_eq_true, decide_eq_true_eq, List.all_eq_true]
theorem knuth_Solve.calls (n : Int) (A : Option Addr) (c : Nat) (es : List S54) (r1 : List S34) (r2 : List Int) (w : World) (hC : Kd.C k54 w A es.length es) (hc : es.length ≤ c) (h : knuth_Solve.f n es = some (r1, r2)) :
    Calls Try.prog 79 #[.agg #[.int .i64 n, .slice A es.length c]] w fun e w' => ∃ v0_ v1_, e = .returned (.tuple #[v0_, v1_]) ∧ Kd.R k34 34 w' w.heap.size (fun _ => True) v0_ r1 ∧ Kd.R (Kd.int .i64) 3 w' w.heap.size (fun _ => True) v1_ r2 ∧ Below w.heap.size w w' := by
  unfold knuth_Solve.f at h
  split at h
  case isFalse => cases h
  rename_i hok
  injection h with h
  injection h with h1 h2
  subst h1 h2
  obtain ⟨h0, h1, h2, h3⟩ := (solveOk_iff n es).1 hok
  obtain ⟨m, rfl⟩ : ∃ m : Nat, n = (m : Int) := ⟨n.toNat, by omega⟩
  rw [Int.toNat_natCast]
  exact solve_calls m A c es w hC (by omega) h2 (fun e he => ⟨(h3 e he).1, (h3 e he).2.1, by have := (h3 e he).2.2; omega⟩) (fun e he => (h3 e he).2.2)
end Go.Proofs.Ytamimodkcbbpmaa.Pr
end
section
/- Printed by a program of this session (a turned print of the kit's) out of the translation: each Go function as a Lean function, and the proof that the machine's call answers what it says. Lean checks it. -/
namespace Go.Proofs.Ytamimodkcbbpmaa.Pr
open Go.RowKit Go.Proofs.YtamimodkcbbpmaaW.PrintWords Go.Proofs.YtamimodkcbbpmaaW.PrintLast Go.Proofs.YtamimodkcbbpmaaW.PrintMore Go.Proofs.YtamimodkcbbpmaaXW
attribute [local go_sem] max2_int min2_int max_two min_two max_three min_three max_four min_four   -- for this text's walks alone
set_option linter.unusedVariables false
set_option linter.unusedSimpArgs false

/-! ### derivation_Best: function 36 -/
def derivation_Best.j0 : Nat → Int → Int → List (S54) → Option (Int × (List (S27)) × Int)
  | 0, _, _, _ => none
  | k + 1, x1, x163000, x163001 => (knuth_Solve.f x163000 x163001).bind fun bt165 => (if 0 ≤ x1 then (if x1 < (bt165.1.length : Int) then (if ((rd_T34 bt165.1 x1).f0) ≥ 1099511627776 then (some (0, ([] : List (S27)), 6)) else ((derivation_follow.f k x163000 x163001 bt165.2 x1).bind fun bt172 => (some (bt172.1, bt172.2, 0)))) else (none)) else (none))
def derivation_Best.f (k : Nat) (a0_0 : Int) (l0_1 : List (S54)) (a1 : Int) : Option (Int × (List (S27)) × Int) := (hypergraph_Valid.f a0_0 l0_1).bind fun t164 => (if t164 = true then (if a1 < 0 then (some (0, ([] : List (S27)), 2)) else (if a1 ≥ a0_0 then (some (0, ([] : List (S27)), 2)) else (derivation_Best.j0 k a1 a0_0 l0_1))) else (some (0, ([] : List (S27)), 1)))
theorem derivation_Best.mono_l : ∀ k, (∀ y0 y1 y2, LeO (derivation_Best.j0 k y0 y1 y2) (derivation_Best.j0 (k + 1) y0 y1 y2))
  | 0 => fun _ _ _ r h => by simp [derivation_Best.j0] at h
  | k + 1 => by
    have ih0 := derivation_Best.mono_l k
    · intro y0 y1 y2
      unfold derivation_Best.j0
      repeat' first
      | (with_reducible exact ih0 _ _ _)
      | (with_reducible exact derivation_follow.mono _ _ _ _ _)
      | (with_reducible exact LeO.refl _)
      | (with_reducible exact LeO.none _)
      | (with_reducible refine LeO.ite ?_ ?_)
      | (with_reducible refine LeO.bind ?_ (fun _ => ?_))
      | exact ih0 _ _ _
      | exact derivation_follow.mono _ _ _ _ _
      | exact LeO.none _
      | refine LeO.ite ?_ ?_
      | refine LeO.bind ?_ (fun _ => ?_)
theorem derivation_Best.mono : ∀ a0 a1 a2 k, LeO (derivation_Best.f k a0 a1 a2) (derivation_Best.f (k + 1) a0 a1 a2) := by
  intro a0 a1 a2 k
  have ih0 := derivation_Best.mono_l k
  unfold derivation_Best.f
  repeat' first
      | (with_reducible exact ih0 _ _ _)
      | (with_reducible exact derivation_follow.mono _ _ _ _ _)
      | (with_reducible exact LeO.refl _)
      | (with_reducible exact LeO.none _)
      | (with_reducible refine LeO.ite ?_ ?_)
      | (with_reducible refine LeO.bind ?_ (fun _ => ?_))
      | exact ih0 _ _ _
      | exact derivation_follow.mono _ _ _ _ _
      | exact LeO.none _
      | refine LeO.ite ?_ ?_
      | refine LeO.bind ?_ (fun _ => ?_)
set_option maxHeartbeats 8000000 in
set_option maxRecDepth 100000 in
theorem derivation_Best.calls (k : Nat) (a0_0 : Int) (A0_1 : Option Addr) (c0_1 : Nat) (l0_1 : List (S54)) (a1 : Int) (r1 : Int) (r2 : List (S27)) (r3 : Int) (w : World) (hr0_1 : Kd.C k54 w A0_1 l0_1.length l0_1) (hc0_1 : l0_1.length ≤ c0_1) (h : derivation_Best.f k a0_0 l0_1 a1 = some (r1, r2, r3)) :
    Calls Try.prog 36 #[.agg #[.int .i64 a0_0, .slice A0_1 l0_1.length c0_1], .int .i64 a1] w fun e w' => ∃ v1_ : Value, e = .returned (.tuple #[.agg #[.int .i64 r1, v1_], .int .i64 r3]) ∧ Kd.R k27 27 w' w.heap.size (fun _ => True) v1_ r2 ∧ Below w.heap.size w w' := by
  have hu24 := Try.underlying24
  have hu27 := Try.underlying27
  have HR0_1 := Aside0.mk hr0_1
  have HC0_1 := Aside0.mk hc0_1
  clear hr0_1 hc0_1
  have HB := Aside0.mk (Below.refl w.heap.size w)
  have H : ((hypergraph_Valid.f a0_0 l0_1).bind fun t164 => (if t164 = true then (if a1 < 0 then (some (0, ([] : List (S27)), 2)) else (if a1 ≥ a0_0 then (some (0, ([] : List (S27)), 2)) else (derivation_Best.j0 k a1 a0_0 l0_1))) else (some (0, ([] : List (S27)), 1)))) = some (r1, r2, r3) := h
  clear h
  have HC3 := Aside0.mk H
  clear H
  go_enter Try.func36, Try.ntmps36
  go_upto_block 0 with (first | ((with_reducible refine gate_dst (N := 2) rfl ?_); refine box_event ?hg (N := 2) ?hd (cs := #[.int .i64 a0_0, .slice A0_1 l0_1.length c0_1]) (t := 24) ?hr ?_; (case hd => rfl); (case hg => rfl); (case hr => first | (go_simp; done) | (go_simp; rfl)); intro gb162 hg w4 hbox hb; have n0_ := Aside0.mk (below_step (bel HB) hb); have n1_ := Aside0.mk (hbox); have n2_ := Aside0.mk ((by rw [hg]; exact (below_size (bel HB)) : w.heap.size ≤ gb162)); have n3_ := Aside0.mk ((by rw [hg]; exact (below_size (bel HB)) : w.heap.size ≤ gb162)); clear HB; have HB := n0_; have BK162 := n1_; have GW162 := n2_; have GE162 := n3_; clear n0_ n1_ n2_ n3_; clear hb hbox hg) | ((with_reducible refine gate_dst (N := 4) rfl ?_); refine box_event ?hg (N := 4) ?hd (cs := #[.int .i64 0, .slice none 0 0]) (t := 27) ?hr ?_; (case hd => rfl); (case hg => rfl); (case hr => first | (go_simp; done) | (go_simp; rfl)); intro gb163 hg w5 hbox hb; have n0_ := Aside0.mk (blk_below (bk BK162) hb); have n1_ := Aside0.mk (below_step (bel HB) hb); have n2_ := Aside0.mk (hbox); have n3_ := Aside0.mk ((by rw [hg]; exact (below_size (bel HB)) : w.heap.size ≤ gb163)); have n4_ := Aside0.mk ((by rw [hg]; exact (below_size (bel HB)) : w.heap.size ≤ gb163)); have n5_ := Aside0.mk ((by rw [hg]; exact Nat.ne_of_lt (blk_lt (bk BK162)) : gb162 ≠ gb163)); have n6_ := Aside0.mk ((by rw [hg]; exact Nat.ne_of_gt (blk_lt (bk BK162)) : gb163 ≠ gb162)); clear BK162; clear HB; have BK162 := n0_; have HB := n1_; have BK163 := n2_; have GW163 := n3_; have GE163 := n4_; have NB162_163 := n5_; have NB163_162 := n6_; clear n0_ n1_ n2_ n3_ n4_ n5_ n6_; clear hb hbox hg))
  (try simp only [Act.put, List.setIfInBounds_toArray, List.set_cons_zero, List.set_cons_succ])
  go_cut [] (fun wc => ∃ (kq : Nat) (x164000_2 : Int), Aside0 (derivation_Best.j0 kq a1 a0_0 l0_1 = some (r1, r2, r3)) ∧ Aside0 (kq ≤ k) ∧ Aside0 (wc.heap[gb162]? = some (.cells #[.int .i64 a0_0, (.slice A0_1 l0_1.length c0_1)] 24 (0, 0))) ∧ Aside0 (wc.heap[gb163]? = some (.cells #[.int .i64 x164000_2, (.slice none 0 0)] 27 (0, 0))) ∧ Aside0 (Below w.heap.size w wc))
  case first =>
    have H := HC3.out
    clear HC3
    replace H := Option.bind_eq_some_iff.mp H
    obtain ⟨t164, A60, H⟩ := H
    replace H : (if t164 = true then (if a1 < 0 then (some (0, ([] : List (S27)), 2)) else (if a1 ≥ a0_0 then (some (0, ([] : List (S27)), 2)) else (derivation_Best.j0 k a1 a0_0 l0_1))) else (some (0, ([] : List (S27)), 1))) = some (r1, r2, r3) := H
    have A6 := Aside0.mk A60
    clear A60
    by_cases c7 : t164 = true
    · subst c7
      have H1 : (if a1 < 0 then (some (0, ([] : List (S27)), 2)) else (if a1 ≥ a0_0 then (some (0, ([] : List (S27)), 2)) else (derivation_Best.j0 k a1 a0_0 l0_1))) = some (r1, r2, r3) := by rw [if_pos rfl] at H; exact H
      clear H
      have H := H1
      clear H1
      by_cases c8 : a1 < 0
      · rw [if_pos c8] at H
        have c8b0 : decide (a1 < 0) = true := decide_eq_true c8
        clear c8
        (first | rw [c8b0] | (simp only [i64_w, i32_w]; rw [c8b0]) | skip)
        simp only [Option.some.injEq, Prod.mk.injEq] at H
        obtain ⟨rfl, rfl, rfl⟩ := H
        have hnb9 := NB162_163.out
        have hnc9 := NB163_162.out
        have hcz10_0 : w5.cell? ⟨gb162, 0, none⟩ = some (.int .i64 a0_0) := (blk_cell BK162.out 0).trans rfl
        have hcz10_1 : w5.cell? ⟨gb162, 1, none⟩ = some (.slice A0_1 l0_1.length c0_1) := (blk_cell BK162.out 1).trans rfl
        have hfz10_0 := blk_frozen BK162.out 0
        have hfz10_1 := blk_frozen BK162.out 1
        go_wp2_with (first | ((with_reducible refine gate_callee (f := 78) rfl ?_); refine goesL_ (some 10) rfl rfl Try.func78 (by kernel_rfl) rfl #[.agg #[.int .i64 a0_0, .slice A0_1 l0_1.length c0_1]] rfl (by (try simp only [List.map_toArray, List.map_cons, List.map_nil]); first | done | rfl | (simp only [List.length_drop, List.length_take]; rfl)) ?_; (with_reducible refine (hypergraph_Valid.calls a0_0 _ _ l0_1 true _ ?side1 ?side2 A6.out).mono ?_); (case side1 => repeat (first | exact (Kd.C_below HR0_1.out HB.out) | (with_reducible refine Kd.C_alloc ?_ _) | (with_reducible refine Kd.C_drewN ?_ _) | (with_reducible refine Kd.C_drew ?_))); (case side2 => exact HC0_1.out); rintro e w11 ⟨rfl, hb⟩; refine ⟨_, rfl, ?_⟩; have n0_ := Aside0.mk (blk_below (bk BK162) hb); have n1_ := Aside0.mk (blk_below (bk BK163) hb); have n2_ := Aside0.mk (below_step (bel HB) hb); clear BK162; clear BK163; clear HB; have BK162 := n0_; have BK163 := n1_; have HB := n2_; clear n0_ n1_ n2_; (try clear hb); (try clear hb2); (try clear hk); (try clear hi); have hcz12_0 : w11.cell? ⟨gb163, 0, none⟩ = some (.int .i64 0) := (blk_cell BK163.out 0).trans rfl; have hcz12_1 : w11.cell? ⟨gb163, 1, none⟩ = some (.slice none 0 0) := (blk_cell BK163.out 1).trans rfl; have hfz12_0 := blk_frozen BK163.out 0; have hfz12_1 := blk_frozen BK163.out 1))
        refine bodyPost_ret (results_ct rfl _ _ gb163 27 #[.int .i64 0, .slice none 0 0] (0, 0) _ rfl (by (with_reducible repeat (first | refine blk_drewN ?_ _ | refine blk_drew ?_ | refine blk_alloc ?_ _)); refine blk_put (cs := #[.int .i64 0, .slice none 0 0]) ?_ 1 _ rfl; (with_reducible repeat (first | refine blk_drewN ?_ _ | refine blk_drew ?_ | refine blk_alloc ?_ _)); refine blk_put (cs := #[.int .i64 0, .slice none 0 0]) ?_ 0 _ rfl; (with_reducible repeat (first | refine blk_drewN ?_ _ | refine blk_drew ?_ | refine blk_alloc ?_ _)); exact BK163.out) Try.underlying27 rfl (by kernel_rfl)) rfl ?_
        exact ⟨_, by first | rfl | (simp [errW_none, errW_some] <;> rfl) | (simp [*, errW_none, errW_some] <;> rfl), by first | exact Kd.R_nil _ _ _ _ _ | exact Kd.N_nil _ _ _ _ _ | exact Kd.V_nil _ _ _ _ _ | exact Kd.Q_nil _ _ _ _ _ | exact Kd.S_nil _ _ _ _ _, bel HB⟩
      · rw [if_neg c8] at H
        have c8b0 : decide (a1 < 0) = false := decide_eq_false c8
        clear c8
        (first | rw [c8b0] | (simp only [i64_w, i32_w]; rw [c8b0]) | skip)
        by_cases c13 : a1 ≥ a0_0
        · rw [if_pos c13] at H
          have c13b0 : decide (a0_0 ≤ a1) = true := decide_eq_true c13
          clear c13
          simp only [Option.some.injEq, Prod.mk.injEq] at H
          obtain ⟨rfl, rfl, rfl⟩ := H
          have hnb14 := NB162_163.out
          have hnc14 := NB163_162.out
          have hcz15_0 : w5.cell? ⟨gb162, 0, none⟩ = some (.int .i64 a0_0) := (blk_cell BK162.out 0).trans rfl
          have hcz15_1 : w5.cell? ⟨gb162, 1, none⟩ = some (.slice A0_1 l0_1.length c0_1) := (blk_cell BK162.out 1).trans rfl
          have hfz15_0 := blk_frozen BK162.out 0
          have hfz15_1 := blk_frozen BK162.out 1
          go_wp2_with (first | ((with_reducible refine gate_callee (f := 78) rfl ?_); refine goesL_ (some 10) rfl rfl Try.func78 (by kernel_rfl) rfl #[.agg #[.int .i64 a0_0, .slice A0_1 l0_1.length c0_1]] rfl (by (try simp only [List.map_toArray, List.map_cons, List.map_nil]); first | done | rfl | (simp only [List.length_drop, List.length_take]; rfl)) ?_; (with_reducible refine (hypergraph_Valid.calls a0_0 _ _ l0_1 true _ ?side1 ?side2 A6.out).mono ?_); (case side1 => repeat (first | exact (Kd.C_below HR0_1.out HB.out) | (with_reducible refine Kd.C_alloc ?_ _) | (with_reducible refine Kd.C_drewN ?_ _) | (with_reducible refine Kd.C_drew ?_))); (case side2 => exact HC0_1.out); rintro e w16 ⟨rfl, hb⟩; refine ⟨_, rfl, ?_⟩; have n0_ := Aside0.mk (blk_below (bk BK162) hb); have n1_ := Aside0.mk (blk_below (bk BK163) hb); have n2_ := Aside0.mk (below_step (bel HB) hb); clear BK162; clear BK163; clear HB; have BK162 := n0_; have BK163 := n1_; have HB := n2_; clear n0_ n1_ n2_; (try clear hb); (try clear hb2); (try clear hk); (try clear hi); have hcz17_0 : w16.cell? ⟨gb162, 0, none⟩ = some (.int .i64 a0_0) := (blk_cell BK162.out 0).trans rfl; have hcz17_1 : w16.cell? ⟨gb162, 1, none⟩ = some (.slice A0_1 l0_1.length c0_1) := (blk_cell BK162.out 1).trans rfl; have hfz17_0 := blk_frozen BK162.out 0; have hfz17_1 := blk_frozen BK162.out 1; have hcz18_0 : w16.cell? ⟨gb163, 0, none⟩ = some (.int .i64 0) := (blk_cell BK163.out 0).trans rfl; have hcz18_1 : w16.cell? ⟨gb163, 1, none⟩ = some (.slice none 0 0) := (blk_cell BK163.out 1).trans rfl; have hfz18_0 := blk_frozen BK163.out 0; have hfz18_1 := blk_frozen BK163.out 1))
          refine bodyPost_ret (results_ct rfl _ _ gb163 27 #[.int .i64 0, .slice none 0 0] (0, 0) _ rfl (by (with_reducible repeat (first | refine blk_drewN ?_ _ | refine blk_drew ?_ | refine blk_alloc ?_ _)); refine blk_put (cs := #[.int .i64 0, .slice none 0 0]) ?_ 1 _ rfl; (with_reducible repeat (first | refine blk_drewN ?_ _ | refine blk_drew ?_ | refine blk_alloc ?_ _)); refine blk_put (cs := #[.int .i64 0, .slice none 0 0]) ?_ 0 _ rfl; (with_reducible repeat (first | refine blk_drewN ?_ _ | refine blk_drew ?_ | refine blk_alloc ?_ _)); exact BK163.out) Try.underlying27 rfl (by kernel_rfl)) rfl ?_
          exact ⟨_, by first | rfl | (simp [errW_none, errW_some] <;> rfl) | (simp [*, errW_none, errW_some] <;> rfl), by first | exact Kd.R_nil _ _ _ _ _ | exact Kd.N_nil _ _ _ _ _ | exact Kd.V_nil _ _ _ _ _ | exact Kd.Q_nil _ _ _ _ _ | exact Kd.S_nil _ _ _ _ _, bel HB⟩
        · rw [if_neg c13] at H
          have c13b0 : decide (a0_0 ≤ a1) = false := decide_eq_false c13
          clear c13
          have H' := Aside0.mk H
          clear H
          have hnb19 := NB162_163.out
          have hnc19 := NB163_162.out
          have hcz20_0 : w5.cell? ⟨gb162, 0, none⟩ = some (.int .i64 a0_0) := (blk_cell BK162.out 0).trans rfl
          have hcz20_1 : w5.cell? ⟨gb162, 1, none⟩ = some (.slice A0_1 l0_1.length c0_1) := (blk_cell BK162.out 1).trans rfl
          have hfz20_0 := blk_frozen BK162.out 0
          have hfz20_1 := blk_frozen BK162.out 1
          go_wp2_with (first | ((with_reducible refine gate_callee (f := 78) rfl ?_); refine goesL_ (some 10) rfl rfl Try.func78 (by kernel_rfl) rfl #[.agg #[.int .i64 a0_0, .slice A0_1 l0_1.length c0_1]] rfl (by (try simp only [List.map_toArray, List.map_cons, List.map_nil]); first | done | rfl | (simp only [List.length_drop, List.length_take]; rfl)) ?_; (with_reducible refine (hypergraph_Valid.calls a0_0 _ _ l0_1 true _ ?side1 ?side2 A6.out).mono ?_); (case side1 => repeat (first | exact (Kd.C_below HR0_1.out HB.out) | (with_reducible refine Kd.C_alloc ?_ _) | (with_reducible refine Kd.C_drewN ?_ _) | (with_reducible refine Kd.C_drew ?_))); (case side2 => exact HC0_1.out); rintro e w21 ⟨rfl, hb⟩; refine ⟨_, rfl, ?_⟩; have n0_ := Aside0.mk (blk_below (bk BK162) hb); have n1_ := Aside0.mk (blk_below (bk BK163) hb); have n2_ := Aside0.mk (below_step (bel HB) hb); clear BK162; clear BK163; clear HB; have BK162 := n0_; have BK163 := n1_; have HB := n2_; clear n0_ n1_ n2_; (try clear hb); (try clear hb2); (try clear hk); (try clear hi); have hcz22_0 : w21.cell? ⟨gb162, 0, none⟩ = some (.int .i64 a0_0) := (blk_cell BK162.out 0).trans rfl; have hcz22_1 : w21.cell? ⟨gb162, 1, none⟩ = some (.slice A0_1 l0_1.length c0_1) := (blk_cell BK162.out 1).trans rfl; have hfz22_0 := blk_frozen BK162.out 0; have hfz22_1 := blk_frozen BK162.out 1))
          go_meet
          case rel => exact ⟨_, (0), H', ⟨by first | omega | exact Nat.le_refl _⟩, ⟨by (with_reducible repeat (first | refine blk_drewN ?_ _ | refine blk_drew ?_ | refine blk_alloc ?_ _)); exact BK162.out⟩, ⟨by (with_reducible repeat (first | refine blk_drewN ?_ _ | refine blk_drew ?_ | refine blk_alloc ?_ _)); exact BK163.out⟩, ⟨bel HB⟩⟩
    · replace c7 := Bool.eq_false_iff.mpr c7
      subst c7
      have H1 : (some (0, ([] : List (S27)), 1)) = some (r1, r2, r3) := by rw [if_neg (show ¬ (false = true) by decide)] at H; exact H
      clear H
      have H := H1
      clear H1
      simp only [Option.some.injEq, Prod.mk.injEq] at H
      obtain ⟨rfl, rfl, rfl⟩ := H
      have hnb23 := NB162_163.out
      have hnc23 := NB163_162.out
      have hcz24_0 : w5.cell? ⟨gb162, 0, none⟩ = some (.int .i64 a0_0) := (blk_cell BK162.out 0).trans rfl
      have hcz24_1 : w5.cell? ⟨gb162, 1, none⟩ = some (.slice A0_1 l0_1.length c0_1) := (blk_cell BK162.out 1).trans rfl
      have hfz24_0 := blk_frozen BK162.out 0
      have hfz24_1 := blk_frozen BK162.out 1
      go_wp2_with (first | ((with_reducible refine gate_callee (f := 78) rfl ?_); refine goesL_ (some 10) rfl rfl Try.func78 (by kernel_rfl) rfl #[.agg #[.int .i64 a0_0, .slice A0_1 l0_1.length c0_1]] rfl (by (try simp only [List.map_toArray, List.map_cons, List.map_nil]); first | done | rfl | (simp only [List.length_drop, List.length_take]; rfl)) ?_; (with_reducible refine (hypergraph_Valid.calls a0_0 _ _ l0_1 false _ ?side1 ?side2 A6.out).mono ?_); (case side1 => repeat (first | exact (Kd.C_below HR0_1.out HB.out) | (with_reducible refine Kd.C_alloc ?_ _) | (with_reducible refine Kd.C_drewN ?_ _) | (with_reducible refine Kd.C_drew ?_))); (case side2 => exact HC0_1.out); rintro e w25 ⟨rfl, hb⟩; refine ⟨_, rfl, ?_⟩; have n0_ := Aside0.mk (blk_below (bk BK162) hb); have n1_ := Aside0.mk (blk_below (bk BK163) hb); have n2_ := Aside0.mk (below_step (bel HB) hb); clear BK162; clear BK163; clear HB; have BK162 := n0_; have BK163 := n1_; have HB := n2_; clear n0_ n1_ n2_; (try clear hb); (try clear hb2); (try clear hk); (try clear hi); have hcz26_0 : w25.cell? ⟨gb163, 0, none⟩ = some (.int .i64 0) := (blk_cell BK163.out 0).trans rfl; have hcz26_1 : w25.cell? ⟨gb163, 1, none⟩ = some (.slice none 0 0) := (blk_cell BK163.out 1).trans rfl; have hfz26_0 := blk_frozen BK163.out 0; have hfz26_1 := blk_frozen BK163.out 1))
      refine bodyPost_ret (results_ct rfl _ _ gb163 27 #[.int .i64 0, .slice none 0 0] (0, 0) _ rfl (by (with_reducible repeat (first | refine blk_drewN ?_ _ | refine blk_drew ?_ | refine blk_alloc ?_ _)); refine blk_put (cs := #[.int .i64 0, .slice none 0 0]) ?_ 1 _ rfl; (with_reducible repeat (first | refine blk_drewN ?_ _ | refine blk_drew ?_ | refine blk_alloc ?_ _)); refine blk_put (cs := #[.int .i64 0, .slice none 0 0]) ?_ 0 _ rfl; (with_reducible repeat (first | refine blk_drewN ?_ _ | refine blk_drew ?_ | refine blk_alloc ?_ _)); exact BK163.out) Try.underlying27 rfl (by kernel_rfl)) rfl ?_
      exact ⟨_, by first | rfl | (simp [errW_none, errW_some] <;> rfl) | (simp [*, errW_none, errW_some] <;> rfl), by first | exact Kd.R_nil _ _ _ _ _ | exact Kd.N_nil _ _ _ _ _ | exact Kd.V_nil _ _ _ _ _ | exact Kd.Q_nil _ _ _ _ _ | exact Kd.S_nil _ _ _ _ _, bel HB⟩
  case rest =>
    clear HC3
    (try clear c1); (try clear c2); (try clear p2); (try clear c3); (try clear c7); (try clear c8); (try clear c8b0); (try clear c9); (try clear c13); (try clear c13b0); (try clear c14); (try clear c19); (try clear c23); (try clear hcz10_0); (try clear hcz10_1); (try clear hcz12_0); (try clear hcz12_1); (try clear hcz15_0); (try clear hcz15_1); (try clear hcz17_0); (try clear hcz17_1); (try clear hcz18_0); (try clear hcz18_1); (try clear hcz20_0); (try clear hcz20_1); (try clear hcz22_0); (try clear hcz22_1); (try clear hcz24_0); (try clear hcz24_1); (try clear hcz26_0); (try clear hcz26_1); (try clear hfz10_0); (try clear hfz10_1); (try clear hfz12_0); (try clear hfz12_1); (try clear hfz15_0); (try clear hfz15_1); (try clear hfz17_0); (try clear hfz17_1); (try clear hfz18_0); (try clear hfz18_1); (try clear hfz20_0); (try clear hfz20_1); (try clear hfz22_0); (try clear hfz22_1); (try clear hfz24_0); (try clear hfz24_1); (try clear hfz26_0); (try clear hfz26_1)
    obtain ⟨kq, x164000_2, HA, HJ2, BK162, BK163, HB⟩ := hcut
    cases kq with
    | zero => exact absurd HA.out (by simp [derivation_Best.j0])
    | succ kj2 =>
      have H := HA.out
      clear HA
      simp only [derivation_Best.j0] at H
      replace H := Option.bind_eq_some_iff.mp H
      obtain ⟨⟨t165, t168⟩, A270, H⟩ := H
      replace H : (if 0 ≤ a1 then (if a1 < (t165.length : Int) then (if ((rd_T34 t165 a1).f0) ≥ 1099511627776 then (some (0, ([] : List (S27)), 6)) else ((derivation_follow.f kj2 a0_0 l0_1 t168 a1).bind fun bt172 => (some (bt172.1, bt172.2, 0)))) else (none)) else (none)) = some (r1, r2, r3) := H
      have A27 := Aside0.mk A270
      clear A270
      by_cases c28 : 0 ≤ a1
      · rw [if_pos c28] at H
        have c28b0 : decide (0 ≤ a1) = true := decide_eq_true c28
        clear c28
        by_cases c29 : a1 < (t165.length : Int)
        · rw [if_pos c29] at H
          have c29b0 : decide (a1 < (t165.length : Int)) = true := decide_eq_true c29
          clear c29
          by_cases c30 : ((rd_T34 t165 a1).f0) ≥ 1099511627776
          · rw [if_pos c30] at H
            have c30b0 : decide (1099511627776 ≤ ((rd_T34 t165 a1).f0)) = true := decide_eq_true c30
            clear c30
            simp only [Option.some.injEq, Prod.mk.injEq] at H
            obtain ⟨rfl, rfl, rfl⟩ := H
            have hnb31 := NB162_163.out
            have hnc31 := NB163_162.out
            have hcz32_0 : wc.cell? ⟨gb162, 0, none⟩ = some (.int .i64 a0_0) := (blk_cell BK162.out 0).trans rfl
            have hcz32_1 : wc.cell? ⟨gb162, 1, none⟩ = some (.slice A0_1 l0_1.length c0_1) := (blk_cell BK162.out 1).trans rfl
            have hfz32_0 := blk_frozen BK162.out 0
            have hfz32_1 := blk_frozen BK162.out 1
            go_wp2_with (first | ((with_reducible refine gate_callee (f := 79) rfl ?_); refine goesL_ (some 25) rfl rfl Try.func79 (by kernel_rfl) rfl #[.agg #[.int .i64 a0_0, .slice A0_1 l0_1.length c0_1]] rfl (by (try simp only [List.map_toArray, List.map_cons, List.map_nil]); first | done | rfl | (simp only [List.length_drop, List.length_take]; rfl)) ?_; (with_reducible refine (knuth_Solve.calls a0_0 _ _ l0_1 t165 t168 _ ?side1 ?side2 A27.out).mono ?_); (case side1 => repeat (first | exact (Kd.C_below HR0_1.out HB.out) | (with_reducible refine Kd.C_alloc ?_ _) | (with_reducible refine Kd.C_drewN ?_ _) | (with_reducible refine Kd.C_drew ?_))); (case side2 => exact HC0_1.out); rintro e w33 ⟨v166, v169, rfl, ho0, ho1, hb⟩; refine ⟨_, rfl, ?_⟩; have n0_ := Aside0.mk (Kd.R_lower ho0 (below_size (bel HB))); have n1_ := Aside0.mk (Kd.R_lower ho1 (below_size (bel HB))); have n2_ := Aside0.mk (blk_below (bk BK162) hb); have n3_ := Aside0.mk (blk_below (bk BK163) hb); have n4_ := Aside0.mk (below_step (bel HB) hb); clear BK162; clear BK163; clear HB; have HO167 := n0_; have HO170 := n1_; have BK162 := n2_; have BK163 := n3_; have HB := n4_; clear n0_ n1_ n2_ n3_ n4_; (try clear hb); (try clear hb2); (try clear hk); (try clear hi); (try clear ho0); (try clear ho1); obtain ⟨Ao34, co34, eo34⟩ := Kd.R_slice HO167.out; subst eo34; have p171 : 0 ≤ (a1 : Int) := of_decide_eq_true (by first | (with_reducible assumption) | assumption); have q171 : a1 < (t165.length : Int) := of_decide_eq_true (by first | (with_reducible assumption) | assumption); obtain ⟨ad171, e171, hx171_0, hx171_1⟩ := at_T34 (Kd.R_reads' HO167.out).2.2 a1 p171 q171; cases e171; replace p171 := eq_true p171; replace q171 := eq_true q171; have hcz35_0 : w33.cell? ⟨gb163, 0, none⟩ = some (.int .i64 x164000_2) := (blk_cell BK163.out 0).trans rfl; have hcz35_1 : w33.cell? ⟨gb163, 1, none⟩ = some (.slice none 0 0) := (blk_cell BK163.out 1).trans rfl; have hfz35_0 := blk_frozen BK163.out 0; have hfz35_1 := blk_frozen BK163.out 1))
            refine bodyPost_ret (results_ct rfl _ _ gb163 27 #[.int .i64 0, .slice none 0 0] (0, 0) _ rfl (by (with_reducible repeat (first | refine blk_drewN ?_ _ | refine blk_drew ?_ | refine blk_alloc ?_ _)); refine blk_put (cs := #[.int .i64 0, .slice none 0 0]) ?_ 1 _ rfl; (with_reducible repeat (first | refine blk_drewN ?_ _ | refine blk_drew ?_ | refine blk_alloc ?_ _)); refine blk_put (cs := #[.int .i64 x164000_2, .slice none 0 0]) ?_ 0 _ rfl; (with_reducible repeat (first | refine blk_drewN ?_ _ | refine blk_drew ?_ | refine blk_alloc ?_ _)); exact BK163.out) Try.underlying27 rfl (by kernel_rfl)) rfl ?_
            exact ⟨_, by first | rfl | (simp [errW_none, errW_some] <;> rfl) | (simp [*, errW_none, errW_some] <;> rfl), by first | exact Kd.R_nil _ _ _ _ _ | exact Kd.N_nil _ _ _ _ _ | exact Kd.V_nil _ _ _ _ _ | exact Kd.Q_nil _ _ _ _ _ | exact Kd.S_nil _ _ _ _ _, bel HB⟩
          · rw [if_neg c30] at H
            have c30b0 : decide (1099511627776 ≤ ((rd_T34 t165 a1).f0)) = false := decide_eq_false c30
            clear c30
            replace H := Option.bind_eq_some_iff.mp H
            obtain ⟨⟨t172, t173⟩, A360, H⟩ := H
            replace H : (some (t172, t173, 0)) = some (r1, r2, r3) := H
            have A36 := Aside0.mk A360
            clear A360
            simp only [Option.some.injEq, Prod.mk.injEq] at H
            obtain ⟨rfl, rfl, rfl⟩ := H
            have hnb37 := NB162_163.out
            have hnc37 := NB163_162.out
            have hcz38_0 : wc.cell? ⟨gb162, 0, none⟩ = some (.int .i64 a0_0) := (blk_cell BK162.out 0).trans rfl
            have hcz38_1 : wc.cell? ⟨gb162, 1, none⟩ = some (.slice A0_1 l0_1.length c0_1) := (blk_cell BK162.out 1).trans rfl
            have hfz38_0 := blk_frozen BK162.out 0
            have hfz38_1 := blk_frozen BK162.out 1
            go_wp2_with (first | ((with_reducible refine gate_callee (f := 79) rfl ?_); refine goesL_ (some 25) rfl rfl Try.func79 (by kernel_rfl) rfl #[.agg #[.int .i64 a0_0, .slice A0_1 l0_1.length c0_1]] rfl (by (try simp only [List.map_toArray, List.map_cons, List.map_nil]); first | done | rfl | (simp only [List.length_drop, List.length_take]; rfl)) ?_; (with_reducible refine (knuth_Solve.calls a0_0 _ _ l0_1 t165 t168 _ ?side1 ?side2 A27.out).mono ?_); (case side1 => repeat (first | exact (Kd.C_below HR0_1.out HB.out) | (with_reducible refine Kd.C_alloc ?_ _) | (with_reducible refine Kd.C_drewN ?_ _) | (with_reducible refine Kd.C_drew ?_))); (case side2 => exact HC0_1.out); rintro e w39 ⟨v166, v169, rfl, ho0, ho1, hb⟩; refine ⟨_, rfl, ?_⟩; have n0_ := Aside0.mk (Kd.R_lower ho0 (below_size (bel HB))); have n1_ := Aside0.mk (Kd.R_lower ho1 (below_size (bel HB))); have n2_ := Aside0.mk (blk_below (bk BK162) hb); have n3_ := Aside0.mk (blk_below (bk BK163) hb); have n4_ := Aside0.mk (below_step (bel HB) hb); clear BK162; clear BK163; clear HB; have HO167 := n0_; have HO170 := n1_; have BK162 := n2_; have BK163 := n3_; have HB := n4_; clear n0_ n1_ n2_ n3_ n4_; (try clear hb); (try clear hb2); (try clear hk); (try clear hi); (try clear ho0); (try clear ho1); obtain ⟨Ao40, co40, eo40⟩ := Kd.R_slice HO167.out; subst eo40; have p171 : 0 ≤ (a1 : Int) := of_decide_eq_true (by first | (with_reducible assumption) | assumption); have q171 : a1 < (t165.length : Int) := of_decide_eq_true (by first | (with_reducible assumption) | assumption); obtain ⟨ad171, e171, hx171_0, hx171_1⟩ := at_T34 (Kd.R_reads' HO167.out).2.2 a1 p171 q171; cases e171; replace p171 := eq_true p171; replace q171 := eq_true q171; have hcz41_0 : w39.cell? ⟨gb162, 0, none⟩ = some (.int .i64 a0_0) := (blk_cell BK162.out 0).trans rfl; have hcz41_1 : w39.cell? ⟨gb162, 1, none⟩ = some (.slice A0_1 l0_1.length c0_1) := (blk_cell BK162.out 1).trans rfl; have hfz41_0 := blk_frozen BK162.out 0; have hfz41_1 := blk_frozen BK162.out 1; obtain ⟨Ao42, co42, eo42⟩ := Kd.R_slice HO170.out; subst eo42) | ((with_reducible refine gate_callee (f := 80) rfl ?_); refine goesL_ (some 38) rfl rfl Try.func80 (by kernel_rfl) rfl #[.agg #[.int .i64 a0_0, .slice A0_1 l0_1.length c0_1], .slice Ao42 t168.length co42, .int .i64 a1] rfl (by (try simp only [List.map_toArray, List.map_cons, List.map_nil]); first | done | rfl | (simp only [List.length_drop, List.length_take]; rfl)) ?_; (with_reducible refine (derivation_follow.calls kj2 a0_0 _ _ l0_1 _ _ t168 a1 t172 t173 _ ?side1 ?side2 ?side3 ?side4 A36.out).mono ?_); (case side1 => repeat (first | exact (Kd.C_below HR0_1.out HB.out) | (with_reducible refine Kd.C_alloc ?_ _) | (with_reducible refine Kd.C_drewN ?_ _) | (with_reducible refine Kd.C_drew ?_))); (case side2 => exact HC0_1.out); (case side3 => repeat (first | exact (Kd.R_reads' HO170.out).2.2 | (with_reducible refine Kd.C_alloc ?_ _) | (with_reducible refine Kd.C_drewN ?_ _) | (with_reducible refine Kd.C_drew ?_))); (case side4 => exact (Kd.R_reads' HO170.out).2.1); rintro e w43 ⟨v174, rfl, ho0, hb⟩; refine ⟨_, rfl, ?_⟩; have n0_ := Aside0.mk (Kd.R_below (by (with_reducible repeat (first | apply Kd.R_alloc | apply Kd.R_drewN | apply Kd.R_drew)); exact HO167.out) hb); have n1_ := Aside0.mk (Kd.R_below (by (with_reducible repeat (first | apply Kd.R_alloc | apply Kd.R_drewN | apply Kd.R_drew)); exact HO170.out) hb); have n2_ := Aside0.mk (Kd.R_lower (Kd.R_newB ho0 (bk BK163)) (below_size (bel HB))); have n3_ := Aside0.mk (blk_below (bk BK162) hb); have n4_ := Aside0.mk (blk_below (bk BK163) hb); have n5_ := Aside0.mk (below_step (bel HB) hb); clear HO167; clear HO170; clear BK162; clear BK163; clear HB; have HO167 := n0_; have HO170 := n1_; have HO175 := n2_; have BK162 := n3_; have BK163 := n4_; have HB := n5_; clear n0_ n1_ n2_ n3_ n4_ n5_; (try clear hb); (try clear hb2); (try clear hk); (try clear hi); (try clear ho0); have hcz44_0 : w43.cell? ⟨gb163, 0, none⟩ = some (.int .i64 x164000_2) := (blk_cell BK163.out 0).trans rfl; have hcz44_1 : w43.cell? ⟨gb163, 1, none⟩ = some (.slice none 0 0) := (blk_cell BK163.out 1).trans rfl; have hfz44_0 := blk_frozen BK163.out 0; have hfz44_1 := blk_frozen BK163.out 1; obtain ⟨Ao45, co45, eo45⟩ := Kd.R_slice HO175.out; subst eo45))
            refine bodyPost_ret (results_ct rfl _ _ gb163 27 #[.int .i64 t172, .slice Ao45 t173.length co45] (0, 0) _ rfl (by (with_reducible repeat (first | refine blk_drewN ?_ _ | refine blk_drew ?_ | refine blk_alloc ?_ _)); refine blk_put (cs := #[.int .i64 t172, .slice none 0 0]) ?_ 1 _ rfl; (with_reducible repeat (first | refine blk_drewN ?_ _ | refine blk_drew ?_ | refine blk_alloc ?_ _)); refine blk_put (cs := #[.int .i64 x164000_2, .slice none 0 0]) ?_ 0 _ rfl; (with_reducible repeat (first | refine blk_drewN ?_ _ | refine blk_drew ?_ | refine blk_alloc ?_ _)); exact BK163.out) Try.underlying27 rfl (by kernel_rfl)) rfl ?_
            exact ⟨_, by first | rfl | (simp [errW_none, errW_some] <;> rfl) | (simp [*, errW_none, errW_some] <;> rfl), by (with_reducible repeat (first | apply Kd.R_alloc | apply Kd.R_drewN | apply Kd.R_drew)); exact Kd.R_mono (Kd.R_far (p := ⟨gb163, 1, none⟩) (Kd.R_far (p := ⟨gb163, 0, none⟩) (Kd.R_mono HO175.out (fun k_ hk => (⟨hk, hk.2⟩ : _ ∧ k_ ≠ gb163))) (fun _ hk => hk.2) (.int .i64 t172)) (fun _ hk => hk.2) (.slice Ao45 t173.length co45)) (fun _ hk => trivial), bel HB⟩
        · rw [if_neg c29] at H
          exact absurd H (by simp)
      · rw [if_neg c28] at H
        exact absurd H (by simp)
end Go.Proofs.Ytamimodkcbbpmaa.Pr
end
section
/- Printed by a program of this session (a turned print of the kit's) out of the translation: each Go function as a Lean function, and the proof that the machine's call answers what it says. Lean checks it. -/
namespace Go.Proofs.Ytamimodkcbbpmaa.Pr
open Go.RowKit Go.Proofs.YtamimodkcbbpmaaW.PrintWords Go.Proofs.YtamimodkcbbpmaaW.PrintLast Go.Proofs.YtamimodkcbbpmaaW.PrintMore Go.Proofs.YtamimodkcbbpmaaXW
attribute [local go_sem] max2_int min2_int max_two min_two max_three min_three max_four min_four   -- for this text's walks alone
set_option linter.unusedVariables false
set_option linter.unusedSimpArgs false

/-! ### derivation_Value: function 29 -/
mutual
def derivation_Value.l0 : Nat → List (S34) → List (S27) → Int → Int → Int → List (S54) → Int → List (S27) → Option (Int × Int)
  | 0, _, _, _, _, _, _, _, _ => none
  | k + 1, x5, x9, x10, x11, x114000, x114001, x115000, x115001 => if x11 < x10 then (if 0 ≤ x11 then (if x11 < (x9.length : Int) then ((derivation_Value.f k x114000 x114001 ((rd_T27 x9 x11).f0) ((rd_T27 x9 x11).f1)).bind fun bt118 => (if x5.length < 8796093022208 then (derivation_Value.l0 k (x5 ++ [(⟨bt118.1, bt118.2⟩ : S34)]) x9 x10 (wrap64 (x11 + 1)) x114000 x114001 x115000 x115001) else (none))) else (none)) else (none)) else (if 0 ≤ x115000 then (if x115000 < (x114001.length : Int) then ((knuth_Combine.f k ((rd_T54 x114001 x115000).f2) x5).bind fun bt124 => (some (bt124.1, bt124.2))) else (none)) else (none))
def derivation_Value.f : Nat → Int → List (S54) → Int → List (S27) → Option (Int × Int)
  | 0, _, _, _, _ => none
  | k + 1, a0_0, l0_1, a1_0, l1_1 => derivation_Value.l0 k ([] : List (S34)) l1_1 (l1_1.length : Int) 0 a0_0 l0_1 a1_0 l1_1
end
theorem derivation_Value.mono_l : ∀ k, (∀ y0 y1 y2 y3, LeO (derivation_Value.f k y0 y1 y2 y3) (derivation_Value.f (k + 1) y0 y1 y2 y3)) ∧ (∀ y0 y1 y2 y3 y4 y5 y6 y7, LeO (derivation_Value.l0 k y0 y1 y2 y3 y4 y5 y6 y7) (derivation_Value.l0 (k + 1) y0 y1 y2 y3 y4 y5 y6 y7))
  | 0 => ⟨fun _ _ _ _ r h => by simp [derivation_Value.f] at h, fun _ _ _ _ _ _ _ _ r h => by simp [derivation_Value.l0] at h⟩
  | k + 1 => by
    obtain ⟨ih0, ih1⟩ := derivation_Value.mono_l k
    refine ⟨?_, ?_⟩
    all_goals intros
    all_goals first | unfold derivation_Value.f | unfold derivation_Value.l0
    all_goals
      repeat' first
      | (with_reducible exact ih0 _ _ _ _)
      | (with_reducible exact ih1 _ _ _ _ _ _ _ _)
      | (with_reducible exact knuth_Combine.mono _ _ _)
      | (with_reducible exact LeO.refl _)
      | (with_reducible exact LeO.none _)
      | (with_reducible refine LeO.ite ?_ ?_)
      | (with_reducible refine LeO.bind ?_ (fun _ => ?_))
      | exact ih0 _ _ _ _
      | exact ih1 _ _ _ _ _ _ _ _
      | exact knuth_Combine.mono _ _ _
      | exact LeO.none _
      | refine LeO.ite ?_ ?_
      | refine LeO.bind ?_ (fun _ => ?_)
theorem derivation_Value.mono : ∀ a0 a1 a2 a3 k, LeO (derivation_Value.f k a0 a1 a2 a3) (derivation_Value.f (k + 1) a0 a1 a2 a3) := by
  intro a0 a1 a2 a3 k
  obtain ⟨ih0, ih1⟩ := derivation_Value.mono_l k
  exact ih0 a0 a1 a2 a3
set_option maxHeartbeats 8000000 in
set_option maxRecDepth 100000 in
theorem derivation_Value.calls (k : Nat) : ∀ (a0_0 : Int) (A0_1 : Option Addr) (c0_1 : Nat) (l0_1 : List (S54)) (a1_0 : Int) (A1_1 : Option Addr) (c1_1 : Nat) (l1_1 : List (S27)) (r1 : Int) (r2 : Int) (w : World) (hr0_1 : Kd.C k54 w A0_1 l0_1.length l0_1) (hc0_1 : l0_1.length ≤ c0_1) (hr1_1 : Kd.C k27 w A1_1 l1_1.length l1_1) (hc1_1 : l1_1.length ≤ c1_1) (h : derivation_Value.f k a0_0 l0_1 a1_0 l1_1 = some (r1, r2)),
    Calls Try.prog 29 #[.agg #[.int .i64 a0_0, .slice A0_1 l0_1.length c0_1], .agg #[.int .i64 a1_0, .slice A1_1 l1_1.length c1_1]] w fun e w' => e = .returned (.agg #[.int .i64 r1, .int .i64 r2]) ∧ Below w.heap.size w w' := by
  induction k using Nat.strongRecOn with
  | _ k ih =>
  intro a0_0 A0_1 c0_1 l0_1 a1_0 A1_1 c1_1 l1_1 r1 r2 w hr0_1 hc0_1 hr1_1 hc1_1 h
  cases k with
  | zero => exact absurd h (by simp [derivation_Value.f])
  | succ k =>
  simp only [derivation_Value.f] at h
  have hu24 := Try.underlying24
  have hu27 := Try.underlying27
  have hu34 := Try.underlying34
  have HR0_1 := Aside0.mk hr0_1
  have HC0_1 := Aside0.mk hc0_1
  clear hr0_1 hc0_1
  have HR1_1 := Aside0.mk hr1_1
  have HC1_1 := Aside0.mk hc1_1
  clear hr1_1 hc1_1
  have HB := Aside0.mk (Below.refl w.heap.size w)
  have H : (derivation_Value.l0 k ([] : List (S34)) l1_1 (l1_1.length : Int) 0 a0_0 l0_1 a1_0 l1_1) = some (r1, r2) := h
  clear h
  have H' := Aside0.mk H
  clear H
  go_enter Try.func29, Try.ntmps29
  go_wp2_with (first | ((with_reducible refine gate_dst (N := 2) rfl ?_); refine box_event ?hg (N := 2) ?hd (cs := #[.int .i64 a0_0, .slice A0_1 l0_1.length c0_1]) (t := 24) ?hr ?_; (case hd => rfl); (case hg => rfl); (case hr => first | (go_simp; done) | (go_simp; rfl)); intro gb113 hg w3 hbox hb; have n0_ := Aside0.mk (below_step (bel HB) hb); have n1_ := Aside0.mk (hbox); have n2_ := Aside0.mk ((by rw [hg]; exact (below_size (bel HB)) : w.heap.size ≤ gb113)); have n3_ := Aside0.mk ((by rw [hg]; exact (below_size (bel HB)) : w.heap.size ≤ gb113)); clear HB; have HB := n0_; have BK113 := n1_; have GW113 := n2_; have GE113 := n3_; clear n0_ n1_ n2_ n3_; clear hb hbox hg) | ((with_reducible refine gate_dst (N := 3) rfl ?_); refine box_event ?hg (N := 3) ?hd (cs := #[.int .i64 a1_0, .slice A1_1 l1_1.length c1_1]) (t := 27) ?hr ?_; (case hd => rfl); (case hg => rfl); (case hr => first | (go_simp; done) | (go_simp; rfl)); intro gb114 hg w4 hbox hb; have n0_ := Aside0.mk (blk_below (bk BK113) hb); have n1_ := Aside0.mk (below_step (bel HB) hb); have n2_ := Aside0.mk (hbox); have n3_ := Aside0.mk ((by rw [hg]; exact (below_size (bel HB)) : w.heap.size ≤ gb114)); have n4_ := Aside0.mk ((by rw [hg]; exact (below_size (bel HB)) : w.heap.size ≤ gb114)); have n5_ := Aside0.mk ((by rw [hg]; exact Nat.ne_of_lt (blk_lt (bk BK113)) : gb113 ≠ gb114)); have n6_ := Aside0.mk ((by rw [hg]; exact Nat.ne_of_gt (blk_lt (bk BK113)) : gb114 ≠ gb113)); clear BK113; clear HB; have BK113 := n0_; have HB := n1_; have BK114 := n2_; have GW114 := n3_; have GE114 := n4_; have NB113_114 := n5_; have NB114_113 := n6_; clear n0_ n1_ n2_ n3_ n4_ n5_ n6_; clear hb hbox hg) | ((with_reducible refine gate_dst (N := 4) rfl ?_); refine box_event ?hg (N := 4) ?hd (cs := #[.int .i64 0, .int .i64 0]) (t := 34) ?hr ?_; (case hd => rfl); (case hg => rfl); (case hr => first | (go_simp; done) | (go_simp; rfl)); intro gb115 hg w5 hbox hb; have n0_ := Aside0.mk (blk_below (bk BK113) hb); have n1_ := Aside0.mk (blk_below (bk BK114) hb); have n2_ := Aside0.mk (below_step (bel HB) hb); have n3_ := Aside0.mk (hbox); have n4_ := Aside0.mk ((by rw [hg]; exact (below_size (bel HB)) : w.heap.size ≤ gb115)); have n5_ := Aside0.mk ((by rw [hg]; exact (below_size (bel HB)) : w.heap.size ≤ gb115)); have n6_ := Aside0.mk ((by rw [hg]; exact Nat.ne_of_lt (blk_lt (bk BK113)) : gb113 ≠ gb115)); have n7_ := Aside0.mk ((by rw [hg]; exact Nat.ne_of_gt (blk_lt (bk BK113)) : gb115 ≠ gb113)); have n8_ := Aside0.mk ((by rw [hg]; exact Nat.ne_of_lt (blk_lt (bk BK114)) : gb114 ≠ gb115)); have n9_ := Aside0.mk ((by rw [hg]; exact Nat.ne_of_gt (blk_lt (bk BK114)) : gb115 ≠ gb114)); clear BK113; clear BK114; clear HB; have BK113 := n0_; have BK114 := n1_; have HB := n2_; have BK115 := n3_; have GW115 := n4_; have GE115 := n5_; have NB113_115 := n6_; have NB115_113 := n7_; have NB114_115 := n8_; have NB115_114 := n9_; clear n0_ n1_ n2_ n3_ n4_ n5_ n6_ n7_ n8_ n9_; clear hb hbox hg; have hnb6 := NB114_113.out; have hnc6 := NB113_114.out; have hnb7 := NB114_115.out; have hnc7 := NB115_114.out; have hcz8_0 : w5.cell? ⟨gb114, 0, none⟩ = some (.int .i64 a1_0) := (blk_cell BK114.out 0).trans rfl; have hcz8_1 : w5.cell? ⟨gb114, 1, none⟩ = some (.slice A1_1 l1_1.length c1_1) := (blk_cell BK114.out 1).trans rfl; have hfz8_0 := blk_frozen BK114.out 0; have hfz8_1 := blk_frozen BK114.out 1))
  go_loopg [5, 11] k (fun kq v5 v11 w' => ∃ (x5_1 : List (S34)) (x11_1 : Int), v11 = .int .i64 x11_1 ∧ Aside0 (derivation_Value.l0 kq x5_1 l1_1 (l1_1.length : Int) x11_1 a0_0 l0_1 a1_0 l1_1 = some (r1, r2)) ∧ Aside0 (kq ≤ k) ∧ Aside0 (Kd.R k34 34 w' w.heap.size (fun k_ => k_ ≠ gb115) v5 x5_1) ∧ Aside0 (w'.heap[gb113]? = some (.cells #[.int .i64 a0_0, (.slice A0_1 l0_1.length c0_1)] 24 (0, 0))) ∧ Aside0 (w'.heap[gb114]? = some (.cells #[.int .i64 a1_0, (.slice A1_1 l1_1.length c1_1)] 27 (0, 0))) ∧ Aside0 (w'.heap[gb115]? = some (.cells #[.int .i64 0, .int .i64 0] 34 (0, 0))) ∧ Aside0 (Below w.heap.size w w'))
  case atStart => exact ⟨(([] : List (S34))), (0), (by first | rfl | (simp; done) | (simp [*]; done)), H', ⟨Nat.le_refl _⟩, ⟨by first | exact Kd.R_nil _ _ _ _ _ | exact Kd.N_nil _ _ _ _ _ | exact Kd.V_nil _ _ _ _ _ | exact Kd.Q_nil _ _ _ _ _ | exact Kd.S_nil _ _ _ _ _⟩, ⟨by (with_reducible repeat (first | refine blk_drewN ?_ _ | refine blk_drew ?_ | refine blk_alloc ?_ _)); exact BK113.out⟩, ⟨by (with_reducible repeat (first | refine blk_drewN ?_ _ | refine blk_drew ?_ | refine blk_alloc ?_ _)); exact BK114.out⟩, ⟨by (with_reducible repeat (first | refine blk_drewN ?_ _ | refine blk_drew ?_ | refine blk_alloc ?_ _)); exact BK115.out⟩, ⟨bel HB⟩⟩
  case round =>
    clear H'
    (try clear c1); (try clear c2); (try clear p2); (try clear c6); (try clear c7); (try clear hcz8_0); (try clear hcz8_1); (try clear hfz8_0); (try clear hfz8_1)
    obtain ⟨x5_1, x11_1, rfl, HA, HK1, HO_5, BK113, BK114, BK115, HB⟩ := hrel
    cases gk with
    | zero => exact absurd HA.out (by simp [derivation_Value.l0])
    | succ k1 =>
      have H := HA.out
      clear HA
      simp only [derivation_Value.l0] at H
      by_cases c9 : x11_1 < (l1_1.length : Int)
      · rw [if_pos c9] at H
        have c9b0 : decide (x11_1 < (l1_1.length : Int)) = true := decide_eq_true c9
        clear c9
        by_cases c10 : 0 ≤ x11_1
        · rw [if_pos c10] at H
          have c10b0 : decide (0 ≤ x11_1) = true := decide_eq_true c10
          clear c10
          by_cases c11 : x11_1 < (l1_1.length : Int)
          · rw [if_pos c11] at H
            have c11b0 : decide (x11_1 < (l1_1.length : Int)) = true := decide_eq_true c11
            clear c11
            replace H := Option.bind_eq_some_iff.mp H
            obtain ⟨⟨t118, t119⟩, A120, H⟩ := H
            replace H : (if x5_1.length < 8796093022208 then (derivation_Value.l0 k1 (x5_1 ++ [(⟨t118, t119⟩ : S34)]) l1_1 (l1_1.length : Int) (wrap64 (x11_1 + 1)) a0_0 l0_1 a1_0 l1_1) else (none)) = some (r1, r2) := H
            have A12 := Aside0.mk A120
            clear A120
            by_cases c13 : x5_1.length < 8796093022208
            · rw [if_pos c13] at H
              have LMc13 := Aside0.mk c13
              clear c13
              obtain ⟨y120, hy120⟩ : ∃ y_ : List (S34), y_ = (x5_1 ++ [(⟨t118, t119⟩ : S34)]) := ⟨_, rfl⟩
              replace H : (derivation_Value.l0 k1 y120 l1_1 (l1_1.length : Int) (wrap64 (x11_1 + 1)) a0_0 l0_1 a1_0 l1_1) = some (r1, r2) := by first | (rw [hy120]; with_reducible exact H) | (have H2_ := (Option.bind_some _ _).symm.trans H; rw [hy120]; with_reducible exact H2_) | (have H2_ := (Option.bind_some _ _).symm.trans H; with_reducible exact H2_) | with_reducible exact H | (rw [hy120]; exact H) | exact H
              have Ny120 := Aside0.mk hy120
              clear hy120
              have H' := Aside0.mk H
              clear H
              have p116 : 0 ≤ (x11_1 : Int) := of_decide_eq_true (by first | (with_reducible assumption) | assumption)
              have q116 : x11_1 < (l1_1.length : Int) := of_decide_eq_true (by first | (with_reducible assumption) | assumption)
              obtain ⟨ad116, A116_1, c116_1, e116, hx116_0, hx116_1, hl116_1, hi116_1⟩ := at_T27 HR1_1.out x11_1 p116 q116
              cases e116
              replace hx116_0 := (HB.out.cell (World.block_lt_of_cell? w _ hx116_0)).trans hx116_0
              replace hx116_1 := (HB.out.cell (World.block_lt_of_cell? w _ hx116_1)).trans hx116_1
              have HR116_1 := Aside0.mk hi116_1
              have HC116_1 := Aside0.mk hl116_1
              clear hi116_1 hl116_1
              replace p116 := eq_true p116
              replace q116 := eq_true q116
              go_wp2_with (first | ((with_reducible refine gate_dst (N := 7) rfl ?_); refine box_event ?hg (N := 7) ?hd (cs := #[.int .i64 0, .slice none 0 0]) (t := 27) ?hr ?_; (case hd => rfl); (case hg => rfl); (case hr => first | (go_simp; done) | (go_simp; rfl)); intro gb117 hg w14 hbox hb; have n0_ := Aside0.mk (Kd.R_below (by (with_reducible repeat (first | apply Kd.R_alloc | apply Kd.R_drewN | apply Kd.R_drew)); exact HO_5.out) hb); have n1_ := Aside0.mk (blk_below (bk BK113) hb); have n2_ := Aside0.mk (blk_below (bk BK114) hb); have n3_ := Aside0.mk (blk_below (bk BK115) hb); have n4_ := Aside0.mk (below_step (bel HB) hb); have n5_ := Aside0.mk (hbox); have n6_ := Aside0.mk ((by rw [hg]; exact (below_size (bel HB)) : w.heap.size ≤ gb117)); have n7_ := Aside0.mk ((by rw [hg]; exact (below_size (bel HB)) : w.heap.size ≤ gb117)); have n8_ := Aside0.mk ((by rw [hg]; exact Nat.ne_of_lt (blk_lt (bk BK113)) : gb113 ≠ gb117)); have n9_ := Aside0.mk ((by rw [hg]; exact Nat.ne_of_gt (blk_lt (bk BK113)) : gb117 ≠ gb113)); have n10_ := Aside0.mk ((by rw [hg]; exact Nat.ne_of_lt (blk_lt (bk BK114)) : gb114 ≠ gb117)); have n11_ := Aside0.mk ((by rw [hg]; exact Nat.ne_of_gt (blk_lt (bk BK114)) : gb117 ≠ gb114)); have n12_ := Aside0.mk ((by rw [hg]; exact Nat.ne_of_lt (blk_lt (bk BK115)) : gb115 ≠ gb117)); have n13_ := Aside0.mk ((by rw [hg]; exact Nat.ne_of_gt (blk_lt (bk BK115)) : gb117 ≠ gb115)); clear HO_5; clear BK113; clear BK114; clear BK115; clear HB; have HO_5 := n0_; have BK113 := n1_; have BK114 := n2_; have BK115 := n3_; have HB := n4_; have BK117 := n5_; have GW117 := n6_; have GE117 := n7_; have NB113_117 := n8_; have NB117_113 := n9_; have NB114_117 := n10_; have NB117_114 := n11_; have NB115_117 := n12_; have NB117_115 := n13_; clear n0_ n1_ n2_ n3_ n4_ n5_ n6_ n7_ n8_ n9_ n10_ n11_ n12_ n13_; clear hb hbox hg; have hnb15 := NB117_113.out; have hnc15 := NB113_117.out; have hnb16 := NB117_114.out; have hnc16 := NB114_117.out; have hnb17 := NB117_115.out; have hnc17 := NB115_117.out; have hcz18_0 : w14.cell? ⟨gb117, 0, none⟩ = some (.int .i64 0) := (blk_cell BK117.out 0).trans rfl; have hcz18_1 : w14.cell? ⟨gb117, 1, none⟩ = some (.slice none 0 0) := (blk_cell BK117.out 1).trans rfl; have hfz18_0 := blk_frozen BK117.out 0; have hfz18_1 := blk_frozen BK117.out 1; have hnb19 := NB113_114.out; have hnc19 := NB114_113.out; have hnb20 := NB113_115.out; have hnc20 := NB115_113.out; have hcz21_0 : w14.cell? ⟨gb113, 0, none⟩ = some (.int .i64 a0_0) := (blk_cell BK113.out 0).trans rfl; have hcz21_1 : w14.cell? ⟨gb113, 1, none⟩ = some (.slice A0_1 l0_1.length c0_1) := (blk_cell BK113.out 1).trans rfl; have hfz21_0 := blk_frozen BK113.out 0; have hfz21_1 := blk_frozen BK113.out 1) | ((with_reducible refine gate_callee (f := 29) rfl ?_); refine goesL_ (some 18) rfl rfl Try.func29 (by kernel_rfl) rfl #[.agg #[.int .i64 a0_0, .slice A0_1 l0_1.length c0_1], .agg #[.int .i64 ((rd_T27 l1_1 x11_1).f0), .slice A116_1 ((rd_T27 l1_1 x11_1).f1).length c116_1]] rfl (by (try simp only [List.map_toArray, List.map_cons, List.map_nil]); first | done | rfl | (simp only [List.length_drop, List.length_take]; rfl)) ?_; (with_reducible refine (ih k1 (by have := HK1.out; omega) a0_0 _ _ l0_1 ((rd_T27 l1_1 x11_1).f0) _ _ ((rd_T27 l1_1 x11_1).f1) t118 t119 _ ?side1 ?side2 ?side3 ?side4 A12.out).mono ?_); (case side1 => exact Kd.C_below HR0_1.out (bel HB)); (case side2 => exact HC0_1.out); (case side3 => exact Kd.C_below HR116_1.out (bel HB)); (case side4 => exact HC116_1.out); rintro e w22 ⟨rfl, hb⟩; refine ⟨_, rfl, ?_⟩; have n0_ := Aside0.mk (Kd.R_below (by (with_reducible repeat (first | apply Kd.R_alloc | apply Kd.R_drewN | apply Kd.R_drew)); exact (Kd.R_mono (Kd.R_far (p := ⟨gb117, 1, none⟩) (Kd.R_far (p := ⟨gb117, 0, none⟩) (Kd.R_types HO_5.out BK117.out (by decide)) (fun _ hk => hk.2) (.int .i64 ((rd_T27 l1_1 x11_1).f0))) (fun _ hk => hk.2) (.slice A116_1 ((rd_T27 l1_1 x11_1).f1).length c116_1)) (fun _ h_ => h_.1))) hb); have n1_ := Aside0.mk (blk_below (g := gb113) (o := .cells #[.int .i64 a0_0, .slice A0_1 l0_1.length c0_1] 24 (0, 0)) (by (with_reducible repeat (first | refine blk_drewN ?_ _ | refine blk_drew ?_ | refine blk_alloc ?_ _)); refine blk_far ?_ NB113_117.out _; (with_reducible repeat (first | refine blk_drewN ?_ _ | refine blk_drew ?_ | refine blk_alloc ?_ _)); refine blk_far ?_ NB113_117.out _; (with_reducible repeat (first | refine blk_drewN ?_ _ | refine blk_drew ?_ | refine blk_alloc ?_ _)); exact BK113.out) hb); have n2_ := Aside0.mk (blk_below (g := gb114) (o := .cells #[.int .i64 a1_0, .slice (some ad116) l1_1.length c1_1] 27 (0, 0)) (by (with_reducible repeat (first | refine blk_drewN ?_ _ | refine blk_drew ?_ | refine blk_alloc ?_ _)); refine blk_far ?_ NB114_117.out _; (with_reducible repeat (first | refine blk_drewN ?_ _ | refine blk_drew ?_ | refine blk_alloc ?_ _)); refine blk_far ?_ NB114_117.out _; (with_reducible repeat (first | refine blk_drewN ?_ _ | refine blk_drew ?_ | refine blk_alloc ?_ _)); exact BK114.out) hb); have n3_ := Aside0.mk (blk_below (g := gb115) (o := .cells #[.int .i64 0, .int .i64 0] 34 (0, 0)) (by (with_reducible repeat (first | refine blk_drewN ?_ _ | refine blk_drew ?_ | refine blk_alloc ?_ _)); refine blk_far ?_ NB115_117.out _; (with_reducible repeat (first | refine blk_drewN ?_ _ | refine blk_drew ?_ | refine blk_alloc ?_ _)); refine blk_far ?_ NB115_117.out _; (with_reducible repeat (first | refine blk_drewN ?_ _ | refine blk_drew ?_ | refine blk_alloc ?_ _)); exact BK115.out) hb); have n4_ := Aside0.mk (blk_below (g := gb117) (o := .cells #[.int .i64 ((rd_T27 l1_1 x11_1).f0), .slice A116_1 ((rd_T27 l1_1 x11_1).f1).length c116_1] 27 (0, 0)) (by (with_reducible repeat (first | refine blk_drewN ?_ _ | refine blk_drew ?_ | refine blk_alloc ?_ _)); refine blk_put (cs := #[.int .i64 ((rd_T27 l1_1 x11_1).f0), .slice none 0 0]) ?_ 1 _ rfl; (with_reducible repeat (first | refine blk_drewN ?_ _ | refine blk_drew ?_ | refine blk_alloc ?_ _)); refine blk_put (cs := #[.int .i64 0, .slice none 0 0]) ?_ 0 _ rfl; (with_reducible repeat (first | refine blk_drewN ?_ _ | refine blk_drew ?_ | refine blk_alloc ?_ _)); exact BK117.out) hb); have n5_ := Aside0.mk (below_step (bel HB) hb); clear HO_5; clear BK113; clear BK114; clear BK115; clear BK117; clear HB; have HO_5 := n0_; have BK113 := n1_; have BK114 := n2_; have BK115 := n3_; have BK117 := n4_; have HB := n5_; clear n0_ n1_ n2_ n3_ n4_ n5_; (try clear hb); (try clear hb2); (try clear hk); (try clear hi)) | ((with_reducible refine gate_builtin (b := .append) (xs := #[.tmp 15, .tmp 19]) rfl ?_); at_builtin; refine Kd.R_append k34 (w0 := w) w.heap.size rfl (.tmp 15) (.tmp 19) 43 34 (.agg #[(.int .i64 0), (.int .i64 0)]) 16 rfl Try.underlying43 info34 rfl (by decide) (by omega) u5 x5_1 (⟨t118, t119⟩ : S34) [.int .i64 t118, .int .i64 t119] (fun k_ => k_ ≠ gb115) (fun _ => False) rfl rfl ?aP (fun _ hk => hk.elim) ?aF ?aO ?aB ?aS ?aL ?_; (case aP => exact k34_mkM _ _ _ (⟨t118, t119⟩ : S34)); (case aB => exact (bel HB)); (case aF => exact (fun k_ hk => Kd.freshB (bk BK115) k_ hk)); (case aO => exact (by (with_reducible repeat (first | apply Kd.R_alloc | apply Kd.R_drewN | apply Kd.R_drew)); exact HO_5.out)); (case aS => exact (below_size (bel HB))); (case aL => have := LMc13.out; omega); intro v121 w23 ho hb hg hat; rw [← Ny120.out] at ho; have n0_ := Aside0.mk (blk_grown (bk BK113) hg (Kd.R_ne HO_5.out BK113.out (by decide))); have n1_ := Aside0.mk (blk_grown (bk BK114) hg (Kd.R_ne HO_5.out BK114.out (by decide))); have n2_ := Aside0.mk (blk_grown (bk BK115) hg (Kd.R_away HO_5.out (fun _ hk => hk))); have n3_ := Aside0.mk (blk_grown (bk BK117) hg (Kd.R_ne HO_5.out BK117.out (by decide))); have n4_ := Aside0.mk (hb); have n5_ := Aside0.mk (ho); clear BK113; clear BK114; clear BK115; clear BK117; clear HB; clear HO_5; have BK113 := n0_; have BK114 := n1_; have BK115 := n2_; have BK117 := n3_; have HB := n4_; have HO122 := n5_; clear n0_ n1_ n2_ n3_ n4_ n5_; clear ho hb hg hat))
              go_roundg k1
              case measure => have := HK1.out; omega
              case rel => exact ⟨(y120), (wrap64 (x11_1 + 1)), (by first | rfl | (simp; done) | (simp [*]; done)), H', ⟨by have := HK1.out; omega⟩, ⟨by (with_reducible repeat (first | apply Kd.R_alloc | apply Kd.R_drewN | apply Kd.R_drew)); exact HO122.out⟩, ⟨by (with_reducible repeat (first | refine blk_drewN ?_ _ | refine blk_drew ?_ | refine blk_alloc ?_ _)); exact BK113.out⟩, ⟨by (with_reducible repeat (first | refine blk_drewN ?_ _ | refine blk_drew ?_ | refine blk_alloc ?_ _)); exact BK114.out⟩, ⟨by (with_reducible repeat (first | refine blk_drewN ?_ _ | refine blk_drew ?_ | refine blk_alloc ?_ _)); exact BK115.out⟩, ⟨bel HB⟩⟩
            · rw [if_neg c13] at H
              exact absurd H (by simp)
          · rw [if_neg c11] at H
            exact absurd H (by simp)
        · rw [if_neg c10] at H
          exact absurd H (by simp)
      · rw [if_neg c9] at H
        have c9b0 : decide (x11_1 < (l1_1.length : Int)) = false := decide_eq_false c9
        clear c9
        by_cases c24 : 0 ≤ a1_0
        · rw [if_pos c24] at H
          have c24b0 : decide (0 ≤ a1_0) = true := decide_eq_true c24
          clear c24
          by_cases c25 : a1_0 < (l0_1.length : Int)
          · rw [if_pos c25] at H
            have c25b0 : decide (a1_0 < (l0_1.length : Int)) = true := decide_eq_true c25
            clear c25
            replace H := Option.bind_eq_some_iff.mp H
            obtain ⟨⟨t124, t125⟩, A260, H⟩ := H
            replace H : (some (t124, t125)) = some (r1, r2) := H
            have A26 := Aside0.mk A260
            clear A260
            simp only [Option.some.injEq, Prod.mk.injEq] at H
            obtain ⟨rfl, rfl⟩ := H
            have hnb27 := NB113_114.out
            have hnc27 := NB114_113.out
            have hnb28 := NB113_115.out
            have hnc28 := NB115_113.out
            have hcz29_0 : wr.cell? ⟨gb113, 0, none⟩ = some (.int .i64 a0_0) := (blk_cell BK113.out 0).trans rfl
            have hcz29_1 : wr.cell? ⟨gb113, 1, none⟩ = some (.slice A0_1 l0_1.length c0_1) := (blk_cell BK113.out 1).trans rfl
            have hfz29_0 := blk_frozen BK113.out 0
            have hfz29_1 := blk_frozen BK113.out 1
            have hnb30 := NB114_115.out
            have hnc30 := NB115_114.out
            have hcz31_0 : wr.cell? ⟨gb114, 0, none⟩ = some (.int .i64 a1_0) := (blk_cell BK114.out 0).trans rfl
            have hcz31_1 : wr.cell? ⟨gb114, 1, none⟩ = some (.slice A1_1 l1_1.length c1_1) := (blk_cell BK114.out 1).trans rfl
            have hfz31_0 := blk_frozen BK114.out 0
            have hfz31_1 := blk_frozen BK114.out 1
            have p123 : 0 ≤ (a1_0 : Int) := of_decide_eq_true (by first | (with_reducible assumption) | assumption)
            have q123 : a1_0 < (l0_1.length : Int) := of_decide_eq_true (by first | (with_reducible assumption) | assumption)
            obtain ⟨ad123, A123_1, c123_1, e123, hx123_0, hx123_1, hx123_2, hx123_3, hx123_4, hl123_1, hi123_1⟩ := at_T54 HR0_1.out a1_0 p123 q123
            cases e123
            replace hx123_0 := (HB.out.cell (World.block_lt_of_cell? w _ hx123_0)).trans hx123_0
            replace hx123_1 := (HB.out.cell (World.block_lt_of_cell? w _ hx123_1)).trans hx123_1
            replace hx123_2 := (HB.out.cell (World.block_lt_of_cell? w _ hx123_2)).trans hx123_2
            replace hx123_3 := (HB.out.cell (World.block_lt_of_cell? w _ hx123_3)).trans hx123_3
            replace hx123_4 := (HB.out.cell (World.block_lt_of_cell? w _ hx123_4)).trans hx123_4
            have HR123_1 := Aside0.mk hi123_1
            have HC123_1 := Aside0.mk hl123_1
            clear hi123_1 hl123_1
            replace p123 := eq_true p123
            replace q123 := eq_true q123
            obtain ⟨Ao32, co32, eo32⟩ := Kd.R_slice HO_5.out
            subst eo32
            go_wp2_with (first | ((with_reducible refine gate_callee (f := 75) rfl ?_); refine goesL_ (some 30) rfl rfl Try.func75 (by kernel_rfl) rfl #[.int .i64 ((rd_T54 l0_1 a1_0).f2), .slice Ao32 x5_1.length co32] rfl (by (try simp only [List.map_toArray, List.map_cons, List.map_nil]); first | done | rfl | (simp only [List.length_drop, List.length_take]; rfl)) ?_; (with_reducible refine (knuth_Combine.calls k1 ((rd_T54 l0_1 a1_0).f2) _ _ x5_1 t124 t125 _ ?side1 ?side2 A26.out).mono ?_); (case side1 => repeat (first | exact (Kd.R_reads' HO_5.out).2.2 | (with_reducible refine Kd.C_alloc ?_ _) | (with_reducible refine Kd.C_drewN ?_ _) | (with_reducible refine Kd.C_drew ?_))); (case side2 => exact (Kd.R_reads' HO_5.out).2.1); rintro e w33 ⟨rfl, hb⟩; refine ⟨_, rfl, ?_⟩; have n0_ := Aside0.mk (Kd.R_below (by (with_reducible repeat (first | apply Kd.R_alloc | apply Kd.R_drewN | apply Kd.R_drew)); exact HO_5.out) hb); have n1_ := Aside0.mk (blk_below (bk BK113) hb); have n2_ := Aside0.mk (blk_below (bk BK114) hb); have n3_ := Aside0.mk (blk_below (bk BK115) hb); have n4_ := Aside0.mk (below_step (bel HB) hb); clear HO_5; clear BK113; clear BK114; clear BK115; clear HB; have HO_5 := n0_; have BK113 := n1_; have BK114 := n2_; have BK115 := n3_; have HB := n4_; clear n0_ n1_ n2_ n3_ n4_; (try clear hb); (try clear hb2); (try clear hk); (try clear hi); have hcz34_0 : w33.cell? ⟨gb115, 0, none⟩ = some (.int .i64 0) := (blk_cell BK115.out 0).trans rfl; have hcz34_1 : w33.cell? ⟨gb115, 1, none⟩ = some (.int .i64 0) := (blk_cell BK115.out 1).trans rfl; have hfz34_0 := blk_frozen BK115.out 0; have hfz34_1 := blk_frozen BK115.out 1))
            refine bodyPost_ret (results_cell_row rfl _ _ gb115 34 #[.int .i64 t124, .int .i64 t125] (0, 0) _ rfl (by (with_reducible repeat (first | refine blk_drewN ?_ _ | refine blk_drew ?_ | refine blk_alloc ?_ _)); refine blk_put (cs := #[.int .i64 t124, .int .i64 0]) ?_ 1 _ rfl; (with_reducible repeat (first | refine blk_drewN ?_ _ | refine blk_drew ?_ | refine blk_alloc ?_ _)); refine blk_put (cs := #[.int .i64 0, .int .i64 0]) ?_ 0 _ rfl; (with_reducible repeat (first | refine blk_drewN ?_ _ | refine blk_drew ?_ | refine blk_alloc ?_ _)); exact BK115.out) Try.underlying34 rfl (by kernel_rfl)) rfl ?_
            exact ⟨by first | rfl | (simp [errW_none, errW_some] <;> rfl) | (simp [*, errW_none, errW_some] <;> rfl), bel HB⟩
          · rw [if_neg c25] at H
            exact absurd H (by simp)
        · rw [if_neg c24] at H
          exact absurd H (by simp)
end Go.Proofs.Ytamimodkcbbpmaa.Pr
end
section
/- Printed by a program of this session (a turned print of the kit's) out of the translation: each Go function as a Lean function, and the proof that the machine's call answers what it says. Lean checks it. -/
namespace Go.Proofs.Ytamimodkcbbpmaa.Pr
open Go.RowKit Go.Proofs.YtamimodkcbbpmaaW.PrintWords Go.Proofs.YtamimodkcbbpmaaW.PrintLast Go.Proofs.YtamimodkcbbpmaaW.PrintMore Go.Proofs.YtamimodkcbbpmaaXW
attribute [local go_sem] max2_int min2_int max_two min_two max_three min_three max_four min_four   -- for this text's walks alone
set_option linter.unusedVariables false
set_option linter.unusedSimpArgs false

/-! ### derivation_values: function 76 -/
def derivation_values.f (a0_0 : Int) (a0_1 : Int) (a1_0 : Int) (a1_1 : Int) : Option (Int) := (knuth_Less.f a0_0 a0_1 a1_0 a1_1).bind fun t130 => (if t130 = true then (some (-1)) else ((knuth_Less.f a1_0 a1_1 a0_0 a0_1).bind fun t131 => (if t131 = true then (some 1) else (some 0))))
set_option maxHeartbeats 8000000 in
set_option maxRecDepth 100000 in
theorem derivation_values.calls (a0_0 : Int) (a0_1 : Int) (a1_0 : Int) (a1_1 : Int) (r : Int) (w : World) (h : derivation_values.f a0_0 a0_1 a1_0 a1_1 = some r) :
    Calls Try.prog 76 #[.agg #[.int .i64 a0_0, .int .i64 a0_1], .agg #[.int .i64 a1_0, .int .i64 a1_1]] w fun e w' => e = .returned (.int .i64 r) ∧ Below w.heap.size w w' := by
  have hu34 := Try.underlying34
  have HB := Aside0.mk (Below.refl w.heap.size w)
  have H : ((knuth_Less.f a0_0 a0_1 a1_0 a1_1).bind fun t130 => (if t130 = true then (some (-1)) else ((knuth_Less.f a1_0 a1_1 a0_0 a0_1).bind fun t131 => (if t131 = true then (some 1) else (some 0))))) = some r := h
  clear h
  replace H := Option.bind_eq_some_iff.mp H
  obtain ⟨t130, A30, H⟩ := H
  replace H : (if t130 = true then (some (-1)) else ((knuth_Less.f a1_0 a1_1 a0_0 a0_1).bind fun t131 => (if t131 = true then (some 1) else (some 0)))) = some r := H
  have A3 := Aside0.mk A30
  clear A30
  by_cases c4 : t130 = true
  · subst c4
    have H1 : (some (-1)) = some r := by rw [if_pos rfl] at H; exact H
    clear H
    have H := H1
    clear H1
    obtain rfl := Option.some.inj H
    go_enter Try.func76, Try.ntmps76
    go_wp2_with (first | ((with_reducible refine gate_dst (N := 2) rfl ?_); refine box_event ?hg (N := 2) ?hd (cs := #[.int .i64 a0_0, .int .i64 a0_1]) (t := 34) ?hr ?_; (case hd => rfl); (case hg => rfl); (case hr => first | (go_simp; done) | (go_simp; rfl)); intro gb128 hg w5 hbox hb; have n0_ := Aside0.mk (below_step (bel HB) hb); have n1_ := Aside0.mk (hbox); have n2_ := Aside0.mk ((by rw [hg]; exact (below_size (bel HB)) : w.heap.size ≤ gb128)); have n3_ := Aside0.mk ((by rw [hg]; exact (below_size (bel HB)) : w.heap.size ≤ gb128)); clear HB; have HB := n0_; have BK128 := n1_; have GW128 := n2_; have GE128 := n3_; clear n0_ n1_ n2_ n3_; clear hb hbox hg) | ((with_reducible refine gate_dst (N := 3) rfl ?_); refine box_event ?hg (N := 3) ?hd (cs := #[.int .i64 a1_0, .int .i64 a1_1]) (t := 34) ?hr ?_; (case hd => rfl); (case hg => rfl); (case hr => first | (go_simp; done) | (go_simp; rfl)); intro gb129 hg w6 hbox hb; have n0_ := Aside0.mk (blk_below (bk BK128) hb); have n1_ := Aside0.mk (below_step (bel HB) hb); have n2_ := Aside0.mk (hbox); have n3_ := Aside0.mk ((by rw [hg]; exact (below_size (bel HB)) : w.heap.size ≤ gb129)); have n4_ := Aside0.mk ((by rw [hg]; exact (below_size (bel HB)) : w.heap.size ≤ gb129)); have n5_ := Aside0.mk ((by rw [hg]; exact Nat.ne_of_lt (blk_lt (bk BK128)) : gb128 ≠ gb129)); have n6_ := Aside0.mk ((by rw [hg]; exact Nat.ne_of_gt (blk_lt (bk BK128)) : gb129 ≠ gb128)); clear BK128; clear HB; have BK128 := n0_; have HB := n1_; have BK129 := n2_; have GW129 := n3_; have GE129 := n4_; have NB128_129 := n5_; have NB129_128 := n6_; clear n0_ n1_ n2_ n3_ n4_ n5_ n6_; clear hb hbox hg; have hnb7 := NB128_129.out; have hnc7 := NB129_128.out; have hcz8_0 : w6.cell? ⟨gb128, 0, none⟩ = some (.int .i64 a0_0) := (blk_cell BK128.out 0).trans rfl; have hcz8_1 : w6.cell? ⟨gb128, 1, none⟩ = some (.int .i64 a0_1) := (blk_cell BK128.out 1).trans rfl; have hfz8_0 := blk_frozen BK128.out 0; have hfz8_1 := blk_frozen BK128.out 1; have hcz9_0 : w6.cell? ⟨gb129, 0, none⟩ = some (.int .i64 a1_0) := (blk_cell BK129.out 0).trans rfl; have hcz9_1 : w6.cell? ⟨gb129, 1, none⟩ = some (.int .i64 a1_1) := (blk_cell BK129.out 1).trans rfl; have hfz9_0 := blk_frozen BK129.out 0; have hfz9_1 := blk_frozen BK129.out 1) | ((with_reducible refine gate_callee (f := 100) rfl ?_); refine goesL_ (some 8) rfl rfl Try.func100 (by kernel_rfl) rfl #[.agg #[.int .i64 a0_0, .int .i64 a0_1], .agg #[.int .i64 a1_0, .int .i64 a1_1]] rfl (by (try simp only [List.map_toArray, List.map_cons, List.map_nil]); first | done | rfl | (simp only [List.length_drop, List.length_take]; rfl)) ?_; (with_reducible refine (knuth_Less.calls a0_0 a0_1 a1_0 a1_1 true _ A3.out).mono ?_); rintro e w10 ⟨rfl, hb⟩; refine ⟨_, rfl, ?_⟩; have n0_ := Aside0.mk (blk_below (bk BK128) hb); have n1_ := Aside0.mk (blk_below (bk BK129) hb); have n2_ := Aside0.mk (below_step (bel HB) hb); clear BK128; clear BK129; clear HB; have BK128 := n0_; have BK129 := n1_; have HB := n2_; clear n0_ n1_ n2_; (try clear hb); (try clear hb2); (try clear hk); (try clear hi)))
    go_ret
    exact ⟨by first | rfl | (simp [errW_none, errW_some] <;> rfl) | (simp [*, errW_none, errW_some] <;> rfl), bel HB⟩
  · replace c4 := Bool.eq_false_iff.mpr c4
    subst c4
    have H1 : ((knuth_Less.f a1_0 a1_1 a0_0 a0_1).bind fun t131 => (if t131 = true then (some 1) else (some 0))) = some r := by rw [if_neg (show ¬ (false = true) by decide)] at H; exact H
    clear H
    have H := H1
    clear H1
    replace H := Option.bind_eq_some_iff.mp H
    obtain ⟨t131, A110, H⟩ := H
    replace H : (if t131 = true then (some 1) else (some 0)) = some r := H
    have A11 := Aside0.mk A110
    clear A110
    by_cases c12 : t131 = true
    · subst c12
      have H1 : (some 1) = some r := by rw [if_pos rfl] at H; exact H
      clear H
      have H := H1
      clear H1
      obtain rfl := Option.some.inj H
      go_enter Try.func76, Try.ntmps76
      go_wp2_with (first | ((with_reducible refine gate_dst (N := 2) rfl ?_); refine box_event ?hg (N := 2) ?hd (cs := #[.int .i64 a0_0, .int .i64 a0_1]) (t := 34) ?hr ?_; (case hd => rfl); (case hg => rfl); (case hr => first | (go_simp; done) | (go_simp; rfl)); intro gb128 hg w13 hbox hb; have n0_ := Aside0.mk (below_step (bel HB) hb); have n1_ := Aside0.mk (hbox); have n2_ := Aside0.mk ((by rw [hg]; exact (below_size (bel HB)) : w.heap.size ≤ gb128)); have n3_ := Aside0.mk ((by rw [hg]; exact (below_size (bel HB)) : w.heap.size ≤ gb128)); clear HB; have HB := n0_; have BK128 := n1_; have GW128 := n2_; have GE128 := n3_; clear n0_ n1_ n2_ n3_; clear hb hbox hg) | ((with_reducible refine gate_dst (N := 3) rfl ?_); refine box_event ?hg (N := 3) ?hd (cs := #[.int .i64 a1_0, .int .i64 a1_1]) (t := 34) ?hr ?_; (case hd => rfl); (case hg => rfl); (case hr => first | (go_simp; done) | (go_simp; rfl)); intro gb129 hg w14 hbox hb; have n0_ := Aside0.mk (blk_below (bk BK128) hb); have n1_ := Aside0.mk (below_step (bel HB) hb); have n2_ := Aside0.mk (hbox); have n3_ := Aside0.mk ((by rw [hg]; exact (below_size (bel HB)) : w.heap.size ≤ gb129)); have n4_ := Aside0.mk ((by rw [hg]; exact (below_size (bel HB)) : w.heap.size ≤ gb129)); have n5_ := Aside0.mk ((by rw [hg]; exact Nat.ne_of_lt (blk_lt (bk BK128)) : gb128 ≠ gb129)); have n6_ := Aside0.mk ((by rw [hg]; exact Nat.ne_of_gt (blk_lt (bk BK128)) : gb129 ≠ gb128)); clear BK128; clear HB; have BK128 := n0_; have HB := n1_; have BK129 := n2_; have GW129 := n3_; have GE129 := n4_; have NB128_129 := n5_; have NB129_128 := n6_; clear n0_ n1_ n2_ n3_ n4_ n5_ n6_; clear hb hbox hg; have hnb15 := NB128_129.out; have hnc15 := NB129_128.out; have hcz16_0 : w14.cell? ⟨gb128, 0, none⟩ = some (.int .i64 a0_0) := (blk_cell BK128.out 0).trans rfl; have hcz16_1 : w14.cell? ⟨gb128, 1, none⟩ = some (.int .i64 a0_1) := (blk_cell BK128.out 1).trans rfl; have hfz16_0 := blk_frozen BK128.out 0; have hfz16_1 := blk_frozen BK128.out 1; have hcz17_0 : w14.cell? ⟨gb129, 0, none⟩ = some (.int .i64 a1_0) := (blk_cell BK129.out 0).trans rfl; have hcz17_1 : w14.cell? ⟨gb129, 1, none⟩ = some (.int .i64 a1_1) := (blk_cell BK129.out 1).trans rfl; have hfz17_0 := blk_frozen BK129.out 0; have hfz17_1 := blk_frozen BK129.out 1) | ((with_reducible refine gate_callee (f := 100) rfl ?_); refine goesL_ (some 8) rfl rfl Try.func100 (by kernel_rfl) rfl #[.agg #[.int .i64 a0_0, .int .i64 a0_1], .agg #[.int .i64 a1_0, .int .i64 a1_1]] rfl (by (try simp only [List.map_toArray, List.map_cons, List.map_nil]); first | done | rfl | (simp only [List.length_drop, List.length_take]; rfl)) ?_; (with_reducible refine (knuth_Less.calls a0_0 a0_1 a1_0 a1_1 false _ A3.out).mono ?_); rintro e w18 ⟨rfl, hb⟩; refine ⟨_, rfl, ?_⟩; have n0_ := Aside0.mk (blk_below (bk BK128) hb); have n1_ := Aside0.mk (blk_below (bk BK129) hb); have n2_ := Aside0.mk (below_step (bel HB) hb); clear BK128; clear BK129; clear HB; have BK128 := n0_; have BK129 := n1_; have HB := n2_; clear n0_ n1_ n2_; (try clear hb); (try clear hb2); (try clear hk); (try clear hi); have hcz19_0 : w18.cell? ⟨gb129, 0, none⟩ = some (.int .i64 a1_0) := (blk_cell BK129.out 0).trans rfl; have hcz19_1 : w18.cell? ⟨gb129, 1, none⟩ = some (.int .i64 a1_1) := (blk_cell BK129.out 1).trans rfl; have hfz19_0 := blk_frozen BK129.out 0; have hfz19_1 := blk_frozen BK129.out 1; have hcz20_0 : w18.cell? ⟨gb128, 0, none⟩ = some (.int .i64 a0_0) := (blk_cell BK128.out 0).trans rfl; have hcz20_1 : w18.cell? ⟨gb128, 1, none⟩ = some (.int .i64 a0_1) := (blk_cell BK128.out 1).trans rfl; have hfz20_0 := blk_frozen BK128.out 0; have hfz20_1 := blk_frozen BK128.out 1) | ((with_reducible refine gate_callee (f := 100) rfl ?_); refine goesL_ (some 12) rfl rfl Try.func100 (by kernel_rfl) rfl #[.agg #[.int .i64 a1_0, .int .i64 a1_1], .agg #[.int .i64 a0_0, .int .i64 a0_1]] rfl (by (try simp only [List.map_toArray, List.map_cons, List.map_nil]); first | done | rfl | (simp only [List.length_drop, List.length_take]; rfl)) ?_; (with_reducible refine (knuth_Less.calls a1_0 a1_1 a0_0 a0_1 true _ A11.out).mono ?_); rintro e w21 ⟨rfl, hb⟩; refine ⟨_, rfl, ?_⟩; have n0_ := Aside0.mk (blk_below (bk BK128) hb); have n1_ := Aside0.mk (blk_below (bk BK129) hb); have n2_ := Aside0.mk (below_step (bel HB) hb); clear BK128; clear BK129; clear HB; have BK128 := n0_; have BK129 := n1_; have HB := n2_; clear n0_ n1_ n2_; (try clear hb); (try clear hb2); (try clear hk); (try clear hi)))
      go_ret
      exact ⟨by first | rfl | (simp [errW_none, errW_some] <;> rfl) | (simp [*, errW_none, errW_some] <;> rfl), bel HB⟩
    · replace c12 := Bool.eq_false_iff.mpr c12
      subst c12
      have H1 : (some 0) = some r := by rw [if_neg (show ¬ (false = true) by decide)] at H; exact H
      clear H
      have H := H1
      clear H1
      obtain rfl := Option.some.inj H
      go_enter Try.func76, Try.ntmps76
      go_wp2_with (first | ((with_reducible refine gate_dst (N := 2) rfl ?_); refine box_event ?hg (N := 2) ?hd (cs := #[.int .i64 a0_0, .int .i64 a0_1]) (t := 34) ?hr ?_; (case hd => rfl); (case hg => rfl); (case hr => first | (go_simp; done) | (go_simp; rfl)); intro gb128 hg w22 hbox hb; have n0_ := Aside0.mk (below_step (bel HB) hb); have n1_ := Aside0.mk (hbox); have n2_ := Aside0.mk ((by rw [hg]; exact (below_size (bel HB)) : w.heap.size ≤ gb128)); have n3_ := Aside0.mk ((by rw [hg]; exact (below_size (bel HB)) : w.heap.size ≤ gb128)); clear HB; have HB := n0_; have BK128 := n1_; have GW128 := n2_; have GE128 := n3_; clear n0_ n1_ n2_ n3_; clear hb hbox hg) | ((with_reducible refine gate_dst (N := 3) rfl ?_); refine box_event ?hg (N := 3) ?hd (cs := #[.int .i64 a1_0, .int .i64 a1_1]) (t := 34) ?hr ?_; (case hd => rfl); (case hg => rfl); (case hr => first | (go_simp; done) | (go_simp; rfl)); intro gb129 hg w23 hbox hb; have n0_ := Aside0.mk (blk_below (bk BK128) hb); have n1_ := Aside0.mk (below_step (bel HB) hb); have n2_ := Aside0.mk (hbox); have n3_ := Aside0.mk ((by rw [hg]; exact (below_size (bel HB)) : w.heap.size ≤ gb129)); have n4_ := Aside0.mk ((by rw [hg]; exact (below_size (bel HB)) : w.heap.size ≤ gb129)); have n5_ := Aside0.mk ((by rw [hg]; exact Nat.ne_of_lt (blk_lt (bk BK128)) : gb128 ≠ gb129)); have n6_ := Aside0.mk ((by rw [hg]; exact Nat.ne_of_gt (blk_lt (bk BK128)) : gb129 ≠ gb128)); clear BK128; clear HB; have BK128 := n0_; have HB := n1_; have BK129 := n2_; have GW129 := n3_; have GE129 := n4_; have NB128_129 := n5_; have NB129_128 := n6_; clear n0_ n1_ n2_ n3_ n4_ n5_ n6_; clear hb hbox hg; have hnb24 := NB128_129.out; have hnc24 := NB129_128.out; have hcz25_0 : w23.cell? ⟨gb128, 0, none⟩ = some (.int .i64 a0_0) := (blk_cell BK128.out 0).trans rfl; have hcz25_1 : w23.cell? ⟨gb128, 1, none⟩ = some (.int .i64 a0_1) := (blk_cell BK128.out 1).trans rfl; have hfz25_0 := blk_frozen BK128.out 0; have hfz25_1 := blk_frozen BK128.out 1; have hcz26_0 : w23.cell? ⟨gb129, 0, none⟩ = some (.int .i64 a1_0) := (blk_cell BK129.out 0).trans rfl; have hcz26_1 : w23.cell? ⟨gb129, 1, none⟩ = some (.int .i64 a1_1) := (blk_cell BK129.out 1).trans rfl; have hfz26_0 := blk_frozen BK129.out 0; have hfz26_1 := blk_frozen BK129.out 1) | ((with_reducible refine gate_callee (f := 100) rfl ?_); refine goesL_ (some 8) rfl rfl Try.func100 (by kernel_rfl) rfl #[.agg #[.int .i64 a0_0, .int .i64 a0_1], .agg #[.int .i64 a1_0, .int .i64 a1_1]] rfl (by (try simp only [List.map_toArray, List.map_cons, List.map_nil]); first | done | rfl | (simp only [List.length_drop, List.length_take]; rfl)) ?_; (with_reducible refine (knuth_Less.calls a0_0 a0_1 a1_0 a1_1 false _ A3.out).mono ?_); rintro e w27 ⟨rfl, hb⟩; refine ⟨_, rfl, ?_⟩; have n0_ := Aside0.mk (blk_below (bk BK128) hb); have n1_ := Aside0.mk (blk_below (bk BK129) hb); have n2_ := Aside0.mk (below_step (bel HB) hb); clear BK128; clear BK129; clear HB; have BK128 := n0_; have BK129 := n1_; have HB := n2_; clear n0_ n1_ n2_; (try clear hb); (try clear hb2); (try clear hk); (try clear hi); have hcz28_0 : w27.cell? ⟨gb129, 0, none⟩ = some (.int .i64 a1_0) := (blk_cell BK129.out 0).trans rfl; have hcz28_1 : w27.cell? ⟨gb129, 1, none⟩ = some (.int .i64 a1_1) := (blk_cell BK129.out 1).trans rfl; have hfz28_0 := blk_frozen BK129.out 0; have hfz28_1 := blk_frozen BK129.out 1; have hcz29_0 : w27.cell? ⟨gb128, 0, none⟩ = some (.int .i64 a0_0) := (blk_cell BK128.out 0).trans rfl; have hcz29_1 : w27.cell? ⟨gb128, 1, none⟩ = some (.int .i64 a0_1) := (blk_cell BK128.out 1).trans rfl; have hfz29_0 := blk_frozen BK128.out 0; have hfz29_1 := blk_frozen BK128.out 1) | ((with_reducible refine gate_callee (f := 100) rfl ?_); refine goesL_ (some 12) rfl rfl Try.func100 (by kernel_rfl) rfl #[.agg #[.int .i64 a1_0, .int .i64 a1_1], .agg #[.int .i64 a0_0, .int .i64 a0_1]] rfl (by (try simp only [List.map_toArray, List.map_cons, List.map_nil]); first | done | rfl | (simp only [List.length_drop, List.length_take]; rfl)) ?_; (with_reducible refine (knuth_Less.calls a1_0 a1_1 a0_0 a0_1 false _ A11.out).mono ?_); rintro e w30 ⟨rfl, hb⟩; refine ⟨_, rfl, ?_⟩; have n0_ := Aside0.mk (blk_below (bk BK128) hb); have n1_ := Aside0.mk (blk_below (bk BK129) hb); have n2_ := Aside0.mk (below_step (bel HB) hb); clear BK128; clear BK129; clear HB; have BK128 := n0_; have BK129 := n1_; have HB := n2_; clear n0_ n1_ n2_; (try clear hb); (try clear hb2); (try clear hk); (try clear hi)))
      go_ret
      exact ⟨by first | rfl | (simp [errW_none, errW_some] <;> rfl) | (simp [*, errW_none, errW_some] <;> rfl), bel HB⟩

end Go.Proofs.Ytamimodkcbbpmaa.Pr
end
