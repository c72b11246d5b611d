/- XF XG XH XI XK XL XValid: a part of the proof of the row of DerivationValidMatchesReference; no conditions. -/
import Derived.Test.YtamimodkcbbpmaaG2
section
/- The priority queue: what Pop does to the queue in memory. -/
namespace Go.Proofs.Ytamimodkcbbpmaa.Pr
open Go.RowKit Go.Proofs.YtamimodkcbbpmaaW.PrintWords Go.Proofs.YtamimodkcbbpmaaW.PrintLast Go.Proofs.YtamimodkcbbpmaaXW Go.Proofs.YtamimodkcbbpmaaXM
set_option linter.unusedVariables false
set_option linter.unusedSimpArgs false

set_option maxHeartbeats 4000000 in
theorem down_empty (base q : Nat) (nx ck : Int) (w : World) (h : QS base w q [] nx ck) :
    Calls Try.prog 112 #[.pointer (some ⟨q, 0, none⟩), .int .i64 0] w fun e w' => e = .returned (.tuple #[]) ∧ QS base w' q [] nx ck ∧ QF base q w w' := by
  go_enter Try.func112, Try.ntmps112
  go_wp2_with fail
  go_loopg [1] 1 (fun g v1 wr => v1 = .int .i64 0 ∧ Aside0 (QS base wr q [] nx ck) ∧ Aside0 (QF base q w wr))
  case atStart => exact ⟨rfl, ⟨h⟩, ⟨QF.refl _ _ _⟩⟩
  case round =>
    obtain ⟨rfl, HQ, HF⟩ := hrel
    clear h
    obtain ⟨wO, rfl⟩ : ∃ wO : World, wO = wr := ⟨_, rfl⟩
    obtain ⟨gO, rfl⟩ : ∃ gO : Nat, gO = gk := ⟨_, rfl⟩
    go_wp2_with fail
    go_loopg [4, 5] 1 (fun g v4 v5 wr => v4 = .int .i64 0 ∧ v5 = .int .i64 1 ∧ Aside0 (Below wO.heap.size wO wr))
    case atStart => exact ⟨rfl, by go_num, ⟨Below.refl _ _⟩⟩
    case round =>
      obtain ⟨rfl, rfl, HB⟩ := hrel
      have HQ1 := Aside0.mk (qs_below HQ.out HB.out)
      obtain ⟨A, c, hq1⟩ := qs_len HQ1.out
      have hF1 := Aside0.mk (HF.out.trans (QF.of_below HB.out (qs_base HQ.out) (qs_lt HQ.out)))
      go_wp2
      refine bodyPost_ret (results_none (by rfl) _ _ _) rfl ?_
      exact ⟨rfl, HQ1.out, hF1.out⟩

def popE (es : List S139) : List S139 := downE (es.length - 1) ((swpE es 0 ((es.length - 1 : Nat) : Int)).take (es.length - 1)) 0

theorem down_any (base q : Nat) (es : List S139) (nx ck : Int) (w : World) (h : QS base w q es nx ck) (hsz : es.length ≤ 1000000) :
    Calls Try.prog 112 #[.pointer (some ⟨q, 0, none⟩), .int .i64 0] w fun e w' => e = .returned (.tuple #[]) ∧ QS base w' q (downE es.length es 0) nx ck ∧ QF base q w w' := by
  cases es with
  | nil => exact down_empty base q nx ck w h
  | cons e es => exact down_calls base q (e :: es) nx ck 0 w h (by simp) hsz

theorem qs_set {base q k j t : Nat} {w : World} {es : List S139} {nx ck : Int} {cs : Array Value} (h : QS base w q es nx ck) (hk : w.heap[k]? = some (.cells cs t (0, 0))) (h1 : t ≠ 135) (h2 : t ≠ 139) (u : Value) : QS base (w.setCell ⟨k, j, none⟩ u) q es nx ck := by
  obtain ⟨v, bm, ents, mc, hq, hbq, hR, hm, hbm, hks⟩ := h
  have e1 : q ≠ k := by rintro rfl; rw [hq] at hk; injection hk with hk; injection hk with _ hk; exact h1 hk.symm
  have e2 : bm ≠ k := by rintro rfl; rw [hm] at hk; cases hk
  exact ⟨v, bm, ents, mc, (Below.heap_setCell w ⟨k, j, none⟩ u q e1).trans hq, hbq, Kd.R_set hR hk (fun x hx => by intro e; have hx' : x ∈ [139] := hx; rw [List.mem_singleton] at hx'; exact h2 (e.symm.trans hx')) j u, (Below.heap_setCell w ⟨k, j, none⟩ u bm e2).trans hm, hbm, hks⟩
theorem QF0.set {base k j : Nat} {w w1 : World} (h : QF0 base w w1) (hk : w.heap.size ≤ k) (hb : base ≤ w.heap.size) (u : Value) : QF0 base w (w1.setCell ⟨k, j, none⟩ u) :=
  ⟨h.below.setCell (Nat.le_trans hb hk) u, fun i cs t fr h1 h2 h3 => (Below.heap_setCell w1 ⟨k, j, none⟩ u i (by have := blk_lt h1; simp; omega)).trans (h.keep i cs t fr h1 h2 h3)⟩
theorem size_alloc (w : World) (o : Obj) : (w.alloc o).heap.size = w.heap.size + 1 := by show (w.heap.push o).size = _; simp

set_option maxHeartbeats 4000000 in
theorem pop_empty (base q : Nat) (nx ck : Int) (w : World) (h : QS base w q [] nx ck) :
    Calls Try.prog 105 #[.pointer (some ⟨q, 0, none⟩)] w fun e w' => e = .returned (.tuple #[.agg #[.int .i64 0, .int .i64 0, .int .i64 0], .bool false]) ∧ QS base w' q [] nx ck ∧ QF0 base w w' := by
  go_enter Try.func105, Try.ntmps105
  have hB0 : Below w.heap.size w (w.alloc (.cells #[.int .i64 0, .int .i64 0, .int .i64 0] 124)) := below_alloc (Below.refl _ _) _
  go_upto_region 1 with (fail)
  have HQ1 := Aside0.mk (qs_below h hB0)
  have hx1 := heap_alloc_new w (.cells #[.int .i64 0, .int .i64 0, .int .i64 0] 124)
  obtain ⟨A, c, hq1⟩ := qs_len HQ1.out
  have HB := Aside0.mk hB0
  have hbs := qs_base h
  clear hB0 h
  generalize w.alloc (.cells #[.int .i64 0, .int .i64 0, .int .i64 0] 124) = wA at *
  have hx2 : ∀ o, (wA.alloc o).heap[w.heap.size]? = some (.cells #[.int .i64 0, .int .i64 0, .int .i64 0] 124 (0, 0)) := fun o => blk_below hx1 (below_alloc (Below.refl _ _) o)
  have x0 : ∀ o, (wA.alloc o).cell? ⟨w.heap.size, 0, none⟩ = some (.int .i64 0) := fun o => (blk_cell (hx2 o) 0).trans rfl
  have x1 : ∀ o, (wA.alloc o).cell? ⟨w.heap.size, 1, none⟩ = some (.int .i64 0) := fun o => (blk_cell (hx2 o) 1).trans rfl
  have x2 : ∀ o, (wA.alloc o).cell? ⟨w.heap.size, 2, none⟩ = some (.int .i64 0) := fun o => (blk_cell (hx2 o) 2).trans rfl
  have f0 : ∀ o, (wA.alloc o).frozen? ⟨w.heap.size, 0, none⟩ = false := fun o => blk_frozen (hx2 o) 0
  have f1 : ∀ o, (wA.alloc o).frozen? ⟨w.heap.size, 1, none⟩ = false := fun o => blk_frozen (hx2 o) 1
  have f2 : ∀ o, (wA.alloc o).frozen? ⟨w.heap.size, 2, none⟩ = false := fun o => blk_frozen (hx2 o) 2
  have HX2 := Aside0.mk hx2
  clear hx2 hx1
  go_wp2
  have h3 := blk_set (blk_set (blk_set (HX2.out (.cells #[.int .i64 0, .int .i64 0, .int .i64 0] 124)) 0 (.int .i64 0)) 1 (.int .i64 0)) 2 (.int .i64 0)
  refine bodyPost_ret (results_ct rfl _ _ w.heap.size 124 #[.int .i64 0, .int .i64 0, .int .i64 0] (0, 0) _ rfl (by simpa using h3) Try.underlying124 rfl (by kernel_rfl)) rfl ?_
  refine ⟨rfl, ?_, ?_⟩
  · have h0 := HX2.out (.cells #[.int .i64 0, .int .i64 0, .int .i64 0] 124)
    exact qs_set (qs_set (qs_set (qs_below HQ1.out (below_alloc (Below.refl _ _) _)) h0 (by decide) (by decide) _) (blk_set h0 0 _) (by decide) (by decide) _) (blk_set (blk_set h0 0 _) 1 _) (by decide) (by decide) _
  · exact (((QF0.of_below (below_alloc HB.out _) hbs).set (Nat.le_refl _) hbs _).set (Nat.le_refl _) hbs _).set (Nat.le_refl _) hbs _

def R105.T3 : Bool × List (List Nat × List Nat) := (true, [([], []), ([0], [0]), ([1], [1]), ([2], [2]), ([3], [3]), ([4], [4]), ([], []), ([6], [6]), ([7], [7]), ([8], [8]), ([9], [9]), ([10], [10]), ([], []), ([12, 5, 0, 1, 2, 3, 4, 5, 12], [5, 12]), ([11, 13, 0, 1, 2, 3, 4, 5, 6, 7, 8, 9, 10, 11, 12, 13], [11])])
def R105.B3 : List Nat := [0, 1, 3, 7, 15, 31, 0, 64, 192, 448, 960, 1984, 0, 4159, 16383]
theorem R105.tab3 : rtab .any (opsOf Try.f105 3) = R105.T3 := by kernel_rfl
theorem R105.bits3 : waitsOk R105.T3.2 R105.B3 = true := by kernel_rfl
def R105.T6 : Bool × List (List Nat × List Nat) := (true, [([], []), ([0], [0]), ([1], [1]), ([2], [2]), ([], []), ([4], [4]), ([3, 5], [3, 5])])
def R105.B6 : List Nat := [0, 1, 3, 7, 0, 16, 63]
theorem R105.tab6 : rtab .any (opsOf Try.f105 6) = R105.T6 := by kernel_rfl
theorem R105.bits6 : waitsOk R105.T6.2 R105.B6 = true := by kernel_rfl
set_option maxRecDepth 100000 in
set_option maxHeartbeats 8000000 in
theorem pop_some (base q : Nat) (e0 : S139) (es : List S139) (nx ck : Int) (w : World) (h : QS base w q (e0 :: es) nx ck) (hsz : es.length < 1000000) :
    Calls Try.prog 105 #[.pointer (some ⟨q, 0, none⟩)] w fun e w' => e = .returned (.tuple #[.agg #[.int .i64 e0.f0.f0, .int .i64 e0.f0.f1.f0, .int .i64 e0.f0.f1.f1], .bool true]) ∧
      QS base w' q (popE (e0 :: es)) nx ck ∧ QF0 base w w' := by
  go_enter Try.func105, Try.ntmps105
  have hB0 : Below w.heap.size w (w.alloc (.cells #[.int .i64 0, .int .i64 0, .int .i64 0] 124)) := below_alloc (Below.refl _ _) _
  go_upto_region 1 with (fail)
  have HQ1 := Aside0.mk (qs_below h hB0)
  have HX1 := Aside0.mk (heap_alloc_new w (.cells #[.int .i64 0, .int .i64 0, .int .i64 0] 124))
  have HB1 := Aside0.mk hB0
  have hbs := qs_base h
  clear hB0 h
  generalize w.alloc (.cells #[.int .i64 0, .int .i64 0, .int .i64 0] 124) = wA at *
  obtain ⟨v, bm, ents, mc, hq, hbq, hR, hm, hbm, hk⟩ := HQ1.out
  obtain ⟨g, cap, rfl, hbg, hgl, cells, hgc⟩ := Kd.R_form hR (by simp)
  have hlen : ((e0 :: es).length) = es.length + 1 := rfl
  rw [hlen] at hq hR
  have q1 : wA.cell? ⟨q, 1, none⟩ = some (.slice (some ⟨g, 0, none⟩) (es.length + 1) cap) := (blk_cell hq 1).trans rfl
  have hne0 : (((es.length + 1 : Nat) : Int) == 0) = false := by simp; omega
  obtain ⟨c0, c1, c2, c3, c4⟩ := ent_cells hR 0 (by omega) (by simp only [List.length_cons]; omega)
  rw [show rd_T139 (e0 :: es) 0 = e0 from rfl] at c0 c1 c2 c3 c4
  simp only [Int.toNat_zero, Nat.zero_mul, Nat.zero_add] at c0 c1 c2 c3 c4
  go_upto_region 3 with (fail)
  refine start_ (n := 15) (S := fun w' => w'.cell? ⟨q, 1, none⟩ = some (.slice (some ⟨g, 0, none⟩) (es.length + 1) cap) ∧ w'.cell? ⟨g, 0, none⟩ = some (.int .i64 e0.f0.f0) ∧ w'.cell? ⟨g, 1, none⟩ = some (.int .i64 e0.f0.f1.f0) ∧ w'.cell? ⟨g, 2, none⟩ = some (.int .i64 e0.f0.f1.f1) ∧ w'.cell? ⟨g, 3, none⟩ = some (.int .i64 e0.f1) ∧ w'.cell? ⟨g, 4, none⟩ = some (.int .i64 e0.f2)) (ds := []) #[false, false, false, false, false, false, false, false, false, false, false, false, false, false, false] (by kernel_rfl) rfl rfl ⟨q1, c0, c1, c2, c3, c4⟩ (fun hHeld => ?_)
  refine with_tabW R105.tab3 R105.bits3 (fun HT_ HW_ => ?_)
  refine bulk_ (fuel := 3) [(0, 15), (1, 16), (2, 17), (3, 18), (4, 19), (5, 20), (6, 21), (7, 22), (8, 23), (9, 24), (10, 25), (11, 26)] #[true, true, true, true, true, true, true, true, true, true, true, true, false, false, false] (bulkB_of HT_.out HW_.out _ _ _ (by kernel_rfl)) rfl (fun _ _ _ _ _ h => h) hHeld (a' := ?_) ?_ ?_
  rotate_left
  · iterate 12
      refine chain_cons (v := ?_) (a1 := ?_) rfl rfl (Or.inl ⟨by rfl, ?_⟩) ?_ ?_
      rotate_left 2
      · rintro w' ⟨s0, s1, s2, s3, s4, s5⟩
        go_simp
        with_reducible rfl
      · simp only [Act.put, List.setIfInBounds_toArray, List.set_cons_zero, List.set_cons_succ, i64_w, i32_w]
        rfl
    exact chain_nil
  refine one_ (i := 12) (N := some 4) #[true, true, true, true, true, true, true, true, true, true, true, true, true, false, false] rfl rfl (one_of HT_.out (by kernel_rfl)) (by decide) (fun K hK => ?_)
  refine value_ (w1 := wA.drew.alloc (.cells #[.int .i64 0, .int .i64 0, .int .i64 0, .int .i64 0, .int .i64 0] 139)) (v := .pointer (some ⟨wA.heap.size, 0, none⟩)) (by rfl) rfl ?_ ?_
  · first | (go_simp; done) | (go_simp; rfl)
  refine hK.out _ _ ⟨old1 hHeld.1 _, old1 hHeld.2.1 _, old1 hHeld.2.2.1 _, old1 hHeld.2.2.2.1 _, old1 hHeld.2.2.2.2.1 _, old1 hHeld.2.2.2.2.2 _⟩ (fun hHeld => ?_)
  clear hK K
  refine norm_ (a' := ?_) ?_ ?_
  rotate_left
  · show Act.put _ (some 4) _ = _
    simp only [Act.put, List.setIfInBounds_toArray, List.set_cons_zero, List.set_cons_succ, i64_w, i32_w]
    rfl
  refine one_ (i := 13) (N := none) #[true, true, true, true, true, true, true, true, true, true, true, true, true, true, false] rfl rfl (one_of HT_.out (by kernel_rfl)) (by decide) (fun K hK => ?_)
  refine skip_ (w1 := wA.drew.alloc (.cells #[.int .i64 e0.f0.f0, .int .i64 e0.f0.f1.f0, .int .i64 e0.f0.f1.f1, .int .i64 e0.f1, .int .i64 e0.f2] 139)) (by rfl) rfl ?_ ?_
  · first | (go_simp; done) | (go_simp; rfl)
  refine hK.out _ _ ⟨old1 q1 _, old1 c0 _, old1 c1 _, old1 c2 _, old1 c3 _, old1 c4 _⟩ (fun hHeld => ?_)
  clear hK K
  refine bulk_ (fuel := 0) [(14, 5)] #[true, true, true, true, true, true, true, true, true, true, true, true, true, true, true] (bulkB_of HT_.out HW_.out _ _ _ (by kernel_rfl)) rfl (fun _ _ _ _ _ h => h) hHeld (a' := ?_) ?_ ?_
  rotate_left
  · iterate 1
      refine chain_cons (v := ?_) (a1 := ?_) rfl rfl (Or.inl ⟨by rfl, ?_⟩) ?_ ?_
      rotate_left 2
      · rintro w' ⟨s0, s1, s2, s3, s4, s5⟩
        go_simp
        with_reducible rfl
      · simp only [Act.put, List.setIfInBounds_toArray, List.set_cons_zero, List.set_cons_succ, i64_w, i32_w]
        rfl
    exact chain_nil
  refine done_ (done_of HT_.out (by kernel_rfl)) ?_
  have HQB := Aside0.mk (qs_below (qs_drew HQ1.out) (below_alloc (Below.refl _ _) (.cells #[.int .i64 e0.f0.f0, .int .i64 e0.f0.f1.f0, .int .i64 e0.f0.f1.f1, .int .i64 e0.f1, .int .i64 e0.f2] 139)))
  have HbB : Aside0 ((wA.drew.alloc (.cells #[.int .i64 e0.f0.f0, .int .i64 e0.f0.f1.f0, .int .i64 e0.f0.f1.f1, .int .i64 e0.f1, .int .i64 e0.f2] 139)).heap[wA.heap.size]? = some (.cells #[.int .i64 e0.f0.f0, .int .i64 e0.f0.f1.f0, .int .i64 e0.f0.f1.f1, .int .i64 e0.f1, .int .i64 e0.f2] 139 (0, 0))) := ⟨heap_alloc_new wA.drew _⟩
  have HXB := Aside0.mk (blk_below (w := wA.drew) HX1.out (below_alloc (Below.refl _ _) (.cells #[.int .i64 e0.f0.f0, .int .i64 e0.f0.f1.f0, .int .i64 e0.f0.f1.f1, .int .i64 e0.f1, .int .i64 e0.f2] 139)))
  have HFB := Aside0.mk (QF0.of_below (below_alloc (below_drew HB1.out) (.cells #[.int .i64 e0.f0.f0, .int .i64 e0.f0.f1.f0, .int .i64 e0.f0.f1.f1, .int .i64 e0.f1, .int .i64 e0.f2] 139)) hbs)
  have hrB : rowB (wA.drew.alloc (.cells #[.int .i64 e0.f0.f0, .int .i64 e0.f0.f1.f0, .int .i64 e0.f0.f1.f1, .int .i64 e0.f1, .int .i64 e0.f2] 139)) q = some g := rowB_eq (blk_below (w := wA.drew) hq (below_alloc (Below.refl _ _) _)) rfl
  have HnB : Aside0 (some wA.heap.size ≠ rowB (wA.drew.alloc (.cells #[.int .i64 e0.f0.f0, .int .i64 e0.f0.f1.f0, .int .i64 e0.f0.f1.f1, .int .i64 e0.f1, .int .i64 e0.f2] 139)) q) := ⟨by rw [hrB]; intro e; injection e with e; omega⟩
  have hws : w.heap.size < wA.heap.size := blk_lt HX1.out
  clear HQ1 HX1 HB1 hq hR hm hk hgc hHeld q1 c0 c1 c2 c3 c4 hrB hbg hgl hne0
  generalize (wA.drew.alloc (.cells #[.int .i64 e0.f0.f0, .int .i64 e0.f0.f1.f0, .int .i64 e0.f0.f1.f1, .int .i64 e0.f1, .int .i64 e0.f2] 139)) = wB at *
  generalize wA.heap.size = b at *
  have hwr : wrap64 (es.length : Int) = (es.length : Int) := by unfold wrap64; omega
  rw [hwr]
  go_wp2_with (first | (go_at_call 111; refine (swap_calls base q (e0 :: es) nx ck 0 (es.length : Int) wB HQB.out (by omega) (by simp only [List.length_cons]; omega) (by omega) (by simp only [List.length_cons]; omega)).mono ?_; rintro e w4 ⟨rfl, hQ4, hF4⟩; obtain ⟨v4, bm4, ents4, mc4, hq4, hbq4, hR4, hm4, hbm4, hk4⟩ := hQ4; obtain ⟨g4, cap4, rfl, hbg4, hgl4, cells4, hgc4⟩ := Kd.R_form hR4 (by rw [swpE_length]; simp only [List.length_cons]; omega); rw [swpE_length, hlen] at hq4 hR4; have q41 : w4.cell? ⟨q, 1, none⟩ = some (.slice (some ⟨g4, 0, none⟩) (es.length + 1) cap4) := (blk_cell hq4 1).trans rfl; have hcap : es.length + 1 ≤ cap4 := (Kd.R_reads' hR4).2.1; have q4f := blk_frozen hq4 1; have HB4 := Aside0.mk (hF4.rows _ _ _ HbB.out HnB.out); have HX4 := Aside0.mk (hF4.f0.keep _ _ _ _ HXB.out (by decide) (by decide)); have HNB : some b ≠ (Value.slice (some ⟨g4, 0, none⟩) es.length cap4).ownBlock := fun e => HnB.out (e.trans ((rowB_eq hq4 rfl).symm.trans hF4.row)); have HF4 := Aside0.mk (HFB.out.trans hF4.f0); have HQ4 := Aside0.mk hq4; have HR4 := Aside0.mk hR4; have HM4 := Aside0.mk hm4; have HK4 := Aside0.mk hk4; clear hq4 hR4 hF4 hm4 hk4 HQB HbB HXB HFB HnB hgc4))
  have hx4 := HX4.out
  have hb4 := HB4.out
  have hq4 := HQ4.out
  have hm4 := HM4.out
  have hbq5 : b ≠ q := blk_ne hb4 hq4 (by decide)
  have hxq5 : w.heap.size ≠ q := blk_ne hx4 hq4 (by decide)
  have hmq5 : bm4 ≠ q := by rintro rfl; rw [hq4] at hm4; cases hm4
  have hR5 := Aside0.mk (Kd.R_set (Kd.R_take HR4.out (m := es.length) (by rw [swpE_length]; simp only [List.length_cons]; omega)) hq4 (by decide) 1 (.slice (some ⟨g4, 0, none⟩) es.length cap4))
  have hq5 := blk_set hq4 1 (.slice (some ⟨g4, 0, none⟩) es.length cap4)
  have hb5 := (Below.heap_setCell w4 ⟨q, 1, none⟩ (.slice (some ⟨g4, 0, none⟩) es.length cap4) b hbq5).trans hb4
  have hx5 := (Below.heap_setCell w4 ⟨q, 1, none⟩ (.slice (some ⟨g4, 0, none⟩) es.length cap4) w.heap.size hxq5).trans hx4
  have hm5 := (Below.heap_setCell w4 ⟨q, 1, none⟩ (.slice (some ⟨g4, 0, none⟩) es.length cap4) bm4 hmq5).trans hm4
  have hF5 : QF0 base w (w4.setCell ⟨q, 1, none⟩ (.slice (some ⟨g4, 0, none⟩) es.length cap4)) := by
    refine ⟨HF4.out.below.setCell hbq _, fun k cs t fr h1 h2 h3 => ?_⟩
    have hk := HF4.out.keep k cs t fr h1 h2 h3
    have hkq : k ≠ q := by rintro rfl; rw [hq4] at hk; injection hk with hk; injection hk with _ hk; exact h2 hk.symm
    exact (Below.heap_setCell _ _ _ _ hkq).trans hk
  have HF5 := Aside0.mk hF5
  clear hq4 hm4 hx4 hb4 HB4 HX4 HF4 HQ4 HR4 HM4 hF5 q41 q4f hbq5 hxq5 hmq5
  generalize (w4.setCell ⟨q, 1, none⟩ (.slice (some ⟨g4, 0, none⟩) es.length cap4)) = w5 at *
  have hq5' : w5.heap[q]? = some (.cells #[lessV, .slice (some ⟨g4, 0, none⟩) es.length cap4, .map (some bm4), .int .i64 nx, .int .i64 ck] 135 (0, 0)) := by simpa using hq5
  clear hq5
  have q26 : w5.drew.cell? ⟨q, 2, none⟩ = some (.map (some bm4)) := by show w5.cell? ⟨q, 2, none⟩ = _; rw [blk_cell hq5' 2]; rfl
  have b16 : w5.drew.cell? ⟨b, 3, none⟩ = some (.int .i64 e0.f1) := by show w5.cell? ⟨b, 3, none⟩ = _; rw [blk_cell hb5 3]; rfl
  have hmD : w5.drew.heap[bm4]? = some (.map ents4 mc4) := hm5
  obtain ⟨W6, es6, c6, hdel, hm6, hk6, hf6⟩ := delete_w hmD HK4.out e0.f1 0
  have hq6 := hf6.blk hmD (show w5.drew.heap[q]? = _ from hq5')
  have hb6 := hf6.blk hmD (show w5.drew.heap[b]? = _ from hb5)
  have hx6 := hf6.blk hmD (show w5.drew.heap[w.heap.size]? = _ from hx5)
  have HR6 := Aside0.mk (mf_row hf6 hmD (Kd.R_drew hR5.out))
  have HF6 := Aside0.mk (HF5.out.drew.trans (mf_qf hf6 hmD hbm4))
  have HQ6 : Aside0 (QS base W6 q ((swpE (e0 :: es) 0 (es.length : Int)).take es.length) nx ck) := ⟨⟨_, bm4, es6, c6, hq6, hbq, HR6.out, hm6, hbm4, hk6⟩⟩
  have hnr : some b ≠ (Value.slice (some ⟨g4, 0, none⟩) es.length cap4).ownBlock := HNB
  have Hb6 := Aside0.mk hb6
  have Hx6 := Aside0.mk hx6
  go_upto_region 6 with (fail)
  refine start_ (n := 7) (S := fun w' => w'.cell? ⟨q, 2, none⟩ = some (.map (some bm4)) ∧ w'.cell? ⟨b, 3, none⟩ = some (.int .i64 e0.f1)) (ds := []) #[false, false, false, false, false, false, false] (by kernel_rfl) rfl rfl ⟨q26, b16⟩ (fun hHeld => ?_)
  refine with_tabW R105.tab6 R105.bits6 (fun HT_ HW_ => ?_)
  refine bulk_ (fuel := 1) [(0, 39), (1, 40), (2, 41), (3, 42), (4, 43), (5, 44)] #[true, true, true, true, true, true, false] (bulkB_of HT_.out HW_.out _ _ _ (by kernel_rfl)) rfl (fun _ _ _ _ _ h => h) hHeld (a' := ?_) ?_ ?_
  rotate_left
  · iterate 6
      refine chain_cons (v := ?_) (a1 := ?_) rfl rfl (Or.inl ⟨by rfl, ?_⟩) ?_ ?_
      rotate_left 2
      · rintro w' ⟨s0, s1⟩
        go_simp
        with_reducible rfl
      · simp only [Act.put, List.setIfInBounds_toArray, List.set_cons_zero, List.set_cons_succ, i64_w, i32_w]
        rfl
    exact chain_nil
  refine one_ (i := 6) (N := none) #[true, true, true, true, true, true, true] rfl rfl (one_of HT_.out (by kernel_rfl)) (by decide) (fun K hK => ?_)
  refine value_ (w1 := W6) (v := .tuple #[]) (by rfl) rfl ?_ ?_
  · unfold execOp
    simp [resolve, invoke, Go.builtin, Act.eval, hdel]
  refine hK.out _ _ ⟨hf6.cell hmD hHeld.1, hf6.cell hmD hHeld.2⟩ (fun hHeld => ?_)
  clear hK K
  refine done_ (done_of HT_.out (by kernel_rfl)) ?_
  have hr6 := rowB_eq hq6 rfl
  have Hr6 : Aside0 (some b ≠ rowB W6 q) := ⟨by rw [hr6]; exact hnr⟩
  clear hq5' hb5 hx5 hm5 hR5 HF5 hq6 hb6 hx6 hm6 hk6 hf6 HR6 hnr HNB q26 b16 hmD hdel hr6 HK4 hHeld
  have hlt : ((swpE (e0 :: es) 0 (es.length : Int)).take es.length).length = es.length := by rw [List.length_take, swpE_length]; simp only [List.length_cons]; omega
  go_wp2_with (first | (go_at_call 112; refine (down_any base q _ nx ck W6 HQ6.out (by omega)).mono ?_; rintro e w7 ⟨rfl, hQ7, hF7⟩; have HQ7 := Aside0.mk hQ7; have HF7 := Aside0.mk (HF6.out.trans hF7.f0); have hb7 := hF7.rows _ _ _ Hb6.out Hr6.out; have hx7 := hF7.f0.keep _ _ _ _ Hx6.out (by decide) (by decide); have hbx7 : b ≠ w.heap.size := blk_ne hb7 hx7 (by decide); have b0 : w7.cell? ⟨b, 0, none⟩ = some (.int .i64 e0.f0.f0) := (blk_cell hb7 0).trans rfl; have b1 : w7.cell? ⟨b, 1, none⟩ = some (.int .i64 e0.f0.f1.f0) := (blk_cell hb7 1).trans rfl; have b2 : w7.cell? ⟨b, 2, none⟩ = some (.int .i64 e0.f0.f1.f1) := (blk_cell hb7 2).trans rfl; have x0 : w7.cell? ⟨w.heap.size, 0, none⟩ = some (.int .i64 0) := (blk_cell hx7 0).trans rfl; have x1 : w7.cell? ⟨w.heap.size, 1, none⟩ = some (.int .i64 0) := (blk_cell hx7 1).trans rfl; have x2 : w7.cell? ⟨w.heap.size, 2, none⟩ = some (.int .i64 0) := (blk_cell hx7 2).trans rfl; have f0 := blk_frozen hx7 0; have f1 := blk_frozen hx7 1; have f2 := blk_frozen hx7 2; have HX7 := Aside0.mk hx7; clear hQ7 hF7 hb7 hx7 HQ6 HF6 Hb6 Hx6 Hr6))
  have h3 := blk_set (blk_set (blk_set HX7.out 0 (.int .i64 e0.f0.f0)) 1 (.int .i64 e0.f0.f1.f0)) 2 (.int .i64 e0.f0.f1.f1)
  refine bodyPost_ret (results_ct rfl _ _ w.heap.size 124 #[.int .i64 e0.f0.f0, .int .i64 e0.f0.f1.f0, .int .i64 e0.f0.f1.f1] (0, 0) _ rfl (by simpa using h3) Try.underlying124 rfl (by kernel_rfl)) rfl ?_
  refine ⟨rfl, ?_, ?_⟩
  · have h := HQ7.out
    rw [hlt] at h
    exact qs_set (qs_set (qs_set h HX7.out (by decide) (by decide) _) (blk_set HX7.out 0 _) (by decide) (by decide) _) (blk_set (blk_set HX7.out 0 _) 1 _) (by decide) (by decide) _
  · exact ((HF7.out.set (Nat.le_refl _) hbs _).set (Nat.le_refl _) hbs _).set (Nat.le_refl _) hbs _
end Go.Proofs.Ytamimodkcbbpmaa.Pr
end
section
/- Knuth's solver: the value of a hyperedge by the values found so far. -/
namespace Go.Proofs.Ytamimodkcbbpmaa.Pr
open Go.RowKit Go.Proofs.YtamimodkcbbpmaaW.PrintWords Go.Proofs.YtamimodkcbbpmaaW.PrintLast Go.Proofs.YtamimodkcbbpmaaXW Go.Proofs.YtamimodkcbbpmaaXM
set_option linter.unusedVariables false
set_option linter.unusedSimpArgs false

/-- The value of a hyperedge by its tails' values. -/
def stepV (a b : S34) : S34 := ⟨mn (wrap64 (a.f0 + b.f0)) 1099511627776, mn (wrap64 (a.f1 + b.f1)) 1099511627776⟩
def endV (a : S34) : S34 := if a.f0 = 1099511627776 then ⟨1099511627776, 0⟩ else a
def combV (cost : Int) (l : List S34) : S34 := endV (l.foldl stepV ⟨mn cost 1099511627776, 1⟩)

theorem knuth_Combine_l0 (l : List S34) : ∀ (k i : Nat) (a : S34), i ≤ l.length → l.length < i + k → l.length ≤ 1000000 → knuth_Combine.l0 k l (l.length : Int) (i : Int) a.f0 a.f1 = some ((endV ((l.drop i).foldl stepV a)).f0, (endV ((l.drop i).foldl stepV a)).f1)
  | 0, i, a, h1, h2, _ => by omega
  | k + 1, i, a, h1, h2, h3 => by
    unfold knuth_Combine.l0
    by_cases h : i < l.length
    · rw [if_pos (by omega), if_pos (by omega), if_pos (by omega)]
      have hw : wrap64 ((i : Int) + 1) = ((i + 1 : Nat) : Int) := by unfold wrap64; omega
      have hd : l.drop i = rd_T34 l (i : Int) :: l.drop (i + 1) := by
        rw [List.drop_eq_getElem_cons h]
        simp [rd_T34, List.getD_eq_getElem?_getD, List.getElem?_eq_getElem h]
      rw [hw, hd, List.foldl_cons]
      exact knuth_Combine_l0 l k (i + 1) (stepV a (rd_T34 l (i : Int))) (by omega) (by omega) h3
    · have hi : i = l.length := by omega
      subst hi
      rw [if_neg (by omega), List.drop_length, List.foldl_nil]
      unfold endV
      split <;> rfl
theorem knuth_Combine_eq (cost : Int) (l : List S34) (h : l.length ≤ 1000000) : knuth_Combine.f (l.length + 1) cost l = some ((combV cost l).f0, (combV cost l).f1) := by
  have := knuth_Combine_l0 l (l.length + 1) 0 ⟨mn cost 1099511627776, 1⟩ (by omega) (by omega) h
  simpa [knuth_Combine.f, combV] using this

section
variable {W w1 : World} {base g n cap : Nat} {ok : Nat → Prop}
theorem R34_set {xs : List S34} (h : Kd.R k34 34 W base ok (.slice (some ⟨g, 0, none⟩) n cap) xs) (i : Int) (h0 : 0 ≤ i) (h1 : i < n) (x : S34) :
    Kd.R k34 34 ((W.setCell ⟨g, i.toNat * 2, none⟩ (.int .i64 x.f0)).setCell ⟨g, i.toNat * 2 + 1, none⟩ (.int .i64 x.f1)) base ok (.slice (some ⟨g, 0, none⟩) n cap) (xs.set i.toNat x) ∧
      W.grownBy ((W.setCell ⟨g, i.toNat * 2, none⟩ (.int .i64 x.f0)).setCell ⟨g, i.toNat * 2 + 1, none⟩ (.int .i64 x.f1)) (some g) := by
  obtain ⟨c, hcl, hM, hcc, hfz⟩ := Kd.R_elem h z34 i h0 h1
  have hs : k34.sz = 2 := rfl
  rw [hs] at hcl
  exact Kd.R_seg (d := k34) h i h0 h1 (c := c) (seg := [.int .i64 x.f0, .int .i64 x.f1]) (j := 0) (by rw [hcl]; rfl) (by simpa [hs] using hcc) (by simp [hs]) (x' := x) (okp := fun k => ok k ∧ k ≠ g) (by
    have e : c.drop 2 = [] := List.drop_eq_nil_of_le (by omega)
    simpa [e] using k34_mkM W base (fun k => ok k ∧ k ≠ g) x) (fun k hk => hk)
theorem R34_cells {xs : List S34} (h : Kd.R k34 34 W base ok (.slice (some ⟨g, 0, none⟩) n cap) xs) (i : Int) (h0 : 0 ≤ i) (h1 : i < n) :
    W.cell? ⟨g, i.toNat * 2, none⟩ = some (.int .i64 (rd_T34 xs i).f0) ∧ W.cell? ⟨g, i.toNat * 2 + 1, none⟩ = some (.int .i64 (rd_T34 xs i).f1) ∧ W.frozen? ⟨g, i.toNat * 2, none⟩ = false ∧ W.frozen? ⟨g, i.toNat * 2 + 1, none⟩ = false := by
  obtain ⟨hn, hc, hC⟩ := Kd.R_reads' h
  obtain ⟨ad, e, c0, c1⟩ := at_T34 hC i h0 (by omega)
  obtain rfl : (⟨g, 0, none⟩ : Addr) = ad := by injection e
  rw [add_plain] at c0 c1
  obtain ⟨c, hcl, hM, hcc, hfz⟩ := Kd.R_elem h z34 i h0 h1
  exact ⟨c0, c1, hfz 0, hfz 1⟩
end
theorem R_formb {α : Type} {d : Kd α} {e base b : Nat} {w : World} {ok : Nat → Prop} {v : Value} {xs : List α} (h : d.R e w base ok v xs) (hb : v.ownBlock = some b) : ∃ cap, v = .slice (some ⟨b, 0, none⟩) xs.length cap := by
  obtain ⟨_, inner, ho, hr⟩ := h
  rcases ho.2 with ⟨rfl, _⟩ | ⟨g, cap, cur, rfl, _⟩
  · simp [Value.ownBlock] at hb
  · obtain rfl : g = b := by simpa [Value.ownBlock] using hb
    exact ⟨cap, rfl⟩

def tailV (vs : List S34) (l : List Int) : List S34 := l.map (rd_T34 vs)

theorem int_at {k : IntKind} {w : World} {A : Option Addr} {n : Nat} {xs : List Int} (h : Kd.C (Kd.int k) w A n xs) (i : Nat) (hi : i < n) : ∃ ad, A = some ad ∧ w.cell? (ad.add i) = some (.int k (xs.getD i 0)) := by
  obtain ⟨ad, c, e, _, hK, hc0⟩ := Kd.C_get h 0 (i : Int) (by omega) (by omega)
  obtain rfl : c = [.int k (xs.getD i 0)] := hK
  refine ⟨ad, e, ?_⟩
  have := hc0 0 _ rfl
  simpa [Kd.int, Kd.scalar] using this
/-- A row that is filled from the left. -/
def fillV (vs : List S34) (l : List Int) (i : Nat) : List S34 := tailV vs (l.take i) ++ List.replicate (l.length - i) z34
theorem fillV_set (vs : List S34) (l : List Int) (i : Nat) (hi : i < l.length) : (fillV vs l i).set i (rd_T34 vs (l.getD i 0)) = fillV vs l (i + 1) := by
  unfold fillV tailV
  have h1 : (List.map (rd_T34 vs) (l.take i)).length = i := by rw [List.length_map, List.length_take]; omega
  rw [List.set_append_right _ _ (by omega), h1, Nat.sub_self, show l.length - i = (l.length - (i + 1)) + 1 by omega, List.replicate_succ, List.set_cons_zero, List.take_succ_eq_append_getElem hi, List.map_append]
  simp [List.getD_eq_getElem?_getD, List.getElem?_eq_getElem hi]
theorem fillV_end (vs : List S34) (l : List Int) : fillV vs l l.length = tailV vs l := by simp [fillV]
theorem fillV_zero (vs : List S34) (l : List Int) : fillV vs l 0 = List.replicate l.length z34 := by simp [fillV, tailV]
theorem fillV_length (vs : List S34) (l : List Int) (i : Nat) (hi : i ≤ l.length) : (fillV vs l i).length = l.length := by simp [fillV, tailV]; omega

set_option maxRecDepth 100000 in
set_option maxHeartbeats 8000000 in
theorem combine_calls (s : Nat) (vs : List S34) (Av : Option Addr) (cv : Nat) (e : S54) (A1 : Option Addr) (c1 : Nat) (w : World) (hs : w.cell? ⟨s, 2, none⟩ = some (.slice Av vs.length cv)) (hv : Kd.C k34 w Av vs.length vs)
    (hC1 : Kd.C (Kd.int .i64) w A1 e.f1.length e.f1) (hr : ∀ t, t ∈ e.f1 → 0 ≤ t ∧ t < (vs.length : Int)) (hl : e.f1.length ≤ 1000000) :
    Calls Try.prog 107 #[.pointer (some ⟨s, 0, none⟩), .agg #[.int .i64 e.f0, .slice A1 e.f1.length c1, .int .i64 e.f2, .int .i64 e.f3.f0, .int .i64 e.f3.f1]] w fun x w' =>
      x = .returned (.agg #[.int .i64 (combV e.f2 (tailV vs e.f1)).f0, .int .i64 (combV e.f2 (tailV vs e.f1)).f1]) ∧ Below w.heap.size w w' := by
  go_enter Try.func107, Try.ntmps107
  go_upto_region 1 with (fail)
  have hB0 : Below w.heap.size w ((w.alloc (.cells #[.int .i64 e.f0, .slice A1 e.f1.length c1, .int .i64 e.f2, .int .i64 e.f3.f0, .int .i64 e.f3.f1] 54)).alloc (.cells #[.int .i64 0, .int .i64 0] 34)) := below_alloc (below_alloc (Below.refl _ _) _) _
  have hb0 := two_new0 w (.cells #[.int .i64 e.f0, .slice A1 e.f1.length c1, .int .i64 e.f2, .int .i64 e.f3.f0, .int .i64 e.f3.f1] 54) (.cells #[.int .i64 0, .int .i64 0] 34)
  have hx0 := two_new1 w (.cells #[.int .i64 e.f0, .slice A1 e.f1.length c1, .int .i64 e.f2, .int .i64 e.f3.f0, .int .i64 e.f3.f1] 54) (.cells #[.int .i64 0, .int .i64 0] 34)
  have hb1 : ((w.alloc (.cells #[.int .i64 e.f0, .slice A1 e.f1.length c1, .int .i64 e.f2, .int .i64 e.f3.f0, .int .i64 e.f3.f1] 54)).alloc (.cells #[.int .i64 0, .int .i64 0] 34)).heap[w.heap.size]? = some (.cells #[.int .i64 e.f0, .slice A1 e.f1.length c1, .int .i64 e.f2, .int .i64 e.f3.f0, .int .i64 e.f3.f1] 54 (0, 0)) := hb0
  have hx1 : ((w.alloc (.cells #[.int .i64 e.f0, .slice A1 e.f1.length c1, .int .i64 e.f2, .int .i64 e.f3.f0, .int .i64 e.f3.f1] 54)).alloc (.cells #[.int .i64 0, .int .i64 0] 34)).heap[w.heap.size + 1]? = some (.cells #[.int .i64 0, .int .i64 0] 34 (0, 0)) := hx0
  clear hb0 hx0
  generalize ((w.alloc (.cells #[.int .i64 e.f0, .slice A1 e.f1.length c1, .int .i64 e.f2, .int .i64 e.f3.f0, .int .i64 e.f3.f1] 54)).alloc (.cells #[.int .i64 0, .int .i64 0] 34)) = wA at *
  have HB := Aside0.mk hB0
  have HV := Aside0.mk hv
  have HC := Aside0.mk hC1
  have HR := Aside0.mk hr
  have hltA := blk_lt hx1
  have Hb := Aside0.mk hb1
  have Hx := Aside0.mk hx1
  have HS := Aside0.mk hs
  have b1 : wA.cell? ⟨w.heap.size, 1, none⟩ = some (.slice A1 e.f1.length c1) := (blk_cell hb1 1).trans rfl
  clear hB0 hb1 hx1 hv hC1 hr hs
  go_upto_region 2 with (first | ((with_reducible refine gate_dst (N := 11) rfl ?_); refine Kd.R_make k34 w.heap.size 34 rfl (N := 11) rfl 43 _ _ rfl (e.f1.length : Int) rfl rfl Try.underlying43 (.agg #[.int .i64 0, .int .i64 0]) 16 info34 rfl (by decide) (by omega) z34 (ok := fun _ => True) (okp := fun _ => True) (k34_mkM _ _ _ z34) (fun _ hk => hk) trivial (by omega) (by omega) HB.out HB.out.size ?_; intro v1 w2 hR2 hB2 hg2 hat2; rw [Int.toNat_natCast] at hR2; obtain ⟨bl, hbl, hlb⟩ := hat2; obtain ⟨cl, rfl⟩ := R_formb hR2 hbl; rw [List.length_replicate] at hR2; have HR2 := Aside0.mk hR2; have HB2 := Aside0.mk hB2; have Hb2 := Aside0.mk (blk_grown Hb.out hg2 (by simp)); have Hx2 := Aside0.mk (blk_grown Hx.out hg2 (by simp)); clear hR2 hB2 hg2 hbl b1 Hb Hx))
  have hwA : w.heap.size ≤ wA.heap.size := HB.out.size
  clear HB
  have b1 : w2.cell? ⟨w.heap.size, 1, none⟩ = some (.slice A1 e.f1.length c1) := (blk_cell Hb2.out 1).trans rfl
  rw [← fillV_zero vs e.f1] at HR2
  obtain ⟨wO, rfl⟩ : ∃ wO : World, wO = w2 := ⟨_, rfl⟩
  go_wp2_with fail
  go_loopg [15] (e.f1.length + 1) (fun g v15 wr => ∃ i : Nat, v15 = .int .i64 i ∧ Aside0 (i ≤ e.f1.length) ∧ Aside0 (e.f1.length - i < g) ∧ Aside0 (Kd.R k34 34 wr w.heap.size (fun _ => True) (.slice (some ⟨bl, 0, none⟩) e.f1.length cl) (fillV vs e.f1 i)) ∧ Aside0 (Below w.heap.size w wr) ∧
    Aside0 (wr.heap[w.heap.size]? = some (.cells #[.int .i64 e.f0, .slice A1 e.f1.length c1, .int .i64 e.f2, .int .i64 e.f3.f0, .int .i64 e.f3.f1] 54 (0, 0))) ∧ Aside0 (wr.heap[w.heap.size + 1]? = some (.cells #[.int .i64 0, .int .i64 0] 34 (0, 0))))
  case atStart => exact ⟨0, by go_num, ⟨by omega⟩, ⟨by omega⟩, HR2, HB2, Hb2, Hx2⟩
  case round =>
    obtain ⟨i, rfl, hi, hg, HRi, HBi, Hbi, Hxi⟩ := hrel
    clear b1 HR2 HB2 Hb2 Hx2
    have hi1 : i ≤ 1000000 := by have := hi.out; omega
    by_cases hin : i < e.f1.length
    · obtain ⟨ad, rfl, ht⟩ := int_at (Kd.C_below HC.out HBi.out) i hin
      have htr : 0 ≤ e.f1.getD i 0 ∧ e.f1.getD i 0 < (vs.length : Int) := HR.out _ (by rw [List.getD_eq_getElem?_getD, List.getElem?_eq_getElem hin]; exact List.getElem_mem _)
      have hfl := fillV_set vs e.f1 i hin
      generalize e.f1.getD i 0 = t at *
      obtain ⟨ht0, ht1⟩ := htr
      obtain ⟨av, rfl, v0, v1⟩ := at_T34 (Kd.C_below HV.out HBi.out) t ht0 ht1
      have s2 := pw_cell_below HBi.out HS.out
      have hcs := R34_cells HRi.out (i : Int) (by omega) (by omega)
      have hst := R34_set HRi.out (i : Int) (by omega) (by omega) (rd_T34 vs t)
      simp only [Int.toNat_natCast] at hcs hst
      rw [hfl] at hst
      obtain ⟨l0, l1, f0, f1⟩ := hcs
      have HST := Aside0.mk hst.1
      have HSG := Aside0.mk hst.2
      have hbl : w.heap.size ≤ bl := by omega
      clear hst hfl
      go_wp2_with fail
      go_roundg (e.f1.length - i)
      case measure => have := hg.out; omega
      case rel => exact ⟨i + 1, by go_num, ⟨by omega⟩, ⟨by omega⟩, HST, ⟨(HBi.out.setCell hbl _).setCell hbl _⟩, ⟨blk_grown Hbi.out HSG.out (by intro h; injection h with h; omega)⟩, ⟨blk_grown Hxi.out HSG.out (by intro h; injection h with h; omega)⟩⟩
    · obtain rfl : i = e.f1.length := by have := hi.out; omega
      have hRe := HRi.out
      rw [fillV_end] at hRe
      have hlt : (tailV vs e.f1).length = e.f1.length := by simp [tailV]
      have HCe := Aside0.mk (Kd.R_reads' hRe).2.2
      have b2 : wr.cell? ⟨w.heap.size, 2, none⟩ = some (.int .i64 e.f2) := (blk_cell Hbi.out 2).trans rfl
      have hcl : (tailV vs e.f1).length ≤ cl := (Kd.R_reads' hRe).1 ▸ (Kd.R_reads' hRe).2.1
      have hxi := Hxi.out
      have hin' : ¬ ((e.f1.length : Int) < (e.f1.length : Int)) := by omega
      go_wp2_with (first | (go_at_call 75; rw [← hlt]; refine (knuth_Combine.calls _ _ _ _ _ _ _ _ HCe.out hcl (knuth_Combine_eq e.f2 (tailV vs e.f1) (by omega))).mono ?_; rintro x w4 ⟨rfl, hB4⟩; have hx4 := blk_below hxi hB4; have x0 : w4.cell? ⟨w.heap.size + 1, 0, none⟩ = some (.int .i64 0) := (blk_cell hx4 0).trans rfl; have x1 : w4.cell? ⟨w.heap.size + 1, 1, none⟩ = some (.int .i64 0) := (blk_cell hx4 1).trans rfl; have f0 := blk_frozen hx4 0; have f1 := blk_frozen hx4 1; have HX4 := Aside0.mk hx4; have HB4 := Aside0.mk hB4; clear hx4 hB4))
      have h3 := blk_set (blk_set HX4.out 0 (.int .i64 (combV e.f2 (tailV vs e.f1)).f0)) 1 (.int .i64 (combV e.f2 (tailV vs e.f1)).f1)
      refine bodyPost_ret (results_cell_row rfl _ _ (w.heap.size + 1) 34 #[.int .i64 (combV e.f2 (tailV vs e.f1)).f0, .int .i64 (combV e.f2 (tailV vs e.f1)).f1] (0, 0) _ rfl (by simpa using h3) Try.underlying34 rfl (by kernel_rfl)) rfl ?_
      exact ⟨rfl, ((below_step HBi.out HB4.out).setCell (Nat.le_succ _) _).setCell (Nat.le_succ _) _⟩
end Go.Proofs.Ytamimodkcbbpmaa.Pr
end
section
/- Knuth's solver: its state in memory; what offering a hyperedge does. -/
namespace Go.Proofs.Ytamimodkcbbpmaa.Pr
open Go.RowKit Go.Proofs.YtamimodkcbbpmaaW.PrintWords Go.Proofs.YtamimodkcbbpmaaW.PrintLast Go.Proofs.YtamimodkcbbpmaaXW Go.Proofs.YtamimodkcbbpmaaXM
set_option linter.unusedVariables false
set_option linter.unusedSimpArgs false

structure Ctx where
  w0 : World
  s : Nat
  q : Nat
  n : Nat
  A : Option Addr
  c : Nat
  es : List S54
  gv : Nat
  cv : Nat
  gs : Nat
  cs : Nat
  go : Nat
  co : Nat
  gu : Nat
  cu : Nat
  ge : Nat
  ce : Nat
structure QQ where
  es : List S139
  nx : Int
  ck : Int
abbrev Ctx.cells (X : Ctx) : Array Value := #[.int .i64 (X.n : Nat), .slice X.A X.es.length X.c, .slice (some ⟨X.gv, 0, none⟩) X.n X.cv, .slice (some ⟨X.gs, 0, none⟩) X.n X.cs, .slice (some ⟨X.go, 0, none⟩) X.es.length X.co, .slice (some ⟨X.gu, 0, none⟩) X.n X.cu, .pointer (some ⟨X.q, 0, none⟩)]
/-- The solver at block s, its rows, its queue; the row of chosen hyperedges. -/
structure SS (X : Ctx) (w : World) (vs : List S34) (st : List Bool) (op : List Int) (us : List (List Int)) (ed : List Int) (Q : QQ) : Prop where
  hB : Below X.w0.heap.size X.w0 w
  hs : w.heap[X.s]? = some (.cells X.cells 121 (0, 0))
  hsb : X.w0.heap.size ≤ X.s
  hC : Kd.C k54 X.w0 X.A X.es.length X.es
  hV : Kd.R k34 34 w X.w0.heap.size (fun _ => True) (.slice (some ⟨X.gv, 0, none⟩) X.n X.cv) vs
  hS : Kd.R Kd.bool 4 w X.w0.heap.size (fun _ => True) (.slice (some ⟨X.gs, 0, none⟩) X.n X.cs) st
  hO : Kd.R (Kd.int .i64) 3 w X.w0.heap.size (fun k => k ≠ X.ge) (.slice (some ⟨X.go, 0, none⟩) X.es.length X.co) op
  hU : Kd.S (Kd.slice 3 (Kd.int .i64)) 44 w X.w0.heap.size (fun k => k ≠ X.go ∧ k ≠ X.ge) (.slice (some ⟨X.gu, 0, none⟩) X.n X.cu) us
  hE : Kd.R (Kd.int .i64) 3 w X.w0.heap.size (fun k => k ≠ X.go) (.slice (some ⟨X.ge, 0, none⟩) X.n X.ce) ed
  hQ : QS X.w0.heap.size w X.q Q.es Q.nx Q.ck

theorem R_qf0 {α : Type} {d : Kd α} {e base : Nat} {w w' : World} {ok : Nat → Prop} {v : Value} {xs : List α} (h : d.R e w base ok v xs) (ht : ∀ t, t ∈ e :: d.E → t ≠ 135 ∧ t ≠ 139) {b0 : Nat} (hf : QF0 b0 w w') : d.R e w' base ok v xs := by
  refine Kd.R_mono (Kd.R_move (Kd.R_bound h) (fun k hk => ?_)) (fun _ hk => hk.1)
  obtain ⟨_, _, _, t, htm, cells, hc⟩ := hk
  obtain ⟨h1, h2⟩ := ht t htm
  rw [hf.keep k _ _ _ hc h1 h2, hc]
theorem S_qf0 {α : Type} {d : Kd α} {e base : Nat} {w w' : World} {ok : Nat → Prop} {v : Value} {xs : List α} (h : Kd.S d e w base ok v xs) (ht : ∀ t, t ∈ e :: d.E → t ≠ 135 ∧ t ≠ 139) {b0 : Nat} (hf : QF0 b0 w w') : Kd.S d e w' base ok v xs := by
  refine Kd.S_mono (Kd.S_move (Kd.S_bound h) (fun k hk => ?_)) (fun _ hk => hk.1)
  obtain ⟨_, _, _, t, htm, cells, hc⟩ := hk
  obtain ⟨h1, h2⟩ := ht t htm
  rw [hf.keep k _ _ _ hc h1 h2, hc]
theorem SS.queue {X : Ctx} {w w' : World} {vs : List S34} {st : List Bool} {op : List Int} {us : List (List Int)} {ed : List Int} {Q : QQ} (h : SS X w vs st op us ed Q) (hf : QF0 X.w0.heap.size w w') (Q' : QQ) (hq : QS X.w0.heap.size w' X.q Q'.es Q'.nx Q'.ck) : SS X w' vs st op us ed Q' :=
  ⟨h.hB.trans hf.below, hf.keep _ _ _ _ h.hs (by decide) (by decide), h.hsb, h.hC, R_qf0 h.hV (by decide) hf, R_qf0 h.hS (by decide) hf, R_qf0 h.hO (by decide) hf, S_qf0 h.hU (by decide) hf, R_qf0 h.hE (by decide) hf, hq⟩
theorem qs_grown {base q g t : Nat} {w w1 : World} {es : List S139} {nx ck : Int} {cells : Array Value} (h : QS base w q es nx ck) (hc : w.heap[g]? = some (.cells cells t (0, 0))) (h1 : t ≠ 135) (h2 : t ≠ 139) (hg : w.grownBy w1 (some g)) : QS base w1 q es nx ck := by
  obtain ⟨v, bm, ents, mc, hq, hbq, hR, hm, hbm, hks⟩ := h
  have e1 : some q ≠ some g := by rintro e; injection e with e; subst e; rw [hq] at hc; injection hc with hc; injection hc with _ hc; exact h1 hc.symm
  have e2 : some bm ≠ some g := by rintro e; injection e with e; subst e; rw [hm] at hc; cases hc
  refine ⟨v, bm, ents, mc, blk_grown hq hg e1, hbq, ?_, blk_grown hm hg e2, hbm, hks⟩
  refine Kd.R_mono (Kd.R_grown (Kd.R_bound hR) hg (fun k hk => ?_)) (fun _ _ => trivial)
  obtain ⟨_, _, _, x, hx, cells', hc'⟩ := hk
  have hx' : x ∈ [139] := hx
  rw [List.mem_singleton] at hx'
  intro e
  injection e with e
  subst e
  rw [hc] at hc'
  injection hc' with hc'
  injection hc' with _ hc'
  exact h2 (hc'.trans hx')
section
variable {X : Ctx} {w w1 : World} {vs vs' : List S34} {st st' : List Bool} {op op' : List Int} {us us' : List (List Int)} {ed ed' : List Int} {Q : QQ}
theorem SS.setS (h : SS X w vs st op us ed Q) (hS : Kd.R Kd.bool 4 w1 X.w0.heap.size (fun _ => True) (.slice (some ⟨X.gs, 0, none⟩) X.n X.cs) st') (hg : w.grownBy w1 (some X.gs)) : SS X w1 vs st' op us ed Q := by
  obtain ⟨inner, ho⟩ := Kd.R_own h.hS
  obtain ⟨cells, hc⟩ := Kd.R_typed h.hS X.gs rfl
  exact ⟨pw_below_grown h.hB _ h.hB.size hg (fun k hk => own_base ho k hk), blk_grown h.hs hg (Kd.R_ne h.hS h.hs (by decide)), h.hsb, h.hC, Kd.R_over h.hV h.hS (by decide) hg, hS, Kd.R_over h.hO h.hS (by decide) hg, Kd.S_over' h.hU (Kd.R_typed h.hS) (by decide) hg, Kd.R_over h.hE h.hS (by decide) hg, qs_grown h.hQ hc (by decide) (by decide) hg⟩
theorem SS.setV (h : SS X w vs st op us ed Q) (hV : Kd.R k34 34 w1 X.w0.heap.size (fun _ => True) (.slice (some ⟨X.gv, 0, none⟩) X.n X.cv) vs') (hg : w.grownBy w1 (some X.gv)) : SS X w1 vs' st op us ed Q := by
  obtain ⟨inner, ho⟩ := Kd.R_own h.hV
  obtain ⟨cells, hc⟩ := Kd.R_typed h.hV X.gv rfl
  exact ⟨pw_below_grown h.hB _ h.hB.size hg (fun k hk => own_base ho k hk), blk_grown h.hs hg (Kd.R_ne h.hV h.hs (by decide)), h.hsb, h.hC, hV, Kd.R_over h.hS h.hV (by decide) hg, Kd.R_over h.hO h.hV (by decide) hg, Kd.S_over' h.hU (Kd.R_typed h.hV) (by decide) hg, Kd.R_over h.hE h.hV (by decide) hg, qs_grown h.hQ hc (by decide) (by decide) hg⟩
theorem SS.setO (h : SS X w vs st op us ed Q) (hO : Kd.R (Kd.int .i64) 3 w1 X.w0.heap.size (fun k => k ≠ X.ge) (.slice (some ⟨X.go, 0, none⟩) X.es.length X.co) op') (hg : w.grownBy w1 (some X.go)) : SS X w1 vs st op' us ed Q := by
  obtain ⟨inner, ho⟩ := Kd.R_own h.hO
  obtain ⟨cells, hc⟩ := Kd.R_typed h.hO X.go rfl
  exact ⟨pw_below_grown h.hB _ h.hB.size hg (fun k hk => own_base ho k hk), blk_grown h.hs hg (Kd.R_ne h.hO h.hs (by decide)), h.hsb, h.hC, Kd.R_over h.hV h.hO (by decide) hg, Kd.R_over h.hS h.hO (by decide) hg, hO, Kd.S_grown h.hU hg (fun k hk e => hk.1 (by injection e)), Kd.R_grown h.hE hg (fun k hk e => hk (by injection e)), qs_grown h.hQ hc (by decide) (by decide) hg⟩
theorem SS.setE (h : SS X w vs st op us ed Q) (hE : Kd.R (Kd.int .i64) 3 w1 X.w0.heap.size (fun k => k ≠ X.go) (.slice (some ⟨X.ge, 0, none⟩) X.n X.ce) ed') (hg : w.grownBy w1 (some X.ge)) : SS X w1 vs st op us ed' Q := by
  obtain ⟨inner, ho⟩ := Kd.R_own h.hE
  obtain ⟨cells, hc⟩ := Kd.R_typed h.hE X.ge rfl
  exact ⟨pw_below_grown h.hB _ h.hB.size hg (fun k hk => own_base ho k hk), blk_grown h.hs hg (Kd.R_ne h.hE h.hs (by decide)), h.hsb, h.hC, Kd.R_over h.hV h.hE (by decide) hg, Kd.R_over h.hS h.hE (by decide) hg, Kd.R_grown h.hO hg (fun k hk e => hk (by injection e)), Kd.S_grown h.hU hg (fun k hk e => hk.2 (by injection e)), hE, qs_grown h.hQ hc (by decide) (by decide) hg⟩
end
theorem SS.size {X : Ctx} {w : World} {vs : List S34} {st : List Bool} {op : List Int} {us : List (List Int)} {ed : List Int} {Q : QQ} (h : SS X w vs st op us ed Q) : X.w0.heap.size ≤ w.heap.size := h.hB.size
theorem SS.below {X : Ctx} {w w' : World} {vs : List S34} {st : List Bool} {op : List Int} {us : List (List Int)} {ed : List Int} {Q : QQ} (h : SS X w vs st op us ed Q) (hb : Below w.heap.size w w') : SS X w' vs st op us ed Q :=
  h.queue (QF0.of_below hb h.size) Q (qs_below h.hQ hb)
theorem SS.lens {X : Ctx} {w : World} {vs : List S34} {st : List Bool} {op : List Int} {us : List (List Int)} {ed : List Int} {Q : QQ} (h : SS X w vs st op us ed Q) : X.n = vs.length ∧ X.n = st.length ∧ X.es.length = op.length ∧ X.n = us.length ∧ X.n = ed.length :=
  ⟨(Kd.R_reads' h.hV).1, (Kd.R_reads' h.hS).1, (Kd.R_reads' h.hO).1, (Kd.S_reads' h.hU).1, (Kd.R_reads' h.hE).1⟩

theorem scal_cell {α : Type} {enc : α → Value} {h1 : ∀ x, (enc x).oneCell' = true} {e base g n cap : Nat} {ok : Nat → Prop} {W : World} {xs : List α} (h : (Kd.scalar enc h1).R e W base ok (.slice (some ⟨g, 0, none⟩) n cap) xs) (z : α) (i : Int) (h0 : 0 ≤ i) (hi : i < n) :
    W.cell? ⟨g, i.toNat, none⟩ = some (enc (xs.getD i.toNat z)) ∧ W.frozen? ⟨g, i.toNat, none⟩ = false := by
  obtain ⟨c, hcl, hM, hcc, hfz⟩ := Kd.R_elem h z i h0 hi
  have hs : (Kd.scalar enc h1).sz = 1 := rfl
  obtain rfl : c = [enc (xs.getD i.toNat z)] := hM
  refine ⟨?_, ?_⟩
  · have := hcc 0 _ rfl
    simpa [hs] using this
  · have := hfz 0
    simpa [hs] using this

/-- Hyperedges whose nodes are among the first N. -/
def okE (N : Nat) (es : List S54) : Prop := ∀ e, e ∈ es → (0 ≤ e.f0 ∧ e.f0 < (N : Int)) ∧ (∀ t, t ∈ e.f1 → 0 ≤ t ∧ t < (N : Int)) ∧ e.f1.length ≤ 1000000
theorem okE_rd {N : Nat} {es : List S54} (h : okE N es) (k : Int) (h0 : 0 ≤ k) (h1 : k < (es.length : Int)) : (0 ≤ (rd_T54 es k).f0 ∧ (rd_T54 es k).f0 < (N : Int)) ∧ (∀ t, t ∈ (rd_T54 es k).f1 → 0 ≤ t ∧ t < (N : Int)) ∧ (rd_T54 es k).f1.length ≤ 1000000 := by
  have hk : k.toNat < es.length := by omega
  refine h _ ?_
  simp only [rd_T54, List.getD_eq_getElem?_getD, List.getElem?_eq_getElem hk, Option.getD_some]
  exact List.getElem_mem _

def pushQ (Q : QQ) (c : S124) : QQ := ⟨upE (Q.es.length + 1) (Q.es ++ [⟨c, Q.nx, Q.ck⟩]) Q.es.length, wrap64 (Q.nx + 1), wrap64 (Q.ck + 1)⟩
def valE (vs : List S34) (e : S54) : S34 := combV e.f2 (tailV vs e.f1)
def offerQ (es : List S54) (vs : List S34) (st : List Bool) (Q : QQ) (k : Int) : QQ :=
  if (valE vs (rd_T54 es k)).f0 < 1099511627776 ∧ st.getD (rd_T54 es k).f0.toNat false = false then pushQ Q ⟨(rd_T54 es k).f0, valE vs (rd_T54 es k)⟩ else Q

theorem h_alloc54 (w : World) (o : Obj) : Below w.heap.size w (w.alloc o) ∧ (w.alloc o).heap[w.heap.size]? = some o := ⟨below_alloc (Below.refl _ _) o, heap_alloc_new w o⟩

def R104.T2 : Bool × List (List Nat × List Nat) := (true, [([], []), ([0], [0]), ([1], [1]), ([2], [2]), ([3], [3]), ([4, 3], [3, 4]), ([5, 3], [3, 5]), ([6, 3], [3, 6]), ([3], [3]), ([8, 3], [3, 8]), ([7, 9, 3], [3, 7, 9]), ([10, 3], [3, 10]), ([11, 3], [3, 11]), ([3, 12], [3, 12])])
def R104.B2 : List Nat := [0, 1, 3, 7, 15, 31, 63, 127, 15, 271, 1023, 2047, 4095, 8191]
theorem R104.tab2 : rtab .any (opsOf Try.f104 2) = R104.T2 := by kernel_rfl
theorem R104.bits2 : waitsOk R104.T2.2 R104.B2 = true := by kernel_rfl
def R104.T3 : Bool × List (List Nat × List Nat) := (true, [([], []), ([0], [0]), ([1], [1]), ([2], [2]), ([], []), ([4], [4]), ([], []), ([5, 6], [5, 6]), ([3, 7], [3, 7])])
def R104.B3 : List Nat := [0, 1, 3, 7, 0, 16, 0, 112, 255]
theorem R104.tab3 : rtab .any (opsOf Try.f104 3) = R104.T3 := by kernel_rfl
theorem R104.bits3 : waitsOk R104.T3.2 R104.B3 = true := by kernel_rfl
set_option maxRecDepth 100000 in
set_option maxHeartbeats 8000000 in
theorem offer_calls (X : Ctx) (w : World) (vs : List S34) (st : List Bool) (op : List Int) (us : List (List Int)) (ed : List Int) (Q : QQ) (h : SS X w vs st op us ed Q) (hok : okE X.n X.es) (k : Int) (h0 : 0 ≤ k) (h1 : k < (X.es.length : Int)) (hsz : Q.es.length < 1000000) :
    Calls Try.prog 104 #[.pointer (some ⟨X.s, 0, none⟩), .int .i64 k] w fun x w' => x = .returned (.tuple #[]) ∧ SS X w' vs st op us ed (offerQ X.es vs st Q k) ∧ QF0 X.w0.heap.size w w' := by
  obtain ⟨he0, het, hel⟩ := okE_rd hok k h0 h1
  have hoff : offerQ X.es vs st Q k = if (valE vs (rd_T54 X.es k)).f0 < 1099511627776 ∧ st.getD (rd_T54 X.es k).f0.toNat false = false then pushQ Q ⟨(rd_T54 X.es k).f0, valE vs (rd_T54 X.es k)⟩ else Q := rfl
  obtain ⟨ad, A1, c1, hA, c0, c1', c2, c3, c4, hc1, hC1⟩ := at_T54 (Kd.C_below h.hC h.hB) k h0 (by omega)
  generalize rd_T54 X.es k = e at *
  have HOFF := Aside0.mk hoff
  have s1 : w.cell? ⟨X.s, 1, none⟩ = some (.slice (some ad) X.es.length X.c) := by rw [blk_cell h.hs 1, ← hA]; rfl
  have H := Aside0.mk h
  have HC1 := Aside0.mk hC1
  have HET := Aside0.mk het
  have HOK := Aside0.mk hok
  clear hoff h hC1 het hok
  go_enter Try.func104, Try.ntmps104
  go_upto_region 1 with (fail)
  have hA0 := h_alloc54 w (.cells #[.int .i64 e.f0, .slice A1 e.f1.length c1, .int .i64 e.f2, .int .i64 e.f3.f0, .int .i64 e.f3.f1] 54)
  have HA := Aside0.mk (H.out.below hA0.1)
  have FA := Aside0.mk (QF0.of_below hA0.1 H.out.size)
  have H4 := Aside0.mk hA0.2
  have HCA := Aside0.mk (Kd.C_below HC1.out hA0.1)
  clear hA0 c0 c1' c2 c3 c4 s1
  obtain ⟨b4, hb4⟩ : ∃ b4, b4 = w.heap.size := ⟨_, rfl⟩
  rw [← hb4] at H4 ⊢
  clear hb4 H HC1
  generalize (w.alloc (.cells #[.int .i64 e.f0, .slice A1 e.f1.length c1, .int .i64 e.f2, .int .i64 e.f3.f0, .int .i64 e.f3.f1] 54)) = wA at *
  obtain ⟨hn, hnc, hCV⟩ := Kd.R_reads' HA.out.hV
  have s2 : wA.cell? ⟨X.s, 2, none⟩ = some (.slice (some ⟨X.gv, 0, none⟩) vs.length X.cv) := by rw [← hn, blk_cell HA.out.hs 2]; rfl
  have h40 : wA.cell? ⟨b4, 0, none⟩ = some (.int .i64 e.f0) := (blk_cell H4.out 0).trans rfl
  have h41 : wA.cell? ⟨b4, 1, none⟩ = some (.slice A1 e.f1.length c1) := (blk_cell H4.out 1).trans rfl
  have h42 : wA.cell? ⟨b4, 2, none⟩ = some (.int .i64 e.f2) := (blk_cell H4.out 2).trans rfl
  have h43 : wA.cell? ⟨b4, 3, none⟩ = some (.int .i64 e.f3.f0) := (blk_cell H4.out 3).trans rfl
  have h44 : wA.cell? ⟨b4, 4, none⟩ = some (.int .i64 e.f3.f1) := (blk_cell H4.out 4).trans rfl
  have HCV := Aside0.mk hCV
  clear hCV
  go_upto_region 2 with (first | (go_at_call 107; refine (combine_calls X.s vs (some ⟨X.gv, 0, none⟩) X.cv e A1 c1 wA s2 HCV.out HCA.out (fun t ht => by rw [← hn]; exact HET.out t ht) hel).mono ?_; rintro x w4 ⟨rfl, hB4⟩; have FA4 := Aside0.mk (FA.out.trans (QF0.of_below hB4 HA.out.size)); have HB4 := Aside0.mk (HA.out.below hB4); have H44 := Aside0.mk (blk_below H4.out hB4); clear hB4 s2 h40 h41 h42 h43 h44 HA H4))
  clear HCA HCV hn hnc
  rw [show combV e.f2 (tailV vs e.f1) = valE vs e from rfl]
  generalize valE vs e = v at *
  have hB0 := h_alloc54 w4 (.cells #[.int .i64 v.f0, .int .i64 v.f1] 34)
  have HB := Aside0.mk (HB4.out.below hB0.1)
  have FB := Aside0.mk (FA4.out.trans (QF0.of_below hB0.1 HB4.out.size)).drew
  clear FA FA4
  have H4B := Aside0.mk (blk_below H44.out hB0.1)
  have H5B := Aside0.mk hB0.2
  clear hB0 HB4 H44
  obtain ⟨b5, hb5⟩ : ∃ b5, b5 = w4.heap.size := ⟨_, rfl⟩
  rw [← hb5] at H5B ⊢
  clear hb5
  generalize (w4.alloc (.cells #[.int .i64 v.f0, .int .i64 v.f1] 34)) = wB at *
  have s3 : wB.drew.cell? ⟨X.s, 3, none⟩ = some (.slice (some ⟨X.gs, 0, none⟩) X.n X.cs) := by show wB.cell? _ = _; rw [blk_cell HB.out.hs 3]; rfl
  have h4 : wB.drew.cell? ⟨b4, 0, none⟩ = some (.int .i64 e.f0) := by show wB.cell? _ = _; rw [blk_cell H4B.out 0]; rfl
  have h5 : wB.drew.cell? ⟨b5, 0, none⟩ = some (.int .i64 v.f0) := by show wB.cell? _ = _; rw [blk_cell H5B.out 0]; rfl
  obtain ⟨bs, hst⟩ : ∃ bs, st.getD e.f0.toNat false = bs := ⟨_, rfl⟩
  have HST := Aside0.mk hst
  have g3 : wB.drew.cell? ⟨X.gs, e.f0.toNat, none⟩ = some (.bool bs) := by rw [← hst]; exact (scal_cell HB.out.hS false e.f0 he0.1 he0.2).1
  clear hst
  obtain ⟨he00, he01⟩ := he0
  by_cases hlt : v.f0 < 1099511627776
  · go_upto_region 2 with (fail)
    refine start_ (n := 14) (S := fun w' => w'.cell? ⟨X.s, 3, none⟩ = some (.slice (some ⟨X.gs, 0, none⟩) X.n X.cs) ∧ w'.cell? ⟨b4, 0, none⟩ = some (.int .i64 e.f0) ∧ w'.cell? ⟨X.gs, e.f0.toNat, none⟩ = some (.bool bs) ∧ w'.cell? ⟨b5, 0, none⟩ = some (.int .i64 v.f0)) (ds := []) #[false, false, false, false, false, false, false, false, false, false, false, false, false, false] (by kernel_rfl) rfl rfl ⟨s3, h4, g3, h5⟩ (fun hHeld => ?_)
    refine with_tabW R104.tab2 R104.bits2 (fun HT_ HW_ => ?_)
    refine bulk_ (fuel := 0) [(0, 17), (1, 18), (2, 19), (3, 20), (4, 21), (5, 22), (6, 23), (7, 24), (8, 25), (9, 26), (10, 27), (11, 28), (12, 29), (13, 30)] #[true, true, true, true, true, true, true, true, true, true, true, true, true, true] (bulkB_of HT_.out HW_.out _ _ _ (by kernel_rfl)) rfl (fun _ _ _ _ _ h => h) hHeld (a' := ?_) ?_ ?_
    rotate_left
    · iterate 14
        refine chain_cons (v := ?_) (a1 := ?_) rfl rfl (Or.inl ⟨by rfl, ?_⟩) ?_ ?_
        rotate_left 2
        · rintro w' ⟨s0, s1, s2, s3⟩
          go_simp
          with_reducible rfl
        · simp only [Act.put, List.setIfInBounds_toArray, List.set_cons_zero, List.set_cons_succ, i64_w, i32_w]
          rfl
      exact chain_nil
    refine done_ (done_of HT_.out (by kernel_rfl)) ?_
    clear s3 h4 h5 g3 hHeld
    cases bs with
    | true =>
      go_wp2_with fail
      go_end0
      refine ⟨rfl, ?_, FB.out⟩
      rw [HOFF.out, if_neg (fun h => by rw [HST.out] at h; exact absurd h.2 (by decide))]
      exact HB.out.below (below_drew (Below.refl _ _))
    | false =>
      go_upto_region 3 with (fail)
      have HC := HB.out.below (below_drew (Below.refl _ _))
      have hsC := HC.hs
      have h4C : wB.drew.heap[b4]? = _ := H4B.out
      have h5C : wB.drew.heap[b5]? = _ := H5B.out
      have HCC := Aside0.mk HC
      clear HC HB H4B H5B
      generalize wB.drew = wC at *
      have HQC := Aside0.mk (qs_drew HCC.out.hQ)
      have s6 : wC.drew.cell? ⟨X.s, 6, none⟩ = some (.pointer (some ⟨X.q, 0, none⟩)) := by show wC.cell? _ = _; rw [blk_cell hsC 6]; rfl
      have h4 : wC.drew.cell? ⟨b4, 0, none⟩ = some (.int .i64 e.f0) := by show wC.cell? _ = _; rw [blk_cell h4C 0]; rfl
      have h50 : wC.drew.cell? ⟨b5, 0, none⟩ = some (.int .i64 v.f0) := by show wC.cell? _ = _; rw [blk_cell h5C 0]; rfl
      have h51 : wC.drew.cell? ⟨b5, 1, none⟩ = some (.int .i64 v.f1) := by show wC.cell? _ = _; rw [blk_cell h5C 1]; rfl
      refine start_ (n := 9) (S := fun w' => w'.cell? ⟨X.s, 6, none⟩ = some (.pointer (some ⟨X.q, 0, none⟩)) ∧ w'.cell? ⟨b4, 0, none⟩ = some (.int .i64 e.f0) ∧ w'.cell? ⟨b5, 0, none⟩ = some (.int .i64 v.f0) ∧ w'.cell? ⟨b5, 1, none⟩ = some (.int .i64 v.f1)) (ds := []) #[false, false, false, false, false, false, false, false, false] (by kernel_rfl) rfl rfl ⟨s6, h4, h50, h51⟩ (fun hHeld => ?_)
      refine with_tabW R104.tab3 R104.bits3 (fun HT_ HW_ => ?_)
      refine bulk_ (fuel := 1) [(0, 31), (1, 32), (2, 33), (3, 34), (4, 35), (5, 36), (6, 37), (7, 38)] #[true, true, true, true, true, true, true, true, false] (bulkB_of HT_.out HW_.out _ _ _ (by kernel_rfl)) rfl (fun _ _ _ _ _ h => h) hHeld (a' := ?_) ?_ ?_
      rotate_left
      · iterate 8
          refine chain_cons (v := ?_) (a1 := ?_) rfl rfl (Or.inl ⟨by rfl, ?_⟩) ?_ ?_
          rotate_left 2
          · rintro w' ⟨s0, s1, s2, s3⟩
            go_simp
            with_reducible rfl
          · simp only [Act.put, List.setIfInBounds_toArray, List.set_cons_zero, List.set_cons_succ, i64_w, i32_w]
            rfl
        exact chain_nil
      refine one_ (i := 8) (N := some 39) #[true, true, true, true, true, true, true, true, true] rfl rfl (one_of HT_.out (by kernel_rfl)) (by decide) (fun K hK => ?_)
      refine call_ 110 #[.pointer (some ⟨X.q, 0, none⟩), .agg #[.int .i64 e.f0, .int .i64 v.f0, .int .i64 v.f1]] (by rfl) rfl ?_ ?_
      · have he := enters_ Try.func110 (by kernel_rfl) rfl #[.pointer (some ⟨X.q, 0, none⟩), .agg #[.int .i64 e.f0, .int .i64 v.f0, .int .i64 v.f1]] wC.drew
        unfold execOp
        simp [resolve, Deferred.ofValue, invoke, Act.eval, he]
      refine (push_calls X.w0.heap.size X.q Q.es Q.nx Q.ck (⟨e.f0, v⟩ : S124) _ HQC.out hsz).mono ?_
      rintro x w7 ⟨rfl, hQ7, hF7⟩
      have HQ7 := Aside0.mk hQ7
      have HF7 := Aside0.mk hF7
      clear hQ7 hF7
      refine ⟨_, rfl, ?_⟩
      refine hK.out _ _ ⟨(by rw [blk_cell (HF7.out.keep _ _ _ _ hsC (by decide) (by decide)) 6]; rfl), (by rw [blk_cell (HF7.out.keep _ _ _ _ h4C (by decide) (by decide)) 0]; rfl), (by rw [blk_cell (HF7.out.keep _ _ _ _ h5C (by decide) (by decide)) 0]; rfl), (by rw [blk_cell (HF7.out.keep _ _ _ _ h5C (by decide) (by decide)) 1]; rfl)⟩ (fun hHeld => ?_)
      clear hK K
      refine norm_ (a' := ?_) ?_ ?_
      rotate_left
      · show Act.put _ (some 39) _ = _
        simp only [Act.put, List.setIfInBounds_toArray, List.set_cons_zero, List.set_cons_succ, i64_w, i32_w]
        rfl
      refine done_ (done_of HT_.out (by kernel_rfl)) ?_
      go_wp2_with fail
      go_end0
      refine ⟨rfl, ?_, FB.out.trans HF7.out.of_drew⟩
      rw [HOFF.out, if_pos ⟨hlt, HST.out⟩]
      exact HCC.out.queue HF7.out.of_drew (pushQ Q ⟨e.f0, v⟩) HQ7.out
  · go_upto_region 2 with (fail)
    refine start_ (n := 14) (S := fun w' => w'.cell? ⟨X.s, 3, none⟩ = some (.slice (some ⟨X.gs, 0, none⟩) X.n X.cs) ∧ w'.cell? ⟨b4, 0, none⟩ = some (.int .i64 e.f0) ∧ w'.cell? ⟨X.gs, e.f0.toNat, none⟩ = some (.bool bs) ∧ w'.cell? ⟨b5, 0, none⟩ = some (.int .i64 v.f0)) (ds := []) #[false, false, false, false, false, false, false, false, false, false, false, false, false, false] (by kernel_rfl) rfl rfl ⟨s3, h4, g3, h5⟩ (fun hHeld => ?_)
    refine with_tabW R104.tab2 R104.bits2 (fun HT_ HW_ => ?_)
    refine bulk_ (fuel := 0) [(0, 17), (1, 18), (2, 19), (3, 20), (4, 21), (5, 22), (6, 23), (7, 24), (8, 25), (9, 26), (10, 27), (11, 28), (12, 29), (13, 30)] #[true, true, true, true, true, true, true, true, true, true, true, true, true, true] (bulkB_of HT_.out HW_.out _ _ _ (by kernel_rfl)) rfl (fun _ _ _ _ _ h => h) hHeld (a' := ?_) ?_ ?_
    rotate_left
    · iterate 4
        refine chain_cons (v := ?_) (a1 := ?_) rfl rfl (Or.inl ⟨by rfl, ?_⟩) ?_ ?_
        rotate_left 2
        · rintro w' ⟨s0, s1, s2, s3⟩
          go_simp
          with_reducible rfl
        · simp only [Act.put, List.setIfInBounds_toArray, List.set_cons_zero, List.set_cons_succ, i64_w, i32_w]
          rfl
      iterate 9
        refine chain_off (a1 := ?_) rfl rfl (by rfl) ?_ ?_
        rotate_left
        · simp only [Act.put, List.setIfInBounds_toArray, List.set_cons_zero, List.set_cons_succ]
          rfl
      iterate 1
        refine chain_cons (v := ?_) (a1 := ?_) rfl rfl (Or.inl ⟨by rfl, ?_⟩) ?_ ?_
        rotate_left 2
        · rintro w' ⟨s0, s1, s2, s3⟩
          go_simp
          with_reducible rfl
        · simp only [Act.put, List.setIfInBounds_toArray, List.set_cons_zero, List.set_cons_succ, i64_w, i32_w]
          rfl
      exact chain_nil
    refine done_ (done_of HT_.out (by kernel_rfl)) ?_
    clear s3 h4 h5 g3 hHeld
    go_wp2_with fail
    go_end0
    refine ⟨rfl, ?_, FB.out⟩
    rw [HOFF.out, if_neg (fun h => by omega)]
    exact HB.out.below (below_drew (Below.refl _ _))
end Go.Proofs.Ytamimodkcbbpmaa.Pr
end
section
/- Knuth's solver: what fixing a node's value does. -/
namespace Go.Proofs.Ytamimodkcbbpmaa.Pr
open Go.RowKit Go.Proofs.YtamimodkcbbpmaaW.PrintWords Go.Proofs.YtamimodkcbbpmaaW.PrintLast Go.Proofs.YtamimodkcbbpmaaXW Go.Proofs.YtamimodkcbbpmaaXM
set_option linter.unusedVariables false
set_option linter.unusedSimpArgs false

theorem upE_length : ∀ (k : Nat) (es : List S139) (i : Nat), (upE k es i).length = es.length
  | 0, es, i => rfl
  | k + 1, es, 0 => rfl
  | k + 1, es, m + 1 => by
    unfold upE
    split
    · rw [upE_length, swpE_length]
    · rfl
theorem pushQ_length (Q : QQ) (c : S124) : (pushQ Q c).es.length = Q.es.length + 1 := by simp [pushQ, upE_length]
theorem offerQ_length (es : List S54) (vs : List S34) (st : List Bool) (Q : QQ) (k : Int) : (offerQ es vs st Q k).es.length ≤ Q.es.length + 1 := by
  unfold offerQ
  split
  · rw [pushQ_length]; exact Nat.le_refl _
  · exact Nat.le_succ _

/-- Blocks of type 24 (boxes of hypergraphs) stay as they are. -/
def Keep24 (w w' : World) : Prop := ∀ (k : Nat) cs fr, w.heap[k]? = some (.cells cs 24 fr) → w'.heap[k]? = some (.cells cs 24 fr)
theorem Keep24.trans {a b c : World} (h : Keep24 a b) (k : Keep24 b c) : Keep24 a c := fun i cs fr hi => k i cs fr (h i cs fr hi)
theorem Keep24.of_below {a b : World} (h : Below a.heap.size a b) : Keep24 a b := fun i cs fr hi => blk_below hi h
theorem Keep24.of_qf {base : Nat} {a b : World} (h : QF0 base a b) : Keep24 a b := fun i cs fr hi => h.keep i cs 24 fr hi (by decide) (by decide)
theorem Keep24.of_grown {a b : World} {g t : Nat} {cells : Array Value} (hc : a.heap[g]? = some (.cells cells t (0, 0))) (ht : t ≠ 24) (hg : a.grownBy b (some g)) : Keep24 a b := fun i cs fr hi => blk_grown hi hg (by
  intro e
  injection e with e
  subst e
  rw [hc] at hi
  injection hi with hi
  injection hi with _ hi
  exact ht hi)

def settleStep (es : List S54) (vs : List S34) (st : List Bool) (p : List Int × QQ) (k : Int) : List Int × QQ :=
  if rd (p.1.set k.toNat (wrap64 (rd p.1 k - 1))) k = 0 then (p.1.set k.toNat (wrap64 (rd p.1 k - 1)), offerQ es vs st p.2 k) else (p.1.set k.toNat (wrap64 (rd p.1 k - 1)), p.2)
def settleL (es : List S54) (vs : List S34) (st : List Bool) (l : List Int) (p : List Int × QQ) : List Int × QQ := l.foldl (settleStep es vs st) p

theorem slice_cell {α : Type} {d : Kd α} {f base e g n cap : Nat} {ok : Nat → Prop} {W : World} {xs : List (List α)} (h : (Kd.slice f d).R e W base ok (.slice (some ⟨g, 0, none⟩) n cap) xs) (i : Int) (h0 : 0 ≤ i) (hi : i < n) :
    ∃ v, W.cell? ⟨g, i.toNat, none⟩ = some v ∧ d.R f W base (fun k => ok k ∧ k ≠ g) v (xs.getD i.toNat []) ∧ W.frozen? ⟨g, i.toNat, none⟩ = false := by
  obtain ⟨c, hcl, hM, hcc, hfz⟩ := Kd.R_elem h [] i h0 hi
  have hs : (Kd.slice f d).sz = 1 := rfl
  obtain ⟨v, rfl, hR⟩ := hM
  refine ⟨v, ?_, hR, ?_⟩
  · have := hcc 0 _ rfl
    simpa [hs] using this
  · have := hfz 0
    simpa [hs] using this

def R106.T1 : Bool × List (List Nat × List Nat) := (true, [([], []), ([0], [0]), ([1], [1]), ([2], [2]), ([], []), ([4], [4]), ([], []), ([6], [6]), ([7], [7]), ([8], [8]), ([], []), ([10], [10]), ([], []), ([12], [12]), ([3, 5, 0, 1, 2, 3, 4, 5, 9], [3, 5]), ([14, 0, 1, 2, 3, 4, 5, 9], [14]), ([9, 11, 0, 1, 2, 3, 4, 5, 6, 7, 8, 9, 10, 11, 12, 13, 14, 15], [9, 11]), ([16, 13, 15, 0, 1, 2, 3, 4, 5, 6, 7, 8, 9, 10, 11, 12, 13, 14, 15], [13, 16])])
def R106.B1 : List Nat := [0, 1, 3, 7, 0, 16, 0, 64, 192, 448, 0, 1024, 0, 4096, 1023, 17407, 65535, 131071]
theorem R106.tab1 : rtab .any (opsOf Try.f106 1) = R106.T1 := by kernel_rfl
theorem R106.bits1 : waitsOk R106.T1.2 R106.B1 = true := by kernel_rfl
def R106.T2 : Bool × List (List Nat × List Nat) := (true, [([], []), ([0], [0]), ([1], [1]), ([2], [2]), ([], []), ([4], [4]), ([3, 5], [3, 5]), ([6], [6]), ([7], [7]), ([], [])])
def R106.B2 : List Nat := [0, 1, 3, 7, 0, 16, 63, 127, 255, 0]
theorem R106.tab2 : rtab .any (opsOf Try.f106 2) = R106.T2 := by kernel_rfl
theorem R106.bits2 : waitsOk R106.T2.2 R106.B2 = true := by kernel_rfl
set_option maxRecDepth 100000 in
set_option maxHeartbeats 8000000 in
theorem settle_calls (X : Ctx) (w : World) (vs : List S34) (st : List Bool) (op : List Int) (us : List (List Int)) (ed : List Int) (Q : QQ) (h : SS X w vs st op us ed Q) (hok : okE X.n X.es) (c : S124) (h0 : 0 ≤ c.f0) (h1 : c.f0 < (X.n : Int))
    (hus : ∀ k, k ∈ us.getD c.f0.toNat [] → 0 ≤ k ∧ k < (X.es.length : Int)) (hsz : Q.es.length + (us.getD c.f0.toNat []).length < 1000000) :
    Calls Try.prog 106 #[.pointer (some ⟨X.s, 0, none⟩), .agg #[.int .i64 c.f0, .int .i64 c.f1.f0, .int .i64 c.f1.f1]] w fun x w' => x = .returned (.tuple #[]) ∧
      SS X w' (vs.set c.f0.toNat c.f1) (st.set c.f0.toNat true) (settleL X.es (vs.set c.f0.toNat c.f1) (st.set c.f0.toNat true) (us.getD c.f0.toNat []) (op, Q)).1 us ed (settleL X.es (vs.set c.f0.toNat c.f1) (st.set c.f0.toNat true) (us.getD c.f0.toNat []) (op, Q)).2 ∧ Keep24 w w' := by
  obtain ⟨l, hl⟩ : ∃ l, us.getD c.f0.toNat [] = l := ⟨_, rfl⟩
  obtain ⟨vs', hvs⟩ : ∃ v, vs.set c.f0.toNat c.f1 = v := ⟨_, rfl⟩
  obtain ⟨st', hst⟩ : ∃ v, st.set c.f0.toNat true = v := ⟨_, rfl⟩
  rw [hl] at hus hsz ⊢
  rw [hvs, hst]
  have HVS := Aside0.mk hvs
  have HST := Aside0.mk hst
  have HL := Aside0.mk hl
  clear hl hvs hst
  go_enter Try.func106, Try.ntmps106
  go_upto_region 1 with (fail)
  have hA0 := h_alloc54 w (.cells #[.int .i64 c.f0, .int .i64 c.f1.f0, .int .i64 c.f1.f1] 124)
  have HA := Aside0.mk (h.below hA0.1)
  have KA := Aside0.mk (Keep24.of_below hA0.1)
  have H3 := Aside0.mk hA0.2
  obtain ⟨b3, hb3⟩ : ∃ b3, b3 = w.heap.size := ⟨_, rfl⟩
  rw [← hb3] at H3 ⊢
  clear hb3 h hA0
  generalize (w.alloc (.cells #[.int .i64 c.f0, .int .i64 c.f1.f0, .int .i64 c.f1.f1] 124)) = wA at *
  have hd : Below wA.heap.size wA wA.drew := below_drew (Below.refl _ _)
  have HD := HA.out.below hd
  have h3 := blk_below H3.out hd
  have s3 : wA.drew.cell? ⟨X.s, 3, none⟩ = some (.slice (some ⟨X.gs, 0, none⟩) X.n X.cs) := by rw [blk_cell HD.hs 3]; rfl
  have s2 : wA.drew.cell? ⟨X.s, 2, none⟩ = some (.slice (some ⟨X.gv, 0, none⟩) X.n X.cv) := by rw [blk_cell HD.hs 2]; rfl
  have h00 : wA.drew.cell? ⟨b3, 0, none⟩ = some (.int .i64 c.f0) := by rw [blk_cell h3 0]; rfl
  have h10 : wA.drew.cell? ⟨b3, 1, none⟩ = some (.int .i64 c.f1.f0) := by rw [blk_cell h3 1]; rfl
  have h20 : wA.drew.cell? ⟨b3, 2, none⟩ = some (.int .i64 c.f1.f1) := by rw [blk_cell h3 2]; rfl
  obtain ⟨gs0, gsf⟩ := scal_cell HD.hS false c.f0 h0 h1
  have hput := Kd.R_putg HD.hS c.f0 true
  obtain ⟨W1, hW1⟩ : ∃ W1, W1 = wA.drew.setCell ⟨X.gs, c.f0.toNat, none⟩ (.bool true) := ⟨_, rfl⟩
  rw [← hW1] at hput
  have D1 := HD.setS hput.1 hput.2
  obtain ⟨kc1, hkc1⟩ := Kd.R_typed HD.hS X.gs rfl
  have K1 := Aside0.mk ((KA.out.trans (Keep24.of_below hd)).trans (Keep24.of_grown hkc1 (by decide) hput.2))
  clear hkc1 KA
  have h31 := blk_grown h3 hput.2 (Kd.R_ne HD.hS h3 (by decide))
  have s31 : W1.cell? ⟨X.s, 3, none⟩ = some (.slice (some ⟨X.gs, 0, none⟩) X.n X.cs) := by rw [blk_cell D1.hs 3]; rfl
  have s21 : W1.cell? ⟨X.s, 2, none⟩ = some (.slice (some ⟨X.gv, 0, none⟩) X.n X.cv) := by rw [blk_cell D1.hs 2]; rfl
  have h01 : W1.cell? ⟨b3, 0, none⟩ = some (.int .i64 c.f0) := by rw [blk_cell h31 0]; rfl
  have h11 : W1.cell? ⟨b3, 1, none⟩ = some (.int .i64 c.f1.f0) := by rw [blk_cell h31 1]; rfl
  have h21 : W1.cell? ⟨b3, 2, none⟩ = some (.int .i64 c.f1.f1) := by rw [blk_cell h31 2]; rfl
  obtain ⟨v0, v1, vf0, vf1⟩ := R34_cells D1.hV c.f0 h0 h1
  have hput2 := R34_set D1.hV c.f0 h0 h1 c.f1
  obtain ⟨W2, hW2⟩ : ∃ W2, W2 = (W1.setCell ⟨X.gv, c.f0.toNat * 2, none⟩ (.int .i64 c.f1.f0)).setCell ⟨X.gv, c.f0.toNat * 2 + 1, none⟩ (.int .i64 c.f1.f1) := ⟨_, rfl⟩
  rw [← hW2] at hput2
  have D2 := D1.setV hput2.1 hput2.2
  obtain ⟨kc2, hkc2⟩ := Kd.R_typed D1.hV X.gv rfl
  have K2 := Aside0.mk ((K1.out.trans (Keep24.of_grown hkc2 (by decide) hput2.2)).trans (Keep24.of_below (below_drew (Below.refl _ _))))
  clear hkc2 K1
  have h32 := blk_grown h31 hput2.2 (Kd.R_ne D1.hV h31 (by decide))
  have s32 : W2.cell? ⟨X.s, 3, none⟩ = some (.slice (some ⟨X.gs, 0, none⟩) X.n X.cs) := by rw [blk_cell D2.hs 3]; rfl
  have s22 : W2.cell? ⟨X.s, 2, none⟩ = some (.slice (some ⟨X.gv, 0, none⟩) X.n X.cv) := by rw [blk_cell D2.hs 2]; rfl
  have h02 : W2.cell? ⟨b3, 0, none⟩ = some (.int .i64 c.f0) := by rw [blk_cell h32 0]; rfl
  have h12 : W2.cell? ⟨b3, 1, none⟩ = some (.int .i64 c.f1.f0) := by rw [blk_cell h32 1]; rfl
  have h22 : W2.cell? ⟨b3, 2, none⟩ = some (.int .i64 c.f1.f1) := by rw [blk_cell h32 2]; rfl
  have D2' := Aside0.mk D2
  have H32 := Aside0.mk h32
  clear HA H3 HD hput D1 hput2 D2 h3 h31 h32
  refine start_ (n := 18) (S := fun w' => w'.cell? ⟨X.s, 3, none⟩ = some (.slice (some ⟨X.gs, 0, none⟩) X.n X.cs) ∧ w'.cell? ⟨X.s, 2, none⟩ = some (.slice (some ⟨X.gv, 0, none⟩) X.n X.cv) ∧ w'.cell? ⟨b3, 0, none⟩ = some (.int .i64 c.f0) ∧ w'.cell? ⟨b3, 1, none⟩ = some (.int .i64 c.f1.f0) ∧ w'.cell? ⟨b3, 2, none⟩ = some (.int .i64 c.f1.f1)) (ds := []) #[false, false, false, false, false, false, false, false, false, false, false, false, false, false, false, false, false, false] (by kernel_rfl) rfl rfl ⟨s3, s2, h00, h10, h20⟩ (fun hHeld => ?_)
  refine with_tabW R106.tab1 R106.bits1 (fun HT_ HW_ => ?_)
  refine bulk_ (fuel := 3) [(0, 6), (1, 7), (2, 8), (3, 9), (4, 10), (5, 11), (6, 12), (7, 13), (8, 14), (9, 15), (10, 16), (11, 17), (12, 18), (13, 19), (14, 20)] #[true, true, true, true, true, true, true, true, true, true, true, true, true, true, true, false, false, false] (bulkB_of HT_.out HW_.out _ _ _ (by kernel_rfl)) rfl (fun _ _ _ _ _ h => h) hHeld (a' := ?_) ?_ ?_
  rotate_left
  · iterate 15
      refine chain_cons (v := ?_) (a1 := ?_) rfl rfl (Or.inl ⟨by rfl, ?_⟩) ?_ ?_
      rotate_left 2
      · rintro w' ⟨s0, s1, s2, s3, s4⟩
        go_simp
        with_reducible rfl
      · simp only [Act.put, List.setIfInBounds_toArray, List.set_cons_zero, List.set_cons_succ, i64_w, i32_w]
        rfl
    exact chain_nil
  refine one_ (i := 15) (N := none) #[true, true, true, true, true, true, true, true, true, true, true, true, true, true, true, true, false, false] rfl rfl (one_of HT_.out (by kernel_rfl)) (by decide) (fun K hK => ?_)
  refine skip_ (w1 := W1) (by rfl) rfl ?_ ?_
  · rw [hW1]
    first | (go_simp; done) | (go_simp; rfl)
  refine hK.out _ _ ⟨s31, s21, h01, h11, h21⟩ (fun hHeld => ?_)
  clear hK K
  refine bulk_ (fuel := 1) [(16, 21)] #[true, true, true, true, true, true, true, true, true, true, true, true, true, true, true, true, true, false] (bulkB_of HT_.out HW_.out _ _ _ (by kernel_rfl)) rfl (fun _ _ _ _ _ h => h) hHeld (a' := ?_) ?_ ?_
  rotate_left
  · iterate 1
      refine chain_cons (v := ?_) (a1 := ?_) rfl rfl (Or.inl ⟨by rfl, ?_⟩) ?_ ?_
      rotate_left 2
      · rintro w' ⟨s0, s1, s2, s3, s4⟩
        go_simp
        with_reducible rfl
      · simp only [Act.put, List.setIfInBounds_toArray, List.set_cons_zero, List.set_cons_succ, i64_w, i32_w]
        rfl
    exact chain_nil
  refine one_ (i := 17) (N := none) #[true, true, true, true, true, true, true, true, true, true, true, true, true, true, true, true, true, true] rfl rfl (one_of HT_.out (by kernel_rfl)) (by decide) (fun K hK => ?_)
  clear hW1
  refine skip_ (w1 := W2) (by rfl) rfl ?_ ?_
  · rw [hW2]
    first | (go_simp; done) | (go_simp; rfl)
  refine hK.out _ _ ⟨s32, s22, h02, h12, h22⟩ (fun hHeld => ?_)
  clear hK K
  refine done_ (done_of HT_.out (by kernel_rfl)) ?_
  clear s3 s2 h00 h10 h20 gs0 gsf s31 s21 h01 h11 h21 v0 v1 vf0 vf1 s32 s22 h02 h12 h22 hW2 hHeld
  have HD2 := D2'.out.below (below_drew (Below.refl _ _))
  have h34 := blk_below H32.out (below_drew (Below.refl _ _))
  have s5 : W2.drew.cell? ⟨X.s, 5, none⟩ = some (.slice (some ⟨X.gu, 0, none⟩) X.n X.cu) := by rw [blk_cell HD2.hs 5]; rfl
  have h03 : W2.drew.cell? ⟨b3, 0, none⟩ = some (.int .i64 c.f0) := by rw [blk_cell h34 0]; rfl
  obtain ⟨vk, hu, hRk, _⟩ := slice_cell (Kd.S_R HD2.hU) c.f0 h0 h1
  rw [HL.out] at hRk
  obtain ⟨Ak, ck, rfl⟩ := Kd.R_slice hRk
  rw [HVS.out, HST.out] at HD2
  have HDD := Aside0.mk HD2
  have HRk := Aside0.mk hRk
  clear D2' H32 HD2 h34 hRk
  go_upto_region 2 with (fail)
  refine start_ (n := 10) (S := fun w' => w'.cell? ⟨X.s, 5, none⟩ = some (.slice (some ⟨X.gu, 0, none⟩) X.n X.cu) ∧ w'.cell? ⟨b3, 0, none⟩ = some (.int .i64 c.f0) ∧ w'.cell? ⟨X.gu, c.f0.toNat, none⟩ = some (.slice Ak l.length ck)) (ds := []) #[false, false, false, false, false, false, false, false, false, false] (by kernel_rfl) rfl rfl ⟨s5, h03, hu⟩ (fun hHeld => ?_)
  refine with_tabW R106.tab2 R106.bits2 (fun HT_ HW_ => ?_)
  refine bulk_ (fuel := 0) [(0, 22), (1, 23), (2, 24), (3, 25), (4, 26), (5, 27), (6, 28), (7, 29), (8, 30), (9, 31)] #[true, true, true, true, true, true, true, true, true, true] (bulkB_of HT_.out HW_.out _ _ _ (by kernel_rfl)) rfl (fun _ _ _ _ _ h => h) hHeld (a' := ?_) ?_ ?_
  rotate_left
  · iterate 10
      refine chain_cons (v := ?_) (a1 := ?_) rfl rfl (Or.inl ⟨by rfl, ?_⟩) ?_ ?_
      rotate_left 2
      · rintro w' ⟨s0, s1, s2⟩
        go_simp
        with_reducible rfl
      · simp only [Act.put, List.setIfInBounds_toArray, List.set_cons_zero, List.set_cons_succ, i64_w, i32_w]
        rfl
    exact chain_nil
  refine done_ (done_of HT_.out (by kernel_rfl)) ?_
  clear s5 h03 hu hHeld
  generalize W2.drew = w2 at *
  clear HL HVS HST
  have hl64 : l.length < 1000000 := by omega
  have HOK := Aside0.mk hok
  have HUS := Aside0.mk hus
  clear hok hus
  go_wp2_with fail
  go_loopg [31] (l.length + 1) (fun g v31 wr => ∃ (i : Nat) (p : List Int × QQ), v31 = .int .i64 i ∧ Aside0 (i ≤ l.length) ∧ Aside0 (l.length - i < g) ∧ Aside0 (SS X wr vs' st' p.1 us ed p.2) ∧ Aside0 (Kd.R (Kd.int .i64) 3 wr X.w0.heap.size (fun k => (k ≠ X.go ∧ k ≠ X.ge) ∧ k ≠ X.gu) (.slice Ak l.length ck) l) ∧
    Aside0 (p.2.es.length + (l.length - i) < 1000000) ∧ Aside0 (settleL X.es vs' st' (l.drop i) p = settleL X.es vs' st' l (op, Q)) ∧ Aside0 (Keep24 w wr))
  case atStart => exact ⟨0, (op, Q), by go_num, ⟨by omega⟩, ⟨by omega⟩, HDD, HRk, ⟨by omega⟩, ⟨rfl⟩, K2⟩
  case round =>
    obtain ⟨i, p, rfl, hi, hg, HS, HR, hQl, HE, HK⟩ := hrel
    clear HDD HRk hsz K2
    by_cases hin : i < l.length
    · obtain ⟨ad, rfl, ht⟩ := int_at (Kd.R_reads' HR.out).2.2 i hin
      have hmem : l.getD i 0 ∈ l := by rw [List.getD_eq_getElem?_getD, List.getElem?_eq_getElem hin]; exact List.getElem_mem _
      have hkr := HUS.out _ hmem
      have hdr : l.drop i = l.getD i 0 :: l.drop (i + 1) := by
        rw [List.drop_eq_getElem_cons hin, List.getD_eq_getElem?_getD, List.getElem?_eq_getElem hin]
        rfl
      have hE := HE.out
      rw [hdr] at hE
      clear HE hdr hmem
      generalize l.getD i 0 = k at *
      obtain ⟨hk0, hk1⟩ := hkr
      have hE' : settleL X.es vs' st' (l.drop (i + 1)) (settleStep X.es vs' st' p k) = settleL X.es vs' st' l (op, Q) := hE
      have HE := Aside0.mk hE'
      clear hE hE'
      obtain ⟨o0, of0⟩ := scal_cell HS.out.hO 0 k hk0 hk1
      have hput := Kd.R_putg HS.out.hO k (wrap64 (rd p.1 k - 1))
      have hstep : settleStep X.es vs' st' p k = if rd (p.1.set k.toNat (wrap64 (rd p.1 k - 1))) k = 0 then (p.1.set k.toNat (wrap64 (rd p.1 k - 1)), offerQ X.es vs' st' p.2 k) else (p.1.set k.toNat (wrap64 (rd p.1 k - 1)), p.2) := rfl
      have hlen : k.toNat < p.1.length := by have := HS.out.lens.2.2.1; omega
      have hrd : rd (p.1.set k.toNat (wrap64 (rd p.1 k - 1))) k = wrap64 (rd p.1 k - 1) := by simp [rd, List.getD_eq_getElem?_getD, List.getElem?_set, hlen]
      rw [hrd] at hstep
      rw [show p.1.getD k.toNat 0 = rd p.1 k from rfl] at o0
      generalize rd p.1 k = x at *
      have D1 := HS.out.setO hput.1 hput.2
      obtain ⟨kc3, hkc3⟩ := Kd.R_typed HS.out.hO X.go rfl
      have HK1 := Aside0.mk (HK.out.trans (Keep24.of_grown hkc3 (by decide) hput.2))
      clear hkc3
      have hR1 := Kd.R_grown HR.out hput.2 (fun k hk e => hk.1.1 (by injection e))
      have o1 := (scal_cell D1.hO 0 k hk0 hk1).1
      rw [show (p.1.set k.toNat (wrap64 (x - 1))).getD k.toNat 0 = wrap64 (x - 1) from hrd] at o1
      have s4 : wr.cell? ⟨X.s, 4, none⟩ = some (.slice (some ⟨X.go, 0, none⟩) X.es.length X.co) := by rw [blk_cell HS.out.hs 4]; rfl
      have s41 : (wr.setCell ⟨X.go, k.toNat, none⟩ (.int .i64 (wrap64 (x - 1)))).cell? ⟨X.s, 4, none⟩ = some (.slice (some ⟨X.go, 0, none⟩) X.es.length X.co) := by rw [blk_cell D1.hs 4]; rfl
      have HD1 := Aside0.mk D1
      have HR1 := Aside0.mk hR1
      have HST := Aside0.mk hstep
      clear hput hrd D1 hR1 hstep HS HR
      by_cases hy : wrap64 (x - 1) = 0
      · have hyb : (wrap64 (x - 1) == 0) = true := by simp [hy]
        have HY := Aside0.mk hy
        clear hy
        go_wp2_with (first | (go_at_call 104; refine (offer_calls X _ vs' st' _ us ed p.2 HD1.out HOK.out k hk0 hk1 (by have := hQl.out; omega)).mono ?_; rintro e w5 ⟨rfl, hS5, hF5⟩; have HS5 := Aside0.mk hS5; have HF5 := Aside0.mk hF5; clear hS5 hF5))
        go_roundg (l.length - i)
        case measure => have := hg.out; omega
        case rel =>
          exact ⟨i + 1, settleStep X.es vs' st' p k, by go_num, ⟨by omega⟩, ⟨by omega⟩, ⟨by rw [HST.out, if_pos HY.out]; exact HS5.out⟩, ⟨R_qf0 HR1.out (by decide) HF5.out⟩, ⟨by rw [HST.out, if_pos HY.out]; have := offerQ_length X.es vs' st' p.2 k; have := hQl.out; simp only; omega⟩, HE, ⟨HK1.out.trans (Keep24.of_qf HF5.out)⟩⟩
      · have hyb : (wrap64 (x - 1) == 0) = false := by simp [hy]
        have HY := Aside0.mk hy
        clear hy
        go_wp2_with fail
        go_roundg (l.length - i)
        case measure => have := hg.out; omega
        case rel =>
          exact ⟨i + 1, settleStep X.es vs' st' p k, by go_num, ⟨by omega⟩, ⟨by omega⟩, ⟨by rw [HST.out, if_neg HY.out]; exact HD1.out⟩, HR1, ⟨by rw [HST.out, if_neg HY.out]; have := hQl.out; simp only; omega⟩, HE, HK1⟩
    · obtain rfl : i = l.length := by have := hi.out; omega
      have hin' : ¬ ((l.length : Int) < (l.length : Int)) := by omega
      go_wp2_with fail
      go_end0
      have hE := HE.out
      rw [List.drop_length] at hE
      have hE' : p = settleL X.es vs' st' l (op, Q) := hE
      rw [← hE']
      exact ⟨rfl, HS.out, HK.out⟩
end Go.Proofs.Ytamimodkcbbpmaa.Pr
end
section
/- Knuth's algorithm as Lean functions: its main loop, what the loop keeps, and what grows less in it. -/
namespace Go.Proofs.Ytamimodkcbbpmaa.Pr
open Go.RowKit Go.Proofs.YtamimodkcbbpmaaW.PrintWords Go.Proofs.YtamimodkcbbpmaaW.PrintLast Go.Proofs.YtamimodkcbbpmaaXW Go.Proofs.YtamimodkcbbpmaaXM
set_option linter.unusedVariables false
set_option linter.unusedSimpArgs false

theorem rd139_mem (es : List S139) (i : Int) (h0 : 0 ≤ i) (h1 : i < (es.length : Int)) : rd_T139 es i ∈ es := by
  have hk : i.toNat < es.length := by omega
  simp only [rd_T139, List.getD_eq_getElem?_getD, List.getElem?_eq_getElem hk, Option.getD_some]
  exact List.getElem_mem _
theorem swpE_mem {es : List S139} {i j : Int} (hi0 : 0 ≤ i) (hi : i < (es.length : Int)) (hj0 : 0 ≤ j) (hj : j < (es.length : Int)) {x : S139} (h : x ∈ swpE es i j) : x ∈ es := by
  unfold swpE at h
  rcases List.mem_or_eq_of_mem_set h with h | rfl
  · rcases List.mem_or_eq_of_mem_set h with h | rfl
    · exact h
    · exact rd139_mem es j hj0 hj
  · exact rd139_mem es i hi0 hi
theorem upE_mem : ∀ (k : Nat) (es : List S139) (i : Nat), i < es.length → ∀ x, x ∈ upE k es i → x ∈ es
  | 0, es, i, _, x, h => h
  | k + 1, es, 0, _, x, h => h
  | k + 1, es, m + 1, hi, x, h => by
    unfold upE at h
    split at h
    · have := upE_mem k _ (m / 2) (by rw [swpE_length]; omega) x h
      exact swpE_mem (by omega) (by omega) (by omega) (by omega) this
    · exact h
theorem downE_length : ∀ (k : Nat) (es : List S139) (i : Nat), (downE k es i).length = es.length
  | 0, es, i => rfl
  | k + 1, es, i => by
    unfold downE
    split
    · rfl
    · rw [downE_length, swpE_length]
theorem downE_mem : ∀ (k : Nat) (es : List S139) (i : Nat), i < es.length → ∀ x, x ∈ downE k es i → x ∈ es
  | 0, es, i, _, x, h => h
  | k + 1, es, i, hi, x, h => by
    unfold downE at h
    have hl := (lstE_lt es i hi 2).1
    split at h
    · exact h
    · have := downE_mem k _ (lstE es i 2) (by rw [swpE_length]; exact hl) x h
      exact swpE_mem (by omega) (by omega) (by omega) (by omega) this
theorem popE_length (es : List S139) : (popE es).length = es.length - 1 := by
  unfold popE
  rw [downE_length, List.length_take, swpE_length]
  omega
theorem popE_mem (e0 : S139) (es : List S139) (x : S139) (h : x ∈ popE (e0 :: es)) : x ∈ e0 :: es := by
  unfold popE at h
  have hl : ((e0 :: es).length : Int) = (es.length : Int) + 1 := by simp
  by_cases hn : es = []
  · subst hn
    simp [downE] at h
  · have hpos : 0 < es.length := by cases es with | nil => exact absurd rfl hn | cons _ _ => simp
    have h2 := downE_mem _ _ 0 (by rw [List.length_take, swpE_length]; simp only [List.length_cons]; omega) x h
    exact swpE_mem (by omega) (by omega) (by omega) (by simp only [List.length_cons]; omega) (List.mem_of_mem_take h2)

/-- The queue's entries are of nodes. -/
def okQ (N : Nat) (Q : QQ) : Prop := ∀ x, x ∈ Q.es → 0 ≤ x.f0.f0 ∧ x.f0.f0 < (N : Int)
theorem okQ_push {N : Nat} {Q : QQ} {c : S124} (h : okQ N Q) (hc : 0 ≤ c.f0 ∧ c.f0 < (N : Int)) : okQ N (pushQ Q c) := by
  intro x hx
  have := upE_mem _ _ Q.es.length (by simp) x hx
  rcases List.mem_append.1 this with h1 | h1
  · exact h x h1
  · rw [List.mem_singleton] at h1
    subst h1
    exact hc
theorem okQ_offer {N : Nat} {es : List S54} {vs : List S34} {st : List Bool} {Q : QQ} {k : Int} (h : okQ N Q) (hE : okE N es) (h0 : 0 ≤ k) (h1 : k < (es.length : Int)) : okQ N (offerQ es vs st Q k) := by
  unfold offerQ
  split
  · exact okQ_push h (okE_rd hE k h0 h1).1
  · exact h
theorem settleL_keep {N : Nat} {es : List S54} {vs : List S34} {st : List Bool} (hE : okE N es) : ∀ (l : List Int) (p : List Int × QQ), (∀ k, k ∈ l → 0 ≤ k ∧ k < (es.length : Int)) → okQ N p.2 → okQ N (settleL es vs st l p).2 ∧ (settleL es vs st l p).2.es.length ≤ p.2.es.length + l.length
  | [], p, _, h => ⟨h, Nat.le_refl _⟩
  | k :: l, p, hk, h => by
    have hk0 := hk k (List.mem_cons_self ..)
    have h2 : okQ N (settleStep es vs st p k).2 ∧ (settleStep es vs st p k).2.es.length ≤ p.2.es.length + 1 := by
      unfold settleStep
      split
      · exact ⟨okQ_offer h hE hk0.1 hk0.2, offerQ_length _ _ _ _ _⟩
      · exact ⟨h, Nat.le_succ _⟩
    have ih := settleL_keep (vs := vs) (st := st) hE l (settleStep es vs st p k) (fun x hx => hk x (List.mem_cons_of_mem _ hx)) h2.1
    refine ⟨ih.1, Nat.le_trans ih.2 ?_⟩
    rw [List.length_cons]
    omega

structure MS where
  vs : List S34
  st : List Bool
  op : List Int
  Q : QQ
def mainStep (es : List S54) (us : List (List Int)) (m : MS) (e0 : S139) : MS :=
  if m.st.getD e0.f0.f0.toNat false = true then ⟨m.vs, m.st, m.op, ⟨popE m.Q.es, m.Q.nx, m.Q.ck⟩⟩
  else ⟨m.vs.set e0.f0.f0.toNat e0.f0.f1, m.st.set e0.f0.f0.toNat true,
    (settleL es (m.vs.set e0.f0.f0.toNat e0.f0.f1) (m.st.set e0.f0.f0.toNat true) (us.getD e0.f0.f0.toNat []) (m.op, ⟨popE m.Q.es, m.Q.nx, m.Q.ck⟩)).1,
    (settleL es (m.vs.set e0.f0.f0.toNat e0.f0.f1) (m.st.set e0.f0.f0.toNat true) (us.getD e0.f0.f0.toNat []) (m.op, ⟨popE m.Q.es, m.Q.nx, m.Q.ck⟩)).2⟩
def mainL (es : List S54) (us : List (List Int)) : Nat → MS → MS
  | 0, m => m
  | k + 1, m => match m.Q.es with
    | [] => m
    | e0 :: _ => mainL es us k (mainStep es us m e0)
/-- What is left to be offered. -/
def wt : List (List Int) → List Bool → Nat
  | u :: us, b :: st => (if b then 0 else u.length) + wt us st
  | _, _ => 0
theorem wt_set : ∀ (us : List (List Int)) (st : List Bool) (t : Nat), t < st.length → st.length = us.length → st.getD t false = false → wt us (st.set t true) + (us.getD t []).length = wt us st
  | [], [], t, h, _, _ => by simp at h
  | u :: us, b :: st, 0, _, _, hb => by
    have : b = false := by simpa using hb
    subst this
    simp [wt]
    omega
  | u :: us, b :: st, t + 1, h, hl, hb => by
    have ih := wt_set us st t (by simpa using h) (by simpa using hl) (by simpa using hb)
    simp only [List.set_cons_succ, wt, List.getD_cons_succ]
    omega
  | [], _ :: _, _, _, h, _ => by simp at h
  | _ :: _, [], _, _, h, _ => by simp at h
def mu (us : List (List Int)) (m : MS) : Nat := m.Q.es.length + wt us m.st
/-- What the main loop keeps. -/
structure okM (N : Nat) (es : List S54) (us : List (List Int)) (m : MS) : Prop where
  q : okQ N m.Q
  vl : m.vs.length = N
  sl : m.st.length = N
  ul : us.length = N
  us : ∀ t k, k ∈ us.getD t [] → 0 ≤ k ∧ k < (es.length : Int)
theorem okM_step {N : Nat} {es : List S54} {us : List (List Int)} {m : MS} {e0 : S139} {r : List S139} (h : okM N es us m) (hE : okE N es) (hq : m.Q.es = e0 :: r) : okM N es us (mainStep es us m e0) ∧ mu us (mainStep es us m e0) < mu us m := by
  have hpl : (popE m.Q.es).length = r.length := by rw [popE_length, hq]; rfl
  have hpq : okQ N ⟨popE m.Q.es, m.Q.nx, m.Q.ck⟩ := fun x hx => h.q x (by rw [hq]; exact popE_mem e0 r x (by rw [← hq]; exact hx))
  have he0 := h.q e0 (by rw [hq]; exact List.mem_cons_self ..)
  have hml : m.Q.es.length = r.length + 1 := by rw [hq]; rfl
  unfold mainStep
  split
  · refine ⟨⟨hpq, h.vl, h.sl, h.ul, h.us⟩, ?_⟩
    simp only [mu, hpl, hml]
    omega
  · rename_i hst
    have hst' : m.st.getD e0.f0.f0.toNat false = false := by simpa using hst
    have hk := settleL_keep (vs := m.vs.set e0.f0.f0.toNat e0.f0.f1) (st := m.st.set e0.f0.f0.toNat true) hE (us.getD e0.f0.f0.toNat []) (m.op, ⟨popE m.Q.es, m.Q.nx, m.Q.ck⟩) (fun k hk => h.us _ k hk) hpq
    refine ⟨⟨hk.1, by simp [h.vl], by simp [h.sl], h.ul, h.us⟩, ?_⟩
    have hw := wt_set us m.st e0.f0.f0.toNat (by rw [h.sl]; omega) (by rw [h.sl, h.ul]) hst'
    have hk2 := hk.2
    simp only [mu] at hk2 ⊢
    simp only [hpl] at hk2
    rw [hml]
    omega
end Go.Proofs.Ytamimodkcbbpmaa.Pr
end
section
/- Knuth's solver: what its loops build, as Lean functions. -/
namespace Go.Proofs.Ytamimodkcbbpmaa.Pr
open Go.RowKit Go.Proofs.YtamimodkcbbpmaaW.PrintWords Go.Proofs.YtamimodkcbbpmaaW.PrintLast Go.Proofs.YtamimodkcbbpmaaXW Go.Proofs.YtamimodkcbbpmaaXM
set_option linter.unusedVariables false
set_option linter.unusedSimpArgs false

/-- A row of one value that is filled from the left with another. -/
def filA {α : Type} (n : Nat) (a b : α) (i : Nat) : List α := List.replicate i a ++ List.replicate (n - i) b
theorem filA_zero {α : Type} (n : Nat) (a b : α) : filA n a b 0 = List.replicate n b := by simp [filA]
theorem filA_end {α : Type} (n : Nat) (a b : α) : filA n a b n = List.replicate n a := by simp [filA]
theorem filA_set {α : Type} (n : Nat) (a b : α) (i : Nat) (hi : i < n) : (filA n a b i).set i a = filA n a b (i + 1) := by
  unfold filA
  rw [List.set_append_right _ _ (by simp), List.length_replicate, Nat.sub_self, show n - i = (n - (i + 1)) + 1 by omega, List.replicate_succ, List.set_cons_zero, List.replicate_succ', List.append_assoc, List.singleton_append]

theorem qs_grown3 {base q t : Nat} {w w1 : World} {es : List S139} {nx ck : Int} {row : Option Nat} (h : QS base w q es nx ck) (hc : ∀ k, row = some k → ∃ cells, w.heap[k]? = some (.cells cells t (0, 0))) (h1 : t ≠ 135) (h2 : t ≠ 139) (hg : w.grownBy w1 row) : QS base w1 q es nx ck := by
  obtain ⟨v, bm, ents, mc, hq, hbq, hR, hm, hbm, hks⟩ := h
  have e1 : some q ≠ row := by rintro rfl; obtain ⟨cells, hc⟩ := hc q rfl; rw [hq] at hc; injection hc with hc; injection hc with _ hc; exact h1 hc.symm
  have e2 : some bm ≠ row := by rintro rfl; obtain ⟨cells, hc⟩ := hc bm rfl; rw [hm] at hc; cases hc
  refine ⟨v, bm, ents, mc, blk_grown hq hg e1, hbq, ?_, blk_grown hm hg e2, hbm, hks⟩
  refine Kd.R_mono (Kd.R_grown (Kd.R_bound hR) hg (fun k hk => ?_)) (fun _ _ => trivial)
  obtain ⟨_, _, _, x, hx, cells', hc'⟩ := hk
  have hx' : x ∈ [139] := hx
  rw [List.mem_singleton] at hx'
  rintro rfl
  obtain ⟨cells, hc⟩ := hc k rfl
  rw [hc] at hc'
  injection hc' with hc'
  injection hc' with _ hc'
  exact h2 (hc'.trans hx')
theorem SS.uses {X : Ctx} {w w1 w2 : World} {vs : List S34} {st : List Bool} {op : List Int} {us us' : List (List Int)} {ed : List Int} {Q : QQ} (h : SS X w vs st op us ed Q) {v : Value} {l : List Int} {oki : Nat → Prop} (hv : Kd.R (Kd.int .i64) 3 w X.w0.heap.size oki v l) (hok : ∀ k, oki k → k ≠ X.go ∧ k ≠ X.ge)
    (hg : w.grownBy w1 v.ownBlock) (hB1 : Below X.w0.heap.size X.w0 w1) (hg2 : w1.grownBy w2 (some X.gu)) (hU : Kd.S (Kd.slice 3 (Kd.int .i64)) 44 w2 X.w0.heap.size (fun k => k ≠ X.go ∧ k ≠ X.ge) (.slice (some ⟨X.gu, 0, none⟩) X.n X.cu) us') : SS X w2 vs st op us' ed Q := by
  have ht := Kd.R_typed hv
  obtain ⟨uc, huc⟩ := Kd.S_typed h.hU X.gu rfl
  have huc1 := blk_grown huc hg (Kd.R_ne hv huc (by decide))
  have hub := Kd.S_base h.hU X.gu rfl
  have ht1 : ∀ k, (Value.slice (some ⟨X.gu, 0, none⟩) X.n X.cu).ownBlock = some k → ∃ cells, w1.heap[k]? = some (.cells cells 44 (0, 0)) := fun k hk => by
    obtain rfl : X.gu = k := by simpa [Value.ownBlock] using hk
    exact ⟨_, huc1⟩
  have hg2' : w1.grownBy w2 (Value.slice (some ⟨X.gu, 0, none⟩) X.n X.cu).ownBlock := hg2
  have hO1 := Kd.R_mono (ok' := fun k => k ≠ X.ge) (Kd.R_grown (Kd.R_tight rfl h.hO) hg (fun k hk e => by
    obtain rfl : k = X.go := by simpa [Value.ownBlock] using hk
    exact (hok _ (hv.1 _ e.symm)).1 rfl)) (fun k hk => by
    obtain rfl : k = X.go := by simpa [Value.ownBlock] using hk
    exact h.hO.1 _ rfl)
  have hE1 := Kd.R_mono (ok' := fun k => k ≠ X.go) (Kd.R_grown (Kd.R_tight rfl h.hE) hg (fun k hk e => by
    obtain rfl : k = X.ge := by simpa [Value.ownBlock] using hk
    exact (hok _ (hv.1 _ e.symm)).2 rfl)) (fun k hk => by
    obtain rfl : k = X.ge := by simpa [Value.ownBlock] using hk
    exact h.hE.1 _ rfl)
  exact ⟨pw_below_grown hB1 _ hB1.size hg2 (fun k hk => by injection hk with hk; subst hk; exact hub), blk_grown (blk_grown h.hs hg (Kd.R_ne hv h.hs (by decide))) hg2 (by
      intro e; injection e with e; have := blk_grown h.hs hg (Kd.R_ne hv h.hs (by decide)); rw [e, huc1] at this; injection this with this; injection this with _ this; exact absurd this (by decide)), h.hsb, h.hC,
    Kd.R_over' (Kd.R_over h.hV hv (by decide) hg) ht1 (by decide) hg2', Kd.R_over' (Kd.R_over h.hS hv (by decide) hg) ht1 (by decide) hg2', Kd.R_over' hO1 ht1 (by decide) hg2', hU, Kd.R_over' hE1 ht1 (by decide) hg2',
    qs_grown3 (qs_grown3 h.hQ ht (by decide) (by decide) hg) ht1 (by decide) (by decide) hg2'⟩
/-- For each node the hyperedges of which it is a tail. -/
def usT (us : List (List Int)) (k : Int) (l : List Int) : List (List Int) := l.foldl (fun us t => us.set t.toNat (us.getD t.toNat [] ++ [k])) us
def usB (N : Nat) (es : List S54) : Nat → List (List Int)
  | 0 => List.replicate N []
  | i + 1 => usT (usB N es i) (i : Nat) (rd_T54 es (i : Nat)).f1
def opB (es : List S54) (i : Nat) : List Int := (es.take i).map (fun e => (e.f1.length : Int)) ++ List.replicate (es.length - i) 0
theorem opB_set (es : List S54) (i : Nat) (hi : i < es.length) : (opB es i).set i ((rd_T54 es (i : Nat)).f1.length : Int) = opB es (i + 1) := by
  unfold opB
  have h1 : ((es.take i).map (fun e => (e.f1.length : Int))).length = i := by rw [List.length_map, List.length_take]; omega
  rw [List.set_append_right _ _ (by omega), h1, Nat.sub_self, show es.length - i = (es.length - (i + 1)) + 1 by omega, List.replicate_succ, List.set_cons_zero, List.take_succ_eq_append_getElem hi, List.map_append]
  simp [rd_T54, List.getD_eq_getElem?_getD, List.getElem?_eq_getElem hi]

theorem usT_take (us : List (List Int)) (k : Int) (l : List Int) (j : Nat) (hj : j < l.length) : usT us k (l.take (j + 1)) = (usT us k (l.take j)).set (l.getD j 0).toNat ((usT us k (l.take j)).getD (l.getD j 0).toNat [] ++ [k]) := by
  have e : l.getD j 0 = l[j] := by rw [List.getD_eq_getElem?_getD, List.getElem?_eq_getElem hj]; rfl
  rw [e]
  show List.foldl _ us (l.take (j + 1)) = _
  rw [List.take_succ_eq_append_getElem hj, List.foldl_append]
  rfl
theorem usT_len (us : List (List Int)) (k : Int) : ∀ (l : List Int) (t : Nat), ((usT us k l).getD t []).length ≤ (us.getD t []).length + l.length
  | [], t => Nat.le_refl _
  | x :: l, t => by
    have h := usT_len (us.set x.toNat (us.getD x.toNat [] ++ [k])) k l t
    have e : usT us k (x :: l) = usT (us.set x.toNat (us.getD x.toNat [] ++ [k])) k l := rfl
    rw [e]
    refine Nat.le_trans h ?_
    have h2 : ((us.set x.toNat (us.getD x.toNat [] ++ [k])).getD t []).length ≤ (us.getD t []).length + 1 := by
      simp only [List.getD_eq_getElem?_getD, List.getElem?_set]
      split
      · rename_i he
        split
        · subst he; simp
        · simp
      · omega
    rw [List.length_cons]
    omega
theorem usB_len (N : Nat) (es : List S54) (h : ∀ x, x ∈ es → x.f1.length ≤ 1000000) : ∀ (i : Nat) (t : Nat), i ≤ es.length → ((usB N es i).getD t []).length ≤ i * 1000000
  | 0, t, _ => by
    simp only [usB, List.getD_eq_getElem?_getD, List.getElem?_replicate]
    split <;> simp
  | i + 1, t, hi => by
    have h1 := usB_len N es h i t (by omega)
    have h2 := usT_len (usB N es i) (i : Nat) (rd_T54 es (i : Nat)).f1 t
    have h3 : (rd_T54 es (i : Nat)).f1.length ≤ 1000000 := h _ (by
      simp only [rd_T54, Int.toNat_natCast, List.getD_eq_getElem?_getD, List.getElem?_eq_getElem (show i < es.length by omega), Option.getD_some]
      exact List.getElem_mem _)
    have e : usB N es (i + 1) = usT (usB N es i) (i : Nat) (rd_T54 es (i : Nat)).f1 := rfl
    rw [e]
    omega

theorem opB_get (es : List S54) (k : Nat) (hk : k < es.length) : (opB es es.length).getD (k : Int).toNat 0 = ((rd_T54 es (k : Int)).f1.length : Int) := by
  simp [opB, rd_T54, List.getD_eq_getElem?_getD, hk]
/-- The queue behind the hyperedges without tails. -/
def initQ (es : List S54) (vs : List S34) (st : List Bool) : Nat → QQ
  | 0 => ⟨[], 0, 0⟩
  | k + 1 => if (rd_T54 es (k : Int)).f1.length = 0 then offerQ es vs st (initQ es vs st k) (k : Int) else initQ es vs st k
theorem initQ_succ (es : List S54) (vs : List S34) (st : List Bool) (k : Nat) : initQ es vs st (k + 1) = if (rd_T54 es (k : Int)).f1.length = 0 then offerQ es vs st (initQ es vs st k) (k : Int) else initQ es vs st k := rfl
theorem initQ_length (es : List S54) (vs : List S34) (st : List Bool) : ∀ k, (initQ es vs st k).es.length ≤ k
  | 0 => Nat.le_refl _
  | k + 1 => by
    have ih := initQ_length es vs st k
    rw [initQ_succ]
    split
    · exact Nat.le_trans (offerQ_length _ _ _ _ _) (by omega)
    · omega

theorem initQ_ok (n : Nat) (es : List S54) (hE : okE n es) (vs : List S34) (st : List Bool) : ∀ k, k ≤ es.length → okQ n (initQ es vs st k)
  | 0, _ => fun x hx => by simp [initQ] at hx
  | k + 1, hk => by
    have ih := initQ_ok n es hE vs st k (by omega)
    rw [initQ_succ]
    split
    · exact okQ_offer ih hE (by omega) (by omega)
    · exact ih
theorem usT_mem (us : List (List Int)) (k : Int) : ∀ (l : List Int) (t : Nat) (x : Int), x ∈ (usT us k l).getD t [] → x ∈ us.getD t [] ∨ x = k
  | [], t, x, h => Or.inl h
  | y :: l, t, x, h => by
    rcases usT_mem (us.set y.toNat (us.getD y.toNat [] ++ [k])) k l t x h with h1 | h1
    · simp only [List.getD_eq_getElem?_getD, List.getElem?_set] at h1 ⊢
      by_cases he : y.toNat = t
      · rw [if_pos he] at h1
        by_cases hl : y.toNat < us.length
        · rw [if_pos hl, Option.getD_some, List.mem_append, List.mem_singleton, he] at h1
          exact h1
        · rw [if_neg hl] at h1
          simp at h1
      · rw [if_neg he] at h1
        exact Or.inl h1
    · exact Or.inr h1
theorem usB_mem (n : Nat) (es : List S54) : ∀ (i t : Nat) (x : Int), i ≤ es.length → x ∈ (usB n es i).getD t [] → 0 ≤ x ∧ x < (i : Int)
  | 0, t, x, _, h => by
    simp only [usB, List.getD_eq_getElem?_getD, List.getElem?_replicate] at h
    split at h <;> simp at h
  | i + 1, t, x, hi, h => by
    rcases usT_mem (usB n es i) (i : Nat) (rd_T54 es (i : Nat)).f1 t x h with h | h
    · have := usB_mem n es i t x (by omega) h
      omega
    · omega
theorem usT_length (us : List (List Int)) (k : Int) : ∀ l : List Int, (usT us k l).length = us.length
  | [] => rfl
  | y :: l => (usT_length (us.set y.toNat (us.getD y.toNat [] ++ [k])) k l).trans (by simp)
theorem usB_length (n : Nat) (es : List S54) : ∀ i, (usB n es i).length = n
  | 0 => by simp [usB]
  | i + 1 => (usT_length _ _ _).trans (usB_length n es i)
theorem okM_init (n : Nat) (es : List S54) (hE : okE n es) (m0 : MS) (h : m0 = ⟨List.replicate n (⟨1099511627776, 0⟩ : S34), List.replicate n false, opB es es.length, initQ es (List.replicate n (⟨1099511627776, 0⟩ : S34)) (List.replicate n false) es.length⟩) : okM n es (usB n es es.length) m0 := by
  subst h
  exact ⟨initQ_ok n es hE _ _ _ (Nat.le_refl _), by simp, by simp, usB_length _ _ _, fun t k hk => usB_mem n es es.length t k (Nat.le_refl _) hk⟩
theorem sum_set_le : ∀ (us : List (List Int)) (t : Nat) (k : Int), ((us.set t (us.getD t [] ++ [k])).map List.length).sum ≤ (us.map List.length).sum + 1
  | [], t, k => by simp
  | u :: us, 0, k => by simp; omega
  | u :: us, t + 1, k => by
    have := sum_set_le us t k
    simp only [List.set_cons_succ, List.map_cons, List.sum_cons, List.getD_cons_succ]
    omega
theorem usT_sum (us : List (List Int)) (k : Int) : ∀ l : List Int, ((usT us k l).map List.length).sum ≤ (us.map List.length).sum + l.length
  | [] => Nat.le_refl _
  | y :: l => by
    have h := usT_sum (us.set y.toNat (us.getD y.toNat [] ++ [k])) k l
    have h2 := sum_set_le us y.toNat k
    have e : usT us k (y :: l) = usT (us.set y.toNat (us.getD y.toNat [] ++ [k])) k l := rfl
    rw [e, List.length_cons]
    omega
theorem usB_sum (n : Nat) (es : List S54) (hT : ∀ e, e ∈ es → e.f1.length ≤ 100) : ∀ i, i ≤ es.length → ((usB n es i).map List.length).sum ≤ i * 100
  | 0, _ => by simp [usB]
  | i + 1, hi => by
    have h1 := usB_sum n es hT i (by omega)
    have h2 := usT_sum (usB n es i) (i : Nat) (rd_T54 es (i : Nat)).f1
    have h3 : (rd_T54 es (i : Nat)).f1.length ≤ 100 := hT _ (by
      simp only [rd_T54, Int.toNat_natCast, List.getD_eq_getElem?_getD, List.getElem?_eq_getElem (show i < es.length by omega), Option.getD_some]
      exact List.getElem_mem _)
    have e : usB n es (i + 1) = usT (usB n es i) (i : Nat) (rd_T54 es (i : Nat)).f1 := rfl
    rw [e]
    omega
theorem wt_le : ∀ (us : List (List Int)) (st : List Bool), wt us st ≤ (us.map List.length).sum
  | u :: us, b :: st => by
    have := wt_le us st
    simp only [wt, List.map_cons, List.sum_cons]
    split <;> omega
  | [], _ => by simp [wt]
  | _ :: _, [] => by simp [wt]
theorem mu_init (n : Nat) (es : List S54) (hT : ∀ e, e ∈ es → e.f1.length ≤ 100) (he : es.length ≤ 1000) (m0 : MS) (h : m0 = ⟨List.replicate n (⟨1099511627776, 0⟩ : S34), List.replicate n false, opB es es.length, initQ es (List.replicate n (⟨1099511627776, 0⟩ : S34)) (List.replicate n false) es.length⟩) : mu (usB n es es.length) m0 < 1000000 := by
  subst h
  have h1 := usB_sum n es hT es.length (Nat.le_refl _)
  have h2 := wt_le (usB n es es.length) (List.replicate n false)
  have h3 := initQ_length es (List.replicate n (⟨1099511627776, 0⟩ : S34)) (List.replicate n false) es.length
  simp only [mu]
  omega

theorem mainL_succ (es : List S54) (us : List (List Int)) (k : Nat) (m : MS) (e0 : S139) (r : List S139) (h : m.Q.es = e0 :: r) : mainL es us (k + 1) m = mainL es us k (mainStep es us m e0) := by simp only [mainL, h]

theorem four_of {md : Region.Mode} {ops : Array Oper} {T : Bool × List (List Nat × List Nat)} {l : Array Bool} {rs : List Nat} (hT : rtab md ops = T) (h : (readyT T.2 l.toList == rs) = true) : Region.ready md ops l = rs := by
  subst hT
  rw [ready_eq]
  simpa using h
theorem below_none {w w1 : World} (h : w.grownBy w1 none) : Below w.heap.size w w1 := ⟨h.os, h.tape, h.output, h.size, fun k hk => h.block k hk (by simp)⟩
/-- No value. -/
abbrev infV : S34 := ⟨1099511627776, 0⟩
/-- The state before the main loop. -/
def m0L (n : Nat) (es : List S54) : MS := ⟨List.replicate n infV, List.replicate n false, opB es es.length, initQ es (List.replicate n infV) (List.replicate n false) es.length⟩
/-- The main loop's end. -/
def endM (n : Nat) (es : List S54) : MS := mainL es (usB n es es.length) 1000000 (m0L n es)
def eqV (a b : S34) : Bool := a.f0 == b.f0 && (a.f1 == b.f1)
theorem eqV_iff (a b : S34) : eqV a b = true ↔ a = b := by
  obtain ⟨a0, a1⟩ := a
  obtain ⟨b0, b1⟩ := b
  simp [eqV]
theorem ite_eqV (V y : S34) (w : World) : (if V.f0 = y.f0 then if V.f1 = y.f1 then Result.ok (Next.value (Value.bool true)) w else Result.ok (Next.value (Value.bool false)) w else Result.ok (Next.value (Value.bool false)) w) = Result.ok (Next.value (Value.bool (eqV V y))) w := by
  unfold eqV
  by_cases h0 : V.f0 = y.f0 <;> by_cases h1 : V.f1 = y.f1 <;> simp [h0, h1]
/-- The chosen hyperedges behind hyperedge k. -/
def edStep (es : List S54) (vs : List S34) (st : List Bool) (ed : List Int) (k : Nat) : List Int :=
  if ed.getD (rd_T54 es (k : Int)).f0.toNat 0 < 0 ∧ st.getD (rd_T54 es (k : Int)).f0.toNat false = true ∧ eqV (valE vs (rd_T54 es (k : Int))) (rd_T34 vs (rd_T54 es (k : Int)).f0) = true then ed.set (rd_T54 es (k : Int)).f0.toNat (k : Int) else ed
def edL (n : Nat) (es : List S54) (vs : List S34) (st : List Bool) : Nat → List Int
  | 0 => List.replicate n (-1)
  | k + 1 => edStep es vs st (edL n es vs st k) k
theorem edL_succ (n : Nat) (es : List S54) (vs : List S34) (st : List Bool) (k : Nat) : edL n es vs st (k + 1) = edStep es vs st (edL n es vs st k) k := rfl
/-- What Solve returns. -/
def solV (n : Nat) (es : List S54) : List S34 := (endM n es).vs
def solE (n : Nat) (es : List S54) : List Int := edL n es (endM n es).vs (endM n es).st es.length
theorem mainL_nil (es : List S54) (us : List (List Int)) (k : Nat) (m : MS) (h : m.Q.es = []) : mainL es us k m = m := by
  cases k with
  | zero => rfl
  | succ k => simp only [mainL, h]
end Go.Proofs.Ytamimodkcbbpmaa.Pr
end
section
/- hypergraph.Valid: its two loops, and the test it makes by a function literal. -/
namespace Go.Proofs.Ytamimodkcbbpmaa.Pr
open Go.RowKit Go.Proofs.YtamimodkcbbpmaaW.PrintWords Go.Proofs.YtamimodkcbbpmaaW.PrintLast Go.Proofs.YtamimodkcbbpmaaXW Go.Proofs.YtamimodkcbbpmaaXM
set_option linter.unusedVariables false
set_option linter.unusedSimpArgs false

def inR (n v : Int) : Bool := decide (0 ≤ v) && decide (v < n)
def edgeOk (n : Int) (e : S54) : Bool := (inR n e.f0 && (decide (0 ≤ e.f2) && decide (e.f2 ≤ 1099511627776))) && e.f1.all (inR n)
def hyValid (n : Int) (es : List S54) : Bool := (decide (1 ≤ n) && decide (n ≤ 1048576)) && es.all (edgeOk n)
def hypergraph_Valid.f (n : Int) (es : List S54) : Option Bool := some (hyValid n es)

theorem all_drop_cons {α : Type} (p : α → Bool) (l : List α) (z : α) (k : Nat) (h : k < l.length) : (l.drop k).all p = (p (l.getD k z) && (l.drop (k + 1)).all p) := by
  rw [List.drop_eq_getElem_cons h, List.all_cons, List.getD_eq_getElem?_getD, List.getElem?_eq_getElem h, Option.getD_some]

set_option maxHeartbeats 2000000 in
theorem in_calls (v : Int) (b : Nat) (n : Int) (S : Value) (w : World) (hb : w.heap[b]? = some (.cells #[.int .i64 n, S] 24 (0, 0))) :
    Calls Try.prog 101 #[.int .i64 v, .pointer (some ⟨b, 0, none⟩)] w fun e w' => e = .returned (.bool (inR n v)) ∧ Below w.heap.size w w' := by
  have h0 : w.cell? ⟨b, 0, none⟩ = some (.int .i64 n) := by rw [blk_cell hb 0]; rfl
  clear hb
  go_enter Try.func101, Try.ntmps101
  have HV : Aside0 (inR n v = (decide (0 ≤ v) && decide (v < n))) := ⟨rfl⟩
  by_cases h1 : 0 ≤ v
  · by_cases h2 : v < n
    · go_wp2
      go_ret
      exact ⟨by rw [HV.out, decide_eq_true h1, decide_eq_true h2]; rfl, Below.refl _ _⟩
    · go_wp2
      go_ret
      exact ⟨by rw [HV.out, decide_eq_true h1, decide_eq_false (by omega)]; rfl, Below.refl _ _⟩
  · go_wp2
    go_ret
    exact ⟨by rw [HV.out, decide_eq_false (by omega)]; rfl, Below.refl _ _⟩

set_option maxRecDepth 100000 in
set_option maxHeartbeats 8000000 in
theorem hypergraph_Valid.calls (n : Int) (A : Option Addr) (c : Nat) (es : List S54) (r : Bool) (w : World) (hC : Kd.C k54 w A es.length es) (hc : es.length ≤ c) (h : hypergraph_Valid.f n es = some r) :
    Calls Try.prog 78 #[.agg #[.int .i64 n, .slice A es.length c]] w fun e w' => e = .returned (.bool r) ∧ Below w.heap.size w w' := by
  injection h with h
  subst h
  have hl0 : es.length ≤ 9223372036854775807 := hC.2.1
  have hv : hyValid n es = ((decide (1 ≤ n) && decide (n ≤ 1048576)) && es.all (edgeOk n)) := rfl
  have HV := Aside0.mk hv
  clear hv
  have HC := Aside0.mk hC
  clear hC
  go_enter Try.func78, Try.ntmps78
  go_upto_region 1 with (fail)
  have hA0 := h_alloc54 w (.cells #[.int .i64 n, .slice A es.length c] 24)
  have HB := Aside0.mk hA0.1
  have hb1 := hA0.2
  obtain ⟨b1, e1⟩ : ∃ b1, b1 = w.heap.size := ⟨_, rfl⟩
  rw [← e1] at hb1 ⊢
  have E1 := Aside0.mk e1
  clear hA0 e1
  generalize (w.alloc (.cells #[.int .i64 n, .slice A es.length c] 24)) = wA at *
  have s0 : wA.cell? ⟨b1, 0, none⟩ = some (.int .i64 n) := by rw [blk_cell hb1 0]; rfl
  have s1 : wA.cell? ⟨b1, 1, none⟩ = some (.slice A es.length c) := by rw [blk_cell hb1 1]; rfl
  have HB1 := Aside0.mk hb1
  clear hb1
  by_cases h1 : n < 1
  · go_wp2
    go_ret
    exact ⟨by rw [HV.out, decide_eq_false (by omega)]; rfl, HB.out⟩
  · by_cases h2 : n > 1048576
    · go_wp2
      go_ret
      exact ⟨by rw [HV.out, decide_eq_true (show 1 ≤ n by omega), decide_eq_false (show ¬ n ≤ 1048576 by omega)]; rfl, HB.out⟩
    · have HV2 : Aside0 (hyValid n es = (es.drop 0).all (edgeOk n)) := ⟨by rw [HV.out, decide_eq_true (show 1 ≤ n by omega), decide_eq_true (show n ≤ 1048576 by omega)]; rfl⟩
      clear HV
      have hmf : ∀ (fn : Fn) (first cap : Array Value) (w : World), (Instr.makeFunc fn first cap).run Try.prog w = .ok (.func fn first cap) w := fun _ _ _ _ => rfl
      obtain ⟨wO, hwO⟩ : ∃ wO : World, wO = wA := ⟨_, rfl⟩
      go_wp2_with fail
      go_loopg [20] (es.length + 1) (fun g v20 wr => ∃ k : Nat, v20 = .int .i64 k ∧ Aside0 (k ≤ es.length) ∧ Aside0 (es.length - k < g) ∧ Aside0 (hyValid n es = (es.drop k).all (edgeOk n)) ∧ Aside0 (Below w.heap.size w wr) ∧ Aside0 (wr.heap[b1]? = some (.cells #[.int .i64 n, .slice A es.length c] 24 (0, 0))))
      case atStart => exact ⟨0, by go_num, ⟨by omega⟩, ⟨by omega⟩, HV2, HB, HB1⟩
      case round =>
        obtain ⟨k, rfl, hk, hg, HV, HB, HB1⟩ := hrel
        clear HV2 s0 s1
        by_cases hkn : k < es.length
        · obtain ⟨ad, A1, c1, hA, d0, d1, d2, d3, d4, hc1, hC1⟩ := at_T54 HC.out (k : Int) (by omega) (by omega)
          subst hA
          replace d0 := pw_cell_below HB.out d0; replace d1 := pw_cell_below HB.out d1; replace d2 := pw_cell_below HB.out d2; replace d3 := pw_cell_below HB.out d3; replace d4 := pw_cell_below HB.out d4
          have hstep := all_drop_cons (edgeOk n) es (rd_T54 es (k : Int)) k hkn
          have hge : es.getD k (rd_T54 es (k : Int)) = rd_T54 es (k : Int) := by
            simp only [rd_T54, Int.toNat_natCast, List.getD_eq_getElem?_getD, List.getElem?_eq_getElem hkn, Option.getD_some]
          rw [hge] at hstep
          have hlen : (rd_T54 es (k : Int)).f1.length ≤ 9223372036854775807 := hC1.2.1
          obtain ⟨e, he_⟩ : ∃ e, rd_T54 es (k : Int) = e := ⟨_, rfl⟩
          rw [he_] at d0 d1 d2 d3 d4 hc1 hC1 hstep hlen
          simp only [Int.toNat_natCast] at d0 d1 d2 d3 d4
          have HST := Aside0.mk (HV.out.trans hstep)
          have HC1 := Aside0.mk hC1
          clear he_ hge hstep hC1 HV
          go_upto_region 7 with (fail)
          have hA8 := h_alloc54 wr (.cells #[.int .i64 e.f0, .slice A1 e.f1.length c1, .int .i64 e.f2, .int .i64 e.f3.f0, .int .i64 e.f3.f1] 54)
          have HBA := Aside0.mk (below_step HB.out hA8.1)
          have HB1A := Aside0.mk (blk_below HB1.out hA8.1)
          have H8 := Aside0.mk hA8.2
          obtain ⟨b8, hb8⟩ : ∃ b8, b8 = wr.heap.size := ⟨_, rfl⟩
          rw [← hb8] at H8 ⊢
          clear hb8 hA8 HB HB1 d0 d1 d2 d3 d4
          generalize (wr.alloc (.cells #[.int .i64 e.f0, .slice A1 e.f1.length c1, .int .i64 e.f2, .int .i64 e.f3.f0, .int .i64 e.f3.f1] 54)) = wB at *
          have h80 : wB.cell? ⟨b8, 0, none⟩ = some (.int .i64 e.f0) := (by rw [blk_cell H8.out 0]; rfl)
          have HE : Aside0 (edgeOk n e = ((inR n e.f0 && (decide (0 ≤ e.f2) && decide (e.f2 ≤ 1099511627776))) && e.f1.all (inR n))) := ⟨rfl⟩
          obtain ⟨bi, hbi⟩ : ∃ bi, inR n e.f0 = bi := ⟨_, rfl⟩
          rw [hbi] at HE
          have HBI := Aside0.mk hbi
          clear hbi
          cases bi with
          | false =>
            go_wp2_with (first | (go_at_call 101; refine (in_calls e.f0 b1 n (.slice (some ad) es.length c) wB HB1A.out).mono ?_; rintro x w5 ⟨rfl, hB5⟩; rw [HBI.out]; have h825 : w5.cell? ⟨b8, 2, none⟩ = some (.int .i64 e.f2) := (by rw [blk_cell (blk_below H8.out hB5) 2]; rfl); have h815 : w5.cell? ⟨b8, 1, none⟩ = some (.slice A1 e.f1.length c1) := (by rw [blk_cell (blk_below H8.out hB5) 1]; rfl); have HB5 := Aside0.mk hB5; clear hB5))
            go_ret
            exact ⟨by rw [HST.out, HE.out]; rfl, below_step HBA.out HB5.out⟩
          | true =>
            by_cases hc0 : e.f2 < 0
            · go_wp2_with (first | (go_at_call 101; refine (in_calls e.f0 b1 n (.slice (some ad) es.length c) wB HB1A.out).mono ?_; rintro x w5 ⟨rfl, hB5⟩; rw [HBI.out]; have h825 : w5.cell? ⟨b8, 2, none⟩ = some (.int .i64 e.f2) := (by rw [blk_cell (blk_below H8.out hB5) 2]; rfl); have h815 : w5.cell? ⟨b8, 1, none⟩ = some (.slice A1 e.f1.length c1) := (by rw [blk_cell (blk_below H8.out hB5) 1]; rfl); have HB5 := Aside0.mk hB5; clear hB5))
              go_ret
              exact ⟨by rw [HST.out, HE.out, decide_eq_false (show ¬ 0 ≤ e.f2 by omega)]; rfl, below_step HBA.out HB5.out⟩
            · by_cases hc9 : e.f2 > 1099511627776
              · go_wp2_with (first | (go_at_call 101; refine (in_calls e.f0 b1 n (.slice (some ad) es.length c) wB HB1A.out).mono ?_; rintro x w5 ⟨rfl, hB5⟩; rw [HBI.out]; have h825 : w5.cell? ⟨b8, 2, none⟩ = some (.int .i64 e.f2) := (by rw [blk_cell (blk_below H8.out hB5) 2]; rfl); have h815 : w5.cell? ⟨b8, 1, none⟩ = some (.slice A1 e.f1.length c1) := (by rw [blk_cell (blk_below H8.out hB5) 1]; rfl); have HB5 := Aside0.mk hB5; clear hB5))
                go_ret
                exact ⟨by rw [HST.out, HE.out, decide_eq_true (show 0 ≤ e.f2 by omega), decide_eq_false (show ¬ e.f2 ≤ 1099511627776 by omega)]; rfl, below_step HBA.out HB5.out⟩
              · have HE2 : Aside0 (edgeOk n e = (e.f1.drop 0).all (inR n)) := ⟨by rw [HE.out, decide_eq_true (show 0 ≤ e.f2 by omega), decide_eq_true (show e.f2 ≤ 1099511627776 by omega)]; rfl⟩
                obtain ⟨wP, hwP⟩ : ∃ wP : World, wP = wr := ⟨_, rfl⟩
                obtain ⟨gP, hgP⟩ : ∃ gP : Nat, gP = gk := ⟨_, rfl⟩
                go_wp2_with (first | (go_at_call 101; refine (in_calls e.f0 b1 n (.slice (some ad) es.length c) wB HB1A.out).mono ?_; rintro x w5 ⟨rfl, hB5⟩; rw [HBI.out]; have h825 : w5.cell? ⟨b8, 2, none⟩ = some (.int .i64 e.f2) := (by rw [blk_cell (blk_below H8.out hB5) 2]; rfl); have h815 : w5.cell? ⟨b8, 1, none⟩ = some (.slice A1 e.f1.length c1) := (by rw [blk_cell (blk_below H8.out hB5) 1]; rfl); have HB5 := Aside0.mk hB5; clear hB5))
                have HB6 := Aside0.mk (below_step HBA.out HB5.out)
                have HB16 := Aside0.mk (blk_below HB1A.out HB5.out)
                have HC6 := Aside0.mk (Kd.C_below HC1.out HB6.out)
                clear h80 h825 h815 HB5 HBA HB1A H8
                go_loopg [42] (e.f1.length + 1) (fun g v42 wr => ∃ j : Nat, v42 = .int .i64 j ∧ Aside0 (j ≤ e.f1.length) ∧ Aside0 (e.f1.length - j < g) ∧ Aside0 (edgeOk n e = (e.f1.drop j).all (inR n)) ∧ Aside0 (Below w.heap.size w wr) ∧ Aside0 (wr.heap[b1]? = some (.cells #[.int .i64 n, .slice (some ad) es.length c] 24 (0, 0))))
                case atStart => exact ⟨0, by go_num, ⟨by omega⟩, ⟨by omega⟩, HE2, HB6, HB16⟩
                case round =>
                  obtain ⟨j, rfl, hj, hgj, HEJ, HBJ, HB1J⟩ := hrel
                  clear HE2 HB6 HB16 HC6
                  by_cases hjn : j < e.f1.length
                  · obtain ⟨ad2, hA2, t0⟩ := int_at HC1.out j hjn
                    subst hA2
                    replace t0 := pw_cell_below HBJ.out t0
                    have hst := all_drop_cons (inR n) e.f1 0 j hjn
                    obtain ⟨t, ht⟩ : ∃ t, e.f1.getD j 0 = t := ⟨_, rfl⟩
                    rw [ht] at t0 hst
                    obtain ⟨bt, hbt⟩ : ∃ bt, inR n t = bt := ⟨_, rfl⟩
                    rw [hbt] at hst
                    have HBT := Aside0.mk hbt
                    have HSJ := Aside0.mk (HEJ.out.trans hst)
                    clear ht hst hbt
                    cases bt with
                    | false =>
                      go_wp2_with (first | (go_at_call 101; refine (in_calls t b1 n (.slice (some ad) es.length c) wr HB1J.out).mono ?_; rintro x w5 ⟨rfl, hB5⟩; rw [HBT.out]; have HB5 := Aside0.mk hB5; clear hB5))
                      go_ret
                      exact ⟨by rw [HST.out, HSJ.out]; rfl, below_step HBJ.out HB5.out⟩
                    | true =>
                      go_wp2_with (first | (go_at_call 101; refine (in_calls t b1 n (.slice (some ad) es.length c) wr HB1J.out).mono ?_; rintro x w5 ⟨rfl, hB5⟩; rw [HBT.out]; have HB5 := Aside0.mk hB5; clear hB5))
                      go_roundg (e.f1.length - j)
                      case measure => have := hgj.out; omega
                      case rel => exact ⟨j + 1, by go_num, ⟨by omega⟩, ⟨by omega⟩, ⟨by rw [HSJ.out]; rfl⟩, ⟨below_step HBJ.out HB5.out⟩, ⟨blk_below HB1J.out HB5.out⟩⟩
                  · obtain rfl : j = e.f1.length := by have := hj.out; omega
                    have hjj : ¬ ((e.f1.length : Int) < (e.f1.length : Int)) := by omega
                    have HVK : Aside0 (hyValid n es = (es.drop (k + 1)).all (edgeOk n)) := ⟨by rw [HST.out, HEJ.out, List.drop_length]; rfl⟩
                    go_wp2_with fail
                    go_roundg (es.length - k)
                    case measure => have := hg.out; omega
                    case rel => exact ⟨k + 1, by go_num, ⟨by omega⟩, ⟨by omega⟩, HVK, HBJ, HB1J⟩
        · obtain rfl : k = es.length := by have := hk.out; omega
          have hkk : ¬ ((es.length : Int) < (es.length : Int)) := by omega
          go_wp2_with fail
          go_ret
          exact ⟨by rw [HV.out, List.drop_length]; rfl, HB.out⟩
end Go.Proofs.Ytamimodkcbbpmaa.Pr
end
