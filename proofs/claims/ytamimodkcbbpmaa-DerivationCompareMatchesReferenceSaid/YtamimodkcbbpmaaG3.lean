/- XF XG XH XI XK XL XValid: a part of the proof of the row of a; no conditions. -/
import Derived.Test.YtamimodkcbbpmaaG2
section
namespace Go.Proofs.Ytamimodkcbbpmaa.Pr
open Go.RowKit Go.Proofs.YtamimodkcbbpmaaW.PrintWords Go.Proofs.YtamimodkcbbpmaaW.PrintLast Go.Proofs.YtamimodkcbbpmaaXW Go.Proofs.YtamimodkcbbpmaaXM
set_option linter.unusedVariables false
set_option linter.unusedSimpArgs false
set_option maxHeartbeats 4000000 in
theorem MU (base q : Nat) (nx ck : Int) (w : World) (h : QS base w q [] nx ck) :
  Calls Try.prog 112 #[.pointer (some ⟨q, 0, none⟩), .int .i64 0] w fun e w' => e = .returned (.tuple #[]) ∧ QS base w' q [] nx ck ∧ QF base q w w' := by
 go_enter Try.func112, Try.ntmps112
 go_wp2_with fail
 go_loopg [1] 1 (fun g v1 wr => v1 = .int .i64 0 ∧ aa (QS base wr q [] nx ck) ∧ aa (QF base q w wr))
 case atStart => exact ⟨rfl, ⟨h⟩, ⟨QF.refl _ _ _⟩⟩
 case round =>
  obtain ⟨rfl, HQ, HF⟩ := hrel;clear h;obtain ⟨wO, rfl⟩ : ∃ wO : World, wO = wr := ⟨_, rfl⟩;obtain ⟨gO, rfl⟩ : ∃ gO : Nat, gO = gk := ⟨_, rfl⟩;go_wp2_with fail
  go_loopg [4, 5] 1 (fun g v4 v5 wr => v4 = .int .i64 0 ∧ v5 = .int .i64 1 ∧ aa (Below wO.heap.size wO wr))
  case atStart => exact ⟨rfl, by go_num, ⟨Below.refl _ _⟩⟩
  case round =>
   obtain ⟨rfl, rfl, HB⟩ := hrel;have Dt := aa.mk (lL HQ.out HB.out);obtain ⟨A, c, hq1⟩ := MQ Dt.out;have hF1 := aa.mk (HF.out.trans (QF.of_below HB.out (vR HQ.out) (O0 HQ.out)));go_wp2;refine bodyPost_ret (results_none (by rfl) _ _ _) rfl ?_;exact ⟨rfl, Dt.out, hF1.out⟩
def r9 (es : List dP) : List dP := mZ (es.length - 1) ((nK es 0 ((es.length - 1 : Nat) : Int)).take (es.length - 1)) 0
theorem Ty (base q : Nat) (es : List dP) (nx ck : Int) (w : World) (h : QS base w q es nx ck) (hsz : es.length ≤ 1000000) :
  Calls Try.prog 112 #[.pointer (some ⟨q, 0, none⟩), .int .i64 0] w fun e w' => e = .returned (.tuple #[]) ∧ QS base w' q (mZ es.length es 0) nx ck ∧ QF base q w w' := by
 cases es with
 | nil => exact MU base q nx ck w h
 | cons e es => exact down_calls base q (e :: es) nx ck 0 w h (by simp) hsz
theorem Du {base q k j t : Nat} {w : World} {es : List dP} {nx ck : Int} {cs : Array Value} (h : QS base w q es nx ck) (hk : w.heap[k]? = some (.cells cs t (0, 0))) (h1 : t ≠ 135) (h2 : t ≠ 139) (u : Value) : QS base (w.setCell ⟨k, j, none⟩ u) q es nx ck := by
 obtain ⟨v, bm, qy, mc, hq, hbq, hR, hm, EZ, hks⟩ := h;have e1 : q ≠ k := by rintro rfl; rw [hq] at hk; injection hk with hk; injection hk with _ hk; exact h1 hk.symm
 have e2 : bm ≠ k := by rintro rfl; rw [hm] at hk; cases hk
 exact ⟨v, bm, qy, mc, (Below.heap_setCell w ⟨k, j, none⟩ u q e1).trans hq, hbq, Kd.Ej hR hk (fun x hx => by intro e; have hx' : x ∈ [139] := hx; rw [List.mem_singleton] at hx'; exact h2 (e.symm.trans hx')) j u, (Below.heap_setCell w ⟨k, j, none⟩ u bm e2).trans hm, EZ, hks⟩
theorem vP.set {base k j : Nat} {w w1 : World} (h : vP base w w1) (hk : w.heap.size ≤ k) (hb : base ≤ w.heap.size) (u : Value) : vP base w (w1.setCell ⟨k, j, none⟩ u) :=
 ⟨h.below.setCell (Nat.le_trans hb hk) u, fun i cs t fr h1 h2 h3 => (Below.heap_setCell w1 ⟨k, j, none⟩ u i (by have := bE h1; simp; omega)).trans (h.keep i cs t fr h1 h2 h3)⟩
theorem size_alloc (w : World) (o : Obj) : (w.alloc o).heap.size = w.heap.size + 1 := by show (w.heap.push o).size = _; simp
set_option maxHeartbeats 4000000 in
theorem pop_empty (base q : Nat) (nx ck : Int) (w : World) (h : QS base w q [] nx ck) :
  Calls Try.prog 105 #[.pointer (some ⟨q, 0, none⟩)] w fun e w' => e = .returned (.tuple #[.agg #[.int .i64 0, .int .i64 0, .int .i64 0], .bool false]) ∧ QS base w' q [] nx ck ∧ vP base w w' := by
 go_enter Try.func105, Try.ntmps105
 have hB0 : Below w.heap.size w (w.alloc (.cells #[.int .i64 0, .int .i64 0, .int .i64 0] 124)) := dY (Below.refl _ _) _;go_upto_region 1 with (fail)
 have Dt := aa.mk (lL h hB0);have hx1 := heap_alloc_new w (.cells #[.int .i64 0, .int .i64 0, .int .i64 0] 124);obtain ⟨A, c, hq1⟩ := MQ Dt.out;have HB := aa.mk hB0;have hbs := vR h;clear hB0 h;generalize w.alloc (.cells #[.int .i64 0, .int .i64 0, .int .i64 0] 124) = wA at *;have hx2 : ∀ o, (wA.alloc o).heap[w.heap.size]? = some (.cells #[.int .i64 0, .int .i64 0, .int .i64 0] 124 (0, 0)) := fun o => aC hx1 (dY (Below.refl _ _) o)
 have x0 : ∀ o, (wA.alloc o).cell? ⟨w.heap.size, 0, none⟩ = some (.int .i64 0) := fun o => (ae (hx2 o) 0).trans rfl
 have x1 : ∀ o, (wA.alloc o).cell? ⟨w.heap.size, 1, none⟩ = some (.int .i64 0) := fun o => (ae (hx2 o) 1).trans rfl
 have x2 : ∀ o, (wA.alloc o).cell? ⟨w.heap.size, 2, none⟩ = some (.int .i64 0) := fun o => (ae (hx2 o) 2).trans rfl
 have f0 : ∀ o, (wA.alloc o).frozen? ⟨w.heap.size, 0, none⟩ = false := fun o => ai (hx2 o) 0
 have f1 : ∀ o, (wA.alloc o).frozen? ⟨w.heap.size, 1, none⟩ = false := fun o => ai (hx2 o) 1
 have f2 : ∀ o, (wA.alloc o).frozen? ⟨w.heap.size, 2, none⟩ = false := fun o => ai (hx2 o) 2
 have HX2 := aa.mk hx2;clear hx2 hx1;go_wp2;have h3 := gL (gL (gL (HX2.out (.cells #[.int .i64 0, .int .i64 0, .int .i64 0] 124)) 0 (.int .i64 0)) 1 (.int .i64 0)) 2 (.int .i64 0);refine bodyPost_ret (jr rfl _ _ w.heap.size 124 #[.int .i64 0, .int .i64 0, .int .i64 0] (0, 0) _ rfl (by simpa using h3) Try.underlying124 rfl (by kernel_rfl)) rfl ?_;refine ⟨rfl, ?_, ?_⟩
 ·have h0 := HX2.out (.cells #[.int .i64 0, .int .i64 0, .int .i64 0] 124);exact Du (Du (Du (lL Dt.out (dY (Below.refl _ _) _)) h0 (by decide) (by decide) _) (gL h0 0 _) (by decide) (by decide) _) (gL (gL h0 0 _) 1 _) (by decide) (by decide) _
 ·exact (((vP.of_below (dY HB.out _) hbs).set (Nat.le_refl _) hbs _).set (Nat.le_refl _) hbs _).set (Nat.le_refl _) hbs _
def yl.T3 : Bool × List (List Nat × List Nat) := (true, [([], []), ([0], [0]), ([1], [1]), ([2], [2]), ([3], [3]), ([4], [4]), ([], []), ([6], [6]), ([7], [7]), ([8], [8]), ([9], [9]), ([10], [10]), ([], []), ([12, 5, 0, 1, 2, 3, 4, 5, 12], [5, 12]), ([11, 13, 0, 1, 2, 3, 4, 5, 6, 7, 8, 9, 10, 11, 12, 13], [11])])
def yl.B3 : List Nat := [0, 1, 3, 7, 15, 31, 0, 64, 192, 448, 960, 1984, 0, 4159, 16383]
theorem yl.aal : iC .any (opsOf Try.f105 3) = yl.T3 := by kernel_rfl
theorem yl.Tz : fo yl.T3.2 yl.B3 = true := by kernel_rfl
def yl.T6 : Bool × List (List Nat × List Nat) := (true, [([], []), ([0], [0]), ([1], [1]), ([2], [2]), ([], []), ([4], [4]), ([3, 5], [3, 5])])
def yl.B6 : List Nat := [0, 1, 3, 7, 0, 16, 63]
theorem yl.Jt : iC .any (opsOf Try.f105 6) = yl.T6 := by kernel_rfl
theorem yl.Ao : fo yl.T6.2 yl.B6 = true := by kernel_rfl
set_option maxRecDepth 100000 in
set_option maxHeartbeats 8000000 in
theorem TA (base q : Nat) (e0 : dP) (es : List dP) (nx ck : Int) (w : World) (h : QS base w q (e0 :: es) nx ck) (hsz : es.length < 1000000) :
  Calls Try.prog 105 #[.pointer (some ⟨q, 0, none⟩)] w fun e w' => e = .returned (.tuple #[.agg #[.int .i64 e0.f0.f0, .int .i64 e0.f0.f1.f0, .int .i64 e0.f0.f1.f1], .bool true]) ∧
   QS base w' q (r9 (e0 :: es)) nx ck ∧ vP base w w' := by
 go_enter Try.func105, Try.ntmps105
 have hB0 : Below w.heap.size w (w.alloc (.cells #[.int .i64 0, .int .i64 0, .int .i64 0] 124)) := dY (Below.refl _ _) _;go_upto_region 1 with (fail)
 have Dt := aa.mk (lL h hB0);have HX1 := aa.mk (heap_alloc_new w (.cells #[.int .i64 0, .int .i64 0, .int .i64 0] 124));have HB1 := aa.mk hB0;have hbs := vR h;clear hB0 h;generalize w.alloc (.cells #[.int .i64 0, .int .i64 0, .int .i64 0] 124) = wA at *;obtain ⟨v, bm, qy, mc, hq, hbq, hR, hm, EZ, hk⟩ := Dt.out;obtain ⟨g, cap, rfl, hbg, hgl, cells, hgc⟩ := Kd.Ms hR (by simp);have hlen : ((e0 :: es).length) = es.length + 1 := rfl;rw [hlen] at hq hR;have q1 : wA.cell? ⟨q, 1, none⟩ = some (.slice (some ⟨g, 0, none⟩) (es.length + 1) cap) := (ae hq 1).trans rfl;have hne0 : (((es.length + 1 : Nat) : Int) == 0) = false := by simp; omega
 obtain ⟨c0, c1, c2, c3, c4⟩ := uJ hR 0 (by omega) (by simp only [List.length_cons]; omega);rw [show eO (e0 :: es) 0 = e0 from rfl] at c0 c1 c2 c3 c4;simp only [Int.toNat_zero, Nat.zero_mul, Nat.zero_add] at c0 c1 c2 c3 c4;go_upto_region 3 with (fail)
 refine fu (n := 15) (S := fun w' => w'.cell? ⟨q, 1, none⟩ = some (.slice (some ⟨g, 0, none⟩) (es.length + 1) cap) ∧ w'.cell? ⟨g, 0, none⟩ = some (.int .i64 e0.f0.f0) ∧ w'.cell? ⟨g, 1, none⟩ = some (.int .i64 e0.f0.f1.f0) ∧ w'.cell? ⟨g, 2, none⟩ = some (.int .i64 e0.f0.f1.f1) ∧ w'.cell? ⟨g, 3, none⟩ = some (.int .i64 e0.f1) ∧ w'.cell? ⟨g, 4, none⟩ = some (.int .i64 e0.f2)) (ds := []) #[false, false, false, false, false, false, false, false, false, false, false, false, false, false, false] (by kernel_rfl) rfl rfl ⟨q1, c0, c1, c2, c3, c4⟩ (fun hHeld => ?_);refine dw yl.aal yl.Tz (fun dA ji => ?_);refine fG (fuel := 3) [(0, 15), (1, 16), (2, 17), (3, 18), (4, 19), (5, 20), (6, 21), (7, 22), (8, 23), (9, 24), (10, 25), (11, 26)] #[true, true, true, true, true, true, true, true, true, true, true, true, false, false, false] (df dA.out ji.out _ _ _ (by kernel_rfl)) rfl (fun _ _ _ _ _ h => h) hHeld (a' := ?_) ?_ ?_;rotate_left
 ·iterate 12
   refine bC (v := ?_) (a1 := ?_) rfl rfl (Or.inl ⟨by rfl, ?_⟩) ?_ ?_;rotate_left 2
   ·rintro w' ⟨s0, s1, s2, s3, s4, s5⟩;go_simp;with_reducible rfl
   ·simp only [Act.put, List.setIfInBounds_toArray, List.set_cons_zero, List.set_cons_succ, bH, bI];rfl
  exact chain_nil
 refine fT (i := 12) (N := some 4) #[true, true, true, true, true, true, true, true, true, true, true, true, true, false, false] rfl rfl (dn dA.out (by kernel_rfl)) (by decide) (fun K hK => ?_);refine pY (w1 := wA.drew.alloc (.cells #[.int .i64 0, .int .i64 0, .int .i64 0, .int .i64 0, .int .i64 0] 139)) (v := .pointer (some ⟨wA.heap.size, 0, none⟩)) (by rfl) rfl ?_ ?_
 ·first | (go_simp; done) | (go_simp; rfl)
 refine hK.out _ _ ⟨ma hHeld.1 _, ma hHeld.2.1 _, ma hHeld.2.2.1 _, ma hHeld.2.2.2.1 _, ma hHeld.2.2.2.2.1 _, ma hHeld.2.2.2.2.2 _⟩ (fun hHeld => ?_);clear hK K;refine bS (a' := ?_) ?_ ?_;rotate_left
 ·show Act.put _ (some 4) _ = _;simp only [Act.put, List.setIfInBounds_toArray, List.set_cons_zero, List.set_cons_succ, bH, bI];rfl
 refine fT (i := 13) (N := none) #[true, true, true, true, true, true, true, true, true, true, true, true, true, true, false] rfl rfl (dn dA.out (by kernel_rfl)) (by decide) (fun K hK => ?_);refine rV (w1 := wA.drew.alloc (.cells #[.int .i64 e0.f0.f0, .int .i64 e0.f0.f1.f0, .int .i64 e0.f0.f1.f1, .int .i64 e0.f1, .int .i64 e0.f2] 139)) (by rfl) rfl ?_ ?_
 ·first | (go_simp; done) | (go_simp; rfl)
 refine hK.out _ _ ⟨ma q1 _, ma c0 _, ma c1 _, ma c2 _, ma c3 _, ma c4 _⟩ (fun hHeld => ?_);clear hK K;refine fG (fuel := 0) [(14, 5)] #[true, true, true, true, true, true, true, true, true, true, true, true, true, true, true] (df dA.out ji.out _ _ _ (by kernel_rfl)) rfl (fun _ _ _ _ _ h => h) hHeld (a' := ?_) ?_ ?_;rotate_left
 ·iterate 1
   refine bC (v := ?_) (a1 := ?_) rfl rfl (Or.inl ⟨by rfl, ?_⟩) ?_ ?_;rotate_left 2
   ·rintro w' ⟨s0, s1, s2, s3, s4, s5⟩;go_simp;with_reducible rfl
   ·simp only [Act.put, List.setIfInBounds_toArray, List.set_cons_zero, List.set_cons_succ, bH, bI];rfl
  exact chain_nil
 refine gH (dV dA.out (by kernel_rfl)) ?_;have HQB := aa.mk (lL (amf Dt.out) (dY (Below.refl _ _) (.cells #[.int .i64 e0.f0.f0, .int .i64 e0.f0.f1.f0, .int .i64 e0.f0.f1.f1, .int .i64 e0.f1, .int .i64 e0.f2] 139)));have HbB : aa ((wA.drew.alloc (.cells #[.int .i64 e0.f0.f0, .int .i64 e0.f0.f1.f0, .int .i64 e0.f0.f1.f1, .int .i64 e0.f1, .int .i64 e0.f2] 139)).heap[wA.heap.size]? = some (.cells #[.int .i64 e0.f0.f0, .int .i64 e0.f0.f1.f0, .int .i64 e0.f0.f1.f1, .int .i64 e0.f1, .int .i64 e0.f2] 139 (0, 0))) := ⟨heap_alloc_new wA.drew _⟩;have HXB := aa.mk (aC (w := wA.drew) HX1.out (dY (Below.refl _ _) (.cells #[.int .i64 e0.f0.f0, .int .i64 e0.f0.f1.f0, .int .i64 e0.f0.f1.f1, .int .i64 e0.f1, .int .i64 e0.f2] 139)));have HFB := aa.mk (vP.of_below (dY (dM HB1.out) (.cells #[.int .i64 e0.f0.f0, .int .i64 e0.f0.f1.f0, .int .i64 e0.f0.f1.f1, .int .i64 e0.f1, .int .i64 e0.f2] 139)) hbs);have hrB : F4 (wA.drew.alloc (.cells #[.int .i64 e0.f0.f0, .int .i64 e0.f0.f1.f0, .int .i64 e0.f0.f1.f1, .int .i64 e0.f1, .int .i64 e0.f2] 139)) q = some g := Aj (aC (w := wA.drew) hq (dY (Below.refl _ _) _)) rfl;have HnB : aa (some wA.heap.size ≠ F4 (wA.drew.alloc (.cells #[.int .i64 e0.f0.f0, .int .i64 e0.f0.f1.f0, .int .i64 e0.f0.f1.f1, .int .i64 e0.f1, .int .i64 e0.f2] 139)) q) := ⟨by rw [hrB]; intro e; injection e with e; omega⟩;have hws : w.heap.size < wA.heap.size := bE HX1.out;clear Dt HX1 HB1 hq hR hm hk hgc hHeld q1 c0 c1 c2 c3 c4 hrB hbg hgl hne0;generalize (wA.drew.alloc (.cells #[.int .i64 e0.f0.f0, .int .i64 e0.f0.f1.f0, .int .i64 e0.f0.f1.f1, .int .i64 e0.f1, .int .i64 e0.f2] 139)) = wB at *;generalize wA.heap.size = b at *;have hwr : wrap64 (es.length : Int) = (es.length : Int) := by unfold wrap64; omega
 rw [hwr];go_wp2_with (first | (go_at_call 111; refine (vQ base q (e0 :: es) nx ck 0 (es.length : Int) wB HQB.out (by omega) (by simp only [List.length_cons]; omega) (by omega) (by simp only [List.length_cons]; omega)).mono ?_; rintro e w4 ⟨rfl, hQ4, VC⟩; obtain ⟨v4, bm4, acQ, mc4, hq4, aow, Yd, QZ, acR, hk4⟩ := hQ4; obtain ⟨g4, cap4, rfl, aox, aoy, aiq, air⟩ := Kd.Ms Yd (by rw [dh]; simp only [List.length_cons]; omega); rw [dh, hlen] at hq4 Yd; have q41 : w4.cell? ⟨q, 1, none⟩ = some (.slice (some ⟨g4, 0, none⟩) (es.length + 1) cap4) := (ae hq4 1).trans rfl; have hcap : es.length + 1 ≤ cap4 := (Kd.dD Yd).2.1; have q4f := ai hq4 1; have Ju := aa.mk (VC.rows _ _ _ HbB.out HnB.out); have HX4 := aa.mk (VC.f0.keep _ _ _ _ HXB.out (by decide) (by decide)); have HNB : some b ≠ (Value.slice (some ⟨g4, 0, none⟩) es.length cap4).ownBlock := fun e => HnB.out (e.trans ((Aj hq4 rfl).symm.trans VC.row)); have HF4 := aa.mk (HFB.out.trans VC.f0); have HQ4 := aa.mk hq4; have HR4 := aa.mk Yd; have HM4 := aa.mk QZ; have HK4 := aa.mk hk4; clear hq4 Yd VC QZ hk4 HQB HbB HXB HFB HnB air))
 have hx4 := HX4.out;have hb4 := Ju.out;have hq4 := HQ4.out;have QZ := HM4.out;have acS : b ≠ q := Fx hb4 hq4 (by decide);have acT : w.heap.size ≠ q := Fx hx4 hq4 (by decide);have acU : bm4 ≠ q := by rintro rfl; rw [hq4] at QZ; cases QZ
 have hR5 := aa.mk (Kd.Ej (Kd.ZA HR4.out (m := es.length) (by rw [dh]; simp only [List.length_cons]; omega)) hq4 (by decide) 1 (.slice (some ⟨g4, 0, none⟩) es.length cap4));have Ye := gL hq4 1 (.slice (some ⟨g4, 0, none⟩) es.length cap4);have hb5 := (Below.heap_setCell w4 ⟨q, 1, none⟩ (.slice (some ⟨g4, 0, none⟩) es.length cap4) b acS).trans hb4;have hx5 := (Below.heap_setCell w4 ⟨q, 1, none⟩ (.slice (some ⟨g4, 0, none⟩) es.length cap4) w.heap.size acT).trans hx4;have Yf := (Below.heap_setCell w4 ⟨q, 1, none⟩ (.slice (some ⟨g4, 0, none⟩) es.length cap4) bm4 acU).trans QZ;have Js : vP base w (w4.setCell ⟨q, 1, none⟩ (.slice (some ⟨g4, 0, none⟩) es.length cap4)) := by
  refine ⟨HF4.out.below.setCell hbq _, fun k cs t fr h1 h2 h3 => ?_⟩;have hk := HF4.out.keep k cs t fr h1 h2 h3;have hkq : k ≠ q := by rintro rfl; rw [hq4] at hk; injection hk with hk; injection hk with _ hk; exact h2 hk.symm
  exact (Below.heap_setCell _ _ _ _ hkq).trans hk
 have Yg := aa.mk Js;clear hq4 QZ hx4 hb4 Ju HX4 HF4 HQ4 HR4 HM4 Js q41 q4f acS acT acU;generalize (w4.setCell ⟨q, 1, none⟩ (.slice (some ⟨g4, 0, none⟩) es.length cap4)) = w5 at *;have aap : w5.heap[q]? = some (.cells #[uI, .slice (some ⟨g4, 0, none⟩) es.length cap4, .map (some bm4), .int .i64 nx, .int .i64 ck] 135 (0, 0)) := by simpa using Ye
 clear Ye;have q26 : w5.drew.cell? ⟨q, 2, none⟩ = some (.map (some bm4)) := by show w5.cell? ⟨q, 2, none⟩ = _; rw [ae aap 2]; rfl
 have b16 : w5.drew.cell? ⟨b, 3, none⟩ = some (.int .i64 e0.f1) := by show w5.cell? ⟨b, 3, none⟩ = _; rw [ae hb5 3]; rfl
 have hmD : w5.drew.heap[bm4]? = some (.map acQ mc4) := Yf;obtain ⟨W6, es6, c6, hdel, hm6, hk6, Yh⟩ := Tt hmD HK4.out e0.f1 0;have hq6 := Yh.blk hmD (show w5.drew.heap[q]? = _ from aap);have hb6 := Yh.blk hmD (show w5.drew.heap[b]? = _ from hb5);have hx6 := Yh.blk hmD (show w5.drew.heap[w.heap.size]? = _ from hx5);have HR6 := aa.mk (Dr Yh hmD (Kd.aaH hR5.out));have HF6 := aa.mk (Yg.out.drew.trans (Tu Yh hmD acR));have HQ6 : aa (QS base W6 q ((nK (e0 :: es) 0 (es.length : Int)).take es.length) nx ck) := ⟨⟨_, bm4, es6, c6, hq6, hbq, HR6.out, hm6, acR, hk6⟩⟩;have hnr : some b ≠ (Value.slice (some ⟨g4, 0, none⟩) es.length cap4).ownBlock := HNB;have Hb6 := aa.mk hb6;have Hx6 := aa.mk hx6;go_upto_region 6 with (fail)
 refine fu (n := 7) (S := fun w' => w'.cell? ⟨q, 2, none⟩ = some (.map (some bm4)) ∧ w'.cell? ⟨b, 3, none⟩ = some (.int .i64 e0.f1)) (ds := []) #[false, false, false, false, false, false, false] (by kernel_rfl) rfl rfl ⟨q26, b16⟩ (fun hHeld => ?_);refine dw yl.Jt yl.Ao (fun dA ji => ?_);refine fG (fuel := 1) [(0, 39), (1, 40), (2, 41), (3, 42), (4, 43), (5, 44)] #[true, true, true, true, true, true, false] (df dA.out ji.out _ _ _ (by kernel_rfl)) rfl (fun _ _ _ _ _ h => h) hHeld (a' := ?_) ?_ ?_;rotate_left
 ·iterate 6
   refine bC (v := ?_) (a1 := ?_) rfl rfl (Or.inl ⟨by rfl, ?_⟩) ?_ ?_;rotate_left 2
   ·rintro w' ⟨s0, s1⟩;go_simp;with_reducible rfl
   ·simp only [Act.put, List.setIfInBounds_toArray, List.set_cons_zero, List.set_cons_succ, bH, bI];rfl
  exact chain_nil
 refine fT (i := 6) (N := none) #[true, true, true, true, true, true, true] rfl rfl (dn dA.out (by kernel_rfl)) (by decide) (fun K hK => ?_);refine pY (w1 := W6) (v := .tuple #[]) (by rfl) rfl ?_ ?_
 ·unfold execOp;simp [resolve, invoke, Go.builtin, Act.eval, hdel]
 refine hK.out _ _ ⟨Yh.cell hmD hHeld.1, Yh.cell hmD hHeld.2⟩ (fun hHeld => ?_);clear hK K;refine gH (dV dA.out (by kernel_rfl)) ?_;have hr6 := Aj hq6 rfl;have Hr6 : aa (some b ≠ F4 W6 q) := ⟨by rw [hr6]; exact hnr⟩;clear aap hb5 hx5 Yf hR5 Yg hq6 hb6 hx6 hm6 hk6 Yh HR6 hnr HNB q26 b16 hmD hdel hr6 HK4 hHeld;have hlt : ((nK (e0 :: es) 0 (es.length : Int)).take es.length).length = es.length := by rw [List.length_take, dh]; simp only [List.length_cons]; omega
 go_wp2_with (first | (go_at_call 112; refine (Ty base q _ nx ck W6 HQ6.out (by omega)).mono ?_; rintro e w7 ⟨rfl, hQ7, hF7⟩; have HQ7 := aa.mk hQ7; have Yi := aa.mk (HF6.out.trans hF7.f0); have ak := hF7.rows _ _ _ Hb6.out Hr6.out; have hx7 := hF7.f0.keep _ _ _ _ Hx6.out (by decide) (by decide); have aoC : b ≠ w.heap.size := Fx ak hx7 (by decide); have b0 : w7.cell? ⟨b, 0, none⟩ = some (.int .i64 e0.f0.f0) := (ae ak 0).trans rfl; have b1 : w7.cell? ⟨b, 1, none⟩ = some (.int .i64 e0.f0.f1.f0) := (ae ak 1).trans rfl; have b2 : w7.cell? ⟨b, 2, none⟩ = some (.int .i64 e0.f0.f1.f1) := (ae ak 2).trans rfl; have x0 : w7.cell? ⟨w.heap.size, 0, none⟩ = some (.int .i64 0) := (ae hx7 0).trans rfl; have x1 : w7.cell? ⟨w.heap.size, 1, none⟩ = some (.int .i64 0) := (ae hx7 1).trans rfl; have x2 : w7.cell? ⟨w.heap.size, 2, none⟩ = some (.int .i64 0) := (ae hx7 2).trans rfl; have f0 := ai hx7 0; have f1 := ai hx7 1; have f2 := ai hx7 2; have HX7 := aa.mk hx7; clear hQ7 hF7 ak hx7 HQ6 HF6 Hb6 Hx6 Hr6))
 have h3 := gL (gL (gL HX7.out 0 (.int .i64 e0.f0.f0)) 1 (.int .i64 e0.f0.f1.f0)) 2 (.int .i64 e0.f0.f1.f1);refine bodyPost_ret (jr rfl _ _ w.heap.size 124 #[.int .i64 e0.f0.f0, .int .i64 e0.f0.f1.f0, .int .i64 e0.f0.f1.f1] (0, 0) _ rfl (by simpa using h3) Try.underlying124 rfl (by kernel_rfl)) rfl ?_;refine ⟨rfl, ?_, ?_⟩
 ·have h := HQ7.out;rw [hlt] at h;exact Du (Du (Du h HX7.out (by decide) (by decide) _) (gL HX7.out 0 _) (by decide) (by decide) _) (gL (gL HX7.out 0 _) 1 _) (by decide) (by decide) _
 ·exact ((Yi.out.set (Nat.le_refl _) hbs _).set (Nat.le_refl _) hbs _).set (Nat.le_refl _) hbs _
def xG (a b : dK) : dK := ⟨mn (wrap64 (a.f0 + b.f0)) 1099511627776, mn (wrap64 (a.f1 + b.f1)) 1099511627776⟩
def TB (a : dK) : dK := if a.f0 = 1099511627776 then ⟨1099511627776, 0⟩ else a
def gD (cost : Int) (l : List dK) : dK := TB (l.foldl xG ⟨mn cost 1099511627776, 1⟩)
theorem uK (l : List dK) : ∀ (k i : Nat) (a : dK), i ≤ l.length → l.length < i + k → l.length ≤ 1000000 → bU.l0 k l (l.length : Int) (i : Int) a.f0 a.f1 = some ((TB ((l.drop i).foldl xG a)).f0, (TB ((l.drop i).foldl xG a)).f1)
 | 0, i, a, h1, h2, _ => by omega
 | k + 1, i, a, h1, h2, h3 => by
  unfold bU.l0;by_cases h : i < l.length
  ·rw [if_pos (by omega), if_pos (by omega), if_pos (by omega)];have hw : wrap64 ((i : Int) + 1) = ((i + 1 : Nat) : Int) := by unfold wrap64; omega
   have hd : l.drop i = bJ l (i : Int) :: l.drop (i + 1) := by
    rw [List.drop_eq_getElem_cons h];simp [bJ, List.getD_eq_getElem?_getD, List.getElem?_eq_getElem h]
   rw [hw, hd, List.foldl_cons];exact uK l k (i + 1) (xG a (bJ l (i : Int))) (by omega) (by omega) h3
  ·have hi : i = l.length := by omega
   subst hi;rw [if_neg (by omega), List.drop_length, List.foldl_nil];unfold TB;split <;> rfl
theorem uL (cost : Int) (l : List dK) (h : l.length ≤ 1000000) : bU.f (l.length + 1) cost l = some ((gD cost l).f0, (gD cost l).f1) := by
 have := uK l (l.length + 1) 0 ⟨mn cost 1099511627776, 1⟩ (by omega) (by omega) h;simpa [bU.f, gD] using this
section
variable {W w1 : World} {base g n cap : Nat} {ok : Nat → Prop}
theorem Ap {xs : List dK} (h : Kd.R xA 34 W base ok (.slice (some ⟨g, 0, none⟩) n cap) xs) (i : Int) (h0 : 0 ≤ i) (h1 : i < n) (x : dK) :
  Kd.R xA 34 ((W.setCell ⟨g, i.toNat * 2, none⟩ (.int .i64 x.f0)).setCell ⟨g, i.toNat * 2 + 1, none⟩ (.int .i64 x.f1)) base ok (.slice (some ⟨g, 0, none⟩) n cap) (xs.set i.toNat x) ∧
   W.grownBy ((W.setCell ⟨g, i.toNat * 2, none⟩ (.int .i64 x.f0)).setCell ⟨g, i.toNat * 2 + 1, none⟩ (.int .i64 x.f1)) (some g) := by
 obtain ⟨c, hcl, hM, hcc, hfz⟩ := Kd.Df h z34 i h0 h1;have hs : xA.sz = 2 := rfl;rw [hs] at hcl;exact Kd.Sm (d := xA) h i h0 h1 (c := c) (jv := [.int .i64 x.f0, .int .i64 x.f1]) (j := 0) (by rw [hcl]; rfl) (by simpa [hs] using hcc) (by simp [hs]) (x' := x) (lV := fun k => ok k ∧ k ≠ g) (by
  have e : c.drop 2 = [] := List.drop_eq_nil_of_le (by omega);simpa [e] using vL W base (fun k => ok k ∧ k ≠ g) x) (fun k hk => hk)
theorem ng {xs : List dK} (h : Kd.R xA 34 W base ok (.slice (some ⟨g, 0, none⟩) n cap) xs) (i : Int) (h0 : 0 ≤ i) (h1 : i < n) :
  W.cell? ⟨g, i.toNat * 2, none⟩ = some (.int .i64 (bJ xs i).f0) ∧ W.cell? ⟨g, i.toNat * 2 + 1, none⟩ = some (.int .i64 (bJ xs i).f1) ∧ W.frozen? ⟨g, i.toNat * 2, none⟩ = false ∧ W.frozen? ⟨g, i.toNat * 2 + 1, none⟩ = false := by
 obtain ⟨hn, hc, hC⟩ := Kd.dD h;obtain ⟨ad, e, c0, c1⟩ := p9 hC i h0 (by omega);obtain rfl : (⟨g, 0, none⟩ : Addr) = ad := by injection e
 rw [add_plain] at c0 c1;obtain ⟨c, hcl, hM, hcc, hfz⟩ := Kd.Df h z34 i h0 h1;exact ⟨c0, c1, hfz 0, hfz 1⟩
end
theorem sW {α : Type} {d : Kd α} {e base b : Nat} {w : World} {ok : Nat → Prop} {v : Value} {xs : List α} (h : d.R e w base ok v xs) (hb : v.ownBlock = some b) : ∃ cap, v = .slice (some ⟨b, 0, none⟩) xs.length cap := by
 obtain ⟨_, inner, ho, hr⟩ := h;rcases ho.2 with ⟨rfl, _⟩ | ⟨g, cap, cur, rfl, _⟩
 ·simp [Value.ownBlock] at hb
 ·obtain rfl : g = b := by simpa [Value.ownBlock] using hb
  exact ⟨cap, rfl⟩
def tailV (vs : List dK) (l : List Int) : List dK := l.map (bJ vs)
theorem Jv {k : IntKind} {w : World} {A : Option Addr} {n : Nat} {xs : List Int} (h : Kd.C (Kd.int k) w A n xs) (i : Nat) (hi : i < n) : ∃ ad, A = some ad ∧ w.cell? (ad.add i) = some (.int k (xs.getD i 0)) := by
 obtain ⟨ad, c, e, _, hK, hc0⟩ := Kd.rU h 0 (i : Int) (by omega) (by omega);obtain rfl : c = [.int k (xs.getD i 0)] := hK;refine ⟨ad, e, ?_⟩;have := hc0 0 _ rfl;simpa [Kd.int, Kd.scalar] using this
def zz (vs : List dK) (l : List Int) (i : Nat) : List dK := tailV vs (l.take i) ++ List.replicate (l.length - i) z34
theorem Q3 (vs : List dK) (l : List Int) (i : Nat) (hi : i < l.length) : (zz vs l i).set i (bJ vs (l.getD i 0)) = zz vs l (i + 1) := by
 unfold zz tailV;have h1 : (List.map (bJ vs) (l.take i)).length = i := by rw [List.length_map, List.length_take]; omega
 rw [List.set_append_right _ _ (by omega), h1, Nat.sub_self, show l.length - i = (l.length - (i + 1)) + 1 by omega, List.replicate_succ, List.set_cons_zero, List.take_succ_eq_append_getElem hi, List.map_append];simp [List.getD_eq_getElem?_getD, List.getElem?_eq_getElem hi]
theorem Q4 (vs : List dK) (l : List Int) : zz vs l l.length = tailV vs l := by simp [zz]
theorem MV (vs : List dK) (l : List Int) : zz vs l 0 = List.replicate l.length z34 := by simp [zz, tailV]
theorem VF (vs : List dK) (l : List Int) (i : Nat) (hi : i ≤ l.length) : (zz vs l i).length = l.length := by simp [zz, tailV]; omega
set_option maxRecDepth 100000 in
set_option maxHeartbeats 8000000 in
theorem zA (s : Nat) (vs : List dK) (Av : Option Addr) (cv : Nat) (e : dO) (A1 : Option Addr) (c1 : Nat) (w : World) (hs : w.cell? ⟨s, 2, none⟩ = some (.slice Av vs.length cv)) (hv : Kd.C xA w Av vs.length vs)
  (Da : Kd.C (Kd.int .i64) w A1 e.f1.length e.f1) (hr : ∀ t, t ∈ e.f1 → 0 ≤ t ∧ t < (vs.length : Int)) (hl : e.f1.length ≤ 1000000) :
  Calls Try.prog 107 #[.pointer (some ⟨s, 0, none⟩), .agg #[.int .i64 e.f0, .slice A1 e.f1.length c1, .int .i64 e.f2, .int .i64 e.f3.f0, .int .i64 e.f3.f1]] w fun x w' =>
   x = .returned (.agg #[.int .i64 (gD e.f2 (tailV vs e.f1)).f0, .int .i64 (gD e.f2 (tailV vs e.f1)).f1]) ∧ Below w.heap.size w w' := by
 go_enter Try.func107, Try.ntmps107
 go_upto_region 1 with (fail)
 have hB0 : Below w.heap.size w ((w.alloc (.cells #[.int .i64 e.f0, .slice A1 e.f1.length c1, .int .i64 e.f2, .int .i64 e.f3.f0, .int .i64 e.f3.f1] 54)).alloc (.cells #[.int .i64 0, .int .i64 0] 34)) := dY (dY (Below.refl _ _) _) _;have hb0 := Ag w (.cells #[.int .i64 e.f0, .slice A1 e.f1.length c1, .int .i64 e.f2, .int .i64 e.f3.f0, .int .i64 e.f3.f1] 54) (.cells #[.int .i64 0, .int .i64 0] 34);have hx0 := Ah w (.cells #[.int .i64 e.f0, .slice A1 e.f1.length c1, .int .i64 e.f2, .int .i64 e.f3.f0, .int .i64 e.f3.f1] 54) (.cells #[.int .i64 0, .int .i64 0] 34);have hb1 : ((w.alloc (.cells #[.int .i64 e.f0, .slice A1 e.f1.length c1, .int .i64 e.f2, .int .i64 e.f3.f0, .int .i64 e.f3.f1] 54)).alloc (.cells #[.int .i64 0, .int .i64 0] 34)).heap[w.heap.size]? = some (.cells #[.int .i64 e.f0, .slice A1 e.f1.length c1, .int .i64 e.f2, .int .i64 e.f3.f0, .int .i64 e.f3.f1] 54 (0, 0)) := hb0;have hx1 : ((w.alloc (.cells #[.int .i64 e.f0, .slice A1 e.f1.length c1, .int .i64 e.f2, .int .i64 e.f3.f0, .int .i64 e.f3.f1] 54)).alloc (.cells #[.int .i64 0, .int .i64 0] 34)).heap[w.heap.size + 1]? = some (.cells #[.int .i64 0, .int .i64 0] 34 (0, 0)) := hx0;clear hb0 hx0;generalize ((w.alloc (.cells #[.int .i64 e.f0, .slice A1 e.f1.length c1, .int .i64 e.f2, .int .i64 e.f3.f0, .int .i64 e.f3.f1] 54)).alloc (.cells #[.int .i64 0, .int .i64 0] 34)) = wA at *;have HB := aa.mk hB0;have HV := aa.mk hv;have HC := aa.mk Da;have HR := aa.mk hr;have aoD := bE hx1;have Hb := aa.mk hb1;have Hx := aa.mk hx1;have HS := aa.mk hs;have b1 : wA.cell? ⟨w.heap.size, 1, none⟩ = some (.slice A1 e.f1.length c1) := (ae hb1 1).trans rfl;clear hB0 hb1 hx1 hv Da hr hs;go_upto_region 2 with (first | ((with_reducible refine bM (N := 11) rfl ?_); refine Kd.I7 xA w.heap.size 34 rfl (N := 11) rfl 43 _ _ rfl (e.f1.length : Int) rfl rfl Try.underlying43 (.agg #[.int .i64 0, .int .i64 0]) 16 FP rfl (by decide) (by omega) z34 (ok := fun _ => True) (lV := fun _ => True) (vL _ _ _ z34) (fun _ hk => hk) trivial (by omega) (by omega) HB.out HB.out.size ?_; intro v1 w2 hR2 hB2 hg2 acX; rw [Int.toNat_natCast] at hR2; obtain ⟨bl, hbl, hlb⟩ := acX; obtain ⟨cl, rfl⟩ := sW hR2 hbl; rw [List.length_replicate] at hR2; have HR2 := aa.mk hR2; have HB2 := aa.mk hB2; have Hb2 := aa.mk (bX Hb.out hg2 (by simp)); have Hx2 := aa.mk (bX Hx.out hg2 (by simp)); clear hR2 hB2 hg2 hbl b1 Hb Hx))
 have hwA : w.heap.size ≤ wA.heap.size := HB.out.size;clear HB;have b1 : w2.cell? ⟨w.heap.size, 1, none⟩ = some (.slice A1 e.f1.length c1) := (ae Hb2.out 1).trans rfl;rw [← MV vs e.f1] at HR2;obtain ⟨wO, rfl⟩ : ∃ wO : World, wO = w2 := ⟨_, rfl⟩;go_wp2_with fail
 go_loopg [15] (e.f1.length + 1) (fun g v15 wr => ∃ i : Nat, v15 = .int .i64 i ∧ aa (i ≤ e.f1.length) ∧ aa (e.f1.length - i < g) ∧ aa (Kd.R xA 34 wr w.heap.size (fun _ => True) (.slice (some ⟨bl, 0, none⟩) e.f1.length cl) (zz vs e.f1 i)) ∧ aa (Below w.heap.size w wr) ∧
  aa (wr.heap[w.heap.size]? = some (.cells #[.int .i64 e.f0, .slice A1 e.f1.length c1, .int .i64 e.f2, .int .i64 e.f3.f0, .int .i64 e.f3.f1] 54 (0, 0))) ∧ aa (wr.heap[w.heap.size + 1]? = some (.cells #[.int .i64 0, .int .i64 0] 34 (0, 0))))
 case atStart => exact ⟨0, by go_num, ⟨by omega⟩, ⟨by omega⟩, HR2, HB2, Hb2, Hx2⟩
 case round =>
  obtain ⟨i, rfl, hi, hg, HRi, HBi, Hbi, Hxi⟩ := hrel;clear b1 HR2 HB2 Hb2 Hx2;have hi1 : i ≤ 1000000 := by have := hi.out; omega
  by_cases hin : i < e.f1.length
  ·obtain ⟨ad, rfl, ht⟩ := Jv (Kd.bF HC.out HBi.out) i hin;have htr : 0 ≤ e.f1.getD i 0 ∧ e.f1.getD i 0 < (vs.length : Int) := HR.out _ (by rw [List.getD_eq_getElem?_getD, List.getElem?_eq_getElem hin]; exact List.getElem_mem _);have hfl := Q3 vs e.f1 i hin;generalize e.f1.getD i 0 = t at *;obtain ⟨ht0, ht1⟩ := htr;obtain ⟨av, rfl, v0, v1⟩ := p9 (Kd.bF HV.out HBi.out) t ht0 ht1;have s2 := ah HBi.out HS.out;have hcs := ng HRi.out (i : Int) (by omega) (by omega);have hst := Ap HRi.out (i : Int) (by omega) (by omega) (bJ vs t);simp only [Int.toNat_natCast] at hcs hst;rw [hfl] at hst;obtain ⟨l0, l1, f0, f1⟩ := hcs;have HST := aa.mk hst.1;have HSG := aa.mk hst.2;have hbl : w.heap.size ≤ bl := by omega
   clear hst hfl;go_wp2_with fail
   go_roundg (e.f1.length - i)
   case measure => have := hg.out; omega
   case rel => exact ⟨i + 1, by go_num, ⟨by omega⟩, ⟨by omega⟩, HST, ⟨(HBi.out.setCell hbl _).setCell hbl _⟩, ⟨bX Hbi.out HSG.out (by intro h; injection h with h; omega)⟩, ⟨bX Hxi.out HSG.out (by intro h; injection h with h; omega)⟩⟩
  ·obtain rfl : i = e.f1.length := by have := hi.out; omega
   have hRe := HRi.out;rw [Q4] at hRe;have hlt : (tailV vs e.f1).length = e.f1.length := by simp [tailV]
   have HCe := aa.mk (Kd.dD hRe).2.2;have b2 : wr.cell? ⟨w.heap.size, 2, none⟩ = some (.int .i64 e.f2) := (ae Hbi.out 2).trans rfl;have hcl : (tailV vs e.f1).length ≤ cl := (Kd.dD hRe).1 ▸ (Kd.dD hRe).2.1;have hxi := Hxi.out;have hin' : ¬ ((e.f1.length : Int) < (e.f1.length : Int)) := by omega
   go_wp2_with (first | (go_at_call 75; rw [← hlt]; refine (bU.calls _ _ _ _ _ _ _ _ HCe.out hcl (uL e.f2 (tailV vs e.f1) (by omega))).mono ?_; rintro x w4 ⟨rfl, hB4⟩; have hx4 := aC hxi hB4; have x0 : w4.cell? ⟨w.heap.size + 1, 0, none⟩ = some (.int .i64 0) := (ae hx4 0).trans rfl; have x1 : w4.cell? ⟨w.heap.size + 1, 1, none⟩ = some (.int .i64 0) := (ae hx4 1).trans rfl; have f0 := ai hx4 0; have f1 := ai hx4 1; have HX4 := aa.mk hx4; have Ju := aa.mk hB4; clear hx4 hB4))
   have h3 := gL (gL HX4.out 0 (.int .i64 (gD e.f2 (tailV vs e.f1)).f0)) 1 (.int .i64 (gD e.f2 (tailV vs e.f1)).f1);refine bodyPost_ret (results_cell_row rfl _ _ (w.heap.size + 1) 34 #[.int .i64 (gD e.f2 (tailV vs e.f1)).f0, .int .i64 (gD e.f2 (tailV vs e.f1)).f1] (0, 0) _ rfl (by simpa using h3) Try.underlying34 rfl (by kernel_rfl)) rfl ?_;exact ⟨rfl, ((aM HBi.out Ju.out).setCell (Nat.le_succ _) _).setCell (Nat.le_succ _) _⟩
structure Ctx where
 w0 : World
 s : Nat
 q : Nat
 n : Nat
 A : Option Addr
 c : Nat
 es : List dO
 gv : Nat
 cv : Nat
 gs : Nat
 cs : Nat
 go : Nat
 co : Nat
 gu : Nat
 cu : Nat
 ge : Nat
 ce : Nat
structure QQ where
 es : List dP
 nx : Int
 ck : Int
abbrev Ctx.cells (X : Ctx) : Array Value := #[.int .i64 (X.n : Nat), .slice X.A X.es.length X.c, .slice (some ⟨X.gv, 0, none⟩) X.n X.cv, .slice (some ⟨X.gs, 0, none⟩) X.n X.cs, .slice (some ⟨X.go, 0, none⟩) X.es.length X.co, .slice (some ⟨X.gu, 0, none⟩) X.n X.cu, .pointer (some ⟨X.q, 0, none⟩)]
structure SS (X : Ctx) (w : World) (vs : List dK) (st : List Bool) (op : List Int) (us : List (List Int)) (ed : List Int) (Q : QQ) : Prop where
 hB : Below X.w0.heap.size X.w0 w
 hs : w.heap[X.s]? = some (.cells X.cells 121 (0, 0))
 hsb : X.w0.heap.size ≤ X.s
 hC : Kd.C sJ X.w0 X.A X.es.length X.es
 hV : Kd.R xA 34 w X.w0.heap.size (fun _ => True) (.slice (some ⟨X.gv, 0, none⟩) X.n X.cv) vs
 hS : Kd.R Kd.bool 4 w X.w0.heap.size (fun _ => True) (.slice (some ⟨X.gs, 0, none⟩) X.n X.cs) st
 hO : Kd.R (Kd.int .i64) 3 w X.w0.heap.size (fun k => k ≠ X.ge) (.slice (some ⟨X.go, 0, none⟩) X.es.length X.co) op
 hU : Kd.S (Kd.slice 3 (Kd.int .i64)) 44 w X.w0.heap.size (fun k => k ≠ X.go ∧ k ≠ X.ge) (.slice (some ⟨X.gu, 0, none⟩) X.n X.cu) us
 hE : Kd.R (Kd.int .i64) 3 w X.w0.heap.size (fun k => k ≠ X.go) (.slice (some ⟨X.ge, 0, none⟩) X.n X.ce) ed
 hQ : QS X.w0.heap.size w X.q Q.es Q.nx Q.ck
theorem alB {α : Type} {d : Kd α} {e base : Nat} {w w' : World} {ok : Nat → Prop} {v : Value} {xs : List α} (h : d.R e w base ok v xs) (ht : ∀ t, t ∈ e :: d.E → t ≠ 135 ∧ t ≠ 139) {b0 : Nat} (hf : vP b0 w w') : d.R e w' base ok v xs := by
 refine Kd.bB (Kd.xQ (Kd.jI h) (fun k hk => ?_)) (fun _ hk => hk.1);obtain ⟨_, _, _, t, htm, cells, hc⟩ := hk;obtain ⟨h1, h2⟩ := ht t htm;rw [hf.keep k _ _ _ hc h1 h2, hc]
theorem ac0 {α : Type} {d : Kd α} {e base : Nat} {w w' : World} {ok : Nat → Prop} {v : Value} {xs : List α} (h : Kd.S d e w base ok v xs) (ht : ∀ t, t ∈ e :: d.E → t ≠ 135 ∧ t ≠ 139) {b0 : Nat} (hf : vP b0 w w') : Kd.S d e w' base ok v xs := by
 refine Kd.iN (Kd.Sy (Kd.lF h) (fun k hk => ?_)) (fun _ hk => hk.1);obtain ⟨_, _, _, t, htm, cells, hc⟩ := hk;obtain ⟨h1, h2⟩ := ht t htm;rw [hf.keep k _ _ _ hc h1 h2, hc]
theorem SS.queue {X : Ctx} {w w' : World} {vs : List dK} {st : List Bool} {op : List Int} {us : List (List Int)} {ed : List Int} {Q : QQ} (h : SS X w vs st op us ed Q) (hf : vP X.w0.heap.size w w') (Q' : QQ) (hq : QS X.w0.heap.size w' X.q Q'.es Q'.nx Q'.ck) : SS X w' vs st op us ed Q' :=
 ⟨h.hB.trans hf.below, hf.keep _ _ _ _ h.hs (by decide) (by decide), h.hsb, h.hC, alB h.hV (by decide) hf, alB h.hS (by decide) hf, alB h.hO (by decide) hf, ac0 h.hU (by decide) hf, alB h.hE (by decide) hf, hq⟩
theorem Aq {base q g t : Nat} {w w1 : World} {es : List dP} {nx ck : Int} {cells : Array Value} (h : QS base w q es nx ck) (hc : w.heap[g]? = some (.cells cells t (0, 0))) (h1 : t ≠ 135) (h2 : t ≠ 139) (hg : w.grownBy w1 (some g)) : QS base w1 q es nx ck := by
 obtain ⟨v, bm, qy, mc, hq, hbq, hR, hm, EZ, hks⟩ := h;have e1 : some q ≠ some g := by rintro e; injection e with e; subst e; rw [hq] at hc; injection hc with hc; injection hc with _ hc; exact h1 hc.symm
 have e2 : some bm ≠ some g := by rintro e; injection e with e; subst e; rw [hm] at hc; cases hc
 refine ⟨v, bm, qy, mc, bX hq hg e1, hbq, ?_, bX hm hg e2, EZ, hks⟩;refine Kd.bB (Kd.vF (Kd.jI hR) hg (fun k hk => ?_)) (fun _ _ => trivial);obtain ⟨_, _, _, x, hx, cells', hc'⟩ := hk;have hx' : x ∈ [139] := hx;rw [List.mem_singleton] at hx';intro e;injection e with e
 subst e;rw [hc] at hc';injection hc' with hc'
 injection hc' with _ hc'
 exact h2 (hc'.trans hx')
section
variable {X : Ctx} {w w1 : World} {vs vs' : List dK} {st st' : List Bool} {op op' : List Int} {us us' : List (List Int)} {ed ed' : List Int} {Q : QQ}
theorem SS.aiw (h : SS X w vs st op us ed Q) (hS : Kd.R Kd.bool 4 w1 X.w0.heap.size (fun _ => True) (.slice (some ⟨X.gs, 0, none⟩) X.n X.cs) st') (hg : w.grownBy w1 (some X.gs)) : SS X w1 vs st' op us ed Q := by
 obtain ⟨inner, ho⟩ := Kd.xR h.hS;obtain ⟨cells, hc⟩ := Kd.lW h.hS X.gs rfl;exact ⟨jq h.hB _ h.hB.size hg (fun k hk => mf ho k hk), bX h.hs hg (Kd.mK h.hS h.hs (by decide)), h.hsb, h.hC, Kd.nA h.hV h.hS (by decide) hg, hS, Kd.nA h.hO h.hS (by decide) hg, Kd.Ox h.hU (Kd.lW h.hS) (by decide) hg, Kd.nA h.hE h.hS (by decide) hg, Aq h.hQ hc (by decide) (by decide) hg⟩
theorem SS.TC (h : SS X w vs st op us ed Q) (hV : Kd.R xA 34 w1 X.w0.heap.size (fun _ => True) (.slice (some ⟨X.gv, 0, none⟩) X.n X.cv) vs') (hg : w.grownBy w1 (some X.gv)) : SS X w1 vs' st op us ed Q := by
 obtain ⟨inner, ho⟩ := Kd.xR h.hV;obtain ⟨cells, hc⟩ := Kd.lW h.hV X.gv rfl;exact ⟨jq h.hB _ h.hB.size hg (fun k hk => mf ho k hk), bX h.hs hg (Kd.mK h.hV h.hs (by decide)), h.hsb, h.hC, hV, Kd.nA h.hS h.hV (by decide) hg, Kd.nA h.hO h.hV (by decide) hg, Kd.Ox h.hU (Kd.lW h.hV) (by decide) hg, Kd.nA h.hE h.hV (by decide) hg, Aq h.hQ hc (by decide) (by decide) hg⟩
theorem SS.ac2 (h : SS X w vs st op us ed Q) (hO : Kd.R (Kd.int .i64) 3 w1 X.w0.heap.size (fun k => k ≠ X.ge) (.slice (some ⟨X.go, 0, none⟩) X.es.length X.co) op') (hg : w.grownBy w1 (some X.go)) : SS X w1 vs st op' us ed Q := by
 obtain ⟨inner, ho⟩ := Kd.xR h.hO;obtain ⟨cells, hc⟩ := Kd.lW h.hO X.go rfl;exact ⟨jq h.hB _ h.hB.size hg (fun k hk => mf ho k hk), bX h.hs hg (Kd.mK h.hO h.hs (by decide)), h.hsb, h.hC, Kd.nA h.hV h.hO (by decide) hg, Kd.nA h.hS h.hO (by decide) hg, hO, Kd.Ov h.hU hg (fun k hk e => hk.1 (by injection e)), Kd.vF h.hE hg (fun k hk e => hk (by injection e)), Aq h.hQ hc (by decide) (by decide) hg⟩
theorem SS.TD (h : SS X w vs st op us ed Q) (hE : Kd.R (Kd.int .i64) 3 w1 X.w0.heap.size (fun k => k ≠ X.go) (.slice (some ⟨X.ge, 0, none⟩) X.n X.ce) ed') (hg : w.grownBy w1 (some X.ge)) : SS X w1 vs st op us ed' Q := by
 obtain ⟨inner, ho⟩ := Kd.xR h.hE;obtain ⟨cells, hc⟩ := Kd.lW h.hE X.ge rfl;exact ⟨jq h.hB _ h.hB.size hg (fun k hk => mf ho k hk), bX h.hs hg (Kd.mK h.hE h.hs (by decide)), h.hsb, h.hC, Kd.nA h.hV h.hE (by decide) hg, Kd.nA h.hS h.hE (by decide) hg, Kd.vF h.hO hg (fun k hk e => hk (by injection e)), Kd.Ov h.hU hg (fun k hk e => hk.2 (by injection e)), hE, Aq h.hQ hc (by decide) (by decide) hg⟩
end
theorem SS.size {X : Ctx} {w : World} {vs : List dK} {st : List Bool} {op : List Int} {us : List (List Int)} {ed : List Int} {Q : QQ} (h : SS X w vs st op us ed Q) : X.w0.heap.size ≤ w.heap.size := h.hB.size
theorem SS.below {X : Ctx} {w w' : World} {vs : List dK} {st : List Bool} {op : List Int} {us : List (List Int)} {ed : List Int} {Q : QQ} (h : SS X w vs st op us ed Q) (hb : Below w.heap.size w w') : SS X w' vs st op us ed Q :=
 h.queue (vP.of_below hb h.size) Q (lL h.hQ hb)
theorem SS.lens {X : Ctx} {w : World} {vs : List dK} {st : List Bool} {op : List Int} {us : List (List Int)} {ed : List Int} {Q : QQ} (h : SS X w vs st op us ed Q) : X.n = vs.length ∧ X.n = st.length ∧ X.es.length = op.length ∧ X.n = us.length ∧ X.n = ed.length :=
 ⟨(Kd.dD h.hV).1, (Kd.dD h.hS).1, (Kd.dD h.hO).1, (Kd.Sz h.hU).1, (Kd.dD h.hE).1⟩
theorem jk {α : Type} {enc : α → Value} {h1 : ∀ x, (enc x).oneCell' = true} {e base g n cap : Nat} {ok : Nat → Prop} {W : World} {xs : List α} (h : (Kd.scalar enc h1).R e W base ok (.slice (some ⟨g, 0, none⟩) n cap) xs) (z : α) (i : Int) (h0 : 0 ≤ i) (hi : i < n) :
  W.cell? ⟨g, i.toNat, none⟩ = some (enc (xs.getD i.toNat z)) ∧ W.frozen? ⟨g, i.toNat, none⟩ = false := by
 obtain ⟨c, hcl, hM, hcc, hfz⟩ := Kd.Df h z i h0 hi;have hs : (Kd.scalar enc h1).sz = 1 := rfl;obtain rfl : c = [enc (xs.getD i.toNat z)] := hM;refine ⟨?_, ?_⟩
 ·have := hcc 0 _ rfl;simpa [hs] using this
 ·have := hfz 0;simpa [hs] using this
def zt (N : Nat) (es : List dO) : Prop := ∀ e, e ∈ es → (0 ≤ e.f0 ∧ e.f0 < (N : Int)) ∧ (∀ t, t ∈ e.f1 → 0 ≤ t ∧ t < (N : Int)) ∧ e.f1.length ≤ 1000000
theorem jb {N : Nat} {es : List dO} (h : zt N es) (k : Int) (h0 : 0 ≤ k) (h1 : k < (es.length : Int)) : (0 ≤ (aj es k).f0 ∧ (aj es k).f0 < (N : Int)) ∧ (∀ t, t ∈ (aj es k).f1 → 0 ≤ t ∧ t < (N : Int)) ∧ (aj es k).f1.length ≤ 1000000 := by
 have hk : k.toNat < es.length := by omega
 refine h _ ?_;simp only [aj, List.getD_eq_getElem?_getD, List.getElem?_eq_getElem hk, Option.getD_some];exact List.getElem_mem _
def Et (Q : QQ) (c : uo) : QQ := ⟨Hg (Q.es.length + 1) (Q.es ++ [⟨c, Q.nx, Q.ck⟩]) Q.es.length, wrap64 (Q.nx + 1), wrap64 (Q.ck + 1)⟩
def kV (vs : List dK) (e : dO) : dK := gD e.f2 (tailV vs e.f1)
def nL (es : List dO) (vs : List dK) (st : List Bool) (Q : QQ) (k : Int) : QQ :=
 if (kV vs (aj es k)).f0 < 1099511627776 ∧ st.getD (aj es k).f0.toNat false = false then Et Q ⟨(aj es k).f0, kV vs (aj es k)⟩ else Q
theorem eX (w : World) (o : Obj) : Below w.heap.size w (w.alloc o) ∧ (w.alloc o).heap[w.heap.size]? = some o := ⟨dY (Below.refl _ _) o, heap_alloc_new w o⟩
def vS.T2 : Bool × List (List Nat × List Nat) := (true, [([], []), ([0], [0]), ([1], [1]), ([2], [2]), ([3], [3]), ([4, 3], [3, 4]), ([5, 3], [3, 5]), ([6, 3], [3, 6]), ([3], [3]), ([8, 3], [3, 8]), ([7, 9, 3], [3, 7, 9]), ([10, 3], [3, 10]), ([11, 3], [3, 11]), ([3, 12], [3, 12])])
def vS.B2 : List Nat := [0, 1, 3, 7, 15, 31, 63, 127, 15, 271, 1023, 2047, 4095, 8191]
theorem vS.alp : iC .any (opsOf Try.f104 2) = vS.T2 := by kernel_rfl
theorem vS.Es : fo vS.T2.2 vS.B2 = true := by kernel_rfl
def vS.T3 : Bool × List (List Nat × List Nat) := (true, [([], []), ([0], [0]), ([1], [1]), ([2], [2]), ([], []), ([4], [4]), ([], []), ([5, 6], [5, 6]), ([3, 7], [3, 7])])
def vS.B3 : List Nat := [0, 1, 3, 7, 0, 16, 0, 112, 255]
theorem vS.aal : iC .any (opsOf Try.f104 3) = vS.T3 := by kernel_rfl
theorem vS.Tz : fo vS.T3.2 vS.B3 = true := by kernel_rfl
set_option maxRecDepth 100000 in
set_option maxHeartbeats 8000000 in
theorem Eu (X : Ctx) (w : World) (vs : List dK) (st : List Bool) (op : List Int) (us : List (List Int)) (ed : List Int) (Q : QQ) (h : SS X w vs st op us ed Q) (hok : zt X.n X.es) (k : Int) (h0 : 0 ≤ k) (h1 : k < (X.es.length : Int)) (hsz : Q.es.length < 1000000) :
  Calls Try.prog 104 #[.pointer (some ⟨X.s, 0, none⟩), .int .i64 k] w fun x w' => x = .returned (.tuple #[]) ∧ SS X w' vs st op us ed (nL X.es vs st Q k) ∧ vP X.w0.heap.size w w' := by
 obtain ⟨he0, het, hel⟩ := jb hok k h0 h1;have hoff : nL X.es vs st Q k = if (kV vs (aj X.es k)).f0 < 1099511627776 ∧ st.getD (aj X.es k).f0.toNat false = false then Et Q ⟨(aj X.es k).f0, kV vs (aj X.es k)⟩ else Q := rfl
 obtain ⟨ad, A1, c1, hA, c0, c1', c2, c3, c4, hc1, Da⟩ := kK (Kd.bF h.hC h.hB) k h0 (by omega);generalize aj X.es k = e at *;have aas := aa.mk hoff;have s1 : w.cell? ⟨X.s, 1, none⟩ = some (.slice (some ad) X.es.length X.c) := by rw [ae h.hs 1, ← hA]; rfl
 have H := aa.mk h;have EY := aa.mk Da;have HET := aa.mk het;have Q5 := aa.mk hok;clear hoff h Da het hok;go_enter Try.func104, Try.ntmps104
 go_upto_region 1 with (fail)
 have ER := eX w (.cells #[.int .i64 e.f0, .slice A1 e.f1.length c1, .int .i64 e.f2, .int .i64 e.f3.f0, .int .i64 e.f3.f1] 54);have HA := aa.mk (H.out.below ER.1);have FA := aa.mk (vP.of_below ER.1 H.out.size);have H4 := aa.mk ER.2;have HCA := aa.mk (Kd.bF EY.out ER.1);clear ER c0 c1' c2 c3 c4 s1;obtain ⟨b4, hb4⟩ : ∃ b4, b4 = w.heap.size := ⟨_, rfl⟩;rw [← hb4] at H4 ⊢;clear hb4 H EY;generalize (w.alloc (.cells #[.int .i64 e.f0, .slice A1 e.f1.length c1, .int .i64 e.f2, .int .i64 e.f3.f0, .int .i64 e.f3.f1] 54)) = wA at *;obtain ⟨hn, hnc, TE⟩ := Kd.dD HA.out.hV;have s2 : wA.cell? ⟨X.s, 2, none⟩ = some (.slice (some ⟨X.gv, 0, none⟩) vs.length X.cv) := by rw [← hn, ae HA.out.hs 2]; rfl
 have h40 : wA.cell? ⟨b4, 0, none⟩ = some (.int .i64 e.f0) := (ae H4.out 0).trans rfl;have h41 : wA.cell? ⟨b4, 1, none⟩ = some (.slice A1 e.f1.length c1) := (ae H4.out 1).trans rfl;have h42 : wA.cell? ⟨b4, 2, none⟩ = some (.int .i64 e.f2) := (ae H4.out 2).trans rfl;have h43 : wA.cell? ⟨b4, 3, none⟩ = some (.int .i64 e.f3.f0) := (ae H4.out 3).trans rfl;have h44 : wA.cell? ⟨b4, 4, none⟩ = some (.int .i64 e.f3.f1) := (ae H4.out 4).trans rfl;have UW := aa.mk TE;clear TE;go_upto_region 2 with (first | (go_at_call 107; refine (zA X.s vs (some ⟨X.gv, 0, none⟩) X.cv e A1 c1 wA s2 UW.out HCA.out (fun t ht => by rw [← hn]; exact HET.out t ht) hel).mono ?_; rintro x w4 ⟨rfl, hB4⟩; have FA4 := aa.mk (FA.out.trans (vP.of_below hB4 HA.out.size)); have Ju := aa.mk (HA.out.below hB4); have H44 := aa.mk (aC H4.out hB4); clear hB4 s2 h40 h41 h42 h43 h44 HA H4))
 clear HCA UW hn hnc;rw [show gD e.f2 (tailV vs e.f1) = kV vs e from rfl];generalize kV vs e = v at *;have hB0 := eX w4 (.cells #[.int .i64 v.f0, .int .i64 v.f1] 34);have HB := aa.mk (Ju.out.below hB0.1);have FB := aa.mk (FA4.out.trans (vP.of_below hB0.1 Ju.out.size)).drew;clear FA FA4;have H4B := aa.mk (aC H44.out hB0.1);have H5B := aa.mk hB0.2;clear hB0 Ju H44;obtain ⟨b5, hb5⟩ : ∃ b5, b5 = w4.heap.size := ⟨_, rfl⟩;rw [← hb5] at H5B ⊢;clear hb5;generalize (w4.alloc (.cells #[.int .i64 v.f0, .int .i64 v.f1] 34)) = wB at *;have s3 : wB.drew.cell? ⟨X.s, 3, none⟩ = some (.slice (some ⟨X.gs, 0, none⟩) X.n X.cs) := by show wB.cell? _ = _; rw [ae HB.out.hs 3]; rfl
 have h4 : wB.drew.cell? ⟨b4, 0, none⟩ = some (.int .i64 e.f0) := by show wB.cell? _ = _; rw [ae H4B.out 0]; rfl
 have h5 : wB.drew.cell? ⟨b5, 0, none⟩ = some (.int .i64 v.f0) := by show wB.cell? _ = _; rw [ae H5B.out 0]; rfl
 obtain ⟨bs, hst⟩ : ∃ bs, st.getD e.f0.toNat false = bs := ⟨_, rfl⟩;have HST := aa.mk hst;have g3 : wB.drew.cell? ⟨X.gs, e.f0.toNat, none⟩ = some (.bool bs) := by rw [← hst]; exact (jk HB.out.hS false e.f0 he0.1 he0.2).1
 clear hst;obtain ⟨ac3, ac4⟩ := he0;by_cases hlt : v.f0 < 1099511627776
 ·go_upto_region 2 with (fail)
  refine fu (n := 14) (S := fun w' => w'.cell? ⟨X.s, 3, none⟩ = some (.slice (some ⟨X.gs, 0, none⟩) X.n X.cs) ∧ w'.cell? ⟨b4, 0, none⟩ = some (.int .i64 e.f0) ∧ w'.cell? ⟨X.gs, e.f0.toNat, none⟩ = some (.bool bs) ∧ w'.cell? ⟨b5, 0, none⟩ = some (.int .i64 v.f0)) (ds := []) #[false, false, false, false, false, false, false, false, false, false, false, false, false, false] (by kernel_rfl) rfl rfl ⟨s3, h4, g3, h5⟩ (fun hHeld => ?_);refine dw vS.alp vS.Es (fun dA ji => ?_);refine fG (fuel := 0) [(0, 17), (1, 18), (2, 19), (3, 20), (4, 21), (5, 22), (6, 23), (7, 24), (8, 25), (9, 26), (10, 27), (11, 28), (12, 29), (13, 30)] #[true, true, true, true, true, true, true, true, true, true, true, true, true, true] (df dA.out ji.out _ _ _ (by kernel_rfl)) rfl (fun _ _ _ _ _ h => h) hHeld (a' := ?_) ?_ ?_;rotate_left
  ·iterate 14
    refine bC (v := ?_) (a1 := ?_) rfl rfl (Or.inl ⟨by rfl, ?_⟩) ?_ ?_;rotate_left 2
    ·rintro w' ⟨s0, s1, s2, s3⟩;go_simp;with_reducible rfl
    ·simp only [Act.put, List.setIfInBounds_toArray, List.set_cons_zero, List.set_cons_succ, bH, bI];rfl
   exact chain_nil
  refine gH (dV dA.out (by kernel_rfl)) ?_;clear s3 h4 h5 g3 hHeld
  cases bs with
  | true =>
   go_wp2_with fail
   go_end0
   refine ⟨rfl, ?_, FB.out⟩;rw [aas.out, if_neg (fun h => by rw [HST.out] at h; exact absurd h.2 (by decide))];exact HB.out.below (dM (Below.refl _ _))
  | false =>
   go_upto_region 3 with (fail)
   have HC := HB.out.below (dM (Below.refl _ _));have hsC := HC.hs;have h4C : wB.drew.heap[b4]? = _ := H4B.out;have h5C : wB.drew.heap[b5]? = _ := H5B.out;have HCC := aa.mk HC;clear HC HB H4B H5B;generalize wB.drew = wC at *;have HQC := aa.mk (amf HCC.out.hQ);have s6 : wC.drew.cell? ⟨X.s, 6, none⟩ = some (.pointer (some ⟨X.q, 0, none⟩)) := by show wC.cell? _ = _; rw [ae hsC 6]; rfl
   have h4 : wC.drew.cell? ⟨b4, 0, none⟩ = some (.int .i64 e.f0) := by show wC.cell? _ = _; rw [ae h4C 0]; rfl
   have h50 : wC.drew.cell? ⟨b5, 0, none⟩ = some (.int .i64 v.f0) := by show wC.cell? _ = _; rw [ae h5C 0]; rfl
   have h51 : wC.drew.cell? ⟨b5, 1, none⟩ = some (.int .i64 v.f1) := by show wC.cell? _ = _; rw [ae h5C 1]; rfl
   refine fu (n := 9) (S := fun w' => w'.cell? ⟨X.s, 6, none⟩ = some (.pointer (some ⟨X.q, 0, none⟩)) ∧ w'.cell? ⟨b4, 0, none⟩ = some (.int .i64 e.f0) ∧ w'.cell? ⟨b5, 0, none⟩ = some (.int .i64 v.f0) ∧ w'.cell? ⟨b5, 1, none⟩ = some (.int .i64 v.f1)) (ds := []) #[false, false, false, false, false, false, false, false, false] (by kernel_rfl) rfl rfl ⟨s6, h4, h50, h51⟩ (fun hHeld => ?_);refine dw vS.aal vS.Tz (fun dA ji => ?_);refine fG (fuel := 1) [(0, 31), (1, 32), (2, 33), (3, 34), (4, 35), (5, 36), (6, 37), (7, 38)] #[true, true, true, true, true, true, true, true, false] (df dA.out ji.out _ _ _ (by kernel_rfl)) rfl (fun _ _ _ _ _ h => h) hHeld (a' := ?_) ?_ ?_;rotate_left
   ·iterate 8
     refine bC (v := ?_) (a1 := ?_) rfl rfl (Or.inl ⟨by rfl, ?_⟩) ?_ ?_;rotate_left 2
     ·rintro w' ⟨s0, s1, s2, s3⟩;go_simp;with_reducible rfl
     ·simp only [Act.put, List.setIfInBounds_toArray, List.set_cons_zero, List.set_cons_succ, bH, bI];rfl
    exact chain_nil
   refine fT (i := 8) (N := some 39) #[true, true, true, true, true, true, true, true, true] rfl rfl (dn dA.out (by kernel_rfl)) (by decide) (fun K hK => ?_);refine call_ 110 #[.pointer (some ⟨X.q, 0, none⟩), .agg #[.int .i64 e.f0, .int .i64 v.f0, .int .i64 v.f1]] (by rfl) rfl ?_ ?_
   ·have he := kJ Try.func110 (by kernel_rfl) rfl #[.pointer (some ⟨X.q, 0, none⟩), .agg #[.int .i64 e.f0, .int .i64 v.f0, .int .i64 v.f1]] wC.drew;unfold execOp;simp [resolve, Deferred.ofValue, invoke, Act.eval, he]
   refine (MR X.w0.heap.size X.q Q.es Q.nx Q.ck (⟨e.f0, v⟩ : uo) _ HQC.out hsz).mono ?_;rintro x w7 ⟨rfl, hQ7, hF7⟩;have HQ7 := aa.mk hQ7;have Yi := aa.mk hF7;clear hQ7 hF7;refine ⟨_, rfl, ?_⟩;refine hK.out _ _ ⟨(by rw [ae (Yi.out.keep _ _ _ _ hsC (by decide) (by decide)) 6]; rfl), (by rw [ae (Yi.out.keep _ _ _ _ h4C (by decide) (by decide)) 0]; rfl), (by rw [ae (Yi.out.keep _ _ _ _ h5C (by decide) (by decide)) 0]; rfl), (by rw [ae (Yi.out.keep _ _ _ _ h5C (by decide) (by decide)) 1]; rfl)⟩ (fun hHeld => ?_);clear hK K;refine bS (a' := ?_) ?_ ?_;rotate_left
   ·show Act.put _ (some 39) _ = _;simp only [Act.put, List.setIfInBounds_toArray, List.set_cons_zero, List.set_cons_succ, bH, bI];rfl
   refine gH (dV dA.out (by kernel_rfl)) ?_;go_wp2_with fail
   go_end0
   refine ⟨rfl, ?_, FB.out.trans Yi.out.Ai⟩;rw [aas.out, if_pos ⟨hlt, HST.out⟩];exact HCC.out.queue Yi.out.Ai (Et Q ⟨e.f0, v⟩) HQ7.out
 ·go_upto_region 2 with (fail)
  refine fu (n := 14) (S := fun w' => w'.cell? ⟨X.s, 3, none⟩ = some (.slice (some ⟨X.gs, 0, none⟩) X.n X.cs) ∧ w'.cell? ⟨b4, 0, none⟩ = some (.int .i64 e.f0) ∧ w'.cell? ⟨X.gs, e.f0.toNat, none⟩ = some (.bool bs) ∧ w'.cell? ⟨b5, 0, none⟩ = some (.int .i64 v.f0)) (ds := []) #[false, false, false, false, false, false, false, false, false, false, false, false, false, false] (by kernel_rfl) rfl rfl ⟨s3, h4, g3, h5⟩ (fun hHeld => ?_);refine dw vS.alp vS.Es (fun dA ji => ?_);refine fG (fuel := 0) [(0, 17), (1, 18), (2, 19), (3, 20), (4, 21), (5, 22), (6, 23), (7, 24), (8, 25), (9, 26), (10, 27), (11, 28), (12, 29), (13, 30)] #[true, true, true, true, true, true, true, true, true, true, true, true, true, true] (df dA.out ji.out _ _ _ (by kernel_rfl)) rfl (fun _ _ _ _ _ h => h) hHeld (a' := ?_) ?_ ?_;rotate_left
  ·iterate 4
    refine bC (v := ?_) (a1 := ?_) rfl rfl (Or.inl ⟨by rfl, ?_⟩) ?_ ?_;rotate_left 2
    ·rintro w' ⟨s0, s1, s2, s3⟩;go_simp;with_reducible rfl
    ·simp only [Act.put, List.setIfInBounds_toArray, List.set_cons_zero, List.set_cons_succ, bH, bI];rfl
   iterate 9
    refine jQ (a1 := ?_) rfl rfl (by rfl) ?_ ?_;rotate_left
    ·simp only [Act.put, List.setIfInBounds_toArray, List.set_cons_zero, List.set_cons_succ];rfl
   iterate 1
    refine bC (v := ?_) (a1 := ?_) rfl rfl (Or.inl ⟨by rfl, ?_⟩) ?_ ?_;rotate_left 2
    ·rintro w' ⟨s0, s1, s2, s3⟩;go_simp;with_reducible rfl
    ·simp only [Act.put, List.setIfInBounds_toArray, List.set_cons_zero, List.set_cons_succ, bH, bI];rfl
   exact chain_nil
  refine gH (dV dA.out (by kernel_rfl)) ?_;clear s3 h4 h5 g3 hHeld;go_wp2_with fail
  go_end0
  refine ⟨rfl, ?_, FB.out⟩;rw [aas.out, if_neg (fun h => by omega)];exact HB.out.below (dM (Below.refl _ _))
theorem F6 : ∀ (k : Nat) (es : List dP) (i : Nat), (Hg k es i).length = es.length
 | 0, es, i => rfl
 | k + 1, es, 0 => rfl
 | k + 1, es, m + 1 => by
  unfold Hg;split
  ·rw [F6, dh]
  ·rfl
theorem Jw (Q : QQ) (c : uo) : (Et Q c).es.length = Q.es.length + 1 := by simp [Et, F6]
theorem uw (es : List dO) (vs : List dK) (st : List Bool) (Q : QQ) (k : Int) : (nL es vs st Q k).es.length ≤ Q.es.length + 1 := by
 unfold nL;split
 ·rw [Jw]; exact Nat.le_refl _
 ·exact Nat.le_succ _
def kL (w w' : World) : Prop := ∀ (k : Nat) cs fr, w.heap[k]? = some (.cells cs 24 fr) → w'.heap[k]? = some (.cells cs 24 fr)
theorem kL.trans {a b c : World} (h : kL a b) (k : kL b c) : kL a c := fun i cs fr hi => k i cs fr (h i cs fr hi)
theorem kL.of_below {a b : World} (h : Below a.heap.size a b) : kL a b := fun i cs fr hi => aC hi h
theorem kL.ac5 {base : Nat} {a b : World} (h : vP base a b) : kL a b := fun i cs fr hi => h.keep i cs 24 fr hi (by decide) (by decide)
theorem kL.xP {a b : World} {g t : Nat} {cells : Array Value} (hc : a.heap[g]? = some (.cells cells t (0, 0))) (ht : t ≠ 24) (hg : a.grownBy b (some g)) : kL a b := fun i cs fr hi => bX hi hg (by
 intro e;injection e with e
 subst e;rw [hc] at hi;injection hi with hi
 injection hi with _ hi
 exact ht hi)
def jw (es : List dO) (vs : List dK) (st : List Bool) (p : List Int × QQ) (k : Int) : List Int × QQ :=
 if rd (p.1.set k.toNat (wrap64 (rd p.1 k - 1))) k = 0 then (p.1.set k.toNat (wrap64 (rd p.1 k - 1)), nL es vs st p.2 k) else (p.1.set k.toNat (wrap64 (rd p.1 k - 1)), p.2)
def jV (es : List dO) (vs : List dK) (st : List Bool) (l : List Int) (p : List Int × QQ) : List Int × QQ := l.foldl (jw es vs st) p
theorem MW {α : Type} {d : Kd α} {f base e g n cap : Nat} {ok : Nat → Prop} {W : World} {xs : List (List α)} (h : (Kd.slice f d).R e W base ok (.slice (some ⟨g, 0, none⟩) n cap) xs) (i : Int) (h0 : 0 ≤ i) (hi : i < n) :
  ∃ v, W.cell? ⟨g, i.toNat, none⟩ = some v ∧ d.R f W base (fun k => ok k ∧ k ≠ g) v (xs.getD i.toNat []) ∧ W.frozen? ⟨g, i.toNat, none⟩ = false := by
 obtain ⟨c, hcl, hM, hcc, hfz⟩ := Kd.Df h [] i h0 hi;have hs : (Kd.slice f d).sz = 1 := rfl;obtain ⟨v, rfl, hR⟩ := hM;refine ⟨v, ?_, hR, ?_⟩
 ·have := hcc 0 _ rfl;simpa [hs] using this
 ·have := hfz 0;simpa [hs] using this
def ym.T1 : Bool × List (List Nat × List Nat) := (true, [([], []), ([0], [0]), ([1], [1]), ([2], [2]), ([], []), ([4], [4]), ([], []), ([6], [6]), ([7], [7]), ([8], [8]), ([], []), ([10], [10]), ([], []), ([12], [12]), ([3, 5, 0, 1, 2, 3, 4, 5, 9], [3, 5]), ([14, 0, 1, 2, 3, 4, 5, 9], [14]), ([9, 11, 0, 1, 2, 3, 4, 5, 6, 7, 8, 9, 10, 11, 12, 13, 14, 15], [9, 11]), ([16, 13, 15, 0, 1, 2, 3, 4, 5, 6, 7, 8, 9, 10, 11, 12, 13, 14, 15], [13, 16])])
def ym.B1 : List Nat := [0, 1, 3, 7, 0, 16, 0, 64, 192, 448, 0, 1024, 0, 4096, 1023, 17407, 65535, 131071]
theorem ym.Al : iC .any (opsOf Try.f106 1) = ym.T1 := by kernel_rfl
theorem ym.sV : fo ym.T1.2 ym.B1 = true := by kernel_rfl
def ym.T2 : Bool × List (List Nat × List Nat) := (true, [([], []), ([0], [0]), ([1], [1]), ([2], [2]), ([], []), ([4], [4]), ([3, 5], [3, 5]), ([6], [6]), ([7], [7]), ([], [])])
def ym.B2 : List Nat := [0, 1, 3, 7, 0, 16, 63, 127, 255, 0]
theorem ym.alp : iC .any (opsOf Try.f106 2) = ym.T2 := by kernel_rfl
theorem ym.Es : fo ym.T2.2 ym.B2 = true := by kernel_rfl
set_option maxRecDepth 100000 in
set_option maxHeartbeats 8000000 in
theorem Jy (X : Ctx) (w : World) (vs : List dK) (st : List Bool) (op : List Int) (us : List (List Int)) (ed : List Int) (Q : QQ) (h : SS X w vs st op us ed Q) (hok : zt X.n X.es) (c : uo) (h0 : 0 ≤ c.f0) (h1 : c.f0 < (X.n : Int))
  (MX : ∀ k, k ∈ us.getD c.f0.toNat [] → 0 ≤ k ∧ k < (X.es.length : Int)) (hsz : Q.es.length + (us.getD c.f0.toNat []).length < 1000000) :
  Calls Try.prog 106 #[.pointer (some ⟨X.s, 0, none⟩), .agg #[.int .i64 c.f0, .int .i64 c.f1.f0, .int .i64 c.f1.f1]] w fun x w' => x = .returned (.tuple #[]) ∧
   SS X w' (vs.set c.f0.toNat c.f1) (st.set c.f0.toNat true) (jV X.es (vs.set c.f0.toNat c.f1) (st.set c.f0.toNat true) (us.getD c.f0.toNat []) (op, Q)).1 us ed (jV X.es (vs.set c.f0.toNat c.f1) (st.set c.f0.toNat true) (us.getD c.f0.toNat []) (op, Q)).2 ∧ kL w w' := by
 obtain ⟨l, hl⟩ : ∃ l, us.getD c.f0.toNat [] = l := ⟨_, rfl⟩;obtain ⟨vs', hvs⟩ : ∃ v, vs.set c.f0.toNat c.f1 = v := ⟨_, rfl⟩;obtain ⟨st', hst⟩ : ∃ v, st.set c.f0.toNat true = v := ⟨_, rfl⟩;rw [hl] at MX hsz ⊢;rw [hvs, hst];have HVS := aa.mk hvs;have HST := aa.mk hst;have HL := aa.mk hl;clear hl hvs hst;go_enter Try.func106, Try.ntmps106
 go_upto_region 1 with (fail)
 have ER := eX w (.cells #[.int .i64 c.f0, .int .i64 c.f1.f0, .int .i64 c.f1.f1] 124);have HA := aa.mk (h.below ER.1);have KA := aa.mk (kL.of_below ER.1);have H3 := aa.mk ER.2;obtain ⟨b3, hb3⟩ : ∃ b3, b3 = w.heap.size := ⟨_, rfl⟩;rw [← hb3] at H3 ⊢;clear hb3 h ER;generalize (w.alloc (.cells #[.int .i64 c.f0, .int .i64 c.f1.f0, .int .i64 c.f1.f1] 124)) = wA at *;have hd : Below wA.heap.size wA wA.drew := dM (Below.refl _ _);have HD := HA.out.below hd;have h3 := aC H3.out hd;have s3 : wA.drew.cell? ⟨X.s, 3, none⟩ = some (.slice (some ⟨X.gs, 0, none⟩) X.n X.cs) := by rw [ae HD.hs 3]; rfl
 have s2 : wA.drew.cell? ⟨X.s, 2, none⟩ = some (.slice (some ⟨X.gv, 0, none⟩) X.n X.cv) := by rw [ae HD.hs 2]; rfl
 have h00 : wA.drew.cell? ⟨b3, 0, none⟩ = some (.int .i64 c.f0) := by rw [ae h3 0]; rfl
 have h10 : wA.drew.cell? ⟨b3, 1, none⟩ = some (.int .i64 c.f1.f0) := by rw [ae h3 1]; rfl
 have h20 : wA.drew.cell? ⟨b3, 2, none⟩ = some (.int .i64 c.f1.f1) := by rw [ae h3 2]; rfl
 obtain ⟨gs0, gsf⟩ := jk HD.hS false c.f0 h0 h1;have hput := Kd.zG HD.hS c.f0 true;obtain ⟨W1, hW1⟩ : ∃ W1, W1 = wA.drew.setCell ⟨X.gs, c.f0.toNat, none⟩ (.bool true) := ⟨_, rfl⟩;rw [← hW1] at hput;have D1 := HD.aiw hput.1 hput.2;obtain ⟨kc1, ac6⟩ := Kd.lW HD.hS X.gs rfl;have K1 := aa.mk ((KA.out.trans (kL.of_below hd)).trans (kL.xP ac6 (by decide) hput.2));clear ac6 KA;have h31 := bX h3 hput.2 (Kd.mK HD.hS h3 (by decide));have s31 : W1.cell? ⟨X.s, 3, none⟩ = some (.slice (some ⟨X.gs, 0, none⟩) X.n X.cs) := by rw [ae D1.hs 3]; rfl
 have s21 : W1.cell? ⟨X.s, 2, none⟩ = some (.slice (some ⟨X.gv, 0, none⟩) X.n X.cv) := by rw [ae D1.hs 2]; rfl
 have h01 : W1.cell? ⟨b3, 0, none⟩ = some (.int .i64 c.f0) := by rw [ae h31 0]; rfl
 have h11 : W1.cell? ⟨b3, 1, none⟩ = some (.int .i64 c.f1.f0) := by rw [ae h31 1]; rfl
 have h21 : W1.cell? ⟨b3, 2, none⟩ = some (.int .i64 c.f1.f1) := by rw [ae h31 2]; rfl
 obtain ⟨v0, v1, vf0, vf1⟩ := ng D1.hV c.f0 h0 h1;have Iq := Ap D1.hV c.f0 h0 h1 c.f1;obtain ⟨W2, hW2⟩ : ∃ W2, W2 = (W1.setCell ⟨X.gv, c.f0.toNat * 2, none⟩ (.int .i64 c.f1.f0)).setCell ⟨X.gv, c.f0.toNat * 2 + 1, none⟩ (.int .i64 c.f1.f1) := ⟨_, rfl⟩;rw [← hW2] at Iq;have D2 := D1.TC Iq.1 Iq.2;obtain ⟨kc2, ac7⟩ := Kd.lW D1.hV X.gv rfl;have K2 := aa.mk ((K1.out.trans (kL.xP ac7 (by decide) Iq.2)).trans (kL.of_below (dM (Below.refl _ _))));clear ac7 K1;have h32 := bX h31 Iq.2 (Kd.mK D1.hV h31 (by decide));have s32 : W2.cell? ⟨X.s, 3, none⟩ = some (.slice (some ⟨X.gs, 0, none⟩) X.n X.cs) := by rw [ae D2.hs 3]; rfl
 have s22 : W2.cell? ⟨X.s, 2, none⟩ = some (.slice (some ⟨X.gv, 0, none⟩) X.n X.cv) := by rw [ae D2.hs 2]; rfl
 have h02 : W2.cell? ⟨b3, 0, none⟩ = some (.int .i64 c.f0) := by rw [ae h32 0]; rfl
 have h12 : W2.cell? ⟨b3, 1, none⟩ = some (.int .i64 c.f1.f0) := by rw [ae h32 1]; rfl
 have h22 : W2.cell? ⟨b3, 2, none⟩ = some (.int .i64 c.f1.f1) := by rw [ae h32 2]; rfl
 have D2' := aa.mk D2;have H32 := aa.mk h32;clear HA H3 HD hput D1 Iq D2 h3 h31 h32;refine fu (n := 18) (S := fun w' => w'.cell? ⟨X.s, 3, none⟩ = some (.slice (some ⟨X.gs, 0, none⟩) X.n X.cs) ∧ w'.cell? ⟨X.s, 2, none⟩ = some (.slice (some ⟨X.gv, 0, none⟩) X.n X.cv) ∧ w'.cell? ⟨b3, 0, none⟩ = some (.int .i64 c.f0) ∧ w'.cell? ⟨b3, 1, none⟩ = some (.int .i64 c.f1.f0) ∧ w'.cell? ⟨b3, 2, none⟩ = some (.int .i64 c.f1.f1)) (ds := []) #[false, false, false, false, false, false, false, false, false, false, false, false, false, false, false, false, false, false] (by kernel_rfl) rfl rfl ⟨s3, s2, h00, h10, h20⟩ (fun hHeld => ?_);refine dw ym.Al ym.sV (fun dA ji => ?_);refine fG (fuel := 3) [(0, 6), (1, 7), (2, 8), (3, 9), (4, 10), (5, 11), (6, 12), (7, 13), (8, 14), (9, 15), (10, 16), (11, 17), (12, 18), (13, 19), (14, 20)] #[true, true, true, true, true, true, true, true, true, true, true, true, true, true, true, false, false, false] (df dA.out ji.out _ _ _ (by kernel_rfl)) rfl (fun _ _ _ _ _ h => h) hHeld (a' := ?_) ?_ ?_;rotate_left
 ·iterate 15
   refine bC (v := ?_) (a1 := ?_) rfl rfl (Or.inl ⟨by rfl, ?_⟩) ?_ ?_;rotate_left 2
   ·rintro w' ⟨s0, s1, s2, s3, s4⟩;go_simp;with_reducible rfl
   ·simp only [Act.put, List.setIfInBounds_toArray, List.set_cons_zero, List.set_cons_succ, bH, bI];rfl
  exact chain_nil
 refine fT (i := 15) (N := none) #[true, true, true, true, true, true, true, true, true, true, true, true, true, true, true, true, false, false] rfl rfl (dn dA.out (by kernel_rfl)) (by decide) (fun K hK => ?_);refine rV (w1 := W1) (by rfl) rfl ?_ ?_
 ·rw [hW1];first | (go_simp; done) | (go_simp; rfl)
 refine hK.out _ _ ⟨s31, s21, h01, h11, h21⟩ (fun hHeld => ?_);clear hK K;refine fG (fuel := 1) [(16, 21)] #[true, true, true, true, true, true, true, true, true, true, true, true, true, true, true, true, true, false] (df dA.out ji.out _ _ _ (by kernel_rfl)) rfl (fun _ _ _ _ _ h => h) hHeld (a' := ?_) ?_ ?_;rotate_left
 ·iterate 1
   refine bC (v := ?_) (a1 := ?_) rfl rfl (Or.inl ⟨by rfl, ?_⟩) ?_ ?_;rotate_left 2
   ·rintro w' ⟨s0, s1, s2, s3, s4⟩;go_simp;with_reducible rfl
   ·simp only [Act.put, List.setIfInBounds_toArray, List.set_cons_zero, List.set_cons_succ, bH, bI];rfl
  exact chain_nil
 refine fT (i := 17) (N := none) #[true, true, true, true, true, true, true, true, true, true, true, true, true, true, true, true, true, true] rfl rfl (dn dA.out (by kernel_rfl)) (by decide) (fun K hK => ?_);clear hW1;refine rV (w1 := W2) (by rfl) rfl ?_ ?_
 ·rw [hW2];first | (go_simp; done) | (go_simp; rfl)
 refine hK.out _ _ ⟨s32, s22, h02, h12, h22⟩ (fun hHeld => ?_);clear hK K;refine gH (dV dA.out (by kernel_rfl)) ?_;clear s3 s2 h00 h10 h20 gs0 gsf s31 s21 h01 h11 h21 v0 v1 vf0 vf1 s32 s22 h02 h12 h22 hW2 hHeld;have HD2 := D2'.out.below (dM (Below.refl _ _));have h34 := aC H32.out (dM (Below.refl _ _));have s5 : W2.drew.cell? ⟨X.s, 5, none⟩ = some (.slice (some ⟨X.gu, 0, none⟩) X.n X.cu) := by rw [ae HD2.hs 5]; rfl
 have h03 : W2.drew.cell? ⟨b3, 0, none⟩ = some (.int .i64 c.f0) := by rw [ae h34 0]; rfl
 obtain ⟨vk, hu, hRk, _⟩ := MW (Kd.S_R HD2.hU) c.f0 h0 h1;rw [HL.out] at hRk;obtain ⟨Ak, ck, rfl⟩ := Kd.fQ hRk;rw [HVS.out, HST.out] at HD2;have HDD := aa.mk HD2;have HRk := aa.mk hRk;clear D2' H32 HD2 h34 hRk;go_upto_region 2 with (fail)
 refine fu (n := 10) (S := fun w' => w'.cell? ⟨X.s, 5, none⟩ = some (.slice (some ⟨X.gu, 0, none⟩) X.n X.cu) ∧ w'.cell? ⟨b3, 0, none⟩ = some (.int .i64 c.f0) ∧ w'.cell? ⟨X.gu, c.f0.toNat, none⟩ = some (.slice Ak l.length ck)) (ds := []) #[false, false, false, false, false, false, false, false, false, false] (by kernel_rfl) rfl rfl ⟨s5, h03, hu⟩ (fun hHeld => ?_);refine dw ym.alp ym.Es (fun dA ji => ?_);refine fG (fuel := 0) [(0, 22), (1, 23), (2, 24), (3, 25), (4, 26), (5, 27), (6, 28), (7, 29), (8, 30), (9, 31)] #[true, true, true, true, true, true, true, true, true, true] (df dA.out ji.out _ _ _ (by kernel_rfl)) rfl (fun _ _ _ _ _ h => h) hHeld (a' := ?_) ?_ ?_;rotate_left
 ·iterate 10
   refine bC (v := ?_) (a1 := ?_) rfl rfl (Or.inl ⟨by rfl, ?_⟩) ?_ ?_;rotate_left 2
   ·rintro w' ⟨s0, s1, s2⟩;go_simp;with_reducible rfl
   ·simp only [Act.put, List.setIfInBounds_toArray, List.set_cons_zero, List.set_cons_succ, bH, bI];rfl
  exact chain_nil
 refine gH (dV dA.out (by kernel_rfl)) ?_;clear s5 h03 hu hHeld;generalize W2.drew = w2 at *;clear HL HVS HST;have aoP : l.length < 1000000 := by omega
 have Q5 := aa.mk hok;have HUS := aa.mk MX;clear hok MX;go_wp2_with fail
 go_loopg [31] (l.length + 1) (fun g v31 wr => ∃ (i : Nat) (p : List Int × QQ), v31 = .int .i64 i ∧ aa (i ≤ l.length) ∧ aa (l.length - i < g) ∧ aa (SS X wr vs' st' p.1 us ed p.2) ∧ aa (Kd.R (Kd.int .i64) 3 wr X.w0.heap.size (fun k => (k ≠ X.go ∧ k ≠ X.ge) ∧ k ≠ X.gu) (.slice Ak l.length ck) l) ∧
  aa (p.2.es.length + (l.length - i) < 1000000) ∧ aa (jV X.es vs' st' (l.drop i) p = jV X.es vs' st' l (op, Q)) ∧ aa (kL w wr))
 case atStart => exact ⟨0, (op, Q), by go_num, ⟨by omega⟩, ⟨by omega⟩, HDD, HRk, ⟨by omega⟩, ⟨rfl⟩, K2⟩
 case round =>
  obtain ⟨i, p, rfl, hi, hg, HS, HR, hQl, HE, HK⟩ := hrel;clear HDD HRk hsz K2;by_cases hin : i < l.length
  ·obtain ⟨ad, rfl, ht⟩ := Jv (Kd.dD HR.out).2.2 i hin;have hmem : l.getD i 0 ∈ l := by rw [List.getD_eq_getElem?_getD, List.getElem?_eq_getElem hin]; exact List.getElem_mem _
   have hkr := HUS.out _ hmem;have hdr : l.drop i = l.getD i 0 :: l.drop (i + 1) := by
    rw [List.drop_eq_getElem_cons hin, List.getD_eq_getElem?_getD, List.getElem?_eq_getElem hin];rfl
   have hE := HE.out;rw [hdr] at hE;clear HE hdr hmem;generalize l.getD i 0 = k at *;obtain ⟨hk0, hk1⟩ := hkr;have hE' : jV X.es vs' st' (l.drop (i + 1)) (jw X.es vs' st' p k) = jV X.es vs' st' l (op, Q) := hE;have HE := aa.mk hE';clear hE hE';obtain ⟨o0, of0⟩ := jk HS.out.hO 0 k hk0 hk1;have hput := Kd.zG HS.out.hO k (wrap64 (rd p.1 k - 1));have hstep : jw X.es vs' st' p k = if rd (p.1.set k.toNat (wrap64 (rd p.1 k - 1))) k = 0 then (p.1.set k.toNat (wrap64 (rd p.1 k - 1)), nL X.es vs' st' p.2 k) else (p.1.set k.toNat (wrap64 (rd p.1 k - 1)), p.2) := rfl
   have hlen : k.toNat < p.1.length := by have := HS.out.lens.2.2.1; omega
   have hrd : rd (p.1.set k.toNat (wrap64 (rd p.1 k - 1))) k = wrap64 (rd p.1 k - 1) := by simp [rd, List.getD_eq_getElem?_getD, List.getElem?_set, hlen]
   rw [hrd] at hstep;rw [show p.1.getD k.toNat 0 = rd p.1 k from rfl] at o0;generalize rd p.1 k = x at *;have D1 := HS.out.ac2 hput.1 hput.2;obtain ⟨kc3, ac9⟩ := Kd.lW HS.out.hO X.go rfl;have yf := aa.mk (HK.out.trans (kL.xP ac9 (by decide) hput.2));clear ac9;have hR1 := Kd.vF HR.out hput.2 (fun k hk e => hk.1.1 (by injection e));have o1 := (jk D1.hO 0 k hk0 hk1).1;rw [show (p.1.set k.toNat (wrap64 (x - 1))).getD k.toNat 0 = wrap64 (x - 1) from hrd] at o1;have s4 : wr.cell? ⟨X.s, 4, none⟩ = some (.slice (some ⟨X.go, 0, none⟩) X.es.length X.co) := by rw [ae HS.out.hs 4]; rfl
   have s41 : (wr.setCell ⟨X.go, k.toNat, none⟩ (.int .i64 (wrap64 (x - 1)))).cell? ⟨X.s, 4, none⟩ = some (.slice (some ⟨X.go, 0, none⟩) X.es.length X.co) := by rw [ae D1.hs 4]; rfl
   have HD1 := aa.mk D1;have HR1 := aa.mk hR1;have HST := aa.mk hstep;clear hput hrd D1 hR1 hstep HS HR;by_cases hy : wrap64 (x - 1) = 0
   ·have hyb : (wrap64 (x - 1) == 0) = true := by simp [hy]
    have HY := aa.mk hy;clear hy;go_wp2_with (first | (go_at_call 104; refine (Eu X _ vs' st' _ us ed p.2 HD1.out Q5.out k hk0 hk1 (by have := hQl.out; omega)).mono ?_; rintro e w5 ⟨rfl, hS5, Js⟩; have VG := aa.mk hS5; have Yg := aa.mk Js; clear hS5 Js))
    go_roundg (l.length - i)
    case measure => have := hg.out; omega
    case rel =>
     exact ⟨i + 1, jw X.es vs' st' p k, by go_num, ⟨by omega⟩, ⟨by omega⟩, ⟨by rw [HST.out, if_pos HY.out]; exact VG.out⟩, ⟨alB HR1.out (by decide) Yg.out⟩, ⟨by rw [HST.out, if_pos HY.out]; have := uw X.es vs' st' p.2 k; have := hQl.out; simp only; omega⟩, HE, ⟨yf.out.trans (kL.ac5 Yg.out)⟩⟩
   ·have hyb : (wrap64 (x - 1) == 0) = false := by simp [hy]
    have HY := aa.mk hy;clear hy;go_wp2_with fail
    go_roundg (l.length - i)
    case measure => have := hg.out; omega
    case rel =>
     exact ⟨i + 1, jw X.es vs' st' p k, by go_num, ⟨by omega⟩, ⟨by omega⟩, ⟨by rw [HST.out, if_neg HY.out]; exact HD1.out⟩, HR1, ⟨by rw [HST.out, if_neg HY.out]; have := hQl.out; simp only; omega⟩, HE, yf⟩
  ·obtain rfl : i = l.length := by have := hi.out; omega
   have hin' : ¬ ((l.length : Int) < (l.length : Int)) := by omega
   go_wp2_with fail
   go_end0
   have hE := HE.out;rw [List.drop_length] at hE;have hE' : p = jV X.es vs' st' l (op, Q) := hE;rw [← hE'];exact ⟨rfl, HS.out, HK.out⟩
theorem Ir (es : List dP) (i : Int) (h0 : 0 ≤ i) (h1 : i < (es.length : Int)) : eO es i ∈ es := by
 have hk : i.toNat < es.length := by omega
 simp only [eO, List.getD_eq_getElem?_getD, List.getElem?_eq_getElem hk, Option.getD_some];exact List.getElem_mem _
theorem F7 {es : List dP} {i j : Int} (hi0 : 0 ≤ i) (hi : i < (es.length : Int)) (hj0 : 0 ≤ j) (hj : j < (es.length : Int)) {x : dP} (h : x ∈ nK es i j) : x ∈ es := by
 unfold nK at h;rcases List.mem_or_eq_of_mem_set h with h | rfl
 ·rcases List.mem_or_eq_of_mem_set h with h | rfl
  ·exact h
  ·exact Ir es j hj0 hj
 ·exact Ir es i hi0 hi
theorem O4 : ∀ (k : Nat) (es : List dP) (i : Nat), i < es.length → ∀ x, x ∈ Hg k es i → x ∈ es
 | 0, es, i, _, x, h => h
 | k + 1, es, 0, _, x, h => h
 | k + 1, es, m + 1, hi, x, h => by
  unfold Hg at h;split at h
  ·have := O4 k _ (m / 2) (by rw [dh]; omega) x h;exact F7 (by omega) (by omega) (by omega) (by omega) this
  ·exact h
theorem Ar : ∀ (k : Nat) (es : List dP) (i : Nat), (mZ k es i).length = es.length
 | 0, es, i => rfl
 | k + 1, es, i => by
  unfold mZ;split
  ·rfl
  ·rw [Ar, dh]
theorem Iu : ∀ (k : Nat) (es : List dP) (i : Nat), i < es.length → ∀ x, x ∈ mZ k es i → x ∈ es
 | 0, es, i, _, x, h => h
 | k + 1, es, i, hi, x, h => by
  unfold mZ at h;have hl := (Am es i hi 2).1;split at h
  ·exact h
  ·have := Iu k _ (pM es i 2) (by rw [dh]; exact hl) x h;exact F7 (by omega) (by omega) (by omega) (by omega) this
theorem Ew (es : List dP) : (r9 es).length = es.length - 1 := by
 unfold r9;rw [Ar, List.length_take, dh];omega
theorem KZ (e0 : dP) (es : List dP) (x : dP) (h : x ∈ r9 (e0 :: es)) : x ∈ e0 :: es := by
 unfold r9 at h;have hl : ((e0 :: es).length : Int) = (es.length : Int) + 1 := by simp
 by_cases hn : es = []
 ·subst hn;simp [mZ] at h
 ·have hpos : 0 < es.length := by cases es with | nil => exact absurd rfl hn | cons _ _ => simp
  have h2 := Iu _ _ 0 (by rw [List.length_take, dh]; simp only [List.length_cons]; omega) x h;exact F7 (by omega) (by omega) (by omega) (by simp only [List.length_cons]; omega) (List.mem_of_mem_take h2)
def UX (N : Nat) (Q : QQ) : Prop := ∀ x, x ∈ Q.es → 0 ≤ x.f0.f0 ∧ x.f0.f0 < (N : Int)
theorem TF {N : Nat} {Q : QQ} {c : uo} (h : UX N Q) (hc : 0 ≤ c.f0 ∧ c.f0 < (N : Int)) : UX N (Et Q c) := by
 intro x hx;have := O4 _ _ Q.es.length (by simp) x hx;rcases List.mem_append.1 this with h1 | h1
 ·exact h x h1
 ·rw [List.mem_singleton] at h1;subst h1;exact hc
theorem Iw {N : Nat} {es : List dO} {vs : List dK} {st : List Bool} {Q : QQ} {k : Int} (h : UX N Q) (hE : zt N es) (h0 : 0 ≤ k) (h1 : k < (es.length : Int)) : UX N (nL es vs st Q k) := by
 unfold nL;split
 ·exact TF h (jb hE k h0 h1).1
 ·exact h
theorem Au {N : Nat} {es : List dO} {vs : List dK} {st : List Bool} (hE : zt N es) : ∀ (l : List Int) (p : List Int × QQ), (∀ k, k ∈ l → 0 ≤ k ∧ k < (es.length : Int)) → UX N p.2 → UX N (jV es vs st l p).2 ∧ (jV es vs st l p).2.es.length ≤ p.2.es.length + l.length
 | [], p, _, h => ⟨h, Nat.le_refl _⟩
 | k :: l, p, hk, h => by
  have hk0 := hk k (List.mem_cons_self ..);have h2 : UX N (jw es vs st p k).2 ∧ (jw es vs st p k).2.es.length ≤ p.2.es.length + 1 := by
   unfold jw;split
   ·exact ⟨Iw h hE hk0.1 hk0.2, uw _ _ _ _ _⟩
   ·exact ⟨h, Nat.le_succ _⟩
  have ih := Au (vs := vs) (st := st) hE l (jw es vs st p k) (fun x hx => hk x (List.mem_cons_of_mem _ hx)) h2.1;refine ⟨ih.1, Nat.le_trans ih.2 ?_⟩;rw [List.length_cons];omega
structure MS where
 vs : List dK
 st : List Bool
 op : List Int
 Q : QQ
def lM (es : List dO) (us : List (List Int)) (m : MS) (e0 : dP) : MS :=
 if m.st.getD e0.f0.f0.toNat false = true then ⟨m.vs, m.st, m.op, ⟨r9 m.Q.es, m.Q.nx, m.Q.ck⟩⟩
 else ⟨m.vs.set e0.f0.f0.toNat e0.f0.f1, m.st.set e0.f0.f0.toNat true,
  (jV es (m.vs.set e0.f0.f0.toNat e0.f0.f1) (m.st.set e0.f0.f0.toNat true) (us.getD e0.f0.f0.toNat []) (m.op, ⟨r9 m.Q.es, m.Q.nx, m.Q.ck⟩)).1,
  (jV es (m.vs.set e0.f0.f0.toNat e0.f0.f1) (m.st.set e0.f0.f0.toNat true) (us.getD e0.f0.f0.toNat []) (m.op, ⟨r9 m.Q.es, m.Q.nx, m.Q.ck⟩)).2⟩
def uM (es : List dO) (us : List (List Int)) : Nat → MS → MS
 | 0, m => m
 | k + 1, m => match m.Q.es with
  | [] => m
  | e0 :: _ => uM es us k (lM es us m e0)
def wt : List (List Int) → List Bool → Nat
 | u :: us, b :: st => (if b then 0 else u.length) + wt us st
 | _, _ => 0
theorem MZ : ∀ (us : List (List Int)) (st : List Bool) (t : Nat), t < st.length → st.length = us.length → st.getD t false = false → wt us (st.set t true) + (us.getD t []).length = wt us st
 | [], [], t, h, _, _ => by simp at h
 | u :: us, b :: st, 0, _, _, hb => by
  have : b = false := by simpa using hb
  subst this;simp [wt]
  omega
 | u :: us, b :: st, t + 1, h, hl, hb => by
  have ih := MZ us st t (by simpa using h) (by simpa using hl) (by simpa using hb);simp only [List.set_cons_succ, wt, List.getD_cons_succ];omega
 | [], _ :: _, _, _, h, _ => by simp at h
 | _ :: _, [], _, _, h, _ => by simp at h
def mu (us : List (List Int)) (m : MS) : Nat := m.Q.es.length + wt us m.st
structure okM (N : Nat) (es : List dO) (us : List (List Int)) (m : MS) : Prop where
 q : UX N m.Q
 vl : m.vs.length = N
 sl : m.st.length = N
 ul : us.length = N
 us : ∀ t k, k ∈ us.getD t [] → 0 ≤ k ∧ k < (es.length : Int)
theorem K9 {N : Nat} {es : List dO} {us : List (List Int)} {m : MS} {e0 : dP} {r : List dP} (h : okM N es us m) (hE : zt N es) (hq : m.Q.es = e0 :: r) : okM N es us (lM es us m e0) ∧ mu us (lM es us m e0) < mu us m := by
 have hpl : (r9 m.Q.es).length = r.length := by rw [Ew, hq]; rfl
 have hpq : UX N ⟨r9 m.Q.es, m.Q.nx, m.Q.ck⟩ := fun x hx => h.q x (by rw [hq]; exact KZ e0 r x (by rw [← hq]; exact hx))
 have he0 := h.q e0 (by rw [hq]; exact List.mem_cons_self ..);have RO : m.Q.es.length = r.length + 1 := by rw [hq]; rfl
 unfold lM;split
 ·refine ⟨⟨hpq, h.vl, h.sl, h.ul, h.us⟩, ?_⟩;simp only [mu, hpl, RO];omega
 ·rename_i hst
  have hst' : m.st.getD e0.f0.f0.toNat false = false := by simpa using hst
  have hk := Au (vs := m.vs.set e0.f0.f0.toNat e0.f0.f1) (st := m.st.set e0.f0.f0.toNat true) hE (us.getD e0.f0.f0.toNat []) (m.op, ⟨r9 m.Q.es, m.Q.nx, m.Q.ck⟩) (fun k hk => h.us _ k hk) hpq;refine ⟨⟨hk.1, by simp [h.vl], by simp [h.sl], h.ul, h.us⟩, ?_⟩;have hw := MZ us m.st e0.f0.f0.toNat (by rw [h.sl]; omega) (by rw [h.sl, h.ul]) hst';have hk2 := hk.2;simp only [mu] at hk2 ⊢;simp only [hpl] at hk2;rw [RO];omega
def Dv {α : Type} (n : Nat) (a b : α) (i : Nat) : List α := List.replicate i a ++ List.replicate (n - i) b
theorem yZ {α : Type} (n : Nat) (a b : α) : Dv n a b 0 = List.replicate n b := by simp [Dv]
theorem Aw {α : Type} (n : Nat) (a b : α) : Dv n a b n = List.replicate n a := by simp [Dv]
theorem Ay {α : Type} (n : Nat) (a b : α) (i : Nat) (hi : i < n) : (Dv n a b i).set i a = Dv n a b (i + 1) := by
 unfold Dv;rw [List.set_append_right _ _ (by simp), List.length_replicate, Nat.sub_self, show n - i = (n - (i + 1)) + 1 by omega, List.replicate_succ, List.set_cons_zero, List.replicate_succ', List.append_assoc, List.singleton_append]
theorem Iy {base q t : Nat} {w w1 : World} {es : List dP} {nx ck : Int} {row : Option Nat} (h : QS base w q es nx ck) (hc : ∀ k, row = some k → ∃ cells, w.heap[k]? = some (.cells cells t (0, 0))) (h1 : t ≠ 135) (h2 : t ≠ 139) (hg : w.grownBy w1 row) : QS base w1 q es nx ck := by
 obtain ⟨v, bm, qy, mc, hq, hbq, hR, hm, EZ, hks⟩ := h;have e1 : some q ≠ row := by rintro rfl; obtain ⟨cells, hc⟩ := hc q rfl; rw [hq] at hc; injection hc with hc; injection hc with _ hc; exact h1 hc.symm
 have e2 : some bm ≠ row := by rintro rfl; obtain ⟨cells, hc⟩ := hc bm rfl; rw [hm] at hc; cases hc
 refine ⟨v, bm, qy, mc, bX hq hg e1, hbq, ?_, bX hm hg e2, EZ, hks⟩;refine Kd.bB (Kd.vF (Kd.jI hR) hg (fun k hk => ?_)) (fun _ _ => trivial);obtain ⟨_, _, _, x, hx, cells', hc'⟩ := hk;have hx' : x ∈ [139] := hx;rw [List.mem_singleton] at hx';rintro rfl;obtain ⟨cells, hc⟩ := hc k rfl;rw [hc] at hc';injection hc' with hc'
 injection hc' with _ hc'
 exact h2 (hc'.trans hx')
theorem SS.uses {X : Ctx} {w w1 w2 : World} {vs : List dK} {st : List Bool} {op : List Int} {us us' : List (List Int)} {ed : List Int} {Q : QQ} (h : SS X w vs st op us ed Q) {v : Value} {l : List Int} {vD : Nat → Prop} (hv : Kd.R (Kd.int .i64) 3 w X.w0.heap.size vD v l) (hok : ∀ k, vD k → k ≠ X.go ∧ k ≠ X.ge)
  (hg : w.grownBy w1 v.ownBlock) (hB1 : Below X.w0.heap.size X.w0 w1) (hg2 : w1.grownBy w2 (some X.gu)) (hU : Kd.S (Kd.slice 3 (Kd.int .i64)) 44 w2 X.w0.heap.size (fun k => k ≠ X.go ∧ k ≠ X.ge) (.slice (some ⟨X.gu, 0, none⟩) X.n X.cu) us') : SS X w2 vs st op us' ed Q := by
 have ht := Kd.lW hv;obtain ⟨uc, huc⟩ := Kd.Ow h.hU X.gu rfl;have adb := bX huc hg (Kd.mK hv huc (by decide));have hub := Kd.ZG h.hU X.gu rfl;have ht1 : ∀ k, (Value.slice (some ⟨X.gu, 0, none⟩) X.n X.cu).ownBlock = some k → ∃ cells, w1.heap[k]? = some (.cells cells 44 (0, 0)) := fun k hk => by
  obtain rfl : X.gu = k := by simpa [Value.ownBlock] using hk
  exact ⟨_, adb⟩
 have TG : w1.grownBy w2 (Value.slice (some ⟨X.gu, 0, none⟩) X.n X.cu).ownBlock := hg2;have hO1 := Kd.bB (ok' := fun k => k ≠ X.ge) (Kd.vF (Kd.Jc rfl h.hO) hg (fun k hk e => by
  obtain rfl : k = X.go := by simpa [Value.ownBlock] using hk
  exact (hok _ (hv.1 _ e.symm)).1 rfl)) (fun k hk => by
  obtain rfl : k = X.go := by simpa [Value.ownBlock] using hk
  exact h.hO.1 _ rfl)
 have hE1 := Kd.bB (ok' := fun k => k ≠ X.go) (Kd.vF (Kd.Jc rfl h.hE) hg (fun k hk e => by
  obtain rfl : k = X.ge := by simpa [Value.ownBlock] using hk
  exact (hok _ (hv.1 _ e.symm)).2 rfl)) (fun k hk => by
  obtain rfl : k = X.ge := by simpa [Value.ownBlock] using hk
  exact h.hE.1 _ rfl)
 exact ⟨jq hB1 _ hB1.size hg2 (fun k hk => by injection hk with hk; subst hk; exact hub), bX (bX h.hs hg (Kd.mK hv h.hs (by decide))) hg2 (by
   intro e; injection e with e; have := bX h.hs hg (Kd.mK hv h.hs (by decide)); rw [e, adb] at this; injection this with this; injection this with _ this; exact absurd this (by decide)), h.hsb, h.hC,
  Kd.zW (Kd.nA h.hV hv (by decide) hg) ht1 (by decide) TG, Kd.zW (Kd.nA h.hS hv (by decide) hg) ht1 (by decide) TG, Kd.zW hO1 ht1 (by decide) TG, hU, Kd.zW hE1 ht1 (by decide) TG,
  Iy (Iy h.hQ ht (by decide) (by decide) hg) ht1 (by decide) (by decide) TG⟩
def Hl (us : List (List Int)) (k : Int) (l : List Int) : List (List Int) := l.foldl (fun us t => us.set t.toNat (us.getD t.toNat [] ++ [k])) us
def yn (N : Nat) (es : List dO) : Nat → List (List Int)
 | 0 => List.replicate N []
 | i + 1 => Hl (yn N es i) (i : Nat) (aj es (i : Nat)).f1
def Iz (es : List dO) (i : Nat) : List Int := (es.take i).map (fun e => (e.f1.length : Int)) ++ List.replicate (es.length - i) 0
theorem VH (es : List dO) (i : Nat) (hi : i < es.length) : (Iz es i).set i ((aj es (i : Nat)).f1.length : Int) = Iz es (i + 1) := by
 unfold Iz;have h1 : ((es.take i).map (fun e => (e.f1.length : Int))).length = i := by rw [List.length_map, List.length_take]; omega
 rw [List.set_append_right _ _ (by omega), h1, Nat.sub_self, show es.length - i = (es.length - (i + 1)) + 1 by omega, List.replicate_succ, List.set_cons_zero, List.take_succ_eq_append_getElem hi, List.map_append];simp [aj, List.getD_eq_getElem?_getD, List.getElem?_eq_getElem hi]
theorem TH (us : List (List Int)) (k : Int) (l : List Int) (j : Nat) (hj : j < l.length) : Hl us k (l.take (j + 1)) = (Hl us k (l.take j)).set (l.getD j 0).toNat ((Hl us k (l.take j)).getD (l.getD j 0).toNat [] ++ [k]) := by
 have e : l.getD j 0 = l[j] := by rw [List.getD_eq_getElem?_getD, List.getElem?_eq_getElem hj]; rfl
 rw [e];show List.foldl _ us (l.take (j + 1)) = _;rw [List.take_succ_eq_append_getElem hj, List.foldl_append];rfl
theorem Jz (us : List (List Int)) (k : Int) : ∀ (l : List Int) (t : Nat), ((Hl us k l).getD t []).length ≤ (us.getD t []).length + l.length
 | [], t => Nat.le_refl _
 | x :: l, t => by
  have h := Jz (us.set x.toNat (us.getD x.toNat [] ++ [k])) k l t;have e : Hl us k (x :: l) = Hl (us.set x.toNat (us.getD x.toNat [] ++ [k])) k l := rfl;rw [e];refine Nat.le_trans h ?_;have h2 : ((us.set x.toNat (us.getD x.toNat [] ++ [k])).getD t []).length ≤ (us.getD t []).length + 1 := by
   simp only [List.getD_eq_getElem?_getD, List.getElem?_set];split
   ·rename_i he
    split
    ·subst he; simp
    ·simp
   ·omega
  rw [List.length_cons];omega
theorem O5 (N : Nat) (es : List dO) (h : ∀ x, x ∈ es → x.f1.length ≤ 1000000) : ∀ (i : Nat) (t : Nat), i ≤ es.length → ((yn N es i).getD t []).length ≤ i * 1000000
 | 0, t, _ => by
  simp only [yn, List.getD_eq_getElem?_getD, List.getElem?_replicate];split <;> simp
 | i + 1, t, hi => by
  have h1 := O5 N es h i t (by omega);have h2 := Jz (yn N es i) (i : Nat) (aj es (i : Nat)).f1 t;have h3 : (aj es (i : Nat)).f1.length ≤ 1000000 := h _ (by
   simp only [aj, Int.toNat_natCast, List.getD_eq_getElem?_getD, List.getElem?_eq_getElem (show i < es.length by omega), Option.getD_some];exact List.getElem_mem _)
  have e : yn N es (i + 1) = Hl (yn N es i) (i : Nat) (aj es (i : Nat)).f1 := rfl;rw [e];omega
theorem JA (es : List dO) (k : Nat) (hk : k < es.length) : (Iz es es.length).getD (k : Int).toNat 0 = ((aj es (k : Int)).f1.length : Int) := by
 simp [Iz, aj, List.getD_eq_getElem?_getD, hk]
def oh (es : List dO) (vs : List dK) (st : List Bool) : Nat → QQ
 | 0 => ⟨[], 0, 0⟩
 | k + 1 => if (aj es (k : Int)).f1.length = 0 then nL es vs st (oh es vs st k) (k : Int) else oh es vs st k
theorem vT (es : List dO) (vs : List dK) (st : List Bool) (k : Nat) : oh es vs st (k + 1) = if (aj es (k : Int)).f1.length = 0 then nL es vs st (oh es vs st k) (k : Int) else oh es vs st k := rfl
theorem vU (es : List dO) (vs : List dK) (st : List Bool) : ∀ k, (oh es vs st k).es.length ≤ k
 | 0 => Nat.le_refl _
 | k + 1 => by
  have ih := vU es vs st k;rw [vT];split
  ·exact Nat.le_trans (uw _ _ _ _ _) (by omega)
  ·omega
theorem La (n : Nat) (es : List dO) (hE : zt n es) (vs : List dK) (st : List Bool) : ∀ k, k ≤ es.length → UX n (oh es vs st k)
 | 0, _ => fun x hx => by simp [oh] at hx
 | k + 1, hk => by
  have ih := La n es hE vs st k (by omega);rw [vT];split
  ·exact Iw ih hE (by omega) (by omega)
  ·exact ih
theorem O6 (us : List (List Int)) (k : Int) : ∀ (l : List Int) (t : Nat) (x : Int), x ∈ (Hl us k l).getD t [] → x ∈ us.getD t [] ∨ x = k
 | [], t, x, h => Or.inl h
 | y :: l, t, x, h => by
  rcases O6 (us.set y.toNat (us.getD y.toNat [] ++ [k])) k l t x h with h1 | h1
  ·simp only [List.getD_eq_getElem?_getD, List.getElem?_set] at h1 ⊢;by_cases he : y.toNat = t
   ·rw [if_pos he] at h1;by_cases hl : y.toNat < us.length
    ·rw [if_pos hl, Option.getD_some, List.mem_append, List.mem_singleton, he] at h1;exact h1
    ·rw [if_neg hl] at h1;simp at h1
   ·rw [if_neg he] at h1;exact Or.inl h1
  ·exact Or.inr h1
theorem O7 (n : Nat) (es : List dO) : ∀ (i t : Nat) (x : Int), i ≤ es.length → x ∈ (yn n es i).getD t [] → 0 ≤ x ∧ x < (i : Int)
 | 0, t, x, _, h => by
  simp only [yn, List.getD_eq_getElem?_getD, List.getElem?_replicate] at h;split at h <;> simp at h
 | i + 1, t, x, hi, h => by
  rcases O6 (yn n es i) (i : Nat) (aj es (i : Nat)).f1 t x h with h | h
  ·have := O7 n es i t x (by omega) h;omega
  ·omega
theorem F8 (us : List (List Int)) (k : Int) : ∀ l : List Int, (Hl us k l).length = us.length
 | [] => rfl
 | y :: l => (F8 (us.set y.toNat (us.getD y.toNat [] ++ [k])) k l).trans (by simp)
theorem zL (n : Nat) (es : List dO) : ∀ i, (yn n es i).length = n
 | 0 => by simp [yn]
 | i + 1 => (F8 _ _ _).trans (zL n es i)
theorem Lb (n : Nat) (es : List dO) (hE : zt n es) (m0 : MS) (h : m0 = ⟨List.replicate n (⟨1099511627776, 0⟩ : dK), List.replicate n false, Iz es es.length, oh es (List.replicate n (⟨1099511627776, 0⟩ : dK)) (List.replicate n false) es.length⟩) : okM n es (yn n es es.length) m0 := by
 subst h;exact ⟨La n es hE _ _ _ (Nat.le_refl _), by simp, by simp, zL _ _ _, fun t k hk => O7 n es es.length t k (Nat.le_refl _) hk⟩
theorem F9 : ∀ (us : List (List Int)) (t : Nat) (k : Int), ((us.set t (us.getD t [] ++ [k])).map List.length).sum ≤ (us.map List.length).sum + 1
 | [], t, k => by simp
 | u :: us, 0, k => by simp; omega
 | u :: us, t + 1, k => by
  have := F9 us t k;simp only [List.set_cons_succ, List.map_cons, List.sum_cons, List.getD_cons_succ];omega
theorem O8 (us : List (List Int)) (k : Int) : ∀ l : List Int, ((Hl us k l).map List.length).sum ≤ (us.map List.length).sum + l.length
 | [] => Nat.le_refl _
 | y :: l => by
  have h := O8 (us.set y.toNat (us.getD y.toNat [] ++ [k])) k l;have h2 := F9 us y.toNat k;have e : Hl us k (y :: l) = Hl (us.set y.toNat (us.getD y.toNat [] ++ [k])) k l := rfl;rw [e, List.length_cons];omega
theorem O9 (n : Nat) (es : List dO) (hT : ∀ e, e ∈ es → e.f1.length ≤ 100) : ∀ i, i ≤ es.length → ((yn n es i).map List.length).sum ≤ i * 100
 | 0, _ => by simp [yn]
 | i + 1, hi => by
  have h1 := O9 n es hT i (by omega);have h2 := O8 (yn n es i) (i : Nat) (aj es (i : Nat)).f1;have h3 : (aj es (i : Nat)).f1.length ≤ 100 := hT _ (by
   simp only [aj, Int.toNat_natCast, List.getD_eq_getElem?_getD, List.getElem?_eq_getElem (show i < es.length by omega), Option.getD_some];exact List.getElem_mem _)
  have e : yn n es (i + 1) = Hl (yn n es i) (i : Nat) (aj es (i : Nat)).f1 := rfl;rw [e];omega
theorem Yj : ∀ (us : List (List Int)) (st : List Bool), wt us st ≤ (us.map List.length).sum
 | u :: us, b :: st => by
  have := Yj us st;simp only [wt, List.map_cons, List.sum_cons];split <;> omega
 | [], _ => by simp [wt]
 | _ :: _, [] => by simp [wt]
theorem Pb (n : Nat) (es : List dO) (hT : ∀ e, e ∈ es → e.f1.length ≤ 100) (he : es.length ≤ 1000) (m0 : MS) (h : m0 = ⟨List.replicate n (⟨1099511627776, 0⟩ : dK), List.replicate n false, Iz es es.length, oh es (List.replicate n (⟨1099511627776, 0⟩ : dK)) (List.replicate n false) es.length⟩) : mu (yn n es es.length) m0 < 1000000 := by
 subst h;have h1 := O9 n es hT es.length (Nat.le_refl _);have h2 := Yj (yn n es es.length) (List.replicate n false);have h3 := vU es (List.replicate n (⟨1099511627776, 0⟩ : dK)) (List.replicate n false) es.length;simp only [mu];omega
theorem Ga (es : List dO) (us : List (List Int)) (k : Nat) (m : MS) (e0 : dP) (r : List dP) (h : m.Q.es = e0 :: r) : uM es us (k + 1) m = uM es us k (lM es us m e0) := by simp only [uM, h]
theorem Ou {md : Region.Mode} {ops : Array Oper} {T : Bool × List (List Nat × List Nat)} {l : Array Bool} {rs : List Nat} (hT : iC md ops = T) (h : (vJ T.2 l.toList == rs) = true) : Region.ready md ops l = rs := by
 subst hT;rw [ready_eq];simpa using h
theorem mM {w w1 : World} (h : w.grownBy w1 none) : Below w.heap.size w w1 := ⟨h.os, h.tape, h.output, h.size, fun k hk => h.block k hk (by simp)⟩
abbrev sK : dK := ⟨1099511627776, 0⟩
def m0L (n : Nat) (es : List dO) : MS := ⟨List.replicate n sK, List.replicate n false, Iz es es.length, oh es (List.replicate n sK) (List.replicate n false) es.length⟩
def M0 (n : Nat) (es : List dO) : MS := uM es (yn n es es.length) 1000000 (m0L n es)
def eqV (a b : dK) : Bool := a.f0 == b.f0 && (a.f1 == b.f1)
theorem E5 (a b : dK) : eqV a b = true ↔ a = b := by
 obtain ⟨a0, a1⟩ := a;obtain ⟨b0, b1⟩ := b;simp [eqV]
theorem E8 (V y : dK) (w : World) : (if V.f0 = y.f0 then if V.f1 = y.f1 then Result.ok (Next.value (Value.bool true)) w else Result.ok (Next.value (Value.bool false)) w else Result.ok (Next.value (Value.bool false)) w) = Result.ok (Next.value (Value.bool (eqV V y))) w := by
 unfold eqV;by_cases h0 : V.f0 = y.f0 <;> by_cases h1 : V.f1 = y.f1 <;> simp [h0, h1]
def Gb (es : List dO) (vs : List dK) (st : List Bool) (ed : List Int) (k : Nat) : List Int :=
 if ed.getD (aj es (k : Int)).f0.toNat 0 < 0 ∧ st.getD (aj es (k : Int)).f0.toNat false = true ∧ eqV (kV vs (aj es (k : Int))) (bJ vs (aj es (k : Int)).f0) = true then ed.set (aj es (k : Int)).f0.toNat (k : Int) else ed
def RU (n : Nat) (es : List dO) (vs : List dK) (st : List Bool) : Nat → List Int
 | 0 => List.replicate n (-1)
 | k + 1 => Gb es vs st (RU n es vs st k) k
theorem Gc (n : Nat) (es : List dO) (vs : List dK) (st : List Bool) (k : Nat) : RU n es vs st (k + 1) = Gb es vs st (RU n es vs st k) k := rfl
def jy (n : Nat) (es : List dO) : List dK := (M0 n es).vs
def xL (n : Nat) (es : List dO) : List Int := RU n es (M0 n es).vs (M0 n es).st es.length
theorem Q6 (es : List dO) (us : List (List Int)) (k : Nat) (m : MS) (h : m.Q.es = []) : uM es us k m = m := by
 cases k with
 | zero => rfl
 | succ k => simp only [uM, h]
def AB (n v : Int) : Bool := decide (0 ≤ v) && decide (v < n)
def edgeOk (n : Int) (e : dO) : Bool := (AB n e.f0 && (decide (0 ≤ e.f2) && decide (e.f2 ≤ 1099511627776))) && e.f1.all (AB n)
def jJ (n : Int) (es : List dO) : Bool := (decide (1 ≤ n) && decide (n ≤ 1048576)) && es.all (edgeOk n)
def fA.f (n : Int) (es : List dO) : Option Bool := some (jJ n es)
theorem o7 {α : Type} (p : α → Bool) (l : List α) (z : α) (k : Nat) (h : k < l.length) : (l.drop k).all p = (p (l.getD k z) && (l.drop (k + 1)).all p) := by
 rw [List.drop_eq_getElem_cons h, List.all_cons, List.getD_eq_getElem?_getD, List.getElem?_eq_getElem h, Option.getD_some]
set_option maxHeartbeats 2000000 in
theorem uT (v : Int) (b : Nat) (n : Int) (S : Value) (w : World) (hb : w.heap[b]? = some (.cells #[.int .i64 n, S] 24 (0, 0))) :
  Calls Try.prog 101 #[.int .i64 v, .pointer (some ⟨b, 0, none⟩)] w fun e w' => e = .returned (.bool (AB n v)) ∧ Below w.heap.size w w' := by
 have h0 : w.cell? ⟨b, 0, none⟩ = some (.int .i64 n) := by rw [ae hb 0]; rfl
 clear hb;go_enter Try.func101, Try.ntmps101
 have HV : aa (AB n v = (decide (0 ≤ v) && decide (v < n))) := ⟨rfl⟩;by_cases h1 : 0 ≤ v
 ·by_cases h2 : v < n
  ·go_wp2;go_ret;exact ⟨by rw [HV.out, decide_eq_true h1, decide_eq_true h2]; rfl, Below.refl _ _⟩
  ·go_wp2;go_ret;exact ⟨by rw [HV.out, decide_eq_true h1, decide_eq_false (by omega)]; rfl, Below.refl _ _⟩
 ·go_wp2;go_ret;exact ⟨by rw [HV.out, decide_eq_false (by omega)]; rfl, Below.refl _ _⟩
set_option maxRecDepth 100000 in
set_option maxHeartbeats 8000000 in
theorem fA.calls (n : Int) (A : Option Addr) (c : Nat) (es : List dO) (r : Bool) (w : World) (hC : Kd.C sJ w A es.length es) (hc : es.length ≤ c) (h : fA.f n es = some r) :
  Calls Try.prog 78 #[.agg #[.int .i64 n, .slice A es.length c]] w fun e w' => e = .returned (.bool r) ∧ Below w.heap.size w w' := by
 injection h with h
 subst h;have hl0 : es.length ≤ 9223372036854775807 := hC.2.1;have hv : jJ n es = ((decide (1 ≤ n) && decide (n ≤ 1048576)) && es.all (edgeOk n)) := rfl;have HV := aa.mk hv;clear hv;have HC := aa.mk hC;clear hC;go_enter Try.func78, Try.ntmps78
 go_upto_region 1 with (fail)
 have ER := eX w (.cells #[.int .i64 n, .slice A es.length c] 24);have HB := aa.mk ER.1;have hb1 := ER.2;obtain ⟨b1, e1⟩ : ∃ b1, b1 = w.heap.size := ⟨_, rfl⟩;rw [← e1] at hb1 ⊢;have E1 := aa.mk e1;clear ER e1;generalize (w.alloc (.cells #[.int .i64 n, .slice A es.length c] 24)) = wA at *;have s0 : wA.cell? ⟨b1, 0, none⟩ = some (.int .i64 n) := by rw [ae hb1 0]; rfl
 have s1 : wA.cell? ⟨b1, 1, none⟩ = some (.slice A es.length c) := by rw [ae hb1 1]; rfl
 have HB1 := aa.mk hb1;clear hb1;by_cases h1 : n < 1
 ·go_wp2;go_ret;exact ⟨by rw [HV.out, decide_eq_false (by omega)]; rfl, HB.out⟩
 ·by_cases h2 : n > 1048576
  ·go_wp2;go_ret;exact ⟨by rw [HV.out, decide_eq_true (show 1 ≤ n by omega), decide_eq_false (show ¬ n ≤ 1048576 by omega)]; rfl, HB.out⟩
  ·have HV2 : aa (jJ n es = (es.drop 0).all (edgeOk n)) := ⟨by rw [HV.out, decide_eq_true (show 1 ≤ n by omega), decide_eq_true (show n ≤ 1048576 by omega)]; rfl⟩;clear HV;have hmf : ∀ (fn : Fn) (first cap : Array Value) (w : World), (Instr.makeFunc fn first cap).run Try.prog w = .ok (.func fn first cap) w := fun _ _ _ _ => rfl
   obtain ⟨wO, hwO⟩ : ∃ wO : World, wO = wA := ⟨_, rfl⟩;go_wp2_with fail
   go_loopg [20] (es.length + 1) (fun g v20 wr => ∃ k : Nat, v20 = .int .i64 k ∧ aa (k ≤ es.length) ∧ aa (es.length - k < g) ∧ aa (jJ n es = (es.drop k).all (edgeOk n)) ∧ aa (Below w.heap.size w wr) ∧ aa (wr.heap[b1]? = some (.cells #[.int .i64 n, .slice A es.length c] 24 (0, 0))))
   case atStart => exact ⟨0, by go_num, ⟨by omega⟩, ⟨by omega⟩, HV2, HB, HB1⟩
   case round =>
    obtain ⟨k, rfl, hk, hg, HV, HB, HB1⟩ := hrel;clear HV2 s0 s1;by_cases hkn : k < es.length
    ·obtain ⟨ad, A1, c1, hA, d0, d1, d2, d3, d4, hc1, Da⟩ := kK HC.out (k : Int) (by omega) (by omega);subst hA;replace d0 := ah HB.out d0; replace d1 := ah HB.out d1; replace d2 := ah HB.out d2; replace d3 := ah HB.out d3; replace d4 := ah HB.out d4;have hstep := o7 (edgeOk n) es (aj es (k : Int)) k hkn;have hge : es.getD k (aj es (k : Int)) = aj es (k : Int) := by
      simp only [aj, Int.toNat_natCast, List.getD_eq_getElem?_getD, List.getElem?_eq_getElem hkn, Option.getD_some]
     rw [hge] at hstep;have hlen : (aj es (k : Int)).f1.length ≤ 9223372036854775807 := Da.2.1;obtain ⟨e, zQ⟩ : ∃ e, aj es (k : Int) = e := ⟨_, rfl⟩;rw [zQ] at d0 d1 d2 d3 d4 hc1 Da hstep hlen;simp only [Int.toNat_natCast] at d0 d1 d2 d3 d4;have HST := aa.mk (HV.out.trans hstep);have EY := aa.mk Da;clear zQ hge hstep Da HV;go_upto_region 7 with (fail)
     have EB := eX wr (.cells #[.int .i64 e.f0, .slice A1 e.f1.length c1, .int .i64 e.f2, .int .i64 e.f3.f0, .int .i64 e.f3.f1] 54);have M6 := aa.mk (aM HB.out EB.1);have Rb := aa.mk (aC HB1.out EB.1);have H8 := aa.mk EB.2;obtain ⟨b8, Yq⟩ : ∃ b8, b8 = wr.heap.size := ⟨_, rfl⟩;rw [← Yq] at H8 ⊢;clear Yq EB HB HB1 d0 d1 d2 d3 d4;generalize (wr.alloc (.cells #[.int .i64 e.f0, .slice A1 e.f1.length c1, .int .i64 e.f2, .int .i64 e.f3.f0, .int .i64 e.f3.f1] 54)) = wB at *;have h80 : wB.cell? ⟨b8, 0, none⟩ = some (.int .i64 e.f0) := (by rw [ae H8.out 0]; rfl);have HE : aa (edgeOk n e = ((AB n e.f0 && (decide (0 ≤ e.f2) && decide (e.f2 ≤ 1099511627776))) && e.f1.all (AB n))) := ⟨rfl⟩;obtain ⟨bi, hbi⟩ : ∃ bi, AB n e.f0 = bi := ⟨_, rfl⟩;rw [hbi] at HE;have HBI := aa.mk hbi;clear hbi
     cases bi with
     | false =>
      go_wp2_with (first | (go_at_call 101; refine (uT e.f0 b1 n (.slice (some ad) es.length c) wB Rb.out).mono ?_; rintro x w5 ⟨rfl, Db⟩; rw [HBI.out]; have VR : w5.cell? ⟨b8, 2, none⟩ = some (.int .i64 e.f2) := (by rw [ae (aC H8.out Db) 2]; rfl); have VS : w5.cell? ⟨b8, 1, none⟩ = some (.slice A1 e.f1.length c1) := (by rw [ae (aC H8.out Db) 1]; rfl); have vY := aa.mk Db; clear Db))
      go_ret;exact ⟨by rw [HST.out, HE.out]; rfl, aM M6.out vY.out⟩
     | true =>
      by_cases hc0 : e.f2 < 0
      ·go_wp2_with (first | (go_at_call 101; refine (uT e.f0 b1 n (.slice (some ad) es.length c) wB Rb.out).mono ?_; rintro x w5 ⟨rfl, Db⟩; rw [HBI.out]; have VR : w5.cell? ⟨b8, 2, none⟩ = some (.int .i64 e.f2) := (by rw [ae (aC H8.out Db) 2]; rfl); have VS : w5.cell? ⟨b8, 1, none⟩ = some (.slice A1 e.f1.length c1) := (by rw [ae (aC H8.out Db) 1]; rfl); have vY := aa.mk Db; clear Db))
       go_ret;exact ⟨by rw [HST.out, HE.out, decide_eq_false (show ¬ 0 ≤ e.f2 by omega)]; rfl, aM M6.out vY.out⟩
      ·by_cases Yr : e.f2 > 1099511627776
       ·go_wp2_with (first | (go_at_call 101; refine (uT e.f0 b1 n (.slice (some ad) es.length c) wB Rb.out).mono ?_; rintro x w5 ⟨rfl, Db⟩; rw [HBI.out]; have VR : w5.cell? ⟨b8, 2, none⟩ = some (.int .i64 e.f2) := (by rw [ae (aC H8.out Db) 2]; rfl); have VS : w5.cell? ⟨b8, 1, none⟩ = some (.slice A1 e.f1.length c1) := (by rw [ae (aC H8.out Db) 1]; rfl); have vY := aa.mk Db; clear Db))
        go_ret;exact ⟨by rw [HST.out, HE.out, decide_eq_true (show 0 ≤ e.f2 by omega), decide_eq_false (show ¬ e.f2 ≤ 1099511627776 by omega)]; rfl, aM M6.out vY.out⟩
       ·have HE2 : aa (edgeOk n e = (e.f1.drop 0).all (AB n)) := ⟨by rw [HE.out, decide_eq_true (show 0 ≤ e.f2 by omega), decide_eq_true (show e.f2 ≤ 1099511627776 by omega)]; rfl⟩;obtain ⟨wP, Tx⟩ : ∃ wP : World, wP = wr := ⟨_, rfl⟩;obtain ⟨gP, hgP⟩ : ∃ gP : Nat, gP = gk := ⟨_, rfl⟩;go_wp2_with (first | (go_at_call 101; refine (uT e.f0 b1 n (.slice (some ad) es.length c) wB Rb.out).mono ?_; rintro x w5 ⟨rfl, Db⟩; rw [HBI.out]; have VR : w5.cell? ⟨b8, 2, none⟩ = some (.int .i64 e.f2) := (by rw [ae (aC H8.out Db) 2]; rfl); have VS : w5.cell? ⟨b8, 1, none⟩ = some (.slice A1 e.f1.length c1) := (by rw [ae (aC H8.out Db) 1]; rfl); have vY := aa.mk Db; clear Db))
        have Gp := aa.mk (aM M6.out vY.out);have adn := aa.mk (aC Rb.out vY.out);have VT := aa.mk (Kd.bF EY.out Gp.out);clear h80 VR VS vY M6 Rb H8;go_loopg [42] (e.f1.length + 1) (fun g v42 wr => ∃ j : Nat, v42 = .int .i64 j ∧ aa (j ≤ e.f1.length) ∧ aa (e.f1.length - j < g) ∧ aa (edgeOk n e = (e.f1.drop j).all (AB n)) ∧ aa (Below w.heap.size w wr) ∧ aa (wr.heap[b1]? = some (.cells #[.int .i64 n, .slice (some ad) es.length c] 24 (0, 0))))
        case atStart => exact ⟨0, by go_num, ⟨by omega⟩, ⟨by omega⟩, HE2, Gp, adn⟩
        case round =>
         obtain ⟨j, rfl, hj, hgj, HEJ, HBJ, VU⟩ := hrel;clear HE2 Gp adn VT;by_cases hjn : j < e.f1.length
         ·obtain ⟨ad2, hA2, t0⟩ := Jv EY.out j hjn;subst hA2;replace t0 := ah HBJ.out t0;have hst := o7 (AB n) e.f1 0 j hjn;obtain ⟨t, ht⟩ : ∃ t, e.f1.getD j 0 = t := ⟨_, rfl⟩;rw [ht] at t0 hst;obtain ⟨bt, hbt⟩ : ∃ bt, AB n t = bt := ⟨_, rfl⟩;rw [hbt] at hst;have HBT := aa.mk hbt;have HSJ := aa.mk (HEJ.out.trans hst);clear ht hst hbt
          cases bt with
          | false =>
           go_wp2_with (first | (go_at_call 101; refine (uT t b1 n (.slice (some ad) es.length c) wr VU.out).mono ?_; rintro x w5 ⟨rfl, Db⟩; rw [HBT.out]; have vY := aa.mk Db; clear Db))
           go_ret;exact ⟨by rw [HST.out, HSJ.out]; rfl, aM HBJ.out vY.out⟩
          | true =>
           go_wp2_with (first | (go_at_call 101; refine (uT t b1 n (.slice (some ad) es.length c) wr VU.out).mono ?_; rintro x w5 ⟨rfl, Db⟩; rw [HBT.out]; have vY := aa.mk Db; clear Db))
           go_roundg (e.f1.length - j)
           case measure => have := hgj.out; omega
           case rel => exact ⟨j + 1, by go_num, ⟨by omega⟩, ⟨by omega⟩, ⟨by rw [HSJ.out]; rfl⟩, ⟨aM HBJ.out vY.out⟩, ⟨aC VU.out vY.out⟩⟩
         ·obtain rfl : j = e.f1.length := by have := hj.out; omega
          have hjj : ¬ ((e.f1.length : Int) < (e.f1.length : Int)) := by omega
          have HVK : aa (jJ n es = (es.drop (k + 1)).all (edgeOk n)) := ⟨by rw [HST.out, HEJ.out, List.drop_length]; rfl⟩;go_wp2_with fail
          go_roundg (es.length - k)
          case measure => have := hg.out; omega
          case rel => exact ⟨k + 1, by go_num, ⟨by omega⟩, ⟨by omega⟩, HVK, HBJ, VU⟩
    ·obtain rfl : k = es.length := by have := hk.out; omega
     have hkk : ¬ ((es.length : Int) < (es.length : Int)) := by omega
     go_wp2_with fail
     go_ret;exact ⟨by rw [HV.out, List.drop_length]; rfl, HB.out⟩
end Go.Proofs.Ytamimodkcbbpmaa.Pr
end
