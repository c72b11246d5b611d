/- F62 F63 LE XRef F50: a part of the proof of the row of a; no conditions. -/
import Derived.Test.YtamimodkcbbpmaaG2
import Derived.Test.YtamimodkcbbpmaaG3
import Derived.Test.YtamimodkcbbpmaaG5
import Derived.Test.YtamimodkcbbpmaaG4
section
namespace Go.Proofs.Ytamimodkcbbpmaa.Pr
open Go.RowKit Go.Proofs.YtamimodkcbbpmaaW.PrintWords Go.Proofs.YtamimodkcbbpmaaW.PrintLast Go.Proofs.YtamimodkcbbpmaaW.PrintMore Go.Proofs.YtamimodkcbbpmaaXW
attribute [local go_sem] aFh ky lX lY jf jg kz kC
set_option linter.unusedVariables false
set_option linter.unusedSimpArgs false
def bz.l0 : Nat → List (dK) → Int → Int → Int → Option (Int × Int)
 | 0, _, _, _, _ => none
 | k + 1, x1, x5, x6, x7 => if x7 < (x1.length : Int) then (if 0 ≤ x7 then (bz.l0 k x1 (mn (wrap64 (x5 + ((bJ x1 x7).f0))) 1099511627776) (mn (wrap64 (x6 + ((bJ x1 x7).f1))) 1099511627776) (wrap64 (x7 + 1))) else (none)) else (if x5 ≥ 1099511627776 then (some (1099511627776, 0)) else (some (x5, x6)))
def bz.f (k : Nat) (a0 : Int) (l1 : List (dK)) : Option (Int × Int) := bz.l0 k l1 a0 1 0
theorem bz.apw : ∀ k, (∀ y0 y1 y2 y3, dz (bz.l0 k y0 y1 y2 y3) (bz.l0 (k + 1) y0 y1 y2 y3))
 | 0 => fun _ _ _ _ r h => by simp [bz.l0] at h
 | k + 1 => by
  have jP := bz.apw k
  ·intro y0 y1 y2 y3;unfold bz.l0;repeat' first
   | (with_reducible exact jP _ _ _ _)
   | (with_reducible exact dz.refl _)
   | (with_reducible exact dz.none _)
   | (with_reducible refine dz.ite ?_ ?_)
   | (with_reducible refine dz.bind ?_ (fun _ => ?_))
   | exact jP _ _ _ _
   | exact dz.none _
   | refine dz.ite ?_ ?_
   | refine dz.bind ?_ (fun _ => ?_)
theorem bz.mono : ∀ a0 a1 k, dz (bz.f k a0 a1) (bz.f (k + 1) a0 a1) := by
 intro a0 a1 k;have jP := bz.apw k;unfold bz.f;repeat' first
   | (with_reducible exact jP _ _ _ _)
   | (with_reducible exact dz.refl _)
   | (with_reducible exact dz.none _)
   | (with_reducible refine dz.ite ?_ ?_)
   | (with_reducible refine dz.bind ?_ (fun _ => ?_))
   | exact jP _ _ _ _
   | exact dz.none _
   | refine dz.ite ?_ ?_
   | refine dz.bind ?_ (fun _ => ?_)
set_option maxHeartbeats 8000000 in
set_option maxRecDepth 100000 in
theorem bz.calls (k : Nat) (a0 : Int) (A1 : Option Addr) (c1 : Nat) (l1 : List (dK)) (r1 : Int) (r2 : Int) (w : World) (hr1 : Kd.C xA w A1 l1.length l1) (hc1 : l1.length ≤ c1) (h : bz.f k a0 l1 = some (r1, r2)) :
  Calls Try.prog 62 #[.int .i64 a0, .slice A1 l1.length c1] w fun e w' => e = .returned (.agg #[.int .i64 r1, .int .i64 r2]) ∧ Below w.heap.size w w' := by
 have QT := Try.underlying34;have HR1 := aa.mk hr1;have EY := aa.mk hc1;clear hr1 hc1;have HB := aa.mk (Below.refl w.heap.size w);have H : (bz.l0 k l1 a0 1 0) = some (r1, r2) := h;clear h;have H' := aa.mk H;clear H;go_enter Try.func62, Try.ntmps62
 go_wp2_with (first | ((with_reducible refine bM (N := 4) rfl ?_); refine bG ?hg (N := 4) ?hd (cs := #[.int .i64 0, .int .i64 0]) (t := 34) ?hr ?_; (case hd => rfl); (case hg => rfl); (case hr => first | (go_simp; done) | (go_simp; rfl)); intro sj hg w3 bR hb; have bP := aa.mk (aM (bO HB) hb); have bQ := aa.mk (bR); have bT := aa.mk ((by rw [hg]; exact (aK (bO HB)) : w.heap.size ≤ sj)); have di := aa.mk ((by rw [hg]; exact (aK (bO HB)) : w.heap.size ≤ sj)); clear HB; have HB := bP; have su := bQ; have Yo := bT; have Yp := di; clear bP bQ bT di; clear hb bR hg))
 repeat (go_quiet (first | ((with_reducible refine bM (N := 4) rfl ?_); refine bG ?hg (N := 4) ?hd (cs := #[.int .i64 0, .int .i64 0]) (t := 34) ?hr ?_; (case hd => rfl); (case hg => rfl); (case hr => first | (go_simp; done) | (go_simp; rfl)); intro sj hg w3 bR hb; have bP := aa.mk (aM (bO HB) hb); have bQ := aa.mk (bR); have bT := aa.mk ((by rw [hg]; exact (aK (bO HB)) : w.heap.size ≤ sj)); have di := aa.mk ((by rw [hg]; exact (aK (bO HB)) : w.heap.size ≤ sj)); clear HB; have HB := bP; have su := bQ; have Yo := bT; have Yp := di; clear bP bQ bT di; clear hb bR hg)); try go_wp2_with (first | ((with_reducible refine bM (N := 4) rfl ?_); refine bG ?hg (N := 4) ?hd (cs := #[.int .i64 0, .int .i64 0]) (t := 34) ?hr ?_; (case hd => rfl); (case hg => rfl); (case hr => first | (go_simp; done) | (go_simp; rfl)); intro sj hg w3 bR hb; have bP := aa.mk (aM (bO HB) hb); have bQ := aa.mk (bR); have bT := aa.mk ((by rw [hg]; exact (aK (bO HB)) : w.heap.size ≤ sj)); have di := aa.mk ((by rw [hg]; exact (aK (bO HB)) : w.heap.size ≤ sj)); clear HB; have HB := bP; have su := bQ; have Yo := bT; have Yp := di; clear bP bQ bT di; clear hb bR hg)))
 go_loopg [5, 6, 7] k (fun kq v5 v6 v7 w' => ∃ (nO : Int) (lD : Int) (qA : Int), v5 = .int .i64 nO ∧ v6 = .int .i64 lD ∧ v7 = .int .i64 qA ∧ aa (bz.l0 kq l1 nO lD qA = some (r1, r2)) ∧ aa (kq ≤ k) ∧ aa (w'.heap[sj]? = some (.cells #[.int .i64 0, .int .i64 0] 34 (0, 0))) ∧ aa (Below w.heap.size w w'))
 case atStart => exact ⟨(a0), (1), (0), (by first | rfl | (simp; done) | (simp [*]; done)), (by first | rfl | (simp; done) | (simp [*]; done)), (by first | rfl | (simp; done) | (simp [*]; done)), H', ⟨Nat.le_refl _⟩, ⟨by (with_reducible repeat (first | refine ax ?_ _ | refine az ?_ | refine au ?_ _)); exact su.out⟩, ⟨bO HB⟩⟩
 case round =>
  clear H';(try clear c1); (try clear p2);obtain ⟨nO, lD, qA, rfl, rfl, rfl, HA, yf, su, HB⟩ := hrel
  cases gk with
  | zero => exact absurd HA.out (by simp [bz.l0])
  | succ k1 =>
   have H := HA.out;clear HA;simp only [bz.l0] at H;by_cases c4 : qA < (l1.length : Int)
   ·rw [if_pos c4] at H;have nu : decide (qA < (l1.length : Int)) = true := decide_eq_true c4;clear c4;by_cases c5 : 0 ≤ qA
    ·rw [if_pos c5] at H;have TM : decide (0 ≤ qA) = true := decide_eq_true c5;clear c5;obtain ⟨ji6, VJ⟩ : ∃ j_ : Int, (mn (wrap64 (nO + ((bJ l1 qA).f0))) 1099511627776) = j_ := ⟨_, rfl⟩;replace H : (bz.l0 k1 l1 ji6 (mn (wrap64 (lD + ((bJ l1 qA).f1))) 1099511627776) (wrap64 (qA + 1))) = some (r1, r2) := by first | (rw [VJ] at H; exact H) | (simp only [VJ] at H ⊢; exact H)
     have ak5 : (if 1099511627776 < (wrap64 (nO + ((bJ l1 qA).f0))) then 1099511627776 else (wrap64 (nO + ((bJ l1 qA).f0)))) = ji6 := VJ;obtain ⟨ji7, VK⟩ : ∃ j_ : Int, (mn (wrap64 (lD + ((bJ l1 qA).f1))) 1099511627776) = j_ := ⟨_, rfl⟩;replace H : (bz.l0 k1 l1 ji6 ji7 (wrap64 (qA + 1))) = some (r1, r2) := by first | (rw [VK] at H; exact H) | (simp only [VK] at H ⊢; exact H)
     have ak6 : (if 1099511627776 < (wrap64 (lD + ((bJ l1 qA).f1))) then 1099511627776 else (wrap64 (lD + ((bJ l1 qA).f1)))) = ji7 := VK;have H' := aa.mk H;clear H;have aax : 0 ≤ (qA : Int) := of_decide_eq_true (by first | (with_reducible assumption) | assumption);have aay : qA < (l1.length : Int) := of_decide_eq_true (by first | (with_reducible assumption) | assumption);obtain ⟨adi, e212, Pf, Pg⟩ := aRX HR1.out qA aax aay
     cases e212;replace Pf := ah HB.out Pf;replace Pg := ah HB.out Pg;replace aax := eq_true aax;replace aay := eq_true aay;have aaz : 0 ≤ (qA : Int) := of_decide_eq_true (by first | (with_reducible assumption) | assumption);have aaA : qA < (l1.length : Int) := of_decide_eq_true (by first | (with_reducible assumption) | assumption);obtain ⟨adj, e213, Ph, Pj⟩ := aRX HR1.out qA aaz aaA;obtain rfl : adi = adj := (by injection e213);replace Ph := ah HB.out Ph;replace Pj := ah HB.out Pj;replace aaz := eq_true aaz;replace aaA := eq_true aaA;go_wp2;repeat (go_quiet (fail); try go_wp2)
     go_roundg k1
     case measure => have := yf.out; omega
     case rel => exact ⟨(ji6), (ji7), (wrap64 (qA + 1)), (by first | rfl | (simp; done) | (simp only [← VJ] <;> (first | rfl | simp)) | (simp [*]; done)), (by first | rfl | (simp; done) | (simp only [← VK] <;> (first | rfl | simp)) | (simp [*]; done)), (by first | rfl | (simp; done) | (simp [*]; done)), H', ⟨by have := yf.out; omega⟩, ⟨by (with_reducible repeat (first | refine ax ?_ _ | refine az ?_ | refine au ?_ _)); exact su.out⟩, ⟨bO HB⟩⟩
    ·rw [if_neg c5] at H;exact absurd H (by simp)
   ·rw [if_neg c4] at H;have nu : decide (qA < (l1.length : Int)) = false := decide_eq_false c4;clear c4;by_cases c8 : nO ≥ 1099511627776
    ·rw [if_pos c8] at H;have Hd : decide (1099511627776 ≤ nO) = true := decide_eq_true c8;clear c8;simp only [Option.some.injEq, Prod.mk.injEq] at H;obtain ⟨rfl, rfl⟩ := H;have nP : wr.cell? ⟨sj, 0, none⟩ = some (.int .i64 0) := (ae su.out 0).trans rfl;have nQ : wr.cell? ⟨sj, 1, none⟩ = some (.int .i64 0) := (ae su.out 1).trans rfl;have nR := ai su.out 0;have nS := ai su.out 1;go_wp2;repeat (go_quiet (fail); try go_wp2)
     refine bodyPost_ret (results_cell_row rfl _ _ sj 34 #[.int .i64 1099511627776, .int .i64 0] (0, 0) _ rfl (by (with_reducible repeat (first | refine ax ?_ _ | refine az ?_ | refine au ?_ _)); refine bL (cs := #[.int .i64 1099511627776, .int .i64 0]) ?_ 1 _ rfl; (with_reducible repeat (first | refine ax ?_ _ | refine az ?_ | refine au ?_ _)); refine bL (cs := #[.int .i64 0, .int .i64 0]) ?_ 0 _ rfl; (with_reducible repeat (first | refine ax ?_ _ | refine az ?_ | refine au ?_ _)); exact su.out) Try.underlying34 rfl (by kernel_rfl)) rfl ?_;exact ⟨by first | rfl | (simp [aW, aX] <;> rfl) | (simp [*, aW, aX] <;> rfl), bO HB⟩
    ·rw [if_neg c8] at H;have Hd : decide (1099511627776 ≤ nO) = false := decide_eq_false c8;clear c8;simp only [Option.some.injEq, Prod.mk.injEq] at H;obtain ⟨rfl, rfl⟩ := H;have qB : wr.cell? ⟨sj, 0, none⟩ = some (.int .i64 0) := (ae su.out 0).trans rfl;have qC : wr.cell? ⟨sj, 1, none⟩ = some (.int .i64 0) := (ae su.out 1).trans rfl;have qD := ai su.out 0;have qE := ai su.out 1;go_wp2;repeat (go_quiet (fail); try go_wp2)
     refine bodyPost_ret (results_cell_row rfl _ _ sj 34 #[.int .i64 nO, .int .i64 lD] (0, 0) _ rfl (by (with_reducible repeat (first | refine ax ?_ _ | refine az ?_ | refine au ?_ _)); refine bL (cs := #[.int .i64 nO, .int .i64 0]) ?_ 1 _ rfl; (with_reducible repeat (first | refine ax ?_ _ | refine az ?_ | refine au ?_ _)); refine bL (cs := #[.int .i64 0, .int .i64 0]) ?_ 0 _ rfl; (with_reducible repeat (first | refine ax ?_ _ | refine az ?_ | refine au ?_ _)); exact su.out) Try.underlying34 rfl (by kernel_rfl)) rfl ?_;exact ⟨by first | rfl | (simp [aW, aX] <;> rfl) | (simp [*, aW, aX] <;> rfl), bO HB⟩
def bK.l0 : Nat → List (dK) → List (dK) → Int → Int → List Int → Int → Int → Int → Option ((List (dK)))
 | 0, _, _, _, _, _, _, _, _ => none
 | k + 1, x1, x5, x6, VL, zb, VM, VN, VO => if x6 < (zb.length : Int) then (if 0 ≤ x6 then (if 0 ≤ (rd zb x6) then (if (rd zb x6) < (x1.length : Int) then (if x5.length < 8796093022208 then (bK.l0 k x1 (x5 ++ [(⟨(bJ x1 (rd zb x6)).f0, (bJ x1 (rd zb x6)).f1⟩ : dK)]) (wrap64 (x6 + 1)) VL zb VM VN VO) else (none)) else (none)) else (none)) else (none)) else (some x5)
def bK.f (k : Nat) (aR : Int) (aH : List Int) (vX : Int) (sM : Int) (Gm : Int) (l1 : List (dK)) : Option ((List (dK))) := bK.l0 k l1 ([] : List (dK)) 0 aR aH vX sM Gm
theorem bK.apw : ∀ k, (∀ y0 y1 y2 y3 y4 y5 y6 y7, dz (bK.l0 k y0 y1 y2 y3 y4 y5 y6 y7) (bK.l0 (k + 1) y0 y1 y2 y3 y4 y5 y6 y7))
 | 0 => fun _ _ _ _ _ _ _ _ r h => by simp [bK.l0] at h
 | k + 1 => by
  have jP := bK.apw k
  ·intro y0 y1 y2 y3 y4 y5 y6 y7;unfold bK.l0;repeat' first
   | (with_reducible exact jP _ _ _ _ _ _ _ _)
   | (with_reducible exact dz.refl _)
   | (with_reducible exact dz.none _)
   | (with_reducible refine dz.ite ?_ ?_)
   | (with_reducible refine dz.bind ?_ (fun _ => ?_))
   | exact jP _ _ _ _ _ _ _ _
   | exact dz.none _
   | refine dz.ite ?_ ?_
   | refine dz.bind ?_ (fun _ => ?_)
theorem bK.mono : ∀ a0 a1 a2 a3 a4 a5 k, dz (bK.f k a0 a1 a2 a3 a4 a5) (bK.f (k + 1) a0 a1 a2 a3 a4 a5) := by
 intro a0 a1 a2 a3 a4 a5 k;have jP := bK.apw k;unfold bK.f;repeat' first
   | (with_reducible exact jP _ _ _ _ _ _ _ _)
   | (with_reducible exact dz.refl _)
   | (with_reducible exact dz.none _)
   | (with_reducible refine dz.ite ?_ ?_)
   | (with_reducible refine dz.bind ?_ (fun _ => ?_))
   | exact jP _ _ _ _ _ _ _ _
   | exact dz.none _
   | refine dz.ite ?_ ?_
   | refine dz.bind ?_ (fun _ => ?_)
set_option maxHeartbeats 8000000 in
set_option maxRecDepth 100000 in
theorem bK.calls (k : Nat) (aR : Int) (bW : Option Addr) (bN : Nat) (aH : List Int) (vX : Int) (sM : Int) (Gm : Int) (A1 : Option Addr) (c1 : Nat) (l1 : List (dK)) (r : List (dK)) (w : World) (fw : Kd.C (Kd.int .i64) w bW aH.length aH) (fC : aH.length ≤ bN) (hr1 : Kd.C xA w A1 l1.length l1) (hc1 : l1.length ≤ c1) (h : bK.f k aR aH vX sM Gm l1 = some r) :
  Calls Try.prog 63 #[.agg #[.int .i64 aR, .slice bW aH.length bN, .int .i64 vX, .int .i64 sM, .int .i64 Gm], .slice A1 l1.length c1] w fun e w' => ∃ Pk : Value, e = .returned (Pk) ∧ Kd.R xA 34 w' w.heap.size (fun _ => True) Pk r ∧ Below w.heap.size w w' := by
 have aaB := Try.underlying54;have QT := Try.underlying34;have arT := aa.mk fw;have fP := aa.mk fC;clear fw fC;have HR1 := aa.mk hr1;have EY := aa.mk hc1;clear hr1 hc1;have HB := aa.mk (Below.refl w.heap.size w);have H : (bK.l0 k l1 ([] : List (dK)) 0 aR aH vX sM Gm) = some r := h;clear h;have H' := aa.mk H;clear H;go_enter Try.func63, Try.ntmps63
 go_wp2_with (first | ((with_reducible refine bM (N := 2) rfl ?_); refine bG ?hg (N := 2) ?hd (cs := #[.int .i64 aR, .slice bW aH.length bN, .int .i64 vX, .int .i64 sM, .int .i64 Gm]) (t := 54) ?hr ?_; (case hd => rfl); (case hg => rfl); (case hr => first | (go_simp; done) | (go_simp; rfl)); intro uS hg w3 bR hb; have bP := aa.mk (aM (bO HB) hb); have bQ := aa.mk (bR); have bT := aa.mk ((by rw [hg]; exact (aK (bO HB)) : w.heap.size ≤ uS)); have di := aa.mk ((by rw [hg]; exact (aK (bO HB)) : w.heap.size ≤ uS)); clear HB; have HB := bP; have kD := bQ; have ak7 := bT; have ak8 := di; clear bP bQ bT di; clear hb bR hg))
 go_loopg [5, 6] k (fun kq v5 v6 w' => ∃ (nO : List (dK)) (lD : Int), v6 = .int .i64 lD ∧ aa (bK.l0 kq l1 nO lD aR aH vX sM Gm = some r) ∧ aa (kq ≤ k) ∧ aa (Kd.R xA 34 w' w.heap.size (fun _ => True) v5 nO) ∧ aa (w'.heap[uS]? = some (.cells #[.int .i64 aR, (.slice bW aH.length bN), .int .i64 vX, .int .i64 sM, .int .i64 Gm] 54 (0, 0))) ∧ aa (Below w.heap.size w w'))
 case atStart => exact ⟨(([] : List (dK))), (0), (by first | rfl | (simp; done) | (simp [*]; done)), H', ⟨Nat.le_refl _⟩, ⟨by first | exact Kd.qf _ _ _ _ _ | exact Kd.xY _ _ _ _ _ | exact Kd.xZ _ _ _ _ _ | exact Kd.xS _ _ _ _ _ | exact Kd.xW _ _ _ _ _⟩, ⟨by (with_reducible repeat (first | refine ax ?_ _ | refine az ?_ | refine au ?_ _)); exact kD.out⟩, ⟨bO HB⟩⟩
 case round =>
  clear H';(try clear c1); (try clear p2);obtain ⟨nO, lD, rfl, HA, yf, sw, kD, HB⟩ := hrel
  cases gk with
  | zero => exact absurd HA.out (by simp [bK.l0])
  | succ k1 =>
   have H := HA.out;clear HA;simp only [bK.l0] at H;by_cases c4 : lD < (aH.length : Int)
   ·rw [if_pos c4] at H;have nu : decide (lD < (aH.length : Int)) = true := decide_eq_true c4;clear c4;by_cases c5 : 0 ≤ lD
    ·rw [if_pos c5] at H;have TM : decide (0 ≤ lD) = true := decide_eq_true c5;clear c5;by_cases c6 : 0 ≤ (rd aH lD)
     ·rw [if_pos c6] at H;have Dy : decide (0 ≤ (rd aH lD)) = true := decide_eq_true c6;clear c6;by_cases c7 : (rd aH lD) < (l1.length : Int)
      ·rw [if_pos c7] at H;have uy : decide ((rd aH lD) < (l1.length : Int)) = true := decide_eq_true c7;clear c7;by_cases c8 : nO.length < 8796093022208
       ·rw [if_pos c8] at H;have aiC := aa.mk c8;clear c8;obtain ⟨adk, Lf⟩ : ∃ y_ : List (dK), y_ = (nO ++ [(⟨(bJ l1 (rd aH lD)).f0, (bJ l1 (rd aH lD)).f1⟩ : dK)]) := ⟨_, rfl⟩;replace H : (bK.l0 k1 l1 adk (wrap64 (lD + 1)) aR aH vX sM Gm) = some r := by first | (rw [Lf]; with_reducible exact H) | (have Gn := (Option.bind_some _ _).symm.trans H; rw [Lf]; with_reducible exact Gn) | (have Gn := (Option.bind_some _ _).symm.trans H; with_reducible exact Gn) | with_reducible exact H | (rw [Lf]; exact H) | exact H
        have adl := aa.mk Lf;clear Lf;have H' := aa.mk H;clear H;have nP : wr.cell? ⟨uS, 0, none⟩ = some (.int .i64 aR) := (ae kD.out 0).trans rfl;have nQ : wr.cell? ⟨uS, 1, none⟩ = some (.slice bW aH.length bN) := (ae kD.out 1).trans rfl;have aiD : wr.cell? ⟨uS, 2, none⟩ = some (.int .i64 vX) := (ae kD.out 2).trans rfl;have aiE : wr.cell? ⟨uS, 3, none⟩ = some (.int .i64 sM) := (ae kD.out 3).trans rfl;have aiF : wr.cell? ⟨uS, 4, none⟩ = some (.int .i64 Gm) := (ae kD.out 4).trans rfl;have nR := ai kD.out 0;have nS := ai kD.out 1;have aiG := ai kD.out 2;have aiH := ai kD.out 3;have aiI := ai kD.out 4;have aaC : 0 ≤ (lD : Int) := of_decide_eq_true (by first | (with_reducible assumption) | assumption);have aaD : lD < (aH.length : Int) := of_decide_eq_true (by first | (with_reducible assumption) | assumption);obtain ⟨ak9, e215, Pm⟩ := Kd.nC arT.out lD aaC aaD
        cases e215;replace Pm := ah HB.out Pm;replace aaC := eq_true aaC;replace aaD := eq_true aaD;have aaE : 0 ≤ ((rd aH lD) : Int) := of_decide_eq_true (by first | (with_reducible assumption) | assumption);have aaF : (rd aH lD) < (l1.length : Int) := of_decide_eq_true (by first | (with_reducible assumption) | assumption);obtain ⟨ala, e216, Pn, Po⟩ := aRX HR1.out (rd aH lD) aaE aaF
        cases e216;replace Pn := ah HB.out Pn;replace Po := ah HB.out Po;replace aaE := eq_true aaE;replace aaF := eq_true aaF;go_wp2_with (first | ((with_reducible refine Ab (b := .append) (xs := #[.tmp 14, .tmp 23]) rfl ?_); at_builtin; refine Kd.KI xA (w0 := w) w.heap.size rfl (.tmp 14) (.tmp 23) 43 34 (.agg #[(.int .i64 0), (.int .i64 0)]) 16 rfl Try.underlying43 FP rfl (by decide) (by omega) u5 nO (⟨(bJ l1 (rd aH lD)).f0, (bJ l1 (rd aH lD)).f1⟩ : dK) [.int .i64 ((bJ l1 (rd aH lD)).f0), .int .i64 ((bJ l1 (rd aH lD)).f1)] (fun _ => True) (fun _ => False) rfl rfl ?aP (fun _ hk => hk.elim) ?aF ?aO ?aB ?aS ?aL ?_; (case aP => exact vL _ _ _ (⟨(bJ l1 (rd aH lD)).f0, (bJ l1 (rd aH lD)).f1⟩ : dK)); (case aB => exact (bO HB)); (case aF => exact (fun _ _ => trivial)); (case aO => exact (by (with_reducible repeat (first | apply Kd.ay5 | apply Kd.eu | apply Kd.aaH)); exact sw.out)); (case aS => exact (aK (bO HB))); (case aL => have := aiC.out; omega); intro v218 Io ho hb hg hat; rw [← adl.out] at ho; have bP := aa.mk (bX (bk kD) hg (Kd.aqP sw.out kD.out (by decide))); have bQ := aa.mk (hb); have bT := aa.mk (ho); clear kD; clear HB; clear sw; have kD := bP; have HB := bQ; have adm := bT; clear bP bQ bT; clear ho hb hg hat))
        go_roundg k1
        case measure => have := yf.out; omega
        case rel => exact ⟨(adk), (wrap64 (lD + 1)), (by first | rfl | (simp; done) | (simp [*]; done)), H', ⟨by have := yf.out; omega⟩, ⟨by (with_reducible repeat (first | apply Kd.ay5 | apply Kd.eu | apply Kd.aaH)); exact adm.out⟩, ⟨by (with_reducible repeat (first | refine ax ?_ _ | refine az ?_ | refine au ?_ _)); exact kD.out⟩, ⟨bO HB⟩⟩
       ·rw [if_neg c8] at H;exact absurd H (by simp)
      ·rw [if_neg c7] at H;exact absurd H (by simp)
     ·rw [if_neg c6] at H;exact absurd H (by simp)
    ·rw [if_neg c5] at H;exact absurd H (by simp)
   ·rw [if_neg c4] at H;have nu : decide (lD < (aH.length : Int)) = false := decide_eq_false c4;clear c4;obtain rfl := Option.some.inj H;have oW : wr.cell? ⟨uS, 0, none⟩ = some (.int .i64 aR) := (ae kD.out 0).trans rfl;have oZ : wr.cell? ⟨uS, 1, none⟩ = some (.slice bW aH.length bN) := (ae kD.out 1).trans rfl;have afT : wr.cell? ⟨uS, 2, none⟩ = some (.int .i64 vX) := (ae kD.out 2).trans rfl;have afU : wr.cell? ⟨uS, 3, none⟩ = some (.int .i64 sM) := (ae kD.out 3).trans rfl;have afV : wr.cell? ⟨uS, 4, none⟩ = some (.int .i64 Gm) := (ae kD.out 4).trans rfl;have o5 := ai kD.out 0;have o6 := ai kD.out 1;have afW := ai kD.out 2;have afX := ai kD.out 3;have afY := ai kD.out 4;go_wp2;go_ret;exact ⟨_, by first | rfl | (simp [aW, aX] <;> rfl) | (simp [*, aW, aX] <;> rfl), by (with_reducible repeat (first | apply Kd.ay5 | apply Kd.eu | apply Kd.aaH)); exact sw.out, bO HB⟩
end Go.Proofs.Ytamimodkcbbpmaa.Pr
end
section
namespace Go.Proofs.Ytamimodkcbbpmaa.Pr
open Go.RowKit Go.Proofs.YtamimodkcbbpmaaW.PrintWords Go.Proofs.YtamimodkcbbpmaaW.PrintLast Go.Proofs.YtamimodkcbbpmaaXW Go.Proofs.YtamimodkcbbpmaaXM
set_option linter.unusedVariables false
set_option linter.unusedSimpArgs false
theorem M5 (a b : dK) : jA.f a.f0 a.f1 b.f0 b.f1 = some (pW a b) := by
 unfold jA.f pW;by_cases h1 : a.f0 < b.f0
 ·simp [h1]
 ·by_cases h2 : a.f0 = b.f0
  ·simp [h2]
  ·simp [h1, h2]
theorem zD (l : List dK) : ∀ (k i : Nat) (a : dK), i ≤ l.length → l.length < i + k → l.length ≤ 1000000 → bz.l0 k l a.f0 a.f1 (i : Int) = if ((l.drop i).foldl xG a).f0 ≥ 1099511627776 then some (1099511627776, 0) else some (((l.drop i).foldl xG a).f0, ((l.drop i).foldl xG a).f1)
 | 0, i, a, h1, h2, _ => by omega
 | k + 1, i, a, h1, h2, h3 => by
  unfold bz.l0;by_cases h : i < l.length
  ·rw [if_pos (by omega), if_pos (by omega)];have hw : wrap64 ((i : Int) + 1) = ((i + 1 : Nat) : Int) := by unfold wrap64; omega
   have hd : l.drop i = bJ l (i : Int) :: l.drop (i + 1) := by
    rw [List.drop_eq_getElem_cons h];simp [bJ, List.getD_eq_getElem?_getD, List.getElem?_eq_getElem h]
   rw [hw, hd, List.foldl_cons];exact zD l k (i + 1) (xG a (bJ l (i : Int))) (by omega) (by omega) h3
  ·have hi : i = l.length := by omega
   subst hi;rw [if_neg (by omega), List.drop_length, List.foldl_nil]
theorem mh (cost : Int) (l : List dK) (h : l.length ≤ 1000000) (h0 : 0 ≤ cost) (h1 : cost ≤ 1099511627776) (hok : ∀ v, v ∈ l → okV v) : bz.f (l.length + 1) cost l = some ((aqp cost l).f0, (aqp cost l).f1) := by
 have h2 := zD l (l.length + 1) 0 ⟨cost, 1⟩ (by omega) (by omega) h;have hp := zM l hok;rw [List.drop_zero, TI l _ ⟨h0, h1⟩ ⟨show (0 : Int) ≤ 1 by decide, show (1 : Int) ≤ 1099511627776 by decide⟩ hok] at h2;unfold bz.f;rw [si cost l h0 hok];refine h2.trans ?_;simp only;by_cases h3 : 1099511627776 ≤ cost + Mg l
 ·rw [if_pos (by omega), if_pos h3]
 ·rw [if_neg (by omega), if_neg h3, show min (cost + Mg l) 1099511627776 = cost + Mg l by omega]
theorem EA (vs : List dK) (a0 : Int) (l : List Int) (a2 a3 a4 : Int) (hr : ∀ t, t ∈ l → 0 ≤ t ∧ t < (vs.length : Int)) (hl : l.length ≤ 1000000) : ∀ (k i : Nat) (acc : List dK), i ≤ l.length → l.length < i + k → acc.length ≤ i → bK.l0 k vs acc (i : Int) a0 l a2 a3 a4 = some (acc ++ tailV vs (l.drop i))
 | 0, i, acc, h1, h2, _ => by omega
 | k + 1, i, acc, h1, h2, h3 => by
  unfold bK.l0;by_cases h : i < l.length
  ·have hrd : rd l (i : Int) = l.getD i 0 := rfl;have hm := hr _ (ib l i 0 h);rw [if_pos (by omega), if_pos (by omega), hrd, if_pos hm.1, if_pos hm.2, if_pos (by omega)];have hw : wrap64 ((i : Int) + 1) = ((i + 1 : Nat) : Int) := by unfold wrap64; omega
   have hd : l.drop i = l.getD i 0 :: l.drop (i + 1) := by
    rw [List.drop_eq_getElem_cons h];simp [List.getD_eq_getElem?_getD, List.getElem?_eq_getElem h]
   rw [hw, EA vs a0 l a2 a3 a4 hr hl k (i + 1) _ (by omega) (by omega) (by rw [List.length_append, List.length_singleton]; omega), hd];simp [tailV]
  ·have hi : i = l.length := by omega
   subst hi;rw [if_neg (by omega), List.drop_length];simp [tailV]
theorem yt (vs : List dK) (e : dO) (hr : ∀ t, t ∈ e.f1 → 0 ≤ t ∧ t < (vs.length : Int)) (hl : e.f1.length ≤ 1000000) : bK.f (e.f1.length + 1) e.f0 e.f1 e.f2 e.f3.f0 e.f3.f1 vs = some (tailV vs e.f1) :=
 EA vs e.f0 e.f1 e.f2 e.f3.f0 e.f3.f1 hr hl (e.f1.length + 1) 0 [] (by omega) (by omega) (by simp)
structure Pre (n : Nat) (es : List dO) (vs : List dK) : Prop where
 len : vs.length = n
 ok : ∀ v, v ∈ vs → okV v
 att : ∀ t : Nat, t < n → bJ vs (t : Int) = sK ∨ JC es (t : Int) (bJ vs (t : Int))
theorem Pre.val {n : Nat} {es : List dO} {vs : List dK} (h : Pre n es vs) (hc : zO es) (he : zt n es) (k : Nat) (hk : k < es.length) : okV (kV vs (aj es (k : Int))) := by
 have zC := jb he (k : Int) (by omega) (by omega);exact Gi _ _ (nM hc k hk).1 (nN h.ok (fun t ht => by rw [h.len]; exact zC.2.1 t ht))
theorem Pre.set {n : Nat} {es : List dO} {vs : List dK} (h : Pre n es vs) (hc : zO es) (he : zt n es) (k : Nat) (hk : k < es.length) (hlt : pW (kV vs (aj es (k : Int))) (bJ vs (aj es (k : Int)).f0) = true) : Pre n es (vs.set (aj es (k : Int)).f0.toNat (kV vs (aj es (k : Int)))) := by
 have zC := jb he (k : Int) (by omega) (by omega);have hv := h.val hc he k hk;have hhd := h.ok _ (AA vs (aj es (k : Int)).f0 zC.1.1 (by rw [h.len]; exact zC.1.2));have hfin : kV vs (aj es (k : Int)) ≠ sK := fun e => by
  rw [e] at hlt;have h1 := (za _ _).1 hlt;have h2 := hhd.le_inf;unfold oV at h2;omega
 have TN : ∀ v, v ∈ tailV vs (aj es (k : Int)).f1 → okV v := nN h.ok (fun t ht => by rw [h.len]; exact zC.2.1 t ht);have Q8 : JC es (aj es (k : Int)).f0 (kV vs (aj es (k : Int))) := by
  refine JC.mk k hk _ (eY _ _) (fun j hj => ?_);rw [eY] at hj;rw [kM _ _ _ hj];have h1 := zC.2.1 _ (ib (aj es (k : Int)).f1 j 0 hj);have h3 := h.att ((aj es (k : Int)).f1.getD j 0).toNat (by omega);rw [Int.toNat_of_nonneg h1.1] at h3;rcases h3 with h3 | h3
  ·exact absurd (IC _ _ (nM hc k hk).1 TN j (by rw [eY]; exact hj) (by rw [kM _ _ _ hj]; exact h3)) hfin
  ·exact h3
 obtain ⟨hd, aiJ⟩ : ∃ hd : Nat, (aj es (k : Int)).f0 = (hd : Int) := ⟨(aj es (k : Int)).f0.toNat, by omega⟩;have hdn : hd < vs.length := by rw [h.len]; omega
 rw [aiJ] at Q8 ⊢;rw [Int.toNat_natCast];refine ⟨by rw [List.length_set]; exact h.len, fun v hv2 => ?_, fun t ht => ?_⟩
 ·rcases List.mem_or_eq_of_mem_set hv2 with h1 | h1
  ·exact h.ok v h1
  ·rw [h1]; exact hv
 ·rw [uP vs hd hdn _ _ (by omega)];by_cases hth : (t : Int) = (hd : Int)
  ·rw [if_pos hth, hth];exact Or.inr Q8
  ·rw [if_neg hth];exact h.att t ht
def mV (vs : List dK) : Nat := (vs.map (fun v => v.f0.toNat * 2199023255552 + v.f1.toNat)).sum
theorem TP : ∀ (vs : List dK) (i : Nat) (x : dK), i < vs.length → okV x → (∀ v, v ∈ vs → okV v) → pW x (vs.getD i z34) = true → mV (vs.set i x) < mV vs
 | v :: vs, 0, x, _, hx, hv, hlt => by
  have h0 := hv v (List.mem_cons_self ..);have h1 : pW x v = true := hlt;rw [za] at h1;obtain ⟨a, b, c, d, e⟩ := hx;obtain ⟨a', b', c', d', e'⟩ := h0;simp only [mV, List.set_cons_zero, List.map_cons, List.sum_cons];omega
 | v :: vs, i + 1, x, hi, hx, hv, hlt => by
  have ih := TP vs i x (by simpa using hi) hx (fun y hy => hv y (List.mem_cons_of_mem _ hy)) hlt;simp only [mV, List.set_cons_succ, List.map_cons, List.sum_cons] at ih ⊢;omega
 | [], i, x, hi, _, _, _ => by simp at hi
theorem aPX {n : Nat} {es : List dO} {vs : List dK} (h : Pre n es vs) (hc : zO es) (he : zt n es) (k : Nat) (hk : k < es.length) (hlt : pW (kV vs (aj es (k : Int))) (bJ vs (aj es (k : Int)).f0) = true) : mV (vs.set (aj es (k : Int)).f0.toNat (kV vs (aj es (k : Int)))) < mV vs := by
 have zC := jb he (k : Int) (by omega) (by omega);exact TP vs _ _ (by rw [h.len]; omega) (h.val hc he k hk) h.ok hlt
structure RV (n : Nat) (es : List dO) (v0 vs : List dK) (k : Nat) (more : Bool) : Prop where
 pre : Pre n es vs
 no : more = false → vs = v0 ∧ ∀ j : Nat, j < k → oV (bJ vs (aj es (j : Int)).f0) (kV vs (aj es (j : Int)))
 yes : more = true → mV vs < mV v0
theorem RV.zero {n : Nat} {es : List dO} {vs : List dK} (h : Pre n es vs) : RV n es vs vs 0 false := ⟨h, fun _ => ⟨rfl, fun j hj => absurd hj (by omega)⟩, fun h => by cases h⟩
theorem RV.skip {n : Nat} {es : List dO} {v0 vs : List dK} {k : Nat} {more : Bool} (h : RV n es v0 vs k more) (hlt : pW (kV vs (aj es (k : Int))) (bJ vs (aj es (k : Int)).f0) = false) : RV n es v0 vs (k + 1) more := by
 refine ⟨h.pre, fun hm => ⟨(h.no hm).1, fun j hj => ?_⟩, h.yes⟩;by_cases hjk : j = k
 ·rw [hjk]; exact (rC _ _).1 hlt
 ·exact (h.no hm).2 j (by omega)
theorem RV.step {n : Nat} {es : List dO} {v0 vs : List dK} {k : Nat} {more : Bool} (h : RV n es v0 vs k more) (hc : zO es) (he : zt n es) (hk : k < es.length) (hlt : pW (kV vs (aj es (k : Int))) (bJ vs (aj es (k : Int)).f0) = true) : RV n es v0 (vs.set (aj es (k : Int)).f0.toNat (kV vs (aj es (k : Int)))) (k + 1) true := by
 have hm := aPX h.pre hc he k hk hlt;refine ⟨h.pre.set hc he k hk hlt, fun h => (by cases h), fun _ => ?_⟩
 cases more with
 | true => have := h.yes rfl; omega
 | false => rw [← (h.no rfl).1]; exact hm
theorem RV.UZ {n : Nat} {es : List dO} {v0 vs : List dK} (h : RV n es v0 vs es.length false) : Pe n es vs := ⟨h.pre.len, h.pre.ok, (h.no rfl).2, h.pre.att⟩
theorem Pre.init (n : Nat) (es : List dO) : Pre n es (List.replicate n sK) :=
 ⟨by simp, fun v hv => by rw [(List.mem_replicate.1 hv).2]; exact JB, fun t ht => Or.inl (kW n t _ _ ht)⟩
structure Down (n : Nat) (es : List dO) (vs : List dK) (i : Nat) (ed : List Int) : Prop where
 len : ed.length = n
 ch : ∀ t : Nat, t < n → (ed.getD t 0 = -1 ∧ ∀ k, i ≤ k → k < es.length → ¬ aKR es vs k (t : Int)) ∨ ∃ k, (i ≤ k ∧ k < es.length) ∧ ed.getD t 0 = (k : Int) ∧ aKR es vs k (t : Int) ∧ ∀ j, i ≤ j → j < k → ¬ aKR es vs j (t : Int)
theorem Down.init (n : Nat) (es : List dO) (vs : List dK) : Down n es vs es.length (List.replicate n (-1)) :=
 ⟨by simp, fun t ht => Or.inl ⟨kW n t _ _ ht, fun k h1 h2 => absurd h2 (by omega)⟩⟩
theorem Down.chosen {n : Nat} {es : List dO} {vs : List dK} {ed : List Int} (h : Down n es vs 0 ed) : zP n es vs es.length ed := by
 refine ⟨h.len, fun t ht => ?_⟩;rcases h.ch t ht with ⟨e, h1⟩ | ⟨k, hk, e, h1, h2⟩
 ·exact Or.inl ⟨e, fun k hk => h1 k (by omega) hk⟩
 ·exact Or.inr ⟨k, hk.2, e, h1, fun j hj => h2 j (by omega) hj⟩
theorem Down.skip {n : Nat} {es : List dO} {vs : List dK} {i : Nat} {ed : List Int} (h : Down n es vs (i + 1) ed) (hT : ¬ aKR es vs i (aj es (i : Int)).f0) : Down n es vs i ed := by
 have hno : ∀ t : Nat, ¬ aKR es vs i (t : Int) := fun t ht => hT (by rw [ht.1]; exact ht)
 refine ⟨h.len, fun t ht => ?_⟩;rcases h.ch t ht with ⟨e, h1⟩ | ⟨k, hk, e, h1, h2⟩
 ·refine Or.inl ⟨e, fun k h3 h4 => ?_⟩;by_cases hki : k = i
  ·rw [hki]; exact hno t
  ·exact h1 k (by omega) h4
 ·refine Or.inr ⟨k, by omega, e, h1, fun j h3 h4 => ?_⟩;by_cases hji : j = i
  ·rw [hji]; exact hno t
  ·exact h2 j (by omega) h4
theorem Down.step {n : Nat} {es : List dO} {vs : List dK} {i : Nat} {ed : List Int} (h : Down n es vs (i + 1) ed) (he : zt n es) (hi : i < es.length) (hT : aKR es vs i (aj es (i : Int)).f0) : Down n es vs i (ed.set (aj es (i : Int)).f0.toNat (i : Int)) := by
 have zC := jb he (i : Int) (by omega) (by omega);obtain ⟨hd, hhd⟩ : ∃ hd : Nat, (aj es (i : Int)).f0 = (hd : Int) := ⟨(aj es (i : Int)).f0.toNat, by omega⟩;rw [hhd] at hT ⊢;rw [Int.toNat_natCast];refine ⟨by rw [List.length_set]; exact h.len, fun t ht => ?_⟩;rw [jl];by_cases hth : t = hd
 ·subst hth;rw [if_pos ⟨rfl, by rw [h.len]; exact ht⟩];exact Or.inr ⟨i, ⟨Nat.le_refl _, hi⟩, rfl, hT, fun j h3 h4 => absurd h4 (by omega)⟩
 ·rw [if_neg (fun h => hth h.1)];have hno : ¬ aKR es vs i (t : Int) := fun h2 => hth (by have := h2.1; omega)
  rcases h.ch t ht with ⟨e, h1⟩ | ⟨k, hk, e, h1, h2⟩
  ·refine Or.inl ⟨e, fun k h3 h4 => ?_⟩;by_cases hki : k = i
   ·rw [hki]; exact hno
   ·exact h1 k (by omega) h4
  ·refine Or.inr ⟨k, by omega, e, h1, fun j h3 h4 => ?_⟩;by_cases hji : j = i
   ·rw [hji]; exact hno
   ·exact h2 j (by omega) h4
theorem VQ {n : Nat} {es : List dO} {vs : List dK} {ed : List Int} (hc : zO es) (he : zt n es) (hT : ∀ e, e ∈ es → e.f1.length ≤ 100) (hl : es.length ≤ 1000) (h : Pe n es vs) (hd : Down n es vs 0 ed) : vs = jy n es ∧ ed = xL n es := by
 have h1 : vs = jy n es := h.uniq (Gj hc he hT hl) hc he;subst h1;exact ⟨rfl, hd.chosen.uniq (Ez hc he hT hl)⟩
structure RC where
 w0 : World
 b : Nat
 n : Nat
 A : Option Addr
 m : Nat
 c : Nat
 gv : Nat
 cv : Nat
 ge : Nat
 ce : Nat
structure RS (X : RC) (w : World) (vs : List dK) (ed : List Int) : Prop where
 hB : Below X.w0.heap.size X.w0 w
 hb : w.heap[X.b]? = some (.cells #[.int .i64 (X.n : Nat), .slice X.A X.m X.c] 24 (0, 0))
 hV : Kd.R xA 34 w X.w0.heap.size (fun _ => True) (.slice (some ⟨X.gv, 0, none⟩) X.n X.cv) vs
 hE : Kd.R (Kd.int .i64) 3 w X.w0.heap.size (fun _ => True) (.slice (some ⟨X.ge, 0, none⟩) X.n X.ce) ed
section
variable {X : RC} {w w1 : World} {vs vs' : List dK} {ed ed' : List Int}
theorem RS.below (h : RS X w vs ed) (hb : Below w.heap.size w w1) : RS X w1 vs ed := ⟨aM h.hB hb, aC h.hb hb, Kd.bu h.hV hb, Kd.bu h.hE hb⟩
theorem RS.TC (h : RS X w vs ed) (hV : Kd.R xA 34 w1 X.w0.heap.size (fun _ => True) (.slice (some ⟨X.gv, 0, none⟩) X.n X.cv) vs') (hg : w.grownBy w1 (some X.gv)) : RS X w1 vs' ed := by
 obtain ⟨inner, ho⟩ := Kd.xR h.hV;exact ⟨jq h.hB _ h.hB.size hg (fun k hk => mf ho k hk), bX h.hb hg (Kd.aqP h.hV h.hb (by decide)), hV, Kd.nA h.hE h.hV (by decide) hg⟩
theorem RS.TD (h : RS X w vs ed) (hE : Kd.R (Kd.int .i64) 3 w1 X.w0.heap.size (fun _ => True) (.slice (some ⟨X.ge, 0, none⟩) X.n X.ce) ed') (hg : w.grownBy w1 (some X.ge)) : RS X w1 vs ed' := by
 obtain ⟨inner, ho⟩ := Kd.xR h.hE;exact ⟨jq h.hB _ h.hB.size hg (fun k hk => mf ho k hk), bX h.hb hg (Kd.aqP h.hE h.hb (by decide)), Kd.nA h.hV h.hE (by decide) hg, hE⟩
end
def Dc.T14 : Bool × List (List Nat × List Nat) := (true, [([], []), ([0], [0]), ([], []), ([], []), ([2, 3], [2, 3]), ([1, 4, 4], [1, 4]), ([], []), ([6, 5, 5, 0, 1, 2, 3, 4, 5, 6], [5, 6])])
def Dc.B14 : List Nat := [0, 1, 0, 0, 12, 31, 0, 127]
theorem Dc.ad5 : iC .any (opsOf Try.f38 14) = Dc.T14 := by kernel_rfl
theorem Dc.aa0 : fo Dc.T14.2 Dc.B14 = true := by kernel_rfl
def Dc.T15 : Bool × List (List Nat × List Nat) := (true, [([], []), ([], []), ([], []), ([2], [2]), ([1, 3], [1, 3]), ([4], [4]), ([0, 5], [0, 5])])
def Dc.B15 : List Nat := [0, 0, 0, 4, 14, 30, 63]
theorem Dc.ad6 : iC .any (opsOf Try.f38 15) = Dc.T15 := by kernel_rfl
theorem Dc.aa1 : fo Dc.T15.2 Dc.B15 = true := by kernel_rfl
def Dc.T23 : Bool × List (List Nat × List Nat) := (true, [([], []), ([0], [0]), ([1], [1]), ([2], [2]), ([3], [3]), ([4, 3], [3, 4]), ([3], [3]), ([3], [3]), ([6, 7, 3, 3], [3, 6, 7]), ([5, 8, 8, 3], [3, 5, 8]), ([3], [3]), ([9, 10, 3], [3, 9, 10]), ([3, 11], [3, 11])])
def Dc.B23 : List Nat := [0, 1, 3, 7, 15, 31, 15, 15, 207, 511, 15, 2047, 4095]
theorem Dc.YS : iC .any (opsOf Try.f38 23) = Dc.T23 := by kernel_rfl
theorem Dc.Uk : fo Dc.T23.2 Dc.B23 = true := by kernel_rfl
set_option maxRecDepth 100000 in
set_option maxHeartbeats 8000000 in
theorem Rp (n : Nat) (A : Option Addr) (c : Nat) (es : List dO) (w : World) (hC : Kd.C sJ w A es.length es) (hn : n ≤ 1000) (he : es.length ≤ 1000) (hok : zt n es) (aSt : zO es) (hT : ∀ e, e ∈ es → e.f1.length ≤ 100) :
  Calls Try.prog 38 #[.agg #[.int .i64 (n : Nat), .slice A es.length c]] w fun e w' => ∃ Pk EF, e = .returned (.tuple #[Pk, EF]) ∧ Kd.R xA 34 w' w.heap.size (fun _ => True) Pk (jy n es) ∧ Kd.R (Kd.int .i64) 3 w' w.heap.size (fun _ => True) EF (xL n es) ∧ Below w.heap.size w w' := by
 have HC := aa.mk hC;have Q5 := aa.mk hok;have HCS := aa.mk aSt;have HT := aa.mk hT;clear hC hok aSt hT;go_enter Try.func38, Try.ntmps38
 go_upto_region 1 with (fail)
 have ER := eX w (.cells #[.int .i64 (n : Nat), .slice A es.length c] 24);have HB := aa.mk ER.1;have hb1 := ER.2;obtain ⟨b1, e1⟩ : ∃ b1, b1 = w.heap.size := ⟨_, rfl⟩;rw [← e1] at hb1 ⊢;clear ER e1;generalize (w.alloc (.cells #[.int .i64 (n : Nat), .slice A es.length c] 24)) = wA at *;have s0 : wA.cell? ⟨b1, 0, none⟩ = some (.int .i64 (n : Nat)) := by rw [ae hb1 0]; rfl
 have HB1 := aa.mk hb1;clear hb1;go_upto_region 2 with (first | ((with_reducible refine bM (N := 16) rfl ?_); refine Kd.I7 xA w.heap.size 34 rfl (N := 16) rfl 43 _ _ rfl (n : Int) rfl rfl Try.underlying43 (.agg #[.int .i64 0, .int .i64 0]) 16 FP rfl (by decide) (by omega) z34 (ok := fun k => wA.heap.size ≤ k) (lV := fun k => wA.heap.size ≤ k) (vL _ _ _ z34) (fun _ hk => hk) (Nat.le_refl _) (by omega) (by omega) HB.out HB.out.size ?_; intro v16 w6 hV YT hg6 hat; obtain ⟨gv, hbv, hlv⟩ := hat; obtain ⟨cv, rfl⟩ := sW hV hbv; rw [Int.toNat_natCast, List.length_replicate] at hV; have h6 := mM hg6; have HV := aa.mk hV; have H6 := aa.mk h6; have Gp := aa.mk YT; have s06 := ah h6 s0; clear hV h6 YT hg6 hbv))
 clear s0;go_upto_region 3 with (first | ((with_reducible refine bM (N := 19) rfl ?_); refine Kd.I7 (Kd.int .i64) w.heap.size 3 rfl (N := 19) rfl 44 _ _ rfl (n : Int) rfl rfl Try.underlying44 (.int .i64 0) 8 info3 rfl (by decide) (by omega) (0 : Int) (ok := fun k => w6.heap.size ≤ k) (lV := fun k => w6.heap.size ≤ k) rfl (fun _ hk => hk) (Nat.le_refl _) (by omega) (by omega) Gp.out Gp.out.size ?_; intro v19 w7 hE YU hg7 hat; obtain ⟨ge, hbe, hle⟩ := hat; obtain ⟨ce, rfl⟩ := sW hE hbe; rw [Int.toNat_natCast, List.length_replicate] at hE; have h7 := mM hg7; have HE := aa.mk hE; have H7 := aa.mk h7; have Co := aa.mk YU; clear hE h7 YU hg7 hbe))
 have Mh : aa (RS ⟨w, b1, n, A, es.length, c, gv, cv, ge, ce⟩ w7 (Dv n sK z34 0) (Dv n (-1 : Int) 0 0)) := ⟨by
  rw [yZ, yZ];exact ⟨Co.out, aC (aC HB1.out H6.out) H7.out, Kd.bB (Kd.bu HV.out H7.out) (fun _ _ => trivial), Kd.bB HE.out (fun _ _ => trivial)⟩⟩
 clear HV HE HB HB1 H6 H7 Gp Co s06 hlv hle;go_wp2_with fail
 go_loopg [6] (n + 1) (fun g v6 wr => ∃ i : Nat, v6 = .int .i64 i ∧ aa (i ≤ n) ∧ aa (n - i < g) ∧ aa (RS (⟨w, b1, n, A, es.length, c, gv, cv, ge, ce⟩ : RC) wr (Dv n sK z34 i) (Dv n (-1 : Int) 0 i)))
 case atStart => exact ⟨0, by go_num, ⟨by omega⟩, ⟨by omega⟩, Mh⟩
 case round =>
  obtain ⟨i, rfl, hi, hg, HS⟩ := hrel;clear Mh;have s0 : wr.cell? ⟨b1, 0, none⟩ = some (.int .i64 (n : Nat)) := (by rw [ae HS.out.hb 0]; rfl);by_cases hin : i < n
  ·have hi1 : i ≤ 1000 := by omega
   have hcs := ng HS.out.hV (i : Int) (by omega) (by show (i : Int) < (n : Int); omega);have hst := at1 HS.out.hV (i : Int) (by omega) (by show (i : Int) < (n : Int); omega) ⟨1099511627776, 0⟩;simp only [Int.toNat_natCast] at hcs hst;rw [Ay n _ _ i hin] at hst;obtain ⟨l0, l1, f0, f1⟩ := hcs;have D1 := HS.out.TC hst.1 hst.2;have hce := jk D1.hE 0 (i : Int) (by omega) (by show (i : Int) < (n : Int); omega);have hpe := Kd.zG D1.hE (i : Int) (-1);simp only [Int.toNat_natCast] at hce hpe;rw [Ay n _ _ i hin] at hpe;have D2 := aa.mk (D1.TD hpe.1 hpe.2);obtain ⟨e0, ef0⟩ := hce;clear hst D1 hpe;go_wp2_with fail
   go_roundg (n - i)
   case measure => have := hg.out; omega
   case rel => exact ⟨i + 1, by go_num, ⟨by omega⟩, ⟨by omega⟩, D2⟩
  ·obtain rfl : n = i := by have := hi.out; omega
   rw [Aw, Aw] at HS;have Mh := HS;have HP0 := aa.mk (Pre.init n es);obtain ⟨v0, hv0⟩ : ∃ v0, List.replicate n sK = v0 := ⟨_, rfl⟩;rw [hv0] at Mh HP0;obtain ⟨ed0, aa2⟩ : ∃ ed0, List.replicate n (-1 : Int) = ed0 := ⟨_, rfl⟩;rw [aa2] at Mh;have aiU := aa.mk aa2;clear HS hg hi hv0 aa2;have hii : ¬ ((n : Int) < (n : Int)) := by omega
   clear hin;obtain ⟨wO, rfl⟩ : ∃ wO : World, wO = wr := ⟨_, rfl⟩;obtain ⟨gO, rfl⟩ : ∃ gO : Nat, gO = gk := ⟨_, rfl⟩;go_wp2_with fail
   go_loopg [7] (mV v0 + 2) (fun g v7 wr => ∃ (mo : Bool) (vs : List dK), v7 = .bool mo ∧ aa (Pre n es vs) ∧ aa (mo = false → Pe n es vs) ∧ aa (mV vs + (if mo then 2 else 1) ≤ g) ∧ aa (RS (⟨w, b1, n, A, es.length, c, gv, cv, ge, ce⟩ : RC) wr vs ed0))
   case atStart => exact ⟨true, v0, rfl, HP0, ⟨fun h => (by cases h)⟩, ⟨Nat.le_refl _⟩, Mh⟩
   case round =>
    obtain ⟨mo, vs, rfl, HP, aa3, HG, HS⟩ := hrel;clear Mh HP0 s0
    cases mo with
    | true =>
     have WO := HS;have HR1 := aa.mk (RV.zero HP.out);have hg2 : mV vs + 2 ≤ gk := by have := HG.out; simpa using this
     clear HS HP aa3 HG;obtain ⟨g1, rfl⟩ : ∃ g1, gk = g1 + 1 := ⟨gk - 1, by omega⟩;have Ul : wr.cell? ⟨b1, 1, none⟩ = some (.slice A es.length c) := (by rw [ae WO.out.hb 1]; rfl);obtain ⟨wP, Tx⟩ : ∃ wP : World, wP = wr := ⟨_, rfl⟩;obtain ⟨v1, hv1⟩ : ∃ v1, v1 = vs := ⟨_, rfl⟩;rw [← hv1] at HR1 WO hg2;clear hv1;go_wp2_with fail
     go_loopg [7, 8] (es.length + 1) (fun g v7 v8 wr => ∃ (k : Nat) (mo : Bool) (vs : List dK), v7 = .bool mo ∧ v8 = .int .i64 k ∧ aa (k ≤ es.length) ∧ aa (es.length - k < g) ∧ aa (RV n es v1 vs k mo) ∧ aa (RS (⟨w, b1, n, A, es.length, c, gv, cv, ge, ce⟩ : RC) wr vs ed0))
     case atStart => exact ⟨0, false, v1, rfl, by go_num, ⟨by omega⟩, ⟨by omega⟩, HR1, WO⟩
     case round =>
      obtain ⟨k, mo, vs, rfl, rfl, hk, hg, HR, HS⟩ := hrel;clear HR1 WO Ul Tx;have Ul : wr.cell? ⟨b1, 1, none⟩ = some (.slice A es.length c) := (by rw [ae HS.out.hb 1]; rfl);by_cases hkn : k < es.length
      ·obtain ⟨ad, A1, c1, hA, d0, d1, d2, d3, d4, hc1, Da⟩ := kK HC.out (k : Int) (by omega) (by omega);subst hA;replace d0 := ah HS.out.hB d0; replace d1 := ah HS.out.hB d1; replace d2 := ah HS.out.hB d2; replace d3 := ah HS.out.hB d3; replace d4 := ah HS.out.hB d4;obtain ⟨⟨he0, he1⟩, hte, hle⟩ := jb Q5.out (k : Int) (by omega) (by omega);obtain ⟨hc0, Yr⟩ := nM HCS.out k hkn;have YV := aa.mk (fun h => HR.out.skip (k := k) h);have HST := aa.mk (HR.out.step HCS.out Q5.out hkn);obtain ⟨e, zQ⟩ : ∃ e, aj es (k : Int) = e := ⟨_, rfl⟩;rw [zQ] at d0 d1 d2 d3 d4 hc1 Da he0 he1 hte hle hc0 Yr YV HST;simp only [Int.toNat_natCast] at d0 d1 d2 d3 d4;have hvl : vs.length = n := HR.out.pre.len;have HTR : aa (∀ t, t ∈ e.f1 → 0 ≤ t ∧ t < (vs.length : Int)) := ⟨fun t ht => by rw [hvl]; exact hte t ht⟩;have HTO := aa.mk (nN HR.out.pre.ok HTR.out);have EY := aa.mk Da;obtain ⟨V, hV⟩ : ∃ V, kV vs e = V := ⟨_, rfl⟩;rw [hV] at YV HST;have HV := aa.mk hV;clear zQ Da hte hV HR;go_upto_region 14 with (fail)
       have EB := eX wr (.cells #[.int .i64 e.f0, .slice A1 e.f1.length c1, .int .i64 e.f2, .int .i64 e.f3.f0, .int .i64 e.f3.f1] 54);have Kh := aa.mk (HS.out.below EB.1);have H9A := aa.mk EB.2;obtain ⟨b9, hb9⟩ : ∃ b9, b9 = wr.heap.size := ⟨_, rfl⟩;rw [← hb9] at H9A ⊢;clear hb9 EB HS d0 d1 d2 d3 d4 Ul;generalize (wr.alloc (.cells #[.int .i64 e.f0, .slice A1 e.f1.length c1, .int .i64 e.f2, .int .i64 e.f3.f0, .int .i64 e.f3.f1] 54)) = wA at *;have HSB := aa.mk (Kh.out.below (dM (Below.refl wA.heap.size wA)));have H9 := aa.mk (aC H9A.out (dM (Below.refl wA.heap.size wA)));clear Kh H9A;have h90 : wA.drew.cell? ⟨b9, 0, none⟩ = some (.int .i64 e.f0) := (by rw [ae H9.out 0]; rfl);have h91 : wA.drew.cell? ⟨b9, 1, none⟩ = some (.slice A1 e.f1.length c1) := (by rw [ae H9.out 1]; rfl);have h92 : wA.drew.cell? ⟨b9, 2, none⟩ = some (.int .i64 e.f2) := (by rw [ae H9.out 2]; rfl);have h93 : wA.drew.cell? ⟨b9, 3, none⟩ = some (.int .i64 e.f3.f0) := (by rw [ae H9.out 3]; rfl);have h94 : wA.drew.cell? ⟨b9, 4, none⟩ = some (.int .i64 e.f3.f1) := (by rw [ae H9.out 4]; rfl);obtain ⟨hvn, hcv, TE⟩ := Kd.dD HSB.out.hV;have UW := aa.mk TE;have Gy := aa.mk (Kd.bF EY.out HSB.out.hB);have uz := aa.mk (Below.refl wA.drew.heap.size wA.drew);clear TE hvn EY;refine fu (n := 8) (S := fun w' => w'.cell? ⟨b9, 0, none⟩ = some (.int .i64 e.f0) ∧ w'.cell? ⟨b9, 1, none⟩ = some (.slice A1 e.f1.length c1) ∧ w'.cell? ⟨b9, 2, none⟩ = some (.int .i64 e.f2) ∧ w'.cell? ⟨b9, 3, none⟩ = some (.int .i64 e.f3.f0) ∧ w'.cell? ⟨b9, 4, none⟩ = some (.int .i64 e.f3.f1)) (ds := []) #[false, false, false, false, false, false, false, false] (by kernel_rfl) rfl rfl ⟨h90, h91, h92, h93, h94⟩ (fun hHeld => ?_);refine dw Dc.ad5 Dc.aa0 (fun dA ji => ?_);refine fG (fuel := 4) [(0, 46), (1, 47), (2, 48), (3, 49)] #[true, true, true, true, false, false, false, false] (df dA.out ji.out _ _ _ (by kernel_rfl)) rfl (fun _ _ _ _ _ h => h) hHeld (a' := ?_) ?_ ?_;rotate_left
       ·iterate 4
         refine bC (v := ?_) (a1 := ?_) rfl rfl (Or.inl ⟨by rfl, ?_⟩) ?_ ?_;rotate_left 2
         ·rintro w' ⟨s0, s1, s2, s3, s4⟩;go_simp;with_reducible rfl
         ·simp only [Act.put, List.setIfInBounds_toArray, List.set_cons_zero, List.set_cons_succ, bH, bI];rfl
        exact chain_nil
       clear hHeld h90 h91 h92 h93 h94;generalize wA.drew = wB at *;refine XT (σ := (Option Addr × Nat) × Nat) 1 #[true, true, true, true, true, true, true, false] (fun s => [(50, .slice s.1.1 (tailV vs e.f1).length s.1.2), (51, .agg #[.int .i64 V.f0, .int .i64 V.f1]), (10, .pointer (some ⟨s.2, 0, none⟩))]) (fun s w' => Below wB.heap.size wB w' ∧ w'.heap[s.2]? = some (.cells #[.int .i64 0, .int .i64 0] 34 (0, 0)) ∧ wB.heap.size ≤ s.2) ?hcont (fun hc => ?_);rotate_left;refine z8 (fuel := 3) (i := 4) (j := 6) #[true, true, true, true, true, false, false, false] #[true, true, true, true, false, false, true, false] rfl rfl rfl rfl (nD dA.out (by kernel_rfl)) (by decide) (by decide) (fun K hK => ?_) (fun K hK => ?_)
       ·refine call_ (N := some 50) 63 #[.agg #[.int .i64 e.f0, .slice A1 e.f1.length c1, .int .i64 e.f2, .int .i64 e.f3.f0, .int .i64 e.f3.f1], .slice (some ⟨gv, 0, none⟩) n cv] (by rfl) rfl ?_ ?_
        ·have zQ := kJ Try.func63 (by kernel_rfl) rfl #[.agg #[.int .i64 e.f0, .slice A1 e.f1.length c1, .int .i64 e.f2, .int .i64 e.f3.f0, .int .i64 e.f3.f1], .slice (some ⟨gv, 0, none⟩) n cv] wB;unfold execOp;simp [resolve, Deferred.ofValue, invoke, Act.eval, zQ]
        have ct := bK.calls (e.f1.length + 1) e.f0 A1 c1 e.f1 e.f2 e.f3.f0 e.f3.f1 (some ⟨gv, 0, none⟩) cv vs (tailV vs e.f1) wB (Kd.bF Gy.out uz.out) hc1 (Kd.bF UW.out uz.out) (by rw [hvl]; exact hcv) (yt vs e HTR.out hle);rw [hvl] at ct;refine ct.mono ?_;rintro x5 Gz ⟨v5, rfl, O3, hbw⟩;obtain ⟨A5, c5, rfl, hl5, YW⟩ := Kd.oK O3;have Um := aa.mk YW;clear O3 YW;refine ⟨_, rfl, ?_⟩;have sH := uz; clear uz; have uz := aa.mk (aM sH.out hbw); clear sH hbw;have oD := aC H9.out uz.out;refine hK.out _ _ ⟨(by rw [ae oD 0]; rfl), (by rw [ae oD 1]; rfl), (by rw [ae oD 2]; rfl), (by rw [ae oD 3]; rfl), (by rw [ae oD 4]; rfl)⟩ (fun hHeld => bS (by simp only [Act.put, List.setIfInBounds_toArray, List.set_cons_zero, List.set_cons_succ]; rfl) ?_);clear hK K hHeld oD;refine z8 (fuel := 2) (i := 5) (j := 6) #[true, true, true, true, true, true, false, false] #[true, true, true, true, true, false, true, false] rfl rfl rfl rfl (nD dA.out (by kernel_rfl)) (by decide) (by decide) (fun K hK => ?_) (fun K hK => ?_)
        ·refine call_ (N := some 51) 62 #[.int .i64 e.f2, .slice A5 (tailV vs e.f1).length c5] (by rfl) rfl ?_ ?_
         ·have zQ := kJ Try.func62 (by kernel_rfl) rfl #[.int .i64 e.f2, .slice A5 (tailV vs e.f1).length c5] Gz;unfold execOp;simp [resolve, Deferred.ofValue, invoke, Act.eval, zQ]
         refine (bz.calls ((tailV vs e.f1).length + 1) e.f2 A5 c5 (tailV vs e.f1) (aqp e.f2 (tailV vs e.f1)).f0 (aqp e.f2 (tailV vs e.f1)).f1 Gz Um.out hl5 (mh e.f2 (tailV vs e.f1) (by rw [eY]; exact hle) hc0 Yr HTO.out)).mono ?_;rintro x5 Lp ⟨rfl, hbw⟩;rw [show aqp e.f2 (tailV vs e.f1) = V from HV.out];refine ⟨_, rfl, ?_⟩;have sH := uz; clear uz; have uz := aa.mk (aM sH.out hbw); clear sH hbw;have oD := aC H9.out uz.out;refine hK.out _ _ ⟨(by rw [ae oD 0]; rfl), (by rw [ae oD 1]; rfl), (by rw [ae oD 2]; rfl), (by rw [ae oD 3]; rfl), (by rw [ae oD 4]; rfl)⟩ (fun hHeld => bS (by simp only [Act.put, List.setIfInBounds_toArray, List.set_cons_zero, List.set_cons_succ]; rfl) ?_);clear hK K hHeld oD;refine fT (fuel := 1) (i := 6) #[true, true, true, true, true, true, true, false] rfl rfl (dn dA.out (by kernel_rfl)) (by decide) (fun K hK => ?_)
         ·refine pY (N := some 10) (w1 := Lp.alloc (.cells #[.int .i64 0, .int .i64 0] 34)) (v := .pointer (some ⟨Lp.heap.size, 0, none⟩)) (by rfl) rfl (by first | (go_simp; done) | (go_simp; rfl)) ?_;have hal := eX Lp (.cells #[.int .i64 0, .int .i64 0] 34);obtain ⟨b10, yC⟩ : ∃ b10, b10 = Lp.heap.size := ⟨_, rfl⟩;have hbw := hal.1; have h10 := hal.2;have Ki : wB.heap.size ≤ b10 := (by rw [yC]; exact uz.out.size);rw [← yC] at h10 ⊢;have Qa := aa.mk h10;clear yC hal h10;obtain ⟨amb, YX⟩ : ∃ w6, w6 = (Lp.alloc (.cells #[.int .i64 0, .int .i64 0] 34)) := ⟨_, rfl⟩;rw [← YX] at hbw Qa ⊢;clear YX;have sH := uz; clear uz; have uz := aa.mk (aM sH.out hbw); clear sH hbw;have oD := aC H9.out uz.out;refine hK.out _ _ ⟨(by rw [ae oD 0]; rfl), (by rw [ae oD 1]; rfl), (by rw [ae oD 2]; rfl), (by rw [ae oD 3]; rfl), (by rw [ae oD 4]; rfl)⟩ (fun hHeld => bS (by simp only [Act.put, List.setIfInBounds_toArray, List.set_cons_zero, List.set_cons_succ]; rfl) ?_);clear hK K hHeld oD;exact bS (by simp only [gz, Act.put, List.setIfInBounds_toArray, List.set_cons_zero, List.set_cons_succ]) (hc ((A5, c5), b10) _ ⟨uz.out, Qa.out, Ki⟩)
        ·refine pY (N := some 10) (w1 := Gz.alloc (.cells #[.int .i64 0, .int .i64 0] 34)) (v := .pointer (some ⟨Gz.heap.size, 0, none⟩)) (by rfl) rfl (by first | (go_simp; done) | (go_simp; rfl)) ?_;have hal := eX Gz (.cells #[.int .i64 0, .int .i64 0] 34);obtain ⟨b10, yC⟩ : ∃ b10, b10 = Gz.heap.size := ⟨_, rfl⟩;have hbw := hal.1; have h10 := hal.2;have Ki : wB.heap.size ≤ b10 := (by rw [yC]; exact uz.out.size);rw [← yC] at h10 ⊢;have Qa := aa.mk h10;clear yC hal h10;obtain ⟨YY, YX⟩ : ∃ w6, w6 = (Gz.alloc (.cells #[.int .i64 0, .int .i64 0] 34)) := ⟨_, rfl⟩;rw [← YX] at hbw Qa ⊢;clear YX;replace Um := aa.mk (Kd.bF Um.out hbw);have sH := uz; clear uz; have uz := aa.mk (aM sH.out hbw); clear sH hbw;have oD := aC H9.out uz.out;refine hK.out _ _ ⟨(by rw [ae oD 0]; rfl), (by rw [ae oD 1]; rfl), (by rw [ae oD 2]; rfl), (by rw [ae oD 3]; rfl), (by rw [ae oD 4]; rfl)⟩ (fun hHeld => bS (by simp only [Act.put, List.setIfInBounds_toArray, List.set_cons_zero, List.set_cons_succ]; rfl) ?_);clear hK K hHeld oD;refine fT (fuel := 1) (i := 5) #[true, true, true, true, true, true, true, false] rfl rfl (dn dA.out (by kernel_rfl)) (by decide) (fun K hK => ?_)
         ·refine call_ (N := some 51) 62 #[.int .i64 e.f2, .slice A5 (tailV vs e.f1).length c5] (by rfl) rfl ?_ ?_
          ·have zQ := kJ Try.func62 (by kernel_rfl) rfl #[.int .i64 e.f2, .slice A5 (tailV vs e.f1).length c5] YY;unfold execOp;simp [resolve, Deferred.ofValue, invoke, Act.eval, zQ]
          refine (bz.calls ((tailV vs e.f1).length + 1) e.f2 A5 c5 (tailV vs e.f1) (aqp e.f2 (tailV vs e.f1)).f0 (aqp e.f2 (tailV vs e.f1)).f1 YY Um.out hl5 (mh e.f2 (tailV vs e.f1) (by rw [eY]; exact hle) hc0 Yr HTO.out)).mono ?_;rintro x5 aea ⟨rfl, hbw⟩;rw [show aqp e.f2 (tailV vs e.f1) = V from HV.out];refine ⟨_, rfl, ?_⟩;replace Qa := aa.mk (aC Qa.out hbw);have sH := uz; clear uz; have uz := aa.mk (aM sH.out hbw); clear sH hbw;have oD := aC H9.out uz.out;refine hK.out _ _ ⟨(by rw [ae oD 0]; rfl), (by rw [ae oD 1]; rfl), (by rw [ae oD 2]; rfl), (by rw [ae oD 3]; rfl), (by rw [ae oD 4]; rfl)⟩ (fun hHeld => bS (by simp only [Act.put, List.setIfInBounds_toArray, List.set_cons_zero, List.set_cons_succ]; rfl) ?_);clear hK K hHeld oD;exact bS (by simp only [gz, Act.put, List.setIfInBounds_toArray, List.set_cons_zero, List.set_cons_succ]) (hc ((A5, c5), b10) _ ⟨uz.out, Qa.out, Ki⟩)
       ·refine pY (N := some 10) (w1 := wB.alloc (.cells #[.int .i64 0, .int .i64 0] 34)) (v := .pointer (some ⟨wB.heap.size, 0, none⟩)) (by rfl) rfl (by first | (go_simp; done) | (go_simp; rfl)) ?_;have hal := eX wB (.cells #[.int .i64 0, .int .i64 0] 34);obtain ⟨b10, yC⟩ : ∃ b10, b10 = wB.heap.size := ⟨_, rfl⟩;have hbw := hal.1; have h10 := hal.2;have Ki : wB.heap.size ≤ b10 := (by rw [yC]; exact uz.out.size);rw [← yC] at h10 ⊢;have Qa := aa.mk h10;clear yC hal h10;obtain ⟨YZ, YX⟩ : ∃ w6, w6 = (wB.alloc (.cells #[.int .i64 0, .int .i64 0] 34)) := ⟨_, rfl⟩;rw [← YX] at hbw Qa ⊢;clear YX;have sH := uz; clear uz; have uz := aa.mk (aM sH.out hbw); clear sH hbw;have oD := aC H9.out uz.out;refine hK.out _ _ ⟨(by rw [ae oD 0]; rfl), (by rw [ae oD 1]; rfl), (by rw [ae oD 2]; rfl), (by rw [ae oD 3]; rfl), (by rw [ae oD 4]; rfl)⟩ (fun hHeld => bS (by simp only [Act.put, List.setIfInBounds_toArray, List.set_cons_zero, List.set_cons_succ]; rfl) ?_);clear hK K hHeld oD;refine fT (fuel := 2) (i := 4) #[true, true, true, true, true, false, true, false] rfl rfl (dn dA.out (by kernel_rfl)) (by decide) (fun K hK => ?_)
        ·refine call_ (N := some 50) 63 #[.agg #[.int .i64 e.f0, .slice A1 e.f1.length c1, .int .i64 e.f2, .int .i64 e.f3.f0, .int .i64 e.f3.f1], .slice (some ⟨gv, 0, none⟩) n cv] (by rfl) rfl ?_ ?_
         ·have zQ := kJ Try.func63 (by kernel_rfl) rfl #[.agg #[.int .i64 e.f0, .slice A1 e.f1.length c1, .int .i64 e.f2, .int .i64 e.f3.f0, .int .i64 e.f3.f1], .slice (some ⟨gv, 0, none⟩) n cv] YZ;unfold execOp;simp [resolve, Deferred.ofValue, invoke, Act.eval, zQ]
         have ct := bK.calls (e.f1.length + 1) e.f0 A1 c1 e.f1 e.f2 e.f3.f0 e.f3.f1 (some ⟨gv, 0, none⟩) cv vs (tailV vs e.f1) YZ (Kd.bF Gy.out uz.out) hc1 (Kd.bF UW.out uz.out) (by rw [hvl]; exact hcv) (yt vs e HTR.out hle);rw [hvl] at ct;refine ct.mono ?_;rintro x5 Y0 ⟨v5, rfl, O3, hbw⟩;obtain ⟨A5, c5, rfl, hl5, YW⟩ := Kd.oK O3;have Um := aa.mk YW;clear O3 YW;refine ⟨_, rfl, ?_⟩;replace Qa := aa.mk (aC Qa.out hbw);have sH := uz; clear uz; have uz := aa.mk (aM sH.out hbw); clear sH hbw;have oD := aC H9.out uz.out;refine hK.out _ _ ⟨(by rw [ae oD 0]; rfl), (by rw [ae oD 1]; rfl), (by rw [ae oD 2]; rfl), (by rw [ae oD 3]; rfl), (by rw [ae oD 4]; rfl)⟩ (fun hHeld => bS (by simp only [Act.put, List.setIfInBounds_toArray, List.set_cons_zero, List.set_cons_succ]; rfl) ?_);clear hK K hHeld oD;refine fT (fuel := 1) (i := 5) #[true, true, true, true, true, true, true, false] rfl rfl (dn dA.out (by kernel_rfl)) (by decide) (fun K hK => ?_)
         ·refine call_ (N := some 51) 62 #[.int .i64 e.f2, .slice A5 (tailV vs e.f1).length c5] (by rfl) rfl ?_ ?_
          ·have zQ := kJ Try.func62 (by kernel_rfl) rfl #[.int .i64 e.f2, .slice A5 (tailV vs e.f1).length c5] Y0;unfold execOp;simp [resolve, Deferred.ofValue, invoke, Act.eval, zQ]
          refine (bz.calls ((tailV vs e.f1).length + 1) e.f2 A5 c5 (tailV vs e.f1) (aqp e.f2 (tailV vs e.f1)).f0 (aqp e.f2 (tailV vs e.f1)).f1 Y0 Um.out hl5 (mh e.f2 (tailV vs e.f1) (by rw [eY]; exact hle) hc0 Yr HTO.out)).mono ?_;rintro x5 aea ⟨rfl, hbw⟩;rw [show aqp e.f2 (tailV vs e.f1) = V from HV.out];refine ⟨_, rfl, ?_⟩;replace Qa := aa.mk (aC Qa.out hbw);have sH := uz; clear uz; have uz := aa.mk (aM sH.out hbw); clear sH hbw;have oD := aC H9.out uz.out;refine hK.out _ _ ⟨(by rw [ae oD 0]; rfl), (by rw [ae oD 1]; rfl), (by rw [ae oD 2]; rfl), (by rw [ae oD 3]; rfl), (by rw [ae oD 4]; rfl)⟩ (fun hHeld => bS (by simp only [Act.put, List.setIfInBounds_toArray, List.set_cons_zero, List.set_cons_succ]; rfl) ?_);clear hK K hHeld oD;exact bS (by simp only [gz, Act.put, List.setIfInBounds_toArray, List.set_cons_zero, List.set_cons_succ]) (hc ((A5, c5), b10) _ ⟨uz.out, Qa.out, Ki⟩)
       rintro ⟨⟨A5, c5⟩, b10⟩ wC ⟨hBW, h10, Ki⟩;refine bS (a' := ?_) ?_ ?_;rotate_left
       ·simp only [gz, Act.put, List.setIfInBounds_toArray, List.set_cons_zero, List.set_cons_succ];rfl
       have aiW : wC.cell? ⟨b10, 0, none⟩ = some (.int .i64 0) := (by rw [ae h10 0]; rfl);have aiX : wC.cell? ⟨b10, 1, none⟩ = some (.int .i64 0) := (by rw [ae h10 1]; rfl);have f100 := ai h10 0;have f101 := ai h10 1;obtain ⟨wD, hwD⟩ : ∃ wD, wD = (wC.setCell ⟨b10, 0, none⟩ (.int .i64 V.f0)).setCell ⟨b10, 1, none⟩ (.int .i64 V.f1) := ⟨_, rfl⟩;have hBD : Below wB.heap.size wB wD := (by rw [hwD]; exact (hBW.setCell Ki _).setCell Ki _);have h9D := aC H9.out hBD;have aeb : wD.heap[b10]? = some (.cells #[.int .i64 V.f0, .int .i64 V.f1] 34 (0, 0)) := (by rw [hwD]; simpa using gL (gL h10 0 (.int .i64 V.f0)) 1 (.int .i64 V.f1));have RZ := aa.mk (HSB.out.below hBD);have H9D := aa.mk h9D;have aec := aa.mk aeb;clear uz;refine fT (i := 7) (N := none) #[true, true, true, true, true, true, true, true] rfl rfl (dn dA.out (by kernel_rfl)) (by decide) (fun K hK => ?_);refine rV (w1 := wD) (by rfl) rfl ?_ ?_
       ·rw [hwD];first | (go_simp; done) | (go_simp; rfl)
       refine hK.out _ _ ⟨(by rw [ae h9D 0]; rfl), (by rw [ae h9D 1]; rfl), (by rw [ae h9D 2]; rfl), (by rw [ae h9D 3]; rfl), (by rw [ae h9D 4]; rfl)⟩ (fun hHeld => ?_);clear hK K hHeld;refine gH (dV dA.out (by kernel_rfl)) ?_;clear hwD hBD h9D aeb aiW aiX f100 f101 h10 hBW Ki;have hd := dM (Below.refl wD.heap.size wD);have R3 := aa.mk (RZ.out.below hd);have H9E := aa.mk (aC H9D.out hd);have WQ := aa.mk (aC aec.out hd);obtain ⟨g20, g21, _, _⟩ := ng R3.out.hV e.f0 he0 (by show e.f0 < (n : Int); exact he1);obtain ⟨y, hy⟩ : ∃ y, bJ vs e.f0 = y := ⟨_, rfl⟩;rw [hy] at g20 g21 YV HST;have HY := aa.mk hy;have h90 : wD.drew.cell? ⟨b9, 0, none⟩ = some (.int .i64 e.f0) := (by rw [ae H9E.out 0]; rfl);have WR : wD.drew.cell? ⟨b10, 0, none⟩ = some (.int .i64 V.f0) := (by rw [ae WQ.out 0]; rfl);have WS : wD.drew.cell? ⟨b10, 1, none⟩ = some (.int .i64 V.f1) := (by rw [ae WQ.out 1]; rfl);clear hd hy RZ H9D aec HSB H9;go_upto_region 15 with (fail)
       refine fu (n := 7) (S := fun w' => w'.cell? ⟨b10, 0, none⟩ = some (.int .i64 V.f0) ∧ w'.cell? ⟨b10, 1, none⟩ = some (.int .i64 V.f1) ∧ w'.cell? ⟨b9, 0, none⟩ = some (.int .i64 e.f0) ∧ w'.cell? ⟨gv, e.f0.toNat * 2, none⟩ = some (.int .i64 y.f0) ∧ w'.cell? ⟨gv, e.f0.toNat * 2 + 1, none⟩ = some (.int .i64 y.f1)) (ds := []) #[false, false, false, false, false, false, false] (by kernel_rfl) rfl rfl ⟨WR, WS, h90, g20, g21⟩ (fun hHeld => ?_);refine dw Dc.ad6 Dc.aa1 (fun dA ji => ?_);refine fG (fuel := 1) [(0, 52), (1, 53), (2, 54), (3, 55), (4, 56), (5, 57)] #[true, true, true, true, true, true, false] (df dA.out ji.out _ _ _ (by kernel_rfl)) rfl (fun _ _ _ _ _ h => h) hHeld (a' := ?_) ?_ ?_;rotate_left
       ·iterate 6
         refine bC (v := ?_) (a1 := ?_) rfl rfl (Or.inl ⟨by rfl, ?_⟩) ?_ ?_;rotate_left 2
         ·rintro w' ⟨s0, s1, s2, s3, s4⟩;go_simp;with_reducible rfl
         ·simp only [Act.put, List.setIfInBounds_toArray, List.set_cons_zero, List.set_cons_succ, bH, bI];rfl
        exact chain_nil
       refine fT (i := 6) (N := some 58) #[true, true, true, true, true, true, true] rfl rfl (dn dA.out (by kernel_rfl)) (by decide) (fun K hK => ?_);refine call_ 60 #[.agg #[.int .i64 V.f0, .int .i64 V.f1], .agg #[.int .i64 y.f0, .int .i64 y.f1]] (by rfl) rfl ?_ ?_
       ·have zQ := kJ Try.func60 (by kernel_rfl) rfl #[.agg #[.int .i64 V.f0, .int .i64 V.f1], .agg #[.int .i64 y.f0, .int .i64 y.f1]] wD.drew;unfold execOp;simp [resolve, Deferred.ofValue, invoke, Act.eval, zQ]
       refine (jA.calls V.f0 V.f1 y.f0 y.f1 (pW V y) wD.drew (M5 V y)).mono ?_;rintro x7 w7 ⟨rfl, YU⟩;have Co := aa.mk YU;clear YU;refine ⟨_, rfl, ?_⟩;refine hK.out _ _ ⟨ah Co.out WR, ah Co.out WS, ah Co.out h90, ah Co.out g20, ah Co.out g21⟩ (fun hHeld => ?_);clear hK K;refine bS (a' := ?_) ?_ ?_;rotate_left
       ·show Act.put _ (some 58) _ = _;simp only [Act.put, List.setIfInBounds_toArray, List.set_cons_zero, List.set_cons_succ, bH, bI];rfl
       refine gH (dV dA.out (by kernel_rfl)) ?_;clear h90 WR WS g20 g21 hHeld;have Mi := aa.mk (R3.out.below Co.out);have H97 := aa.mk (aC H9E.out Co.out);have aed := aa.mk (aC WQ.out Co.out);clear R3 H9E WQ Co;obtain ⟨bl, hbl⟩ : ∃ bl, pW V y = bl := ⟨_, rfl⟩;rw [hbl];have HBL := aa.mk hbl;clear hbl
       cases bl with
       | false =>
        go_wp2_with fail
        go_roundg (es.length - k)
        case measure => have := hg.out; omega
        case rel => exact ⟨k + 1, mo, vs, rfl, by go_num, ⟨by omega⟩, ⟨by omega⟩, ⟨YV.out HBL.out⟩, Mi⟩
       | true =>
        have h90 : w7.cell? ⟨b9, 0, none⟩ = some (.int .i64 e.f0) := (by rw [ae H97.out 0]; rfl);have WR : w7.cell? ⟨b10, 0, none⟩ = some (.int .i64 V.f0) := (by rw [ae aed.out 0]; rfl);have WS : w7.cell? ⟨b10, 1, none⟩ = some (.int .i64 V.f1) := (by rw [ae aed.out 1]; rfl);obtain ⟨g20, g21, gf0, gf1⟩ := ng Mi.out.hV e.f0 he0 (by show e.f0 < (n : Int); exact he1);have hst := at1 Mi.out.hV e.f0 he0 (by show e.f0 < (n : Int); exact he1) V;have HS8 := aa.mk (Mi.out.TC hst.1 hst.2);clear hst;go_wp2_with fail
        go_roundg (es.length - k)
        case measure => have := hg.out; omega
        case rel => exact ⟨k + 1, true, vs.set e.f0.toNat V, rfl, by go_num, ⟨by omega⟩, ⟨by omega⟩, ⟨HST.out HBL.out⟩, HS8⟩
      ·obtain rfl : k = es.length := by have := hk.out; omega
       have hkk : ¬ ((es.length : Int) < (es.length : Int)) := by omega
       have hms : mV vs + (if mo then 2 else 1) ≤ g1 := by
        cases mo with
        | true => have := HR.out.yes rfl; simp; omega
        | false => have := (HR.out.no rfl).1; subst this; simp; omega
       go_wp2_with fail
       go_roundg g1
       case measure => omega
       case rel => exact ⟨mo, vs, rfl, ⟨HR.out.pre⟩, ⟨fun h => by subst h; exact HR.out.UZ⟩, ⟨hms⟩, HS⟩
    | false =>
     have HSO := aa.mk (aa3.out rfl);clear aa3 HG;have Ul : wr.cell? ⟨b1, 1, none⟩ = some (.slice A es.length c) := (by rw [ae HS.out.hb 1]; rfl);have HD0 : aa (Down n es vs es.length ed0) := ⟨by rw [← aiU.out]; exact Down.init n es vs⟩;have WO := HS;clear HS HP;obtain ⟨wP, Tx⟩ : ∃ wP : World, wP = wr := ⟨_, rfl⟩;obtain ⟨gP, hgP⟩ : ∃ gP : Nat, gP = gk := ⟨_, rfl⟩;go_wp2_with fail
     go_loopg [11] (es.length + 1) (fun g v11 wr => ∃ (i : Nat) (ed : List Int), v11 = .int .i64 ((i : Int) - 1) ∧ aa (i ≤ es.length) ∧ aa (i < g) ∧ aa (Down n es vs i ed) ∧ aa (RS (⟨w, b1, n, A, es.length, c, gv, cv, ge, ce⟩ : RC) wr vs ed))
     case atStart => exact ⟨es.length, ed0, by go_num, ⟨by omega⟩, ⟨by omega⟩, HD0, WO⟩
     case round =>
      obtain ⟨i, ed, rfl, hi, hg, HD, HS⟩ := hrel;clear HD0 WO Ul Tx hgP
      cases i with
      | zero =>
       have hneg : ¬ (0 : Int) ≤ -1 := by decide
       obtain ⟨h1, h2⟩ := VQ HCS.out Q5.out HT.out he HSO.out HD.out;have h9 := HS.out;rw [h1, h2] at h9;have H9 := aa.mk h9;clear h1 h2 h9;simp only [Int.natCast_zero, Int.zero_sub, Int.ofNat_zero];go_wp2_with fail
       go_ret2
       exact ⟨_, _, rfl, H9.out.hV, H9.out.hE, H9.out.hB⟩
      | succ j =>
       rw [show (((j + 1 : Nat) : Int) - 1) = (j : Int) by omega];have hjn : j < es.length := by have := hi.out; omega
       have Ul : wr.cell? ⟨b1, 1, none⟩ = some (.slice A es.length c) := (by rw [ae HS.out.hb 1]; rfl);obtain ⟨ad, A1, c1, hA, d0, d1, d2, d3, d4, hc1, Da⟩ := kK HC.out (j : Int) (by omega) (by omega);subst hA;replace d0 := ah HS.out.hB d0; replace d1 := ah HS.out.hB d1; replace d2 := ah HS.out.hB d2; replace d3 := ah HS.out.hB d3; replace d4 := ah HS.out.hB d4;obtain ⟨⟨he0, he1⟩, hte, hle⟩ := jb Q5.out (j : Int) (by omega) (by omega);obtain ⟨hc0, Yr⟩ := nM HCS.out j hjn;have YV := aa.mk (fun h => HD.out.skip h);have HST := aa.mk (fun h => HD.out.step Q5.out hjn h);have HTI : aa (aKR es vs j (aj es (j : Int)).f0 ↔ (bJ vs (aj es (j : Int)).f0).f0 < 1099511627776 ∧ kV vs (aj es (j : Int)) = bJ vs (aj es (j : Int)).f0) := ⟨⟨fun h => h.2, fun h => ⟨rfl, h⟩⟩⟩;obtain ⟨e, zQ⟩ : ∃ e, aj es (j : Int) = e := ⟨_, rfl⟩;rw [zQ] at d0 d1 d2 d3 d4 hc1 Da he0 he1 hte hle hc0 Yr YV HST HTI;simp only [Int.toNat_natCast] at d0 d1 d2 d3 d4;have hvl : vs.length = n := HSO.out.len;have HTR : aa (∀ t, t ∈ e.f1 → 0 ≤ t ∧ t < (vs.length : Int)) := ⟨fun t ht => by rw [hvl]; exact hte t ht⟩;have HTO := aa.mk (nN HSO.out.ok HTR.out);have EY := aa.mk Da;obtain ⟨V, hV⟩ : ∃ V, kV vs e = V := ⟨_, rfl⟩;obtain ⟨y, hy⟩ : ∃ y, bJ vs e.f0 = y := ⟨_, rfl⟩;rw [hV, hy] at HTI;have HV := aa.mk hV;have HY := aa.mk hy;clear zQ Da hte hV hy;go_upto_region 22 with (fail)
       have EB := eX wr (.cells #[.int .i64 e.f0, .slice A1 e.f1.length c1, .int .i64 e.f2, .int .i64 e.f3.f0, .int .i64 e.f3.f1] 54);have Kh := aa.mk (HS.out.below EB.1);have WT := aa.mk EB.2;obtain ⟨b12, aeg⟩ : ∃ b12, b12 = wr.heap.size := ⟨_, rfl⟩;rw [← aeg] at WT ⊢;clear aeg EB HS d0 d1 d2 d3 d4 Ul;generalize (wr.alloc (.cells #[.int .i64 e.f0, .slice A1 e.f1.length c1, .int .i64 e.f2, .int .i64 e.f3.f0, .int .i64 e.f3.f1] 54)) = wA at *;obtain ⟨g20, g21, _, _⟩ := ng Kh.out.hV e.f0 he0 (by show e.f0 < (n : Int); exact he1);rw [HY.out] at g20 g21;have Nz : wA.cell? ⟨b12, 0, none⟩ = some (.int .i64 e.f0) := (by rw [ae WT.out 0]; rfl);go_upto_region 23 with (fail)
       have EB := eX wA (.cells #[.int .i64 y.f0, .int .i64 y.f1] 34);have HSB := aa.mk (Kh.out.below EB.1);have aeh := aa.mk (aC WT.out EB.1);have aa7 := aa.mk EB.2;obtain ⟨b13, Un⟩ : ∃ b13, b13 = wA.heap.size := ⟨_, rfl⟩;rw [← Un] at aa7 ⊢;clear Un EB Kh WT Nz g20 g21;generalize (wA.alloc (.cells #[.int .i64 y.f0, .int .i64 y.f1] 34)) = wD at *;have hd := dM (Below.refl wD.heap.size wD);have R3 := aa.mk (HSB.out.below hd);have Y1 := aa.mk (aC aeh.out hd);have Y2 := aa.mk (aC aa7.out hd);have Kj : wD.drew.cell? ⟨b13, 0, none⟩ = some (.int .i64 y.f0) := (by rw [ae Y2.out 0]; rfl);clear hd HSB aeh aa7;by_cases hyf : y.f0 < 1099511627776
       ·have WU : wD.drew.cell? ⟨b13, 1, none⟩ = some (.int .i64 y.f1) := (by rw [ae Y2.out 1]; rfl);have Nz : wD.drew.cell? ⟨b12, 0, none⟩ = some (.int .i64 e.f0) := (by rw [ae Y1.out 0]; rfl);have WV : wD.drew.cell? ⟨b12, 1, none⟩ = some (.slice A1 e.f1.length c1) := (by rw [ae Y1.out 1]; rfl);have h122 : wD.drew.cell? ⟨b12, 2, none⟩ = some (.int .i64 e.f2) := (by rw [ae Y1.out 2]; rfl);have WW : wD.drew.cell? ⟨b12, 3, none⟩ = some (.int .i64 e.f3.f0) := (by rw [ae Y1.out 3]; rfl);have WX : wD.drew.cell? ⟨b12, 4, none⟩ = some (.int .i64 e.f3.f1) := (by rw [ae Y1.out 4]; rfl);obtain ⟨hvn, hcv, TE⟩ := Kd.dD R3.out.hV;have UW := aa.mk TE;have Gy := aa.mk (Kd.bF EY.out R3.out.hB);clear TE hvn EY;refine fu (n := 13) (S := fun w' => w'.cell? ⟨b13, 0, none⟩ = some (.int .i64 y.f0) ∧ w'.cell? ⟨b13, 1, none⟩ = some (.int .i64 y.f1) ∧ w'.cell? ⟨b12, 0, none⟩ = some (.int .i64 e.f0) ∧ w'.cell? ⟨b12, 1, none⟩ = some (.slice A1 e.f1.length c1) ∧ w'.cell? ⟨b12, 2, none⟩ = some (.int .i64 e.f2) ∧ w'.cell? ⟨b12, 3, none⟩ = some (.int .i64 e.f3.f0) ∧ w'.cell? ⟨b12, 4, none⟩ = some (.int .i64 e.f3.f1)) (ds := []) #[false, false, false, false, false, false, false, false, false, false, false, false, false] (by kernel_rfl) rfl rfl ⟨Kj, WU, Nz, WV, h122, WW, WX⟩ (fun hHeld => ?_);refine dw Dc.YS Dc.Uk (fun dA ji => ?_);refine fG (fuel := 4) [(0, 82), (1, 83), (2, 84), (3, 85), (4, 86), (5, 87), (6, 88), (7, 89), (10, 92)] #[true, true, true, true, true, true, true, true, false, false, true, false, false] (df dA.out ji.out _ _ _ (by kernel_rfl)) rfl (fun _ _ _ _ _ h => h) hHeld (a' := ?_) ?_ ?_;rotate_left
        ·iterate 9
          refine bC (v := ?_) (a1 := ?_) rfl rfl (Or.inl ⟨by rfl, ?_⟩) ?_ ?_;rotate_left 2
          ·rintro w' ⟨s0, s1, s2, s3, s4, s5, s6⟩
           (go_simp; try rw [E8])
           try with_reducible rfl
          ·simp only [Act.put, List.setIfInBounds_toArray, List.set_cons_zero, List.set_cons_succ, bH, bI];rfl
         exact chain_nil
        refine fT (i := 8) (N := some 90) #[true, true, true, true, true, true, true, true, true, false, true, false, false] rfl rfl (dn dA.out (by kernel_rfl)) (by decide) (fun K hK => ?_);have ct := bK.calls (e.f1.length + 1) e.f0 A1 c1 e.f1 e.f2 e.f3.f0 e.f3.f1 (some ⟨gv, 0, none⟩) cv vs (tailV vs e.f1) wD.drew Gy.out hc1 UW.out (by rw [hvl]; exact hcv) (yt vs e HTR.out hle);rw [hvl] at ct;refine call_ 63 #[.agg #[.int .i64 e.f0, .slice A1 e.f1.length c1, .int .i64 e.f2, .int .i64 e.f3.f0, .int .i64 e.f3.f1], .slice (some ⟨gv, 0, none⟩) n cv] (by rfl) rfl ?_ ?_
        ·have zQ := kJ Try.func63 (by kernel_rfl) rfl #[.agg #[.int .i64 e.f0, .slice A1 e.f1.length c1, .int .i64 e.f2, .int .i64 e.f3.f0, .int .i64 e.f3.f1], .slice (some ⟨gv, 0, none⟩) n cv] wD.drew;unfold execOp;simp [resolve, Deferred.ofValue, invoke, Act.eval, zQ]
        refine (ct).mono ?_;rintro x5 w5 ⟨v5, rfl, O3, Db⟩;obtain ⟨A5, c5, rfl, hl5, YW⟩ := Kd.oK O3;have Um := aa.mk YW;have vY := aa.mk Db;clear O3 YW Db;refine ⟨_, rfl, ?_⟩;refine hK.out _ _ ⟨ah vY.out Kj, ah vY.out WU, ah vY.out Nz, ah vY.out WV, ah vY.out h122, ah vY.out WW, ah vY.out WX⟩ (fun hHeld => ?_);clear hK K;refine bS (a' := ?_) ?_ ?_;rotate_left
        ·show Act.put _ (some 90) _ = _;simp only [Act.put, List.setIfInBounds_toArray, List.set_cons_zero, List.set_cons_succ, bH, bI];rfl
        refine fT (i := 9) (N := some 91) #[true, true, true, true, true, true, true, true, true, true, true, false, false] rfl rfl (dn dA.out (by kernel_rfl)) (by decide) (fun K hK => ?_);refine call_ 62 #[.int .i64 e.f2, .slice A5 (tailV vs e.f1).length c5] (by rfl) rfl ?_ ?_
        ·have zQ := kJ Try.func62 (by kernel_rfl) rfl #[.int .i64 e.f2, .slice A5 (tailV vs e.f1).length c5] w5;unfold execOp;simp [resolve, Deferred.ofValue, invoke, Act.eval, zQ]
        refine (bz.calls ((tailV vs e.f1).length + 1) e.f2 A5 c5 (tailV vs e.f1) (aqp e.f2 (tailV vs e.f1)).f0 (aqp e.f2 (tailV vs e.f1)).f1 w5 Um.out hl5 (mh e.f2 (tailV vs e.f1) (by rw [eY]; exact hle) hc0 Yr HTO.out)).mono ?_;rintro x6 w6 ⟨rfl, YT⟩;have Gp := aa.mk (aM vY.out YT);rw [show aqp e.f2 (tailV vs e.f1) = V from HV.out];clear YT;refine ⟨_, rfl, ?_⟩;refine hK.out _ _ ⟨ah Gp.out Kj, ah Gp.out WU, ah Gp.out Nz, ah Gp.out WV, ah Gp.out h122, ah Gp.out WW, ah Gp.out WX⟩ (fun hHeld => ?_);clear hK K;refine bS (a' := ?_) ?_ ?_;rotate_left
        ·show Act.put _ (some 91) _ = _;simp only [Act.put, List.setIfInBounds_toArray, List.set_cons_zero, List.set_cons_succ, bH, bI];rfl
        refine fG (fuel := 0) [(11, 93), (12, 94)] #[true, true, true, true, true, true, true, true, true, true, true, true, true] (df dA.out ji.out _ _ _ (by kernel_rfl)) rfl (fun _ _ _ _ _ h => h) hHeld (a' := ?_) ?_ ?_;rotate_left
        ·iterate 2
          refine bC (v := ?_) (a1 := ?_) rfl rfl (Or.inl ⟨by rfl, ?_⟩) ?_ ?_;rotate_left 2
          ·rintro w' ⟨s0, s1, s2, s3, s4, s5, s6⟩
           (go_simp; try rw [E8])
           try with_reducible rfl
          ·simp only [Act.put, List.setIfInBounds_toArray, List.set_cons_zero, List.set_cons_succ, bH, bI];rfl
         exact chain_nil
        refine gH (dV dA.out (by kernel_rfl)) ?_;clear Kj WU Nz WV h122 WW WX hHeld;have Mi := aa.mk (R3.out.below Gp.out);have ai0 := aa.mk (aC Y1.out Gp.out);obtain ⟨bq, hbq⟩ : ∃ bq, eqV V y = bq := ⟨_, rfl⟩;rw [hbq];have HBQ := aa.mk hbq;clear hbq R3 Y1 Y2 Gp vY
        cases bq with
        | false =>
         go_wp2_with fail
         go_roundg (j + 1)
         case measure => have := hg.out; omega
         case rel => exact ⟨j, ed, by go_num, ⟨by omega⟩, ⟨by omega⟩, ⟨YV.out (fun h => by have h2 := (HTI.out.1 h).2; rw [(E5 V y).2 h2] at HBQ; exact absurd HBQ.out (by decide))⟩, Mi⟩
        | true =>
         have Nz : w6.cell? ⟨b12, 0, none⟩ = some (.int .i64 e.f0) := (by rw [ae ai0.out 0]; rfl);obtain ⟨g5, g5f⟩ := jk Mi.out.hE 0 e.f0 he0 (by show e.f0 < (n : Int); exact he1);have hpe := Kd.zG Mi.out.hE e.f0 (j : Int);have HS8 := aa.mk (Mi.out.TD hpe.1 hpe.2);clear hpe;go_wp2_with fail
         go_roundg (j + 1)
         case measure => have := hg.out; omega
         case rel => exact ⟨j, ed.set e.f0.toNat (j : Int), by go_num, ⟨by omega⟩, ⟨by omega⟩, ⟨HST.out (HTI.out.2 ⟨hyf, (E5 V y).1 HBQ.out⟩)⟩, HS8⟩
       ·clear Y1 Y2;refine fu (n := 13) (S := fun w' => w'.cell? ⟨b13, 0, none⟩ = some (.int .i64 y.f0)) (ds := []) #[false, false, false, false, false, false, false, false, false, false, false, false, false] (by kernel_rfl) rfl rfl Kj (fun hHeld => ?_);refine dw Dc.YS Dc.Uk (fun dA ji => ?_);refine fG (fuel := 0) [(0, 82), (1, 83), (2, 84), (3, 85), (4, 86), (5, 87), (6, 88), (7, 89), (8, 90), (9, 91), (10, 92), (11, 93), (12, 94)] #[true, true, true, true, true, true, true, true, true, true, true, true, true] (df dA.out ji.out _ _ _ (by kernel_rfl)) rfl (fun _ _ _ _ _ h => h) hHeld (a' := ?_) ?_ ?_;rotate_left
        ·iterate 4
          refine bC (v := ?_) (a1 := ?_) rfl rfl (Or.inl ⟨by rfl, ?_⟩) ?_ ?_;rotate_left 2
          ·intro w' s0;go_simp;with_reducible rfl
          ·simp only [Act.put, List.setIfInBounds_toArray, List.set_cons_zero, List.set_cons_succ, bH, bI];rfl
         iterate 8
          refine jQ (a1 := ?_) rfl rfl (by rfl) ?_ ?_;rotate_left
          ·simp only [Act.put, List.setIfInBounds_toArray, List.set_cons_zero, List.set_cons_succ];rfl
         iterate 1
          refine bC (v := ?_) (a1 := ?_) rfl rfl (Or.inl ⟨by rfl, ?_⟩) ?_ ?_;rotate_left 2
          ·intro w' s0;go_simp;with_reducible rfl
          ·simp only [Act.put, List.setIfInBounds_toArray, List.set_cons_zero, List.set_cons_succ, bH, bI];rfl
         exact chain_nil
        refine gH (dV dA.out (by kernel_rfl)) ?_;clear Kj hHeld;go_wp2_with fail
        go_roundg (j + 1)
        case measure => have := hg.out; omega
        case rel => exact ⟨j, ed, by go_num, ⟨by omega⟩, ⟨by omega⟩, ⟨YV.out (fun h => by have h2 := (HTI.out.1 h).1; omega)⟩, R3⟩
def GA (n : Int) (es : List dO) : Bool := (decide (0 ≤ n) && (decide (n ≤ 1000) && (decide (es.length ≤ 1000) && es.all (fun e => (decide (0 ≤ e.f0) && decide (e.f0 < n)) && (e.f1.all (fun t => decide (0 ≤ t) && decide (t < n)) && decide (e.f1.length ≤ 100)))))) && es.all (fun e => decide (0 ≤ e.f2) && decide (e.f2 ≤ 1099511627776))
def eQ.f (n : Int) (es : List dO) : Option (List dK × List Int) := if GA n es = true then some (jy n.toNat es, xL n.toNat es) else none
theorem IV (n : Int) (es : List dO) : GA n es = true ↔ (0 ≤ n ∧ n ≤ 1000 ∧ es.length ≤ 1000 ∧ ∀ e, e ∈ es → (0 ≤ e.f0 ∧ e.f0 < n) ∧ (∀ t, t ∈ e.f1 → 0 ≤ t ∧ t < n) ∧ e.f1.length ≤ 100) ∧ ∀ e, e ∈ es → 0 ≤ e.f2 ∧ e.f2 ≤ 1099511627776 := by
 simp only [GA, Bool.and_eq_true, decide_eq_true_eq, List.all_eq_true]
theorem eQ.calls (n : Int) (A : Option Addr) (c : Nat) (es : List dO) (r1 : List dK) (r2 : List Int) (w : World) (hC : Kd.C sJ w A es.length es) (hc : es.length ≤ c) (h : eQ.f n es = some (r1, r2)) :
  Calls Try.prog 38 #[.agg #[.int .i64 n, .slice A es.length c]] w fun e w' => ∃ Pk EF, e = .returned (.tuple #[Pk, EF]) ∧ Kd.R xA 34 w' w.heap.size (fun _ => True) Pk r1 ∧ Kd.R (Kd.int .i64) 3 w' w.heap.size (fun _ => True) EF r2 ∧ Below w.heap.size w w' := by
 unfold eQ.f at h;split at h
 case isFalse => cases h
 rename_i hok
 injection h with h
 injection h with h1 h2
 subst h1 h2;obtain ⟨⟨h0, h1, h2, h3⟩, h4⟩ := (IV n es).1 hok;obtain ⟨m, rfl⟩ : ∃ m : Nat, n = (m : Int) := ⟨n.toNat, by omega⟩;rw [Int.toNat_natCast];exact Rp m A c es w hC (by omega) h2 (fun e he => ⟨(h3 e he).1, (h3 e he).2.1, by have := (h3 e he).2.2; omega⟩) h4 (fun e he => (h3 e he).2.2)
end Go.Proofs.Ytamimodkcbbpmaa.Pr
end
section
namespace Go.Proofs.Ytamimodkcbbpmaa.Pr
open Go.RowKit Go.Proofs.YtamimodkcbbpmaaW.PrintWords Go.Proofs.YtamimodkcbbpmaaW.PrintLast Go.Proofs.YtamimodkcbbpmaaW.PrintMore Go.Proofs.YtamimodkcbbpmaaXW
attribute [local go_sem] aFh ky lX lY jf jg kz kC
set_option linter.unusedVariables false
set_option linter.unusedSimpArgs false
def H5.j0 : Nat → List Int → Bool → Int → Int → Int → List (KH) → Option ((List (dK)))
 | 0, _, _, _, _, _, _ => none
 | k + 1, x1, x15, aAf, aAg, aAh, aAi => if x15 = true then (some ([] : List (dK))) else ((x9.f k aAf aAg aAh aAi x1).bind fun atL => ((eQ.f atL.1 atL.2).bind fun aui => (some aui.1)))
def H5.f (k : Nat) (aR : Int) (iR : Int) (vX : Int) (kv : List (KH)) (l1 : List Int) : Option ((List (dK))) := (rX.f k aR iR vX kv).bind fun avA => (if avA = true then ((aqe.f k aR iR vX kv l1).bind fun atM => (H5.j0 k l1 (!atM) aR iR vX kv)) else (H5.j0 k l1 true aR iR vX kv))
theorem H5.apw : ∀ k, (∀ y0 y1 y2 y3 y4 y5, dz (H5.j0 k y0 y1 y2 y3 y4 y5) (H5.j0 (k + 1) y0 y1 y2 y3 y4 y5))
 | 0 => fun _ _ _ _ _ _ r h => by simp [H5.j0] at h
 | k + 1 => by
  have jP := H5.apw k
  ·intro y0 y1 y2 y3 y4 y5;unfold H5.j0;repeat' first
   | (with_reducible exact jP _ _ _ _ _ _)
   | (with_reducible exact rX.mono _ _ _ _ _)
   | (with_reducible exact x9.mono _ _ _ _ _ _)
   | (with_reducible exact aqe.mono _ _ _ _ _ _)
   | (with_reducible exact dz.refl _)
   | (with_reducible exact dz.none _)
   | (with_reducible refine dz.ite ?_ ?_)
   | (with_reducible refine dz.bind ?_ (fun _ => ?_))
   | exact jP _ _ _ _ _ _
   | exact rX.mono _ _ _ _ _
   | exact x9.mono _ _ _ _ _ _
   | exact aqe.mono _ _ _ _ _ _
   | exact dz.none _
   | refine dz.ite ?_ ?_
   | refine dz.bind ?_ (fun _ => ?_)
theorem H5.mono : ∀ a0 a1 a2 a3 a4 k, dz (H5.f k a0 a1 a2 a3 a4) (H5.f (k + 1) a0 a1 a2 a3 a4) := by
 intro a0 a1 a2 a3 a4 k;have jP := H5.apw k;unfold H5.f;repeat' first
   | (with_reducible exact jP _ _ _ _ _ _)
   | (with_reducible exact rX.mono _ _ _ _ _)
   | (with_reducible exact x9.mono _ _ _ _ _ _)
   | (with_reducible exact aqe.mono _ _ _ _ _ _)
   | (with_reducible exact dz.refl _)
   | (with_reducible exact dz.none _)
   | (with_reducible refine dz.ite ?_ ?_)
   | (with_reducible refine dz.bind ?_ (fun _ => ?_))
   | exact jP _ _ _ _ _ _
   | exact rX.mono _ _ _ _ _
   | exact x9.mono _ _ _ _ _ _
   | exact aqe.mono _ _ _ _ _ _
   | exact dz.none _
   | refine dz.ite ?_ ?_
   | refine dz.bind ?_ (fun _ => ?_)
set_option maxHeartbeats 8000000 in
set_option maxRecDepth 100000 in
theorem H5.calls (k : Nat) (aR : Int) (iR : Int) (vX : Int) (aps : Option Addr) (ao4 : Nat) (kv : List (KH)) (A1 : Option Addr) (c1 : Nat) (l1 : List Int) (r : List (dK)) (w : World) (aqy : Kd.C Md w aps kv.length kv) (aqz : kv.length ≤ ao4) (hr1 : Kd.C (Kd.int .i64) w A1 l1.length l1) (hc1 : l1.length ≤ c1) (h : H5.f k aR iR vX kv l1 = some r) :
  Calls Try.prog 50 #[.agg #[.int .i64 aR, .int .i64 iR, .int .i64 vX, .slice aps kv.length ao4], .slice A1 l1.length c1] w fun e w' => ∃ Pk : Value, e = .returned (Pk) ∧ Kd.R xA 34 w' w.heap.size (fun _ => True) Pk r ∧ Below w.heap.size w w' := by
 have avx := Try.underlying58;have aqx := aa.mk aqy;have aqH := aa.mk aqz;clear aqy aqz;have HR1 := aa.mk hr1;have EY := aa.mk hc1;clear hr1 hc1;have HB := aa.mk (Below.refl w.heap.size w);have H : ((rX.f k aR iR vX kv).bind fun avA => (if avA = true then ((aqe.f k aR iR vX kv l1).bind fun atM => (H5.j0 k l1 (!atM) aR iR vX kv)) else (H5.j0 k l1 true aR iR vX kv))) = some r := h;clear h;have Uo := aa.mk H;clear H;go_enter Try.func50, Try.ntmps50
 go_upto_region 1 with (first | ((with_reducible refine bM (N := 2) rfl ?_); refine bG ?hg (N := 2) ?hd (cs := #[.int .i64 aR, .int .i64 iR, .int .i64 vX, .slice aps kv.length ao4]) (t := 58) ?hr ?_; (case hd => rfl); (case hg => rfl); (case hr => first | (go_simp; done) | (go_simp; rfl)); intro arf hg w4 bR hb; have bP := aa.mk (aM (bO HB) hb); have bQ := aa.mk (bR); have bT := aa.mk ((by rw [hg]; exact (aK (bO HB)) : w.heap.size ≤ arf)); have di := aa.mk ((by rw [hg]; exact (aK (bO HB)) : w.heap.size ≤ arf)); clear HB; have HB := bP; have apR := bQ; have aOc := bT; have aOd := di; clear bP bQ bT di; clear hb bR hg))
 (try simp only [Act.put, List.setIfInBounds_toArray, List.set_cons_zero, List.set_cons_succ]);go_cut [15] (fun v15 wc => ∃ (kq : Nat) (ayi : Bool), v15 = .bool ayi ∧ aa (H5.j0 kq l1 ayi aR iR vX kv = some r) ∧ aa (kq ≤ k) ∧ aa (wc.heap[arf]? = some (.cells #[.int .i64 aR, .int .i64 iR, .int .i64 vX, (.slice aps kv.length ao4)] 58 (0, 0))) ∧ aa (Below w.heap.size w wc))
 case first =>
  have H := Uo.out;clear Uo;replace H := Option.bind_eq_some_iff.mp H;obtain ⟨avA, A50, H⟩ := H;replace H : (if avA = true then ((aqe.f k aR iR vX kv l1).bind fun atM => (H5.j0 k l1 (!atM) aR iR vX kv)) else (H5.j0 k l1 true aR iR vX kv)) = some r := H;have A5 := aa.mk A50;clear A50;by_cases c6 : avA = true
  ·subst c6;have H1 : ((aqe.f k aR iR vX kv l1).bind fun atM => (H5.j0 k l1 (!atM) aR iR vX kv)) = some r := by rw [if_pos rfl] at H; exact H
   clear H;have H := H1;clear H1;replace H := Option.bind_eq_some_iff.mp H;obtain ⟨atM, A70, H⟩ := H;replace H : (H5.j0 k l1 (!atM) aR iR vX kv) = some r := H;have A7 := aa.mk A70;clear A70;have H' := aa.mk H;clear H;have nG : w4.cell? ⟨arf, 0, none⟩ = some (.int .i64 aR) := (ae apR.out 0).trans rfl;have nH : w4.cell? ⟨arf, 1, none⟩ = some (.int .i64 iR) := (ae apR.out 1).trans rfl;have axe : w4.cell? ⟨arf, 2, none⟩ = some (.int .i64 vX) := (ae apR.out 2).trans rfl;have axf : w4.cell? ⟨arf, 3, none⟩ = some (.slice aps kv.length ao4) := (ae apR.out 3).trans rfl;have nI := ai apR.out 0;have nJ := ai apR.out 1;have axg := ai apR.out 2;have axh := ai apR.out 3;go_wp2_with (first | ((with_reducible refine dE (f := 57) rfl ?_); refine iB (some 8) rfl rfl Try.func57 (by kernel_rfl) rfl #[.agg #[.int .i64 aR, .int .i64 iR, .int .i64 vX, .slice aps kv.length ao4]] rfl (by (try simp only [List.map_toArray, List.map_cons, List.map_nil]); first | done | rfl | (simp only [List.length_drop, List.length_take]; rfl)) ?_; (with_reducible refine (rX.calls k aR iR vX _ _ kv true _ ?side1 ?side2 A5.out).mono ?_); (case side1 => repeat (first | exact (Kd.bF aqx.out HB.out) | (with_reducible refine Kd.dF ?_ _) | (with_reducible refine Kd.dG ?_ _) | (with_reducible refine Kd.eG ?_))); (case side2 => exact aqH.out); rintro e w9 ⟨rfl, hb⟩; refine ⟨_, rfl, ?_⟩; have bP := aa.mk (aC (bk apR) hb); have bQ := aa.mk (aM (bO HB) hb); clear apR; clear HB; have apR := bP; have HB := bQ; clear bP bQ; (try clear hb); (try clear hb2); (try clear hk); (try clear hi); have qB : w9.cell? ⟨arf, 0, none⟩ = some (.int .i64 aR) := (ae apR.out 0).trans rfl; have qC : w9.cell? ⟨arf, 1, none⟩ = some (.int .i64 iR) := (ae apR.out 1).trans rfl; have atD : w9.cell? ⟨arf, 2, none⟩ = some (.int .i64 vX) := (ae apR.out 2).trans rfl; have atE : w9.cell? ⟨arf, 3, none⟩ = some (.slice aps kv.length ao4) := (ae apR.out 3).trans rfl; have qD := ai apR.out 0; have qE := ai apR.out 1; have atF := ai apR.out 2; have atG := ai apR.out 3) | (go_at_call 58; (with_reducible refine (aqe.calls k aR iR vX _ _ kv _ _ l1 atM _ ?side1 ?side2 ?side3 ?side4 A7.out).mono ?_); (case side1 => repeat (first | exact (Kd.bF aqx.out HB.out) | (with_reducible refine Kd.dF ?_ _) | (with_reducible refine Kd.dG ?_ _) | (with_reducible refine Kd.eG ?_))); (case side2 => exact aqH.out); (case side3 => repeat (first | exact (Kd.bF HR1.out HB.out) | (with_reducible refine Kd.dF ?_ _) | (with_reducible refine Kd.dG ?_ _) | (with_reducible refine Kd.eG ?_))); (case side4 => exact EY.out); rintro e Me ⟨rfl, hb⟩; have bP := aa.mk (aC (bk apR) hb); have bQ := aa.mk (aM (bO HB) hb); clear apR; clear HB; have apR := bP; have HB := bQ; clear bP bQ; (try clear hb); (try clear hb2); (try clear hk); (try clear hi)))
   go_meet
   case rel => exact ⟨_, (!atM), (by first | rfl | (simp; done) | (simp [*]; done)), H', ⟨by first | omega | exact Nat.le_refl _⟩, ⟨by (with_reducible repeat (first | refine ax ?_ _ | refine az ?_ | refine au ?_ _)); exact apR.out⟩, ⟨bO HB⟩⟩
  ·replace c6 := Bool.eq_false_iff.mpr c6;subst c6;have H1 : (H5.j0 k l1 true aR iR vX kv) = some r := by rw [if_neg (show ¬ (false = true) by decide)] at H; exact H
   clear H;have H := H1;clear H1;have H' := aa.mk H;clear H;have jK : w4.cell? ⟨arf, 0, none⟩ = some (.int .i64 aR) := (ae apR.out 0).trans rfl;have jL : w4.cell? ⟨arf, 1, none⟩ = some (.int .i64 iR) := (ae apR.out 1).trans rfl;have aAj : w4.cell? ⟨arf, 2, none⟩ = some (.int .i64 vX) := (ae apR.out 2).trans rfl;have aAk : w4.cell? ⟨arf, 3, none⟩ = some (.slice aps kv.length ao4) := (ae apR.out 3).trans rfl;have jM := ai apR.out 0;have jN := ai apR.out 1;have aAl := ai apR.out 2;have aAm := ai apR.out 3;go_wp2_with (first | ((with_reducible refine dE (f := 57) rfl ?_); refine iB (some 8) rfl rfl Try.func57 (by kernel_rfl) rfl #[.agg #[.int .i64 aR, .int .i64 iR, .int .i64 vX, .slice aps kv.length ao4]] rfl (by (try simp only [List.map_toArray, List.map_cons, List.map_nil]); first | done | rfl | (simp only [List.length_drop, List.length_take]; rfl)) ?_; (with_reducible refine (rX.calls k aR iR vX _ _ kv false _ ?side1 ?side2 A5.out).mono ?_); (case side1 => repeat (first | exact (Kd.bF aqx.out HB.out) | (with_reducible refine Kd.dF ?_ _) | (with_reducible refine Kd.dG ?_ _) | (with_reducible refine Kd.eG ?_))); (case side2 => exact aqH.out); rintro e w13 ⟨rfl, hb⟩; refine ⟨_, rfl, ?_⟩; have bP := aa.mk (aC (bk apR) hb); have bQ := aa.mk (aM (bO HB) hb); clear apR; clear HB; have apR := bP; have HB := bQ; clear bP bQ; (try clear hb); (try clear hb2); (try clear hk); (try clear hi)))
   go_meet
   case rel => exact ⟨_, (true), (by first | rfl | (simp; done) | (simp [*]; done)), H', ⟨by first | omega | exact Nat.le_refl _⟩, ⟨by (with_reducible repeat (first | refine ax ?_ _ | refine az ?_ | refine au ?_ _)); exact apR.out⟩, ⟨bO HB⟩⟩
 case rest =>
  clear Uo;(try clear c1); (try clear p2); (try clear c5); (try clear c6); (try clear qB); (try clear qC); (try clear atD); (try clear atE); (try clear jK); (try clear jL); (try clear aAj); (try clear aAk); (try clear nG); (try clear nH); (try clear axe); (try clear axf); (try clear qD); (try clear qE); (try clear atF); (try clear atG); (try clear jM); (try clear jN); (try clear aAl); (try clear aAm); (try clear nI); (try clear nJ); (try clear axg); (try clear axh);obtain ⟨kq, ayi, rfl, HA, HJ2, apR, HB⟩ := hcut
  cases kq with
  | zero => exact absurd HA.out (by simp [H5.j0])
  | succ kj2 =>
   have H := HA.out;clear HA;simp only [H5.j0] at H;by_cases c14 : ayi = true
   ·subst c14;have H1 : (some ([] : List (dK))) = some r := by rw [if_pos rfl] at H; exact H
    clear H;have H := H1;clear H1;obtain rfl := Option.some.inj H;go_wp2;go_ret;exact ⟨_, by first | rfl | (simp [aW, aX] <;> rfl) | (simp [*, aW, aX] <;> rfl), by first | exact Kd.qf _ _ _ _ _ | exact Kd.xY _ _ _ _ _ | exact Kd.xZ _ _ _ _ _ | exact Kd.xS _ _ _ _ _ | exact Kd.xW _ _ _ _ _, bO HB⟩
   ·replace c14 := Bool.eq_false_iff.mpr c14;subst c14;have H1 : ((x9.f kj2 aR iR vX kv l1).bind fun atL => ((eQ.f atL.1 atL.2).bind fun aui => (some aui.1))) = some r := by rw [if_neg (show ¬ (false = true) by decide)] at H; exact H
    clear H;have H := H1;clear H1;replace H := Option.bind_eq_some_iff.mp H;obtain ⟨⟨aAn, aAo⟩, afi, H⟩ := H;replace H : ((eQ.f aAn aAo).bind fun aui => (some aui.1)) = some r := H;have A15 := aa.mk afi;clear afi;replace H := Option.bind_eq_some_iff.mp H;obtain ⟨⟨aFk, aLP⟩, aFl, H⟩ := H;replace H : (some aFk) = some r := H;have A16 := aa.mk aFl;clear aFl;obtain rfl := Option.some.inj H;have Qj : wc.cell? ⟨arf, 0, none⟩ = some (.int .i64 aR) := (ae apR.out 0).trans rfl;have Qk : wc.cell? ⟨arf, 1, none⟩ = some (.int .i64 iR) := (ae apR.out 1).trans rfl;have azI : wc.cell? ⟨arf, 2, none⟩ = some (.int .i64 vX) := (ae apR.out 2).trans rfl;have azJ : wc.cell? ⟨arf, 3, none⟩ = some (.slice aps kv.length ao4) := (ae apR.out 3).trans rfl;have Ql := ai apR.out 0;have Qm := ai apR.out 1;have azK := ai apR.out 2;have azL := ai apR.out 3;go_wp2_with (first | ((with_reducible refine dE (f := 61) rfl ?_); refine iB (some 19) rfl rfl Try.func61 (by kernel_rfl) rfl #[.agg #[.int .i64 aR, .int .i64 iR, .int .i64 vX, .slice aps kv.length ao4], .slice A1 l1.length c1] rfl (by (try simp only [List.map_toArray, List.map_cons, List.map_nil]); first | done | rfl | (simp only [List.length_drop, List.length_take]; rfl)) ?_; (with_reducible refine (x9.calls kj2 aR iR vX _ _ kv _ _ l1 aAn aAo _ ?side1 ?side2 ?side3 ?side4 A15.out).mono ?_); (case side1 => repeat (first | exact (Kd.bF aqx.out HB.out) | (with_reducible refine Kd.dF ?_ _) | (with_reducible refine Kd.dG ?_ _) | (with_reducible refine Kd.eG ?_))); (case side2 => exact aqH.out); (case side3 => repeat (first | exact (Kd.bF HR1.out HB.out) | (with_reducible refine Kd.dF ?_ _) | (with_reducible refine Kd.dG ?_ _) | (with_reducible refine Kd.eG ?_))); (case side4 => exact EY.out); rintro e w18 ⟨aQt, rfl, ho0, hb⟩; refine ⟨_, rfl, ?_⟩; have bP := aa.mk (Kd.axr ho0 (aK (bO HB))); have bQ := aa.mk (aC (bk apR) hb); have bT := aa.mk (aM (bO HB) hb); clear apR; clear HB; have avK := bP; have apR := bQ; have HB := bT; clear bP bQ bT; (try clear hb); (try clear hb2); (try clear hk); (try clear hi); (try clear ho0); obtain ⟨az4, az5, aBq⟩ := Kd.arX avK.out; subst aBq) | ((with_reducible refine dE (f := 38) rfl ?_); refine iB (some 20) rfl rfl Try.func38 (by kernel_rfl) rfl #[.agg #[.int .i64 aAn, .slice az4 aAo.length az5]] rfl (by (try simp only [List.map_toArray, List.map_cons, List.map_nil]); first | done | rfl | (simp only [List.length_drop, List.length_take]; rfl)) ?_; (with_reducible refine (eQ.calls aAn _ _ aAo aFk aLP _ ?side1 ?side2 A16.out).mono ?_); (case side1 => repeat (first | exact (Kd.Sz avK.out).2.2 | (with_reducible refine Kd.dF ?_ _) | (with_reducible refine Kd.dG ?_ _) | (with_reducible refine Kd.eG ?_))); (case side2 => exact (Kd.Sz avK.out).2.1); rintro e w20 ⟨aQu, aQv, rfl, ho0, ho1, hb⟩; refine ⟨_, rfl, ?_⟩; have bP := aa.mk (Kd.asa (by (with_reducible repeat (first | apply Kd.apt | apply Kd.apu | apply Kd.apz)); exact avK.out) (Kd.FI ho1) hb); have bQ := aa.mk (Kd.iL ho0 (aK (bO HB))); have bT := aa.mk (Kd.iL ho1 (aK (bO HB))); have di := aa.mk (aC (bk apR) hb); have n4_ := aa.mk (aM (bO HB) hb); clear avK; clear apR; clear HB; have avK := bP; have aFm := bQ; have aOf := bT; have apR := di; have HB := n4_; clear bP bQ bT di n4_; (try clear hb); (try clear hb2); (try clear hk); (try clear hi); (try clear ho0); (try clear ho1)))
    go_ret;exact ⟨_, by first | rfl | (simp [aW, aX] <;> rfl) | (simp [*, aW, aX] <;> rfl), by (with_reducible repeat (first | apply Kd.ay5 | apply Kd.eu | apply Kd.aaH)); exact aFm.out, bO HB⟩
end Go.Proofs.Ytamimodkcbbpmaa.Pr
end
