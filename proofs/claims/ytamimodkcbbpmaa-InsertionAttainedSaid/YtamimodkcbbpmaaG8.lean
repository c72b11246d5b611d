/- F55 TF F80 F36 LJ XParse0 XParse TK F46 F86: a part of the proof of the row of a; no conditions. -/
import Derived.Test.YtamimodkcbbpmaaG2
import Derived.Test.YtamimodkcbbpmaaG7
import Derived.Test.YtamimodkcbbpmaaG3
import Derived.Laws.EntriesVeiled
section
namespace Go.Proofs.Ytamimodkcbbpmaa.Pr
open Go.RowKit Go.Proofs.YtamimodkcbbpmaaW.PrintWords Go.Proofs.YtamimodkcbbpmaaW.PrintLast Go.Proofs.YtamimodkcbbpmaaW.PrintMore Go.Proofs.YtamimodkcbbpmaaXW
attribute [local go_sem] aFh ky lX lY jf jg kz kC
set_option linter.unusedVariables false
set_option linter.unusedSimpArgs false
mutual
def j3.j0 : Nat → Bool → Int → Int → Int → List (KH) → Int → List (S64) → Option (Bool)
 | 0, _, _, _, _, _, _, _ => none
 | k + 1, x30, aL2, aL5, aMa, aFG, aKu, aKJ => if x30 = true then (some false) else (j3.j1 k aL2 aL5 aMa aFG aKu aKJ)
def j3.j1 : Nat → Int → Int → Int → List (KH) → Int → List (S64) → Option (Bool)
 | 0, _, _, _, _, _, _ => none
 | k + 1, aL2, aL5, aMa, aFG, aKu, aKJ => if 0 ≤ aKu then (if aKu < (aFG.length : Int) then ((aFg.f ((Dj aFG aKu).f0) ((Dj aFG aKu).f1) ((Dj aFG aKu).f2) ((Dj aFG aKu).f3) ((Dj aFG aKu).f4) ((Dj aFG aKu).f5)).bind fun aKE => (if (aKJ.length : Int) = (aKE.length : Int) then (j3.j2 k aKE aL2 aL5 aMa aFG aKu aKJ) else (some false))) else (none)) else (none)
def j3.j2 : Nat → List Int → Int → Int → Int → List (KH) → Int → List (S64) → Option (Bool)
 | 0, _, _, _, _, _, _, _ => none
 | k + 1, x7, aL2, aL5, aMa, aFG, aKu, aKJ => j3.l0 k x7 0 aL2 aL5 aMa aFG aKu aKJ
def j3.l0 : Nat → List Int → Int → Int → Int → Int → List (KH) → Int → List (S64) → Option (Bool)
 | 0, _, _, _, _, _, _, _, _ => none
 | k + 1, x7, x8, aL2, aL5, aMa, aFG, aKu, aKJ => if x8 < (x7.length : Int) then (if 0 ≤ x8 then (if x8 < (aKJ.length : Int) then ((j3.f k aL2 aL5 aMa aFG (rd x7 x8) ((FW aKJ x8).f0) ((FW aKJ x8).f1)).bind fun aNw => (if aNw = true then (j3.l0 k x7 (wrap64 (x8 + 1)) aL2 aL5 aMa aFG aKu aKJ) else (some false))) else (none)) else (none)) else (some true)
def j3.f : Nat → Int → Int → Int → List (KH) → Int → Int → List (S64) → Option (Bool)
 | 0, _, _, _, _, _, _, _ => none
 | k + 1, aR, iR, vX, bf, a1, bg, bV => if bg < 0 then (j3.j0 k true aR iR vX bf bg bV) else (if bg ≥ (bf.length : Int) then (j3.j0 k true aR iR vX bf bg bV) else (if 0 ≤ bg then (if bg < (bf.length : Int) then (j3.j0 k (((Dj bf bg).f1) != a1) aR iR vX bf bg bV) else (none)) else (none)))
end
theorem j3.apw : ∀ k, (∀ y0 y1 y2 y3 y4 y5 y6, dz (j3.f k y0 y1 y2 y3 y4 y5 y6) (j3.f (k + 1) y0 y1 y2 y3 y4 y5 y6)) ∧ (∀ y0 y1 y2 y3 y4 y5 y6, dz (j3.j0 k y0 y1 y2 y3 y4 y5 y6) (j3.j0 (k + 1) y0 y1 y2 y3 y4 y5 y6)) ∧ (∀ y0 y1 y2 y3 y4 y5, dz (j3.j1 k y0 y1 y2 y3 y4 y5) (j3.j1 (k + 1) y0 y1 y2 y3 y4 y5)) ∧ (∀ y0 y1 y2 y3 y4 y5 y6, dz (j3.j2 k y0 y1 y2 y3 y4 y5 y6) (j3.j2 (k + 1) y0 y1 y2 y3 y4 y5 y6)) ∧ (∀ y0 y1 y2 y3 y4 y5 y6 y7, dz (j3.l0 k y0 y1 y2 y3 y4 y5 y6 y7) (j3.l0 (k + 1) y0 y1 y2 y3 y4 y5 y6 y7))
 | 0 => ⟨fun _ _ _ _ _ _ _ r h => by simp [j3.f] at h, fun _ _ _ _ _ _ _ r h => by simp [j3.j0] at h, fun _ _ _ _ _ _ r h => by simp [j3.j1] at h, fun _ _ _ _ _ _ _ r h => by simp [j3.j2] at h, fun _ _ _ _ _ _ _ _ r h => by simp [j3.l0] at h⟩
 | k + 1 => by
  obtain ⟨jP, ih1, ih2, ih3, Wi⟩ := j3.apw k;refine ⟨?_, ?_, ?_, ?_, ?_⟩;all_goals intros
  all_goals first | unfold j3.f | unfold j3.j0 | unfold j3.j1 | unfold j3.j2 | unfold j3.l0
  all_goals
   repeat' first
   | (with_reducible exact jP _ _ _ _ _ _ _)
   | (with_reducible exact ih1 _ _ _ _ _ _ _)
   | (with_reducible exact ih2 _ _ _ _ _ _)
   | (with_reducible exact ih3 _ _ _ _ _ _ _)
   | (with_reducible exact Wi _ _ _ _ _ _ _ _)
   | (with_reducible exact dz.refl _)
   | (with_reducible exact dz.none _)
   | (with_reducible refine dz.ite ?_ ?_)
   | (with_reducible refine dz.bind ?_ (fun _ => ?_))
   | exact jP _ _ _ _ _ _ _
   | exact ih1 _ _ _ _ _ _ _
   | exact ih2 _ _ _ _ _ _
   | exact ih3 _ _ _ _ _ _ _
   | exact Wi _ _ _ _ _ _ _ _
   | exact dz.none _
   | refine dz.ite ?_ ?_
   | refine dz.bind ?_ (fun _ => ?_)
theorem j3.mono : ∀ a0 a1 a2 a3 a4 a5 a6 k, dz (j3.f k a0 a1 a2 a3 a4 a5 a6) (j3.f (k + 1) a0 a1 a2 a3 a4 a5 a6) := by
 intro a0 a1 a2 a3 a4 a5 a6 k;obtain ⟨jP, ih1, ih2, ih3, Wi⟩ := j3.apw k;exact jP a0 a1 a2 a3 a4 a5 a6
def j3.T9 : Bool × List (List Nat × List Nat) := (true, [([], []), ([], []), ([], []), ([1, 2], [1, 2]), ([3], [3]), ([], []), ([5], [5]), ([], []), ([6, 7], [6, 7]), ([8], [8]), ([0, 4, 9], [0, 4, 9]), ([10], [10])])
def j3.B9 : List Nat := [0, 0, 0, 6, 14, 0, 32, 0, 224, 480, 1023, 2047]
theorem j3.adq : iC .any (opsOf Try.f55 9) = j3.T9 := by kernel_rfl
theorem j3.Yw : fo j3.T9.2 j3.B9 = true := by kernel_rfl
set_option maxHeartbeats 8000000 in
set_option maxRecDepth 100000 in
theorem j3.calls (k : Nat) : ∀ (aR : Int) (iR : Int) (vX : Int) (aps : Option Addr) (ao4 : Nat) (bf : List (KH)) (a1 : Int) (bg : Int) (jX : Option Addr) (iX : Nat) (bV : List (S64)) (r : Bool) (w : World) (aqy : Kd.C Md w aps bf.length bf) (aqz : bf.length ≤ ao4) (yu : Kd.C OG w jX bV.length bV) (yw : bV.length ≤ iX) (h : j3.f k aR iR vX bf a1 bg bV = some r),
  Calls Try.prog 55 #[.agg #[.int .i64 aR, .int .i64 iR, .int .i64 vX, .slice aps bf.length ao4], .int .i64 a1, .agg #[.int .i64 bg, .slice jX bV.length iX]] w fun e w' => e = .returned (.bool r) ∧ Below w.heap.size w w' := by
 induction k using Nat.strongRecOn with
 | _ k ih =>
 intro aR iR vX aps ao4 bf a1 bg jX iX bV r w aqy aqz yu yw h
 cases k with
 | zero => exact absurd h (by simp [j3.f])
 | succ k =>
 simp only [j3.f] at h;have avx := Try.underlying58;have hu64 := Try.underlying64;have azj := Try.underlying75;have aqx := aa.mk aqy;have aqH := aa.mk aqz;clear aqy aqz;have AJ := aa.mk yu;have TQ := aa.mk yw;clear yu yw;have HB := aa.mk (Below.refl w.heap.size w);have H : (if bg < 0 then (j3.j0 k true aR iR vX bf bg bV) else (if bg ≥ (bf.length : Int) then (j3.j0 k true aR iR vX bf bg bV) else (if 0 ≤ bg then (if bg < (bf.length : Int) then (j3.j0 k (((Dj bf bg).f1) != a1) aR iR vX bf bg bV) else (none)) else (none)))) = some r := h;clear h;have IK := aa.mk H;clear H;go_enter Try.func55, Try.ntmps55
 go_upto_region 1 with (first | ((with_reducible refine bM (N := 3) rfl ?_); (try (refine gG (by rfl) ?_; dsimp only)); refine bG ?hg (N := 3) ?hd (cs := #[.int .i64 aR, .int .i64 iR, .int .i64 vX, .slice aps bf.length ao4]) (t := 58) ?hr ?_; (case hd => rfl); (case hg => rfl); (case hr => first | (go_simp; done) | (go_simp; rfl)); intro aFo hg w5 bR hb; have bP := aa.mk (aM (bO HB) hb); have bQ := aa.mk (bR); have bT := aa.mk ((by rw [hg]; exact (aK (bO HB)) : w.heap.size ≤ aFo)); have di := aa.mk ((by rw [hg]; exact (aK (bO HB)) : w.heap.size ≤ aFo)); clear HB; have HB := bP; have aBR := bQ; have aV5 := bT; have aV6 := di; clear bP bQ bT di; clear hb bR hg) | ((with_reducible refine bM (N := 5) rfl ?_); (try (refine gG (by rfl) ?_; dsimp only)); refine bG ?hg (N := 5) ?hd (cs := #[.int .i64 bg, .slice jX bV.length iX]) (t := 64) ?hr ?_; (case hd => rfl); (case hg => rfl); (case hr => first | (go_simp; done) | (go_simp; rfl)); intro aKw hg w6 bR hb; have bP := aa.mk (aC (bk aBR) hb); have bQ := aa.mk (aM (bO HB) hb); have bT := aa.mk (bR); have di := aa.mk ((by rw [hg]; exact (aK (bO HB)) : w.heap.size ≤ aKw)); have n4_ := aa.mk ((by rw [hg]; exact (aK (bO HB)) : w.heap.size ≤ aKw)); have n5_ := aa.mk ((by rw [hg]; exact Nat.ne_of_lt (bE (bk aBR)) : aFo ≠ aKw)); have iG := aa.mk ((by rw [hg]; exact Nat.ne_of_gt (bE (bk aBR)) : aKw ≠ aFo)); clear aBR; clear HB; have aBR := bP; have HB := bQ; have aBW := bT; have aV7 := di; have aV8 := n4_; have aMm := n5_; have aMn := iG; clear bP bQ bT di n4_ n5_ iG; clear hb bR hg))
 (try simp only [Act.put, List.setIfInBounds_toArray, List.set_cons_zero, List.set_cons_succ]);go_cut [30] (fun v30 wc => ∃ (kq : Nat) (aPh : Bool), v30 = .bool aPh ∧ aa (j3.j0 kq aPh aR iR vX bf bg bV = some r) ∧ aa (kq ≤ k) ∧ aa (wc.heap[aFo]? = some (.cells #[.int .i64 aR, .int .i64 iR, .int .i64 vX, (.slice aps bf.length ao4)] 58 (0, 0))) ∧ aa (wc.heap[aKw]? = some (.cells #[.int .i64 bg, (.slice jX bV.length iX)] 64 (0, 0))) ∧ aa (Below w.heap.size w wc))
 case first =>
  have H := IK.out;clear IK;by_cases c7 : bg < 0
  ·rw [if_pos c7] at H;have uy : decide (bg < 0) = true := decide_eq_true c7;clear c7
   (first | rw [uy] | (simp only [bH, bI]; rw [uy]) | skip)
   have H' := aa.mk H;clear H;have aoY := aMn.out;have aoZ := aMm.out;have nP : w6.cell? ⟨aKw, 0, none⟩ = some (.int .i64 bg) := (ae aBW.out 0).trans rfl;have nQ : w6.cell? ⟨aKw, 1, none⟩ = some (.slice jX bV.length iX) := (ae aBW.out 1).trans rfl;have nR := ai aBW.out 0;have nS := ai aBW.out 1;go_wp2;go_meet
   case rel => exact ⟨_, (true), (by first | rfl | (simp; done) | (simp [*]; done)), H', ⟨by first | omega | exact Nat.le_refl _⟩, ⟨by (with_reducible repeat (first | refine ax ?_ _ | refine az ?_ | refine au ?_ _)); exact aBR.out⟩, ⟨by (with_reducible repeat (first | refine ax ?_ _ | refine az ?_ | refine au ?_ _)); exact aBW.out⟩, ⟨bO HB⟩⟩
  ·rw [if_neg c7] at H;have uy : decide (bg < 0) = false := decide_eq_false c7;clear c7
   (first | rw [uy] | (simp only [bH, bI]; rw [uy]) | skip)
   by_cases c10 : bg ≥ (bf.length : Int)
   ·rw [if_pos c10] at H;have XY : decide ((bf.length : Int) ≤ bg) = true := decide_eq_true c10;clear c10;have H' := aa.mk H;clear H;have Za := aMn.out;have Zb := aMm.out;have jK : w6.cell? ⟨aKw, 0, none⟩ = some (.int .i64 bg) := (ae aBW.out 0).trans rfl;have jL : w6.cell? ⟨aKw, 1, none⟩ = some (.slice jX bV.length iX) := (ae aBW.out 1).trans rfl;have jM := ai aBW.out 0;have jN := ai aBW.out 1;have yT : w6.cell? ⟨aFo, 0, none⟩ = some (.int .i64 aR) := (ae aBR.out 0).trans rfl;have yU : w6.cell? ⟨aFo, 1, none⟩ = some (.int .i64 iR) := (ae aBR.out 1).trans rfl;have akB : w6.cell? ⟨aFo, 2, none⟩ = some (.int .i64 vX) := (ae aBR.out 2).trans rfl;have akC : w6.cell? ⟨aFo, 3, none⟩ = some (.slice aps bf.length ao4) := (ae aBR.out 3).trans rfl;have yV := ai aBR.out 0;have yX := ai aBR.out 1;have akI := ai aBR.out 2;have akJ := ai aBR.out 3;go_wp2;go_meet
    case rel => exact ⟨_, (true), (by first | rfl | (simp; done) | (simp [*]; done)), H', ⟨by first | omega | exact Nat.le_refl _⟩, ⟨by (with_reducible repeat (first | refine ax ?_ _ | refine az ?_ | refine au ?_ _)); exact aBR.out⟩, ⟨by (with_reducible repeat (first | refine ax ?_ _ | refine az ?_ | refine au ?_ _)); exact aBW.out⟩, ⟨bO HB⟩⟩
   ·rw [if_neg c10] at H;have XY : decide ((bf.length : Int) ≤ bg) = false := decide_eq_false c10;clear c10;by_cases c14 : 0 ≤ bg
    ·rw [if_pos c14] at H;have aN7 : decide (0 ≤ bg) = true := decide_eq_true c14;clear c14;by_cases c15 : bg < (bf.length : Int)
     ·rw [if_pos c15] at H;have tF : decide (bg < (bf.length : Int)) = true := decide_eq_true c15;clear c15;have H' := aa.mk H;clear H;have alS := aMn.out;have alT := aMm.out;have Qj : w6.cell? ⟨aKw, 0, none⟩ = some (.int .i64 bg) := (ae aBW.out 0).trans rfl;have Qk : w6.cell? ⟨aKw, 1, none⟩ = some (.slice jX bV.length iX) := (ae aBW.out 1).trans rfl;have Ql := ai aBW.out 0;have Qm := ai aBW.out 1;have lZ : w6.cell? ⟨aFo, 0, none⟩ = some (.int .i64 aR) := (ae aBR.out 0).trans rfl;have l5 : w6.cell? ⟨aFo, 1, none⟩ = some (.int .i64 iR) := (ae aBR.out 1).trans rfl;have BR : w6.cell? ⟨aFo, 2, none⟩ = some (.int .i64 vX) := (ae aBR.out 2).trans rfl;have BS : w6.cell? ⟨aFo, 3, none⟩ = some (.slice aps bf.length ao4) := (ae aBR.out 3).trans rfl;have l6 := ai aBR.out 0;have l7 := ai aBR.out 1;have BV := ai aBR.out 2;have BX := ai aBR.out 3;have aO7 : 0 ≤ (bg : Int) := of_decide_eq_true (by first | (with_reducible assumption) | assumption);have aO8 : bg < (bf.length : Int) := of_decide_eq_true (by first | (with_reducible assumption) | assumption);obtain ⟨aV9, aUc, aMo, aMp, aMq, aMr, aMs, aMt⟩ := ah5 aqx.out bg aO7 aO8
      cases aUc;replace aMo := ah HB.out aMo;replace aMp := ah HB.out aMp;replace aMq := ah HB.out aMq;replace aMr := ah HB.out aMr;replace aMs := ah HB.out aMs;replace aMt := ah HB.out aMt;replace aO7 := eq_true aO7;replace aO8 := eq_true aO8;go_wp2;go_meet
      case rel => exact ⟨_, ((((Dj bf bg).f1) != a1)), (by first | rfl | (simp; done) | (simp [*]; done)), H', ⟨by first | omega | exact Nat.le_refl _⟩, ⟨by (with_reducible repeat (first | refine ax ?_ _ | refine az ?_ | refine au ?_ _)); exact aBR.out⟩, ⟨by (with_reducible repeat (first | refine ax ?_ _ | refine az ?_ | refine au ?_ _)); exact aBW.out⟩, ⟨bO HB⟩⟩
     ·rw [if_neg c15] at H;exact absurd H (by simp)
    ·rw [if_neg c14] at H;exact absurd H (by simp)
 case rest =>
  clear IK;(try clear c1); (try clear c2); (try clear p2); (try clear c5); (try clear c7); (try clear uy); (try clear p7); (try clear q7); (try clear hx7); (try clear c8); (try clear c10); (try clear XY); (try clear c11); (try clear c14); (try clear aN7); (try clear c15); (try clear tF); (try clear c16); (try clear jK); (try clear jL); (try clear yT); (try clear yU); (try clear akB); (try clear akC); (try clear Qj); (try clear Qk); (try clear lZ); (try clear l5); (try clear BR); (try clear BS); (try clear nP); (try clear nQ); (try clear jM); (try clear jN); (try clear yV); (try clear yX); (try clear akI); (try clear akJ); (try clear Ql); (try clear Qm); (try clear l6); (try clear l7); (try clear BV); (try clear BX); (try clear nR); (try clear nS); (try clear aMo); (try clear aMp); (try clear aMq); (try clear aMr); (try clear aMs); (try clear aMt); (try clear aO7); (try clear aO8);obtain ⟨kq, aPh, rfl, HA, Gq, aBR, aBW, HB⟩ := hcut
  cases kq with
  | zero => exact absurd HA.out (by simp [j3.j0])
  | succ kj3 =>
   have H := HA.out;clear HA;simp only [j3.j0] at H;have aA7 := aa.mk H;clear H;go_upto_if 30 with (fail)
   go_cut [] (fun wc => ∃ (kq : Nat), aa (j3.j1 kq aR iR vX bf bg bV = some r) ∧ aa (kq ≤ kj3) ∧ aa (wc.heap[aFo]? = some (.cells #[.int .i64 aR, .int .i64 iR, .int .i64 vX, (.slice aps bf.length ao4)] 58 (0, 0))) ∧ aa (wc.heap[aKw]? = some (.cells #[.int .i64 bg, (.slice jX bV.length iX)] 64 (0, 0))) ∧ aa (Below w.heap.size w wc))
   case first =>
    have H := aA7.out;clear aA7;by_cases c20 : aPh = true
    ·subst c20;have H1 : (some false) = some r := by rw [if_pos rfl] at H; exact H
     clear H;have H := H1;clear H1;obtain rfl := Option.some.inj H;go_wp2;go_ret;exact ⟨by first | rfl | (simp [aW, aX] <;> rfl) | (simp [*, aW, aX] <;> rfl), bO HB⟩
    ·replace c20 := Bool.eq_false_iff.mpr c20;subst c20;have H1 : (j3.j1 kj3 aR iR vX bf bg bV) = some r := by rw [if_neg (show ¬ (false = true) by decide)] at H; exact H
     clear H;have H := H1;clear H1;have H' := aa.mk H;clear H;go_wp2;go_meet
     case rel => exact ⟨_, H', ⟨by have := Gq.out; first | omega | exact Nat.le_refl _⟩, ⟨by (with_reducible repeat (first | refine ax ?_ _ | refine az ?_ | refine au ?_ _)); exact aBR.out⟩, ⟨by (with_reducible repeat (first | refine ax ?_ _ | refine az ?_ | refine au ?_ _)); exact aBW.out⟩, ⟨bO HB⟩⟩
   case rest =>
    clear aA7;(try clear c1); (try clear c2); (try clear p2); (try clear c5); (try clear c7); (try clear uy); (try clear p7); (try clear q7); (try clear hx7); (try clear c8); (try clear c10); (try clear XY); (try clear c11); (try clear c14); (try clear aN7); (try clear c15); (try clear tF); (try clear c16); (try clear c20); (try clear jK); (try clear jL); (try clear yT); (try clear yU); (try clear akB); (try clear akC); (try clear Qj); (try clear Qk); (try clear lZ); (try clear l5); (try clear BR); (try clear BS); (try clear nP); (try clear nQ); (try clear jM); (try clear jN); (try clear yV); (try clear yX); (try clear akI); (try clear akJ); (try clear Ql); (try clear Qm); (try clear l6); (try clear l7); (try clear BV); (try clear BX); (try clear nR); (try clear nS); (try clear aMo); (try clear aMp); (try clear aMq); (try clear aMr); (try clear aMs); (try clear aMt); (try clear p2); (try clear p7); (try clear aO7); (try clear q7); (try clear aO8);obtain ⟨kq, HA, at6, aBR, aBW, HB⟩ := hcut
    cases kq with
    | zero => exact absurd HA.out (by simp [j3.j1])
    | succ kj18 =>
     have H := HA.out;clear HA;simp only [j3.j1] at H;by_cases c21 : 0 ≤ bg
     ·rw [if_pos c21] at H;have alm : decide (0 ≤ bg) = true := decide_eq_true c21;clear c21;by_cases vO : bg < (bf.length : Int)
      ·rw [if_pos vO] at H;have tC : decide (bg < (bf.length : Int)) = true := decide_eq_true vO;clear vO;replace H := Option.bind_eq_some_iff.mp H;obtain ⟨aKE, TS, H⟩ := H;replace H : (if (bV.length : Int) = (aKE.length : Int) then (j3.j2 kj18 aKE aR iR vX bf bg bV) else (some false)) = some r := H;have A23 := aa.mk TS;clear TS;have aA8 := aa.mk H;clear H;have Yu := aMm.out;have Yv := aMn.out;have wu : wc.cell? ⟨aFo, 0, none⟩ = some (.int .i64 aR) := (ae aBR.out 0).trans rfl;have wy : wc.cell? ⟨aFo, 1, none⟩ = some (.int .i64 iR) := (ae aBR.out 1).trans rfl;have aIr : wc.cell? ⟨aFo, 2, none⟩ = some (.int .i64 vX) := (ae aBR.out 2).trans rfl;have aIs : wc.cell? ⟨aFo, 3, none⟩ = some (.slice aps bf.length ao4) := (ae aBR.out 3).trans rfl;have wz := ai aBR.out 0;have wE := ai aBR.out 1;have aIt := ai aBR.out 2;have aIu := ai aBR.out 3;have ahA : wc.cell? ⟨aKw, 0, none⟩ = some (.int .i64 bg) := (ae aBW.out 0).trans rfl;have ahB : wc.cell? ⟨aKw, 1, none⟩ = some (.slice jX bV.length iX) := (ae aBW.out 1).trans rfl;have ahC := ai aBW.out 0;have ahD := ai aBW.out 1;have aPJ : 0 ≤ (bg : Int) := of_decide_eq_true (by first | (with_reducible assumption) | assumption);have aPL : bg < (bf.length : Int) := of_decide_eq_true (by first | (with_reducible assumption) | assumption);obtain ⟨aN8, aUd, aMV, aMW, aMX, aMY, aMZ, aM0⟩ := ah5 aqx.out bg aPJ aPL
       cases aUd;replace aMV := ah HB.out aMV;replace aMW := ah HB.out aMW;replace aMX := ah HB.out aMX;replace aMY := ah HB.out aMY;replace aMZ := ah HB.out aMZ;replace aM0 := ah HB.out aM0;replace aPJ := eq_true aPJ;replace aPL := eq_true aPL;go_upto_if 43 with (first | ((with_reducible refine dE (f := 91) rfl ?_); refine iB (some 37) rfl rfl Try.func91 (by kernel_rfl) rfl #[.agg #[.int .i64 ((Dj bf bg).f0), .int .i64 ((Dj bf bg).f1), .int .i64 ((Dj bf bg).f2), .int .i64 ((Dj bf bg).f3), .int .i64 ((Dj bf bg).f4), .int .i64 ((Dj bf bg).f5)]] rfl (by (try simp only [List.map_toArray, List.map_cons, List.map_nil]); first | done | rfl | (simp only [List.length_drop, List.length_take]; rfl)) ?_; (with_reducible refine (aFg.calls ((Dj bf bg).f0) ((Dj bf bg).f1) ((Dj bf bg).f2) ((Dj bf bg).f3) ((Dj bf bg).f4) ((Dj bf bg).f5) aKE _ A23.out).mono ?_); rintro e w28 ⟨aYb, rfl, ho0, hb⟩; refine ⟨_, rfl, ?_⟩; have bP := aa.mk (Kd.iL ho0 (aK (bO HB))); have bQ := aa.mk (aC (bk aBR) hb); have bT := aa.mk (aC (bk aBW) hb); have di := aa.mk (aM (bO HB) hb); clear aBR; clear aBW; clear HB; have aQX := bP; have aBR := bQ; have aBW := bT; have HB := di; clear bP bQ bT di; (try clear hb); (try clear hb2); (try clear hk); (try clear hi); (try clear ho0); have tK : w28.cell? ⟨aKw, 0, none⟩ = some (.int .i64 bg) := (ae aBW.out 0).trans rfl; have tL : w28.cell? ⟨aKw, 1, none⟩ = some (.slice jX bV.length iX) := (ae aBW.out 1).trans rfl; have tN := ai aBW.out 0; have tO := ai aBW.out 1; obtain ⟨aKT, aKU, aPK⟩ := Kd.fQ aQX.out; subst aPK))
       (try simp only [Act.put, List.setIfInBounds_toArray, List.set_cons_zero, List.set_cons_succ]);go_cut [] (fun wc => ∃ (kq : Nat), aa (j3.j2 kq aKE aR iR vX bf bg bV = some r) ∧ aa (kq ≤ kj18) ∧ aa (Kd.R (Kd.int .i64) 3 wc w.heap.size (fun _ => True) (.slice aKT aKE.length aKU) aKE) ∧ aa (wc.heap[aFo]? = some (.cells #[.int .i64 aR, .int .i64 iR, .int .i64 vX, (.slice (some aN8) bf.length ao4)] 58 (0, 0))) ∧ aa (wc.heap[aKw]? = some (.cells #[.int .i64 bg, (.slice jX bV.length iX)] 64 (0, 0))) ∧ aa (Below w.heap.size w wc))
       case first =>
        have H := aA8.out;clear aA8;by_cases c31 : (bV.length : Int) = (aKE.length : Int)
        ·rw [if_pos c31] at H;have aM3 : ((bV.length : Int) == (aKE.length : Int)) = true := beq_iff_eq.mpr c31;have aPM : ((bV.length : Int) != (aKE.length : Int)) = false := bne_eq_false_iff_eq.mpr c31;have aPN : (bV.length == aKE.length) = true := by first | simpa using c31 | (simp at c31 ⊢; omega)
         clear c31
         (first | rw [aM3] | (simp only [bH, bI]; rw [aM3]) | skip)
         have H' := aa.mk H;clear H;go_wp2;go_meet
         case rel => exact ⟨_, H', ⟨by have := Gq.out; have := at6.out; first | omega | exact Nat.le_refl _⟩, ⟨by (with_reducible repeat (first | apply Kd.ay5 | apply Kd.eu | apply Kd.aaH)); exact aQX.out⟩, ⟨by (with_reducible repeat (first | refine ax ?_ _ | refine az ?_ | refine au ?_ _)); exact aBR.out⟩, ⟨by (with_reducible repeat (first | refine ax ?_ _ | refine az ?_ | refine au ?_ _)); exact aBW.out⟩, ⟨bO HB⟩⟩
        ·rw [if_neg c31] at H;have aM3 : ((bV.length : Int) == (aKE.length : Int)) = false := beq_eq_false_iff_ne.mpr c31;have aPM : ((bV.length : Int) != (aKE.length : Int)) = true := bne_iff_ne.mpr c31;have aPN : (bV.length == aKE.length) = false := by first | simpa using c31 | (simp at c31 ⊢; omega)
         (first | rw [aM3] | (simp only [bH, bI]; rw [aM3]) | skip)
         obtain rfl := Option.some.inj H;go_wp2;go_ret;exact ⟨by first | rfl | (simp [aW, aX] <;> rfl) | (simp [*, aW, aX] <;> rfl), bO HB⟩
       case rest =>
        clear aA8;(try clear c1); (try clear c2); (try clear p2); (try clear c3); (try clear c5); (try clear c7); (try clear uy); (try clear p7); (try clear q7); (try clear hx7); (try clear c8); (try clear c9); (try clear c10); (try clear XY); (try clear c11); (try clear c14); (try clear aN7); (try clear c15); (try clear tF); (try clear c16); (try clear c20); (try clear c21); (try clear alm); (try clear vO); (try clear tC); (try clear ET); (try clear c31); (try clear aM3); (try clear aPM); (try clear aPN); (try clear jK); (try clear jL); (try clear yT); (try clear yU); (try clear akB); (try clear akC); (try clear Qj); (try clear Qk); (try clear lZ); (try clear l5); (try clear BR); (try clear BS); (try clear wu); (try clear wy); (try clear aIr); (try clear aIs); (try clear ahA); (try clear ahB); (try clear tK); (try clear tL); (try clear nP); (try clear nQ); (try clear jM); (try clear jN); (try clear yV); (try clear yX); (try clear akI); (try clear akJ); (try clear Ql); (try clear Qm); (try clear l6); (try clear l7); (try clear BV); (try clear BX); (try clear wz); (try clear wE); (try clear aIt); (try clear aIu); (try clear ahC); (try clear ahD); (try clear tN); (try clear tO); (try clear nR); (try clear nS); (try clear aMo); (try clear aMp); (try clear aMq); (try clear aMr); (try clear aMs); (try clear aMt); (try clear aMV); (try clear aMW); (try clear aMX); (try clear aMY); (try clear aMZ); (try clear aM0); (try clear p2); (try clear p7); (try clear aO7); (try clear aPJ); (try clear q7); (try clear aO8); (try clear aPL);obtain ⟨kq, HA, avU, aMi, aBR, aBW, HB⟩ := hcut
        cases kq with
        | zero => exact absurd HA.out (by simp [j3.j2])
        | succ kj23 =>
         have H := HA.out;clear HA;simp only [j3.j2] at H;have H' := aa.mk H;clear H;go_wp2;go_loopg [8] kj23 (fun kq v8 w' => ∃ (aFi : Int), v8 = .int .i64 aFi ∧ aa (j3.l0 kq aKE aFi aR iR vX bf bg bV = some r) ∧ aa (kq ≤ kj23) ∧ aa (Kd.R (Kd.int .i64) 3 w' w.heap.size (fun _ => True) (.slice aKT aKE.length aKU) aKE) ∧ aa (w'.heap[aFo]? = some (.cells #[.int .i64 aR, .int .i64 iR, .int .i64 vX, (.slice (some aN8) bf.length ao4)] 58 (0, 0))) ∧ aa (w'.heap[aKw]? = some (.cells #[.int .i64 bg, (.slice jX bV.length iX)] 64 (0, 0))) ∧ aa (Below w.heap.size w w'))
         case atStart => exact ⟨(0), (by first | rfl | (simp; done) | (simp [*]; done)), H', ⟨Nat.le_refl _⟩, ⟨by (with_reducible repeat (first | apply Kd.ay5 | apply Kd.eu | apply Kd.aaH)); exact aMi.out⟩, ⟨by (with_reducible repeat (first | refine ax ?_ _ | refine az ?_ | refine au ?_ _)); exact aBR.out⟩, ⟨by (with_reducible repeat (first | refine ax ?_ _ | refine az ?_ | refine au ?_ _)); exact aBW.out⟩, ⟨bO HB⟩⟩
         case round =>
          clear H';(try clear c1); (try clear c2); (try clear p2); (try clear c3); (try clear c5); (try clear c7); (try clear uy); (try clear p7); (try clear q7); (try clear hx7); (try clear c8); (try clear c9); (try clear c10); (try clear XY); (try clear c11); (try clear c14); (try clear aN7); (try clear c15); (try clear tF); (try clear c16); (try clear c20); (try clear c21); (try clear alm); (try clear vO); (try clear tC); (try clear ET); (try clear c31); (try clear aM3); (try clear aPM); (try clear aPN); (try clear jK); (try clear jL); (try clear yT); (try clear yU); (try clear akB); (try clear akC); (try clear Qj); (try clear Qk); (try clear lZ); (try clear l5); (try clear BR); (try clear BS); (try clear wu); (try clear wy); (try clear aIr); (try clear aIs); (try clear ahA); (try clear ahB); (try clear tK); (try clear tL); (try clear nP); (try clear nQ); (try clear jM); (try clear jN); (try clear yV); (try clear yX); (try clear akI); (try clear akJ); (try clear Ql); (try clear Qm); (try clear l6); (try clear l7); (try clear BV); (try clear BX); (try clear wz); (try clear wE); (try clear aIt); (try clear aIu); (try clear ahC); (try clear ahD); (try clear tN); (try clear tO); (try clear nR); (try clear nS); (try clear aMo); (try clear aMp); (try clear aMq); (try clear aMr); (try clear aMs); (try clear aMt); (try clear aMV); (try clear aMW); (try clear aMX); (try clear aMY); (try clear aMZ); (try clear aM0); (try clear p2); (try clear p7); (try clear aO7); (try clear aPJ); (try clear q7); (try clear aO8); (try clear aPL);obtain ⟨aFi, rfl, HA, HK4, aMi, aBR, aBW, HB⟩ := hrel
          cases gk with
          | zero => exact absurd HA.out (by simp [j3.l0])
          | succ k4 =>
           have H := HA.out;clear HA;simp only [j3.l0] at H;by_cases c32 : aFi < (aKE.length : Int)
           ·rw [if_pos c32] at H;have ayL : decide (aFi < (aKE.length : Int)) = true := decide_eq_true c32;clear c32;by_cases c33 : 0 ≤ aFi
            ·rw [if_pos c33] at H;have aSN : decide (0 ≤ aFi) = true := decide_eq_true c33;clear c33;by_cases c34 : aFi < (bV.length : Int)
             ·rw [if_pos c34] at H;have aOH : decide (aFi < (bV.length : Int)) = true := decide_eq_true c34;clear c34;replace H := Option.bind_eq_some_iff.mp H;obtain ⟨aNw, aPO, H⟩ := H;replace H : (if aNw = true then (j3.l0 k4 aKE (wrap64 (aFi + 1)) aR iR vX bf bg bV) else (some false)) = some r := H;have A35 := aa.mk aPO;clear aPO;by_cases c36 : aNw = true
              ·subst c36;have H1 : (j3.l0 k4 aKE (wrap64 (aFi + 1)) aR iR vX bf bg bV) = some r := by rw [if_pos rfl] at H; exact H
               clear H;have H := H1;clear H1;have H' := aa.mk H;clear H;try go_wp2
               have bP := aa.mk (Kd.aaH aMi.out);have bQ := aa.mk (az aBR.out);have bT := aa.mk (az aBW.out);have di := aa.mk (fK HB.out);clear aMi aBR aBW HB;have aMi := bP;have aBR := bQ;have aBW := bT;have HB := di;clear bP bQ bT di;have aO9 : 0 ≤ (aFi : Int) := of_decide_eq_true (by first | (with_reducible assumption) | assumption);have aPa : aFi < (aKE.length : Int) := of_decide_eq_true (by first | (with_reducible assumption) | assumption);obtain ⟨aPP, aRD, aMA⟩ := Kd.nC (Kd.dD aMi.out).2.2 aFi aO9 aPa
               cases aRD;replace aO9 := eq_true aO9;replace aPa := eq_true aPa;have aPb : 0 ≤ (aFi : Int) := of_decide_eq_true (by first | (with_reducible assumption) | assumption);have aPc : aFi < (bV.length : Int) := of_decide_eq_true (by first | (with_reducible assumption) | assumption);obtain ⟨aMB, aM4, aM5, aRE, aLk, aLQ, aMC, aMK⟩ := ah8 AJ.out aFi aPb aPc;have aML := aLQ;have aMM := aLk
               cases aRE;replace aLk := ah HB.out aLk;replace aLQ := ah HB.out aLQ;have aMN := aa.mk aMK;have aOe := aa.mk aMC;clear aMK aMC;replace aPb := eq_true aPb;replace aPc := eq_true aPc;refine fu (n := 12) (S := fun w' => w'.cell? ⟨aFo, 0, none⟩ = some (.int .i64 aR) ∧ w'.cell? ⟨aFo, 1, none⟩ = some (.int .i64 iR) ∧ w'.cell? ⟨aFo, 2, none⟩ = some (.int .i64 vX) ∧ w'.cell? ⟨aFo, 3, none⟩ = some (.slice (some aN8) bf.length ao4) ∧ w'.cell? ⟨aKw, 0, none⟩ = some (.int .i64 bg) ∧ w'.cell? ⟨aKw, 1, none⟩ = some (.slice (some aMB) bV.length iX) ∧ w'.cell? (aPP.add (aFi).toNat) = some (.int .i64 (rd aKE aFi)) ∧ w'.cell? (aMB.add ((aFi).toNat * 2)) = some (.int .i64 ((FW bV aFi).f0)) ∧ w'.cell? ⟨(aMB.add ((aFi).toNat * 2)).block, (aMB.add ((aFi).toNat * 2)).off + 1, none⟩ = some (.slice aM4 ((FW bV aFi).f1).length aM5)) (ds := []) #[false, false, false, false, false, false, false, false, false, false, false, false] (by kernel_rfl) rfl rfl ⟨(ae aBR.out 0).trans rfl, (ae aBR.out 1).trans rfl, (ae aBR.out 2).trans rfl, (ae aBR.out 3).trans rfl, (ae aBW.out 0).trans rfl, (ae aBW.out 1).trans rfl, aMA, (ah HB.out aMM), (ah HB.out aML)⟩ (fun hHeld => ?_); refine dw j3.adq j3.Yw (fun dA ji => ?_);generalize wr.drew = w37 at aMi aBR aBW HB aMN aMA aLk aLQ hHeld ⊢;refine fG (fuel := 2) [(1, 51), (2, 52), (3, 53), (5, 55), (7, 57), (0, 50), (4, 54), (6, 56), (8, 58), (9, 59)] #[true, true, true, true, true, true, true, true, true, true, false, false] (df dA.out ji.out _ _ _ (by kernel_rfl)) rfl (fun _ _ _ _ _ h => h) hHeld (a' := ?_) ?_ ?_;rotate_left
               ·iterate 10
                 refine bC (v := ?_) (a1 := ?_) rfl rfl (Or.inl ⟨by rfl, ?_⟩) ?_ ?_;rotate_left 2
                 ·rintro w' ⟨s0, s1, s2, s3, s4, s5, s6, s7, s8⟩;go_simp;with_reducible rfl
                 ·simp only [Act.put, List.setIfInBounds_toArray, List.set_cons_zero, List.set_cons_succ, bH, bI];rfl
                exact chain_nil
               refine fT (i := 10) (N := some 60) #[true, true, true, true, true, true, true, true, true, true, true, false] rfl rfl (dn dA.out (by kernel_rfl)) (by decide) (fun K hK => ?_);refine uC Try.func55 (by kernel_rfl) rfl #[.agg #[.int .i64 aR, .int .i64 iR, .int .i64 vX, .slice (some aN8) bf.length ao4], .int .i64 (rd aKE aFi), .agg #[.int .i64 ((FW bV aFi).f0), .slice aM4 ((FW bV aFi).f1).length aM5]] (by rfl) rfl rfl (by (try simp only [List.map_toArray, List.map_cons, List.map_nil]); first | done | rfl | (simp only [List.length_drop, List.length_take]; rfl)) ?_;with_reducible refine (ih k4 (by have := Gq.out; have := at6.out; have := avU.out; have := HK4.out; omega) aR iR vX _ _ bf (rd aKE aFi) ((FW bV aFi).f0) _ _ ((FW bV aFi).f1) true _ ?side1 ?side2 ?side3 ?side4 A35.out).mono ?_
               (case side1 => repeat (first | exact (Kd.bF aqx.out HB.out) | (with_reducible refine Kd.dF ?_ _) | (with_reducible refine Kd.dG ?_ _) | (with_reducible refine Kd.eG ?_)));(case side2 => exact aqH.out);(case side3 => repeat (first | exact (Kd.bF aMN.out HB.out) | (with_reducible refine Kd.dF ?_ _) | (with_reducible refine Kd.dG ?_ _) | (with_reducible refine Kd.eG ?_)));(case side4 => exact aOe.out);rintro e w38 ⟨rfl, hb⟩;have aOg := (hb.cell (World.block_lt_of_cell? _ _ (hHeld.2.2.2.2.2.2.1))).trans (hHeld.2.2.2.2.2.2.1);refine ⟨_, rfl, ?_⟩;have bP := aa.mk (Kd.bu (by (with_reducible repeat (first | apply Kd.ay5 | apply Kd.eu | apply Kd.aaH)); exact aMi.out) hb);have bQ := aa.mk (aC (bk aBR) hb);have bT := aa.mk (aC (bk aBW) hb);have di := aa.mk (aM (bO HB) hb);clear aMi aBR aBW HB;have aMi := bP;have aBR := bQ;have aBW := bT;have HB := di;clear bP bQ bT di;(try clear hb);(try clear hb2);(try clear hk);(try clear hi);refine hK.out _ _ ⟨(ae aBR.out 0).trans rfl, (ae aBR.out 1).trans rfl, (ae aBR.out 2).trans rfl, (ae aBR.out 3).trans rfl, (ae aBW.out 0).trans rfl, (ae aBW.out 1).trans rfl, aOg, (ah HB.out aMM), (ah HB.out aML)⟩ (fun hHeld => ?_);clear hK K;refine bS (a' := ?_) ?_ ?_;rotate_left
               ·show Act.put _ (some 60) _ = _;simp only [Act.put, List.setIfInBounds_toArray, List.set_cons_zero, List.set_cons_succ, bH, bI];rfl
               refine arz (i := 11) (N := some 61) (v := ?_) (a' := ?_) #[true, true, true, true, true, true, true, true, true, true, true, true] rfl rfl (ku dA.out (by kernel_rfl)) (fun _ _ _ h => h) (Or.inl ⟨by rfl, ?_⟩) ?_ ?_;rotate_left
               ·intro w';go_simp;with_reducible rfl
               rotate_left
               ·simp only [Act.put, List.setIfInBounds_toArray, List.set_cons_zero, List.set_cons_succ, bH, bI];rfl
               refine gH (dV dA.out (by kernel_rfl)) ?_;try go_wp2
               go_roundg k4
               case measure => have := Gq.out; have := at6.out; have := avU.out; have := HK4.out; omega
               case rel => exact ⟨(wrap64 (aFi + 1)), (by first | rfl | (simp; done) | (simp [*]; done)), H', ⟨by have := Gq.out; have := at6.out; have := avU.out; have := HK4.out; omega⟩, ⟨by (with_reducible repeat (first | apply Kd.ay5 | apply Kd.eu | apply Kd.aaH)); exact aMi.out⟩, ⟨by (with_reducible repeat (first | refine ax ?_ _ | refine az ?_ | refine au ?_ _)); exact aBR.out⟩, ⟨by (with_reducible repeat (first | refine ax ?_ _ | refine az ?_ | refine au ?_ _)); exact aBW.out⟩, ⟨bO HB⟩⟩
              ·replace c36 := Bool.eq_false_iff.mpr c36;subst c36;have H1 : (some false) = some r := by rw [if_neg (show ¬ (false = true) by decide)] at H; exact H
               clear H;have H := H1;clear H1;obtain rfl := Option.some.inj H;try go_wp2
               have bP := aa.mk (Kd.aaH aMi.out);have bQ := aa.mk (az aBR.out);have bT := aa.mk (az aBW.out);have di := aa.mk (fK HB.out);clear aMi aBR aBW HB;have aMi := bP;have aBR := bQ;have aBW := bT;have HB := di;clear bP bQ bT di;have aO9 : 0 ≤ (aFi : Int) := of_decide_eq_true (by first | (with_reducible assumption) | assumption);have aPa : aFi < (aKE.length : Int) := of_decide_eq_true (by first | (with_reducible assumption) | assumption);obtain ⟨aPP, aRD, aMA⟩ := Kd.nC (Kd.dD aMi.out).2.2 aFi aO9 aPa
               cases aRD;replace aO9 := eq_true aO9;replace aPa := eq_true aPa;have aPb : 0 ≤ (aFi : Int) := of_decide_eq_true (by first | (with_reducible assumption) | assumption);have aPc : aFi < (bV.length : Int) := of_decide_eq_true (by first | (with_reducible assumption) | assumption);obtain ⟨aMB, aM4, aM5, aRE, aLk, aLQ, aMC, aMK⟩ := ah8 AJ.out aFi aPb aPc;have aML := aLQ;have aMM := aLk
               cases aRE;replace aLk := ah HB.out aLk;replace aLQ := ah HB.out aLQ;have aMN := aa.mk aMK;have aOe := aa.mk aMC;clear aMK aMC;replace aPb := eq_true aPb;replace aPc := eq_true aPc;refine fu (n := 12) (S := fun w' => w'.cell? ⟨aFo, 0, none⟩ = some (.int .i64 aR) ∧ w'.cell? ⟨aFo, 1, none⟩ = some (.int .i64 iR) ∧ w'.cell? ⟨aFo, 2, none⟩ = some (.int .i64 vX) ∧ w'.cell? ⟨aFo, 3, none⟩ = some (.slice (some aN8) bf.length ao4) ∧ w'.cell? ⟨aKw, 0, none⟩ = some (.int .i64 bg) ∧ w'.cell? ⟨aKw, 1, none⟩ = some (.slice (some aMB) bV.length iX) ∧ w'.cell? (aPP.add (aFi).toNat) = some (.int .i64 (rd aKE aFi)) ∧ w'.cell? (aMB.add ((aFi).toNat * 2)) = some (.int .i64 ((FW bV aFi).f0)) ∧ w'.cell? ⟨(aMB.add ((aFi).toNat * 2)).block, (aMB.add ((aFi).toNat * 2)).off + 1, none⟩ = some (.slice aM4 ((FW bV aFi).f1).length aM5)) (ds := []) #[false, false, false, false, false, false, false, false, false, false, false, false] (by kernel_rfl) rfl rfl ⟨(ae aBR.out 0).trans rfl, (ae aBR.out 1).trans rfl, (ae aBR.out 2).trans rfl, (ae aBR.out 3).trans rfl, (ae aBW.out 0).trans rfl, (ae aBW.out 1).trans rfl, aMA, (ah HB.out aMM), (ah HB.out aML)⟩ (fun hHeld => ?_); refine dw j3.adq j3.Yw (fun dA ji => ?_);generalize wr.drew = w39 at aMi aBR aBW HB aMN aMA aLk aLQ hHeld ⊢;refine fG (fuel := 2) [(1, 51), (2, 52), (3, 53), (5, 55), (7, 57), (0, 50), (4, 54), (6, 56), (8, 58), (9, 59)] #[true, true, true, true, true, true, true, true, true, true, false, false] (df dA.out ji.out _ _ _ (by kernel_rfl)) rfl (fun _ _ _ _ _ h => h) hHeld (a' := ?_) ?_ ?_;rotate_left
               ·iterate 10
                 refine bC (v := ?_) (a1 := ?_) rfl rfl (Or.inl ⟨by rfl, ?_⟩) ?_ ?_;rotate_left 2
                 ·rintro w' ⟨s0, s1, s2, s3, s4, s5, s6, s7, s8⟩;go_simp;with_reducible rfl
                 ·simp only [Act.put, List.setIfInBounds_toArray, List.set_cons_zero, List.set_cons_succ, bH, bI];rfl
                exact chain_nil
               refine fT (i := 10) (N := some 60) #[true, true, true, true, true, true, true, true, true, true, true, false] rfl rfl (dn dA.out (by kernel_rfl)) (by decide) (fun K hK => ?_);refine uC Try.func55 (by kernel_rfl) rfl #[.agg #[.int .i64 aR, .int .i64 iR, .int .i64 vX, .slice (some aN8) bf.length ao4], .int .i64 (rd aKE aFi), .agg #[.int .i64 ((FW bV aFi).f0), .slice aM4 ((FW bV aFi).f1).length aM5]] (by rfl) rfl rfl (by (try simp only [List.map_toArray, List.map_cons, List.map_nil]); first | done | rfl | (simp only [List.length_drop, List.length_take]; rfl)) ?_;with_reducible refine (ih k4 (by have := Gq.out; have := at6.out; have := avU.out; have := HK4.out; omega) aR iR vX _ _ bf (rd aKE aFi) ((FW bV aFi).f0) _ _ ((FW bV aFi).f1) false _ ?side1 ?side2 ?side3 ?side4 A35.out).mono ?_
               (case side1 => repeat (first | exact (Kd.bF aqx.out HB.out) | (with_reducible refine Kd.dF ?_ _) | (with_reducible refine Kd.dG ?_ _) | (with_reducible refine Kd.eG ?_)));(case side2 => exact aqH.out);(case side3 => repeat (first | exact (Kd.bF aMN.out HB.out) | (with_reducible refine Kd.dF ?_ _) | (with_reducible refine Kd.dG ?_ _) | (with_reducible refine Kd.eG ?_)));(case side4 => exact aOe.out);rintro e w40 ⟨rfl, hb⟩;have aOg := (hb.cell (World.block_lt_of_cell? _ _ (hHeld.2.2.2.2.2.2.1))).trans (hHeld.2.2.2.2.2.2.1);refine ⟨_, rfl, ?_⟩;have bP := aa.mk (Kd.bu (by (with_reducible repeat (first | apply Kd.ay5 | apply Kd.eu | apply Kd.aaH)); exact aMi.out) hb);have bQ := aa.mk (aC (bk aBR) hb);have bT := aa.mk (aC (bk aBW) hb);have di := aa.mk (aM (bO HB) hb);clear aMi aBR aBW HB;have aMi := bP;have aBR := bQ;have aBW := bT;have HB := di;clear bP bQ bT di;(try clear hb);(try clear hb2);(try clear hk);(try clear hi);refine hK.out _ _ ⟨(ae aBR.out 0).trans rfl, (ae aBR.out 1).trans rfl, (ae aBR.out 2).trans rfl, (ae aBR.out 3).trans rfl, (ae aBW.out 0).trans rfl, (ae aBW.out 1).trans rfl, aOg, (ah HB.out aMM), (ah HB.out aML)⟩ (fun hHeld => ?_);clear hK K;refine bS (a' := ?_) ?_ ?_;rotate_left
               ·show Act.put _ (some 60) _ = _;simp only [Act.put, List.setIfInBounds_toArray, List.set_cons_zero, List.set_cons_succ, bH, bI];rfl
               refine arz (i := 11) (N := some 61) (v := ?_) (a' := ?_) #[true, true, true, true, true, true, true, true, true, true, true, true] rfl rfl (ku dA.out (by kernel_rfl)) (fun _ _ _ h => h) (Or.inl ⟨by rfl, ?_⟩) ?_ ?_;rotate_left
               ·intro w';go_simp;with_reducible rfl
               rotate_left
               ·simp only [Act.put, List.setIfInBounds_toArray, List.set_cons_zero, List.set_cons_succ, bH, bI];rfl
               refine gH (dV dA.out (by kernel_rfl)) ?_;try go_wp2
               go_ret;exact ⟨by first | rfl | (simp [aW, aX] <;> rfl) | (simp [*, aW, aX] <;> rfl), bO HB⟩
             ·rw [if_neg c34] at H;exact absurd H (by simp)
            ·rw [if_neg c33] at H;exact absurd H (by simp)
           ·rw [if_neg c32] at H;have ayL : decide (aFi < (aKE.length : Int)) = false := decide_eq_false c32;clear c32;obtain rfl := Option.some.inj H;go_wp2;go_ret;exact ⟨by first | rfl | (simp [aW, aX] <;> rfl) | (simp [*, aW, aX] <;> rfl), bO HB⟩
      ·rw [if_neg vO] at H;exact absurd H (by simp)
     ·rw [if_neg c21] at H;exact absurd H (by simp)
end Go.Proofs.Ytamimodkcbbpmaa.Pr
end
section
namespace Go.Proofs.Ytamimodkcbbpmaa.Pr
open Go.RowKit Go.Proofs.YtamimodkcbbpmaaW.PrintWords Go.Proofs.YtamimodkcbbpmaaW.PrintLast
set_option linter.unusedVariables false
set_option linter.unusedSimpArgs false
theorem aPQ (r : KH) : aFg.f r.f0 r.f1 r.f2 r.f3 r.f4 r.f5 = some (arc r) := by
 unfold aFg.f arc;by_cases k3 : r.f0 = 3
 ·rw [if_pos k3, if_pos k3]
 ·rw [if_neg k3, if_neg k3];by_cases k4 : r.f0 = 4
  ·rw [if_pos k4, if_pos k4]
  ·rw [if_neg k4, if_neg k4]
inductive VP (rs : List KH) : Int → S64 → Prop
 | mk (d : S64) (h0 : 0 ≤ d.f0) (h1 : d.f0 < (rs.length : Int)) (hl : d.f1.length = (arc (Dj rs d.f0)).length) (hk : ∀ j, j < d.f1.length → VP rs ((arc (Dj rs d.f0)).getD j 0) (d.f1.getD j z64)) : VP rs (Dj rs d.f0).f1 d
theorem VP.inv {rs : List KH} {v : Int} {d : S64} (h : VP rs v d) : 0 ≤ d.f0 ∧ d.f0 < (rs.length : Int) ∧ (Dj rs d.f0).f1 = v ∧ d.f1.length = (arc (Dj rs d.f0)).length ∧ ∀ j, j < d.f1.length → VP rs ((arc (Dj rs d.f0)).getD j 0) (d.f1.getD j z64) := by
 cases h with
 | mk _ h0 h1 hl hk => exact ⟨h0, h1, rfl, hl, hk⟩
section
variable (T N S : Int) (rs : List KH)
theorem aPi (d : S64) (hl : d.f1.length = (arc (Dj rs d.f0)).length)
  (hk : ∀ j, j < d.f1.length → ∃ b, Ev (fun k => j3.f k T N S rs ((arc (Dj rs d.f0)).getD j 0) (d.f1.getD j z64).f0 (d.f1.getD j z64).f1) b ∧ (b = true ↔ VP rs ((arc (Dj rs d.f0)).getD j 0) (d.f1.getD j z64))) :
  ∀ m i, i + m = d.f1.length → ∃ b, Ev (fun k => j3.l0 k (arc (Dj rs d.f0)) (i : Int) T N S rs d.f0 d.f1) b ∧ (b = true ↔ ∀ j, i ≤ j → j < d.f1.length → VP rs ((arc (Dj rs d.f0)).getD j 0) (d.f1.getD j z64))
 | 0, i, hi => by
  refine ⟨true, (Ev.const true).succ (fun k => ?_), ⟨fun _ j h2 h3 => absurd h3 (by omega), fun _ => rfl⟩⟩;show j3.l0 (k + 1) _ _ _ _ _ _ _ _ = _;rw [j3.l0, if_neg (by omega)]
 | m + 1, i, hi => by
  have h2 := avn (Dj rs d.f0);obtain ⟨b1, e1, hb1⟩ := hk i (by omega);have e2 : FW d.f1 (i : Int) = d.f1.getD i z64 := rfl;have e3 : rd (arc (Dj rs d.f0)) (i : Int) = (arc (Dj rs d.f0)).getD i 0 := rfl;have step : ∀ k, j3.l0 (k + 1) (arc (Dj rs d.f0)) (i : Int) T N S rs d.f0 d.f1 = (j3.f k T N S rs ((arc (Dj rs d.f0)).getD i 0) (d.f1.getD i z64).f0 (d.f1.getD i z64).f1).bind fun aNw => (if aNw = true then (j3.l0 k (arc (Dj rs d.f0)) ((i + 1 : Nat) : Int) T N S rs d.f0 d.f1) else (some false)) := fun k => by
   rw [j3.l0, if_pos (by omega), if_pos (by omega), if_pos (by omega), e2, e3, RY i (by omega)]
  cases b1 with
  | false => exact ⟨false, (Ev.bind (G := fun k aNw => if aNw = true then (j3.l0 k (arc (Dj rs d.f0)) ((i + 1 : Nat) : Int) T N S rs d.f0 d.f1) else (some false)) e1 (Ev.const false)).succ step, ⟨fun h => (by cases h), fun h => hb1.2 (h i (Nat.le_refl _) (by omega))⟩⟩
  | true =>
   obtain ⟨b, e, hb⟩ := aPi d hl hk m (i + 1) (by omega);refine ⟨b, (Ev.bind (G := fun k aNw => if aNw = true then (j3.l0 k (arc (Dj rs d.f0)) ((i + 1 : Nat) : Int) T N S rs d.f0 d.f1) else (some false)) e1 (e.mp (fun k => if_pos rfl))).succ step, ⟨fun h j h3 h4 => ?_, fun h => hb.2 (fun j h3 h4 => h j (by omega) h4)⟩⟩;by_cases hj : j = i
   ·subst hj; exact hb1.1 rfl
   ·exact hb.1 h j (by omega) h4
theorem aSQ {d : S64} (hf : auE d) : ∀ v, ∃ b, Ev (fun k => j3.f k T N S rs v d.f0 d.f1) b ∧ (b = true ↔ VP rs v d) := by
 induction hf with
 | mk d _ _ _ ih =>
  intro v;have bad : Ev (fun k => j3.j0 k true T N S rs d.f0 d.f1) false := (Ev.const false).succ (fun k => by rw [j3.j0, if_pos rfl]);by_cases h0 : d.f0 < 0
  ·exact ⟨false, bad.succ (fun k => by show j3.f (k + 1) _ _ _ _ _ _ _ = _; rw [j3.f, if_pos h0]), ⟨fun h => (by cases h), fun h => absurd h.inv.1 (by omega)⟩⟩
  ·by_cases h1 : d.f0 ≥ (rs.length : Int)
   ·exact ⟨false, bad.succ (fun k => by show j3.f (k + 1) _ _ _ _ _ _ _ = _; rw [j3.f, if_neg h0, if_pos h1]), ⟨fun h => (by cases h), fun h => absurd h.inv.2.1 (by omega)⟩⟩
   ·by_cases h2 : (Dj rs d.f0).f1 = v
    ·by_cases h3 : d.f1.length = (arc (Dj rs d.f0)).length
     ·obtain ⟨b, e, hb⟩ := aPi T N S rs d h3 (fun j hj => ih _ (ib _ _ _ hj) _) d.f1.length 0 (by omega);have e2 : Ev (fun k => j3.j2 k (arc (Dj rs d.f0)) T N S rs d.f0 d.f1) b := e.succ (fun k => by rw [j3.j2]; rfl);have e1 : Ev (fun k => j3.j1 k T N S rs d.f0 d.f1) b := e2.succ (fun k => by rw [j3.j1, if_pos (by omega), if_pos (by omega), aPQ, Option.bind_some, if_pos (by omega)]);have e0 : Ev (fun k => j3.j0 k false T N S rs d.f0 d.f1) b := e1.succ (fun k => by rw [j3.j0, if_neg (by decide)]);refine ⟨b, e0.succ (fun k => by show j3.f (k + 1) _ _ _ _ _ _ _ = _; rw [j3.f, if_neg h0, if_neg h1, if_pos (by omega), if_pos (by omega), bne_eq_false_iff_eq.2 h2]), hb.trans ⟨fun h => ?_, fun h j _ hj => h.inv.2.2.2.2 j hj⟩⟩;rw [← h2];exact VP.mk d (by omega) (by omega) h3 (fun j hj => h j (Nat.zero_le _) hj)
     ·have e1 : Ev (fun k => j3.j1 k T N S rs d.f0 d.f1) false := (Ev.const false).succ (fun k => by rw [j3.j1, if_pos (by omega), if_pos (by omega), aPQ, Option.bind_some, if_neg (by omega)]);have e0 : Ev (fun k => j3.j0 k false T N S rs d.f0 d.f1) false := e1.succ (fun k => by rw [j3.j0, if_neg (by decide)]);exact ⟨false, e0.succ (fun k => by show j3.f (k + 1) _ _ _ _ _ _ _ = _; rw [j3.f, if_neg h0, if_neg h1, if_pos (by omega), if_pos (by omega), bne_eq_false_iff_eq.2 h2]), ⟨fun h => (by cases h), fun h => absurd h.inv.2.2.2.1 h3⟩⟩
    ·exact ⟨false, bad.succ (fun k => by show j3.f (k + 1) _ _ _ _ _ _ _ = _; rw [j3.f, if_neg h0, if_neg h1, if_pos (by omega), if_pos (by omega), bne_iff_ne.2 h2]), ⟨fun h => (by cases h), fun h => absurd h.inv.2.2.1 h2⟩⟩
end
section
variable {rs : List KH} {ins : List Int}
theorem aMu (x : Int) (h0 : 0 ≤ x) (h1 : x < 4611686018427387904) : wrap64 x = x := by unfold wrap64; omega
theorem aRF (l m : List dK) : Mg (l ++ m) = Mg l + Mg m := by simp [Mg]
theorem aN9 : ∀ (l : List S64) (a : dK), 0 ≤ a.f0 → 0 ≤ a.f1 → (∀ d, d ∈ l → 0 ≤ (aCv rs ins d).f0 ∧ 0 ≤ (aCv rs ins d).f1) → a.f0 + Mg (l.map (aCv rs ins)) < 4611686018427387904 → a.f1 + UY (l.map (aCv rs ins)) < 4611686018427387904 → aLU rs ins a l = ⟨a.f0 + Mg (l.map (aCv rs ins)), a.f1 + UY (l.map (aCv rs ins))⟩
 | [], a, _, _, _, _, _ => by
  obtain ⟨a0, a1⟩ := a;simp [aLU, Mg, UY]
 | d :: l, a, h0, h1, h, b0, b1 => by
  have hd := h d (List.mem_cons_self ..);have hl : ∀ x, x ∈ l → 0 ≤ (aCv rs ins x).f0 ∧ 0 ≤ (aCv rs ins x).f1 := fun x hx => h x (List.mem_cons_of_mem _ hx)
  have hp : 0 ≤ Mg (l.map (aCv rs ins)) ∧ 0 ≤ UY (l.map (aCv rs ins)) := by
   clear b0 b1 h h0 h1 hd;induction l with
   | nil => exact ⟨Int.le_refl _, Int.le_refl _⟩
   | cons x l ih =>
    have hx := hl x (List.mem_cons_self ..);have := ih (fun y hy => hl y (List.mem_cons_of_mem _ hy));rw [List.map_cons, uN, uO];omega
  rw [List.map_cons, uN] at b0;rw [List.map_cons, uO] at b1;have e0 : wrap64 (a.f0 + (aCv rs ins d).f0) = a.f0 + (aCv rs ins d).f0 := aMu _ (by omega) (by omega);have e1 : wrap64 (a.f1 + (aCv rs ins d).f1) = a.f1 + (aCv rs ins d).f1 := aMu _ (by omega) (by omega);have ih := aN9 l (aOb a (aCv rs ins d)) (by unfold aOb; simp only; rw [e0]; omega) (by unfold aOb; simp only; rw [e1]; omega) hl (by unfold aOb; simp only; rw [e0]; omega) (by unfold aOb; simp only; rw [e1]; omega);rw [aLU, ih];unfold aOb;simp only;rw [e0, e1, List.map_cons, uN, uO];congr 1 <;> omega
theorem aPR (d : S64) : aCv rs ins d = aLU rs ins (aKX ins (Dj rs d.f0)) d.f1 := by
 obtain ⟨e, ks⟩ := d;rw [aCv]
theorem aMl {T N : Int} (h : aqN T N rs ins) {r : KH} (hr : r ∈ rs) : aKX ins r = ⟨(arh ins r).f2, 1⟩ := by
 have hc := h.cost hr;unfold aKX arh at *;simp only at hc ⊢;split
 ·rename_i e
  rw [if_pos e] at hc;rw [aMu _ hc.1 (by omega)]
 ·rfl
theorem aRG {T N : Int} (h : aqN T N rs ins) {v : Int} {d : S64} (hv : VP rs v d) : okT rs ins d = true := by
 induction hv with
 | mk d h0 h1 hl hk ih =>
  have hm : Dj rs d.f0 ∈ rs := by
   simp only [Dj];exact ib _ _ _ (by omega)
  have hR := h.ru _ hm;have hil := h.il;have all : ∀ l : List S64, (∀ v, v ∈ l → okT rs ins v = true) → okL rs ins l = true := by
   intro l;induction l with
   | nil => intro _; rw [okL]
   | cons x l ih => intro hx; rw [okL, hx x (List.mem_cons_self ..), ih (fun y hy => hx y (List.mem_cons_of_mem _ hy))]; rfl
  obtain ⟨e, ks⟩ := d;simp only at h0 h1 hm hR ih ⊢;rw [okT, decide_eq_true h0, decide_eq_true h1, all ks (lN _ z64 ih), Bool.and_true, Bool.true_and, Bool.true_and];by_cases k2 : (Dj rs e).f0 = 2
  ·have := hR.tm k2;have h3 : (Dj rs e).f2 < (ins.length : Int) := by omega
   rw [decide_eq_true this.1, decide_eq_true h3, Bool.true_and, Bool.or_true]
  ·rw [decide_eq_true k2, Bool.true_or]
end
end Go.Proofs.Ytamimodkcbbpmaa.Pr
end
section
namespace Go.Proofs.Ytamimodkcbbpmaa.Pr
open Go.RowKit Go.Proofs.YtamimodkcbbpmaaW.PrintWords Go.Proofs.YtamimodkcbbpmaaW.PrintLast Go.Proofs.YtamimodkcbbpmaaW.PrintMore Go.Proofs.YtamimodkcbbpmaaXW
attribute [local go_sem] aFh ky lX lY jf jg kz kC
set_option linter.unusedVariables false
set_option linter.unusedSimpArgs false
mutual
def aV.l0 : Nat → List Int → List Int → Int → Int → Int → List (dO) → Int → List (dU) → Option (Int × (List (dU)))
 | 0, _, _, _, _, _, _, _, _ => none
 | k + 1, x1, x21, x22, x23, Qb, Qc, Qd, Km => if x23 < x22 then (if 0 ≤ x23 then (if x23 < (x21.length : Int) then ((aV.f k Qb Qc x1 (rd x21 x23)).bind fun Y8 => (if Km.length < 4398046511104 then (aV.l0 k x1 x21 x22 (wrap64 (x23 + 1)) Qb Qc Qd (Km ++ [(⟨Y8.1, Y8.2⟩ : dU)])) else (none))) else (none)) else (none)) else (some (Qd, Km))
def aV.f : Nat → Int → List (dO) → List Int → Int → Option (Int × (List (dU)))
 | 0, _, _, _, _ => none
 | k + 1, aR, aH, l1, a2 => if 0 ≤ a2 then (if a2 < (l1.length : Int) then (if 0 ≤ (rd l1 a2) then (if (rd l1 a2) < (aH.length : Int) then (aV.l0 k l1 ((aj aH (rd l1 a2)).f1) (((aj aH (rd l1 a2)).f1).length : Int) 0 aR aH (rd l1 a2) ([] : List (dU))) else (none)) else (none)) else (none)) else (none)
end
theorem aV.apw : ∀ k, (∀ y0 y1 y2 y3, dz (aV.f k y0 y1 y2 y3) (aV.f (k + 1) y0 y1 y2 y3)) ∧ (∀ y0 y1 y2 y3 y4 y5 y6 y7, dz (aV.l0 k y0 y1 y2 y3 y4 y5 y6 y7) (aV.l0 (k + 1) y0 y1 y2 y3 y4 y5 y6 y7))
 | 0 => ⟨fun _ _ _ _ r h => by simp [aV.f] at h, fun _ _ _ _ _ _ _ _ r h => by simp [aV.l0] at h⟩
 | k + 1 => by
  obtain ⟨jP, ih1⟩ := aV.apw k;refine ⟨?_, ?_⟩;all_goals intros
  all_goals first | unfold aV.f | unfold aV.l0
  all_goals
   repeat' first
   | (with_reducible exact jP _ _ _ _)
   | (with_reducible exact ih1 _ _ _ _ _ _ _ _)
   | (with_reducible exact dz.refl _)
   | (with_reducible exact dz.none _)
   | (with_reducible refine dz.ite ?_ ?_)
   | (with_reducible refine dz.bind ?_ (fun _ => ?_))
   | exact jP _ _ _ _
   | exact ih1 _ _ _ _ _ _ _ _
   | exact dz.none _
   | refine dz.ite ?_ ?_
   | refine dz.bind ?_ (fun _ => ?_)
theorem aV.mono : ∀ a0 a1 a2 a3 k, dz (aV.f k a0 a1 a2 a3) (aV.f (k + 1) a0 a1 a2 a3) := by
 intro a0 a1 a2 a3 k;obtain ⟨jP, ih1⟩ := aV.apw k;exact jP a0 a1 a2 a3
def aV.T5 : Bool × List (List Nat × List Nat) := (true, [([], []), ([0], [0]), ([], []), ([], []), ([], []), ([2, 3, 4], [2, 3, 4]), ([5], [5]), ([1, 6, 5], [1, 6]), ([0, 1, 2, 3, 4, 5, 6, 7], []), ([8, 7, 7, 0, 1, 2, 3, 4, 5, 6, 7], [7, 8])])
def aV.B5 : List Nat := [0, 1, 0, 0, 0, 28, 60, 127, 255, 511]
theorem aV.aja : iC .any (opsOf Try.f80 5) = aV.T5 := by kernel_rfl
theorem aV.aeq : fo aV.T5.2 aV.B5 = true := by kernel_rfl
set_option maxHeartbeats 8000000 in
set_option maxRecDepth 100000 in
theorem aV.calls (k : Nat) : ∀ (aR : Int) (bW : Option Addr) (bN : Nat) (aH : List (dO)) (A1 : Option Addr) (c1 : Nat) (l1 : List Int) (a2 : Int) (r1 : Int) (r2 : List (dU)) (w : World) (fw : Kd.C sJ w bW aH.length aH) (fC : aH.length ≤ bN) (hr1 : Kd.C (Kd.int .i64) w A1 l1.length l1) (hc1 : l1.length ≤ c1) (h : aV.f k aR aH l1 a2 = some (r1, r2)),
  Calls Try.prog 80 #[.agg #[.int .i64 aR, .slice bW aH.length bN], .slice A1 l1.length c1, .int .i64 a2] w fun e w' => ∃ EF : Value, e = .returned (.agg #[.int .i64 r1, EF]) ∧ Kd.R k27 27 w' w.heap.size (fun _ => True) EF r2 ∧ Below w.heap.size w w' := by
 induction k using Nat.strongRecOn with
 | _ k ih =>
 intro aR bW bN aH A1 c1 l1 a2 r1 r2 w fw fC hr1 hc1 h
 cases k with
 | zero => exact absurd h (by simp [aV.f])
 | succ k =>
 simp only [aV.f] at h;have ES := Try.underlying24;have Hm := Try.underlying27;have arT := aa.mk fw;have fP := aa.mk fC;clear fw fC;have HR1 := aa.mk hr1;have EY := aa.mk hc1;clear hr1 hc1;have HB := aa.mk (Below.refl w.heap.size w);have H : (if 0 ≤ a2 then (if a2 < (l1.length : Int) then (if 0 ≤ (rd l1 a2) then (if (rd l1 a2) < (aH.length : Int) then (aV.l0 k l1 ((aj aH (rd l1 a2)).f1) (((aj aH (rd l1 a2)).f1).length : Int) 0 aR aH (rd l1 a2) ([] : List (dU))) else (none)) else (none)) else (none)) else (none)) = some (r1, r2) := h;clear h;by_cases c4 : 0 ≤ a2
 ·rw [if_pos c4] at H;have nu : decide (0 ≤ a2) = true := decide_eq_true c4;clear c4;by_cases c5 : a2 < (l1.length : Int)
  ·rw [if_pos c5] at H;have TM : decide (a2 < (l1.length : Int)) = true := decide_eq_true c5;clear c5;by_cases c6 : 0 ≤ (rd l1 a2)
   ·rw [if_pos c6] at H;have Dy : decide (0 ≤ (rd l1 a2)) = true := decide_eq_true c6;clear c6;by_cases c7 : (rd l1 a2) < (aH.length : Int)
    ·rw [if_pos c7] at H;have uy : decide ((rd l1 a2) < (aH.length : Int)) = true := decide_eq_true c7;clear c7;have H' := aa.mk H;clear H;go_enter Try.func80, Try.ntmps80
     go_wp2_with (first | ((with_reducible refine bM (N := 3) rfl ?_); refine bG ?hg (N := 3) ?hd (cs := #[.int .i64 aR, .slice bW aH.length bN]) (t := 24) ?hr ?_; (case hd => rfl); (case hg => rfl); (case hr => first | (go_simp; done) | (go_simp; rfl)); intro yD hg w8 bR hb; have bP := aa.mk (aM (bO HB) hb); have bQ := aa.mk (bR); have bT := aa.mk ((by rw [hg]; exact (aK (bO HB)) : w.heap.size ≤ yD)); have di := aa.mk ((by rw [hg]; exact (aK (bO HB)) : w.heap.size ≤ yD)); clear HB; have HB := bP; have iI := bQ; have amo := bT; have amq := di; clear bP bQ bT di; clear hb bR hg) | ((with_reducible refine bM (N := 6) rfl ?_); refine bG ?hg (N := 6) ?hd (cs := #[.int .i64 0, .slice none 0 0]) (t := 27) ?hr ?_; (case hd => rfl); (case hg => rfl); (case hr => first | (go_simp; done) | (go_simp; rfl)); intro qg hg w9 bR hb; have bP := aa.mk (aC (bk iI) hb); have bQ := aa.mk (aM (bO HB) hb); have bT := aa.mk (bR); have di := aa.mk ((by rw [hg]; exact (aK (bO HB)) : w.heap.size ≤ qg)); have n4_ := aa.mk ((by rw [hg]; exact (aK (bO HB)) : w.heap.size ≤ qg)); have n5_ := aa.mk ((by rw [hg]; exact Nat.ne_of_lt (bE (bk iI)) : yD ≠ qg)); have iG := aa.mk ((by rw [hg]; exact Nat.ne_of_gt (bE (bk iI)) : qg ≠ yD)); clear iI; clear HB; have iI := bP; have HB := bQ; have lh := bT; have amr := di; have ams := n4_; have IX := n5_; have IY := iG; clear bP bQ bT di n4_ n5_ iG; clear hb bR hg; have Xd : 0 ≤ (a2 : Int) := of_decide_eq_true (by first | (with_reducible assumption) | assumption); have Xe : a2 < (l1.length : Int) := of_decide_eq_true (by first | (with_reducible assumption) | assumption); obtain ⟨aer, ajb, Kn⟩ := Kd.nC HR1.out a2 Xd Xe; cases ajb; replace Kn := ah HB.out Kn; replace Xd := eq_true Xd; replace Xe := eq_true Xe) | ((with_reducible refine bM (N := 7) rfl ?_); refine bG ?hg (N := 7) ?hd (cs := #[.int .i64 0, .slice none 0 0]) (t := 27) ?hr ?_; (case hd => rfl); (case hg => rfl); (case hr => first | (go_simp; done) | (go_simp; rfl)); intro jF hg Io bR hb; have bP := aa.mk (aC (bk iI) hb); have bQ := aa.mk (aC (bk lh) hb); have bT := aa.mk (aM (bO HB) hb); have di := aa.mk (bR); have n4_ := aa.mk ((by rw [hg]; exact (aK (bO HB)) : w.heap.size ≤ jF)); have n5_ := aa.mk ((by rw [hg]; exact (aK (bO HB)) : w.heap.size ≤ jF)); have iG := aa.mk ((by rw [hg]; exact Nat.ne_of_lt (bE (bk iI)) : yD ≠ jF)); have sQ := aa.mk ((by rw [hg]; exact Nat.ne_of_gt (bE (bk iI)) : jF ≠ yD)); have xB := aa.mk ((by rw [hg]; exact Nat.ne_of_lt (bE (bk lh)) : qg ≠ jF)); have xC := aa.mk ((by rw [hg]; exact Nat.ne_of_gt (bE (bk lh)) : jF ≠ qg)); clear iI; clear lh; clear HB; have iI := bP; have lh := bQ; have HB := bT; have iY := di; have Y9 := n4_; have amt := n5_; have rD := iG; have DY := sQ; have rE := xB; have DZ := xC; clear bP bQ bT di n4_ n5_ iG sQ xB xC; clear hb bR hg; have Za := DY.out; have Zb := rD.out; have Tp := DZ.out; have Tq := rE.out; have yT : Io.cell? ⟨jF, 0, none⟩ = some (.int .i64 0) := (ae iY.out 0).trans rfl; have yU : Io.cell? ⟨jF, 1, none⟩ = some (.slice none 0 0) := (ae iY.out 1).trans rfl; have yV := ai iY.out 0; have yX := ai iY.out 1; have Tf := IX.out; have Tg := IY.out; have pE : Io.cell? ⟨yD, 0, none⟩ = some (.int .i64 aR) := (ae iI.out 0).trans rfl; have pF : Io.cell? ⟨yD, 1, none⟩ = some (.slice bW aH.length bN) := (ae iI.out 1).trans rfl; have pG := ai iI.out 0; have pI := ai iI.out 1; have Xf : 0 ≤ ((rd l1 a2) : Int) := of_decide_eq_true (by first | (with_reducible assumption) | assumption); have Xg : (rd l1 a2) < (aH.length : Int) := of_decide_eq_true (by first | (with_reducible assumption) | assumption); obtain ⟨LB, ajc, ajd, e153, qW, xe, xg, xh, xk, Qe, Qf⟩ := kK arT.out (rd l1 a2) Xf Xg; cases e153; have j6 : LB.block ≠ jF := Nat.ne_of_lt (Nat.lt_of_lt_of_le (by have := World.block_lt_of_cell? _ _ qW; first | rwa [add_block] at this | exact this) Y9.out); have kg : LB.block ≠ jF := Nat.ne_of_lt (Nat.lt_of_lt_of_le (by have := World.block_lt_of_cell? _ _ qW; first | rwa [add_block] at this | exact this) Y9.out); replace qW := ah HB.out qW; replace xe := ah HB.out xe; replace xg := ah HB.out xg; replace xh := ah HB.out xh; replace xk := ah HB.out xk; have Xh := aa.mk Qf; have ag0 := aa.mk Qe; clear Qf Qe; replace qW := (cell_far (p := ⟨jF, 0, none⟩) (by first | (rw [add_block]; exact j6) | (show (Addr.add _ _).block ≠ _; rw [add_block]; exact j6) | exact j6) (.int .i64 (rd l1 a2))).trans qW; replace xe := (cell_far (p := ⟨jF, 0, none⟩) (by first | (rw [add_block]; exact j6) | (show (Addr.add _ _).block ≠ _; rw [add_block]; exact j6) | exact j6) (.int .i64 (rd l1 a2))).trans xe; replace xg := (cell_far (p := ⟨jF, 0, none⟩) (by first | (rw [add_block]; exact j6) | (show (Addr.add _ _).block ≠ _; rw [add_block]; exact j6) | exact j6) (.int .i64 (rd l1 a2))).trans xg; replace xh := (cell_far (p := ⟨jF, 0, none⟩) (by first | (rw [add_block]; exact j6) | (show (Addr.add _ _).block ≠ _; rw [add_block]; exact j6) | exact j6) (.int .i64 (rd l1 a2))).trans xh; replace xk := (cell_far (p := ⟨jF, 0, none⟩) (by first | (rw [add_block]; exact j6) | (show (Addr.add _ _).block ≠ _; rw [add_block]; exact j6) | exact j6) (.int .i64 (rd l1 a2))).trans xk; replace qW := (cell_far (p := ⟨jF, 1, none⟩) (by first | (rw [add_block]; exact kg) | (show (Addr.add _ _).block ≠ _; rw [add_block]; exact kg) | exact kg) (.slice none 0 0)).trans qW; replace xe := (cell_far (p := ⟨jF, 1, none⟩) (by first | (rw [add_block]; exact kg) | (show (Addr.add _ _).block ≠ _; rw [add_block]; exact kg) | exact kg) (.slice none 0 0)).trans xe; replace xg := (cell_far (p := ⟨jF, 1, none⟩) (by first | (rw [add_block]; exact kg) | (show (Addr.add _ _).block ≠ _; rw [add_block]; exact kg) | exact kg) (.slice none 0 0)).trans xg; replace xh := (cell_far (p := ⟨jF, 1, none⟩) (by first | (rw [add_block]; exact kg) | (show (Addr.add _ _).block ≠ _; rw [add_block]; exact kg) | exact kg) (.slice none 0 0)).trans xh; replace xk := (cell_far (p := ⟨jF, 1, none⟩) (by first | (rw [add_block]; exact kg) | (show (Addr.add _ _).block ≠ _; rw [add_block]; exact kg) | exact kg) (.slice none 0 0)).trans xk; clear j6; clear kg; replace Xf := eq_true Xf; replace Xg := eq_true Xg))
     go_loopg [23] k (fun kq v23 w' => ∃ (oo : Int) (lv : List (dU)) (qX : Value), v23 = .int .i64 oo ∧ aa (aV.l0 kq l1 ((aj aH (rd l1 a2)).f1) (((aj aH (rd l1 a2)).f1).length : Int) oo aR aH (rd l1 a2) lv = some (r1, r2)) ∧ aa (kq ≤ k) ∧ aa (Kd.R k27 27 w' w.heap.size (fun k_ => k_ ≠ qg ∧ k_ ≠ jF) qX lv) ∧ aa (w'.heap[yD]? = some (.cells #[.int .i64 aR, (.slice (some LB) aH.length bN)] 24 (0, 0))) ∧ aa (w'.heap[qg]? = some (.cells #[.int .i64 0, (.slice none 0 0)] 27 (0, 0))) ∧ aa (w'.heap[jF]? = some (.cells #[.int .i64 (rd l1 a2), qX] 27 (0, 0))) ∧ aa (Below w.heap.size w w'))
     case atStart => exact ⟨(0), (([] : List (dU))), (.slice none 0 0), (by first | rfl | (simp; done) | (simp [*]; done)), H', ⟨Nat.le_refl _⟩, ⟨by first | exact Kd.qf _ _ _ _ _ | exact Kd.xY _ _ _ _ _ | exact Kd.xZ _ _ _ _ _ | exact Kd.xS _ _ _ _ _ | exact Kd.xW _ _ _ _ _⟩, ⟨by (with_reducible repeat (first | refine ax ?_ _ | refine az ?_ | refine au ?_ _)); refine bD ?_ rD.out _; (with_reducible repeat (first | refine ax ?_ _ | refine az ?_ | refine au ?_ _)); refine bD ?_ rD.out _; (with_reducible repeat (first | refine ax ?_ _ | refine az ?_ | refine au ?_ _)); exact iI.out⟩, ⟨by (with_reducible repeat (first | refine ax ?_ _ | refine az ?_ | refine au ?_ _)); refine bD ?_ rE.out _; (with_reducible repeat (first | refine ax ?_ _ | refine az ?_ | refine au ?_ _)); refine bD ?_ rE.out _; (with_reducible repeat (first | refine ax ?_ _ | refine az ?_ | refine au ?_ _)); exact lh.out⟩, ⟨by (with_reducible repeat (first | refine ax ?_ _ | refine az ?_ | refine au ?_ _)); refine bL (cs := #[.int .i64 (rd l1 a2), .slice none 0 0]) ?_ 1 _ rfl; (with_reducible repeat (first | refine ax ?_ _ | refine az ?_ | refine au ?_ _)); refine bL (cs := #[.int .i64 0, .slice none 0 0]) ?_ 0 _ rfl; (with_reducible repeat (first | refine ax ?_ _ | refine az ?_ | refine au ?_ _)); exact iY.out⟩, ⟨bO HB⟩⟩
     case round =>
      clear H';(try clear c1); (try clear p1); (try clear q1); (try clear hx1); (try clear p2); (try clear c4); (try clear nu); (try clear c5); (try clear TM); (try clear c6); (try clear Dy); (try clear c7); (try clear uy); (try clear c8); (try clear c11); (try clear c12); (try clear c14); (try clear c15); (try clear p15); (try clear q15); (try clear apl); (try clear yT); (try clear yU); (try clear pE); (try clear pF); (try clear yV); (try clear yX); (try clear pG); (try clear pI); (try clear Kn); (try clear qW); (try clear xe); (try clear xg); (try clear xh); (try clear xk); (try clear Xd); (try clear Xf); (try clear Xe); (try clear Xg);obtain ⟨oo, lv, qX, rfl, HA, yf, iE, iI, lh, iY, HB⟩ := hrel
      cases gk with
      | zero => exact absurd HA.out (by simp [aV.l0])
      | succ k1 =>
       have H := HA.out;clear HA;simp only [aV.l0] at H;by_cases c16 : oo < (((aj aH (rd l1 a2)).f1).length : Int)
       ·rw [if_pos c16] at H;have EC : decide (oo < (((aj aH (rd l1 a2)).f1).length : Int)) = true := decide_eq_true c16;clear c16;by_cases c17 : 0 ≤ oo
        ·rw [if_pos c17] at H;have Zc : decide (0 ≤ oo) = true := decide_eq_true c17;clear c17;by_cases c18 : oo < (((aj aH (rd l1 a2)).f1).length : Int)
         ·rw [if_pos c18] at H;have Yt : decide (oo < (((aj aH (rd l1 a2)).f1).length : Int)) = true := decide_eq_true c18;clear c18;replace H := Option.bind_eq_some_iff.mp H;obtain ⟨⟨Rw, t156⟩, aes, H⟩ := H;replace H : (if lv.length < 4398046511104 then (aV.l0 k1 l1 ((aj aH (rd l1 a2)).f1) (((aj aH (rd l1 a2)).f1).length : Int) (wrap64 (oo + 1)) aR aH (rd l1 a2) (lv ++ [(⟨Rw, t156⟩ : dU)])) else (none)) = some (r1, r2) := H;have A19 := aa.mk aes;clear aes;by_cases c20 : lv.length < 4398046511104
          ·rw [if_pos c20] at H;have aet := aa.mk c20;clear c20;obtain ⟨y159, hy159⟩ : ∃ y_ : List (dU), y_ = (lv ++ [(⟨Rw, t156⟩ : dU)]) := ⟨_, rfl⟩;replace H : (aV.l0 k1 l1 ((aj aH (rd l1 a2)).f1) (((aj aH (rd l1 a2)).f1).length : Int) (wrap64 (oo + 1)) aR aH (rd l1 a2) y159) = some (r1, r2) := by first | (rw [hy159]; with_reducible exact H) | (have Gn := (Option.bind_some _ _).symm.trans H; rw [hy159]; with_reducible exact Gn) | (have Gn := (Option.bind_some _ _).symm.trans H; with_reducible exact Gn) | with_reducible exact H | (rw [hy159]; exact H) | exact H
           have aeu := aa.mk hy159;clear hy159;have H' := aa.mk H;clear H;have abb : 0 ≤ (oo : Int) := of_decide_eq_true (by first | (with_reducible assumption) | assumption);have abd : oo < (((aj aH (rd l1 a2)).f1).length : Int) := of_decide_eq_true (by first | (with_reducible assumption) | assumption);obtain ⟨amu, e154, Qg⟩ := Kd.nC Xh.out oo abb abd
           cases e154;replace Qg := ah HB.out Qg;replace abb := eq_true abb;replace abd := eq_true abd;try go_wp2
           have bP := aa.mk (Kd.aaH iE.out);have bQ := aa.mk (az iI.out);have bT := aa.mk (az lh.out);have di := aa.mk (az iY.out);have n4_ := aa.mk (fK HB.out);clear iE iI lh iY HB;have iE := bP;have iI := bQ;have lh := bT;have iY := di;have HB := n4_;clear bP bQ bT di n4_;refine fu (n := 10) (S := fun w' => w'.cell? ⟨jF, 0, none⟩ = some (.int .i64 (rd l1 a2)) ∧ w'.cell? ⟨jF, 1, none⟩ = some (qX) ∧ w'.cell? ⟨yD, 0, none⟩ = some (.int .i64 aR) ∧ w'.cell? ⟨yD, 1, none⟩ = some (.slice (some LB) aH.length bN)) (ds := [9]) #[false, false, false, false, false, false, false, false, false, false] (by kernel_rfl) rfl rfl ⟨(ae iY.out 0).trans rfl, (ae iY.out 1).trans rfl, (ae iI.out 0).trans rfl, (ae iI.out 1).trans rfl⟩ (fun hHeld => ?_); refine dw aV.aja aV.aeq (fun dA ji => ?_);generalize wr.drew = Fb at iE iI lh iY HB hHeld ⊢;refine arz (i := 0) (N := some 27) (v := ?_) (a' := ?_) #[true, false, false, false, false, false, false, false, false, false] rfl rfl (ku dA.out (by kernel_rfl)) (fun _ _ _ h => h) (Or.inl ⟨by rfl, ?_⟩) ?_ ?_;rotate_left
           ·intro w';go_simp;with_reducible rfl
           rotate_left
           ·simp only [Act.put, List.setIfInBounds_toArray, List.set_cons_zero, List.set_cons_succ, bH, bI];rfl
           refine arz (i := 3) (N := some 30) (v := ?_) (a' := ?_) #[true, false, false, true, false, false, false, false, false, false] rfl rfl (ku dA.out (by kernel_rfl)) (fun _ _ _ h => h) (Or.inl ⟨by rfl, ?_⟩) ?_ ?_;rotate_left
           ·intro w';go_simp;with_reducible rfl
           rotate_left
           ·simp only [Act.put, List.setIfInBounds_toArray, List.set_cons_zero, List.set_cons_succ, bH, bI];rfl
           refine arz (i := 4) (N := some 31) (v := ?_) (a' := ?_) #[true, false, false, true, true, false, false, false, false, false] rfl rfl (ku dA.out (by kernel_rfl)) (fun _ _ _ h => h) (Or.inl ⟨by rfl, ?_⟩) ?_ ?_;rotate_left
           ·intro w';go_simp;with_reducible rfl
           rotate_left
           ·simp only [Act.put, List.setIfInBounds_toArray, List.set_cons_zero, List.set_cons_succ, bH, bI];rfl
           refine Eg (i := 1) (N := some 28) (v := ?_) (a' := ?_) #[true, true, false, true, true, false, false, false, false, false] rfl rfl (uD dA.out ji.out (by kernel_rfl)) (fun _ _ _ h => h) (Or.inl ⟨by rfl, ?_⟩) hHeld ?_ ?_;rotate_left
           ·rintro w' ⟨s0, s1, s2, s3⟩;go_simp;with_reducible rfl
           rotate_left
           ·simp only [Act.put, List.setIfInBounds_toArray, List.set_cons_zero, List.set_cons_succ, bH, bI];rfl
           refine Eg (i := 2) (N := some 29) (v := ?_) (a' := ?_) #[true, true, true, true, true, false, false, false, false, false] rfl rfl (uD dA.out ji.out (by kernel_rfl)) (fun _ _ _ h => h) (Or.inl ⟨by rfl, ?_⟩) hHeld ?_ ?_;rotate_left
           ·rintro w' ⟨s0, s1, s2, s3⟩;go_simp;with_reducible rfl
           rotate_left
           ·simp only [Act.put, List.setIfInBounds_toArray, List.set_cons_zero, List.set_cons_succ, bH, bI];rfl
           refine fT (i := 5) (N := some 32) #[true, true, true, true, true, true, false, false, false, false] rfl rfl (dn dA.out (by kernel_rfl)) (by decide) (fun K hK => ?_);refine uC Try.func80 (by kernel_rfl) rfl #[.agg #[.int .i64 aR, .slice (some LB) aH.length bN], .slice (some aer) l1.length c1, .int .i64 (rd ((aj aH (rd l1 a2)).f1) oo)] (by rfl) rfl rfl (by (try simp only [List.map_toArray, List.map_cons, List.map_nil]); first | done | rfl | (simp only [List.length_drop, List.length_take]; rfl)) ?_;with_reducible refine (ih k1 (by have := yf.out; omega) aR _ _ aH _ _ l1 (rd ((aj aH (rd l1 a2)).f1) oo) Rw t156 _ ?side1 ?side2 ?side3 ?side4 A19.out).mono ?_
           (case side1 => repeat (first | exact (Kd.bF arT.out HB.out) | (with_reducible refine Kd.dF ?_ _) | (with_reducible refine Kd.dG ?_ _) | (with_reducible refine Kd.eG ?_)));(case side2 => exact fP.out);(case side3 => repeat (first | exact (Kd.bF HR1.out HB.out) | (with_reducible refine Kd.dF ?_ _) | (with_reducible refine Kd.dG ?_ _) | (with_reducible refine Kd.eG ?_)));(case side4 => exact EY.out);rintro e w22 ⟨v157, rfl, ho0, hb⟩;refine ⟨_, rfl, ?_⟩;have bP := aa.mk (Kd.zX (by (with_reducible repeat (first | apply Kd.ay5 | apply Kd.eu | apply Kd.aaH)); exact iE.out) (Kd.FI ho0) hb);have bQ := aa.mk (Kd.iL (Kd.xU (Kd.xU (Kd.I8 ho0 (Kd.xK (by (with_reducible repeat (first | apply Kd.ay5 | apply Kd.eu | apply Kd.aaH)); exact iE.out))) (bk lh)) (bk iY)) (aK (bO HB)));have bT := aa.mk (aC (bk iI) hb);have di := aa.mk (aC (bk lh) hb);have n4_ := aa.mk (aC (bk iY) hb);have n5_ := aa.mk (aM (bO HB) hb);clear iE iI lh iY HB;have iE := bP;have Uv := bQ;have iI := bT;have lh := di;have iY := n4_;have HB := n5_;clear bP bQ bT di n4_ n5_;(try clear hb);(try clear hb2);(try clear hk);(try clear hi);(try clear ho0);obtain ⟨Xi, Xj, Uw⟩ := Kd.fQ Uv.out
           (first | subst Uw | (injection Uw with Ux f2_ Uy; have f4_ := Ux.symm; have f5_ := Uy.symm; clear Ux f2_ Uy; subst f4_; subst f5_))
           refine hK.out _ _ ⟨(ae iY.out 0).trans rfl, (ae iY.out 1).trans rfl, (ae iI.out 0).trans rfl, (ae iI.out 1).trans rfl⟩ (fun hHeld => ?_);clear hK K;refine bS (a' := ?_) ?_ ?_;rotate_left
           ·show Act.put _ (some 32) _ = _;simp only [Act.put, List.setIfInBounds_toArray, List.set_cons_zero, List.set_cons_succ, bH, bI];rfl
           refine fT (i := 6) (N := some 33) #[true, true, true, true, true, true, true, false, false, false] rfl rfl (dn dA.out (by kernel_rfl)) (by decide) (fun K hK => ?_);refine pY (w1 := ?_) (v := ?_) (by rfl) rfl ?_ ?_;rotate_left 2
           ·go_simp;constructor
            ·rfl
            ·rfl
           refine hK.out _ _ ⟨(ae (au iY.out _) 0).trans rfl, (ae (au iY.out _) 1).trans rfl, (ae (au iI.out _) 0).trans rfl, (ae (au iI.out _) 1).trans rfl⟩ (fun hHeld => ?_);clear hK K;refine bS (a' := ?_) ?_ ?_;rotate_left
           ·show Act.put _ (some 33) _ = _;simp only [Act.put, List.setIfInBounds_toArray, List.set_cons_zero, List.set_cons_succ, bH, bI];rfl
           refine fT (i := 7) (N := some 34) #[true, true, true, true, true, true, true, true, false, false] rfl rfl (dn dA.out (by kernel_rfl)) (by decide) (fun K hK => ?_);refine Kd.oL k27 (w0 := w) w.heap.size (by rfl) (.tmp 28) (.tmp 33) 25 27 (.agg #[(.int .i64 0), (.slice none 0 0)]) 32 rfl Try.underlying25 SI rfl (by decide) (by omega) qX lv (⟨Rw, t156⟩ : dU) [.int .i64 Rw, .slice Xi t156.length Xj] (fun k_ => k_ ≠ qg ∧ k_ ≠ jF) (fun k_ => ((fun k_ => k_ ≠ qg ∧ k_ ≠ jF)) k_ ∧ some k_ ≠ (qX : Value).ownBlock) rfl rfl ?aP (fun _ hk => hk) ?aF ?aO ?aB ?aS ?aL ?_;(case aP => exact OC _ _ _ (⟨Rw, t156⟩ : dU) (Kd.bB (Uv.out) (fun k_ hk => ⟨⟨hk.1.2, hk.2⟩, hk.1.1.2⟩)));(case aB => exact (bO HB));(case aF => exact (fun k_ hk => ⟨Kd.Dg (bk lh) k_ hk, Kd.Dg (bk iY) k_ hk⟩));(case aO => exact (by (with_reducible repeat (first | apply Kd.ay5 | apply Kd.eu | apply Kd.aaH)); exact Kd.bB iE.out (fun _ hk => ⟨hk.1.1, hk.1.2⟩)));(case aS => exact (aK (bO HB)));(case aL => have := aet.out; omega);intro v160 YJ ho hb hg hat;rw [← aeu.out] at ho;have bP := aa.mk (bX (bk iI) hg (Kd.aqP iE.out iI.out (by decide)));have bQ := aa.mk (bX (bk lh) hg (Kd.FJ iE.out (fun _ hk => hk.1.1)));have bT := aa.mk (bX (bk iY) hg (Kd.FJ iE.out (fun _ hk => hk.1.2)));have di := aa.mk (hb);have n4_ := aa.mk (ho);clear iI lh iY HB iE Uv;have iI := bP;have lh := bQ;have iY := bT;have HB := di;have Zd := n4_;clear bP bQ bT di n4_ ho hb hg hat;obtain ⟨aev, aew, aex⟩ := Kd.fQ Zd.out
           (first | subst aex | (injection aex with Ux f2_ Uy; have f4_ := Ux.symm; have f5_ := Uy.symm; clear Ux f2_ Uy; subst f4_; subst f5_))
           refine hK.out _ _ ⟨(ae iY.out 0).trans rfl, (ae iY.out 1).trans rfl, (ae iI.out 0).trans rfl, (ae iI.out 1).trans rfl⟩ (fun hHeld => ?_);clear hK K;refine bS (a' := ?_) ?_ ?_;rotate_left
           ·show Act.put _ (some 34) _ = _;simp only [Act.put, List.setIfInBounds_toArray, List.set_cons_zero, List.set_cons_succ, bH, bI];rfl
           refine arz (i := 8) (N := some 35) (v := ?_) (a' := ?_) #[true, true, true, true, true, true, true, true, true, false] rfl rfl (ku dA.out (by kernel_rfl)) (fun _ _ _ h => h) (Or.inl ⟨by rfl, ?_⟩) ?_ ?_;rotate_left
           ·intro w';go_simp;with_reducible rfl
           rotate_left
           ·simp only [Act.put, List.setIfInBounds_toArray, List.set_cons_zero, List.set_cons_succ, bH, bI];rfl
           refine El (i := 9) (N := none) #[true, true, true, true, true, true, true, true, true, true] rfl rfl (dn dA.out (by kernel_rfl)) (by decide) (fun K hK => ?_);have apn : YJ.cell? ⟨jF, 1, none⟩ = some (qX) := (ae iY.out 1).trans rfl;have amv := ai iY.out 1;have ag1 := rD.out;have ag2 := rE.out;have ag3 := DY.out;have ag4 := DZ.out;refine rV (w1 := ?_) (by rfl) rfl ?_ ?_;rotate_left
           ·go_simp;rfl
           refine hK.out _ _ ?_;clear hK K;refine gH (dV dA.out (by kernel_rfl)) ?_;try go_wp2
           go_roundg k1
           case measure => have := yf.out; omega
           case rel => exact ⟨(wrap64 (oo + 1)), (y159), (.slice aev y159.length aew), (by first | rfl | (simp; done) | (simp [*]; done)), H', ⟨by have := yf.out; omega⟩, ⟨by (with_reducible repeat (first | apply Kd.ay5 | apply Kd.eu | apply Kd.aaH)); exact Kd.bB (Kd.jS (p := ⟨jF, 1, none⟩) (Kd.bB Zd.out (fun k_ hk => (⟨hk, hk.2⟩ : _ ∧ k_ ≠ jF))) (fun _ hk => hk.2) (.slice aev y159.length aew)) (fun _ hk => ⟨hk.1.1, hk.1.2⟩)⟩, ⟨by (with_reducible repeat (first | refine ax ?_ _ | refine az ?_ | refine au ?_ _)); refine bD ?_ rD.out _; (with_reducible repeat (first | refine ax ?_ _ | refine az ?_ | refine au ?_ _)); exact iI.out⟩, ⟨by (with_reducible repeat (first | refine ax ?_ _ | refine az ?_ | refine au ?_ _)); refine bD ?_ rE.out _; (with_reducible repeat (first | refine ax ?_ _ | refine az ?_ | refine au ?_ _)); exact lh.out⟩, ⟨by (with_reducible repeat (first | refine ax ?_ _ | refine az ?_ | refine au ?_ _)); refine bL (cs := #[.int .i64 (rd l1 a2), qX]) ?_ 1 _ rfl; (with_reducible repeat (first | refine ax ?_ _ | refine az ?_ | refine au ?_ _)); exact iY.out⟩, ⟨bO HB⟩⟩
          ·rw [if_neg c20] at H;exact absurd H (by simp)
         ·rw [if_neg c18] at H;exact absurd H (by simp)
        ·rw [if_neg c17] at H;exact absurd H (by simp)
       ·rw [if_neg c16] at H;have EC : decide (oo < (((aj aH (rd l1 a2)).f1).length : Int)) = false := decide_eq_false c16;clear c16;simp only [Option.some.injEq, Prod.mk.injEq] at H;obtain ⟨rfl, rfl⟩ := H;have Li := DY.out;have Lj := rD.out;have YL := DZ.out;have YM := rE.out;have tK : wr.cell? ⟨jF, 0, none⟩ = some (.int .i64 (rd l1 a2)) := (ae iY.out 0).trans rfl;have tL : wr.cell? ⟨jF, 1, none⟩ = some (qX) := (ae iY.out 1).trans rfl;have tN := ai iY.out 0;have tO := ai iY.out 1;have PK := IY.out;have PL := IX.out;have qQ : wr.cell? ⟨qg, 0, none⟩ = some (.int .i64 0) := (ae lh.out 0).trans rfl;have qR : wr.cell? ⟨qg, 1, none⟩ = some (.slice none 0 0) := (ae lh.out 1).trans rfl;have qU := ai lh.out 0;have qV := ai lh.out 1;obtain ⟨EU, DU, Ub⟩ := Kd.fQ iE.out;subst Ub;go_wp2;refine bodyPost_ret (results_cell_row rfl _ _ qg 27 #[.int .i64 (rd l1 a2), .slice EU lv.length DU] (0, 0) _ rfl (by (with_reducible repeat (first | refine ax ?_ _ | refine az ?_ | refine au ?_ _)); refine bL (cs := #[.int .i64 (rd l1 a2), .slice none 0 0]) ?_ 1 _ rfl; (with_reducible repeat (first | refine ax ?_ _ | refine az ?_ | refine au ?_ _)); refine bL (cs := #[.int .i64 0, .slice none 0 0]) ?_ 0 _ rfl; (with_reducible repeat (first | refine ax ?_ _ | refine az ?_ | refine au ?_ _)); exact lh.out) Try.underlying27 rfl (by kernel_rfl)) rfl ?_;exact ⟨_, by first | rfl | (simp [aW, aX] <;> rfl) | (simp [*, aW, aX] <;> rfl), by (with_reducible repeat (first | apply Kd.ay5 | apply Kd.eu | apply Kd.aaH)); exact Kd.bB (Kd.jS (p := ⟨qg, 1, none⟩) (Kd.jS (p := ⟨qg, 0, none⟩) (Kd.bB iE.out (fun k_ hk => (⟨hk, hk.1⟩ : _ ∧ k_ ≠ qg))) (fun _ hk => hk.2) (.int .i64 (rd l1 a2))) (fun _ hk => hk.2) (.slice EU lv.length DU)) (fun _ hk => trivial), bO HB⟩
    ·rw [if_neg c7] at H;exact absurd H (by simp)
   ·rw [if_neg c6] at H;exact absurd H (by simp)
  ·rw [if_neg c5] at H;exact absurd H (by simp)
 ·rw [if_neg c4] at H;exact absurd H (by simp)
def bA.j0 : Nat → Int → Int → List (dO) → Option (Int × (List (dU)) × Int)
 | 0, _, _, _ => none
 | k + 1, x1, Qh, Qi => (kH.f Qh Qi).bind fun UA => (if 0 ≤ x1 then (if x1 < (UA.1.length : Int) then (if ((bJ UA.1 x1).f0) ≥ 1099511627776 then (some (0, ([] : List (dU)), 6)) else ((aV.f k Qh Qi UA.2 x1).bind fun aef => (some (aef.1, aef.2, 0)))) else (none)) else (none))
def bA.f (k : Nat) (aR : Int) (aH : List (dO)) (a1 : Int) : Option (Int × (List (dU)) × Int) := (fA.f aR aH).bind fun t164 => (if t164 = true then (if a1 < 0 then (some (0, ([] : List (dU)), 2)) else (if a1 ≥ aR then (some (0, ([] : List (dU)), 2)) else (bA.j0 k a1 aR aH))) else (some (0, ([] : List (dU)), 1)))
theorem bA.apw : ∀ k, (∀ y0 y1 y2, dz (bA.j0 k y0 y1 y2) (bA.j0 (k + 1) y0 y1 y2))
 | 0 => fun _ _ _ r h => by simp [bA.j0] at h
 | k + 1 => by
  have jP := bA.apw k
  ·intro y0 y1 y2;unfold bA.j0;repeat' first
   | (with_reducible exact jP _ _ _)
   | (with_reducible exact aV.mono _ _ _ _ _)
   | (with_reducible exact dz.refl _)
   | (with_reducible exact dz.none _)
   | (with_reducible refine dz.ite ?_ ?_)
   | (with_reducible refine dz.bind ?_ (fun _ => ?_))
   | exact jP _ _ _
   | exact aV.mono _ _ _ _ _
   | exact dz.none _
   | refine dz.ite ?_ ?_
   | refine dz.bind ?_ (fun _ => ?_)
theorem bA.mono : ∀ a0 a1 a2 k, dz (bA.f k a0 a1 a2) (bA.f (k + 1) a0 a1 a2) := by
 intro a0 a1 a2 k;have jP := bA.apw k;unfold bA.f;repeat' first
   | (with_reducible exact jP _ _ _)
   | (with_reducible exact aV.mono _ _ _ _ _)
   | (with_reducible exact dz.refl _)
   | (with_reducible exact dz.none _)
   | (with_reducible refine dz.ite ?_ ?_)
   | (with_reducible refine dz.bind ?_ (fun _ => ?_))
   | exact jP _ _ _
   | exact aV.mono _ _ _ _ _
   | exact dz.none _
   | refine dz.ite ?_ ?_
   | refine dz.bind ?_ (fun _ => ?_)
set_option maxHeartbeats 8000000 in
set_option maxRecDepth 100000 in
theorem bA.calls (k : Nat) (aR : Int) (bW : Option Addr) (bN : Nat) (aH : List (dO)) (a1 : Int) (r1 : Int) (r2 : List (dU)) (r3 : Int) (w : World) (fw : Kd.C sJ w bW aH.length aH) (fC : aH.length ≤ bN) (h : bA.f k aR aH a1 = some (r1, r2, r3)) :
  Calls Try.prog 36 #[.agg #[.int .i64 aR, .slice bW aH.length bN], .int .i64 a1] w fun e w' => ∃ EF : Value, e = .returned (.tuple #[.agg #[.int .i64 r1, EF], .int .i64 r3]) ∧ Kd.R k27 27 w' w.heap.size (fun _ => True) EF r2 ∧ Below w.heap.size w w' := by
 have ES := Try.underlying24;have Hm := Try.underlying27;have arT := aa.mk fw;have fP := aa.mk fC;clear fw fC;have HB := aa.mk (Below.refl w.heap.size w);have H : ((fA.f aR aH).bind fun t164 => (if t164 = true then (if a1 < 0 then (some (0, ([] : List (dU)), 2)) else (if a1 ≥ aR then (some (0, ([] : List (dU)), 2)) else (bA.j0 k a1 aR aH))) else (some (0, ([] : List (dU)), 1)))) = some (r1, r2, r3) := h;clear h;have Uo := aa.mk H;clear H;go_enter Try.func36, Try.ntmps36
 go_upto_block 0 with (first | ((with_reducible refine bM (N := 2) rfl ?_); refine bG ?hg (N := 2) ?hd (cs := #[.int .i64 aR, .slice bW aH.length bN]) (t := 24) ?hr ?_; (case hd => rfl); (case hg => rfl); (case hr => first | (go_simp; done) | (go_simp; rfl)); intro lT hg w4 bR hb; have bP := aa.mk (aM (bO HB) hb); have bQ := aa.mk (bR); have bT := aa.mk ((by rw [hg]; exact (aK (bO HB)) : w.heap.size ≤ lT)); have di := aa.mk ((by rw [hg]; exact (aK (bO HB)) : w.heap.size ≤ lT)); clear HB; have HB := bP; have eH := bQ; have amL := bT; have amM := di; clear bP bQ bT di; clear hb bR hg) | ((with_reducible refine bM (N := 4) rfl ?_); refine bG ?hg (N := 4) ?hd (cs := #[.int .i64 0, .slice none 0 0]) (t := 27) ?hr ?_; (case hd => rfl); (case hg => rfl); (case hr => first | (go_simp; done) | (go_simp; rfl)); intro lU hg w5 bR hb; have bP := aa.mk (aC (bk eH) hb); have bQ := aa.mk (aM (bO HB) hb); have bT := aa.mk (bR); have di := aa.mk ((by rw [hg]; exact (aK (bO HB)) : w.heap.size ≤ lU)); have n4_ := aa.mk ((by rw [hg]; exact (aK (bO HB)) : w.heap.size ≤ lU)); have n5_ := aa.mk ((by rw [hg]; exact Nat.ne_of_lt (bE (bk eH)) : lT ≠ lU)); have iG := aa.mk ((by rw [hg]; exact Nat.ne_of_gt (bE (bk eH)) : lU ≠ lT)); clear eH; clear HB; have eH := bP; have HB := bQ; have fM := bT; have amN := di; have amO := n4_; have rG := n5_; have rH := iG; clear bP bQ bT di n4_ n5_ iG; clear hb bR hg))
 (try simp only [Act.put, List.setIfInBounds_toArray, List.set_cons_zero, List.set_cons_succ]);go_cut [] (fun wc => ∃ (kq : Nat) (rJ : Int), aa (bA.j0 kq a1 aR aH = some (r1, r2, r3)) ∧ aa (kq ≤ k) ∧ aa (wc.heap[lT]? = some (.cells #[.int .i64 aR, (.slice bW aH.length bN)] 24 (0, 0))) ∧ aa (wc.heap[lU]? = some (.cells #[.int .i64 rJ, (.slice none 0 0)] 27 (0, 0))) ∧ aa (Below w.heap.size w wc))
 case first =>
  have H := Uo.out;clear Uo;replace H := Option.bind_eq_some_iff.mp H;obtain ⟨t164, A60, H⟩ := H;replace H : (if t164 = true then (if a1 < 0 then (some (0, ([] : List (dU)), 2)) else (if a1 ≥ aR then (some (0, ([] : List (dU)), 2)) else (bA.j0 k a1 aR aH))) else (some (0, ([] : List (dU)), 1))) = some (r1, r2, r3) := H;have A6 := aa.mk A60;clear A60;by_cases c7 : t164 = true
  ·subst c7;have H1 : (if a1 < 0 then (some (0, ([] : List (dU)), 2)) else (if a1 ≥ aR then (some (0, ([] : List (dU)), 2)) else (bA.j0 k a1 aR aH))) = some (r1, r2, r3) := by rw [if_pos rfl] at H; exact H
   clear H;have H := H1;clear H1;by_cases c8 : a1 < 0
   ·rw [if_pos c8] at H;have Hd : decide (a1 < 0) = true := decide_eq_true c8;clear c8
    (first | rw [Hd] | (simp only [bH, bI]; rw [Hd]) | skip)
    simp only [Option.some.injEq, Prod.mk.injEq] at H;obtain ⟨rfl, rfl, rfl⟩ := H;have apI := rG.out;have apJ := rH.out;have qB : w5.cell? ⟨lT, 0, none⟩ = some (.int .i64 aR) := (ae eH.out 0).trans rfl;have qC : w5.cell? ⟨lT, 1, none⟩ = some (.slice bW aH.length bN) := (ae eH.out 1).trans rfl;have qD := ai eH.out 0;have qE := ai eH.out 1;go_wp2_with (first | ((with_reducible refine dE (f := 78) rfl ?_); refine iB (some 10) rfl rfl Try.func78 (by kernel_rfl) rfl #[.agg #[.int .i64 aR, .slice bW aH.length bN]] rfl (by (try simp only [List.map_toArray, List.map_cons, List.map_nil]); first | done | rfl | (simp only [List.length_drop, List.length_take]; rfl)) ?_; (with_reducible refine (fA.calls aR _ _ aH true _ ?side1 ?side2 A6.out).mono ?_); (case side1 => repeat (first | exact (Kd.bF arT.out HB.out) | (with_reducible refine Kd.dF ?_ _) | (with_reducible refine Kd.dG ?_ _) | (with_reducible refine Kd.eG ?_))); (case side2 => exact fP.out); rintro e Me ⟨rfl, hb⟩; refine ⟨_, rfl, ?_⟩; have bP := aa.mk (aC (bk eH) hb); have bQ := aa.mk (aC (bk fM) hb); have bT := aa.mk (aM (bO HB) hb); clear eH; clear fM; clear HB; have eH := bP; have fM := bQ; have HB := bT; clear bP bQ bT; (try clear hb); (try clear hb2); (try clear hk); (try clear hi); have jK : Me.cell? ⟨lU, 0, none⟩ = some (.int .i64 0) := (ae fM.out 0).trans rfl; have jL : Me.cell? ⟨lU, 1, none⟩ = some (.slice none 0 0) := (ae fM.out 1).trans rfl; have jM := ai fM.out 0; have jN := ai fM.out 1))
    refine bodyPost_ret (jr rfl _ _ lU 27 #[.int .i64 0, .slice none 0 0] (0, 0) _ rfl (by (with_reducible repeat (first | refine ax ?_ _ | refine az ?_ | refine au ?_ _)); refine bL (cs := #[.int .i64 0, .slice none 0 0]) ?_ 1 _ rfl; (with_reducible repeat (first | refine ax ?_ _ | refine az ?_ | refine au ?_ _)); refine bL (cs := #[.int .i64 0, .slice none 0 0]) ?_ 0 _ rfl; (with_reducible repeat (first | refine ax ?_ _ | refine az ?_ | refine au ?_ _)); exact fM.out) Try.underlying27 rfl (by kernel_rfl)) rfl ?_;exact ⟨_, by first | rfl | (simp [aW, aX] <;> rfl) | (simp [*, aW, aX] <;> rfl), by first | exact Kd.qf _ _ _ _ _ | exact Kd.xY _ _ _ _ _ | exact Kd.xZ _ _ _ _ _ | exact Kd.xS _ _ _ _ _ | exact Kd.xW _ _ _ _ _, bO HB⟩
   ·rw [if_neg c8] at H;have Hd : decide (a1 < 0) = false := decide_eq_false c8;clear c8
    (first | rw [Hd] | (simp only [bH, bI]; rw [Hd]) | skip)
    by_cases c13 : a1 ≥ aR
    ·rw [if_pos c13] at H;have uU : decide (aR ≤ a1) = true := decide_eq_true c13;clear c13;simp only [Option.some.injEq, Prod.mk.injEq] at H;obtain ⟨rfl, rfl, rfl⟩ := H;have Tf := rG.out;have Tg := rH.out;have pE : w5.cell? ⟨lT, 0, none⟩ = some (.int .i64 aR) := (ae eH.out 0).trans rfl;have pF : w5.cell? ⟨lT, 1, none⟩ = some (.slice bW aH.length bN) := (ae eH.out 1).trans rfl;have pG := ai eH.out 0;have pI := ai eH.out 1;go_wp2_with (first | ((with_reducible refine dE (f := 78) rfl ?_); refine iB (some 10) rfl rfl Try.func78 (by kernel_rfl) rfl #[.agg #[.int .i64 aR, .slice bW aH.length bN]] rfl (by (try simp only [List.map_toArray, List.map_cons, List.map_nil]); first | done | rfl | (simp only [List.length_drop, List.length_take]; rfl)) ?_; (with_reducible refine (fA.calls aR _ _ aH true _ ?side1 ?side2 A6.out).mono ?_); (case side1 => repeat (first | exact (Kd.bF arT.out HB.out) | (with_reducible refine Kd.dF ?_ _) | (with_reducible refine Kd.dG ?_ _) | (with_reducible refine Kd.eG ?_))); (case side2 => exact fP.out); rintro e w16 ⟨rfl, hb⟩; refine ⟨_, rfl, ?_⟩; have bP := aa.mk (aC (bk eH) hb); have bQ := aa.mk (aC (bk fM) hb); have bT := aa.mk (aM (bO HB) hb); clear eH; clear fM; clear HB; have eH := bP; have fM := bQ; have HB := bT; clear bP bQ bT; (try clear hb); (try clear hb2); (try clear hk); (try clear hi); have Qj : w16.cell? ⟨lT, 0, none⟩ = some (.int .i64 aR) := (ae eH.out 0).trans rfl; have Qk : w16.cell? ⟨lT, 1, none⟩ = some (.slice bW aH.length bN) := (ae eH.out 1).trans rfl; have Ql := ai eH.out 0; have Qm := ai eH.out 1; have lZ : w16.cell? ⟨lU, 0, none⟩ = some (.int .i64 0) := (ae fM.out 0).trans rfl; have l5 : w16.cell? ⟨lU, 1, none⟩ = some (.slice none 0 0) := (ae fM.out 1).trans rfl; have l6 := ai fM.out 0; have l7 := ai fM.out 1))
     refine bodyPost_ret (jr rfl _ _ lU 27 #[.int .i64 0, .slice none 0 0] (0, 0) _ rfl (by (with_reducible repeat (first | refine ax ?_ _ | refine az ?_ | refine au ?_ _)); refine bL (cs := #[.int .i64 0, .slice none 0 0]) ?_ 1 _ rfl; (with_reducible repeat (first | refine ax ?_ _ | refine az ?_ | refine au ?_ _)); refine bL (cs := #[.int .i64 0, .slice none 0 0]) ?_ 0 _ rfl; (with_reducible repeat (first | refine ax ?_ _ | refine az ?_ | refine au ?_ _)); exact fM.out) Try.underlying27 rfl (by kernel_rfl)) rfl ?_;exact ⟨_, by first | rfl | (simp [aW, aX] <;> rfl) | (simp [*, aW, aX] <;> rfl), by first | exact Kd.qf _ _ _ _ _ | exact Kd.xY _ _ _ _ _ | exact Kd.xZ _ _ _ _ _ | exact Kd.xS _ _ _ _ _ | exact Kd.xW _ _ _ _ _, bO HB⟩
    ·rw [if_neg c13] at H;have uU : decide (aR ≤ a1) = false := decide_eq_false c13;clear c13;have H' := aa.mk H;clear H;have YH := rG.out;have YI := rH.out;have o9 : w5.cell? ⟨lT, 0, none⟩ = some (.int .i64 aR) := (ae eH.out 0).trans rfl;have pg : w5.cell? ⟨lT, 1, none⟩ = some (.slice bW aH.length bN) := (ae eH.out 1).trans rfl;have pq := ai eH.out 0;have pz := ai eH.out 1;go_wp2_with (first | ((with_reducible refine dE (f := 78) rfl ?_); refine iB (some 10) rfl rfl Try.func78 (by kernel_rfl) rfl #[.agg #[.int .i64 aR, .slice bW aH.length bN]] rfl (by (try simp only [List.map_toArray, List.map_cons, List.map_nil]); first | done | rfl | (simp only [List.length_drop, List.length_take]; rfl)) ?_; (with_reducible refine (fA.calls aR _ _ aH true _ ?side1 ?side2 A6.out).mono ?_); (case side1 => repeat (first | exact (Kd.bF arT.out HB.out) | (with_reducible refine Kd.dF ?_ _) | (with_reducible refine Kd.dG ?_ _) | (with_reducible refine Kd.eG ?_))); (case side2 => exact fP.out); rintro e Fb ⟨rfl, hb⟩; refine ⟨_, rfl, ?_⟩; have bP := aa.mk (aC (bk eH) hb); have bQ := aa.mk (aC (bk fM) hb); have bT := aa.mk (aM (bO HB) hb); clear eH; clear fM; clear HB; have eH := bP; have fM := bQ; have HB := bT; clear bP bQ bT; (try clear hb); (try clear hb2); (try clear hk); (try clear hi); have OU : Fb.cell? ⟨lT, 0, none⟩ = some (.int .i64 aR) := (ae eH.out 0).trans rfl; have OV : Fb.cell? ⟨lT, 1, none⟩ = some (.slice bW aH.length bN) := (ae eH.out 1).trans rfl; have OW := ai eH.out 0; have OX := ai eH.out 1))
     go_meet
     case rel => exact ⟨_, (0), H', ⟨by first | omega | exact Nat.le_refl _⟩, ⟨by (with_reducible repeat (first | refine ax ?_ _ | refine az ?_ | refine au ?_ _)); exact eH.out⟩, ⟨by (with_reducible repeat (first | refine ax ?_ _ | refine az ?_ | refine au ?_ _)); exact fM.out⟩, ⟨bO HB⟩⟩
  ·replace c7 := Bool.eq_false_iff.mpr c7;subst c7;have H1 : (some (0, ([] : List (dU)), 1)) = some (r1, r2, r3) := by rw [if_neg (show ¬ (false = true) by decide)] at H; exact H
   clear H;have H := H1;clear H1;simp only [Option.some.injEq, Prod.mk.injEq] at H;obtain ⟨rfl, rfl, rfl⟩ := H;have Tk := rG.out;have Tm := rH.out;have oN : w5.cell? ⟨lT, 0, none⟩ = some (.int .i64 aR) := (ae eH.out 0).trans rfl;have oO : w5.cell? ⟨lT, 1, none⟩ = some (.slice bW aH.length bN) := (ae eH.out 1).trans rfl;have oP := ai eH.out 0;have oQ := ai eH.out 1;go_wp2_with (first | ((with_reducible refine dE (f := 78) rfl ?_); refine iB (some 10) rfl rfl Try.func78 (by kernel_rfl) rfl #[.agg #[.int .i64 aR, .slice bW aH.length bN]] rfl (by (try simp only [List.map_toArray, List.map_cons, List.map_nil]); first | done | rfl | (simp only [List.length_drop, List.length_take]; rfl)) ?_; (with_reducible refine (fA.calls aR _ _ aH false _ ?side1 ?side2 A6.out).mono ?_); (case side1 => repeat (first | exact (Kd.bF arT.out HB.out) | (with_reducible refine Kd.dF ?_ _) | (with_reducible refine Kd.dG ?_ _) | (with_reducible refine Kd.eG ?_))); (case side2 => exact fP.out); rintro e w25 ⟨rfl, hb⟩; refine ⟨_, rfl, ?_⟩; have bP := aa.mk (aC (bk eH) hb); have bQ := aa.mk (aC (bk fM) hb); have bT := aa.mk (aM (bO HB) hb); clear eH; clear fM; clear HB; have eH := bP; have fM := bQ; have HB := bT; clear bP bQ bT; (try clear hb); (try clear hb2); (try clear hk); (try clear hi); have wu : w25.cell? ⟨lU, 0, none⟩ = some (.int .i64 0) := (ae fM.out 0).trans rfl; have wy : w25.cell? ⟨lU, 1, none⟩ = some (.slice none 0 0) := (ae fM.out 1).trans rfl; have wz := ai fM.out 0; have wE := ai fM.out 1))
   refine bodyPost_ret (jr rfl _ _ lU 27 #[.int .i64 0, .slice none 0 0] (0, 0) _ rfl (by (with_reducible repeat (first | refine ax ?_ _ | refine az ?_ | refine au ?_ _)); refine bL (cs := #[.int .i64 0, .slice none 0 0]) ?_ 1 _ rfl; (with_reducible repeat (first | refine ax ?_ _ | refine az ?_ | refine au ?_ _)); refine bL (cs := #[.int .i64 0, .slice none 0 0]) ?_ 0 _ rfl; (with_reducible repeat (first | refine ax ?_ _ | refine az ?_ | refine au ?_ _)); exact fM.out) Try.underlying27 rfl (by kernel_rfl)) rfl ?_;exact ⟨_, by first | rfl | (simp [aW, aX] <;> rfl) | (simp [*, aW, aX] <;> rfl), by first | exact Kd.qf _ _ _ _ _ | exact Kd.xY _ _ _ _ _ | exact Kd.xZ _ _ _ _ _ | exact Kd.xS _ _ _ _ _ | exact Kd.xW _ _ _ _ _, bO HB⟩
 case rest =>
  clear Uo;(try clear c1); (try clear c2); (try clear p2); (try clear c3); (try clear c7); (try clear c8); (try clear Hd); (try clear c9); (try clear c13); (try clear uU); (try clear c14); (try clear c19); (try clear c23); (try clear qB); (try clear qC); (try clear jK); (try clear jL); (try clear pE); (try clear pF); (try clear Qj); (try clear Qk); (try clear lZ); (try clear l5); (try clear o9); (try clear pg); (try clear OU); (try clear OV); (try clear oN); (try clear oO); (try clear wu); (try clear wy); (try clear qD); (try clear qE); (try clear jM); (try clear jN); (try clear pG); (try clear pI); (try clear Ql); (try clear Qm); (try clear l6); (try clear l7); (try clear pq); (try clear pz); (try clear OW); (try clear OX); (try clear oP); (try clear oQ); (try clear wz); (try clear wE);obtain ⟨kq, rJ, HA, HJ2, eH, fM, HB⟩ := hcut
  cases kq with
  | zero => exact absurd HA.out (by simp [bA.j0])
  | succ kj2 =>
   have H := HA.out;clear HA;simp only [bA.j0] at H;replace H := Option.bind_eq_some_iff.mp H;obtain ⟨⟨GI, t168⟩, aeM, H⟩ := H;replace H : (if 0 ≤ a1 then (if a1 < (GI.length : Int) then (if ((bJ GI a1).f0) ≥ 1099511627776 then (some (0, ([] : List (dU)), 6)) else ((aV.f kj2 aR aH t168 a1).bind fun aef => (some (aef.1, aef.2, 0)))) else (none)) else (none)) = some (r1, r2, r3) := H;have A27 := aa.mk aeM;clear aeM;by_cases c28 : 0 ≤ a1
   ·rw [if_pos c28] at H;have amR : decide (0 ≤ a1) = true := decide_eq_true c28;clear c28;by_cases Wl : a1 < (GI.length : Int)
    ·rw [if_pos Wl] at H;have amS : decide (a1 < (GI.length : Int)) = true := decide_eq_true Wl;clear Wl;by_cases Ue : ((bJ GI a1).f0) ≥ 1099511627776
     ·rw [if_pos Ue] at H;have aeN : decide (1099511627776 ≤ ((bJ GI a1).f0)) = true := decide_eq_true Ue;clear Ue;simp only [Option.some.injEq, Prod.mk.injEq] at H;obtain ⟨rfl, rfl, rfl⟩ := H;have Yx := rG.out;have Yy := rH.out;have Ca : wc.cell? ⟨lT, 0, none⟩ = some (.int .i64 aR) := (ae eH.out 0).trans rfl;have Cb : wc.cell? ⟨lT, 1, none⟩ = some (.slice bW aH.length bN) := (ae eH.out 1).trans rfl;have Cc := ai eH.out 0;have Ce := ai eH.out 1;go_wp2_with (first | ((with_reducible refine dE (f := 79) rfl ?_); refine iB (some 25) rfl rfl Try.func79 (by kernel_rfl) rfl #[.agg #[.int .i64 aR, .slice bW aH.length bN]] rfl (by (try simp only [List.map_toArray, List.map_cons, List.map_nil]); first | done | rfl | (simp only [List.length_drop, List.length_take]; rfl)) ?_; (with_reducible refine (kH.calls aR _ _ aH GI t168 _ ?side1 ?side2 A27.out).mono ?_); (case side1 => repeat (first | exact (Kd.bF arT.out HB.out) | (with_reducible refine Kd.dF ?_ _) | (with_reducible refine Kd.dG ?_ _) | (with_reducible refine Kd.eG ?_))); (case side2 => exact fP.out); rintro e YN ⟨ajq, ajr, rfl, ho0, ho1, hb⟩; refine ⟨_, rfl, ?_⟩; have bP := aa.mk (Kd.iL ho0 (aK (bO HB))); have bQ := aa.mk (Kd.iL ho1 (aK (bO HB))); have bT := aa.mk (aC (bk eH) hb); have di := aa.mk (aC (bk fM) hb); have n4_ := aa.mk (aM (bO HB) hb); clear eH; clear fM; clear HB; have EJ := bP; have GJ := bQ; have eH := bT; have fM := di; have HB := n4_; clear bP bQ bT di n4_; (try clear hb); (try clear hb2); (try clear hk); (try clear hi); (try clear ho0); (try clear ho1); obtain ⟨ajs, ajt, abq⟩ := Kd.fQ EJ.out; subst abq; have NN : 0 ≤ (a1 : Int) := of_decide_eq_true (by first | (with_reducible assumption) | assumption); have NP : a1 < (GI.length : Int) := of_decide_eq_true (by first | (with_reducible assumption) | assumption); obtain ⟨aeO, abr, Xm, Xn⟩ := p9 (Kd.dD EJ.out).2.2 a1 NN NP; cases abr; replace NN := eq_true NN; replace NP := eq_true NP; have Xo : YN.cell? ⟨lU, 0, none⟩ = some (.int .i64 rJ) := (ae fM.out 0).trans rfl; have Xp : YN.cell? ⟨lU, 1, none⟩ = some (.slice none 0 0) := (ae fM.out 1).trans rfl; have Xq := ai fM.out 0; have Xr := ai fM.out 1))
      refine bodyPost_ret (jr rfl _ _ lU 27 #[.int .i64 0, .slice none 0 0] (0, 0) _ rfl (by (with_reducible repeat (first | refine ax ?_ _ | refine az ?_ | refine au ?_ _)); refine bL (cs := #[.int .i64 0, .slice none 0 0]) ?_ 1 _ rfl; (with_reducible repeat (first | refine ax ?_ _ | refine az ?_ | refine au ?_ _)); refine bL (cs := #[.int .i64 rJ, .slice none 0 0]) ?_ 0 _ rfl; (with_reducible repeat (first | refine ax ?_ _ | refine az ?_ | refine au ?_ _)); exact fM.out) Try.underlying27 rfl (by kernel_rfl)) rfl ?_;exact ⟨_, by first | rfl | (simp [aW, aX] <;> rfl) | (simp [*, aW, aX] <;> rfl), by first | exact Kd.qf _ _ _ _ _ | exact Kd.xY _ _ _ _ _ | exact Kd.xZ _ _ _ _ _ | exact Kd.xS _ _ _ _ _ | exact Kd.xW _ _ _ _ _, bO HB⟩
     ·rw [if_neg Ue] at H;have aeN : decide (1099511627776 ≤ ((bJ GI a1).f0)) = false := decide_eq_false Ue;clear Ue;replace H := Option.bind_eq_some_iff.mp H;obtain ⟨⟨UB, t173⟩, aeP, H⟩ := H;replace H : (some (UB, t173, 0)) = some (r1, r2, r3) := H;have A36 := aa.mk aeP;clear aeP;simp only [Option.some.injEq, Prod.mk.injEq] at H;obtain ⟨rfl, rfl, rfl⟩ := H;have Yz := rG.out;have YA := rH.out;have Fe : wc.cell? ⟨lT, 0, none⟩ = some (.int .i64 aR) := (ae eH.out 0).trans rfl;have Ff : wc.cell? ⟨lT, 1, none⟩ = some (.slice bW aH.length bN) := (ae eH.out 1).trans rfl;have Fg := ai eH.out 0;have Fh := ai eH.out 1;go_wp2_with (first | ((with_reducible refine dE (f := 79) rfl ?_); refine iB (some 25) rfl rfl Try.func79 (by kernel_rfl) rfl #[.agg #[.int .i64 aR, .slice bW aH.length bN]] rfl (by (try simp only [List.map_toArray, List.map_cons, List.map_nil]); first | done | rfl | (simp only [List.length_drop, List.length_take]; rfl)) ?_; (with_reducible refine (kH.calls aR _ _ aH GI t168 _ ?side1 ?side2 A27.out).mono ?_); (case side1 => repeat (first | exact (Kd.bF arT.out HB.out) | (with_reducible refine Kd.dF ?_ _) | (with_reducible refine Kd.dG ?_ _) | (with_reducible refine Kd.eG ?_))); (case side2 => exact fP.out); rintro e w39 ⟨ajq, ajr, rfl, ho0, ho1, hb⟩; refine ⟨_, rfl, ?_⟩; have bP := aa.mk (Kd.iL ho0 (aK (bO HB))); have bQ := aa.mk (Kd.iL ho1 (aK (bO HB))); have bT := aa.mk (aC (bk eH) hb); have di := aa.mk (aC (bk fM) hb); have n4_ := aa.mk (aM (bO HB) hb); clear eH; clear fM; clear HB; have EJ := bP; have GJ := bQ; have eH := bT; have fM := di; have HB := n4_; clear bP bQ bT di n4_; (try clear hb); (try clear hb2); (try clear hk); (try clear hi); (try clear ho0); (try clear ho1); obtain ⟨apL, apM, aju⟩ := Kd.fQ EJ.out; subst aju; have NN : 0 ≤ (a1 : Int) := of_decide_eq_true (by first | (with_reducible assumption) | assumption); have NP : a1 < (GI.length : Int) := of_decide_eq_true (by first | (with_reducible assumption) | assumption); obtain ⟨aeO, abr, Xm, Xn⟩ := p9 (Kd.dD EJ.out).2.2 a1 NN NP; cases abr; replace NN := eq_true NN; replace NP := eq_true NP; have ahb : w39.cell? ⟨lT, 0, none⟩ = some (.int .i64 aR) := (ae eH.out 0).trans rfl; have ahc : w39.cell? ⟨lT, 1, none⟩ = some (.slice bW aH.length bN) := (ae eH.out 1).trans rfl; have ahd := ai eH.out 0; have ahe := ai eH.out 1; obtain ⟨ajv, ajw, ajx⟩ := Kd.fQ GJ.out; subst ajx) | ((with_reducible refine dE (f := 80) rfl ?_); refine iB (some 38) rfl rfl Try.func80 (by kernel_rfl) rfl #[.agg #[.int .i64 aR, .slice bW aH.length bN], .slice ajv t168.length ajw, .int .i64 a1] rfl (by (try simp only [List.map_toArray, List.map_cons, List.map_nil]); first | done | rfl | (simp only [List.length_drop, List.length_take]; rfl)) ?_; (with_reducible refine (aV.calls kj2 aR _ _ aH _ _ t168 a1 UB t173 _ ?side1 ?side2 ?side3 ?side4 A36.out).mono ?_); (case side1 => repeat (first | exact (Kd.bF arT.out HB.out) | (with_reducible refine Kd.dF ?_ _) | (with_reducible refine Kd.dG ?_ _) | (with_reducible refine Kd.eG ?_))); (case side2 => exact fP.out); (case side3 => repeat (first | exact (Kd.dD GJ.out).2.2 | (with_reducible refine Kd.dF ?_ _) | (with_reducible refine Kd.dG ?_ _) | (with_reducible refine Kd.eG ?_))); (case side4 => exact (Kd.dD GJ.out).2.1); rintro e R4 ⟨apN, rfl, ho0, hb⟩; refine ⟨_, rfl, ?_⟩; have bP := aa.mk (Kd.bu (by (with_reducible repeat (first | apply Kd.ay5 | apply Kd.eu | apply Kd.aaH)); exact EJ.out) hb); have bQ := aa.mk (Kd.bu (by (with_reducible repeat (first | apply Kd.ay5 | apply Kd.eu | apply Kd.aaH)); exact GJ.out) hb); have bT := aa.mk (Kd.iL (Kd.xU ho0 (bk fM)) (aK (bO HB))); have di := aa.mk (aC (bk eH) hb); have n4_ := aa.mk (aC (bk fM) hb); have n5_ := aa.mk (aM (bO HB) hb); clear EJ; clear GJ; clear eH; clear fM; clear HB; have EJ := bP; have GJ := bQ; have Zi := bT; have eH := di; have fM := n4_; have HB := n5_; clear bP bQ bT di n4_ n5_; (try clear hb); (try clear hb2); (try clear hk); (try clear hi); (try clear ho0); have ahf : R4.cell? ⟨lU, 0, none⟩ = some (.int .i64 rJ) := (ae fM.out 0).trans rfl; have ahg : R4.cell? ⟨lU, 1, none⟩ = some (.slice none 0 0) := (ae fM.out 1).trans rfl; have ahh := ai fM.out 0; have ahi := ai fM.out 1; obtain ⟨aeQ, aeR, ajy⟩ := Kd.fQ Zi.out; subst ajy))
      refine bodyPost_ret (jr rfl _ _ lU 27 #[.int .i64 UB, .slice aeQ t173.length aeR] (0, 0) _ rfl (by (with_reducible repeat (first | refine ax ?_ _ | refine az ?_ | refine au ?_ _)); refine bL (cs := #[.int .i64 UB, .slice none 0 0]) ?_ 1 _ rfl; (with_reducible repeat (first | refine ax ?_ _ | refine az ?_ | refine au ?_ _)); refine bL (cs := #[.int .i64 rJ, .slice none 0 0]) ?_ 0 _ rfl; (with_reducible repeat (first | refine ax ?_ _ | refine az ?_ | refine au ?_ _)); exact fM.out) Try.underlying27 rfl (by kernel_rfl)) rfl ?_;exact ⟨_, by first | rfl | (simp [aW, aX] <;> rfl) | (simp [*, aW, aX] <;> rfl), by (with_reducible repeat (first | apply Kd.ay5 | apply Kd.eu | apply Kd.aaH)); exact Kd.bB (Kd.jS (p := ⟨lU, 1, none⟩) (Kd.jS (p := ⟨lU, 0, none⟩) (Kd.bB Zi.out (fun k_ hk => (⟨hk, hk.2⟩ : _ ∧ k_ ≠ lU))) (fun _ hk => hk.2) (.int .i64 UB)) (fun _ hk => hk.2) (.slice aeQ t173.length aeR)) (fun _ hk => trivial), bO HB⟩
    ·rw [if_neg Wl] at H;exact absurd H (by simp)
   ·rw [if_neg c28] at H;exact absurd H (by simp)
end Go.Proofs.Ytamimodkcbbpmaa.Pr
end
section
namespace Go.Proofs.Ytamimodkcbbpmaa.Pr
open Go.RowKit Go.Proofs.YtamimodkcbbpmaaW.PrintWords Go.Proofs.YtamimodkcbbpmaaW.PrintLast
set_option linter.unusedVariables false
set_option linter.unusedSimpArgs false
theorem dU.eta' (d : dU) : (⟨d.f0, d.f1⟩ : dU) = d := by cases d; rfl
theorem abt (m : Nat) (P : Nat → dU → Prop) (h : ∀ j, j < m → ∃ d, P j d) : ∃ l : List dU, l.length = m ∧ ∀ j, j < m → P j (l.getD j z27) := by
 induction m with
 | zero => exact ⟨[], rfl, fun j hj => absurd hj (by omega)⟩
 | succ m ih =>
  obtain ⟨l, hl, hP⟩ := ih (fun j hj => h j (by omega));obtain ⟨d, hd⟩ := h m (by omega);refine ⟨l ++ [d], by rw [List.length_append, hl]; rfl, fun j hj => ?_⟩;by_cases hjm : j = m
  ·subst hjm;have e : (l ++ [d]).getD j z27 = d := by simp [List.getD_eq_getElem?_getD, List.getElem?_append, hl]
   rw [e];exact hd
  ·have e : (l ++ [d]).getD j z27 = l.getD j z27 := by
    rw [List.getD_eq_getElem?_getD, List.getElem?_append_left (by omega), List.getD_eq_getElem?_getD]
   rw [e];exact hP j (by omega)
inductive BD (es : List dO) (ed : List Int) : Int → dU → Prop
 | mk (v : Int) (d : dU) (h0 : 0 ≤ v) (h1 : v < (ed.length : Int)) (he : d.f0 = rd ed v) (h2 : 0 ≤ d.f0) (h3 : d.f0 < (es.length : Int)) (hl : d.f1.length = (aj es d.f0).f1.length) (hk : ∀ j, j < d.f1.length → BD es ed ((aj es d.f0).f1.getD j 0) (d.f1.getD j z27)) : BD es ed v d
theorem BD.inv {es : List dO} {ed : List Int} {v : Int} {d : dU} (h : BD es ed v d) : (0 ≤ v ∧ v < (ed.length : Int)) ∧ d.f0 = rd ed v ∧ (0 ≤ d.f0 ∧ d.f0 < (es.length : Int)) ∧ d.f1.length = (aj es d.f0).f1.length ∧ ∀ j, j < d.f1.length → BD es ed ((aj es d.f0).f1.getD j 0) (d.f1.getD j z27) := by
 cases h with
 | mk _ _ h0 h1 he h2 h3 hl hk => exact ⟨⟨h0, h1⟩, he, ⟨h2, h3⟩, hl, hk⟩
structure aBe (n : Int) (es : List dO) : Prop where
 n1 : 1 ≤ n
 n2 : n ≤ 1000
 len : es.length ≤ 1000
 ok : zt n.toNat es
 co : zO es
 ta : ∀ e, e ∈ es → e.f1.length ≤ 100
section
variable {n : Int} {es : List dO}
theorem aBe.UZ (h : aBe n es) : Pe n.toNat es (jy n.toNat es) := Gj h.co h.ok h.ta h.len
theorem aBe.chosen (h : aBe n es) : zP n.toNat es (jy n.toNat es) es.length (xL n.toNat es) := Ez h.co h.ok h.ta h.len
theorem aBe.aeS (h : aBe n es) (k : Nat) (hk : k < es.length) : ∀ v, v ∈ tailV (jy n.toNat es) (aj es (k : Int)).f1 → okV v :=
 nN h.UZ.ok (fun t ht => by rw [h.UZ.len]; exact (jb h.ok (k : Int) (by omega) (by omega)).2.1 t ht)
theorem aBe.valid (h : aBe n es) : jJ n es = true := by
 have h1 := h.n1;have h2 := h.n2;have e : jJ n es = ((decide (1 ≤ n) && decide (n ≤ 1048576)) && es.all (edgeOk n)) := rfl;rw [e, decide_eq_true h1, decide_eq_true (show n ≤ 1048576 by omega), Bool.true_and, Bool.true_and, List.all_eq_true];intro x hx;have h4 := h.ok x hx;have h5 := h.co x hx;unfold edgeOk AB;simp only [Bool.and_eq_true, decide_eq_true_eq, List.all_eq_true];exact ⟨⟨by have := h4.1; omega, h5⟩, fun t ht => by have := h4.2.1 t ht; omega⟩
theorem aBe.solve (h : aBe n es) : kH.f n es = some (jy n.toNat es, xL n.toNat es) := by
 have h1 := h.n1;unfold kH.f;rw [if_pos ((EI n es).2 ⟨by omega, h.n2, h.len, fun e he => ?_⟩)];have h4 := h.ok e he;exact ⟨by have := h4.1; omega, fun t ht => by have := h4.2.1 t ht; omega, h.ta e he⟩
theorem zT (h : aBe n es) (k t : Nat) (hk : k < es.length) (ht : t < n.toNat) (hT : aKR es (jy n.toNat es) k (t : Int)) (hsz : (bJ (jy n.toNat es) (t : Int)).f1 < 1099511627776) :
  (1 ≤ (bJ (jy n.toNat es) (t : Int)).f1 ∧ ∀ j, j < (aj es (k : Int)).f1.length → (bJ (jy n.toNat es) ((aj es (k : Int)).f1.getD j 0)).f0 < 1099511627776 ∧ (bJ (jy n.toNat es) ((aj es (k : Int)).f1.getD j 0)).f1 < (bJ (jy n.toNat es) (t : Int)).f1) ∧
   (bJ (jy n.toNat es) (t : Int)).f0 = (aj es (k : Int)).f2 + Mg (tailV (jy n.toNat es) (aj es (k : Int)).f1) ∧ (bJ (jy n.toNat es) (t : Int)).f1 = 1 + UY (tailV (jy n.toNat es) (aj es (k : Int)).f1) := by
 have TN := h.aeS k hk;have hc := nM h.co k hk;have hfin := hT.2.1;have e := hT.2.2;have hp := zM _ TN;unfold kV at e;rw [si _ _ hc.1 TN] at e;split at e
 ·rw [← e] at hfin;exact absurd hfin (by decide)
 ·rename_i hlt
  have e1 : min (1 + UY (tailV (jy n.toNat es) (aj es (k : Int)).f1)) 1099511627776 = (bJ (jy n.toNat es) (t : Int)).f1 := by rw [← e]
  have e0 : (aj es (k : Int)).f2 + Mg (tailV (jy n.toNat es) (aj es (k : Int)).f1) = (bJ (jy n.toNat es) (t : Int)).f0 := by rw [← e]
  refine ⟨⟨by omega, fun j hj => ?_⟩, e0.symm, by omega⟩;have h1 := Fa _ j (by rw [eY]; exact hj) TN;rw [kM _ _ _ hj] at h1;omega
theorem LH (h : aBe n es) (k : Nat) (hk : k < es.length) (ws : List dK) (hl : ws.length = (aj es (k : Int)).f1.length) (hw : ∀ j, j < ws.length → JC es ((aj es (k : Int)).f1.getD j 0) (ws.getD j z34)) (t : Int) (hh : (aj es (k : Int)).f0 = t)
  (e : aqp (aj es (k : Int)).f2 ws = bJ (jy n.toNat es) t) (hfin : (bJ (jy n.toNat es) t).f0 < 1099511627776) : aKR es (jy n.toNat es) k t := by
 refine ⟨hh, hfin, oV.antisymm ?_ ?_⟩
 ·rw [← e];refine zN _ _ _ (nM h.co k hk).1 (h.aeS k hk) (lN ws z34 (fun j hj => (hw j hj).ok h.co)) (by rw [eY, hl]) (fun j hj => ?_);rw [eY] at hj;rw [kM _ _ _ hj];exact h.UZ.lower h.co h.ok (hw j (by omega))
 ·rw [← hh];exact h.UZ.fix k hk
theorem JC.inv {t : Int} {v : dK} (h : JC es t v) : ∃ (k : Nat) (ws : List dK), k < es.length ∧ (aj es (k : Int)).f0 = t ∧ aqp (aj es (k : Int)).f2 ws = v ∧ ws.length = (aj es (k : Int)).f1.length ∧ ∀ j, j < ws.length → JC es ((aj es (k : Int)).f1.getD j 0) (ws.getD j z34) := by
 cases h with
 | mk k hk vs hl hd => exact ⟨k, vs, hk, rfl, rfl, hl, hd⟩
theorem LJ (h : aBe n es) (t : Nat) (ht : t < n.toNat) (hfin : (bJ (jy n.toNat es) (t : Int)).f0 < 1099511627776) : ∃ k, k < es.length ∧ aKR es (jy n.toNat es) k (t : Int) := by
 rcases h.UZ.att t ht with h1 | h1
 ·rw [h1] at hfin;exact absurd hfin (by decide)
 ·obtain ⟨k, ws, hk, hh, e, hl, hw⟩ := h1.inv;exact ⟨k, hk, LH h k hk ws hl hw _ hh e hfin⟩
theorem BD.ex (h : aBe n es) (B : Int) (hB : B = 1099511627776) : ∀ (s t : Nat), (s : Int) < B → t < n.toNat → (bJ (jy n.toNat es) (t : Int)).f0 < 1099511627776 → (bJ (jy n.toNat es) (t : Int)).f1 ≤ (s : Int) → ∃ d, BD es (xL n.toNat es) (t : Int) d
 | 0, t, hb, ht, hfin, hs => by
  obtain ⟨k, hk, hT⟩ := LJ h t ht hfin;have := (zT h k t hk ht hT (by omega)).1.1;omega
 | s + 1, t, hb, ht, hfin, hs => by
  rcases h.chosen.ch t ht with ⟨_, hno⟩ | ⟨k, hk, hed, hT, _⟩
  ·obtain ⟨k, hk, hT⟩ := LJ h t ht hfin;exact absurd hT (hno k hk)
  ·have zC := jb h.ok (k : Int) (by omega) (by omega);obtain ⟨⟨_, htt⟩, _⟩ := zT h k t hk ht hT (by omega);obtain ⟨l, hl, hP⟩ := abt (aj es (k : Int)).f1.length (fun j d => BD es (xL n.toNat es) ((aj es (k : Int)).f1.getD j 0) d) (fun j hj => by
    have hm := zC.2.1 _ (ib (aj es (k : Int)).f1 j 0 hj);obtain ⟨u, hu⟩ : ∃ u : Nat, (aj es (k : Int)).f1.getD j 0 = (u : Int) := ⟨((aj es (k : Int)).f1.getD j 0).toNat, by omega⟩;have h1 := htt j hj;rw [hu] at hm h1 ⊢;exact BD.ex h B hB s u (by omega) (by omega) h1.1 (by omega))
   have hlen := h.chosen.len;refine ⟨⟨(k : Int), l⟩, BD.mk _ _ (by omega) (by omega) ?_ (show (0 : Int) ≤ (k : Int) by omega) (show (k : Int) < (es.length : Int) by omega) hl (fun j hj => hP j (by rw [← hl]; exact hj))⟩;show (k : Int) = rd (xL n.toNat es) (t : Int);unfold rd;rw [Int.toNat_natCast, hed]
theorem BD.fin (h : aBe n es) {t : Nat} (ht : t < n.toNat) (hfin : (bJ (jy n.toNat es) (t : Int)).f0 < 1099511627776) (hsz : (bJ (jy n.toNat es) (t : Int)).f1 < 1099511627776) : ∃ d, BD es (xL n.toNat es) (t : Int) d := by
 have hok := h.UZ.ok _ (AA (jy n.toNat es) (t : Int) (by omega) (by rw [h.UZ.len]; omega));have := hok.c;exact BD.ex h _ rfl (bJ (jy n.toNat es) (t : Int)).f1.toNat t (by omega) ht hfin (by omega)
theorem BD.top (h : aBe n es) {t : Nat} {d : dU} (hb : BD es (xL n.toNat es) (t : Int) d) : ∃ k : Nat, d.f0 = (k : Int) ∧ k < es.length ∧ t < n.toNat ∧ aKR es (jy n.toNat es) k (t : Int) := by
 obtain ⟨⟨h0, h1⟩, he, ⟨h2, h3⟩, _⟩ := hb.inv;have hlen := h.chosen.len;have ht : t < n.toNat := by omega
 unfold rd at he;rw [Int.toNat_natCast] at he;rcases h.chosen.ch t ht with ⟨e, _⟩ | ⟨k, hk, e, hT, _⟩
 ·rw [e] at he; omega
 ·exact ⟨k, by rw [he, e], hk, ht, hT⟩
end
section
variable (n : Int) (es : List dO)
theorem EK (ed : List Int) (d : dU) (h0 : 0 ≤ d.f0) (h1 : d.f0 < (es.length : Int)) (hs : d.f1.length ≤ 1000000) (hl : d.f1.length = (aj es d.f0).f1.length)
  (hk : ∀ j, j < d.f1.length → Ev (fun k => aV.f k n es ed ((aj es d.f0).f1.getD j 0)) ((d.f1.getD j z27).f0, (d.f1.getD j z27).f1)) :
  ∀ m i, i + m = d.f1.length → Ev (fun k => aV.l0 k ed (aj es d.f0).f1 ((aj es d.f0).f1.length : Int) (i : Int) n es d.f0 (d.f1.take i)) (d.f0, d.f1)
 | 0, i, hi => by
  have hi2 : i = d.f1.length := by omega
  rw [hi2, List.take_length];refine (Ev.const _).succ (fun k => ?_);show aV.l0 (k + 1) _ _ _ _ _ _ _ _ = _;rw [aV.l0, if_neg (by omega)]
 | m + 1, i, hi => by
  have ea := hk i (by omega);have hw := RY i (by omega);have ec := EK ed d h0 h1 hs hl hk m (i + 1) (by omega);rw [ayo z27 d.f1 i (by omega)] at ec;have hal : (d.f1.take i).length < 4398046511104 := by rw [List.length_take]; omega
  have hrd : rd (aj es d.f0).f1 (i : Int) = (aj es d.f0).f1.getD i 0 := rfl;refine (Ev.bind (G := fun k t => if (d.f1.take i).length < 4398046511104 then aV.l0 k ed (aj es d.f0).f1 ((aj es d.f0).f1.length : Int) ((i + 1 : Nat) : Int) n es d.f0 (d.f1.take i ++ [(⟨t.1, t.2⟩ : dU)]) else none) ea (Ev.mp ec (fun k => by rw [if_pos hal, dU.eta']))).succ (fun k => ?_);show aV.l0 (k + 1) _ _ _ _ _ _ _ _ = _;rw [aV.l0, if_pos (by omega), if_pos (by omega), if_pos (by omega), hw, hrd]
theorem Rz (Qn : ∀ e, e ∈ es → e.f1.length ≤ 1000000) {ed : List Int} {v : Int} {d : dU} (h : BD es ed v d) : Ev (fun k => aV.f k n es ed v) (d.f0, d.f1) := by
 induction h with
 | mk v d h0 h1 he h2 h3 hl hk ih =>
  have hs : (aj es d.f0).f1.length ≤ 1000000 := by
   refine Qn _ ?_;simp only [aj];exact ib _ _ _ (by omega)
  have ea := EK n es ed d h2 h3 (by omega) hl ih d.f1.length 0 (by omega);rw [List.take_zero] at ea;refine ea.succ (fun k => ?_);show aV.f (k + 1) _ _ _ _ = _;rw [aV.f, if_pos h0, if_pos h1, ← he, if_pos h2, if_pos h3];rfl
theorem Qo (h : aBe n es) (r : Int) (h0 : 0 ≤ r) (h1 : r < n) {x : Int × List dU × Int} (hx : Ev (fun k => if (bJ (jy n.toNat es) r).f0 ≥ 1099511627776 then some (0, [], 6) else (aV.f k n es (xL n.toNat es) r).bind fun b => some (b.1, b.2, 0)) x) : Ev (fun k => bA.f k n es r) x := by
 have hl := h.UZ.len;have h2 : Ev (fun k => bA.j0 k r n es) x := hx.succ (fun k => by
  rw [bA.j0, h.solve, Option.bind_some, if_pos h0, if_pos (show r < ((jy n.toNat es).length : Int) by omega)])
 exact h2.mp (fun k => by
  unfold bA.f fA.f;rw [h.valid, Option.bind_some, if_pos rfl, if_neg (by omega), if_neg (by omega)])
theorem RA (h : aBe n es) (r : Int) (h0 : 0 ≤ r) (h1 : r < n) (hi : 1099511627776 ≤ (bJ (jy n.toNat es) r).f0) : Ev (fun k => bA.f k n es r) (0, [], 6) :=
 Qo n es h r h0 h1 ((Ev.const _).mp (fun k => if_pos hi))
theorem RB (h : aBe n es) (r : Int) (h0 : 0 ≤ r) (h1 : r < n) (hi : (bJ (jy n.toNat es) r).f0 < 1099511627776) {d : dU} (hb : BD es (xL n.toNat es) r d) : Ev (fun k => bA.f k n es r) (d.f0, d.f1, 0) := by
 refine Qo n es h r h0 h1 ?_;have h2 := Rz n es (fun e he => by have := h.ta e he; omega) hb;exact (Ev.bind (G := fun k b => some (b.1, b.2, 0)) h2 (Ev.const _)).mp (fun k => if_neg (by omega))
end
end Go.Proofs.Ytamimodkcbbpmaa.Pr
end
section
namespace Go.Proofs.Ytamimodkcbbpmaa.Pr
open Go.RowKit Go.Proofs.YtamimodkcbbpmaaW.PrintWords Go.Proofs.YtamimodkcbbpmaaW.PrintLast Go.Proofs.YtamimodkcbbpmaaXW
set_option linter.unusedVariables false
set_option linter.unusedSimpArgs false
mutual
def toP : dU → S64
 | ⟨e, ks⟩ => ⟨e, arE ks⟩
def arE : List dU → List S64
 | [] => []
 | d :: ds => toP d :: arE ds
end
inductive ayz : dU → Prop
 | mk (d : dU) (hl : d.f1.length ≤ 1000000) (hk : ∀ v, v ∈ d.f1 → ayz v) : ayz d
theorem auO : ∀ l : List dU, (arE l).length = l.length
 | [] => rfl
 | d :: l => by
  have ih := auO l;simp only [arE, List.length_cons, ih]
theorem awC (l m : List dU) : arE (l ++ m) = arE l ++ arE m := by
 induction l with
 | nil => rfl
 | cons d l ih =>
  show toP d :: arE (l ++ m) = _;rw [ih];rfl
theorem aBF (d : dU) : toP d = ⟨d.f0, arE d.f1⟩ := by
 obtain ⟨e, ks⟩ := d;rw [toP]
theorem ayA (l : List dU) (i : Nat) (h : i < l.length) : arE (l.take (i + 1)) = arE (l.take i) ++ [⟨(bn l (i : Int)).f0, arE (bn l (i : Int)).f1⟩] := by
 rw [List.take_succ_eq_append_getElem h, awC];congr 1
 show [toP l[i]] = _;rw [aBF];simp only [bn, Int.toNat_natCast, List.getD_eq_getElem?_getD, List.getElem?_eq_getElem h, Option.getD_some]
def R89.T5 : Bool × List (List Nat × List Nat) := (true, [([], []), ([0], [0]), ([], []), ([], []), ([2, 3], [2, 3]), ([4], [4]), ([1, 5, 4], [1, 5]), ([0, 1, 2, 3, 4, 5, 6], []), ([7, 6, 6, 0, 1, 2, 3, 4, 5, 6], [6, 7])])
def R89.B5 : List Nat := [0, 1, 0, 0, 12, 28, 63, 127, 255]
theorem R89.aja : iC .any (opsOf Try.f89 5) = R89.T5 := by kernel_rfl
theorem R89.aeq : fo R89.T5.2 R89.B5 = true := by kernel_rfl
set_option maxRecDepth 100000 in
set_option maxHeartbeats 8000000 in
theorem ayB {d : dU} (hs : ayz d) : ∀ (A1 : Option Addr) (k1 : Nat) (b : Nat) (w : World), Kd.C k27 w A1 d.f1.length d.f1 → d.f1.length ≤ k1 → w.heap[b]? = some (.cells #[.func (.func 89) #[] #[.pointer (some ⟨b, 0, none⟩)]] 105 (0, 0)) →
  Calls Try.prog 89 #[.agg #[.int .i64 d.f0, .slice A1 d.f1.length k1], .pointer (some ⟨b, 0, none⟩)] w fun e w' => ∃ v1 : Value, e = .returned (.agg #[.int .i64 d.f0, v1]) ∧ Kd.R OG 64 w' w.heap.size (fun _ => True) v1 (arE d.f1) ∧ Below w.heap.size w w' := by
 induction hs with
 | mk d hl hk ih =>
 intro A1 k1 b w hC hc hb;obtain ⟨e, ks⟩ := d;simp only at hl hk ih hC hc ⊢;have HR1 := aa.mk hC;have EY := aa.mk hc;have HBX := aa.mk hb;have IH := aa.mk ih;have HL := aa.mk hl;clear hC hc hb ih hk hl;go_enter Try.func89, Try.ntmps89
 go_upto_region 2 with (fail)
 have ER := eX w (.cells #[.int .i64 e, .slice A1 ks.length k1] 27);have hA1 := eX (w.alloc (.cells #[.int .i64 e, .slice A1 ks.length k1] 27)) (.cells #[.int .i64 0, .slice none 0 0] 64);have hA2 := eX ((w.alloc (.cells #[.int .i64 e, .slice A1 ks.length k1] 27)).alloc (.cells #[.int .i64 0, .slice none 0 0] 64)) (.cells #[.int .i64 e, .slice none 0 0] 64);have hs1 : (w.alloc (.cells #[.int .i64 e, .slice A1 ks.length k1] 27)).heap.size = w.heap.size + 1 := (by show (w.heap.push _).size = _; simp);have hs2 : ((w.alloc (.cells #[.int .i64 e, .slice A1 ks.length k1] 27)).alloc (.cells #[.int .i64 0, .slice none 0 0] 64)).heap.size = w.heap.size + 2 := (by show ((w.heap.push _).push _).size = _; simp);have HB := aa.mk (aM (aM ER.1 hA1.1) hA2.1);have BKX := aa.mk (aC HBX.out (aM (aM ER.1 hA1.1) hA2.1));have BKD := aa.mk (aC (aC ER.2 hA1.1) hA2.1);have BKR := aa.mk (aC hA1.2 hA2.1);have BKP := aa.mk hA2.2;have hbl := bE HBX.out;rw [hs1] at BKR;rw [hs2] at BKP;obtain ⟨gD, eD⟩ : ∃ g, g = w.heap.size := ⟨_, rfl⟩;obtain ⟨gR, eR⟩ : ∃ g, g = w.heap.size + 1 := ⟨_, rfl⟩;obtain ⟨gP, eP⟩ : ∃ g, g = w.heap.size + 2 := ⟨_, rfl⟩;have GD := aa.mk (show w.heap.size ≤ gD by omega);have GR := aa.mk (show w.heap.size ≤ gR by omega);have GP := aa.mk (show w.heap.size ≤ gP by omega);have NDP := aa.mk (show gD ≠ gP by omega);have NRP := aa.mk (show gR ≠ gP by omega);have NDR := aa.mk (show gD ≠ gR by omega);have NXP := aa.mk (show b ≠ gP by omega);have NXR := aa.mk (show b ≠ gR by omega);rw [← eP] at BKP ⊢;rw [← eR] at BKR ⊢;rw [← eD] at BKD ⊢;clear eD eR eP hs1 hs2 ER hA1 hA2 hbl;generalize (((w.alloc (.cells #[.int .i64 e, .slice A1 ks.length k1] 27)).alloc (.cells #[.int .i64 0, .slice none 0 0] 64)).alloc (.cells #[.int .i64 e, .slice none 0 0] 64)) = w3 at *;have c0 : w3.cell? ⟨gD, 1, none⟩ = some (.slice A1 ks.length k1) := (ae BKD.out 1).trans rfl;go_wp2_with fail
 go_loopg [13] (ks.length + 1) (fun g v13 w' => ∃ (j : Nat) (u : Value), v13 = .int .i64 j ∧ aa (j ≤ ks.length) ∧ aa (ks.length - j < g) ∧ aa (Kd.R OG 64 w' w.heap.size (fun k_ => k_ ≠ gR ∧ k_ ≠ gP) u (arE (ks.take j))) ∧ aa (w'.heap[b]? = some (.cells #[.func (.func 89) #[] #[.pointer (some ⟨b, 0, none⟩)]] 105 (0, 0))) ∧ aa (w'.heap[gD]? = some (.cells #[.int .i64 e, .slice A1 ks.length k1] 27 (0, 0))) ∧ aa (w'.heap[gR]? = some (.cells #[.int .i64 0, .slice none 0 0] 64 (0, 0))) ∧ aa (w'.heap[gP]? = some (.cells #[.int .i64 e, u] 64 (0, 0))) ∧ aa (Below w.heap.size w w'))
 case atStart => exact ⟨0, .slice none 0 0, by go_num, ⟨by omega⟩, ⟨by omega⟩, ⟨Kd.qf _ _ _ _ _⟩, BKX, BKD, BKR, BKP, HB⟩
 case round =>
  clear BKX BKD BKR BKP HB c0;obtain ⟨j, u, rfl, hj, hg, HO, BKX, BKD, BKR, BKP, HB⟩ := hrel;by_cases hjn : j < ks.length
  ·obtain ⟨ad, A2, c2, hA, d0, d1, hcK, hCK⟩ := nE HR1.out (j : Int) (by omega) (by omega);subst hA;have hmem : bn ks (j : Int) ∈ ks := by
    simp only [bn, Int.toNat_natCast];rw [List.getD_eq_getElem?_getD, List.getElem?_eq_getElem hjn];exact List.getElem_mem _
   have hstep := ayA ks j hjn;replace d0 := ah HB.out d0; replace d1 := ah HB.out d1;obtain ⟨el, zQ⟩ : ∃ e, bn ks (j : Int) = e := ⟨_, rfl⟩;rw [zQ] at d0 d1 hcK hCK hmem hstep;have IHK := aa.mk (IH.out el hmem);simp only [Int.toNat_natCast] at d0 d1;obtain ⟨y, hy⟩ : ∃ y, arE (ks.take j) = y := ⟨_, rfl⟩;have HYL : aa (y.length ≤ 1000000) := ⟨by rw [← hy, auO, List.length_take]; have := HL.out; omega⟩;rw [hy] at hstep HO;obtain ⟨y2, hy2⟩ : ∃ y2, y2 = y ++ [(⟨el.f0, arE el.f1⟩ : S64)] := ⟨_, rfl⟩;rw [← hy2] at hstep;have NY := aa.mk hy2;have HST := aa.mk hstep;have HCK := aa.mk (Kd.bF hCK HB.out);clear zQ hmem hstep hCK hy hy2;go_upto_region 5 with (fail)
   have EB := eX wr (.cells #[.int .i64 el.f0, .slice A2 el.f1.length c2] 27);obtain ⟨gK, eK⟩ : ∃ g, g = wr.heap.size := ⟨_, rfl⟩;have hdr := dM (Below.refl (wr.alloc (.cells #[.int .i64 el.f0, .slice A2 el.f1.length c2] 27)).heap.size (wr.alloc (.cells #[.int .i64 el.f0, .slice A2 el.f1.length c2] 27)));have hst := aM EB.1 hdr;have mD := aa.mk (aC BKD.out hst);have mR := aa.mk (aC BKR.out hst);have mP := aa.mk (aC BKP.out hst);have mX := aa.mk (aC BKX.out hst);have BKK := aa.mk (aC EB.2 hdr);have mO := aa.mk (Kd.aaH (Kd.ay5 HO.out (.cells #[.int .i64 el.f0, .slice A2 el.f1.length c2] 27)));have mC := aa.mk (Kd.bF HCK.out hst);have mB := aa.mk (aM HB.out hst);have GK := aa.mk (show w.heap.size ≤ gK by have := HB.out.size; omega);rw [← eK] at BKK ⊢;clear BKD BKR BKP BKX HO HCK HB d0 d1 EB hdr hst eK;have BKD := mD; have BKR := mR; have BKP := mP; have BKX := mX; have HO := mO; have HCK := mC; have HB := mB;clear mD mR mP mX mO mC mB;generalize (wr.alloc (.cells #[.int .i64 el.f0, .slice A2 el.f1.length c2] 27)) = w5 at *;refine fu (n := 9) (S := fun w' => w'.cell? ⟨gP, 0, none⟩ = some (.int .i64 e) ∧ w'.cell? ⟨gP, 1, none⟩ = some (u) ∧ w'.cell? ⟨b, 0, none⟩ = some (.func (.func 89) #[] #[.pointer (some ⟨b, 0, none⟩)]) ∧ w'.cell? ⟨gK, 0, none⟩ = some (.int .i64 el.f0) ∧ w'.cell? ⟨gK, 1, none⟩ = some (.slice A2 el.f1.length c2)) (ds := [8]) #[false, false, false, false, false, false, false, false, false] (by kernel_rfl) rfl rfl ⟨(ae BKP.out 0).trans rfl, (ae BKP.out 1).trans rfl, (ae BKX.out 0).trans rfl, (ae BKK.out 0).trans rfl, (ae BKK.out 1).trans rfl⟩ (fun hHeld => ?_);refine dw R89.aja R89.aeq (fun dA ji => ?_);refine oq (fuel := 8) [(0, 17)] #[true, false, false, false, false, false, false, false, false] (jT dA.out _ _ _ (by kernel_rfl)) rfl (fun _ _ _ _ _ h => h) (a' := ?_) ?_ ?_;rotate_left
   ·iterate 1
     refine gI (v := ?_) (a1 := ?_) rfl rfl (Or.inl ⟨by rfl, ?_⟩) ?_ ?_;rotate_left 2
     ·intro w';go_simp;with_reducible rfl
     ·simp only [Act.put, List.setIfInBounds_toArray, List.set_cons_zero, List.set_cons_succ, bH, bI];rfl
    exact iD
   refine fG (fuel := 5) [(1, 18), (2, 19), (3, 20)] #[true, true, true, true, false, false, false, false, false] (df dA.out ji.out _ _ _ (by kernel_rfl)) rfl (fun _ _ _ _ _ h => h) hHeld (a' := ?_) ?_ ?_;rotate_left
   ·iterate 3
     refine bC (v := ?_) (a1 := ?_) rfl rfl (Or.inl ⟨by rfl, ?_⟩) ?_ ?_;rotate_left 2
     ·rintro w' ⟨s0, s1, s2, s3, s4⟩;go_simp;with_reducible rfl
     ·simp only [Act.put, List.setIfInBounds_toArray, List.set_cons_zero, List.set_cons_succ, bH, bI];rfl
    exact chain_nil
   refine fT (i := 4) (N := some 21) #[true, true, true, true, true, false, false, false, false] rfl rfl (dn dA.out (by kernel_rfl)) (by decide) (fun K hK => ?_);refine call_ 89 #[.agg #[.int .i64 el.f0, .slice A2 el.f1.length c2], .pointer (some ⟨b, 0, none⟩)] (by rfl) rfl ?_ ?_
   ·have zQ := kJ Try.func89 (by kernel_rfl) rfl #[.agg #[.int .i64 el.f0, .slice A2 el.f1.length c2], .pointer (some ⟨b, 0, none⟩)] w5.drew;unfold execOp;simp [resolve, Deferred.ofValue, invoke, Act.eval, zQ]
   refine (IHK.out A2 c2 b w5.drew HCK.out hcK BKX.out).mono ?_;rintro x1 w1 ⟨v157, rfl, ho0, hb⟩;refine ⟨_, rfl, ?_⟩;have bP := aa.mk (Kd.zX HO.out (Kd.FI ho0) hb);have bQ := aa.mk (Kd.iL (Kd.xU (Kd.xU (Kd.I8 ho0 (Kd.xK HO.out)) (bk BKR)) (bk BKP)) (aK (bO HB)));have mD := aa.mk (aC (bk BKD) hb);have mR := aa.mk (aC (bk BKR) hb);have mP := aa.mk (aC (bk BKP) hb);have mX := aa.mk (aC (bk BKX) hb);have mK := aa.mk (aC (bk BKK) hb);have mB := aa.mk (aM (bO HB) hb);clear HO BKD BKR BKP BKX BKK HB HCK;have HO := bP; have HO1 := bQ; have BKD := mD; have BKR := mR; have BKP := mP; have BKX := mX; have BKK := mK; have HB := mB;clear bP bQ mD mR mP mX mK mB hb ho0;obtain ⟨Ao, co, eo⟩ := Kd.fQ HO1.out;subst eo;refine hK.out _ _ ⟨(ae BKP.out 0).trans rfl, (ae BKP.out 1).trans rfl, (ae BKX.out 0).trans rfl, (ae BKK.out 0).trans rfl, (ae BKK.out 1).trans rfl⟩ (fun hHeld => ?_);clear hK K;refine bS (a' := ?_) ?_ ?_;rotate_left
   ·show Act.put _ (some 21) _ = _;simp only [Act.put, List.setIfInBounds_toArray, List.set_cons_zero, List.set_cons_succ, bH, bI];rfl
   refine fT (i := 5) (N := some 22) #[true, true, true, true, true, true, false, false, false] rfl rfl (dn dA.out (by kernel_rfl)) (by decide) (fun K hK => ?_);refine pY (w1 := ?_) (v := ?_) (by rfl) rfl ?_ ?_;rotate_left 2
   ·go_simp;constructor
    ·rfl
    ·rfl
   refine hK.out _ _ ⟨(ae (au BKP.out _) 0).trans rfl, (ae (au BKP.out _) 1).trans rfl, (ae (au BKX.out _) 0).trans rfl, (ae (au BKK.out _) 0).trans rfl, (ae (au BKK.out _) 1).trans rfl⟩ (fun hHeld => ?_);clear hK K;refine bS (a' := ?_) ?_ ?_;rotate_left
   ·show Act.put _ (some 22) _ = _;simp only [Act.put, List.setIfInBounds_toArray, List.set_cons_zero, List.set_cons_succ, bH, bI];rfl
   refine fT (i := 6) (N := some 23) #[true, true, true, true, true, true, true, false, false] rfl rfl (dn dA.out (by kernel_rfl)) (by decide) (fun K hK => ?_);refine Kd.oL OG (w0 := w) w.heap.size (by rfl) (.tmp 18) (.tmp 22) 62 64 (.agg #[(.int .i64 0), (.slice none 0 0)]) 32 rfl Try.underlying62 ah0 rfl (by decide) (by omega) u y (⟨el.f0, arE el.f1⟩ : S64) [.int .i64 el.f0, .slice Ao (arE el.f1).length co] (fun k_ => k_ ≠ gR ∧ k_ ≠ gP) (fun k_ => ((fun k_ => k_ ≠ gR ∧ k_ ≠ gP)) k_ ∧ some k_ ≠ (u : Value).ownBlock) rfl rfl ?aP (fun _ hk => hk) ?aF ?aO ?aB ?aS ?aL ?_;(case aP => exact afB _ _ _ (⟨el.f0, arE el.f1⟩ : S64) (Kd.bB (HO1.out) (fun k_ hk => ⟨⟨hk.1.2, hk.2⟩, hk.1.1.2⟩)));(case aB => exact (bO HB));(case aF => exact (fun k_ hk => ⟨Kd.Dg (bk BKR) k_ hk, Kd.Dg (bk BKP) k_ hk⟩));(case aO => exact (by (with_reducible repeat (first | apply Kd.ay5 | apply Kd.eu | apply Kd.aaH)); exact Kd.bB HO.out (fun _ hk => ⟨hk.1.1, hk.1.2⟩)));(case aS => exact (aK (bO HB)));(case aL => have := HYL.out; omega);intro v160 w2 ho hb hg hat;rw [← NY.out] at ho;have mD := aa.mk (bX (bk BKD) hg (Kd.aqP HO.out BKD.out (by decide)));have mR := aa.mk (bX (bk BKR) hg (Kd.FJ HO.out (fun _ hk => hk.1.1)));have mP := aa.mk (bX (bk BKP) hg (Kd.FJ HO.out (fun _ hk => hk.1.2)));have mX := aa.mk (bX (bk BKX) hg (Kd.aqP HO.out BKX.out (by decide)));have mK := aa.mk (bX (bk BKK) hg (Kd.aqP HO.out BKK.out (by decide)));have mB := aa.mk hb;have HO2 := aa.mk ho;clear HO HO1 BKD BKR BKP BKX BKK HB ho hb hg hat;have BKD := mD; have BKR := mR; have BKP := mP; have BKX := mX; have BKK := mK; have HB := mB;clear mD mR mP mX mK mB;obtain ⟨Ao2, co2, eo2⟩ := Kd.fQ HO2.out;subst eo2;refine hK.out _ _ ⟨(ae BKP.out 0).trans rfl, (ae BKP.out 1).trans rfl, (ae BKX.out 0).trans rfl, (ae BKK.out 0).trans rfl, (ae BKK.out 1).trans rfl⟩ (fun hHeld => ?_);clear hK K;refine bS (a' := ?_) ?_ ?_;rotate_left
   ·show Act.put _ (some 23) _ = _;simp only [Act.put, List.setIfInBounds_toArray, List.set_cons_zero, List.set_cons_succ, bH, bI];rfl
   refine oq (fuel := 1) [(7, 24)] #[true, true, true, true, true, true, true, true, false] (jT dA.out _ _ _ (by kernel_rfl)) rfl (fun _ _ _ _ _ h => h) (a' := ?_) ?_ ?_;rotate_left
   ·iterate 1
     refine gI (v := ?_) (a1 := ?_) rfl rfl (Or.inl ⟨by rfl, ?_⟩) ?_ ?_;rotate_left 2
     ·intro w';go_simp;with_reducible rfl
     ·simp only [Act.put, List.setIfInBounds_toArray, List.set_cons_zero, List.set_cons_succ, bH, bI];rfl
    exact iD
   refine El (i := 8) (N := none) #[true, true, true, true, true, true, true, true, true] rfl rfl (dn dA.out (by kernel_rfl)) (by decide) (fun K hK => ?_);have hs := (ae BKP.out 1).trans rfl;have apn : w2.cell? ⟨gP, 1, none⟩ = some (u) := hs;clear hs;have amv := ai BKP.out 1;have q0 := NDP.out; have q1 := NRP.out; have q2 := NXP.out; have q3 := NDP.out.symm; have q4 := NRP.out.symm; have q5 := NXP.out.symm;refine rV (w1 := ?_) (by rfl) rfl ?_ ?_;rotate_left
   ·go_simp;rfl
   refine hK.out _ _ ?_;clear hK K;refine gH (dV dA.out (by kernel_rfl)) ?_;go_wp2_with fail
   go_roundg (ks.length - j)
   case measure => have := hg.out; omega
   have hL := HL.out;have hw : wrap64 ((j : Int) + 1) = ((j + 1 : Nat) : Int) := by unfold wrap64; omega
   case rel => exact ⟨j + 1, .slice Ao2 y2.length co2, by rw [hw], ⟨by omega⟩, ⟨by omega⟩, ⟨by rw [HST.out]; exact Kd.bB (Kd.jS (p := ⟨gP, 1, none⟩) (Kd.bB HO2.out (fun k_ hk => (⟨hk, hk.2⟩ : _ ∧ k_ ≠ gP))) (fun _ hk => hk.2) (.slice Ao2 y2.length co2)) (fun _ hk => ⟨hk.1.1, hk.1.2⟩)⟩, ⟨bD BKX.out NXP.out _⟩, ⟨bD BKD.out NDP.out _⟩, ⟨bD BKR.out NRP.out _⟩, ⟨bL (cs := #[.int .i64 e, u]) BKP.out 1 _ rfl⟩, ⟨QE HB.out GP.out⟩⟩
  ·obtain rfl : j = ks.length := by have := hj.out; omega
   have hjj : ¬ ((ks.length : Int) < (ks.length : Int)) := by omega
   rw [List.take_length] at HO;obtain ⟨Ao, co, eo⟩ := Kd.fQ HO.out;subst eo;have q0 := NRP.out; have q1 := NRP.out.symm;have t0 : wr.cell? ⟨gP, 0, none⟩ = some (.int .i64 e) := (ae BKP.out 0).trans rfl;have t1 : wr.cell? ⟨gP, 1, none⟩ = some (.slice Ao (arE ks).length co) := (ae BKP.out 1).trans rfl;have t2 : wr.cell? ⟨gR, 0, none⟩ = some (.int .i64 0) := (ae BKR.out 0).trans rfl;have t3 : wr.cell? ⟨gR, 1, none⟩ = some (.slice none 0 0) := (ae BKR.out 1).trans rfl;have f0 := ai BKR.out 0;have f1 := ai BKR.out 1;go_wp2_with fail
   refine bodyPost_ret (results_cell_row rfl _ _ gR 64 #[.int .i64 e, .slice Ao (arE ks).length co] (0, 0) _ rfl (by refine bL (cs := #[.int .i64 e, .slice none 0 0]) ?_ 1 _ rfl; refine bL (cs := #[.int .i64 0, .slice none 0 0]) ?_ 0 _ rfl; exact BKR.out) Try.underlying64 rfl (by kernel_rfl)) rfl ?_;exact ⟨_, rfl, Kd.bB (Kd.jS (p := ⟨gR, 1, none⟩) (Kd.jS (p := ⟨gR, 0, none⟩) (Kd.bB HO.out (fun k_ hk => (⟨hk, hk.1⟩ : _ ∧ k_ ≠ gR))) (fun _ hk => hk.2) (.int .i64 e)) (fun _ hk => hk.2) (.slice Ao (arE ks).length co)) (fun _ hk => trivial), QE (QE HB.out GR.out) GR.out⟩
mutual
def smT : dU → Bool
 | ⟨_, ks⟩ => decide (ks.length ≤ 1000000) && axj ks
def axj : List dU → Bool
 | [] => true
 | d :: ds => smT d && axj ds
end
mutual
theorem ayj : ∀ d, smT d = true → ayz d
 | ⟨e, ks⟩ => by
  rw [smT, Bool.and_eq_true, decide_eq_true_eq];rintro ⟨h1, h2⟩;exact ayz.mk ⟨e, ks⟩ h1 (awD ks h2)
theorem awD : ∀ ks, axj ks = true → ∀ v, v ∈ ks → ayz v
 | [] => fun _ v hv => by cases hv
 | d :: ds => by
  rw [axj, Bool.and_eq_true];rintro ⟨h1, h2⟩ v hv;have k1 := ayj d h1;have k2 := awD ds h2;rcases List.mem_cons.1 hv with e | hv
  ·rw [e]; exact k1
  ·exact k2 v hv
end
theorem ay8 : ∀ l : List dU, (∀ v, v ∈ l → smT v = true) → axj l = true
 | [], _ => by rw [axj]
 | d :: l, h => by rw [axj, h d (List.mem_cons_self ..), ay8 l (fun v hv => h v (List.mem_cons_of_mem _ hv))]; rfl
def apm.j (k : Nat) (T N S : Int) (rs : List KH) (ins : List Int) (h : Int) : Option (Int × (List S64) × Int) :=
 (Be.f k T N S rs ins).bind fun g => (bA.f k g.1 g.2 h).bind fun b => if b.2.2 = 0 then (if smT ⟨b.1, b.2.1⟩ = true then some (b.1, arE b.2.1, 0) else none) else some (0, ([] : List S64), b.2.2)
def apm.f (k : Nat) (T N S : Int) (rs : List KH) (ins : List Int) (h : Int) : Option (Int × (List S64) × Int) :=
 (an2.f k T N S rs ins).bind fun v => (aqQ.f k T N S rs ins).bind fun ok => if ok = true then (if h < 0 then some (0, ([] : List S64), 2) else (if h ≥ N then some (0, ([] : List S64), 2) else (if h < (v.length : Int) then (if (bJ v h).f0 ≥ 1099511627776 then some (0, ([] : List S64), 6) else (if (bJ v h).f1 > 1000 then some (0, ([] : List S64), 11) else apm.j k T N S rs ins h)) else none))) else some (0, ([] : List S64), 1)
theorem apm.mono : ∀ a0 a1 a2 a3 a4 a5 k, dz (apm.f k a0 a1 a2 a3 a4 a5) (apm.f (k + 1) a0 a1 a2 a3 a4 a5) := by
 intro a0 a1 a2 a3 a4 a5 k;unfold apm.f apm.j;repeat' first
   | (with_reducible exact Be.mono _ _ _ _ _ _)
   | (with_reducible exact aqQ.mono _ _ _ _ _ _)
   | (with_reducible exact an2.mono _ _ _ _ _ _)
   | (with_reducible exact bA.mono _ _ _ _)
   | (with_reducible exact dz.refl _)
   | (with_reducible exact dz.none _)
   | (with_reducible refine dz.ite ?_ ?_)
   | (with_reducible refine dz.bind ?_ (fun _ => ?_))
set_option maxRecDepth 100000 in
set_option maxHeartbeats 8000000 in
theorem apm.calls (k : Nat) (T N S : Int) (A : Option Addr) (c : Nat) (rs : List KH) (AI : Option Addr) (ci : Nat) (ins : List Int) (h : Int) (r1 : Int) (r2 : List S64) (r3 : Int) (w : World) (hC : Kd.C Md w A rs.length rs) (hc : rs.length ≤ c) (hCI : Kd.C (Kd.int .i64) w AI ins.length ins) (hci : ins.length ≤ ci) (hf : apm.f k T N S rs ins h = some (r1, r2, r3)) :
  Calls Try.prog 51 #[.agg #[.int .i64 T, .int .i64 N, .int .i64 S, .slice A rs.length c], .slice AI ins.length ci, .int .i64 h] w fun e w' => ∃ EF : Value, e = .returned (.tuple #[.agg #[.int .i64 r1, EF], .int .i64 r3]) ∧ Kd.R OG 64 w' w.heap.size (fun _ => True) EF r2 ∧ Below w.heap.size w w' := by
 have Hm := Try.underlying27;have hu64 := Try.underlying64;have aOC := Try.underlying105;have HC := aa.mk hC;have HCI := aa.mk hCI;clear hC hCI;unfold apm.f at hf;obtain ⟨v, hv, hf⟩ := Option.bind_eq_some_iff.1 hf;obtain ⟨ok, ho, hf⟩ := Option.bind_eq_some_iff.1 hf;have HV := aa.mk hv;have HO := aa.mk ho;have HF := aa.mk hf;clear hv ho hf;have hmf : ∀ (fn : Fn) (first cap : Array Value) (w : World), (Instr.makeFunc fn first cap).run Try.prog w = .ok (.func fn first cap) w := fun _ _ _ _ => rfl
 go_enter Try.func51, Try.ntmps51
 go_upto_region 1 with (fail)
 have ER := eX w (.cells #[.int .i64 T, .int .i64 N, .int .i64 S, .slice A rs.length c] 58);have hA1 := eX (w.alloc (.cells #[.int .i64 T, .int .i64 N, .int .i64 S, .slice A rs.length c] 58)) (.cells #[.int .i64 0, .slice none 0 0] 64);have hs1 : (w.alloc (.cells #[.int .i64 T, .int .i64 N, .int .i64 S, .slice A rs.length c] 58)).heap.size = w.heap.size + 1 := (by show (w.heap.push _).size = _; simp);have Dt := aa.mk (aM ER.1 hA1.1);have H1 := aa.mk (aC ER.2 hA1.1);have H2 := aa.mk hA1.2;rw [hs1] at H2;obtain ⟨gB, eB⟩ : ∃ g, g = w.heap.size := ⟨_, rfl⟩;obtain ⟨gR, eR⟩ : ∃ g, g = w.heap.size + 1 := ⟨_, rfl⟩;have GR := aa.mk (show w.heap.size ≤ gR by omega);rw [← eR] at H2 ⊢;rw [← eB] at H1 ⊢;clear eB eR hs1 ER hA1;generalize ((w.alloc (.cells #[.int .i64 T, .int .i64 N, .int .i64 S, .slice A rs.length c] 58)).alloc (.cells #[.int .i64 0, .slice none 0 0] 64)) = w1 at *;have Gy : aa (∀ w', Below w1.heap.size w1 w' → w'.cell? ⟨gB, 0, none⟩ = some (.int .i64 T) ∧ w'.cell? ⟨gB, 1, none⟩ = some (.int .i64 N) ∧ w'.cell? ⟨gB, 2, none⟩ = some (.int .i64 S) ∧ w'.cell? ⟨gB, 3, none⟩ = some (.slice A rs.length c) ∧ w'.cell? ⟨gR, 0, none⟩ = some (.int .i64 0) ∧ w'.cell? ⟨gR, 1, none⟩ = some (.slice none 0 0) ∧ w'.frozen? ⟨gR, 0, none⟩ = false ∧ w'.frozen? ⟨gR, 1, none⟩ = false) := ⟨fun w' h => ⟨(ae (aC H1.out h) 0).trans rfl, (ae (aC H1.out h) 1).trans rfl, (ae (aC H1.out h) 2).trans rfl, (ae (aC H1.out h) 3).trans rfl, (ae (aC H2.out h) 0).trans rfl, (ae (aC H2.out h) 1).trans rfl, ai (aC H2.out h) 0, ai (aC H2.out h) 1⟩⟩;obtain ⟨c0, c1, c2, c3, d0, d1, f0, f1⟩ := Gy.out w1 (Below.refl _ _)
 cases ok with
 | false =>
  have HF1 := HF.out;rw [if_neg (by decide)] at HF1;injection HF1 with e1
  injection e1 with e1 e2
  injection e2 with e2 e3
  subst e1 e2 e3;go_wp2_with (first | (go_at_call 49; refine (an2.calls k T N S A c rs AI ci ins v w1 (Kd.bF HC.out Dt.out) hc (Kd.bF HCI.out Dt.out) hci HV.out).mono ?_; rintro x w2 ⟨vv, rfl, hR, hB⟩; obtain ⟨Av, cv, rfl, hcv, hCv⟩ := Kd.oK hR; have Mf := aa.mk (aM Dt.out hB); have UW := aa.mk hCv; have HB2 := aa.mk hB; clear hB c0 c1 c2 c3 d0 d1 f0 f1 hR hCv; obtain ⟨c0, c1, c2, c3, d0, d1, f0, f1⟩ := Gy.out w2 HB2.out) | (go_at_call 87; refine (aqQ.calls k T N S A c rs AI ci ins false w2 (Kd.bF HC.out Mf.out) hc (Kd.bF HCI.out Mf.out) hci HO.out).mono ?_; rintro x w3 ⟨rfl, hB⟩; have HQ3 := aa.mk (aM Mf.out hB); have HB3 := aa.mk (aM HB2.out hB); have awE := aa.mk (Kd.bF UW.out hB); clear hB c0 c1 c2 c3 d0 d1 f0 f1; obtain ⟨c0, c1, c2, c3, d0, d1, f0, f1⟩ := Gy.out w3 HB3.out))
  refine bodyPost_ret (jr rfl _ _ gR 64 #[.int .i64 0, .slice none 0 0] (0, 0) _ rfl (by refine bL (cs := #[.int .i64 0, .slice none 0 0]) ?_ 1 _ rfl; refine bL (cs := #[.int .i64 0, .slice none 0 0]) ?_ 0 _ rfl; exact aC H2.out HB3.out) Try.underlying64 rfl (by kernel_rfl)) rfl ?_;exact ⟨_, rfl, Kd.qf _ _ _ _ _, QE (QE HQ3.out GR.out) GR.out⟩
 | true =>
  have HF1 := HF.out;rw [if_pos rfl] at HF1;by_cases g1 : h < 0
  ·rw [if_pos g1] at HF1;injection HF1 with e1
   injection e1 with e1 e2
   injection e2 with e2 e3
   subst e1 e2 e3;go_wp2_with (first | (go_at_call 49; refine (an2.calls k T N S A c rs AI ci ins v w1 (Kd.bF HC.out Dt.out) hc (Kd.bF HCI.out Dt.out) hci HV.out).mono ?_; rintro x w2 ⟨vv, rfl, hR, hB⟩; obtain ⟨Av, cv, rfl, hcv, hCv⟩ := Kd.oK hR; have Mf := aa.mk (aM Dt.out hB); have UW := aa.mk hCv; have HB2 := aa.mk hB; clear hB c0 c1 c2 c3 d0 d1 f0 f1 hR hCv; obtain ⟨c0, c1, c2, c3, d0, d1, f0, f1⟩ := Gy.out w2 HB2.out) | (go_at_call 87; refine (aqQ.calls k T N S A c rs AI ci ins true w2 (Kd.bF HC.out Mf.out) hc (Kd.bF HCI.out Mf.out) hci HO.out).mono ?_; rintro x w3 ⟨rfl, hB⟩; have HQ3 := aa.mk (aM Mf.out hB); have HB3 := aa.mk (aM HB2.out hB); have awE := aa.mk (Kd.bF UW.out hB); clear hB c0 c1 c2 c3 d0 d1 f0 f1; obtain ⟨c0, c1, c2, c3, d0, d1, f0, f1⟩ := Gy.out w3 HB3.out))
   refine bodyPost_ret (jr rfl _ _ gR 64 #[.int .i64 0, .slice none 0 0] (0, 0) _ rfl (by refine bL (cs := #[.int .i64 0, .slice none 0 0]) ?_ 1 _ rfl; refine bL (cs := #[.int .i64 0, .slice none 0 0]) ?_ 0 _ rfl; exact aC H2.out HB3.out) Try.underlying64 rfl (by kernel_rfl)) rfl ?_;exact ⟨_, rfl, Kd.qf _ _ _ _ _, QE (QE HQ3.out GR.out) GR.out⟩
  ·rw [if_neg g1] at HF1;by_cases g2 : h ≥ N
   ·rw [if_pos g2] at HF1;injection HF1 with e1
    injection e1 with e1 e2
    injection e2 with e2 e3
    subst e1 e2 e3;go_wp2_with (first | (go_at_call 49; refine (an2.calls k T N S A c rs AI ci ins v w1 (Kd.bF HC.out Dt.out) hc (Kd.bF HCI.out Dt.out) hci HV.out).mono ?_; rintro x w2 ⟨vv, rfl, hR, hB⟩; obtain ⟨Av, cv, rfl, hcv, hCv⟩ := Kd.oK hR; have Mf := aa.mk (aM Dt.out hB); have UW := aa.mk hCv; have HB2 := aa.mk hB; clear hB c0 c1 c2 c3 d0 d1 f0 f1 hR hCv; obtain ⟨c0, c1, c2, c3, d0, d1, f0, f1⟩ := Gy.out w2 HB2.out) | (go_at_call 87; refine (aqQ.calls k T N S A c rs AI ci ins true w2 (Kd.bF HC.out Mf.out) hc (Kd.bF HCI.out Mf.out) hci HO.out).mono ?_; rintro x w3 ⟨rfl, hB⟩; have HQ3 := aa.mk (aM Mf.out hB); have HB3 := aa.mk (aM HB2.out hB); have awE := aa.mk (Kd.bF UW.out hB); clear hB c0 c1 c2 c3 d0 d1 f0 f1; obtain ⟨c0, c1, c2, c3, d0, d1, f0, f1⟩ := Gy.out w3 HB3.out))
    refine bodyPost_ret (jr rfl _ _ gR 64 #[.int .i64 0, .slice none 0 0] (0, 0) _ rfl (by refine bL (cs := #[.int .i64 0, .slice none 0 0]) ?_ 1 _ rfl; refine bL (cs := #[.int .i64 0, .slice none 0 0]) ?_ 0 _ rfl; exact aC H2.out HB3.out) Try.underlying64 rfl (by kernel_rfl)) rfl ?_;exact ⟨_, rfl, Kd.qf _ _ _ _ _, QE (QE HQ3.out GR.out) GR.out⟩
   ·rw [if_neg g2] at HF1;by_cases g3 : h < (v.length : Int)
    ·rw [if_pos g3] at HF1;have g1' : 0 ≤ h := by omega
     by_cases g4 : (bJ v h).f0 ≥ 1099511627776
     ·rw [if_pos g4] at HF1;injection HF1 with e1
      injection e1 with e1 e2
      injection e2 with e2 e3
      subst e1 e2 e3;go_wp2_with (first | (go_at_call 49; refine (an2.calls k T N S A c rs AI ci ins v w1 (Kd.bF HC.out Dt.out) hc (Kd.bF HCI.out Dt.out) hci HV.out).mono ?_; rintro x w2 ⟨vv, rfl, hR, hB⟩; obtain ⟨Av, cv, rfl, hcv, hCv⟩ := Kd.oK hR; have Mf := aa.mk (aM Dt.out hB); have UW := aa.mk hCv; have HB2 := aa.mk hB; clear hB c0 c1 c2 c3 d0 d1 f0 f1 hR hCv; obtain ⟨c0, c1, c2, c3, d0, d1, f0, f1⟩ := Gy.out w2 HB2.out) | (go_at_call 87; refine (aqQ.calls k T N S A c rs AI ci ins true w2 (Kd.bF HC.out Mf.out) hc (Kd.bF HCI.out Mf.out) hci HO.out).mono ?_; rintro x w3 ⟨rfl, hB⟩; have HQ3 := aa.mk (aM Mf.out hB); have HB3 := aa.mk (aM HB2.out hB); have awE := aa.mk (Kd.bF UW.out hB); clear hB c0 c1 c2 c3 d0 d1 f0 f1; obtain ⟨c0, c1, c2, c3, d0, d1, f0, f1⟩ := Gy.out w3 HB3.out; obtain ⟨ad, eA, t0, t1⟩ := p9 awE.out h g1' g3; subst eA))
      refine bodyPost_ret (jr rfl _ _ gR 64 #[.int .i64 0, .slice none 0 0] (0, 0) _ rfl (by refine bL (cs := #[.int .i64 0, .slice none 0 0]) ?_ 1 _ rfl; refine bL (cs := #[.int .i64 0, .slice none 0 0]) ?_ 0 _ rfl; exact aC H2.out HB3.out) Try.underlying64 rfl (by kernel_rfl)) rfl ?_;exact ⟨_, rfl, Kd.qf _ _ _ _ _, QE (QE HQ3.out GR.out) GR.out⟩
     ·rw [if_neg g4] at HF1;by_cases g5 : (bJ v h).f1 > 1000
      ·rw [if_pos g5] at HF1;injection HF1 with e1
       injection e1 with e1 e2
       injection e2 with e2 e3
       subst e1 e2 e3;go_wp2_with (first | (go_at_call 49; refine (an2.calls k T N S A c rs AI ci ins v w1 (Kd.bF HC.out Dt.out) hc (Kd.bF HCI.out Dt.out) hci HV.out).mono ?_; rintro x w2 ⟨vv, rfl, hR, hB⟩; obtain ⟨Av, cv, rfl, hcv, hCv⟩ := Kd.oK hR; have Mf := aa.mk (aM Dt.out hB); have UW := aa.mk hCv; have HB2 := aa.mk hB; clear hB c0 c1 c2 c3 d0 d1 f0 f1 hR hCv; obtain ⟨c0, c1, c2, c3, d0, d1, f0, f1⟩ := Gy.out w2 HB2.out) | (go_at_call 87; refine (aqQ.calls k T N S A c rs AI ci ins true w2 (Kd.bF HC.out Mf.out) hc (Kd.bF HCI.out Mf.out) hci HO.out).mono ?_; rintro x w3 ⟨rfl, hB⟩; have HQ3 := aa.mk (aM Mf.out hB); have HB3 := aa.mk (aM HB2.out hB); have awE := aa.mk (Kd.bF UW.out hB); clear hB c0 c1 c2 c3 d0 d1 f0 f1; obtain ⟨c0, c1, c2, c3, d0, d1, f0, f1⟩ := Gy.out w3 HB3.out; obtain ⟨ad, eA, t0, t1⟩ := p9 awE.out h g1' g3; subst eA))
       refine bodyPost_ret (jr rfl _ _ gR 64 #[.int .i64 0, .slice none 0 0] (0, 0) _ rfl (by refine bL (cs := #[.int .i64 0, .slice none 0 0]) ?_ 1 _ rfl; refine bL (cs := #[.int .i64 0, .slice none 0 0]) ?_ 0 _ rfl; exact aC H2.out HB3.out) Try.underlying64 rfl (by kernel_rfl)) rfl ?_;exact ⟨_, rfl, Kd.qf _ _ _ _ _, QE (QE HQ3.out GR.out) GR.out⟩
      ·rw [if_neg g5] at HF1;unfold apm.j at HF1;obtain ⟨⟨gn, ge⟩, hG, HF1⟩ := Option.bind_eq_some_iff.1 HF1;obtain ⟨⟨b0, b1, b2⟩, hBE, HF1⟩ := Option.bind_eq_some_iff.1 HF1;have HG := aa.mk hG;have HBE := aa.mk hBE;have HE := aa.mk HF1;clear hG hBE HF1 HF;go_upto_region 11 with (first | (go_at_call 49; refine (an2.calls k T N S A c rs AI ci ins v w1 (Kd.bF HC.out Dt.out) hc (Kd.bF HCI.out Dt.out) hci HV.out).mono ?_; rintro x w2 ⟨vv, rfl, hR, hB⟩; obtain ⟨Av, cv, rfl, hcv, hCv⟩ := Kd.oK hR; have Mf := aa.mk (aM Dt.out hB); have UW := aa.mk hCv; have HB2 := aa.mk hB; clear hB c0 c1 c2 c3 d0 d1 f0 f1 hR hCv; obtain ⟨c0, c1, c2, c3, d0, d1, f0, f1⟩ := Gy.out w2 HB2.out) | (go_at_call 87; refine (aqQ.calls k T N S A c rs AI ci ins true w2 (Kd.bF HC.out Mf.out) hc (Kd.bF HCI.out Mf.out) hci HO.out).mono ?_; rintro x w3 ⟨rfl, hB⟩; have HQ3 := aa.mk (aM Mf.out hB); have HB3 := aa.mk (aM HB2.out hB); have awE := aa.mk (Kd.bF UW.out hB); clear hB c0 c1 c2 c3 d0 d1 f0 f1; obtain ⟨c0, c1, c2, c3, d0, d1, f0, f1⟩ := Gy.out w3 HB3.out; obtain ⟨ad, eA, t0, t1⟩ := p9 awE.out h g1' g3; subst eA) | (go_at_call 88; refine (Be.calls k T N S A c rs AI ci ins gn ge w3 (Kd.bF HC.out HQ3.out) hc (Kd.bF HCI.out HQ3.out) hci HG.out).mono ?_; rintro x w4 ⟨v4, rfl, hR, hB⟩; obtain ⟨Ag, cg, rfl, hcg, hCg⟩ := Kd.azd hR; have HQ4 := aa.mk (aM HQ3.out hB); have HCG := aa.mk hCg; have Ju := aa.mk (aM HB3.out hB); clear hB hR hCg t0 t1 c0 c1 c2 c3 d0 d1 f0 f1; obtain ⟨c0, c1, c2, c3, d0, d1, f0, f1⟩ := Gy.out w4 Ju.out) | (go_at_call 36; refine (bA.calls k gn Ag cg ge h b0 b1 b2 w4 HCG.out hcg HBE.out).mono ?_; rintro x w5 ⟨v5, rfl, hR, hB⟩; obtain ⟨Ad, cd, rfl, hcd, hCd⟩ := Kd.oK hR; have HQ5 := aa.mk (aM HQ4.out hB); have HCD := aa.mk hCd; have vY := aa.mk (aM Ju.out hB); clear hB hR hCd c0 c1 c2 c3 d0 d1 f0 f1; obtain ⟨c0, c1, c2, c3, d0, d1, f0, f1⟩ := Gy.out w5 vY.out))
       have hA := eX w5 (.cells #[.int .i64 b0, .slice Ad b1.length cd] 27);have HQ6 := aa.mk (aM HQ5.out hA.1);have Gp := aa.mk (aM vY.out hA.1);have aL6 := aa.mk (Kd.bF HCD.out hA.1);have HD := aa.mk hA.2;obtain ⟨gD, eD⟩ : ∃ g, g = w5.heap.size := ⟨_, rfl⟩;have GD := aa.mk (show w.heap.size ≤ gD by have := HQ5.out.size; omega);rw [← eD] at HD ⊢;clear eD hA HCD c0 c1 c2 c3 d0 d1 f0 f1;generalize (w5.alloc (.cells #[.int .i64 b0, .slice Ad b1.length cd] 27)) = w6 at *;obtain ⟨c0, c1, c2, c3, d0, d1, f0, f1⟩ := Gy.out w6 Gp.out;by_cases hb2 : b2 = 0
       ·subst hb2;have HE1 := HE.out;rw [if_pos rfl] at HE1;by_cases hsm : smT ⟨b0, b1⟩ = true
        ·rw [if_pos hsm] at HE1;injection HE1 with e1
         injection e1 with e1 e2
         injection e2 with e2 e3
         subst e1 e2 e3;go_upto_region 14 with (fail)
         have hA := eX w6 (.cells #[.nilFunc] 105);obtain ⟨gF, eF⟩ : ∃ g, g = w6.heap.size := ⟨_, rfl⟩;have hX := hA.2;have hA1 := hA.1;rw [← eF] at hX ⊢;clear hA;generalize (w6.alloc (.cells #[.nilFunc] 105)) = wa at *;have y0 : wa.cell? ⟨gF, 0, none⟩ = some .nilFunc := (ae hX 0).trans rfl;have y1 := ai hX 0;have HST := aa.mk (QE (g := gF) (j := 0) (v := .func (.func 89) #[] #[.pointer (some ⟨gF, 0, none⟩)]) hA1 (Nat.le_of_eq eF.symm));have HX7 := aa.mk (bL (cs := #[.nilFunc]) hX 0 (.func (.func 89) #[] #[.pointer (some ⟨gF, 0, none⟩)]) rfl);clear hX hA1 eF;go_upto_region 15 with (fail)
         clear y0 y1;generalize (wa.setCell ⟨gF, 0, none⟩ (.func (.func 89) #[] #[.pointer (some ⟨gF, 0, none⟩)])) = w7 at *;have HQ7 := aa.mk (aM HQ6.out HST.out);have Co := aa.mk (aM Gp.out HST.out);have aL7 := aa.mk (Kd.bF aL6.out HST.out);have HD7 := aa.mk (aC HD.out HST.out);clear HST c0 c1 c2 c3 d0 d1 f0 f1;obtain ⟨c0, c1, c2, c3, d0, d1, f0, f1⟩ := Gy.out w7 Co.out;have u0 : w7.cell? ⟨gF, 0, none⟩ = some (.func (.func 89) #[] #[.pointer (some ⟨gF, 0, none⟩)]) := (ae HX7.out 0).trans rfl;have u1 : w7.cell? ⟨gD, 0, none⟩ = some (.int .i64 b0) := (ae HD7.out 0).trans rfl;have u2 : w7.cell? ⟨gD, 1, none⟩ = some (.slice Ad b1.length cd) := (ae HD7.out 1).trans rfl;have aL8 := aa.mk (ayB (ayj ⟨b0, b1⟩ hsm) Ad cd gF w7 aL7.out hcd HX7.out);go_wp2_with (first | (go_at_call 89; refine aL8.out.mono ?_; rintro x w8 ⟨v8, rfl, hR, hB⟩; obtain ⟨Ap, cp, eP8⟩ := Kd.fQ hR; subst eP8; have HQ8 := aa.mk (aM HQ7.out hB); have HB8 := aa.mk (aM Co.out hB); have HR8 := aa.mk (Kd.iL (Kd.bB (ok' := fun k_ => k_ ≠ gR) (Kd.jI hR) (fun k_ hk he => by have := hk.2.1; have := bE (aC H2.out Co.out); omega)) HQ7.out.size); clear u0 u1 u2 hB hR c0 c1 c2 c3 d0 d1 f0 f1; obtain ⟨c0, c1, c2, c3, d0, d1, f0, f1⟩ := Gy.out w8 HB8.out))
         refine bodyPost_ret (jr rfl _ _ gR 64 #[.int .i64 b0, .slice Ap (arE b1).length cp] (0, 0) _ rfl (by refine bL (cs := #[.int .i64 b0, .slice none 0 0]) ?_ 1 _ rfl; refine bL (cs := #[.int .i64 0, .slice none 0 0]) ?_ 0 _ rfl; exact aC H2.out HB8.out) Try.underlying64 rfl (by kernel_rfl)) rfl ?_;exact ⟨_, rfl, Kd.bB (Kd.jS (p := ⟨gR, 1, none⟩) (Kd.jS (p := ⟨gR, 0, none⟩) (Kd.bB HR8.out (fun k_ hk => (⟨hk, hk⟩ : _ ∧ k_ ≠ gR))) (fun _ hk => hk.2) (.int .i64 b0)) (fun _ hk => hk.2) (.slice Ap (arE b1).length cp)) (fun _ hk => trivial), QE (QE HQ8.out GR.out) GR.out⟩
        ·rw [if_neg hsm] at HE1
         cases HE1
       ·have HE1 := HE.out;rw [if_neg hb2] at HE1;injection HE1 with e1
        injection e1 with e1 e2
        injection e2 with e2 e3
        subst e1 e2 e3;go_wp2_with fail
        refine bodyPost_ret (jr rfl _ _ gR 64 #[.int .i64 0, .slice none 0 0] (0, 0) _ rfl (by refine bL (cs := #[.int .i64 0, .slice none 0 0]) ?_ 1 _ rfl; refine bL (cs := #[.int .i64 0, .slice none 0 0]) ?_ 0 _ rfl; exact aC H2.out Gp.out) Try.underlying64 rfl (by kernel_rfl)) rfl ?_;exact ⟨_, rfl, Kd.qf _ _ _ _ _, QE (QE HQ6.out GR.out) GR.out⟩
    ·rw [if_neg g3] at HF1
     cases HF1
end Go.Proofs.Ytamimodkcbbpmaa.Pr
end
section
namespace Go.Proofs.Ytamimodkcbbpmaa.Pr
open Go.RowKit Go.Proofs.YtamimodkcbbpmaaW.PrintWords Go.Proofs.YtamimodkcbbpmaaW.PrintLast
set_option linter.unusedVariables false
set_option linter.unusedSimpArgs false
set_option linter.unusedSectionVars false
theorem aCj : ∀ (l : List dU) (j : Nat), j < l.length → (arE l).getD j z64 = toP (l.getD j z27)
 | d :: l, 0, _ => rfl
 | d :: l, j + 1, h => by
  have ih := aCj l j (by simpa using h);simp only [arE, List.getD_cons_succ];exact ih
 | [], j, h => by simp at h
theorem BD.sm {es : List dO} (Qn : ∀ e, e ∈ es → e.f1.length ≤ 1000000) {ed : List Int} {v : Int} {d : dU} (h : BD es ed v d) : ayz d := by
 induction h with
 | mk v d h0 h1 he h2 h3 hl hk ih =>
  have hs : (aj es d.f0).f1.length ≤ 1000000 := by
   refine Qn _ ?_;simp only [aj];exact ib _ _ _ (by omega)
  exact ayz.mk d (by omega) (lN _ z27 ih)
section
variable {T N : Int} {rs : List KH} {ins : List Int}
theorem aqN.mid (h : aqN T N rs ins) : aBe N (aqo rs ins) := ⟨h.n1, by have := h.n2; omega, by have := h.len; rw [atI]; omega, h.zt, h.zO, fun e he => by have := atJ e he; omega⟩
end
section
variable (T N S : Int) (rs : List KH) (ins : List Int) (h : Int)
def PR (x : Int × List S64 × Int) : Prop := Ev (fun k => apm.f k T N S rs ins h) x
section
variable (hi : ins.length ≤ 9223372036854775807) (h1 : rs.length ≤ 60) (h2 : N ≤ 60)
include hi h1 h2
theorem aB4 {b : Bool} (hb : ar9 T N S rs ins = b) {x : Int × List S64 × Int} (hx : Ev (fun k => if b = true then (if h < 0 then some (0, ([] : List S64), 2) else (if h ≥ N then some (0, ([] : List S64), 2) else (if h < ((ar0 T N S rs ins).length : Int) then (if (bJ (ar0 T N S rs ins) h).f0 ≥ 1099511627776 then some (0, ([] : List S64), 6) else (if (bJ (ar0 T N S rs ins) h).f1 > 1000 then some (0, ([] : List S64), 11) else apm.j k T N S rs ins h)) else none))) else some (0, ([] : List S64), 1)) x) :
  Ev (fun k => apm.f k T N S rs ins h) x := by
 have e1 := ayy (T := T) (S := S) (ins := ins) hi h1 h2;have e2 := aww T N S rs ins hi;rw [hb] at e2;exact Ev.bind (G := fun k v => (aqQ.f k T N S rs ins).bind fun ok => if ok = true then (if h < 0 then some (0, ([] : List S64), 2) else (if h ≥ N then some (0, ([] : List S64), 2) else (if h < (v.length : Int) then (if (bJ v h).f0 ≥ 1099511627776 then some (0, ([] : List S64), 6) else (if (bJ v h).f1 > 1000 then some (0, ([] : List S64), 11) else apm.j k T N S rs ins h)) else none))) else some (0, ([] : List S64), 1)) e1 (Ev.bind (G := fun k ok => if ok = true then (if h < 0 then some (0, ([] : List S64), 2) else (if h ≥ N then some (0, ([] : List S64), 2) else (if h < ((ar0 T N S rs ins).length : Int) then (if (bJ (ar0 T N S rs ins) h).f0 ≥ 1099511627776 then some (0, ([] : List S64), 6) else (if (bJ (ar0 T N S rs ins) h).f1 > 1000 then some (0, ([] : List S64), 11) else apm.j k T N S rs ins h)) else none))) else some (0, ([] : List S64), 1)) e2 hx)
theorem aB5 (hb : ar9 T N S rs ins = true) (hr : 0 ≤ h ∧ h < N) {x : Int × List S64 × Int}
  (hx : Ev (fun k => if (bJ (jy N.toNat (aqo rs ins)) h).f0 ≥ 1099511627776 then some (0, ([] : List S64), 6) else (if (bJ (jy N.toNat (aqo rs ins)) h).f1 > 1000 then some (0, ([] : List S64), 11) else apm.j k T N S rs ins h)) x) : PR T N S rs ins h x := by
 have hN := aqN.of hb h1 h2;have hv : ar0 T N S rs ins = jy N.toNat (aqo rs ins) := by unfold ar0; rw [if_pos hb]
 have hl := hN.mid.UZ.len;refine aB4 T N S rs ins h hi h1 h2 hb (hx.mp (fun k => ?_));rw [if_pos rfl, if_neg (by omega), if_neg (by omega), hv, if_pos (by omega)]
theorem aFw (hb : ar9 T N S rs ins = true) (hr : 0 ≤ h ∧ h < N) (hc : 1099511627776 ≤ (bJ (jy N.toNat (aqo rs ins)) h).f0) : PR T N S rs ins h (0, [], 6) :=
 aB5 T N S rs ins h hi h1 h2 hb hr ((Ev.const _).mp (fun k => if_pos hc))
theorem aFx (hb : ar9 T N S rs ins = true) (hr : 0 ≤ h ∧ h < N) (hc : (bJ (jy N.toNat (aqo rs ins)) h).f0 < 1099511627776) (hs : (bJ (jy N.toNat (aqo rs ins)) h).f1 ≤ 1000) {d : dU} (hd : BD (aqo rs ins) (xL N.toNat (aqo rs ins)) h d) : PR T N S rs ins h (d.f0, arE d.f1, 0) := by
 have hN := aqN.of hb h1 h2;have hM := hN.mid;have hsm : smT d = true := by
  have Qn : ∀ e, e ∈ aqo rs ins → e.f1.length ≤ 1000000 := fun e he => by have := hM.ta e he; omega
  have := hd.sm Qn;clear hd hs hc hr hb;induction this with
  | mk d hl hk ih =>
   obtain ⟨e, ks⟩ := d;rw [smT, decide_eq_true hl, Bool.true_and];exact ay8 _ ih
 refine aB5 T N S rs ins h hi h1 h2 hb hr (Ev.mp ?_ (fun k => by rw [if_neg (by omega), if_neg (by omega)]));have e1 := RB N _ hM h hr.1 hr.2 hc hd;refine Ev.mp (Ev.bind (G := fun k g => (bA.f k g.1 g.2 h).bind fun b => if b.2.2 = 0 then (if smT ⟨b.1, b.2.1⟩ = true then some (b.1, arE b.2.1, 0) else none) else some (0, ([] : List S64), b.2.2)) (ay7 (S := S) hN) (Ev.bind (G := fun k b => if b.2.2 = 0 then (if smT ⟨b.1, b.2.1⟩ = true then some (b.1, arE b.2.1, 0) else none) else some (0, ([] : List S64), b.2.2)) e1 ((Ev.const _).mp (fun k => ?_)))) (fun k => by rw [apm.j]);rw [if_pos rfl, dU.eta', if_pos hsm]
end
end
end Go.Proofs.Ytamimodkcbbpmaa.Pr
end
section
namespace Go.Proofs.Ytamimodkcbbpmaa.Pr
open Go.RowKit Go.Proofs.YtamimodkcbbpmaaW.PrintWords Go.Proofs.YtamimodkcbbpmaaW.PrintLast Go.Proofs.YtamimodkcbbpmaaW.PrintMore Go.Proofs.YtamimodkcbbpmaaXW
attribute [local go_sem] aFh ky lX lY jf jg kz kC
set_option linter.unusedVariables false
set_option linter.unusedSimpArgs false
def aqb.f (aR : Int) (iR : Int) (vX : Int) (bf : List (KH)) (l1 : List Int) : Option (Bool) := if (bf.length : Int) ≤ 60 then (if iR ≤ 60 then (some (decide ((l1.length : Int) ≤ 30))) else (some false)) else (some false)
set_option maxHeartbeats 8000000 in
set_option maxRecDepth 100000 in
theorem aqb.calls (aR : Int) (iR : Int) (vX : Int) (aps : Option Addr) (ao4 : Nat) (bf : List (KH)) (A1 : Option Addr) (c1 : Nat) (l1 : List Int) (r : Bool) (w : World) (aqy : Kd.C Md w aps bf.length bf) (aqz : bf.length ≤ ao4) (hr1 : Kd.C (Kd.int .i64) w A1 l1.length l1) (hc1 : l1.length ≤ c1) (h : aqb.f aR iR vX bf l1 = some r) :
  Calls Try.prog 46 #[.agg #[.int .i64 aR, .int .i64 iR, .int .i64 vX, .slice aps bf.length ao4], .slice A1 l1.length c1] w fun e w' => e = .returned (.bool r) ∧ Below w.heap.size w w' := by
 have avx := Try.underlying58;have aqx := aa.mk aqy;have aqH := aa.mk aqz;clear aqy aqz;have HR1 := aa.mk hr1;have EY := aa.mk hc1;clear hr1 hc1;have HB := aa.mk (Below.refl w.heap.size w);have H : (if (bf.length : Int) ≤ 60 then (if iR ≤ 60 then (some (decide ((l1.length : Int) ≤ 30))) else (some false)) else (some false)) = some r := h;clear h;by_cases c3 : (bf.length : Int) ≤ 60
 ·rw [if_pos c3] at H;have Tn : decide ((bf.length : Int) ≤ 60) = true := decide_eq_true c3;have aL0 : decide (bf.length ≤ 60) = true := decide_eq_true (by omega);clear c3;by_cases c4 : iR ≤ 60
  ·rw [if_pos c4] at H;have nu : decide (iR ≤ 60) = true := decide_eq_true c4;clear c4;obtain rfl := Option.some.inj H;go_enter Try.func46, Try.ntmps46
   go_wp2_with (first | ((with_reducible refine bM (N := 2) rfl ?_); (try (refine gG (by rfl) ?_; dsimp only)); refine bG ?hg (N := 2) ?hd (cs := #[.int .i64 aR, .int .i64 iR, .int .i64 vX, .slice aps bf.length ao4]) (t := 58) ?hr ?_; (case hd => rfl); (case hg => rfl); (case hr => first | (go_simp; done) | (go_simp; rfl)); intro aqO hg w5 bR hb; have bP := aa.mk (aM (bO HB) hb); have bQ := aa.mk (bR); have bT := aa.mk ((by rw [hg]; exact (aK (bO HB)) : w.heap.size ≤ aqO)); have di := aa.mk ((by rw [hg]; exact (aK (bO HB)) : w.heap.size ≤ aqO)); clear HB; have HB := bP; have aqC := bQ; have aAQ := bT; have aAR := di; clear bP bQ bT di; clear hb bR hg; have qa : w5.cell? ⟨aqO, 0, none⟩ = some (.int .i64 aR) := (ae aqC.out 0).trans rfl; have qb : w5.cell? ⟨aqO, 1, none⟩ = some (.int .i64 iR) := (ae aqC.out 1).trans rfl; have ave : w5.cell? ⟨aqO, 2, none⟩ = some (.int .i64 vX) := (ae aqC.out 2).trans rfl; have avf : w5.cell? ⟨aqO, 3, none⟩ = some (.slice aps bf.length ao4) := (ae aqC.out 3).trans rfl; have qc := ai aqC.out 0; have qd := ai aqC.out 1; have avg := ai aqC.out 2; have avh := ai aqC.out 3))
   go_ret;exact ⟨by first | rfl | (simp [aW, aX] <;> rfl) | (simp [*, aW, aX] <;> rfl), bO HB⟩
  ·rw [if_neg c4] at H;have nu : decide (iR ≤ 60) = false := decide_eq_false c4;clear c4;obtain rfl := Option.some.inj H;go_enter Try.func46, Try.ntmps46
   go_wp2_with (first | ((with_reducible refine bM (N := 2) rfl ?_); (try (refine gG (by rfl) ?_; dsimp only)); refine bG ?hg (N := 2) ?hd (cs := #[.int .i64 aR, .int .i64 iR, .int .i64 vX, .slice aps bf.length ao4]) (t := 58) ?hr ?_; (case hd => rfl); (case hg => rfl); (case hr => first | (go_simp; done) | (go_simp; rfl)); intro aqO hg w7 bR hb; have bP := aa.mk (aM (bO HB) hb); have bQ := aa.mk (bR); have bT := aa.mk ((by rw [hg]; exact (aK (bO HB)) : w.heap.size ≤ aqO)); have di := aa.mk ((by rw [hg]; exact (aK (bO HB)) : w.heap.size ≤ aqO)); clear HB; have HB := bP; have aqC := bQ; have aAQ := bT; have aAR := di; clear bP bQ bT di; clear hb bR hg; have nG : w7.cell? ⟨aqO, 0, none⟩ = some (.int .i64 aR) := (ae aqC.out 0).trans rfl; have nH : w7.cell? ⟨aqO, 1, none⟩ = some (.int .i64 iR) := (ae aqC.out 1).trans rfl; have axe : w7.cell? ⟨aqO, 2, none⟩ = some (.int .i64 vX) := (ae aqC.out 2).trans rfl; have axf : w7.cell? ⟨aqO, 3, none⟩ = some (.slice aps bf.length ao4) := (ae aqC.out 3).trans rfl; have nI := ai aqC.out 0; have nJ := ai aqC.out 1; have axg := ai aqC.out 2; have axh := ai aqC.out 3))
   go_ret;exact ⟨by first | rfl | (simp [aW, aX] <;> rfl) | (simp [*, aW, aX] <;> rfl), bO HB⟩
 ·rw [if_neg c3] at H;have Tn : decide ((bf.length : Int) ≤ 60) = false := decide_eq_false c3;have aL0 : decide (bf.length ≤ 60) = false := decide_eq_false (by omega);clear c3;obtain rfl := Option.some.inj H;go_enter Try.func46, Try.ntmps46
  go_wp2_with (first | ((with_reducible refine bM (N := 2) rfl ?_); (try (refine gG (by rfl) ?_; dsimp only)); refine bG ?hg (N := 2) ?hd (cs := #[.int .i64 aR, .int .i64 iR, .int .i64 vX, .slice aps bf.length ao4]) (t := 58) ?hr ?_; (case hd => rfl); (case hg => rfl); (case hr => first | (go_simp; done) | (go_simp; rfl)); intro aqO hg w9 bR hb; have bP := aa.mk (aM (bO HB) hb); have bQ := aa.mk (bR); have bT := aa.mk ((by rw [hg]; exact (aK (bO HB)) : w.heap.size ≤ aqO)); have di := aa.mk ((by rw [hg]; exact (aK (bO HB)) : w.heap.size ≤ aqO)); clear HB; have HB := bP; have aqC := bQ; have aAQ := bT; have aAR := di; clear bP bQ bT di; clear hb bR hg; have qB : w9.cell? ⟨aqO, 0, none⟩ = some (.int .i64 aR) := (ae aqC.out 0).trans rfl; have qC : w9.cell? ⟨aqO, 1, none⟩ = some (.int .i64 iR) := (ae aqC.out 1).trans rfl; have atD : w9.cell? ⟨aqO, 2, none⟩ = some (.int .i64 vX) := (ae aqC.out 2).trans rfl; have atE : w9.cell? ⟨aqO, 3, none⟩ = some (.slice aps bf.length ao4) := (ae aqC.out 3).trans rfl; have qD := ai aqC.out 0; have qE := ai aqC.out 1; have atF := ai aqC.out 2; have atG := ai aqC.out 3))
  go_ret;exact ⟨by first | rfl | (simp [aW, aX] <;> rfl) | (simp [*, aW, aX] <;> rfl), bO HB⟩
def aqu.f  : Option (Int × Int × Int × (List (KH)) × List Int) := some (1, 2, 0, (([(⟨4, 0, 1, 1, 2, 0⟩ : KH), (⟨2, 1, 0, 0, 0, 0⟩ : KH), (⟨1, 1, 0, 0, 5, 0⟩ : KH)] : List (KH))), (([4] : List Int)))
set_option maxHeartbeats 8000000 in
set_option maxRecDepth 100000 in
theorem aqu.calls  (r1 : Int) (r2 : Int) (r3 : Int) (r4 : List (KH)) (r5 : List Int) (w : World) (h : aqu.f  = some (r1, r2, r3, r4, r5)) :
  Calls Try.prog 86 #[] w fun e w' => ∃ v3_ v4_ : Value, e = .returned (.tuple #[.agg #[.int .i64 r1, .int .i64 r2, .int .i64 r3, v3_], v4_]) ∧ Kd.R Md 75 w' w.heap.size (fun _ => True) v3_ r4 ∧ Kd.R (Kd.int .i64) 3 w' w.heap.size (fun _ => True) v4_ r5 ∧ Below w.heap.size w w' := by
 have avx := Try.underlying58;have azj := Try.underlying75;have HB := aa.mk (Below.refl w.heap.size w);have H : (some (1, 2, 0, (([(⟨4, 0, 1, 1, 2, 0⟩ : KH), (⟨2, 1, 0, 0, 0, 0⟩ : KH), (⟨1, 1, 0, 0, 5, 0⟩ : KH)] : List (KH))), (([4] : List Int)))) = some (r1, r2, r3, r4, r5) := h;clear h;obtain ⟨ay9, awF⟩ : ∃ y_ : List (KH), y_ = (([(⟨4, 0, 1, 1, 2, 0⟩ : KH), (⟨2, 1, 0, 0, 0, 0⟩ : KH), (⟨1, 1, 0, 0, 5, 0⟩ : KH)] : List (KH))) := ⟨_, rfl⟩;replace H : (some (1, 2, 0, ay9, (([4] : List Int)))) = some (r1, r2, r3, r4, r5) := by first | (rw [awF]; with_reducible exact H) | (have Gn := (Option.bind_some _ _).symm.trans H; rw [awF]; with_reducible exact Gn) | (have Gn := (Option.bind_some _ _).symm.trans H; with_reducible exact Gn) | with_reducible exact H | (rw [awF]; exact H) | exact H
 have aAU := aa.mk awF;clear awF;obtain ⟨aL9, awV⟩ : ∃ y_ : List Int, y_ = (([4] : List Int)) := ⟨_, rfl⟩;replace H : (some (1, 2, 0, ay9, aL9)) = some (r1, r2, r3, r4, r5) := by first | (rw [awV]; with_reducible exact H) | (have Gn := (Option.bind_some _ _).symm.trans H; rw [awV]; with_reducible exact Gn) | (have Gn := (Option.bind_some _ _).symm.trans H; with_reducible exact Gn) | with_reducible exact H | (rw [awV]; exact H) | exact H
 have aAV := aa.mk awV;clear awV;simp only [Option.some.injEq, Prod.mk.injEq] at H;obtain ⟨rfl, rfl, rfl, rfl, rfl⟩ := H;go_enter Try.func86, Try.ntmps86
 go_wp2_with (first | ((with_reducible refine bM (N := 0) rfl ?_); refine bG ?hg (N := 0) ?hd (cs := #[.int .i64 0, .int .i64 0, .int .i64 0, .slice none 0 0]) (t := 58) ?hr ?_; (case hd => rfl); (case hg => rfl); (case hr => first | (go_simp; done) | (go_simp; rfl)); intro arV hg w1 bR hb; have bP := aa.mk (aM (bO HB) hb); have bQ := aa.mk (bR); have bT := aa.mk ((by rw [hg]; exact (aK (bO HB)) : w.heap.size ≤ arV)); have di := aa.mk ((by rw [hg]; exact (aK (bO HB)) : w.heap.size ≤ arV)); clear HB; have HB := bP; have arC := bQ; have aOI := bT; have aOJ := di; clear bP bQ bT di; clear hb bR hg) | ((with_reducible refine bM (N := 5) rfl ?_); refine Kd.Si Md _ 75 ?hg (N := 5) ?hd (xs := ([(⟨4, 0, 1, 1, 2, 0⟩ : KH), (⟨2, 1, 0, 0, 0, 0⟩ : KH), (⟨1, 1, 0, 0, 5, 0⟩ : KH)] : List (KH))) (inner := [.int .i64 4, .int .i64 0, .int .i64 1, .int .i64 1, .int .i64 2, .int .i64 0, .int .i64 2, .int .i64 1, .int .i64 0, .int .i64 0, .int .i64 0, .int .i64 0, .int .i64 1, .int .i64 1, .int .i64 0, .int .i64 0, .int .i64 5, .int .i64 0]) (ok := fun _ => True) (lV := fun _ => True) ?hr ?hp (fun _ hk => hk) trivial (Below.refl _ _) (Nat.le_refl _) (by simp) ?_; (case hd => rfl); (case hg => rfl); (case hr => first | (go_simp; done) | (go_simp; rfl)); (case hp => exact (fJ.c6 (show Kd.M Md _ _ _ (⟨4, 0, 1, 1, 2, 0⟩ : KH) [.int .i64 4, .int .i64 0, .int .i64 1, .int .i64 1, .int .i64 2, .int .i64 0] from (afw _ _ _ (⟨4, 0, 1, 1, 2, 0⟩ : KH) )) (fJ.c6 (show Kd.M Md _ _ _ (⟨2, 1, 0, 0, 0, 0⟩ : KH) [.int .i64 2, .int .i64 1, .int .i64 0, .int .i64 0, .int .i64 0, .int .i64 0] from (afw _ _ _ (⟨2, 1, 0, 0, 0, 0⟩ : KH) )) (fJ.c6 (show Kd.M Md _ _ _ (⟨1, 1, 0, 0, 5, 0⟩ : KH) [.int .i64 1, .int .i64 1, .int .i64 0, .int .i64 0, .int .i64 5, .int .i64 0] from (afw _ _ _ (⟨1, 1, 0, 0, 5, 0⟩ : KH) )) (fJ.none _ _))))); intro aQZ w2 ho3 hb hg_ UT; clear hg_ UT; (first | rw [← aAU.out] at ho3 | (simp only [Int.reduceToNat] at ho3; rw [← aAU.out] at ho3)); have bP := aa.mk (Kd.iL ho3 (aK (bO HB))); have bQ := aa.mk (aC (bk arC) hb); have bT := aa.mk (aM (bO HB) hb); clear arC; clear HB; have awW := bP; have arC := bQ; have HB := bT; clear bP bQ bT; clear hb ho3; obtain ⟨Ao4, co4, eo4⟩ := Kd.fQ awW.out; subst eo4) | ((with_reducible refine bM (N := 7) rfl ?_); refine Kd.Si (Kd.int .i64) _ 3 ?hg (N := 7) ?hd (xs := ([4] : List Int)) (inner := [.int .i64 4]) (ok := fun _ => True) (lV := fun _ => True) ?hr ?hp (fun _ hk => hk) trivial (Below.refl _ _) (Nat.le_refl _) (by simp) ?_; (case hd => rfl); (case hg => rfl); (case hr => first | (go_simp; done) | (go_simp; rfl)); (case hp => exact (fJ.one (show Kd.M (Kd.int .i64) _ _ _ 4 [.int .i64 4] from rfl) (fJ.none _ _))); intro aQ1 w5 ho6 hb hg_ UT; clear hg_ UT; (first | rw [← aAV.out] at ho6 | (simp only [Int.reduceToNat] at ho6; rw [← aAV.out] at ho6)); have bP := aa.mk (Kd.bu (by (with_reducible repeat (first | apply Kd.ay5 | apply Kd.eu | apply Kd.aaH)); exact awW.out) hb); have bQ := aa.mk (Kd.iL ho6 (aK (bO HB))); have bT := aa.mk (aC (bk arC) hb); have di := aa.mk (aM (bO HB) hb); clear awW; clear arC; clear HB; have awW := bP; have aFz := bQ; have arC := bT; have HB := di; clear bP bQ bT di; clear hb ho6; have ML : w5.cell? ⟨arV, 0, none⟩ = some (.int .i64 0) := (ae arC.out 0).trans rfl; have MM : w5.cell? ⟨arV, 1, none⟩ = some (.int .i64 0) := (ae arC.out 1).trans rfl; have arO : w5.cell? ⟨arV, 2, none⟩ = some (.int .i64 0) := (ae arC.out 2).trans rfl; have arP : w5.cell? ⟨arV, 3, none⟩ = some (.slice none 0 0) := (ae arC.out 3).trans rfl; have MN := ai arC.out 0; have MO := ai arC.out 1; have arQ := ai arC.out 2; have arR := ai arC.out 3))
 refine bodyPost_ret (jr rfl _ _ arV 58 #[.int .i64 1, .int .i64 2, .int .i64 0, .slice Ao4 ay9.length co4] (0, 0) _ rfl (by (with_reducible repeat (first | refine ax ?_ _ | refine az ?_ | refine au ?_ _)); refine bL (cs := #[.int .i64 1, .int .i64 2, .int .i64 0, .slice none 0 0]) ?_ 3 _ rfl; (with_reducible repeat (first | refine ax ?_ _ | refine az ?_ | refine au ?_ _)); refine bL (cs := #[.int .i64 1, .int .i64 2, .int .i64 0, .slice none 0 0]) ?_ 2 _ rfl; (with_reducible repeat (first | refine ax ?_ _ | refine az ?_ | refine au ?_ _)); refine bL (cs := #[.int .i64 1, .int .i64 0, .int .i64 0, .slice none 0 0]) ?_ 1 _ rfl; (with_reducible repeat (first | refine ax ?_ _ | refine az ?_ | refine au ?_ _)); refine bL (cs := #[.int .i64 0, .int .i64 0, .int .i64 0, .slice none 0 0]) ?_ 0 _ rfl; (with_reducible repeat (first | refine ax ?_ _ | refine az ?_ | refine au ?_ _)); exact arC.out) Try.underlying58 rfl (by kernel_rfl)) rfl ?_;exact ⟨_, _, by first | rfl | (simp [aW, aX] <;> rfl) | (simp [*, aW, aX] <;> rfl), by (with_reducible repeat (first | apply Kd.ay5 | apply Kd.eu | apply Kd.aaH)); exact Kd.bB (Kd.jS (p := ⟨arV, 3, none⟩) (Kd.jS (p := ⟨arV, 2, none⟩) (Kd.jS (p := ⟨arV, 1, none⟩) (Kd.jS (p := ⟨arV, 0, none⟩) (Kd.zV awW.out arC.out (by decide)) (fun _ hk => hk.2) (.int .i64 1)) (fun _ hk => hk.2) (.int .i64 2)) (fun _ hk => hk.2) (.int .i64 0)) (fun _ hk => hk.2) (.slice Ao4 ay9.length co4)) (fun _ hk => trivial), by (with_reducible repeat (first | apply Kd.ay5 | apply Kd.eu | apply Kd.aaH)); exact Kd.bB (Kd.jS (p := ⟨arV, 3, none⟩) (Kd.jS (p := ⟨arV, 2, none⟩) (Kd.jS (p := ⟨arV, 1, none⟩) (Kd.jS (p := ⟨arV, 0, none⟩) (Kd.zV aFz.out arC.out (by decide)) (fun _ hk => hk.2) (.int .i64 1)) (fun _ hk => hk.2) (.int .i64 2)) (fun _ hk => hk.2) (.int .i64 0)) (fun _ hk => hk.2) (.slice Ao4 ay9.length co4)) (fun _ hk => trivial), bO HB⟩
end Go.Proofs.Ytamimodkcbbpmaa.Pr
end
