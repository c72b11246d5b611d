/- F36 XParse F86 F53 XAwake38 F12 TC: a part of the proof of the row of a; no conditions. -/
import Derived.Test.YtamimodkcbbpmaaG2
import Derived.Test.YtamimodkcbbpmaaG8
import Derived.Test.YtamimodkcbbpmaaG5
import Derived.Laws.EntriesVeiled
import Derived.Test.YtamimodkcbbpmaaG6
import Derived.Test.YtamimodkcbbpmaaG7
section
namespace Go.Proofs.Ytamimodkcbbpmaa.Pr
open Go.RowKit Go.Proofs.YtamimodkcbbpmaaW.PrintWords Go.Proofs.YtamimodkcbbpmaaW.PrintLast Go.Proofs.YtamimodkcbbpmaaW.PrintMore Go.Proofs.YtamimodkcbbpmaaXW
attribute [local go_sem] kv ky lX lY jf jg kz kC
set_option linter.unusedVariables false
set_option linter.unusedSimpArgs false
def bA.j0 : Nat → Int → Int → List (dO) → Option (Int × (List (dU)) × Int)
 | 0, _, _, _ => none
 | k + 1, x1, Qh, Qi => (kH.f Qh Qi).bind fun UA => (if 0 ≤ x1 then (if x1 < (UA.1.length : Int) then (if ((bJ UA.1 x1).f0) ≥ 1099511627776 then (some (0, ([] : List (dU)), 6)) else ((aV.f k Qh Qi UA.2 x1).bind fun aef => (some (aef.1, aef.2, 0)))) else (none)) else (none))
def bA.f (k : Nat) (aR : Int) (aH : List (dO)) (a1 : Int) : Option (Int × (List (dU)) × Int) := (fA.f aR aH).bind fun t164 => (if t164 = true then (if a1 < 0 then (some (0, ([] : List (dU)), 2)) else (if a1 ≥ aR then (some (0, ([] : List (dU)), 2)) else (bA.j0 k a1 aR aH))) else (some (0, ([] : List (dU)), 1)))
theorem bA.apw : ∀ k, (∀ y0 y1 y2, dz (bA.j0 k y0 y1 y2) (bA.j0 (k + 1) y0 y1 y2))
 | 0 => fun _ _ _ r h => by simp [bA.j0] at h
 | k + 1 => by
  have jP := bA.apw k
  ·intro y0 y1 y2;unfold bA.j0;repeat' first
   | (with_reducible exact jP _ _ _)
   | (with_reducible exact aV.mono _ _ _ _ _)
   | (with_reducible exact dz.refl _)
   | (with_reducible exact dz.none _)
   | (with_reducible refine dz.ite ?_ ?_)
   | (with_reducible refine dz.bind ?_ (fun _ => ?_))
   | exact jP _ _ _
   | exact aV.mono _ _ _ _ _
   | exact dz.none _
   | refine dz.ite ?_ ?_
   | refine dz.bind ?_ (fun _ => ?_)
theorem bA.mono : ∀ a0 a1 a2 k, dz (bA.f k a0 a1 a2) (bA.f (k + 1) a0 a1 a2) := by
 intro a0 a1 a2 k;have jP := bA.apw k;unfold bA.f;repeat' first
   | (with_reducible exact jP _ _ _)
   | (with_reducible exact aV.mono _ _ _ _ _)
   | (with_reducible exact dz.refl _)
   | (with_reducible exact dz.none _)
   | (with_reducible refine dz.ite ?_ ?_)
   | (with_reducible refine dz.bind ?_ (fun _ => ?_))
   | exact jP _ _ _
   | exact aV.mono _ _ _ _ _
   | exact dz.none _
   | refine dz.ite ?_ ?_
   | refine dz.bind ?_ (fun _ => ?_)
set_option maxHeartbeats 8000000 in
set_option maxRecDepth 100000 in
theorem bA.calls (k : Nat) (aR : Int) (bW : Option Addr) (bN : Nat) (aH : List (dO)) (a1 : Int) (r1 : Int) (r2 : List (dU)) (r3 : Int) (w : World) (fw : Kd.C sJ w bW aH.length aH) (fC : aH.length ≤ bN) (h : bA.f k aR aH a1 = some (r1, r2, r3)) :
  Calls Try.prog 36 #[.agg #[.int .i64 aR, .slice bW aH.length bN], .int .i64 a1] w fun e w' => ∃ EF : Value, e = .returned (.tuple #[.agg #[.int .i64 r1, EF], .int .i64 r3]) ∧ Kd.R k27 27 w' w.heap.size (fun _ => True) EF r2 ∧ Below w.heap.size w w' := by
 have ES := Try.underlying24;have Hm := Try.underlying27;have arT := aa.mk fw;have fP := aa.mk fC;clear fw fC;have HB := aa.mk (Below.refl w.heap.size w);have H : ((fA.f aR aH).bind fun t164 => (if t164 = true then (if a1 < 0 then (some (0, ([] : List (dU)), 2)) else (if a1 ≥ aR then (some (0, ([] : List (dU)), 2)) else (bA.j0 k a1 aR aH))) else (some (0, ([] : List (dU)), 1)))) = some (r1, r2, r3) := h;clear h;have Uo := aa.mk H;clear H;go_enter Try.func36, Try.ntmps36
 go_upto_block 0 with (first | ((with_reducible refine bM (N := 2) rfl ?_); refine bG ?hg (N := 2) ?hd (cs := #[.int .i64 aR, .slice bW aH.length bN]) (t := 24) ?hr ?_; (case hd => rfl); (case hg => rfl); (case hr => first | (go_simp; done) | (go_simp; rfl)); intro lT hg w4 bR hb; have bP := aa.mk (aM (bO HB) hb); have bQ := aa.mk (bR); have bT := aa.mk ((by rw [hg]; exact (aK (bO HB)) : w.heap.size ≤ lT)); have di := aa.mk ((by rw [hg]; exact (aK (bO HB)) : w.heap.size ≤ lT)); clear HB; have HB := bP; have eH := bQ; have amL := bT; have amM := di; clear bP bQ bT di; clear hb bR hg) | ((with_reducible refine bM (N := 4) rfl ?_); refine bG ?hg (N := 4) ?hd (cs := #[.int .i64 0, .slice none 0 0]) (t := 27) ?hr ?_; (case hd => rfl); (case hg => rfl); (case hr => first | (go_simp; done) | (go_simp; rfl)); intro lU hg w5 bR hb; have bP := aa.mk (aC (bk eH) hb); have bQ := aa.mk (aM (bO HB) hb); have bT := aa.mk (bR); have di := aa.mk ((by rw [hg]; exact (aK (bO HB)) : w.heap.size ≤ lU)); have n4_ := aa.mk ((by rw [hg]; exact (aK (bO HB)) : w.heap.size ≤ lU)); have n5_ := aa.mk ((by rw [hg]; exact Nat.ne_of_lt (bE (bk eH)) : lT ≠ lU)); have iG := aa.mk ((by rw [hg]; exact Nat.ne_of_gt (bE (bk eH)) : lU ≠ lT)); clear eH; clear HB; have eH := bP; have HB := bQ; have fM := bT; have amN := di; have amO := n4_; have rG := n5_; have rH := iG; clear bP bQ bT di n4_ n5_ iG; clear hb bR hg))
 (try simp only [Act.put, List.setIfInBounds_toArray, List.set_cons_zero, List.set_cons_succ]);go_cut [] (fun wc => ∃ (kq : Nat) (rJ : Int), aa (bA.j0 kq a1 aR aH = some (r1, r2, r3)) ∧ aa (kq ≤ k) ∧ aa (wc.heap[lT]? = some (.cells #[.int .i64 aR, (.slice bW aH.length bN)] 24 (0, 0))) ∧ aa (wc.heap[lU]? = some (.cells #[.int .i64 rJ, (.slice none 0 0)] 27 (0, 0))) ∧ aa (Below w.heap.size w wc))
 case first =>
  have H := Uo.out;clear Uo;replace H := Option.bind_eq_some_iff.mp H;obtain ⟨t164, A60, H⟩ := H;replace H : (if t164 = true then (if a1 < 0 then (some (0, ([] : List (dU)), 2)) else (if a1 ≥ aR then (some (0, ([] : List (dU)), 2)) else (bA.j0 k a1 aR aH))) else (some (0, ([] : List (dU)), 1))) = some (r1, r2, r3) := H;have A6 := aa.mk A60;clear A60;by_cases c7 : t164 = true
  ·subst c7;have H1 : (if a1 < 0 then (some (0, ([] : List (dU)), 2)) else (if a1 ≥ aR then (some (0, ([] : List (dU)), 2)) else (bA.j0 k a1 aR aH))) = some (r1, r2, r3) := by rw [if_pos rfl] at H; exact H
   clear H;have H := H1;clear H1;by_cases c8 : a1 < 0
   ·rw [if_pos c8] at H;have Hd : decide (a1 < 0) = true := decide_eq_true c8;clear c8
    (first | rw [Hd] | (simp only [bH, bI]; rw [Hd]) | skip)
    simp only [Option.some.injEq, Prod.mk.injEq] at H;obtain ⟨rfl, rfl, rfl⟩ := H;have apI := rG.out;have apJ := rH.out;have qB : w5.cell? ⟨lT, 0, none⟩ = some (.int .i64 aR) := (ae eH.out 0).trans rfl;have qC : w5.cell? ⟨lT, 1, none⟩ = some (.slice bW aH.length bN) := (ae eH.out 1).trans rfl;have qD := ai eH.out 0;have qE := ai eH.out 1;go_wp2_with (first | ((with_reducible refine dE (f := 78) rfl ?_); refine iB (some 10) rfl rfl Try.func78 (by kernel_rfl) rfl #[.agg #[.int .i64 aR, .slice bW aH.length bN]] rfl (by (try simp only [List.map_toArray, List.map_cons, List.map_nil]); first | done | rfl | (simp only [List.length_drop, List.length_take]; rfl)) ?_; (with_reducible refine (fA.calls aR _ _ aH true _ ?side1 ?side2 A6.out).mono ?_); (case side1 => repeat (first | exact (Kd.bF arT.out HB.out) | (with_reducible refine Kd.dF ?_ _) | (with_reducible refine Kd.dG ?_ _) | (with_reducible refine Kd.eG ?_))); (case side2 => exact fP.out); rintro e Me ⟨rfl, hb⟩; refine ⟨_, rfl, ?_⟩; have bP := aa.mk (aC (bk eH) hb); have bQ := aa.mk (aC (bk fM) hb); have bT := aa.mk (aM (bO HB) hb); clear eH; clear fM; clear HB; have eH := bP; have fM := bQ; have HB := bT; clear bP bQ bT; (try clear hb); (try clear hb2); (try clear hk); (try clear hi); have jK : Me.cell? ⟨lU, 0, none⟩ = some (.int .i64 0) := (ae fM.out 0).trans rfl; have jL : Me.cell? ⟨lU, 1, none⟩ = some (.slice none 0 0) := (ae fM.out 1).trans rfl; have jM := ai fM.out 0; have jN := ai fM.out 1))
    refine bodyPost_ret (jr rfl _ _ lU 27 #[.int .i64 0, .slice none 0 0] (0, 0) _ rfl (by (with_reducible repeat (first | refine ax ?_ _ | refine az ?_ | refine au ?_ _)); refine bL (cs := #[.int .i64 0, .slice none 0 0]) ?_ 1 _ rfl; (with_reducible repeat (first | refine ax ?_ _ | refine az ?_ | refine au ?_ _)); refine bL (cs := #[.int .i64 0, .slice none 0 0]) ?_ 0 _ rfl; (with_reducible repeat (first | refine ax ?_ _ | refine az ?_ | refine au ?_ _)); exact fM.out) Try.underlying27 rfl (by kernel_rfl)) rfl ?_;exact ⟨_, by first | rfl | (simp [aW, aX] <;> rfl) | (simp [*, aW, aX] <;> rfl), by first | exact Kd.qf _ _ _ _ _ | exact Kd.xY _ _ _ _ _ | exact Kd.xZ _ _ _ _ _ | exact Kd.xS _ _ _ _ _ | exact Kd.xW _ _ _ _ _, bO HB⟩
   ·rw [if_neg c8] at H;have Hd : decide (a1 < 0) = false := decide_eq_false c8;clear c8
    (first | rw [Hd] | (simp only [bH, bI]; rw [Hd]) | skip)
    by_cases c13 : a1 ≥ aR
    ·rw [if_pos c13] at H;have uU : decide (aR ≤ a1) = true := decide_eq_true c13;clear c13;simp only [Option.some.injEq, Prod.mk.injEq] at H;obtain ⟨rfl, rfl, rfl⟩ := H;have Tf := rG.out;have Tg := rH.out;have pE : w5.cell? ⟨lT, 0, none⟩ = some (.int .i64 aR) := (ae eH.out 0).trans rfl;have pF : w5.cell? ⟨lT, 1, none⟩ = some (.slice bW aH.length bN) := (ae eH.out 1).trans rfl;have pG := ai eH.out 0;have pI := ai eH.out 1;go_wp2_with (first | ((with_reducible refine dE (f := 78) rfl ?_); refine iB (some 10) rfl rfl Try.func78 (by kernel_rfl) rfl #[.agg #[.int .i64 aR, .slice bW aH.length bN]] rfl (by (try simp only [List.map_toArray, List.map_cons, List.map_nil]); first | done | rfl | (simp only [List.length_drop, List.length_take]; rfl)) ?_; (with_reducible refine (fA.calls aR _ _ aH true _ ?side1 ?side2 A6.out).mono ?_); (case side1 => repeat (first | exact (Kd.bF arT.out HB.out) | (with_reducible refine Kd.dF ?_ _) | (with_reducible refine Kd.dG ?_ _) | (with_reducible refine Kd.eG ?_))); (case side2 => exact fP.out); rintro e w16 ⟨rfl, hb⟩; refine ⟨_, rfl, ?_⟩; have bP := aa.mk (aC (bk eH) hb); have bQ := aa.mk (aC (bk fM) hb); have bT := aa.mk (aM (bO HB) hb); clear eH; clear fM; clear HB; have eH := bP; have fM := bQ; have HB := bT; clear bP bQ bT; (try clear hb); (try clear hb2); (try clear hk); (try clear hi); have Qj : w16.cell? ⟨lT, 0, none⟩ = some (.int .i64 aR) := (ae eH.out 0).trans rfl; have Qk : w16.cell? ⟨lT, 1, none⟩ = some (.slice bW aH.length bN) := (ae eH.out 1).trans rfl; have Ql := ai eH.out 0; have Qm := ai eH.out 1; have lZ : w16.cell? ⟨lU, 0, none⟩ = some (.int .i64 0) := (ae fM.out 0).trans rfl; have l5 : w16.cell? ⟨lU, 1, none⟩ = some (.slice none 0 0) := (ae fM.out 1).trans rfl; have l6 := ai fM.out 0; have l7 := ai fM.out 1))
     refine bodyPost_ret (jr rfl _ _ lU 27 #[.int .i64 0, .slice none 0 0] (0, 0) _ rfl (by (with_reducible repeat (first | refine ax ?_ _ | refine az ?_ | refine au ?_ _)); refine bL (cs := #[.int .i64 0, .slice none 0 0]) ?_ 1 _ rfl; (with_reducible repeat (first | refine ax ?_ _ | refine az ?_ | refine au ?_ _)); refine bL (cs := #[.int .i64 0, .slice none 0 0]) ?_ 0 _ rfl; (with_reducible repeat (first | refine ax ?_ _ | refine az ?_ | refine au ?_ _)); exact fM.out) Try.underlying27 rfl (by kernel_rfl)) rfl ?_;exact ⟨_, by first | rfl | (simp [aW, aX] <;> rfl) | (simp [*, aW, aX] <;> rfl), by first | exact Kd.qf _ _ _ _ _ | exact Kd.xY _ _ _ _ _ | exact Kd.xZ _ _ _ _ _ | exact Kd.xS _ _ _ _ _ | exact Kd.xW _ _ _ _ _, bO HB⟩
    ·rw [if_neg c13] at H;have uU : decide (aR ≤ a1) = false := decide_eq_false c13;clear c13;have H' := aa.mk H;clear H;have YH := rG.out;have YI := rH.out;have o9 : w5.cell? ⟨lT, 0, none⟩ = some (.int .i64 aR) := (ae eH.out 0).trans rfl;have pg : w5.cell? ⟨lT, 1, none⟩ = some (.slice bW aH.length bN) := (ae eH.out 1).trans rfl;have pq := ai eH.out 0;have pz := ai eH.out 1;go_wp2_with (first | ((with_reducible refine dE (f := 78) rfl ?_); refine iB (some 10) rfl rfl Try.func78 (by kernel_rfl) rfl #[.agg #[.int .i64 aR, .slice bW aH.length bN]] rfl (by (try simp only [List.map_toArray, List.map_cons, List.map_nil]); first | done | rfl | (simp only [List.length_drop, List.length_take]; rfl)) ?_; (with_reducible refine (fA.calls aR _ _ aH true _ ?side1 ?side2 A6.out).mono ?_); (case side1 => repeat (first | exact (Kd.bF arT.out HB.out) | (with_reducible refine Kd.dF ?_ _) | (with_reducible refine Kd.dG ?_ _) | (with_reducible refine Kd.eG ?_))); (case side2 => exact fP.out); rintro e Fb ⟨rfl, hb⟩; refine ⟨_, rfl, ?_⟩; have bP := aa.mk (aC (bk eH) hb); have bQ := aa.mk (aC (bk fM) hb); have bT := aa.mk (aM (bO HB) hb); clear eH; clear fM; clear HB; have eH := bP; have fM := bQ; have HB := bT; clear bP bQ bT; (try clear hb); (try clear hb2); (try clear hk); (try clear hi); have OU : Fb.cell? ⟨lT, 0, none⟩ = some (.int .i64 aR) := (ae eH.out 0).trans rfl; have OV : Fb.cell? ⟨lT, 1, none⟩ = some (.slice bW aH.length bN) := (ae eH.out 1).trans rfl; have OW := ai eH.out 0; have OX := ai eH.out 1))
     go_meet
     case rel => exact ⟨_, (0), H', ⟨by first | omega | exact Nat.le_refl _⟩, ⟨by (with_reducible repeat (first | refine ax ?_ _ | refine az ?_ | refine au ?_ _)); exact eH.out⟩, ⟨by (with_reducible repeat (first | refine ax ?_ _ | refine az ?_ | refine au ?_ _)); exact fM.out⟩, ⟨bO HB⟩⟩
  ·replace c7 := Bool.eq_false_iff.mpr c7;subst c7;have H1 : (some (0, ([] : List (dU)), 1)) = some (r1, r2, r3) := by rw [if_neg (show ¬ (false = true) by decide)] at H; exact H
   clear H;have H := H1;clear H1;simp only [Option.some.injEq, Prod.mk.injEq] at H;obtain ⟨rfl, rfl, rfl⟩ := H;have Tk := rG.out;have Tm := rH.out;have oN : w5.cell? ⟨lT, 0, none⟩ = some (.int .i64 aR) := (ae eH.out 0).trans rfl;have oO : w5.cell? ⟨lT, 1, none⟩ = some (.slice bW aH.length bN) := (ae eH.out 1).trans rfl;have oP := ai eH.out 0;have oQ := ai eH.out 1;go_wp2_with (first | ((with_reducible refine dE (f := 78) rfl ?_); refine iB (some 10) rfl rfl Try.func78 (by kernel_rfl) rfl #[.agg #[.int .i64 aR, .slice bW aH.length bN]] rfl (by (try simp only [List.map_toArray, List.map_cons, List.map_nil]); first | done | rfl | (simp only [List.length_drop, List.length_take]; rfl)) ?_; (with_reducible refine (fA.calls aR _ _ aH false _ ?side1 ?side2 A6.out).mono ?_); (case side1 => repeat (first | exact (Kd.bF arT.out HB.out) | (with_reducible refine Kd.dF ?_ _) | (with_reducible refine Kd.dG ?_ _) | (with_reducible refine Kd.eG ?_))); (case side2 => exact fP.out); rintro e w25 ⟨rfl, hb⟩; refine ⟨_, rfl, ?_⟩; have bP := aa.mk (aC (bk eH) hb); have bQ := aa.mk (aC (bk fM) hb); have bT := aa.mk (aM (bO HB) hb); clear eH; clear fM; clear HB; have eH := bP; have fM := bQ; have HB := bT; clear bP bQ bT; (try clear hb); (try clear hb2); (try clear hk); (try clear hi); have wu : w25.cell? ⟨lU, 0, none⟩ = some (.int .i64 0) := (ae fM.out 0).trans rfl; have wy : w25.cell? ⟨lU, 1, none⟩ = some (.slice none 0 0) := (ae fM.out 1).trans rfl; have wz := ai fM.out 0; have wE := ai fM.out 1))
   refine bodyPost_ret (jr rfl _ _ lU 27 #[.int .i64 0, .slice none 0 0] (0, 0) _ rfl (by (with_reducible repeat (first | refine ax ?_ _ | refine az ?_ | refine au ?_ _)); refine bL (cs := #[.int .i64 0, .slice none 0 0]) ?_ 1 _ rfl; (with_reducible repeat (first | refine ax ?_ _ | refine az ?_ | refine au ?_ _)); refine bL (cs := #[.int .i64 0, .slice none 0 0]) ?_ 0 _ rfl; (with_reducible repeat (first | refine ax ?_ _ | refine az ?_ | refine au ?_ _)); exact fM.out) Try.underlying27 rfl (by kernel_rfl)) rfl ?_;exact ⟨_, by first | rfl | (simp [aW, aX] <;> rfl) | (simp [*, aW, aX] <;> rfl), by first | exact Kd.qf _ _ _ _ _ | exact Kd.xY _ _ _ _ _ | exact Kd.xZ _ _ _ _ _ | exact Kd.xS _ _ _ _ _ | exact Kd.xW _ _ _ _ _, bO HB⟩
 case rest =>
  clear Uo;(try clear c1); (try clear c2); (try clear p2); (try clear c3); (try clear c7); (try clear c8); (try clear Hd); (try clear c9); (try clear c13); (try clear uU); (try clear c14); (try clear c19); (try clear c23); (try clear qB); (try clear qC); (try clear jK); (try clear jL); (try clear pE); (try clear pF); (try clear Qj); (try clear Qk); (try clear lZ); (try clear l5); (try clear o9); (try clear pg); (try clear OU); (try clear OV); (try clear oN); (try clear oO); (try clear wu); (try clear wy); (try clear qD); (try clear qE); (try clear jM); (try clear jN); (try clear pG); (try clear pI); (try clear Ql); (try clear Qm); (try clear l6); (try clear l7); (try clear pq); (try clear pz); (try clear OW); (try clear OX); (try clear oP); (try clear oQ); (try clear wz); (try clear wE);obtain ⟨kq, rJ, HA, HJ2, eH, fM, HB⟩ := hcut
  cases kq with
  | zero => exact absurd HA.out (by simp [bA.j0])
  | succ kj2 =>
   have H := HA.out;clear HA;simp only [bA.j0] at H;replace H := Option.bind_eq_some_iff.mp H;obtain ⟨⟨GI, t168⟩, aeM, H⟩ := H;replace H : (if 0 ≤ a1 then (if a1 < (GI.length : Int) then (if ((bJ GI a1).f0) ≥ 1099511627776 then (some (0, ([] : List (dU)), 6)) else ((aV.f kj2 aR aH t168 a1).bind fun aef => (some (aef.1, aef.2, 0)))) else (none)) else (none)) = some (r1, r2, r3) := H;have A27 := aa.mk aeM;clear aeM;by_cases c28 : 0 ≤ a1
   ·rw [if_pos c28] at H;have amR : decide (0 ≤ a1) = true := decide_eq_true c28;clear c28;by_cases Wl : a1 < (GI.length : Int)
    ·rw [if_pos Wl] at H;have amS : decide (a1 < (GI.length : Int)) = true := decide_eq_true Wl;clear Wl;by_cases Ue : ((bJ GI a1).f0) ≥ 1099511627776
     ·rw [if_pos Ue] at H;have aeN : decide (1099511627776 ≤ ((bJ GI a1).f0)) = true := decide_eq_true Ue;clear Ue;simp only [Option.some.injEq, Prod.mk.injEq] at H;obtain ⟨rfl, rfl, rfl⟩ := H;have Yx := rG.out;have Yy := rH.out;have Ca : wc.cell? ⟨lT, 0, none⟩ = some (.int .i64 aR) := (ae eH.out 0).trans rfl;have Cb : wc.cell? ⟨lT, 1, none⟩ = some (.slice bW aH.length bN) := (ae eH.out 1).trans rfl;have Cc := ai eH.out 0;have Ce := ai eH.out 1;go_wp2_with (first | ((with_reducible refine dE (f := 79) rfl ?_); refine iB (some 25) rfl rfl Try.func79 (by kernel_rfl) rfl #[.agg #[.int .i64 aR, .slice bW aH.length bN]] rfl (by (try simp only [List.map_toArray, List.map_cons, List.map_nil]); first | done | rfl | (simp only [List.length_drop, List.length_take]; rfl)) ?_; (with_reducible refine (kH.calls aR _ _ aH GI t168 _ ?side1 ?side2 A27.out).mono ?_); (case side1 => repeat (first | exact (Kd.bF arT.out HB.out) | (with_reducible refine Kd.dF ?_ _) | (with_reducible refine Kd.dG ?_ _) | (with_reducible refine Kd.eG ?_))); (case side2 => exact fP.out); rintro e YN ⟨ajq, ajr, rfl, ho0, ho1, hb⟩; refine ⟨_, rfl, ?_⟩; have bP := aa.mk (Kd.iL ho0 (aK (bO HB))); have bQ := aa.mk (Kd.iL ho1 (aK (bO HB))); have bT := aa.mk (aC (bk eH) hb); have di := aa.mk (aC (bk fM) hb); have n4_ := aa.mk (aM (bO HB) hb); clear eH; clear fM; clear HB; have EJ := bP; have GJ := bQ; have eH := bT; have fM := di; have HB := n4_; clear bP bQ bT di n4_; (try clear hb); (try clear hb2); (try clear hk); (try clear hi); (try clear ho0); (try clear ho1); obtain ⟨ajs, ajt, abq⟩ := Kd.fQ EJ.out; subst abq; have NN : 0 ≤ (a1 : Int) := of_decide_eq_true (by first | (with_reducible assumption) | assumption); have NP : a1 < (GI.length : Int) := of_decide_eq_true (by first | (with_reducible assumption) | assumption); obtain ⟨aeO, abr, Xm, Xn⟩ := p9 (Kd.dD EJ.out).2.2 a1 NN NP; cases abr; replace NN := eq_true NN; replace NP := eq_true NP; have Xo : YN.cell? ⟨lU, 0, none⟩ = some (.int .i64 rJ) := (ae fM.out 0).trans rfl; have Xp : YN.cell? ⟨lU, 1, none⟩ = some (.slice none 0 0) := (ae fM.out 1).trans rfl; have Xq := ai fM.out 0; have Xr := ai fM.out 1))
      refine bodyPost_ret (jr rfl _ _ lU 27 #[.int .i64 0, .slice none 0 0] (0, 0) _ rfl (by (with_reducible repeat (first | refine ax ?_ _ | refine az ?_ | refine au ?_ _)); refine bL (cs := #[.int .i64 0, .slice none 0 0]) ?_ 1 _ rfl; (with_reducible repeat (first | refine ax ?_ _ | refine az ?_ | refine au ?_ _)); refine bL (cs := #[.int .i64 rJ, .slice none 0 0]) ?_ 0 _ rfl; (with_reducible repeat (first | refine ax ?_ _ | refine az ?_ | refine au ?_ _)); exact fM.out) Try.underlying27 rfl (by kernel_rfl)) rfl ?_;exact ⟨_, by first | rfl | (simp [aW, aX] <;> rfl) | (simp [*, aW, aX] <;> rfl), by first | exact Kd.qf _ _ _ _ _ | exact Kd.xY _ _ _ _ _ | exact Kd.xZ _ _ _ _ _ | exact Kd.xS _ _ _ _ _ | exact Kd.xW _ _ _ _ _, bO HB⟩
     ·rw [if_neg Ue] at H;have aeN : decide (1099511627776 ≤ ((bJ GI a1).f0)) = false := decide_eq_false Ue;clear Ue;replace H := Option.bind_eq_some_iff.mp H;obtain ⟨⟨UB, t173⟩, aeP, H⟩ := H;replace H : (some (UB, t173, 0)) = some (r1, r2, r3) := H;have A36 := aa.mk aeP;clear aeP;simp only [Option.some.injEq, Prod.mk.injEq] at H;obtain ⟨rfl, rfl, rfl⟩ := H;have Yz := rG.out;have YA := rH.out;have Fe : wc.cell? ⟨lT, 0, none⟩ = some (.int .i64 aR) := (ae eH.out 0).trans rfl;have Ff : wc.cell? ⟨lT, 1, none⟩ = some (.slice bW aH.length bN) := (ae eH.out 1).trans rfl;have Fg := ai eH.out 0;have Fh := ai eH.out 1;go_wp2_with (first | ((with_reducible refine dE (f := 79) rfl ?_); refine iB (some 25) rfl rfl Try.func79 (by kernel_rfl) rfl #[.agg #[.int .i64 aR, .slice bW aH.length bN]] rfl (by (try simp only [List.map_toArray, List.map_cons, List.map_nil]); first | done | rfl | (simp only [List.length_drop, List.length_take]; rfl)) ?_; (with_reducible refine (kH.calls aR _ _ aH GI t168 _ ?side1 ?side2 A27.out).mono ?_); (case side1 => repeat (first | exact (Kd.bF arT.out HB.out) | (with_reducible refine Kd.dF ?_ _) | (with_reducible refine Kd.dG ?_ _) | (with_reducible refine Kd.eG ?_))); (case side2 => exact fP.out); rintro e w39 ⟨ajq, ajr, rfl, ho0, ho1, hb⟩; refine ⟨_, rfl, ?_⟩; have bP := aa.mk (Kd.iL ho0 (aK (bO HB))); have bQ := aa.mk (Kd.iL ho1 (aK (bO HB))); have bT := aa.mk (aC (bk eH) hb); have di := aa.mk (aC (bk fM) hb); have n4_ := aa.mk (aM (bO HB) hb); clear eH; clear fM; clear HB; have EJ := bP; have GJ := bQ; have eH := bT; have fM := di; have HB := n4_; clear bP bQ bT di n4_; (try clear hb); (try clear hb2); (try clear hk); (try clear hi); (try clear ho0); (try clear ho1); obtain ⟨apL, apM, aju⟩ := Kd.fQ EJ.out; subst aju; have NN : 0 ≤ (a1 : Int) := of_decide_eq_true (by first | (with_reducible assumption) | assumption); have NP : a1 < (GI.length : Int) := of_decide_eq_true (by first | (with_reducible assumption) | assumption); obtain ⟨aeO, abr, Xm, Xn⟩ := p9 (Kd.dD EJ.out).2.2 a1 NN NP; cases abr; replace NN := eq_true NN; replace NP := eq_true NP; have ahb : w39.cell? ⟨lT, 0, none⟩ = some (.int .i64 aR) := (ae eH.out 0).trans rfl; have ahc : w39.cell? ⟨lT, 1, none⟩ = some (.slice bW aH.length bN) := (ae eH.out 1).trans rfl; have ahd := ai eH.out 0; have ahe := ai eH.out 1; obtain ⟨ajv, ajw, ajx⟩ := Kd.fQ GJ.out; subst ajx) | ((with_reducible refine dE (f := 80) rfl ?_); refine iB (some 38) rfl rfl Try.func80 (by kernel_rfl) rfl #[.agg #[.int .i64 aR, .slice bW aH.length bN], .slice ajv t168.length ajw, .int .i64 a1] rfl (by (try simp only [List.map_toArray, List.map_cons, List.map_nil]); first | done | rfl | (simp only [List.length_drop, List.length_take]; rfl)) ?_; (with_reducible refine (aV.calls kj2 aR _ _ aH _ _ t168 a1 UB t173 _ ?side1 ?side2 ?side3 ?side4 A36.out).mono ?_); (case side1 => repeat (first | exact (Kd.bF arT.out HB.out) | (with_reducible refine Kd.dF ?_ _) | (with_reducible refine Kd.dG ?_ _) | (with_reducible refine Kd.eG ?_))); (case side2 => exact fP.out); (case side3 => repeat (first | exact (Kd.dD GJ.out).2.2 | (with_reducible refine Kd.dF ?_ _) | (with_reducible refine Kd.dG ?_ _) | (with_reducible refine Kd.eG ?_))); (case side4 => exact (Kd.dD GJ.out).2.1); rintro e R4 ⟨apN, rfl, ho0, hb⟩; refine ⟨_, rfl, ?_⟩; have bP := aa.mk (Kd.bu (by (with_reducible repeat (first | apply Kd.ek | apply Kd.eu | apply Kd.aaH)); exact EJ.out) hb); have bQ := aa.mk (Kd.bu (by (with_reducible repeat (first | apply Kd.ek | apply Kd.eu | apply Kd.aaH)); exact GJ.out) hb); have bT := aa.mk (Kd.iL (Kd.xU ho0 (bk fM)) (aK (bO HB))); have di := aa.mk (aC (bk eH) hb); have n4_ := aa.mk (aC (bk fM) hb); have n5_ := aa.mk (aM (bO HB) hb); clear EJ; clear GJ; clear eH; clear fM; clear HB; have EJ := bP; have GJ := bQ; have Zi := bT; have eH := di; have fM := n4_; have HB := n5_; clear bP bQ bT di n4_ n5_; (try clear hb); (try clear hb2); (try clear hk); (try clear hi); (try clear ho0); have ahf : R4.cell? ⟨lU, 0, none⟩ = some (.int .i64 rJ) := (ae fM.out 0).trans rfl; have ahg : R4.cell? ⟨lU, 1, none⟩ = some (.slice none 0 0) := (ae fM.out 1).trans rfl; have ahh := ai fM.out 0; have ahi := ai fM.out 1; obtain ⟨aeQ, aeR, ajy⟩ := Kd.fQ Zi.out; subst ajy))
      refine bodyPost_ret (jr rfl _ _ lU 27 #[.int .i64 UB, .slice aeQ t173.length aeR] (0, 0) _ rfl (by (with_reducible repeat (first | refine ax ?_ _ | refine az ?_ | refine au ?_ _)); refine bL (cs := #[.int .i64 UB, .slice none 0 0]) ?_ 1 _ rfl; (with_reducible repeat (first | refine ax ?_ _ | refine az ?_ | refine au ?_ _)); refine bL (cs := #[.int .i64 rJ, .slice none 0 0]) ?_ 0 _ rfl; (with_reducible repeat (first | refine ax ?_ _ | refine az ?_ | refine au ?_ _)); exact fM.out) Try.underlying27 rfl (by kernel_rfl)) rfl ?_;exact ⟨_, by first | rfl | (simp [aW, aX] <;> rfl) | (simp [*, aW, aX] <;> rfl), by (with_reducible repeat (first | apply Kd.ek | apply Kd.eu | apply Kd.aaH)); exact Kd.bB (Kd.jS (p := ⟨lU, 1, none⟩) (Kd.jS (p := ⟨lU, 0, none⟩) (Kd.bB Zi.out (fun k_ hk => (⟨hk, hk.2⟩ : _ ∧ k_ ≠ lU))) (fun _ hk => hk.2) (.int .i64 UB)) (fun _ hk => hk.2) (.slice aeQ t173.length aeR)) (fun _ hk => trivial), bO HB⟩
    ·rw [if_neg Wl] at H;exact absurd H (by simp)
   ·rw [if_neg c28] at H;exact absurd H (by simp)
end Go.Proofs.Ytamimodkcbbpmaa.Pr
end
section
namespace Go.Proofs.Ytamimodkcbbpmaa.Pr
open Go.RowKit Go.Proofs.YtamimodkcbbpmaaW.PrintWords Go.Proofs.YtamimodkcbbpmaaW.PrintLast Go.Proofs.YtamimodkcbbpmaaXW
set_option linter.unusedVariables false
set_option linter.unusedSimpArgs false
mutual
def smT : dU → Bool
 | ⟨_, ks⟩ => decide (ks.length ≤ 1000000) && axj ks
def axj : List dU → Bool
 | [] => true
 | d :: ds => smT d && axj ds
end
mutual
theorem ayj : ∀ d, smT d = true → ayz d
 | ⟨e, ks⟩ => by
  rw [smT, Bool.and_eq_true, decide_eq_true_eq];rintro ⟨h1, h2⟩;exact ayz.mk ⟨e, ks⟩ h1 (awD ks h2)
theorem awD : ∀ ks, axj ks = true → ∀ v, v ∈ ks → ayz v
 | [] => fun _ v hv => by cases hv
 | d :: ds => by
  rw [axj, Bool.and_eq_true];rintro ⟨h1, h2⟩ v hv;have k1 := ayj d h1;have k2 := awD ds h2;rcases List.mem_cons.1 hv with e | hv
  ·rw [e]; exact k1
  ·exact k2 v hv
end
theorem ay8 : ∀ l : List dU, (∀ v, v ∈ l → smT v = true) → axj l = true
 | [], _ => by rw [axj]
 | d :: l, h => by rw [axj, h d (List.mem_cons_self ..), ay8 l (fun v hv => h v (List.mem_cons_of_mem _ hv))]; rfl
def apm.j (k : Nat) (T N S : Int) (rs : List KH) (ins : List Int) (h : Int) : Option (Int × (List S64) × Int) :=
 (Be.f k T N S rs ins).bind fun g => (bA.f k g.1 g.2 h).bind fun b => if b.2.2 = 0 then (if smT ⟨b.1, b.2.1⟩ = true then some (b.1, arE b.2.1, 0) else none) else some (0, ([] : List S64), b.2.2)
def apm.f (k : Nat) (T N S : Int) (rs : List KH) (ins : List Int) (h : Int) : Option (Int × (List S64) × Int) :=
 (an2.f k T N S rs ins).bind fun v => (x9.f k T N S rs ins).bind fun ok => if ok = true then (if h < 0 then some (0, ([] : List S64), 2) else (if h ≥ N then some (0, ([] : List S64), 2) else (if h < (v.length : Int) then (if (bJ v h).f0 ≥ 1099511627776 then some (0, ([] : List S64), 6) else (if (bJ v h).f1 > 1000 then some (0, ([] : List S64), 11) else apm.j k T N S rs ins h)) else none))) else some (0, ([] : List S64), 1)
theorem apm.mono : ∀ a0 a1 a2 a3 a4 a5 k, dz (apm.f k a0 a1 a2 a3 a4 a5) (apm.f (k + 1) a0 a1 a2 a3 a4 a5) := by
 intro a0 a1 a2 a3 a4 a5 k;unfold apm.f apm.j;repeat' first
   | (with_reducible exact Be.mono _ _ _ _ _ _)
   | (with_reducible exact x9.mono _ _ _ _ _ _)
   | (with_reducible exact an2.mono _ _ _ _ _ _)
   | (with_reducible exact bA.mono _ _ _ _)
   | (with_reducible exact dz.refl _)
   | (with_reducible exact dz.none _)
   | (with_reducible refine dz.ite ?_ ?_)
   | (with_reducible refine dz.bind ?_ (fun _ => ?_))
set_option maxRecDepth 100000 in
set_option maxHeartbeats 8000000 in
theorem apm.calls (k : Nat) (T N S : Int) (A : Option Addr) (c : Nat) (rs : List KH) (AI : Option Addr) (ci : Nat) (ins : List Int) (h : Int) (r1 : Int) (r2 : List S64) (r3 : Int) (w : World) (hC : Kd.C Md w A rs.length rs) (hc : rs.length ≤ c) (hCI : Kd.C (Kd.int .i64) w AI ins.length ins) (hci : ins.length ≤ ci) (hf : apm.f k T N S rs ins h = some (r1, r2, r3)) :
  Calls Try.prog 51 #[.agg #[.int .i64 T, .int .i64 N, .int .i64 S, .slice A rs.length c], .slice AI ins.length ci, .int .i64 h] w fun e w' => ∃ EF : Value, e = .returned (.tuple #[.agg #[.int .i64 r1, EF], .int .i64 r3]) ∧ Kd.R OG 64 w' w.heap.size (fun _ => True) EF r2 ∧ Below w.heap.size w w' := by
 have Hm := Try.underlying27;have hu64 := Try.underlying64;have aOC := Try.underlying105;have HC := aa.mk hC;have HCI := aa.mk hCI;clear hC hCI;unfold apm.f at hf;obtain ⟨v, hv, hf⟩ := Option.bind_eq_some_iff.1 hf;obtain ⟨ok, ho, hf⟩ := Option.bind_eq_some_iff.1 hf;have HV := aa.mk hv;have HO := aa.mk ho;have HF := aa.mk hf;clear hv ho hf;have hmf : ∀ (fn : Fn) (first cap : Array Value) (w : World), (Instr.makeFunc fn first cap).run Try.prog w = .ok (.func fn first cap) w := fun _ _ _ _ => rfl
 go_enter Try.func51, Try.ntmps51
 go_upto_region 1 with (fail)
 have ER := eX w (.cells #[.int .i64 T, .int .i64 N, .int .i64 S, .slice A rs.length c] 58);have hA1 := eX (w.alloc (.cells #[.int .i64 T, .int .i64 N, .int .i64 S, .slice A rs.length c] 58)) (.cells #[.int .i64 0, .slice none 0 0] 64);have hs1 : (w.alloc (.cells #[.int .i64 T, .int .i64 N, .int .i64 S, .slice A rs.length c] 58)).heap.size = w.heap.size + 1 := (by show (w.heap.push _).size = _; simp);have Dt := aa.mk (aM ER.1 hA1.1);have H1 := aa.mk (aC ER.2 hA1.1);have H2 := aa.mk hA1.2;rw [hs1] at H2;obtain ⟨gB, eB⟩ : ∃ g, g = w.heap.size := ⟨_, rfl⟩;obtain ⟨gR, eR⟩ : ∃ g, g = w.heap.size + 1 := ⟨_, rfl⟩;have GR := aa.mk (show w.heap.size ≤ gR by omega);rw [← eR] at H2 ⊢;rw [← eB] at H1 ⊢;clear eB eR hs1 ER hA1;generalize ((w.alloc (.cells #[.int .i64 T, .int .i64 N, .int .i64 S, .slice A rs.length c] 58)).alloc (.cells #[.int .i64 0, .slice none 0 0] 64)) = w1 at *;have Gy : aa (∀ w', Below w1.heap.size w1 w' → w'.cell? ⟨gB, 0, none⟩ = some (.int .i64 T) ∧ w'.cell? ⟨gB, 1, none⟩ = some (.int .i64 N) ∧ w'.cell? ⟨gB, 2, none⟩ = some (.int .i64 S) ∧ w'.cell? ⟨gB, 3, none⟩ = some (.slice A rs.length c) ∧ w'.cell? ⟨gR, 0, none⟩ = some (.int .i64 0) ∧ w'.cell? ⟨gR, 1, none⟩ = some (.slice none 0 0) ∧ w'.frozen? ⟨gR, 0, none⟩ = false ∧ w'.frozen? ⟨gR, 1, none⟩ = false) := ⟨fun w' h => ⟨(ae (aC H1.out h) 0).trans rfl, (ae (aC H1.out h) 1).trans rfl, (ae (aC H1.out h) 2).trans rfl, (ae (aC H1.out h) 3).trans rfl, (ae (aC H2.out h) 0).trans rfl, (ae (aC H2.out h) 1).trans rfl, ai (aC H2.out h) 0, ai (aC H2.out h) 1⟩⟩;obtain ⟨c0, c1, c2, c3, d0, d1, f0, f1⟩ := Gy.out w1 (Below.refl _ _)
 cases ok with
 | false =>
  have HF1 := HF.out;rw [if_neg (by decide)] at HF1;injection HF1 with e1
  injection e1 with e1 e2
  injection e2 with e2 e3
  subst e1 e2 e3;go_wp2_with (first | (go_at_call 49; refine (an2.calls k T N S A c rs AI ci ins v w1 (Kd.bF HC.out Dt.out) hc (Kd.bF HCI.out Dt.out) hci HV.out).mono ?_; rintro x w2 ⟨vv, rfl, hR, hB⟩; obtain ⟨Av, cv, rfl, hcv, hCv⟩ := Kd.oK hR; have Mf := aa.mk (aM Dt.out hB); have UW := aa.mk hCv; have HB2 := aa.mk hB; clear hB c0 c1 c2 c3 d0 d1 f0 f1 hR hCv; obtain ⟨c0, c1, c2, c3, d0, d1, f0, f1⟩ := Gy.out w2 HB2.out) | (go_at_call 87; refine (x9.calls k T N S A c rs AI ci ins false w2 (Kd.bF HC.out Mf.out) hc (Kd.bF HCI.out Mf.out) hci HO.out).mono ?_; rintro x w3 ⟨rfl, hB⟩; have BD := aa.mk (aM Mf.out hB); have HB3 := aa.mk (aM HB2.out hB); have awE := aa.mk (Kd.bF UW.out hB); clear hB c0 c1 c2 c3 d0 d1 f0 f1; obtain ⟨c0, c1, c2, c3, d0, d1, f0, f1⟩ := Gy.out w3 HB3.out))
  refine bodyPost_ret (jr rfl _ _ gR 64 #[.int .i64 0, .slice none 0 0] (0, 0) _ rfl (by refine bL (cs := #[.int .i64 0, .slice none 0 0]) ?_ 1 _ rfl; refine bL (cs := #[.int .i64 0, .slice none 0 0]) ?_ 0 _ rfl; exact aC H2.out HB3.out) Try.underlying64 rfl (by kernel_rfl)) rfl ?_;exact ⟨_, rfl, Kd.qf _ _ _ _ _, QE (QE BD.out GR.out) GR.out⟩
 | true =>
  have HF1 := HF.out;rw [if_pos rfl] at HF1;by_cases g1 : h < 0
  ·rw [if_pos g1] at HF1;injection HF1 with e1
   injection e1 with e1 e2
   injection e2 with e2 e3
   subst e1 e2 e3;go_wp2_with (first | (go_at_call 49; refine (an2.calls k T N S A c rs AI ci ins v w1 (Kd.bF HC.out Dt.out) hc (Kd.bF HCI.out Dt.out) hci HV.out).mono ?_; rintro x w2 ⟨vv, rfl, hR, hB⟩; obtain ⟨Av, cv, rfl, hcv, hCv⟩ := Kd.oK hR; have Mf := aa.mk (aM Dt.out hB); have UW := aa.mk hCv; have HB2 := aa.mk hB; clear hB c0 c1 c2 c3 d0 d1 f0 f1 hR hCv; obtain ⟨c0, c1, c2, c3, d0, d1, f0, f1⟩ := Gy.out w2 HB2.out) | (go_at_call 87; refine (x9.calls k T N S A c rs AI ci ins true w2 (Kd.bF HC.out Mf.out) hc (Kd.bF HCI.out Mf.out) hci HO.out).mono ?_; rintro x w3 ⟨rfl, hB⟩; have BD := aa.mk (aM Mf.out hB); have HB3 := aa.mk (aM HB2.out hB); have awE := aa.mk (Kd.bF UW.out hB); clear hB c0 c1 c2 c3 d0 d1 f0 f1; obtain ⟨c0, c1, c2, c3, d0, d1, f0, f1⟩ := Gy.out w3 HB3.out))
   refine bodyPost_ret (jr rfl _ _ gR 64 #[.int .i64 0, .slice none 0 0] (0, 0) _ rfl (by refine bL (cs := #[.int .i64 0, .slice none 0 0]) ?_ 1 _ rfl; refine bL (cs := #[.int .i64 0, .slice none 0 0]) ?_ 0 _ rfl; exact aC H2.out HB3.out) Try.underlying64 rfl (by kernel_rfl)) rfl ?_;exact ⟨_, rfl, Kd.qf _ _ _ _ _, QE (QE BD.out GR.out) GR.out⟩
  ·rw [if_neg g1] at HF1;by_cases g2 : h ≥ N
   ·rw [if_pos g2] at HF1;injection HF1 with e1
    injection e1 with e1 e2
    injection e2 with e2 e3
    subst e1 e2 e3;go_wp2_with (first | (go_at_call 49; refine (an2.calls k T N S A c rs AI ci ins v w1 (Kd.bF HC.out Dt.out) hc (Kd.bF HCI.out Dt.out) hci HV.out).mono ?_; rintro x w2 ⟨vv, rfl, hR, hB⟩; obtain ⟨Av, cv, rfl, hcv, hCv⟩ := Kd.oK hR; have Mf := aa.mk (aM Dt.out hB); have UW := aa.mk hCv; have HB2 := aa.mk hB; clear hB c0 c1 c2 c3 d0 d1 f0 f1 hR hCv; obtain ⟨c0, c1, c2, c3, d0, d1, f0, f1⟩ := Gy.out w2 HB2.out) | (go_at_call 87; refine (x9.calls k T N S A c rs AI ci ins true w2 (Kd.bF HC.out Mf.out) hc (Kd.bF HCI.out Mf.out) hci HO.out).mono ?_; rintro x w3 ⟨rfl, hB⟩; have BD := aa.mk (aM Mf.out hB); have HB3 := aa.mk (aM HB2.out hB); have awE := aa.mk (Kd.bF UW.out hB); clear hB c0 c1 c2 c3 d0 d1 f0 f1; obtain ⟨c0, c1, c2, c3, d0, d1, f0, f1⟩ := Gy.out w3 HB3.out))
    refine bodyPost_ret (jr rfl _ _ gR 64 #[.int .i64 0, .slice none 0 0] (0, 0) _ rfl (by refine bL (cs := #[.int .i64 0, .slice none 0 0]) ?_ 1 _ rfl; refine bL (cs := #[.int .i64 0, .slice none 0 0]) ?_ 0 _ rfl; exact aC H2.out HB3.out) Try.underlying64 rfl (by kernel_rfl)) rfl ?_;exact ⟨_, rfl, Kd.qf _ _ _ _ _, QE (QE BD.out GR.out) GR.out⟩
   ·rw [if_neg g2] at HF1;by_cases g3 : h < (v.length : Int)
    ·rw [if_pos g3] at HF1;have g1' : 0 ≤ h := by omega
     by_cases g4 : (bJ v h).f0 ≥ 1099511627776
     ·rw [if_pos g4] at HF1;injection HF1 with e1
      injection e1 with e1 e2
      injection e2 with e2 e3
      subst e1 e2 e3;go_wp2_with (first | (go_at_call 49; refine (an2.calls k T N S A c rs AI ci ins v w1 (Kd.bF HC.out Dt.out) hc (Kd.bF HCI.out Dt.out) hci HV.out).mono ?_; rintro x w2 ⟨vv, rfl, hR, hB⟩; obtain ⟨Av, cv, rfl, hcv, hCv⟩ := Kd.oK hR; have Mf := aa.mk (aM Dt.out hB); have UW := aa.mk hCv; have HB2 := aa.mk hB; clear hB c0 c1 c2 c3 d0 d1 f0 f1 hR hCv; obtain ⟨c0, c1, c2, c3, d0, d1, f0, f1⟩ := Gy.out w2 HB2.out) | (go_at_call 87; refine (x9.calls k T N S A c rs AI ci ins true w2 (Kd.bF HC.out Mf.out) hc (Kd.bF HCI.out Mf.out) hci HO.out).mono ?_; rintro x w3 ⟨rfl, hB⟩; have BD := aa.mk (aM Mf.out hB); have HB3 := aa.mk (aM HB2.out hB); have awE := aa.mk (Kd.bF UW.out hB); clear hB c0 c1 c2 c3 d0 d1 f0 f1; obtain ⟨c0, c1, c2, c3, d0, d1, f0, f1⟩ := Gy.out w3 HB3.out; obtain ⟨ad, eA, t0, t1⟩ := p9 awE.out h g1' g3; subst eA))
      refine bodyPost_ret (jr rfl _ _ gR 64 #[.int .i64 0, .slice none 0 0] (0, 0) _ rfl (by refine bL (cs := #[.int .i64 0, .slice none 0 0]) ?_ 1 _ rfl; refine bL (cs := #[.int .i64 0, .slice none 0 0]) ?_ 0 _ rfl; exact aC H2.out HB3.out) Try.underlying64 rfl (by kernel_rfl)) rfl ?_;exact ⟨_, rfl, Kd.qf _ _ _ _ _, QE (QE BD.out GR.out) GR.out⟩
     ·rw [if_neg g4] at HF1;by_cases g5 : (bJ v h).f1 > 1000
      ·rw [if_pos g5] at HF1;injection HF1 with e1
       injection e1 with e1 e2
       injection e2 with e2 e3
       subst e1 e2 e3;go_wp2_with (first | (go_at_call 49; refine (an2.calls k T N S A c rs AI ci ins v w1 (Kd.bF HC.out Dt.out) hc (Kd.bF HCI.out Dt.out) hci HV.out).mono ?_; rintro x w2 ⟨vv, rfl, hR, hB⟩; obtain ⟨Av, cv, rfl, hcv, hCv⟩ := Kd.oK hR; have Mf := aa.mk (aM Dt.out hB); have UW := aa.mk hCv; have HB2 := aa.mk hB; clear hB c0 c1 c2 c3 d0 d1 f0 f1 hR hCv; obtain ⟨c0, c1, c2, c3, d0, d1, f0, f1⟩ := Gy.out w2 HB2.out) | (go_at_call 87; refine (x9.calls k T N S A c rs AI ci ins true w2 (Kd.bF HC.out Mf.out) hc (Kd.bF HCI.out Mf.out) hci HO.out).mono ?_; rintro x w3 ⟨rfl, hB⟩; have BD := aa.mk (aM Mf.out hB); have HB3 := aa.mk (aM HB2.out hB); have awE := aa.mk (Kd.bF UW.out hB); clear hB c0 c1 c2 c3 d0 d1 f0 f1; obtain ⟨c0, c1, c2, c3, d0, d1, f0, f1⟩ := Gy.out w3 HB3.out; obtain ⟨ad, eA, t0, t1⟩ := p9 awE.out h g1' g3; subst eA))
       refine bodyPost_ret (jr rfl _ _ gR 64 #[.int .i64 0, .slice none 0 0] (0, 0) _ rfl (by refine bL (cs := #[.int .i64 0, .slice none 0 0]) ?_ 1 _ rfl; refine bL (cs := #[.int .i64 0, .slice none 0 0]) ?_ 0 _ rfl; exact aC H2.out HB3.out) Try.underlying64 rfl (by kernel_rfl)) rfl ?_;exact ⟨_, rfl, Kd.qf _ _ _ _ _, QE (QE BD.out GR.out) GR.out⟩
      ·rw [if_neg g5] at HF1;unfold apm.j at HF1;obtain ⟨⟨gn, ge⟩, hG, HF1⟩ := Option.bind_eq_some_iff.1 HF1;obtain ⟨⟨b0, b1, b2⟩, hBE, HF1⟩ := Option.bind_eq_some_iff.1 HF1;have HG := aa.mk hG;have HBE := aa.mk hBE;have HE := aa.mk HF1;clear hG hBE HF1 HF;go_upto_region 11 with (first | (go_at_call 49; refine (an2.calls k T N S A c rs AI ci ins v w1 (Kd.bF HC.out Dt.out) hc (Kd.bF HCI.out Dt.out) hci HV.out).mono ?_; rintro x w2 ⟨vv, rfl, hR, hB⟩; obtain ⟨Av, cv, rfl, hcv, hCv⟩ := Kd.oK hR; have Mf := aa.mk (aM Dt.out hB); have UW := aa.mk hCv; have HB2 := aa.mk hB; clear hB c0 c1 c2 c3 d0 d1 f0 f1 hR hCv; obtain ⟨c0, c1, c2, c3, d0, d1, f0, f1⟩ := Gy.out w2 HB2.out) | (go_at_call 87; refine (x9.calls k T N S A c rs AI ci ins true w2 (Kd.bF HC.out Mf.out) hc (Kd.bF HCI.out Mf.out) hci HO.out).mono ?_; rintro x w3 ⟨rfl, hB⟩; have BD := aa.mk (aM Mf.out hB); have HB3 := aa.mk (aM HB2.out hB); have awE := aa.mk (Kd.bF UW.out hB); clear hB c0 c1 c2 c3 d0 d1 f0 f1; obtain ⟨c0, c1, c2, c3, d0, d1, f0, f1⟩ := Gy.out w3 HB3.out; obtain ⟨ad, eA, t0, t1⟩ := p9 awE.out h g1' g3; subst eA) | (go_at_call 88; refine (Be.calls k T N S A c rs AI ci ins gn ge w3 (Kd.bF HC.out BD.out) hc (Kd.bF HCI.out BD.out) hci HG.out).mono ?_; rintro x w4 ⟨v4, rfl, hR, hB⟩; obtain ⟨Ag, cg, rfl, hcg, hCg⟩ := Kd.azd hR; have HQ4 := aa.mk (aM BD.out hB); have HCG := aa.mk hCg; have Ju := aa.mk (aM HB3.out hB); clear hB hR hCg t0 t1 c0 c1 c2 c3 d0 d1 f0 f1; obtain ⟨c0, c1, c2, c3, d0, d1, f0, f1⟩ := Gy.out w4 Ju.out) | (go_at_call 36; refine (bA.calls k gn Ag cg ge h b0 b1 b2 w4 HCG.out hcg HBE.out).mono ?_; rintro x w5 ⟨v5, rfl, hR, hB⟩; obtain ⟨Ad, cd, rfl, hcd, hCd⟩ := Kd.oK hR; have HQ5 := aa.mk (aM HQ4.out hB); have HCD := aa.mk hCd; have vY := aa.mk (aM Ju.out hB); clear hB hR hCd c0 c1 c2 c3 d0 d1 f0 f1; obtain ⟨c0, c1, c2, c3, d0, d1, f0, f1⟩ := Gy.out w5 vY.out))
       have hA := eX w5 (.cells #[.int .i64 b0, .slice Ad b1.length cd] 27);have HQ6 := aa.mk (aM HQ5.out hA.1);have Gp := aa.mk (aM vY.out hA.1);have aL6 := aa.mk (Kd.bF HCD.out hA.1);have HD := aa.mk hA.2;obtain ⟨gD, eD⟩ : ∃ g, g = w5.heap.size := ⟨_, rfl⟩;have GD := aa.mk (show w.heap.size ≤ gD by have := HQ5.out.size; omega);rw [← eD] at HD ⊢;clear eD hA HCD c0 c1 c2 c3 d0 d1 f0 f1;generalize (w5.alloc (.cells #[.int .i64 b0, .slice Ad b1.length cd] 27)) = w6 at *;obtain ⟨c0, c1, c2, c3, d0, d1, f0, f1⟩ := Gy.out w6 Gp.out;by_cases hb2 : b2 = 0
       ·subst hb2;have HE1 := HE.out;rw [if_pos rfl] at HE1;by_cases hsm : smT ⟨b0, b1⟩ = true
        ·rw [if_pos hsm] at HE1;injection HE1 with e1
         injection e1 with e1 e2
         injection e2 with e2 e3
         subst e1 e2 e3;go_upto_region 14 with (fail)
         have hA := eX w6 (.cells #[.nilFunc] 105);obtain ⟨gF, eF⟩ : ∃ g, g = w6.heap.size := ⟨_, rfl⟩;have hX := hA.2;have hA1 := hA.1;rw [← eF] at hX ⊢;clear hA;generalize (w6.alloc (.cells #[.nilFunc] 105)) = wa at *;have y0 : wa.cell? ⟨gF, 0, none⟩ = some .nilFunc := (ae hX 0).trans rfl;have y1 := ai hX 0;have HST := aa.mk (QE (g := gF) (j := 0) (v := .func (.func 89) #[] #[.pointer (some ⟨gF, 0, none⟩)]) hA1 (Nat.le_of_eq eF.symm));have HX7 := aa.mk (bL (cs := #[.nilFunc]) hX 0 (.func (.func 89) #[] #[.pointer (some ⟨gF, 0, none⟩)]) rfl);clear hX hA1 eF;go_upto_region 15 with (fail)
         clear y0 y1;generalize (wa.setCell ⟨gF, 0, none⟩ (.func (.func 89) #[] #[.pointer (some ⟨gF, 0, none⟩)])) = w7 at *;have HQ7 := aa.mk (aM HQ6.out HST.out);have Co := aa.mk (aM Gp.out HST.out);have aL7 := aa.mk (Kd.bF aL6.out HST.out);have HD7 := aa.mk (aC HD.out HST.out);clear HST c0 c1 c2 c3 d0 d1 f0 f1;obtain ⟨c0, c1, c2, c3, d0, d1, f0, f1⟩ := Gy.out w7 Co.out;have u0 : w7.cell? ⟨gF, 0, none⟩ = some (.func (.func 89) #[] #[.pointer (some ⟨gF, 0, none⟩)]) := (ae HX7.out 0).trans rfl;have u1 : w7.cell? ⟨gD, 0, none⟩ = some (.int .i64 b0) := (ae HD7.out 0).trans rfl;have u2 : w7.cell? ⟨gD, 1, none⟩ = some (.slice Ad b1.length cd) := (ae HD7.out 1).trans rfl;have aL8 := aa.mk (ayB (ayj ⟨b0, b1⟩ hsm) Ad cd gF w7 aL7.out hcd HX7.out);go_wp2_with (first | (go_at_call 89; refine aL8.out.mono ?_; rintro x w8 ⟨v8, rfl, hR, hB⟩; obtain ⟨Ap, cp, eP8⟩ := Kd.fQ hR; subst eP8; have HQ8 := aa.mk (aM HQ7.out hB); have HB8 := aa.mk (aM Co.out hB); have HR8 := aa.mk (Kd.iL (Kd.bB (ok' := fun k_ => k_ ≠ gR) (Kd.jI hR) (fun k_ hk he => by have := hk.2.1; have := bE (aC H2.out Co.out); omega)) HQ7.out.size); clear u0 u1 u2 hB hR c0 c1 c2 c3 d0 d1 f0 f1; obtain ⟨c0, c1, c2, c3, d0, d1, f0, f1⟩ := Gy.out w8 HB8.out))
         refine bodyPost_ret (jr rfl _ _ gR 64 #[.int .i64 b0, .slice Ap (arE b1).length cp] (0, 0) _ rfl (by refine bL (cs := #[.int .i64 b0, .slice none 0 0]) ?_ 1 _ rfl; refine bL (cs := #[.int .i64 0, .slice none 0 0]) ?_ 0 _ rfl; exact aC H2.out HB8.out) Try.underlying64 rfl (by kernel_rfl)) rfl ?_;exact ⟨_, rfl, Kd.bB (Kd.jS (p := ⟨gR, 1, none⟩) (Kd.jS (p := ⟨gR, 0, none⟩) (Kd.bB HR8.out (fun k_ hk => (⟨hk, hk⟩ : _ ∧ k_ ≠ gR))) (fun _ hk => hk.2) (.int .i64 b0)) (fun _ hk => hk.2) (.slice Ap (arE b1).length cp)) (fun _ hk => trivial), QE (QE HQ8.out GR.out) GR.out⟩
        ·rw [if_neg hsm] at HE1
         cases HE1
       ·have HE1 := HE.out;rw [if_neg hb2] at HE1;injection HE1 with e1
        injection e1 with e1 e2
        injection e2 with e2 e3
        subst e1 e2 e3;go_wp2_with fail
        refine bodyPost_ret (jr rfl _ _ gR 64 #[.int .i64 0, .slice none 0 0] (0, 0) _ rfl (by refine bL (cs := #[.int .i64 0, .slice none 0 0]) ?_ 1 _ rfl; refine bL (cs := #[.int .i64 0, .slice none 0 0]) ?_ 0 _ rfl; exact aC H2.out Gp.out) Try.underlying64 rfl (by kernel_rfl)) rfl ?_;exact ⟨_, rfl, Kd.qf _ _ _ _ _, QE (QE HQ6.out GR.out) GR.out⟩
    ·rw [if_neg g3] at HF1
     cases HF1
end Go.Proofs.Ytamimodkcbbpmaa.Pr
end
section
namespace Go.Proofs.Ytamimodkcbbpmaa.Pr
open Go.RowKit Go.Proofs.YtamimodkcbbpmaaW.PrintWords Go.Proofs.YtamimodkcbbpmaaW.PrintLast Go.Proofs.YtamimodkcbbpmaaW.PrintMore Go.Proofs.YtamimodkcbbpmaaXW
attribute [local go_sem] kv ky lX lY jf jg kz kC
set_option linter.unusedVariables false
set_option linter.unusedSimpArgs false
def aqu.f  : Option (Int × Int × Int × (List (KH)) × List Int) := some (1, 2, 0, (([(⟨4, 0, 1, 1, 2, 0⟩ : KH), (⟨2, 1, 0, 0, 0, 0⟩ : KH), (⟨1, 1, 0, 0, 5, 0⟩ : KH)] : List (KH))), (([4] : List Int)))
set_option maxHeartbeats 8000000 in
set_option maxRecDepth 100000 in
theorem aqu.calls  (r1 : Int) (r2 : Int) (r3 : Int) (r4 : List (KH)) (r5 : List Int) (w : World) (h : aqu.f  = some (r1, r2, r3, r4, r5)) :
  Calls Try.prog 86 #[] w fun e w' => ∃ v3_ v4_ : Value, e = .returned (.tuple #[.agg #[.int .i64 r1, .int .i64 r2, .int .i64 r3, v3_], v4_]) ∧ Kd.R Md 75 w' w.heap.size (fun _ => True) v3_ r4 ∧ Kd.R (Kd.int .i64) 3 w' w.heap.size (fun _ => True) v4_ r5 ∧ Below w.heap.size w w' := by
 have avx := Try.underlying58;have azj := Try.underlying75;have HB := aa.mk (Below.refl w.heap.size w);have H : (some (1, 2, 0, (([(⟨4, 0, 1, 1, 2, 0⟩ : KH), (⟨2, 1, 0, 0, 0, 0⟩ : KH), (⟨1, 1, 0, 0, 5, 0⟩ : KH)] : List (KH))), (([4] : List Int)))) = some (r1, r2, r3, r4, r5) := h;clear h;obtain ⟨ay9, awF⟩ : ∃ y_ : List (KH), y_ = (([(⟨4, 0, 1, 1, 2, 0⟩ : KH), (⟨2, 1, 0, 0, 0, 0⟩ : KH), (⟨1, 1, 0, 0, 5, 0⟩ : KH)] : List (KH))) := ⟨_, rfl⟩;replace H : (some (1, 2, 0, ay9, (([4] : List Int)))) = some (r1, r2, r3, r4, r5) := by first | (rw [awF]; with_reducible exact H) | (have Gn := (Option.bind_some _ _).symm.trans H; rw [awF]; with_reducible exact Gn) | (have Gn := (Option.bind_some _ _).symm.trans H; with_reducible exact Gn) | with_reducible exact H | (rw [awF]; exact H) | exact H
 have aAU := aa.mk awF;clear awF;obtain ⟨aL9, awV⟩ : ∃ y_ : List Int, y_ = (([4] : List Int)) := ⟨_, rfl⟩;replace H : (some (1, 2, 0, ay9, aL9)) = some (r1, r2, r3, r4, r5) := by first | (rw [awV]; with_reducible exact H) | (have Gn := (Option.bind_some _ _).symm.trans H; rw [awV]; with_reducible exact Gn) | (have Gn := (Option.bind_some _ _).symm.trans H; with_reducible exact Gn) | with_reducible exact H | (rw [awV]; exact H) | exact H
 have aAV := aa.mk awV;clear awV;simp only [Option.some.injEq, Prod.mk.injEq] at H;obtain ⟨rfl, rfl, rfl, rfl, rfl⟩ := H;go_enter Try.func86, Try.ntmps86
 go_wp2_with (first | ((with_reducible refine bM (N := 0) rfl ?_); refine bG ?hg (N := 0) ?hd (cs := #[.int .i64 0, .int .i64 0, .int .i64 0, .slice none 0 0]) (t := 58) ?hr ?_; (case hd => rfl); (case hg => rfl); (case hr => first | (go_simp; done) | (go_simp; rfl)); intro arV hg w1 bR hb; have bP := aa.mk (aM (bO HB) hb); have bQ := aa.mk (bR); have bT := aa.mk ((by rw [hg]; exact (aK (bO HB)) : w.heap.size ≤ arV)); have di := aa.mk ((by rw [hg]; exact (aK (bO HB)) : w.heap.size ≤ arV)); clear HB; have HB := bP; have arC := bQ; have aOI := bT; have aOJ := di; clear bP bQ bT di; clear hb bR hg) | ((with_reducible refine bM (N := 5) rfl ?_); refine Kd.Si Md _ 75 ?hg (N := 5) ?hd (xs := ([(⟨4, 0, 1, 1, 2, 0⟩ : KH), (⟨2, 1, 0, 0, 0, 0⟩ : KH), (⟨1, 1, 0, 0, 5, 0⟩ : KH)] : List (KH))) (inner := [.int .i64 4, .int .i64 0, .int .i64 1, .int .i64 1, .int .i64 2, .int .i64 0, .int .i64 2, .int .i64 1, .int .i64 0, .int .i64 0, .int .i64 0, .int .i64 0, .int .i64 1, .int .i64 1, .int .i64 0, .int .i64 0, .int .i64 5, .int .i64 0]) (ok := fun _ => True) (lV := fun _ => True) ?hr ?hp (fun _ hk => hk) trivial (Below.refl _ _) (Nat.le_refl _) (by simp) ?_; (case hd => rfl); (case hg => rfl); (case hr => first | (go_simp; done) | (go_simp; rfl)); (case hp => exact (fJ.c6 (show Kd.M Md _ _ _ (⟨4, 0, 1, 1, 2, 0⟩ : KH) [.int .i64 4, .int .i64 0, .int .i64 1, .int .i64 1, .int .i64 2, .int .i64 0] from (afw _ _ _ (⟨4, 0, 1, 1, 2, 0⟩ : KH) )) (fJ.c6 (show Kd.M Md _ _ _ (⟨2, 1, 0, 0, 0, 0⟩ : KH) [.int .i64 2, .int .i64 1, .int .i64 0, .int .i64 0, .int .i64 0, .int .i64 0] from (afw _ _ _ (⟨2, 1, 0, 0, 0, 0⟩ : KH) )) (fJ.c6 (show Kd.M Md _ _ _ (⟨1, 1, 0, 0, 5, 0⟩ : KH) [.int .i64 1, .int .i64 1, .int .i64 0, .int .i64 0, .int .i64 5, .int .i64 0] from (afw _ _ _ (⟨1, 1, 0, 0, 5, 0⟩ : KH) )) (fJ.none _ _))))); intro aQZ w2 ho3 hb hg_ UT; clear hg_ UT; (first | rw [← aAU.out] at ho3 | (simp only [Int.reduceToNat] at ho3; rw [← aAU.out] at ho3)); have bP := aa.mk (Kd.iL ho3 (aK (bO HB))); have bQ := aa.mk (aC (bk arC) hb); have bT := aa.mk (aM (bO HB) hb); clear arC; clear HB; have awW := bP; have arC := bQ; have HB := bT; clear bP bQ bT; clear hb ho3; obtain ⟨Ao4, co4, eo4⟩ := Kd.fQ awW.out; subst eo4) | ((with_reducible refine bM (N := 7) rfl ?_); refine Kd.Si (Kd.int .i64) _ 3 ?hg (N := 7) ?hd (xs := ([4] : List Int)) (inner := [.int .i64 4]) (ok := fun _ => True) (lV := fun _ => True) ?hr ?hp (fun _ hk => hk) trivial (Below.refl _ _) (Nat.le_refl _) (by simp) ?_; (case hd => rfl); (case hg => rfl); (case hr => first | (go_simp; done) | (go_simp; rfl)); (case hp => exact (fJ.one (show Kd.M (Kd.int .i64) _ _ _ 4 [.int .i64 4] from rfl) (fJ.none _ _))); intro aQ1 w5 ho6 hb hg_ UT; clear hg_ UT; (first | rw [← aAV.out] at ho6 | (simp only [Int.reduceToNat] at ho6; rw [← aAV.out] at ho6)); have bP := aa.mk (Kd.bu (by (with_reducible repeat (first | apply Kd.ek | apply Kd.eu | apply Kd.aaH)); exact awW.out) hb); have bQ := aa.mk (Kd.iL ho6 (aK (bO HB))); have bT := aa.mk (aC (bk arC) hb); have di := aa.mk (aM (bO HB) hb); clear awW; clear arC; clear HB; have awW := bP; have aFz := bQ; have arC := bT; have HB := di; clear bP bQ bT di; clear hb ho6; have ML : w5.cell? ⟨arV, 0, none⟩ = some (.int .i64 0) := (ae arC.out 0).trans rfl; have MM : w5.cell? ⟨arV, 1, none⟩ = some (.int .i64 0) := (ae arC.out 1).trans rfl; have arO : w5.cell? ⟨arV, 2, none⟩ = some (.int .i64 0) := (ae arC.out 2).trans rfl; have arP : w5.cell? ⟨arV, 3, none⟩ = some (.slice none 0 0) := (ae arC.out 3).trans rfl; have MN := ai arC.out 0; have MO := ai arC.out 1; have arQ := ai arC.out 2; have arR := ai arC.out 3))
 refine bodyPost_ret (jr rfl _ _ arV 58 #[.int .i64 1, .int .i64 2, .int .i64 0, .slice Ao4 ay9.length co4] (0, 0) _ rfl (by (with_reducible repeat (first | refine ax ?_ _ | refine az ?_ | refine au ?_ _)); refine bL (cs := #[.int .i64 1, .int .i64 2, .int .i64 0, .slice none 0 0]) ?_ 3 _ rfl; (with_reducible repeat (first | refine ax ?_ _ | refine az ?_ | refine au ?_ _)); refine bL (cs := #[.int .i64 1, .int .i64 2, .int .i64 0, .slice none 0 0]) ?_ 2 _ rfl; (with_reducible repeat (first | refine ax ?_ _ | refine az ?_ | refine au ?_ _)); refine bL (cs := #[.int .i64 1, .int .i64 0, .int .i64 0, .slice none 0 0]) ?_ 1 _ rfl; (with_reducible repeat (first | refine ax ?_ _ | refine az ?_ | refine au ?_ _)); refine bL (cs := #[.int .i64 0, .int .i64 0, .int .i64 0, .slice none 0 0]) ?_ 0 _ rfl; (with_reducible repeat (first | refine ax ?_ _ | refine az ?_ | refine au ?_ _)); exact arC.out) Try.underlying58 rfl (by kernel_rfl)) rfl ?_;exact ⟨_, _, by first | rfl | (simp [aW, aX] <;> rfl) | (simp [*, aW, aX] <;> rfl), by (with_reducible repeat (first | apply Kd.ek | apply Kd.eu | apply Kd.aaH)); exact Kd.bB (Kd.jS (p := ⟨arV, 3, none⟩) (Kd.jS (p := ⟨arV, 2, none⟩) (Kd.jS (p := ⟨arV, 1, none⟩) (Kd.jS (p := ⟨arV, 0, none⟩) (Kd.zV awW.out arC.out (by decide)) (fun _ hk => hk.2) (.int .i64 1)) (fun _ hk => hk.2) (.int .i64 2)) (fun _ hk => hk.2) (.int .i64 0)) (fun _ hk => hk.2) (.slice Ao4 ay9.length co4)) (fun _ hk => trivial), by (with_reducible repeat (first | apply Kd.ek | apply Kd.eu | apply Kd.aaH)); exact Kd.bB (Kd.jS (p := ⟨arV, 3, none⟩) (Kd.jS (p := ⟨arV, 2, none⟩) (Kd.jS (p := ⟨arV, 1, none⟩) (Kd.jS (p := ⟨arV, 0, none⟩) (Kd.zV aFz.out arC.out (by decide)) (fun _ hk => hk.2) (.int .i64 1)) (fun _ hk => hk.2) (.int .i64 2)) (fun _ hk => hk.2) (.int .i64 0)) (fun _ hk => hk.2) (.slice Ao4 ay9.length co4)) (fun _ hk => trivial), bO HB⟩
mutual
def Ae.j0 : Nat → Bool → Int → List (S64) → Int → List (S64) → Option (Bool)
 | 0, _, _, _, _, _ => none
 | k + 1, x19, auo, ar1, aup, ar8 => if x19 = true then (some false) else (Ae.j1 k auo ar1 aup ar8)
def Ae.j1 : Nat → Int → List (S64) → Int → List (S64) → Option (Bool)
 | 0, _, _, _, _ => none
 | k + 1, auo, ar1, aup, ar8 => Ae.l0 k 0 auo ar1 aup ar8
def Ae.l0 : Nat → Int → Int → List (S64) → Int → List (S64) → Option (Bool)
 | 0, _, _, _, _, _ => none
 | k + 1, x5, auo, ar1, aup, ar8 => if x5 < (ar1.length : Int) then (if 0 ≤ x5 then (if x5 < (ar8.length : Int) then ((Ae.f k ((FW ar1 x5).f0) ((FW ar1 x5).f1) ((FW ar8 x5).f0) ((FW ar8 x5).f1)).bind fun aAs => (if aAs = true then (Ae.l0 k (wrap64 (x5 + 1)) auo ar1 aup ar8) else (some false))) else (none)) else (none)) else (some true)
def Ae.f : Nat → Int → List (S64) → Int → List (S64) → Option (Bool)
 | 0, _, _, _, _ => none
 | k + 1, aR, aH, cK, cz => if aR = cK then (Ae.j0 k ((aH.length : Int) != (cz.length : Int)) aR aH cK cz) else (Ae.j0 k true aR aH cK cz)
end
theorem Ae.apw : ∀ k, (∀ y0 y1 y2 y3, dz (Ae.f k y0 y1 y2 y3) (Ae.f (k + 1) y0 y1 y2 y3)) ∧ (∀ y0 y1 y2 y3 y4, dz (Ae.j0 k y0 y1 y2 y3 y4) (Ae.j0 (k + 1) y0 y1 y2 y3 y4)) ∧ (∀ y0 y1 y2 y3, dz (Ae.j1 k y0 y1 y2 y3) (Ae.j1 (k + 1) y0 y1 y2 y3)) ∧ (∀ y0 y1 y2 y3 y4, dz (Ae.l0 k y0 y1 y2 y3 y4) (Ae.l0 (k + 1) y0 y1 y2 y3 y4))
 | 0 => ⟨fun _ _ _ _ r h => by simp [Ae.f] at h, fun _ _ _ _ _ r h => by simp [Ae.j0] at h, fun _ _ _ _ r h => by simp [Ae.j1] at h, fun _ _ _ _ _ r h => by simp [Ae.l0] at h⟩
 | k + 1 => by
  obtain ⟨jP, ih1, ih2, ih3⟩ := Ae.apw k;refine ⟨?_, ?_, ?_, ?_⟩;all_goals intros
  all_goals first | unfold Ae.f | unfold Ae.j0 | unfold Ae.j1 | unfold Ae.l0
  all_goals
   repeat' first
   | (with_reducible exact jP _ _ _ _)
   | (with_reducible exact ih1 _ _ _ _ _)
   | (with_reducible exact ih2 _ _ _ _)
   | (with_reducible exact ih3 _ _ _ _ _)
   | (with_reducible exact dz.refl _)
   | (with_reducible exact dz.none _)
   | (with_reducible refine dz.ite ?_ ?_)
   | (with_reducible refine dz.bind ?_ (fun _ => ?_))
   | exact jP _ _ _ _
   | exact ih1 _ _ _ _ _
   | exact ih2 _ _ _ _
   | exact ih3 _ _ _ _ _
   | exact dz.none _
   | refine dz.ite ?_ ?_
   | refine dz.bind ?_ (fun _ => ?_)
theorem Ae.mono : ∀ a0 a1 a2 a3 k, dz (Ae.f k a0 a1 a2 a3) (Ae.f (k + 1) a0 a1 a2 a3) := by
 intro a0 a1 a2 a3 k;obtain ⟨jP, ih1, ih2, ih3⟩ := Ae.apw k;exact jP a0 a1 a2 a3
def Ae.T6 : Bool × List (List Nat × List Nat) := (true, [([], []), ([0], [0]), ([], []), ([1, 2], [1, 2]), ([3], [3]), ([], []), ([5], [5]), ([], []), ([6, 7], [6, 7]), ([8], [8]), ([4, 9], [4, 9]), ([10], [10])])
def Ae.B6 : List Nat := [0, 1, 0, 7, 15, 0, 32, 0, 224, 480, 1023, 2047]
theorem Ae.Jt : iC .any (opsOf Try.f53 6) = Ae.T6 := by kernel_rfl
theorem Ae.axs : fo Ae.T6.2 Ae.B6 = true := by kernel_rfl
set_option maxHeartbeats 8000000 in
set_option maxRecDepth 100000 in
theorem Ae.calls (k : Nat) : ∀ (aR : Int) (bW : Option Addr) (bN : Nat) (aH : List (S64)) (cK : Int) (av3 : Option Addr) (lJ : Nat) (cz : List (S64)) (r : Bool) (w : World) (fw : Kd.C OG w bW aH.length aH) (fC : aH.length ≤ bN) (yz : Kd.C OG w av3 cz.length cz) (yA : cz.length ≤ lJ) (h : Ae.f k aR aH cK cz = some r),
  Calls Try.prog 53 #[.agg #[.int .i64 aR, .slice bW aH.length bN], .agg #[.int .i64 cK, .slice av3 cz.length lJ]] w fun e w' => e = .returned (.bool r) ∧ Below w.heap.size w w' := by
 induction k using Nat.strongRecOn with
 | _ k ih =>
 intro aR bW bN aH cK av3 lJ cz r w fw fC yz yA h
 cases k with
 | zero => exact absurd h (by simp [Ae.f])
 | succ k =>
 simp only [Ae.f] at h;have hu64 := Try.underlying64;have arT := aa.mk fw;have fP := aa.mk fC;clear fw fC;have ED := aa.mk yz;have TZ := aa.mk yA;clear yz yA;have HB := aa.mk (Below.refl w.heap.size w);have H : (if aR = cK then (Ae.j0 k ((aH.length : Int) != (cz.length : Int)) aR aH cK cz) else (Ae.j0 k true aR aH cK cz)) = some r := h;clear h;have Uo := aa.mk H;clear H;go_enter Try.func53, Try.ntmps53
 go_upto_region 1 with (first | ((with_reducible refine bM (N := 2) rfl ?_); (try (refine gG (by rfl) ?_; dsimp only)); refine bG ?hg (N := 2) ?hd (cs := #[.int .i64 aR, .slice bW aH.length bN]) (t := 64) ?hr ?_; (case hd => rfl); (case hg => rfl); (case hr => first | (go_simp; done) | (go_simp; rfl)); intro aqF hg w4 bR hb; have bP := aa.mk (aM (bO HB) hb); have bQ := aa.mk (bR); have bT := aa.mk ((by rw [hg]; exact (aK (bO HB)) : w.heap.size ≤ aqF)); have di := aa.mk ((by rw [hg]; exact (aK (bO HB)) : w.heap.size ≤ aqF)); clear HB; have HB := bP; have apy := bQ; have aOK := bT; have aOL := di; clear bP bQ bT di; clear hb bR hg) | ((with_reducible refine bM (N := 3) rfl ?_); (try (refine gG (by rfl) ?_; dsimp only)); refine bG ?hg (N := 3) ?hd (cs := #[.int .i64 cK, .slice av3 cz.length lJ]) (t := 64) ?hr ?_; (case hd => rfl); (case hg => rfl); (case hr => first | (go_simp; done) | (go_simp; rfl)); intro arW hg w5 bR hb; have bP := aa.mk (aC (bk apy) hb); have bQ := aa.mk (aM (bO HB) hb); have bT := aa.mk (bR); have di := aa.mk ((by rw [hg]; exact (aK (bO HB)) : w.heap.size ≤ arW)); have n4_ := aa.mk ((by rw [hg]; exact (aK (bO HB)) : w.heap.size ≤ arW)); have n5_ := aa.mk ((by rw [hg]; exact Nat.ne_of_lt (bE (bk apy)) : aqF ≠ arW)); have iG := aa.mk ((by rw [hg]; exact Nat.ne_of_gt (bE (bk apy)) : arW ≠ aqF)); clear apy; clear HB; have apy := bP; have HB := bQ; have aqi := bT; have aOM := di; have aON := n4_; have asc := n5_; have ase := iG; clear bP bQ bT di n4_ n5_ iG; clear hb bR hg))
 (try simp only [Act.put, List.setIfInBounds_toArray, List.set_cons_zero, List.set_cons_succ]);go_cut [19] (fun v19 wc => ∃ (kq : Nat) (Qr : Bool), v19 = .bool Qr ∧ aa (Ae.j0 kq Qr aR aH cK cz = some r) ∧ aa (kq ≤ k) ∧ aa (wc.heap[aqF]? = some (.cells #[.int .i64 aR, (.slice bW aH.length bN)] 64 (0, 0))) ∧ aa (wc.heap[arW]? = some (.cells #[.int .i64 cK, (.slice av3 cz.length lJ)] 64 (0, 0))) ∧ aa (Below w.heap.size w wc))
 case first =>
  have H := Uo.out;clear Uo;by_cases c6 : aR = cK
  ·rw [if_pos c6] at H;have Dy : (aR == cK) = true := beq_iff_eq.mpr c6;have XA : (aR != cK) = false := bne_eq_false_iff_eq.mpr c6;clear c6
   (first | rw [Dy] | (simp only [bH, bI]; rw [Dy]) | skip)
   have H' := aa.mk H;clear H;have aaL := asc.out;have aaM := ase.out;have nG : w5.cell? ⟨aqF, 0, none⟩ = some (.int .i64 aR) := (ae apy.out 0).trans rfl;have nH : w5.cell? ⟨aqF, 1, none⟩ = some (.slice bW aH.length bN) := (ae apy.out 1).trans rfl;have nI := ai apy.out 0;have nJ := ai apy.out 1;have nP : w5.cell? ⟨arW, 0, none⟩ = some (.int .i64 cK) := (ae aqi.out 0).trans rfl;have nQ : w5.cell? ⟨arW, 1, none⟩ = some (.slice av3 cz.length lJ) := (ae aqi.out 1).trans rfl;have nR := ai aqi.out 0;have nS := ai aqi.out 1;go_wp2;go_meet
   case rel => exact ⟨_, (((aH.length : Int) != (cz.length : Int))), (by first | rfl | (simp; done) | (simp [*]; done)), H', ⟨by first | omega | exact Nat.le_refl _⟩, ⟨by (with_reducible repeat (first | refine ax ?_ _ | refine az ?_ | refine au ?_ _)); exact apy.out⟩, ⟨by (with_reducible repeat (first | refine ax ?_ _ | refine az ?_ | refine au ?_ _)); exact aqi.out⟩, ⟨bO HB⟩⟩
  ·rw [if_neg c6] at H;have Dy : (aR == cK) = false := beq_eq_false_iff_ne.mpr c6;have XA : (aR != cK) = true := bne_iff_ne.mpr c6
   (first | rw [Dy] | (simp only [bH, bI]; rw [Dy]) | skip)
   have H' := aa.mk H;clear H;have adr := asc.out;have ads := ase.out;have oW : w5.cell? ⟨aqF, 0, none⟩ = some (.int .i64 aR) := (ae apy.out 0).trans rfl;have oZ : w5.cell? ⟨aqF, 1, none⟩ = some (.slice bW aH.length bN) := (ae apy.out 1).trans rfl;have o5 := ai apy.out 0;have o6 := ai apy.out 1;have jK : w5.cell? ⟨arW, 0, none⟩ = some (.int .i64 cK) := (ae aqi.out 0).trans rfl;have jL : w5.cell? ⟨arW, 1, none⟩ = some (.slice av3 cz.length lJ) := (ae aqi.out 1).trans rfl;have jM := ai aqi.out 0;have jN := ai aqi.out 1;go_wp2;go_meet
   case rel => exact ⟨_, (true), (by first | rfl | (simp; done) | (simp [*]; done)), H', ⟨by first | omega | exact Nat.le_refl _⟩, ⟨by (with_reducible repeat (first | refine ax ?_ _ | refine az ?_ | refine au ?_ _)); exact apy.out⟩, ⟨by (with_reducible repeat (first | refine ax ?_ _ | refine az ?_ | refine au ?_ _)); exact aqi.out⟩, ⟨bO HB⟩⟩
 case rest =>
  clear Uo;(try clear c1); (try clear p2); (try clear c5); (try clear c6); (try clear Dy); (try clear XA); (try clear c7); (try clear c10); (try clear oW); (try clear oZ); (try clear jK); (try clear jL); (try clear nG); (try clear nH); (try clear nP); (try clear nQ); (try clear o5); (try clear o6); (try clear jM); (try clear jN); (try clear nI); (try clear nJ); (try clear nR); (try clear nS);obtain ⟨kq, Qr, rfl, HA, HJ2, apy, aqi, HB⟩ := hcut
  cases kq with
  | zero => exact absurd HA.out (by simp [Ae.j0])
  | succ kj2 =>
   have H := HA.out;clear HA;simp only [Ae.j0] at H;have Gt := aa.mk H;clear H;go_upto_if 19 with (fail)
   go_cut [] (fun wc => ∃ (kq : Nat), aa (Ae.j1 kq aR aH cK cz = some r) ∧ aa (kq ≤ kj2) ∧ aa (wc.heap[aqF]? = some (.cells #[.int .i64 aR, (.slice bW aH.length bN)] 64 (0, 0))) ∧ aa (wc.heap[arW]? = some (.cells #[.int .i64 cK, (.slice av3 cz.length lJ)] 64 (0, 0))) ∧ aa (Below w.heap.size w wc))
   case first =>
    have H := Gt.out;clear Gt;by_cases c14 : Qr = true
    ·subst c14;have H1 : (some false) = some r := by rw [if_pos rfl] at H; exact H
     clear H;have H := H1;clear H1;obtain rfl := Option.some.inj H;go_wp2;go_ret;exact ⟨by first | rfl | (simp [aW, aX] <;> rfl) | (simp [*, aW, aX] <;> rfl), bO HB⟩
    ·replace c14 := Bool.eq_false_iff.mpr c14;subst c14;have H1 : (Ae.j1 kj2 aR aH cK cz) = some r := by rw [if_neg (show ¬ (false = true) by decide)] at H; exact H
     clear H;have H := H1;clear H1;have H' := aa.mk H;clear H;go_wp2;go_meet
     case rel => exact ⟨_, H', ⟨by have := HJ2.out; first | omega | exact Nat.le_refl _⟩, ⟨by (with_reducible repeat (first | refine ax ?_ _ | refine az ?_ | refine au ?_ _)); exact apy.out⟩, ⟨by (with_reducible repeat (first | refine ax ?_ _ | refine az ?_ | refine au ?_ _)); exact aqi.out⟩, ⟨bO HB⟩⟩
   case rest =>
    clear Gt;(try clear c1); (try clear p2); (try clear c5); (try clear c6); (try clear Dy); (try clear XA); (try clear c7); (try clear c10); (try clear c14); (try clear oW); (try clear oZ); (try clear jK); (try clear jL); (try clear nG); (try clear nH); (try clear nP); (try clear nQ); (try clear o5); (try clear o6); (try clear jM); (try clear jN); (try clear nI); (try clear nJ); (try clear nR); (try clear nS); (try clear p2);obtain ⟨kq, HA, Bp, apy, aqi, HB⟩ := hcut
    cases kq with
    | zero => exact absurd HA.out (by simp [Ae.j1])
    | succ kj12 =>
     have H := HA.out;clear HA;simp only [Ae.j1] at H;have H' := aa.mk H;clear H;go_wp2;go_loopg [5] kj12 (fun kq v5 w' => ∃ (gT : Int), v5 = .int .i64 gT ∧ aa (Ae.l0 kq gT aR aH cK cz = some r) ∧ aa (kq ≤ kj12) ∧ aa (w'.heap[aqF]? = some (.cells #[.int .i64 aR, (.slice bW aH.length bN)] 64 (0, 0))) ∧ aa (w'.heap[arW]? = some (.cells #[.int .i64 cK, (.slice av3 cz.length lJ)] 64 (0, 0))) ∧ aa (Below w.heap.size w w'))
     case atStart => exact ⟨(0), (by first | rfl | (simp; done) | (simp [*]; done)), H', ⟨Nat.le_refl _⟩, ⟨by (with_reducible repeat (first | refine ax ?_ _ | refine az ?_ | refine au ?_ _)); exact apy.out⟩, ⟨by (with_reducible repeat (first | refine ax ?_ _ | refine az ?_ | refine au ?_ _)); exact aqi.out⟩, ⟨bO HB⟩⟩
     case round =>
      clear H';(try clear c1); (try clear p2); (try clear c5); (try clear c6); (try clear Dy); (try clear XA); (try clear c7); (try clear c10); (try clear c14); (try clear oW); (try clear oZ); (try clear jK); (try clear jL); (try clear nG); (try clear nH); (try clear nP); (try clear nQ); (try clear o5); (try clear o6); (try clear jM); (try clear jN); (try clear nI); (try clear nJ); (try clear nR); (try clear nS); (try clear p2);obtain ⟨gT, rfl, HA, xO, apy, aqi, HB⟩ := hrel
      cases gk with
      | zero => exact absurd HA.out (by simp [Ae.l0])
      | succ k3 =>
       have H := HA.out;clear HA;simp only [Ae.l0] at H;by_cases c15 : gT < (aH.length : Int)
       ·rw [if_pos c15] at H;have tF : decide (gT < (aH.length : Int)) = true := decide_eq_true c15;clear c15;by_cases c16 : 0 ≤ gT
        ·rw [if_pos c16] at H;have EC : decide (0 ≤ gT) = true := decide_eq_true c16;clear c16;by_cases c17 : gT < (cz.length : Int)
         ·rw [if_pos c17] at H;have Zc : decide (gT < (cz.length : Int)) = true := decide_eq_true c17;clear c17;replace H := Option.bind_eq_some_iff.mp H;obtain ⟨aAs, UM, H⟩ := H;replace H : (if aAs = true then (Ae.l0 k3 (wrap64 (gT + 1)) aR aH cK cz) else (some false)) = some r := H;have A18 := aa.mk UM;clear UM;by_cases c19 : aAs = true
          ·subst c19;have H1 : (Ae.l0 k3 (wrap64 (gT + 1)) aR aH cK cz) = some r := by rw [if_pos rfl] at H; exact H
           clear H;have H := H1;clear H1;have H' := aa.mk H;clear H;have OQ := asc.out;have OT := ase.out;have qi : wr.cell? ⟨aqF, 0, none⟩ = some (.int .i64 aR) := (ae apy.out 0).trans rfl;have qj : wr.cell? ⟨aqF, 1, none⟩ = some (.slice bW aH.length bN) := (ae apy.out 1).trans rfl;have ql := ai apy.out 0;have qm := ai apy.out 1;try go_wp2
           have bP := aa.mk (az apy.out);have bQ := aa.mk (az aqi.out);have bT := aa.mk (fK HB.out);clear apy aqi HB;have apy := bP;have aqi := bQ;have HB := bT;clear bP bQ bT;have axk : 0 ≤ (gT : Int) := of_decide_eq_true (by first | (with_reducible assumption) | assumption);have axl : gT < (aH.length : Int) := of_decide_eq_true (by first | (with_reducible assumption) | assumption);obtain ⟨auq, avo, avp, aBG, arI, arJ, aur, aus⟩ := ah8 arT.out gT axk axl;have aut := arJ;have auu := arI
           cases aBG;replace arI := ah HB.out arI;replace arJ := ah HB.out arJ;have auv := aa.mk aus;have av4 := aa.mk aur;clear aus aur;replace axk := eq_true axk;replace axl := eq_true axl;have axm : 0 ≤ (gT : Int) := of_decide_eq_true (by first | (with_reducible assumption) | assumption);have axn : gT < (cz.length : Int) := of_decide_eq_true (by first | (with_reducible assumption) | assumption);obtain ⟨auw, avq, avr, aBH, arK, arL, auy, auz⟩ := ah8 ED.out gT axm axn;have auA := arL;have auB := arK
           cases aBH;replace arK := ah HB.out arK;replace arL := ah HB.out arL;have auC := aa.mk auz;have av5 := aa.mk auy;clear auz auy;replace axm := eq_true axm;replace axn := eq_true axn;refine fu (n := 12) (S := fun w' => w'.cell? ⟨aqF, 0, none⟩ = some (.int .i64 aR) ∧ w'.cell? ⟨aqF, 1, none⟩ = some (.slice (some auq) aH.length bN) ∧ w'.cell? ⟨arW, 0, none⟩ = some (.int .i64 cK) ∧ w'.cell? ⟨arW, 1, none⟩ = some (.slice (some auw) cz.length lJ) ∧ w'.cell? (auq.add ((gT).toNat * 2)) = some (.int .i64 ((FW aH gT).f0)) ∧ w'.cell? ⟨(auq.add ((gT).toNat * 2)).block, (auq.add ((gT).toNat * 2)).off + 1, none⟩ = some (.slice avo ((FW aH gT).f1).length avp) ∧ w'.cell? (auw.add ((gT).toNat * 2)) = some (.int .i64 ((FW cz gT).f0)) ∧ w'.cell? ⟨(auw.add ((gT).toNat * 2)).block, (auw.add ((gT).toNat * 2)).off + 1, none⟩ = some (.slice avq ((FW cz gT).f1).length avr)) (ds := []) #[false, false, false, false, false, false, false, false, false, false, false, false] (by kernel_rfl) rfl rfl ⟨(ae apy.out 0).trans rfl, (ae apy.out 1).trans rfl, (ae aqi.out 0).trans rfl, (ae aqi.out 1).trans rfl, (ah HB.out auu), (ah HB.out aut), (ah HB.out auB), (ah HB.out auA)⟩ (fun hHeld => ?_); refine dw Ae.Jt Ae.axs (fun dA ji => ?_);generalize wr.drew = w22 at apy aqi HB auv auC arI arJ arK arL hHeld ⊢;refine fG (fuel := 2) [(0, 27), (2, 29), (5, 32), (7, 34), (1, 28), (3, 30), (4, 31), (6, 33), (8, 35), (9, 36)] #[true, true, true, true, true, true, true, true, true, true, false, false] (df dA.out ji.out _ _ _ (by kernel_rfl)) rfl (fun _ _ _ _ _ h => h) hHeld (a' := ?_) ?_ ?_;rotate_left
           ·iterate 10
             refine bC (v := ?_) (a1 := ?_) rfl rfl (Or.inl ⟨by rfl, ?_⟩) ?_ ?_;rotate_left 2
             ·rintro w' ⟨s0, s1, s2, s3, s4, s5, s6, s7⟩;go_simp;with_reducible rfl
             ·simp only [Act.put, List.setIfInBounds_toArray, List.set_cons_zero, List.set_cons_succ, bH, bI];rfl
            exact chain_nil
           refine fT (i := 10) (N := some 37) #[true, true, true, true, true, true, true, true, true, true, true, false] rfl rfl (dn dA.out (by kernel_rfl)) (by decide) (fun K hK => ?_);refine uC Try.func53 (by kernel_rfl) rfl #[.agg #[.int .i64 ((FW aH gT).f0), .slice avo ((FW aH gT).f1).length avp], .agg #[.int .i64 ((FW cz gT).f0), .slice avq ((FW cz gT).f1).length avr]] (by rfl) rfl rfl (by (try simp only [List.map_toArray, List.map_cons, List.map_nil]); first | done | rfl | (simp only [List.length_drop, List.length_take]; rfl)) ?_;with_reducible refine (ih k3 (by have := HJ2.out; have := Bp.out; have := xO.out; omega) ((FW aH gT).f0) _ _ ((FW aH gT).f1) ((FW cz gT).f0) _ _ ((FW cz gT).f1) true _ ?side1 ?side2 ?side3 ?side4 A18.out).mono ?_
           (case side1 => repeat (first | exact (Kd.bF auv.out HB.out) | (with_reducible refine Kd.dF ?_ _) | (with_reducible refine Kd.dG ?_ _) | (with_reducible refine Kd.eG ?_)));(case side2 => exact av4.out);(case side3 => repeat (first | exact (Kd.bF auC.out HB.out) | (with_reducible refine Kd.dF ?_ _) | (with_reducible refine Kd.dG ?_ _) | (with_reducible refine Kd.eG ?_)));(case side4 => exact av5.out);rintro e YJ ⟨rfl, hb⟩;refine ⟨_, rfl, ?_⟩;have bP := aa.mk (aC (bk apy) hb);have bQ := aa.mk (aC (bk aqi) hb);have bT := aa.mk (aM (bO HB) hb);clear apy aqi HB;have apy := bP;have aqi := bQ;have HB := bT;clear bP bQ bT;(try clear hb);(try clear hb2);(try clear hk);(try clear hi);refine hK.out _ _ ⟨(ae apy.out 0).trans rfl, (ae apy.out 1).trans rfl, (ae aqi.out 0).trans rfl, (ae aqi.out 1).trans rfl, (ah HB.out auu), (ah HB.out aut), (ah HB.out auB), (ah HB.out auA)⟩ (fun hHeld => ?_);clear hK K;refine bS (a' := ?_) ?_ ?_;rotate_left
           ·show Act.put _ (some 37) _ = _;simp only [Act.put, List.setIfInBounds_toArray, List.set_cons_zero, List.set_cons_succ, bH, bI];rfl
           refine arz (i := 11) (N := some 38) (v := ?_) (a' := ?_) #[true, true, true, true, true, true, true, true, true, true, true, true] rfl rfl (ku dA.out (by kernel_rfl)) (fun _ _ _ h => h) (Or.inl ⟨by rfl, ?_⟩) ?_ ?_;rotate_left
           ·intro w';go_simp;with_reducible rfl
           rotate_left
           ·simp only [Act.put, List.setIfInBounds_toArray, List.set_cons_zero, List.set_cons_succ, bH, bI];rfl
           refine gH (dV dA.out (by kernel_rfl)) ?_;try go_wp2
           go_roundg k3
           case measure => have := HJ2.out; have := Bp.out; have := xO.out; omega
           case rel => exact ⟨(wrap64 (gT + 1)), (by first | rfl | (simp; done) | (simp [*]; done)), H', ⟨by have := HJ2.out; have := Bp.out; have := xO.out; omega⟩, ⟨by (with_reducible repeat (first | refine ax ?_ _ | refine az ?_ | refine au ?_ _)); exact apy.out⟩, ⟨by (with_reducible repeat (first | refine ax ?_ _ | refine az ?_ | refine au ?_ _)); exact aqi.out⟩, ⟨bO HB⟩⟩
          ·replace c19 := Bool.eq_false_iff.mpr c19;subst c19;have H1 : (some false) = some r := by rw [if_neg (show ¬ (false = true) by decide)] at H; exact H
           clear H;have H := H1;clear H1;obtain rfl := Option.some.inj H;have Zn := asc.out;have Zo := ase.out;have yP : wr.cell? ⟨aqF, 0, none⟩ = some (.int .i64 aR) := (ae apy.out 0).trans rfl;have yQ : wr.cell? ⟨aqF, 1, none⟩ = some (.slice bW aH.length bN) := (ae apy.out 1).trans rfl;have yR := ai apy.out 0;have yS := ai apy.out 1;try go_wp2
           have bP := aa.mk (az apy.out);have bQ := aa.mk (az aqi.out);have bT := aa.mk (fK HB.out);clear apy aqi HB;have apy := bP;have aqi := bQ;have HB := bT;clear bP bQ bT;have axk : 0 ≤ (gT : Int) := of_decide_eq_true (by first | (with_reducible assumption) | assumption);have axl : gT < (aH.length : Int) := of_decide_eq_true (by first | (with_reducible assumption) | assumption);obtain ⟨auq, avo, avp, aBG, arI, arJ, aur, aus⟩ := ah8 arT.out gT axk axl;have aut := arJ;have auu := arI
           cases aBG;replace arI := ah HB.out arI;replace arJ := ah HB.out arJ;have auv := aa.mk aus;have av4 := aa.mk aur;clear aus aur;replace axk := eq_true axk;replace axl := eq_true axl;have axm : 0 ≤ (gT : Int) := of_decide_eq_true (by first | (with_reducible assumption) | assumption);have axn : gT < (cz.length : Int) := of_decide_eq_true (by first | (with_reducible assumption) | assumption);obtain ⟨auw, avq, avr, aBH, arK, arL, auy, auz⟩ := ah8 ED.out gT axm axn;have auA := arL;have auB := arK
           cases aBH;replace arK := ah HB.out arK;replace arL := ah HB.out arL;have auC := aa.mk auz;have av5 := aa.mk auy;clear auz auy;replace axm := eq_true axm;replace axn := eq_true axn;refine fu (n := 12) (S := fun w' => w'.cell? ⟨aqF, 0, none⟩ = some (.int .i64 aR) ∧ w'.cell? ⟨aqF, 1, none⟩ = some (.slice (some auq) aH.length bN) ∧ w'.cell? ⟨arW, 0, none⟩ = some (.int .i64 cK) ∧ w'.cell? ⟨arW, 1, none⟩ = some (.slice (some auw) cz.length lJ) ∧ w'.cell? (auq.add ((gT).toNat * 2)) = some (.int .i64 ((FW aH gT).f0)) ∧ w'.cell? ⟨(auq.add ((gT).toNat * 2)).block, (auq.add ((gT).toNat * 2)).off + 1, none⟩ = some (.slice avo ((FW aH gT).f1).length avp) ∧ w'.cell? (auw.add ((gT).toNat * 2)) = some (.int .i64 ((FW cz gT).f0)) ∧ w'.cell? ⟨(auw.add ((gT).toNat * 2)).block, (auw.add ((gT).toNat * 2)).off + 1, none⟩ = some (.slice avq ((FW cz gT).f1).length avr)) (ds := []) #[false, false, false, false, false, false, false, false, false, false, false, false] (by kernel_rfl) rfl rfl ⟨(ae apy.out 0).trans rfl, (ae apy.out 1).trans rfl, (ae aqi.out 0).trans rfl, (ae aqi.out 1).trans rfl, (ah HB.out auu), (ah HB.out aut), (ah HB.out auB), (ah HB.out auA)⟩ (fun hHeld => ?_); refine dw Ae.Jt Ae.axs (fun dA ji => ?_);generalize wr.drew = w26 at apy aqi HB auv auC arI arJ arK arL hHeld ⊢;refine fG (fuel := 2) [(0, 27), (2, 29), (5, 32), (7, 34), (1, 28), (3, 30), (4, 31), (6, 33), (8, 35), (9, 36)] #[true, true, true, true, true, true, true, true, true, true, false, false] (df dA.out ji.out _ _ _ (by kernel_rfl)) rfl (fun _ _ _ _ _ h => h) hHeld (a' := ?_) ?_ ?_;rotate_left
           ·iterate 10
             refine bC (v := ?_) (a1 := ?_) rfl rfl (Or.inl ⟨by rfl, ?_⟩) ?_ ?_;rotate_left 2
             ·rintro w' ⟨s0, s1, s2, s3, s4, s5, s6, s7⟩;go_simp;with_reducible rfl
             ·simp only [Act.put, List.setIfInBounds_toArray, List.set_cons_zero, List.set_cons_succ, bH, bI];rfl
            exact chain_nil
           refine fT (i := 10) (N := some 37) #[true, true, true, true, true, true, true, true, true, true, true, false] rfl rfl (dn dA.out (by kernel_rfl)) (by decide) (fun K hK => ?_);refine uC Try.func53 (by kernel_rfl) rfl #[.agg #[.int .i64 ((FW aH gT).f0), .slice avo ((FW aH gT).f1).length avp], .agg #[.int .i64 ((FW cz gT).f0), .slice avq ((FW cz gT).f1).length avr]] (by rfl) rfl rfl (by (try simp only [List.map_toArray, List.map_cons, List.map_nil]); first | done | rfl | (simp only [List.length_drop, List.length_take]; rfl)) ?_;with_reducible refine (ih k3 (by have := HJ2.out; have := Bp.out; have := xO.out; omega) ((FW aH gT).f0) _ _ ((FW aH gT).f1) ((FW cz gT).f0) _ _ ((FW cz gT).f1) false _ ?side1 ?side2 ?side3 ?side4 A18.out).mono ?_
           (case side1 => repeat (first | exact (Kd.bF auv.out HB.out) | (with_reducible refine Kd.dF ?_ _) | (with_reducible refine Kd.dG ?_ _) | (with_reducible refine Kd.eG ?_)));(case side2 => exact av4.out);(case side3 => repeat (first | exact (Kd.bF auC.out HB.out) | (with_reducible refine Kd.dF ?_ _) | (with_reducible refine Kd.dG ?_ _) | (with_reducible refine Kd.eG ?_)));(case side4 => exact av5.out);rintro e V7 ⟨rfl, hb⟩;refine ⟨_, rfl, ?_⟩;have bP := aa.mk (aC (bk apy) hb);have bQ := aa.mk (aC (bk aqi) hb);have bT := aa.mk (aM (bO HB) hb);clear apy aqi HB;have apy := bP;have aqi := bQ;have HB := bT;clear bP bQ bT;(try clear hb);(try clear hb2);(try clear hk);(try clear hi);refine hK.out _ _ ⟨(ae apy.out 0).trans rfl, (ae apy.out 1).trans rfl, (ae aqi.out 0).trans rfl, (ae aqi.out 1).trans rfl, (ah HB.out auu), (ah HB.out aut), (ah HB.out auB), (ah HB.out auA)⟩ (fun hHeld => ?_);clear hK K;refine bS (a' := ?_) ?_ ?_;rotate_left
           ·show Act.put _ (some 37) _ = _;simp only [Act.put, List.setIfInBounds_toArray, List.set_cons_zero, List.set_cons_succ, bH, bI];rfl
           refine arz (i := 11) (N := some 38) (v := ?_) (a' := ?_) #[true, true, true, true, true, true, true, true, true, true, true, true] rfl rfl (ku dA.out (by kernel_rfl)) (fun _ _ _ h => h) (Or.inl ⟨by rfl, ?_⟩) ?_ ?_;rotate_left
           ·intro w';go_simp;with_reducible rfl
           rotate_left
           ·simp only [Act.put, List.setIfInBounds_toArray, List.set_cons_zero, List.set_cons_succ, bH, bI];rfl
           refine gH (dV dA.out (by kernel_rfl)) ?_;try go_wp2
           go_ret;exact ⟨by first | rfl | (simp [aW, aX] <;> rfl) | (simp [*, aW, aX] <;> rfl), bO HB⟩
         ·rw [if_neg c17] at H;exact absurd H (by simp)
        ·rw [if_neg c16] at H;exact absurd H (by simp)
       ·rw [if_neg c15] at H;have tF : decide (gT < (aH.length : Int)) = false := decide_eq_false c15;clear c15;obtain rfl := Option.some.inj H;have YL := asc.out;have YM := ase.out;have tK : wr.cell? ⟨aqF, 0, none⟩ = some (.int .i64 aR) := (ae apy.out 0).trans rfl;have tL : wr.cell? ⟨aqF, 1, none⟩ = some (.slice bW aH.length bN) := (ae apy.out 1).trans rfl;have tN := ai apy.out 0;have tO := ai apy.out 1;go_wp2;go_ret;exact ⟨by first | rfl | (simp [aW, aX] <;> rfl) | (simp [*, aW, aX] <;> rfl), bO HB⟩
end Go.Proofs.Ytamimodkcbbpmaa.Pr
end
section
namespace Go.Proofs.Ytamimodkcbbpmaa.Pr
open Go.RowKit Go.Proofs.YtamimodkcbbpmaaW.PrintWords Go.Proofs.YtamimodkcbbpmaaW.PrintLast Go.Proofs.YtamimodkcbbpmaaXW
set_option linter.unusedVariables false
set_option linter.unusedSimpArgs false
def exR : List KH := [⟨4, 0, 1, 1, 2, 0⟩, ⟨2, 1, 0, 0, 0, 0⟩, ⟨1, 1, 0, 0, 5, 0⟩]
def exI : List Int := [4]
abbrev exV : List dK := [⟨10, 3⟩, ⟨4, 1⟩]
abbrev exK : List S64 := [⟨1, []⟩, ⟨1, []⟩]
theorem aBI : aqu.f = some (1, 2, 0, exR, exI) := by kernel_rfl
theorem aAu : apm.f 40 1 2 0 exR exI 0 = some (0, exK, 0) := by kernel_rfl
theorem aAv : apm.f 40 1 2 0 exR exI 2 = some (0, [], 2) := by kernel_rfl
theorem aBJ : an2.f 40 1 2 0 exR exI = some exV := by kernel_rfl
theorem aAw : vz.f 40 exV exV = some true := by kernel_rfl
theorem aAx : Ae.f 40 0 exK 0 exK = some true := by kernel_rfl
theorem av6 {w : World} {b : Nat} {x y : Int} (h : w.heap[b]? = some (.cells #[.int .i64 x, .slice none 0 0, .int .i64 y, .slice none 0 0] 64 (0, 0))) : Kd.C OG w (some ⟨b, 0, none⟩) 2 [⟨x, []⟩, ⟨y, []⟩] := by
  have hnil : Kd.C OG w none 0 [] := ⟨rfl, by decide, fun h => absurd h (by decide)⟩
  refine ⟨rfl, by decide, fun _ => ⟨_, rfl, fun j p hj => ?_⟩⟩
  match j, hj with
  | 0, hj =>
    obtain rfl : (⟨x, []⟩ : S64) = p := by simpa using hj
    refine ⟨[.int .i64 x, .slice none 0 0], rfl, Z7 w ⟨x, []⟩ (Nat.le_refl _) hnil, fun i u hi => ?_⟩
    match i, hi with
    | 0, hi => obtain rfl : Value.int .i64 x = u := by simpa using hi
               show w.cell? ⟨b, 0, none⟩ = _
               rw [ae h 0]; rfl
    | 1, hi => obtain rfl : Value.slice none 0 0 = u := by simpa using hi
               show w.cell? ⟨b, 1, none⟩ = _
               rw [ae h 1]; rfl
    | i + 2, hi => simp at hi
  | 1, hj =>
    obtain rfl : (⟨y, []⟩ : S64) = p := by simpa using hj
    refine ⟨[.int .i64 y, .slice none 0 0], rfl, Z7 w ⟨y, []⟩ (Nat.le_refl _) hnil, fun i u hi => ?_⟩
    match i, hi with
    | 0, hi => obtain rfl : Value.int .i64 y = u := by simpa using hi
               show w.cell? ⟨b, 2, none⟩ = _
               rw [ae h 2]; rfl
    | 1, hi => obtain rfl : Value.slice none 0 0 = u := by simpa using hi
               show w.cell? ⟨b, 3, none⟩ = _
               rw [ae h 3]; rfl
    | i + 2, hi => simp at hi
  | j + 2, hj => simp at hj
theorem axo {w : World} {b : Nat} {x y z u : Int} (h : w.heap[b]? = some (.cells #[.int .i64 x, .int .i64 y, .int .i64 z, .int .i64 u] 34 (0, 0))) : Kd.C xA w (some ⟨b, 0, none⟩) 2 [⟨x, y⟩, ⟨z, u⟩] := by
  refine ⟨rfl, by decide, fun _ => ⟨_, rfl, fun j p hj => ?_⟩⟩
  match j, hj with
  | 0, hj =>
    obtain rfl : (⟨x, y⟩ : dK) = p := by simpa using hj
    refine ⟨[.int .i64 x, .int .i64 y], rfl, SQ w ⟨x, y⟩, fun i v hi => ?_⟩
    match i, hi with
    | 0, hi => obtain rfl : Value.int .i64 x = v := by simpa using hi
               show w.cell? ⟨b, 0, none⟩ = _
               rw [ae h 0]; rfl
    | 1, hi => obtain rfl : Value.int .i64 y = v := by simpa using hi
               show w.cell? ⟨b, 1, none⟩ = _
               rw [ae h 1]; rfl
    | i + 2, hi => simp at hi
  | 1, hj =>
    obtain rfl : (⟨z, u⟩ : dK) = p := by simpa using hj
    refine ⟨[.int .i64 z, .int .i64 u], rfl, SQ w ⟨z, u⟩, fun i v hi => ?_⟩
    match i, hi with
    | 0, hi => obtain rfl : Value.int .i64 z = v := by simpa using hi
               show w.cell? ⟨b, 2, none⟩ = _
               rw [ae h 2]; rfl
    | 1, hi => obtain rfl : Value.int .i64 u = v := by simpa using hi
               show w.cell? ⟨b, 3, none⟩ = _
               rw [ae h 3]; rfl
    | i + 2, hi => simp at hi
  | j + 2, hj => simp at hj
set_option maxRecDepth 100000 in
set_option maxHeartbeats 8000000 in
theorem avE (w : World) : Calls Try.prog 47 #[] w fun e w' => e = .returned (.bool true) ∧ Below w.heap.size w w' := by
 have avx := Try.underlying58;have hu64 := Try.underlying64;have QT := Try.underlying34;go_enter Try.func47, Try.ntmps47
 go_upto_region 2 with (first | (go_at_call 86; refine (aqu.calls 1 2 0 exR exI w aBI).mono ?_; rintro x w1 ⟨v3, v4, rfl, hR, hI, hB⟩; obtain ⟨A, c, rfl, hc, hC⟩ := Kd.oK hR; obtain ⟨AI, ci, rfl, hci, hCI⟩ := Kd.oK hI; have HC := aa.mk hC; have HCI := aa.mk hCI; have HB := aa.mk hB; clear hR hI hB hC hCI))
 have hA := eX w1 (.cells #[.int .i64 1, .int .i64 2, .int .i64 0, .slice A exR.length c] 58);have HB2 := aa.mk (aM HB.out hA.1);have Uc := aa.mk (Kd.bF HC.out hA.1);have HI2 := aa.mk (Kd.bF HCI.out hA.1);have Y1 := aa.mk hA.2;obtain ⟨g1, e1⟩ : ∃ g, g = w1.heap.size := ⟨_, rfl⟩;rw [← e1] at Y1 ⊢;clear e1 hA HB HC HCI;generalize (w1.alloc (.cells #[.int .i64 1, .int .i64 2, .int .i64 0, .slice A exR.length c] 58)) = w2 at *;have c0 : w2.cell? ⟨g1, 0, none⟩ = some (.int .i64 1) := (ae Y1.out 0).trans rfl;have c1 : w2.cell? ⟨g1, 1, none⟩ = some (.int .i64 2) := (ae Y1.out 1).trans rfl;have c2 : w2.cell? ⟨g1, 2, none⟩ = some (.int .i64 0) := (ae Y1.out 2).trans rfl;have c3 : w2.cell? ⟨g1, 3, none⟩ = some (.slice A exR.length c) := (ae Y1.out 3).trans rfl;go_upto_region 3 with (first | (go_at_call 51; refine (apm.calls 40 1 2 0 A c exR AI ci exI 0 0 exK 0 w2 Uc.out hc HI2.out hci aAu).mono ?_; rintro x w3 ⟨v3, rfl, hR, hB⟩; obtain ⟨Ap, cp, rfl, hcp, hCp⟩ := Kd.oK hR; have HCp := aa.mk hCp; have HB3 := aa.mk hB; clear hR hB hCp))
 have hA := eX w3 (.cells #[.int .i64 0, .slice Ap exK.length cp] 64);have hst := aM HB3.out hA.1;have Ju := aa.mk (aM HB2.out hst);have IK := aa.mk (Kd.bF Uc.out hst);have HI4 := aa.mk (Kd.bF HI2.out hst);have HP4 := aa.mk (Kd.bF HCp.out hA.1);have H14 := aa.mk (aC Y1.out hst);have H34 := aa.mk hA.2;obtain ⟨g3, e3⟩ : ∃ g, g = w3.heap.size := ⟨_, rfl⟩;rw [← e3] at H34 ⊢;clear e3 hA hst HB2 Uc HI2 HCp Y1 HB3 c0 c1 c2 c3;generalize (w3.alloc (.cells #[.int .i64 0, .slice Ap exK.length cp] 64)) = w4 at *;have c0 : w4.cell? ⟨g1, 0, none⟩ = some (.int .i64 1) := (ae H14.out 0).trans rfl;have c1 : w4.cell? ⟨g1, 1, none⟩ = some (.int .i64 2) := (ae H14.out 1).trans rfl;have c2 : w4.cell? ⟨g1, 2, none⟩ = some (.int .i64 0) := (ae H14.out 2).trans rfl;have c3 : w4.cell? ⟨g1, 3, none⟩ = some (.slice A exR.length c) := (ae H14.out 3).trans rfl;go_upto_region 4 with (first | (go_at_call 51; refine (apm.calls 40 1 2 0 A c exR AI ci exI 2 0 [] 2 w4 IK.out hc HI4.out hci aAv).mono ?_; rintro x w5 ⟨v3, rfl, hR, hB⟩; obtain ⟨Aq, cq, rfl, hcq, hCq⟩ := Kd.oK hR; have vY := aa.mk hB; clear hR hB hCq))
 have hA := eX w5 (.cells #[.int .i64 0, .slice Aq ([] : List S64).length cq] 64);have hst := aM vY.out hA.1;have Gp := aa.mk (aM Ju.out hst);have VT := aa.mk (Kd.bF IK.out hst);have HI6 := aa.mk (Kd.bF HI4.out hst);have HP6 := aa.mk (Kd.bF HP4.out hst);have H16 := aa.mk (aC H14.out hst);have H36 := aa.mk (aC H34.out hst);clear hA hst Ju IK HI4 HP4 H14 H34 vY c0 c1 c2 c3;simp only [List.length_nil] at *;generalize (w5.alloc (.cells #[.int .i64 0, .slice Aq 0 cq] 64)) = w6 at *;have Gy : aa (∀ w', Below w6.heap.size w6 w' → w'.cell? ⟨g1, 0, none⟩ = some (.int .i64 1) ∧ w'.cell? ⟨g1, 1, none⟩ = some (.int .i64 2) ∧ w'.cell? ⟨g1, 2, none⟩ = some (.int .i64 0) ∧ w'.cell? ⟨g1, 3, none⟩ = some (.slice A exR.length c) ∧ w'.cell? ⟨g3, 0, none⟩ = some (.int .i64 0) ∧ w'.cell? ⟨g3, 1, none⟩ = some (.slice Ap exK.length cp)) := ⟨fun w' h => ⟨(ae (aC H16.out h) 0).trans rfl, (ae (aC H16.out h) 1).trans rfl, (ae (aC H16.out h) 2).trans rfl, (ae (aC H16.out h) 3).trans rfl, (ae (aC H36.out h) 0).trans rfl, (ae (aC H36.out h) 1).trans rfl⟩⟩;obtain ⟨c0, c1, c2, c3, c4, c5⟩ := Gy.out w6 (Below.refl _ _);go_wp2_with (first | (go_at_call 49; refine (an2.calls 40 1 2 0 A c exR AI ci exI exV w6 VT.out hc HI6.out hci aBJ).mono ?_; rintro x w7 ⟨v7, rfl, hR, hB⟩; obtain ⟨Av, cv, rfl, hcv, hCv⟩ := Kd.oK hR; have UW := aa.mk hCv; have Co := aa.mk hB; clear hR hB hCv c0 c1 c2 c3 c4 c5; obtain ⟨c0, c1, c2, c3, c4, c5⟩ := Gy.out w7 Co.out) | (go_at_call 48; have hA := eX w7 (.cells #[.int .i64 10, .int .i64 3, .int .i64 4, .int .i64 1] 34); refine (vz.calls 40 Av cv exV (some ⟨w7.heap.size, 0, none⟩) 2 exV true (w7.alloc (.cells #[.int .i64 10, .int .i64 3, .int .i64 4, .int .i64 1] 34)) (Kd.bF UW.out hA.1) hcv (axo hA.2) (Nat.le_refl _) aAw).mono ?_; rintro x w8 ⟨rfl, hD⟩; have hB := hD.below; have hb := aM Co.out (aM hA.1 hB); have HB8 := aa.mk hb; clear hA hB hD hb c0 c1 c2 c3 c4 c5; obtain ⟨c0, c1, c2, c3, c4, c5⟩ := Gy.out w8 HB8.out) | (go_at_call 53; have hA := eX w8 (.cells #[.int .i64 1, .slice none 0 0, .int .i64 1, .slice none 0 0] 64); refine (Ae.calls 40 0 Ap cp exK 0 (some ⟨w8.heap.size, 0, none⟩) 2 exK true (w8.alloc (.cells #[.int .i64 1, .slice none 0 0, .int .i64 1, .slice none 0 0] 64)) (Kd.bF (Kd.bF HP6.out HB8.out) hA.1) hcp (av6 hA.2) (Nat.le_refl _) aAx).mono ?_; rintro x w9 ⟨rfl, hB⟩; have hb := aM HB8.out (aM hA.1 hB); have HB9 := aa.mk hb; clear hA hB hb c0 c1 c2 c3 c4 c5))
 go_ret;exact ⟨rfl, aM Gp.out HB9.out⟩
def apq.f : Option Bool := some true
theorem apq.calls (r : Bool) (w : World) (h : apq.f = some r) : Calls Try.prog 47 #[] w fun e w' => e = .returned (.bool r) ∧ Below w.heap.size w w' := by
 injection h with h
 subst h;exact avE w
end Go.Proofs.Ytamimodkcbbpmaa.Pr
end
section
namespace Go.Proofs.Ytamimodkcbbpmaa.Pr
open Go.RowKit Go.Proofs.YtamimodkcbbpmaaW.PrintWords Go.Proofs.YtamimodkcbbpmaaW.PrintLast Go.Proofs.YtamimodkcbbpmaaW.PrintMore Go.Proofs.YtamimodkcbbpmaaXW
attribute [local go_sem] kv ky lX lY jf jg kz kC
set_option linter.unusedVariables false
set_option linter.unusedSimpArgs false
def x8.j0 : Nat → List Int → Int → Int → Int → List (KH) → Option (Bool)
 | 0, _, _, _, _, _ => none
 | k + 1, x1, ayk, ayl, aym, ayn => (apq.f).bind fun aAy => (if aAy = true then ((an2.f k ayk ayl aym ayn x1).bind fun avs => ((H5.f k ayk ayl aym ayn x1).bind fun auQ => ((vz.f k avs auQ).bind fun auR => (some auR)))) else (some false))
def x8.f (k : Nat) (aR : Int) (iR : Int) (vX : Int) (bf : List (KH)) (l1 : List Int) : Option (Bool) := (aqb.f aR iR vX bf l1).bind fun axp => (if axp = true then (x8.j0 k l1 aR iR vX bf) else ((apq.f).bind fun avF => (some avF)))
theorem x8.apw : ∀ k, (∀ y0 y1 y2 y3 y4, dz (x8.j0 k y0 y1 y2 y3 y4) (x8.j0 (k + 1) y0 y1 y2 y3 y4))
 | 0 => fun _ _ _ _ _ r h => by simp [x8.j0] at h
 | k + 1 => by
  have jP := x8.apw k
  ·intro y0 y1 y2 y3 y4;unfold x8.j0;repeat' first
   | (with_reducible exact jP _ _ _ _ _)
   | (with_reducible exact vz.mono _ _ _)
   | (with_reducible exact H5.mono _ _ _ _ _ _)
   | (with_reducible exact an2.mono _ _ _ _ _ _)
   | (with_reducible exact dz.refl _)
   | (with_reducible exact dz.none _)
   | (with_reducible refine dz.ite ?_ ?_)
   | (with_reducible refine dz.bind ?_ (fun _ => ?_))
   | exact jP _ _ _ _ _
   | exact vz.mono _ _ _
   | exact H5.mono _ _ _ _ _ _
   | exact an2.mono _ _ _ _ _ _
   | exact dz.none _
   | refine dz.ite ?_ ?_
   | refine dz.bind ?_ (fun _ => ?_)
theorem x8.mono : ∀ a0 a1 a2 a3 a4 k, dz (x8.f k a0 a1 a2 a3 a4) (x8.f (k + 1) a0 a1 a2 a3 a4) := by
 intro a0 a1 a2 a3 a4 k;have jP := x8.apw k;unfold x8.f;repeat' first
   | (with_reducible exact jP _ _ _ _ _)
   | (with_reducible exact vz.mono _ _ _)
   | (with_reducible exact H5.mono _ _ _ _ _ _)
   | (with_reducible exact an2.mono _ _ _ _ _ _)
   | (with_reducible exact dz.refl _)
   | (with_reducible exact dz.none _)
   | (with_reducible refine dz.ite ?_ ?_)
   | (with_reducible refine dz.bind ?_ (fun _ => ?_))
   | exact jP _ _ _ _ _
   | exact vz.mono _ _ _
   | exact H5.mono _ _ _ _ _ _
   | exact an2.mono _ _ _ _ _ _
   | exact dz.none _
   | refine dz.ite ?_ ?_
   | refine dz.bind ?_ (fun _ => ?_)
def x8.T3 : Bool × List (List Nat × List Nat) := (true, [([], []), ([0, 0], [0]), ([1], [1]), ([1], [1]), ([2, 3, 1, 1], [1, 2, 3]), ([1], [1]), ([1], [1]), ([5, 6, 4, 1], [1, 5, 6]), ([4, 7, 7, 1], [1, 4, 7]), ([1, 8], [1, 8]), ([9, 8, 0, 1, 2, 3, 4, 5, 6, 7, 8, 9], [9])])
def x8.B3 : List Nat := [0, 1, 3, 3, 15, 3, 3, 127, 255, 511, 1023]
theorem x8.aal : iC .any (opsOf Try.f12 3) = x8.T3 := by kernel_rfl
theorem x8.Tz : fo x8.T3.2 x8.B3 = true := by kernel_rfl
set_option maxHeartbeats 8000000 in
set_option maxRecDepth 100000 in
theorem x8.calls (k : Nat) (aR : Int) (iR : Int) (vX : Int) (aps : Option Addr) (ao4 : Nat) (bf : List (KH)) (A1 : Option Addr) (c1 : Nat) (l1 : List Int) (r : Bool) (w : World) (aqy : Kd.C Md w aps bf.length bf) (aqz : bf.length ≤ ao4) (hr1 : Kd.C (Kd.int .i64) w A1 l1.length l1) (hc1 : l1.length ≤ c1) (h : x8.f k aR iR vX bf l1 = some r) :
  Calls Try.prog 12 #[.agg #[.int .i64 aR, .int .i64 iR, .int .i64 vX, .slice aps bf.length ao4], .slice A1 l1.length c1] w fun e w' => e = .returned (.bool r) ∧ Below w.heap.size w w' := by
 have avx := Try.underlying58;have aqx := aa.mk aqy;have aqH := aa.mk aqz;clear aqy aqz;have HR1 := aa.mk hr1;have EY := aa.mk hc1;clear hr1 hc1;have HB := aa.mk (Below.refl w.heap.size w);have H : ((aqb.f aR iR vX bf l1).bind fun axp => (if axp = true then (x8.j0 k l1 aR iR vX bf) else ((apq.f).bind fun avF => (some avF)))) = some r := h;clear h;replace H := Option.bind_eq_some_iff.mp H;obtain ⟨axp, U0, H⟩ := H;replace H : (if axp = true then (x8.j0 k l1 aR iR vX bf) else ((apq.f).bind fun avF => (some avF))) = some r := H;have A3 := aa.mk U0;clear U0;have IK := aa.mk H;clear H;go_enter Try.func12, Try.ntmps12
 go_upto_if 8 with (first | ((with_reducible refine bM (N := 2) rfl ?_); refine bG ?hg (N := 2) ?hd (cs := #[.int .i64 aR, .int .i64 iR, .int .i64 vX, .slice aps bf.length ao4]) (t := 58) ?hr ?_; (case hd => rfl); (case hg => rfl); (case hr => first | (go_simp; done) | (go_simp; rfl)); intro atN hg w5 bR hb; have bP := aa.mk (aM (bO HB) hb); have bQ := aa.mk (bR); have bT := aa.mk ((by rw [hg]; exact (aK (bO HB)) : w.heap.size ≤ atN)); have di := aa.mk ((by rw [hg]; exact (aK (bO HB)) : w.heap.size ≤ atN)); clear HB; have HB := bP; have apv := bQ; have aOT := bT; have aOU := di; clear bP bQ bT di; clear hb bR hg; have qa : w5.cell? ⟨atN, 0, none⟩ = some (.int .i64 aR) := (ae apv.out 0).trans rfl; have qb : w5.cell? ⟨atN, 1, none⟩ = some (.int .i64 iR) := (ae apv.out 1).trans rfl; have ave : w5.cell? ⟨atN, 2, none⟩ = some (.int .i64 vX) := (ae apv.out 2).trans rfl; have avf : w5.cell? ⟨atN, 3, none⟩ = some (.slice aps bf.length ao4) := (ae apv.out 3).trans rfl; have qc := ai apv.out 0; have qd := ai apv.out 1; have avg := ai apv.out 2; have avh := ai apv.out 3) | ((with_reducible refine dE (f := 46) rfl ?_); refine iB (some 7) rfl rfl Try.func46 (by kernel_rfl) rfl #[.agg #[.int .i64 aR, .int .i64 iR, .int .i64 vX, .slice aps bf.length ao4], .slice A1 l1.length c1] rfl (by (try simp only [List.map_toArray, List.map_cons, List.map_nil]); first | done | rfl | (simp only [List.length_drop, List.length_take]; rfl)) ?_; (with_reducible refine (aqb.calls aR iR vX _ _ bf _ _ l1 axp _ ?side1 ?side2 ?side3 ?side4 A3.out).mono ?_); (case side1 => repeat (first | exact (Kd.bF aqx.out HB.out) | (with_reducible refine Kd.dF ?_ _) | (with_reducible refine Kd.dG ?_ _) | (with_reducible refine Kd.eG ?_))); (case side2 => exact aqH.out); (case side3 => repeat (first | exact (Kd.bF HR1.out HB.out) | (with_reducible refine Kd.dF ?_ _) | (with_reducible refine Kd.dG ?_ _) | (with_reducible refine Kd.eG ?_))); (case side4 => exact EY.out); rintro e w7 ⟨rfl, hb⟩; refine ⟨_, rfl, ?_⟩; have bP := aa.mk (aC (bk apv) hb); have bQ := aa.mk (aM (bO HB) hb); clear apv; clear HB; have apv := bP; have HB := bQ; clear bP bQ; (try clear hb); (try clear hb2); (try clear hk); (try clear hi)))
 (try simp only [Act.put, List.setIfInBounds_toArray, List.set_cons_zero, List.set_cons_succ]);go_cut [] (fun wc => ∃ (kq : Nat), aa (x8.j0 kq l1 aR iR vX bf = some r) ∧ aa (kq ≤ k) ∧ aa (wc.heap[atN]? = some (.cells #[.int .i64 aR, .int .i64 iR, .int .i64 vX, (.slice aps bf.length ao4)] 58 (0, 0))) ∧ aa (Below w.heap.size w wc))
 case first =>
  have H := IK.out;clear IK;by_cases c8 : axp = true
  ·subst c8;have H1 : (x8.j0 k l1 aR iR vX bf) = some r := by rw [if_pos rfl] at H; exact H
   clear H;have H := H1;clear H1;have H' := aa.mk H;clear H;go_wp2;go_meet
   case rel => exact ⟨_, H', ⟨by first | omega | exact Nat.le_refl _⟩, ⟨by (with_reducible repeat (first | refine ax ?_ _ | refine az ?_ | refine au ?_ _)); exact apv.out⟩, ⟨bO HB⟩⟩
  ·replace c8 := Bool.eq_false_iff.mpr c8;subst c8;have H1 : ((apq.f).bind fun avF => (some avF)) = some r := by rw [if_neg (show ¬ (false = true) by decide)] at H; exact H
   clear H;have H := H1;clear H1;replace H := Option.bind_eq_some_iff.mp H;obtain ⟨avF, A90, H⟩ := H;replace H : (some avF) = some r := H;have A9 := aa.mk A90;clear A90;obtain rfl := Option.some.inj H;go_wp2_with (first | ((with_reducible refine dE (f := 47) rfl ?_); refine iB (some 9) rfl rfl Try.func47 (by kernel_rfl) rfl #[] rfl (by (try simp only [List.map_toArray, List.map_cons, List.map_nil]); first | done | rfl | (simp only [List.length_drop, List.length_take]; rfl)) ?_; (with_reducible refine (apq.calls  avF _ A9.out).mono ?_); rintro e Io ⟨rfl, hb⟩; refine ⟨_, rfl, ?_⟩; have bP := aa.mk (aC (bk apv) hb); have bQ := aa.mk (aM (bO HB) hb); clear apv; clear HB; have apv := bP; have HB := bQ; clear bP bQ; (try clear hb); (try clear hb2); (try clear hk); (try clear hi)))
   go_ret;exact ⟨by first | rfl | (simp [aW, aX] <;> rfl) | (simp [*, aW, aX] <;> rfl), bO HB⟩
 case rest =>
  clear IK;(try clear c1); (try clear p2); (try clear c4); (try clear c8); (try clear qa); (try clear qb); (try clear ave); (try clear avf); (try clear qc); (try clear qd); (try clear avg); (try clear avh);obtain ⟨kq, HA, Gq, apv, HB⟩ := hcut
  cases kq with
  | zero => exact absurd HA.out (by simp [x8.j0])
  | succ kj3 =>
   have H := HA.out;clear HA;simp only [x8.j0] at H;replace H := Option.bind_eq_some_iff.mp H;obtain ⟨aAy, aeT, H⟩ := H;replace H : (if aAy = true then ((an2.f kj3 aR iR vX bf l1).bind fun avs => ((H5.f kj3 aR iR vX bf l1).bind fun auQ => ((vz.f kj3 avs auQ).bind fun auR => (some auR)))) else (some false)) = some r := H;have A11 := aa.mk aeT;clear aeT;by_cases c12 : aAy = true
   ·subst c12;have H1 : ((an2.f kj3 aR iR vX bf l1).bind fun avs => ((H5.f kj3 aR iR vX bf l1).bind fun auQ => ((vz.f kj3 avs auQ).bind fun auR => (some auR)))) = some r := by rw [if_pos rfl] at H; exact H
    clear H;have H := H1;clear H1;replace H := Option.bind_eq_some_iff.mp H;obtain ⟨avs, afh, H⟩ := H;replace H : ((H5.f kj3 aR iR vX bf l1).bind fun auQ => ((vz.f kj3 avs auQ).bind fun auR => (some auR))) = some r := H;have A13 := aa.mk afh;clear afh;replace H := Option.bind_eq_some_iff.mp H;obtain ⟨auQ, ad4, H⟩ := H;replace H : ((vz.f kj3 avs auQ).bind fun auR => (some auR)) = some r := H;have A14 := aa.mk ad4;clear ad4;replace H := Option.bind_eq_some_iff.mp H;obtain ⟨auR, afi, H⟩ := H;replace H : (some auR) = some r := H;have A15 := aa.mk afi;clear afi;obtain rfl := Option.some.inj H;try go_wp2
    have bP := aa.mk (az apv.out);have bQ := aa.mk (fK HB.out);clear apv HB;have apv := bP;have HB := bQ;clear bP bQ;refine fu (n := 11) (S := fun w' => w'.cell? ⟨atN, 0, none⟩ = some (.int .i64 aR) ∧ w'.cell? ⟨atN, 1, none⟩ = some (.int .i64 iR) ∧ w'.cell? ⟨atN, 2, none⟩ = some (.int .i64 vX) ∧ w'.cell? ⟨atN, 3, none⟩ = some (.slice aps bf.length ao4)) (ds := []) #[false, false, false, false, false, false, false, false, false, false, false] (by kernel_rfl) rfl rfl ⟨(ae apv.out 0).trans rfl, (ae apv.out 1).trans rfl, (ae apv.out 2).trans rfl, (ae apv.out 3).trans rfl⟩ (fun hHeld => ?_); refine dw x8.aal x8.Tz (fun dA ji => ?_);generalize wc.drew = w16 at apv HB hHeld ⊢;refine fT (i := 0) (N := some 10) #[true, false, false, false, false, false, false, false, false, false, false] rfl rfl (dn dA.out (by kernel_rfl)) (by decide) (fun K hK => ?_);refine uC Try.func47 (by kernel_rfl) rfl #[] (by rfl) rfl rfl (by (try simp only [List.map_toArray, List.map_cons, List.map_nil]); first | done | rfl | (simp only [List.length_drop, List.length_take]; rfl)) ?_;with_reducible refine (apq.calls  true _ A11.out).mono ?_
    rintro e w17 ⟨rfl, hb⟩;refine ⟨_, rfl, ?_⟩;have bP := aa.mk (aC (bk apv) hb);have bQ := aa.mk (aM (bO HB) hb);clear apv HB;have apv := bP;have HB := bQ;clear bP bQ;(try clear hb);(try clear hb2);(try clear hk);(try clear hi);refine hK.out _ _ ⟨(ae apv.out 0).trans rfl, (ae apv.out 1).trans rfl, (ae apv.out 2).trans rfl, (ae apv.out 3).trans rfl⟩ (fun hHeld => ?_);clear hK K;refine bS (a' := ?_) ?_ ?_;rotate_left
    ·show Act.put _ (some 10) _ = _;simp only [Act.put, List.setIfInBounds_toArray, List.set_cons_zero, List.set_cons_succ, bH, bI];rfl
    refine fG (fuel := 5) [(1, 11), (3, 13), (6, 16), (2, 12), (5, 15)] #[true, true, true, true, false, true, true, false, false, false, false] (df dA.out ji.out _ _ _ (by kernel_rfl)) rfl (fun _ _ _ _ _ h => h) hHeld (a' := ?_) ?_ ?_;rotate_left
    ·iterate 5
      refine bC (v := ?_) (a1 := ?_) rfl rfl (Or.inl ⟨by rfl, ?_⟩) ?_ ?_;rotate_left 2
      ·rintro w' ⟨s0, s1, s2, s3⟩;go_simp;with_reducible rfl
      ·simp only [Act.put, List.setIfInBounds_toArray, List.set_cons_zero, List.set_cons_succ, bH, bI];rfl
     exact chain_nil
    refine fT (i := 4) (N := some 14) #[true, true, true, true, true, true, true, false, false, false, false] rfl rfl (dn dA.out (by kernel_rfl)) (by decide) (fun K hK => ?_);refine uC Try.func49 (by kernel_rfl) rfl #[.agg #[.int .i64 aR, .int .i64 iR, .int .i64 vX, .slice aps bf.length ao4], .slice A1 l1.length c1] (by rfl) rfl rfl (by (try simp only [List.map_toArray, List.map_cons, List.map_nil]); first | done | rfl | (simp only [List.length_drop, List.length_take]; rfl)) ?_;with_reducible refine (an2.calls kj3 aR iR vX _ _ bf _ _ l1 avs _ ?side1 ?side2 ?side3 ?side4 A13.out).mono ?_
    (case side1 => repeat (first | exact (Kd.bF aqx.out HB.out) | (with_reducible refine Kd.dF ?_ _) | (with_reducible refine Kd.dG ?_ _) | (with_reducible refine Kd.eG ?_)));(case side2 => exact aqH.out);(case side3 => repeat (first | exact (Kd.bF HR1.out HB.out) | (with_reducible refine Kd.dF ?_ _) | (with_reducible refine Kd.dG ?_ _) | (with_reducible refine Kd.eG ?_)));(case side4 => exact EY.out);rintro e w18 ⟨aQ8, rfl, ho0, hb⟩;refine ⟨_, rfl, ?_⟩;have bP := aa.mk (Kd.iL ho0 (aK (bO HB)));have bQ := aa.mk (aC (bk apv) hb);have bT := aa.mk (aM (bO HB) hb);clear apv HB;have avt := bP;have apv := bQ;have HB := bT;clear bP bQ bT;(try clear hb);(try clear hb2);(try clear hk);(try clear hi);(try clear ho0);refine hK.out _ _ ⟨(ae apv.out 0).trans rfl, (ae apv.out 1).trans rfl, (ae apv.out 2).trans rfl, (ae apv.out 3).trans rfl⟩ (fun hHeld => ?_);clear hK K;refine bS (a' := ?_) ?_ ?_;rotate_left
    ·show Act.put _ (some 14) _ = _;simp only [Act.put, List.setIfInBounds_toArray, List.set_cons_zero, List.set_cons_succ, bH, bI];rfl
    refine fT (i := 7) (N := some 17) #[true, true, true, true, true, true, true, true, false, false, false] rfl rfl (dn dA.out (by kernel_rfl)) (by decide) (fun K hK => ?_);refine uC Try.func50 (by kernel_rfl) rfl #[.agg #[.int .i64 aR, .int .i64 iR, .int .i64 vX, .slice aps bf.length ao4], .slice A1 l1.length c1] (by rfl) rfl rfl (by (try simp only [List.map_toArray, List.map_cons, List.map_nil]); first | done | rfl | (simp only [List.length_drop, List.length_take]; rfl)) ?_;with_reducible refine (H5.calls kj3 aR iR vX _ _ bf _ _ l1 auQ _ ?side1 ?side2 ?side3 ?side4 A14.out).mono ?_
    (case side1 => repeat (first | exact (Kd.bF aqx.out HB.out) | (with_reducible refine Kd.dF ?_ _) | (with_reducible refine Kd.dG ?_ _) | (with_reducible refine Kd.eG ?_)));(case side2 => exact aqH.out);(case side3 => repeat (first | exact (Kd.bF HR1.out HB.out) | (with_reducible refine Kd.dF ?_ _) | (with_reducible refine Kd.dG ?_ _) | (with_reducible refine Kd.eG ?_)));(case side4 => exact EY.out);rintro e w19 ⟨aQ9, rfl, ho0, hb⟩;refine ⟨_, rfl, ?_⟩;have bP := aa.mk (Kd.zX (by (with_reducible repeat (first | apply Kd.ek | apply Kd.eu | apply Kd.aaH)); exact avt.out) (Kd.FI ho0) hb);have bQ := aa.mk (Kd.iL (Kd.I8 ho0 (Kd.xK (by (with_reducible repeat (first | apply Kd.ek | apply Kd.eu | apply Kd.aaH)); exact avt.out))) (aK (bO HB)));have bT := aa.mk (aC (bk apv) hb);have di := aa.mk (aM (bO HB) hb);clear avt apv HB;have avt := bP;have aza := bQ;have apv := bT;have HB := di;clear bP bQ bT di;(try clear hb);(try clear hb2);(try clear hk);(try clear hi);(try clear ho0);obtain ⟨abX, abK, aoB⟩ := Kd.fQ avt.out
    (first | subst aoB | (injection aoB with Ux f2_ Uy; have f4_ := Ux.symm; have f5_ := Uy.symm; clear Ux f2_ Uy; subst f4_; subst f5_))
    obtain ⟨azM, azN, ayT⟩ := Kd.fQ aza.out
    (first | subst ayT | (injection ayT with Ux f2_ Uy; have f4_ := Ux.symm; have f5_ := Uy.symm; clear Ux f2_ Uy; subst f4_; subst f5_))
    refine hK.out _ _ ⟨(ae apv.out 0).trans rfl, (ae apv.out 1).trans rfl, (ae apv.out 2).trans rfl, (ae apv.out 3).trans rfl⟩ (fun hHeld => ?_);clear hK K;refine bS (a' := ?_) ?_ ?_;rotate_left
    ·show Act.put _ (some 17) _ = _;simp only [Act.put, List.setIfInBounds_toArray, List.set_cons_zero, List.set_cons_succ, bH, bI];rfl
    refine fT (i := 8) (N := some 18) #[true, true, true, true, true, true, true, true, true, false, false] rfl rfl (dn dA.out (by kernel_rfl)) (by decide) (fun K hK => ?_);refine uC Try.func48 (by kernel_rfl) rfl #[.slice abX avs.length abK, .slice azM auQ.length azN] (by rfl) rfl rfl (by (try simp only [List.map_toArray, List.map_cons, List.map_nil]); first | done | rfl | (simp only [List.length_drop, List.length_take]; rfl)) ?_;with_reducible refine (vz.calls kj3 _ _ avs _ _ auQ auR _ ?side1 ?side2 ?side3 ?side4 A15.out).mono ?_
    (case side1 => repeat (first | exact (Kd.dD avt.out).2.2 | (with_reducible refine Kd.dF ?_ _) | (with_reducible refine Kd.dG ?_ _) | (with_reducible refine Kd.eG ?_)));(case side2 => exact (Kd.dD avt.out).2.1);(case side3 => repeat (first | exact (Kd.dD aza.out).2.2 | (with_reducible refine Kd.dF ?_ _) | (with_reducible refine Kd.dG ?_ _) | (with_reducible refine Kd.eG ?_)));(case side4 => exact (Kd.dD aza.out).2.1);rintro e w' ⟨rfl, ⟨nd, rfl⟩⟩;refine ⟨_, rfl, ?_⟩;refine hK.out _ _ ⟨(ae apv.out 0).trans rfl, (ae apv.out 1).trans rfl, (ae apv.out 2).trans rfl, (ae apv.out 3).trans rfl⟩ (fun hHeld => ?_);clear hK K;refine bS (a' := ?_) ?_ ?_;rotate_left
    ·show Act.put _ (some 18) _ = _;simp only [Act.put, List.setIfInBounds_toArray, List.set_cons_zero, List.set_cons_succ, bH, bI];rfl
    refine fG (fuel := 0) [(9, 19), (10, 4)] #[true, true, true, true, true, true, true, true, true, true, true] (df dA.out ji.out _ _ _ (by kernel_rfl)) rfl (fun _ _ _ _ _ h => h) hHeld (a' := ?_) ?_ ?_;rotate_left
    ·iterate 2
      refine bC (v := ?_) (a1 := ?_) rfl rfl (Or.inl ⟨by rfl, ?_⟩) ?_ ?_;rotate_left 2
      ·rintro w' ⟨s0, s1, s2, s3⟩;go_simp;with_reducible rfl
      ·simp only [Act.put, List.setIfInBounds_toArray, List.set_cons_zero, List.set_cons_succ, bH, bI];rfl
     exact chain_nil
    refine gH (dV dA.out (by kernel_rfl)) ?_;try go_wp2
    go_ret;exact ⟨by first | rfl | (simp [aW, aX] <;> rfl) | (simp [*, aW, aX] <;> rfl), bO HB⟩
   ·replace c12 := Bool.eq_false_iff.mpr c12;subst c12;have H1 : (some false) = some r := by rw [if_neg (show ¬ (false = true) by decide)] at H; exact H
    clear H;have H := H1;clear H1;obtain rfl := Option.some.inj H;try go_wp2
    have bP := aa.mk (az apv.out);have bQ := aa.mk (fK HB.out);clear apv HB;have apv := bP;have HB := bQ;clear bP bQ;refine fu (n := 11) (S := fun w' => True) (ds := []) #[false, false, false, false, false, false, false, false, false, false, false] (by kernel_rfl) rfl rfl trivial (fun hHeld => ?_); refine dw x8.aal x8.Tz (fun dA ji => ?_);generalize wc.drew = w22 at apv HB hHeld ⊢;refine fT (i := 0) (N := some 10) #[true, false, false, false, false, false, false, false, false, false, false] rfl rfl (dn dA.out (by kernel_rfl)) (by decide) (fun K hK => ?_);refine uC Try.func47 (by kernel_rfl) rfl #[] (by rfl) rfl rfl (by (try simp only [List.map_toArray, List.map_cons, List.map_nil]); first | done | rfl | (simp only [List.length_drop, List.length_take]; rfl)) ?_;with_reducible refine (apq.calls  false _ A11.out).mono ?_
    rintro e YJ ⟨rfl, hb⟩;refine ⟨_, rfl, ?_⟩;have bP := aa.mk (aC (bk apv) hb);have bQ := aa.mk (aM (bO HB) hb);clear apv HB;have apv := bP;have HB := bQ;clear bP bQ;(try clear hb);(try clear hb2);(try clear hk);(try clear hi);refine hK.out _ _ trivial (fun hHeld => ?_);clear hK K;refine bS (a' := ?_) ?_ ?_;rotate_left
    ·show Act.put _ (some 10) _ = _;simp only [Act.put, List.setIfInBounds_toArray, List.set_cons_zero, List.set_cons_succ, bH, bI];rfl
    refine fG (fuel := 0) [(1, 11), (2, 12), (3, 13), (4, 14), (5, 15), (6, 16), (7, 17), (8, 18), (9, 19), (10, 4)] #[true, true, true, true, true, true, true, true, true, true, true] (df dA.out ji.out _ _ _ (by kernel_rfl)) rfl (fun _ _ _ _ _ h => h) hHeld (a' := ?_) ?_ ?_;rotate_left
    ·iterate 1
      refine bC (v := ?_) (a1 := ?_) rfl rfl (Or.inl ⟨by rfl, ?_⟩) ?_ ?_;rotate_left 2
      ·intro w' _;go_simp;with_reducible rfl
      ·simp only [Act.put, List.setIfInBounds_toArray, List.set_cons_zero, List.set_cons_succ, bH, bI];rfl
     iterate 7
      refine jQ (a1 := ?_) rfl rfl (by rfl) ?_ ?_;rotate_left
      ·simp only [Act.put, List.setIfInBounds_toArray, List.set_cons_zero, List.set_cons_succ];rfl
     iterate 2
      refine bC (v := ?_) (a1 := ?_) rfl rfl (Or.inl ⟨by rfl, ?_⟩) ?_ ?_;rotate_left 2
      ·intro w' _;go_simp;with_reducible rfl
      ·simp only [Act.put, List.setIfInBounds_toArray, List.set_cons_zero, List.set_cons_succ, bH, bI];rfl
     exact chain_nil
    refine gH (dV dA.out (by kernel_rfl)) ?_;try go_wp2
    go_ret;exact ⟨by first | rfl | (simp [aW, aX] <;> rfl) | (simp [*, aW, aX] <;> rfl), bO HB⟩
end Go.Proofs.Ytamimodkcbbpmaa.Pr
end
section
namespace Go.Proofs.Ytamimodkcbbpmaa.Pr
open Go.RowKit Go.Proofs.YtamimodkcbbpmaaW.PrintWords Go.Proofs.YtamimodkcbbpmaaW.PrintLast
set_option linter.unusedVariables false
set_option linter.unusedSimpArgs false
theorem avu : Ev (fun _ => apq.f) true := Ev.const true
theorem aAz (T N S : Int) (rs : List KH) (ins : List Int) : ∃ b, aqb.f T N S rs ins = some b ∧ (b = true → rs.length ≤ 60 ∧ N ≤ 60 ∧ ins.length ≤ 30) := by
 unfold aqb.f;by_cases h1 : (rs.length : Int) ≤ 60
 ·by_cases h2 : N ≤ 60
  ·exact ⟨_, by rw [if_pos h1, if_pos h2], fun h => ⟨by omega, h2, by have := of_decide_eq_true h; omega⟩⟩
  ·exact ⟨false, by rw [if_pos h1, if_neg h2], fun h => (by cases h)⟩
 ·exact ⟨false, by rw [if_neg h1], fun h => (by cases h)⟩
theorem awX (T N S : Int) (rs : List KH) (ins : List Int) : Ev (fun k => x8.f k T N S rs ins) true := by
 obtain ⟨b, hb, hs⟩ := aAz T N S rs ins
 cases b with
 | false => exact (Ev.bind (G := fun k aMd => some aMd) avu (Ev.const true)).mp (fun k => by rw [x8.f, hb]; rfl)
 | true =>
  obtain ⟨h1, h2, h3⟩ := hs rfl;have hi : ins.length ≤ 9223372036854775807 := by omega
  have e1 := ayy (T := T) (S := S) (ins := ins) hi h1 h2;have e2 := axi (T := T) (S := S) (ins := ins) hi h1 h2;have e3 := aAr (ar0 T N S rs ins) (by have := awz (T := T) (S := S) (ins := ins) h1 h2; omega);have e4 : Ev (fun k => x8.j0 k ins T N S rs) true := by
   refine (Ev.bind (G := fun k aMe => if aMe = true then ((an2.f k T N S rs ins).bind fun aBK => ((H5.f k T N S rs ins).bind fun azb => ((vz.f k aBK azb).bind fun axq => (some axq)))) else (some false)) avu (Ev.mp (Ev.bind (G := fun k aBK => (H5.f k T N S rs ins).bind fun azb => ((vz.f k aBK azb).bind fun axq => (some axq))) e1 (Ev.bind (G := fun k azb => (vz.f k (ar0 T N S rs ins) azb).bind fun axq => (some axq)) e2 (Ev.bind (G := fun k axq => some axq) e3 (Ev.const true)))) (fun k => if_pos rfl))).succ (fun k => ?_);rw [x8.j0]
  exact e4.mp (fun k => by rw [x8.f, hb]; rfl)
theorem av7 (T N S : Int) (A : Option Addr) (c : Nat) (rs : List KH) (AI : Option Addr) (ci : Nat) (ins : List Int) (w : World) (h0 : aCh w A c rs) (h1 : aCi w AI ci ins) :
  Calls Try.prog 12 #[.agg #[.int .i64 T, .int .i64 N, .int .i64 S, .slice A rs.length c], .slice AI ins.length ci] w fun e w' => e = .returned (.bool true) ∧ Below w.heap.size w w' := by
 obtain ⟨K, hK⟩ := (awX T N S rs ins).ex;exact x8.calls K T N S A c rs AI ci ins true w h0.C h0.c h1.C h1.c hK
end Go.Proofs.Ytamimodkcbbpmaa.Pr
end
