/- XAwake F6 PF QD: a part of the proof of the row of a; no conditions. -/
import Derived.Test.YtamimodkcbbpmaaG6
import Derived.Test.YtamimodkcbbpmaaG7
import Derived.Test.YtamimodkcbbpmaaG4
import Derived.Test.YtamimodkcbbpmaaG3
import Derived.Test.YtamimodkcbbpmaaG2
import Derived.Test.YtamimodkcbbpmaaG5
section
namespace Go.Proofs.Ytamimodkcbbpmaa.Pr
open Go.RowKit Go.Proofs.YtamimodkcbbpmaaW.PrintWords Go.Proofs.YtamimodkcbbpmaaW.PrintLast Go.Proofs.YtamimodkcbbpmaaXW
set_option linter.unusedVariables false
set_option linter.unusedSimpArgs false
def GZ : List dO := [⟨1, [], 2, ⟨0, 0⟩⟩, ⟨1, [], 2, ⟨0, 0⟩⟩, ⟨0, [1, 1], 1, ⟨0, 0⟩⟩]
abbrev U1 : List dU := [⟨1, []⟩, ⟨0, []⟩]
abbrev RG : List dU := [⟨0, []⟩, ⟨0, []⟩]
theorem ajO : jO.f = some (2, GZ) := by kernel_rfl
theorem XK : bA.f 40 2 GZ 0 = some (2, RG, 0) := by kernel_rfl
theorem afd : aI.f 40 2 RG 2 RG = some true := by kernel_rfl
theorem RH : aG.f 40 2 GZ 0 2 U1 = some true := by kernel_rfl
theorem RI : aG.f 40 2 GZ 1 2 U1 = some false := by kernel_rfl
theorem UU : aZ.f 40 2 GZ 2 RG = some (5, 3) := by kernel_rfl
theorem XL : aJ.f 40 2 GZ 2 RG 2 U1 = some (-1) := by kernel_rfl
theorem XM : aJ.f 40 2 GZ 2 U1 2 U1 = some 0 := by kernel_rfl
theorem G5 {w : World} {b : Nat} {x y : Int} (h : w.heap[b]? = some (.cells #[.int .i64 x, .slice none 0 0, .int .i64 y, .slice none 0 0] 27 (0, 0))) : Kd.C k27 w (some ⟨b, 0, none⟩) 2 [⟨x, []⟩, ⟨y, []⟩] := by
  have hnil : Kd.C k27 w none 0 [] := ⟨rfl, by decide, fun h => absurd h (by decide)⟩
  refine ⟨rfl, by decide, fun _ => ⟨_, rfl, fun j p hj => ?_⟩⟩
  match j, hj with
  | 0, hj =>
    obtain rfl : (⟨x, []⟩ : dU) = p := by simpa using hj
    refine ⟨[.int .i64 x, .slice none 0 0], rfl, Jh w ⟨x, []⟩ (Nat.le_refl _) hnil, fun i u hi => ?_⟩
    match i, hi with
    | 0, hi => obtain rfl : Value.int .i64 x = u := by simpa using hi
               show w.cell? ⟨b, 0, none⟩ = _
               rw [ae h 0]; rfl
    | 1, hi => obtain rfl : Value.slice none 0 0 = u := by simpa using hi
               show w.cell? ⟨b, 1, none⟩ = _
               rw [ae h 1]; rfl
    | i + 2, hi => simp at hi
  | 1, hj =>
    obtain rfl : (⟨y, []⟩ : dU) = p := by simpa using hj
    refine ⟨[.int .i64 y, .slice none 0 0], rfl, Jh w ⟨y, []⟩ (Nat.le_refl _) hnil, fun i u hi => ?_⟩
    match i, hi with
    | 0, hi => obtain rfl : Value.int .i64 y = u := by simpa using hi
               show w.cell? ⟨b, 2, none⟩ = _
               rw [ae h 2]; rfl
    | 1, hi => obtain rfl : Value.slice none 0 0 = u := by simpa using hi
               show w.cell? ⟨b, 3, none⟩ = _
               rw [ae h 3]; rfl
    | i + 2, hi => simp at hi
  | j + 2, hj => simp at hj
set_option maxRecDepth 100000 in
set_option maxHeartbeats 8000000 in
theorem LZ (w : World) : Calls Try.prog 25 #[] w fun e w' => e = .returned (.bool true) ∧ Below w.heap.size w w' := by
 go_enter Try.func25, Try.ntmps25
 go_upto_region 2 with (first | (go_at_call 74; refine (jO.calls 2 GZ w ajO).mono ?_; rintro x w1 ⟨v1, rfl, hN, hB⟩; obtain ⟨A, c, rfl, hc, hC⟩ := Kd.Vi hN; have HC := aa.mk hC; have HB := aa.mk hB; clear hN hB hC))
 have hal := eX w1 (.cells #[.int .i64 2, .slice A GZ.length c] 24);have HB2 := aa.mk (aM HB.out hal.1);have Uc := aa.mk (Kd.bF HC.out hal.1);have H1 := aa.mk hal.2;obtain ⟨b1, hb1⟩ : ∃ b1, b1 = w1.heap.size := ⟨_, rfl⟩;rw [← hb1] at H1 ⊢;clear hb1 hal HB HC;generalize (w1.alloc (.cells #[.int .i64 2, .slice A GZ.length c] 24)) = w2 at *;have h10 : w2.cell? ⟨b1, 0, none⟩ = some (.int .i64 2) := (by rw [ae H1.out 0]; rfl);have h11 : w2.cell? ⟨b1, 1, none⟩ = some (.slice A GZ.length c) := (by rw [ae H1.out 1]; rfl);go_upto_region 3 with (first | (go_at_call 36; refine (bA.calls 40 2 A c GZ 0 2 RG 0 w2 Uc.out hc XK).mono ?_; rintro x w3 ⟨v3, rfl, hR, hB⟩; obtain ⟨Ad, cd, rfl, hcd, hCd⟩ := Kd.oK hR; have HCD := aa.mk hCd; have HB3 := aa.mk hB; clear hR hB hCd))
 have hal := eX w3 (.cells #[.int .i64 2, .slice Ad RG.length cd] 27);have Ju := aa.mk (aM (aM HB2.out HB3.out) hal.1);have IK := aa.mk (Kd.bF (Kd.bF Uc.out HB3.out) hal.1);have afe := aa.mk (Kd.bF HCD.out hal.1);have H14 := aa.mk (aC (aC H1.out HB3.out) hal.1);have H24 := aa.mk hal.2;obtain ⟨b2, hb2⟩ : ∃ b2, b2 = w3.heap.size := ⟨_, rfl⟩;rw [← hb2] at H24 ⊢;clear hb2 hal HB2 HB3 Uc HCD H1 h10 h11;generalize (w3.alloc (.cells #[.int .i64 2, .slice Ad RG.length cd] 27)) = w4 at *;go_upto_region 4 with (fail)
 have hal := eX w4 (.cells #[.int .i64 1, .slice none 0 0, .int .i64 0, .slice none 0 0] 27);have KD := eX (w4.alloc (.cells #[.int .i64 1, .slice none 0 0, .int .i64 0, .slice none 0 0] 27)) (.cells #[.int .i64 2, .slice (some ⟨w4.heap.size, 0, none⟩) 2 2] 27);have KE := aa.mk (G5 (aC hal.2 KD.1));have Ec := aa.mk KD.2;obtain ⟨rX, hr_⟩ : ∃ r, r = w4.heap.size := ⟨_, rfl⟩;have hsz : (w4.alloc (.cells #[.int .i64 1, .slice none 0 0, .int .i64 0, .slice none 0 0] 27)).heap.size = w4.heap.size + 1 := (by show (w4.heap.push _).size = _; simp);rw [hsz] at Ec;obtain ⟨b4, hb_⟩ : ∃ b, b = w4.heap.size + 1 := ⟨_, rfl⟩;rw [← hb_] at Ec ⊢;clear hsz;rw [← hr_] at KE Ec ⊢;obtain ⟨w5, hw_⟩ : ∃ w', w' = ((w4.alloc (.cells #[.int .i64 1, .slice none 0 0, .int .i64 0, .slice none 0 0] 27)).alloc (.cells #[.int .i64 2, .slice (some ⟨rX, 0, none⟩) 2 2] 27)) := ⟨_, rfl⟩;have Oc : aa (Below w4.heap.size w4 w5) := ⟨by rw [hw_, hr_]; exact aM hal.1 KD.1⟩;rw [← hw_] at KE Ec ⊢;clear hal KD hr_ hb_ hw_;have vY := aa.mk (aM Ju.out Oc.out);have Um := aa.mk (Kd.bF IK.out Oc.out);have HD5 := aa.mk (Kd.bF afe.out Oc.out);have H15 := aa.mk (aC H14.out Oc.out);have H25 := aa.mk (aC H24.out Oc.out);have HX5 := KE;have H45 := Ec;clear Oc KE Ec Ju IK afe H14 H24;go_upto_region 5 with (fail)
 have hal := eX w5 (.cells #[.int .i64 0, .slice none 0 0, .int .i64 0, .slice none 0 0] 27);have KD := eX (w5.alloc (.cells #[.int .i64 0, .slice none 0 0, .int .i64 0, .slice none 0 0] 27)) (.cells #[.int .i64 2, .slice (some ⟨w5.heap.size, 0, none⟩) 2 2] 27);have KE := aa.mk (G5 (aC hal.2 KD.1));have Ec := aa.mk KD.2;obtain ⟨rY, hr_⟩ : ∃ r, r = w5.heap.size := ⟨_, rfl⟩;have hsz : (w5.alloc (.cells #[.int .i64 0, .slice none 0 0, .int .i64 0, .slice none 0 0] 27)).heap.size = w5.heap.size + 1 := (by show (w5.heap.push _).size = _; simp);rw [hsz] at Ec;obtain ⟨b5, hb_⟩ : ∃ b, b = w5.heap.size + 1 := ⟨_, rfl⟩;rw [← hb_] at Ec ⊢;clear hsz;rw [← hr_] at KE Ec ⊢;obtain ⟨w6, hw_⟩ : ∃ w', w' = ((w5.alloc (.cells #[.int .i64 0, .slice none 0 0, .int .i64 0, .slice none 0 0] 27)).alloc (.cells #[.int .i64 2, .slice (some ⟨rY, 0, none⟩) 2 2] 27)) := ⟨_, rfl⟩;have Oc : aa (Below w5.heap.size w5 w6) := ⟨by rw [hw_, hr_]; exact aM hal.1 KD.1⟩;rw [← hw_] at KE Ec ⊢;clear hal KD hr_ hb_ hw_;have Gp := aa.mk (aM vY.out Oc.out);have VT := aa.mk (Kd.bF Um.out Oc.out);have HD6 := aa.mk (Kd.bF HD5.out Oc.out);have HX6 := aa.mk (Kd.bF HX5.out Oc.out);have H16 := aa.mk (aC H15.out Oc.out);have H26 := aa.mk (aC H25.out Oc.out);have H46 := aa.mk (aC H45.out Oc.out);have HY6 := KE;have H56 := Ec;clear Oc KE Ec vY Um HD5 HX5 H15 H25 H45;have Gy : aa (∀ w', Below w6.heap.size w6 w' → w'.cell? ⟨b1, 0, none⟩ = some (.int .i64 2) ∧ w'.cell? ⟨b1, 1, none⟩ = some (.slice A GZ.length c) ∧ w'.cell? ⟨b2, 0, none⟩ = some (.int .i64 2) ∧ w'.cell? ⟨b2, 1, none⟩ = some (.slice Ad RG.length cd) ∧ w'.cell? ⟨b4, 0, none⟩ = some (.int .i64 2) ∧ w'.cell? ⟨b4, 1, none⟩ = some (.slice (some ⟨rX, 0, none⟩) 2 2) ∧ w'.cell? ⟨b5, 0, none⟩ = some (.int .i64 2) ∧ w'.cell? ⟨b5, 1, none⟩ = some (.slice (some ⟨rY, 0, none⟩) 2 2)) := ⟨fun w' h => ⟨by rw [ae (aC H16.out h) 0]; rfl, by rw [ae (aC H16.out h) 1]; rfl, by rw [ae (aC H26.out h) 0]; rfl, by rw [ae (aC H26.out h) 1]; rfl, by rw [ae (aC H46.out h) 0]; rfl, by rw [ae (aC H46.out h) 1]; rfl, by rw [ae (aC H56.out h) 0]; rfl, by rw [ae (aC H56.out h) 1]; rfl⟩⟩;obtain ⟨c0, c1, c2, c3, c4, c5, c6, c7⟩ := Gy.out w6 (Below.refl _ _);clear H16 H26 H46 H56;have HQ6 := aa.mk (Below.refl w6.heap.size w6);have L0 : aa (∀ w', Below w6.heap.size w6 w' → Calls Try.prog 33 #[.agg #[.int .i64 2, .slice Ad 2 cd], .agg #[.int .i64 2, .slice (some ⟨rY, 0, none⟩) 2 2]] w' fun e w'' => e = .returned (.bool true) ∧ Below w'.heap.size w' w'') := ⟨fun w' h => aI.calls 40 2 Ad cd RG 2 (some ⟨rY, 0, none⟩) 2 RG true w' (Kd.bF HD6.out h) hcd (Kd.bF HY6.out h) (Nat.le_refl _) afd⟩;have L1 : aa (∀ w', Below w6.heap.size w6 w' → Calls Try.prog 28 #[.agg #[.int .i64 2, .slice A GZ.length c], .int .i64 0, .agg #[.int .i64 2, .slice (some ⟨rX, 0, none⟩) 2 2]] w' fun e w'' => e = .returned (.bool true) ∧ Below w'.heap.size w' w'') := ⟨fun w' h => aG.calls 40 2 A c GZ 0 2 (some ⟨rX, 0, none⟩) 2 U1 true w' (Kd.bF VT.out h) hc (Kd.bF HX6.out h) (Nat.le_refl _) RH⟩;have L2 : aa (∀ w', Below w6.heap.size w6 w' → Calls Try.prog 28 #[.agg #[.int .i64 2, .slice A GZ.length c], .int .i64 1, .agg #[.int .i64 2, .slice (some ⟨rX, 0, none⟩) 2 2]] w' fun e w'' => e = .returned (.bool false) ∧ Below w'.heap.size w' w'') := ⟨fun w' h => aG.calls 40 2 A c GZ 1 2 (some ⟨rX, 0, none⟩) 2 U1 false w' (Kd.bF VT.out h) hc (Kd.bF HX6.out h) (Nat.le_refl _) RI⟩
 have L3 : aa (∀ w', Below w6.heap.size w6 w' → Calls Try.prog 29 #[.agg #[.int .i64 2, .slice A GZ.length c], .agg #[.int .i64 2, .slice (some ⟨rY, 0, none⟩) 2 2]] w' fun e w'' => e = .returned (.agg #[.int .i64 5, .int .i64 3]) ∧ Below w'.heap.size w' w'') := ⟨fun w' h => aZ.calls 40 2 A c GZ 2 (some ⟨rY, 0, none⟩) 2 RG 5 3 w' (Kd.bF VT.out h) hc (Kd.bF HY6.out h) (Nat.le_refl _) UU⟩;have L4 : aa (∀ w', Below w6.heap.size w6 w' → Calls Try.prog 31 #[.agg #[.int .i64 2, .slice A GZ.length c], .agg #[.int .i64 2, .slice (some ⟨rY, 0, none⟩) 2 2], .agg #[.int .i64 2, .slice (some ⟨rX, 0, none⟩) 2 2]] w' fun e w'' => e = .returned (.int .i64 (-1)) ∧ Below w'.heap.size w' w'') := ⟨fun w' h => aJ.calls 40 2 A c GZ 2 (some ⟨rY, 0, none⟩) 2 RG 2 (some ⟨rX, 0, none⟩) 2 U1 (-1) w' (Kd.bF VT.out h) hc (Kd.bF HY6.out h) (Nat.le_refl _) (Kd.bF HX6.out h) (Nat.le_refl _) XL⟩;have L5 : aa (∀ w', Below w6.heap.size w6 w' → Calls Try.prog 31 #[.agg #[.int .i64 2, .slice A GZ.length c], .agg #[.int .i64 2, .slice (some ⟨rX, 0, none⟩) 2 2], .agg #[.int .i64 2, .slice (some ⟨rX, 0, none⟩) 2 2]] w' fun e w'' => e = .returned (.int .i64 0) ∧ Below w'.heap.size w' w'') := ⟨fun w' h => aJ.calls 40 2 A c GZ 2 (some ⟨rX, 0, none⟩) 2 U1 2 (some ⟨rX, 0, none⟩) 2 U1 0 w' (Kd.bF VT.out h) hc (Kd.bF HX6.out h) (Nat.le_refl _) (Kd.bF HX6.out h) (Nat.le_refl _) XM⟩;go_upto_region 7 with (first | (go_at_call 33; with_reducible refine (L0.out w6 HQ6.out).mono ?_; rintro x w7 ⟨rfl, hB⟩; have HQ7 := aa.mk (aM HQ6.out hB); clear hB c0 c1 c2 c3 c4 c5 c6 c7; obtain ⟨c0, c1, c2, c3, c4, c5, c6, c7⟩ := Gy.out w7 HQ7.out) | (go_at_call 28; with_reducible refine (L1.out w7 HQ7.out).mono ?_; rintro x w8 ⟨rfl, hB⟩; have HQ8 := aa.mk (aM HQ7.out hB); clear hB c0 c1 c2 c3 c4 c5 c6 c7; obtain ⟨c0, c1, c2, c3, c4, c5, c6, c7⟩ := Gy.out w8 HQ8.out) | (go_at_call 28; with_reducible refine (L2.out w8 HQ8.out).mono ?_; rintro x w9 ⟨rfl, hB⟩; have HQ9 := aa.mk (aM HQ8.out hB); clear hB c0 c1 c2 c3 c4 c5 c6 c7; obtain ⟨c0, c1, c2, c3, c4, c5, c6, c7⟩ := Gy.out w9 HQ9.out))
 go_wp2_with (first | (go_at_call 29; with_reducible refine (L3.out w9 HQ9.out).mono ?_; rintro x Io ⟨rfl, hB⟩; have abH := aa.mk (aM HQ9.out hB); clear hB c0 c1 c2 c3 c4 c5 c6 c7; obtain ⟨c0, c1, c2, c3, c4, c5, c6, c7⟩ := Gy.out Io abH.out) | (go_at_call 31; with_reducible refine (L4.out Io abH.out).mono ?_; rintro x Me ⟨rfl, hB⟩; have abI := aa.mk (aM abH.out hB); clear hB c0 c1 c2 c3 c4 c5 c6 c7; obtain ⟨c0, c1, c2, c3, c4, c5, c6, c7⟩ := Gy.out Me abI.out) | (go_at_call 31; with_reducible refine (L5.out Me abI.out).mono ?_; rintro x w12 ⟨rfl, hB⟩; have ajX := aa.mk (aM abI.out hB); clear hB c0 c1 c2 c3 c4 c5 c6 c7))
 go_ret;exact ⟨rfl, aM Gp.out ajX.out⟩
def ig.f : Option Bool := some true
theorem ig.calls (r : Bool) (w : World) (h : ig.f = some r) : Calls Try.prog 25 #[] w fun e w' => e = .returned (.bool r) ∧ Below w.heap.size w w' := by
 injection h with h
 subst h;exact LZ w
end Go.Proofs.Ytamimodkcbbpmaa.Pr
end
section
namespace Go.Proofs.Ytamimodkcbbpmaa.Pr
open Go.RowKit Go.Proofs.YtamimodkcbbpmaaW.PrintWords Go.Proofs.YtamimodkcbbpmaaW.PrintLast Go.Proofs.YtamimodkcbbpmaaW.PrintMore Go.Proofs.YtamimodkcbbpmaaXW
attribute [local go_sem] kv ky lX lY jf jg kz kC
set_option linter.unusedVariables false
set_option linter.unusedSimpArgs false
mutual
def ay.j0 : Nat → Int → Int → List (dO) → Option (Bool)
 | 0, _, _, _ => none
 | k + 1, x1, pJ, pK => if pJ > 30 then (ay.j1 k x1 true pJ pK) else (if (pK.length : Int) > 60 then (ay.j1 k x1 true pJ pK) else ((aA.f k pJ pK).bind fun XN => (if XN = true then ((aU.f k pJ pK).bind fun Od => (ay.j1 k x1 (!Od) pJ pK)) else (ay.j1 k x1 false pJ pK))))
def ay.j1 : Nat → Int → Bool → Int → List (dO) → Option (Bool)
 | 0, _, _, _, _ => none
 | k + 1, x1, x28, pJ, pK => if x28 = true then (some true) else ((bA.f k pJ pK x1).bind fun yF => ((aN.f k pJ pK x1).bind fun nZ => (if yF.2.2 = nZ.2.2 then ((aI.f k yF.1 yF.2.1 nZ.1 nZ.2.1).bind fun zu => (some zu)) else (some false))))
end
def ay.f (k : Nat) (aR : Int) (aH : List (dO)) (a1 : Int) : Option (Bool) := (ig.f).bind fun Oe => (if Oe = true then (ay.j0 k a1 aR aH) else (some false))
theorem ay.eD : ∀ k, (∀ y0 y1 y2, dz (ay.j0 k y0 y1 y2) (ay.j0 (k + 1) y0 y1 y2)) ∧ (∀ y0 y1 y2 y3, dz (ay.j1 k y0 y1 y2 y3) (ay.j1 (k + 1) y0 y1 y2 y3))
 | 0 => ⟨fun _ _ _ r h => by simp [ay.j0] at h, fun _ _ _ _ r h => by simp [ay.j1] at h⟩
 | k + 1 => by
  obtain ⟨jP, ih1⟩ := ay.eD k;refine ⟨?_, ?_⟩;all_goals intros
  all_goals first | unfold ay.j0 | unfold ay.j1
  all_goals
   repeat' first
   | (with_reducible exact jP _ _ _)
   | (with_reducible exact ih1 _ _ _ _)
   | (with_reducible exact bA.mono _ _ _ _)
   | (with_reducible exact aA.mono _ _ _)
   | (with_reducible exact aN.mono _ _ _ _)
   | (with_reducible exact aI.mono _ _ _ _ _)
   | (with_reducible exact aU.mono _ _ _)
   | (with_reducible exact dz.refl _)
   | (with_reducible exact dz.none _)
   | (with_reducible refine dz.ite ?_ ?_)
   | (with_reducible refine dz.bind ?_ (fun _ => ?_))
   | exact jP _ _ _
   | exact ih1 _ _ _ _
   | exact bA.mono _ _ _ _
   | exact aA.mono _ _ _
   | exact aN.mono _ _ _ _
   | exact aI.mono _ _ _ _ _
   | exact aU.mono _ _ _
   | exact dz.none _
   | refine dz.ite ?_ ?_
   | refine dz.bind ?_ (fun _ => ?_)
theorem ay.mono : ∀ a0 a1 a2 k, dz (ay.f k a0 a1 a2) (ay.f (k + 1) a0 a1 a2) := by
 intro a0 a1 a2 k;obtain ⟨jP, ih1⟩ := ay.eD k;unfold ay.f;repeat' first
   | (with_reducible exact jP _ _ _)
   | (with_reducible exact ih1 _ _ _ _)
   | (with_reducible exact bA.mono _ _ _ _)
   | (with_reducible exact aA.mono _ _ _)
   | (with_reducible exact aN.mono _ _ _ _)
   | (with_reducible exact aI.mono _ _ _ _ _)
   | (with_reducible exact aU.mono _ _ _)
   | (with_reducible exact dz.refl _)
   | (with_reducible exact dz.none _)
   | (with_reducible refine dz.ite ?_ ?_)
   | (with_reducible refine dz.bind ?_ (fun _ => ?_))
   | exact jP _ _ _
   | exact ih1 _ _ _ _
   | exact bA.mono _ _ _ _
   | exact aA.mono _ _ _
   | exact aN.mono _ _ _ _
   | exact aI.mono _ _ _ _ _
   | exact aU.mono _ _ _
   | exact dz.none _
   | refine dz.ite ?_ ?_
   | refine dz.bind ?_ (fun _ => ?_)
set_option maxHeartbeats 8000000 in
set_option maxRecDepth 100000 in
theorem ay.calls (k : Nat) (aR : Int) (bW : Option Addr) (bN : Nat) (aH : List (dO)) (a1 : Int) (r : Bool) (w : World) (fw : Kd.C sJ w bW aH.length aH) (fC : aH.length ≤ bN) (h : ay.f k aR aH a1 = some r) :
  Calls Try.prog 6 #[.agg #[.int .i64 aR, .slice bW aH.length bN], .int .i64 a1] w fun e w' => e = .returned (.bool r) ∧ Below w.heap.size w w' := by
 have ES := Try.underlying24;have Hm := Try.underlying27;have eP := aa.mk fw;have fP := aa.mk fC;clear fw fC;have HB := aa.mk (Below.refl w.heap.size w);have H : ((ig.f).bind fun Oe => (if Oe = true then (ay.j0 k a1 aR aH) else (some false))) = some r := h;clear h;replace H := Option.bind_eq_some_iff.mp H;obtain ⟨Oe, U0, H⟩ := H;replace H : (if Oe = true then (ay.j0 k a1 aR aH) else (some false)) = some r := H;have A3 := aa.mk U0;clear U0;have IK := aa.mk H;clear H;go_enter Try.func6, Try.ntmps6
 go_upto_if 10 with (first | ((with_reducible refine bM (N := 2) rfl ?_); (try (refine gG (by rfl) ?_; dsimp only)); refine bG ?hg (N := 2) ?hd (cs := #[.int .i64 aR, .slice bW aH.length bN]) (t := 24) ?hr ?_; (case hd => rfl); (case hg => rfl); (case hr => first | (go_simp; done) | (go_simp; rfl)); intro ja hg w5 bR hb; have bP := aa.mk (aM (bO HB) hb); have bQ := aa.mk (bR); have bT := aa.mk ((by rw [hg]; exact (aK (bO HB)) : w.heap.size ≤ ja)); have di := aa.mk ((by rw [hg]; exact (aK (bO HB)) : w.heap.size ≤ ja)); clear HB; have HB := bP; have dx := bQ; have anG := bT; have anH := di; clear bP bQ bT di; clear hb bR hg) | ((with_reducible refine dE (f := 25) rfl ?_); refine iB (some 9) rfl rfl Try.func25 (by kernel_rfl) rfl #[] rfl (by (try simp only [List.map_toArray, List.map_cons, List.map_nil]); first | done | rfl | (simp only [List.length_drop, List.length_take]; rfl)) ?_; (with_reducible refine (ig.calls  Oe _ A3.out).mono ?_); rintro e w6 ⟨rfl, hb⟩; refine ⟨_, rfl, ?_⟩; have bP := aa.mk (aC (bk dx) hb); have bQ := aa.mk (aM (bO HB) hb); clear dx; clear HB; have dx := bP; have HB := bQ; clear bP bQ; (try clear hb); (try clear hb2); (try clear hk); (try clear hi)))
 (try simp only [Act.put, List.setIfInBounds_toArray, List.set_cons_zero, List.set_cons_succ]);go_cut [] (fun wc => ∃ (kq : Nat), aa (ay.j0 kq a1 aR aH = some r) ∧ aa (kq ≤ k) ∧ aa (wc.heap[ja]? = some (.cells #[.int .i64 aR, (.slice bW aH.length bN)] 24 (0, 0))) ∧ aa (Below w.heap.size w wc))
 case first =>
  have H := IK.out;clear IK;by_cases c7 : Oe = true
  ·subst c7;have H1 : (ay.j0 k a1 aR aH) = some r := by rw [if_pos rfl] at H; exact H
   clear H;have H := H1;clear H1;have H' := aa.mk H;clear H;go_wp2;go_meet
   case rel => exact ⟨_, H', ⟨by first | omega | exact Nat.le_refl _⟩, ⟨by (with_reducible repeat (first | refine ax ?_ _ | refine az ?_ | refine au ?_ _)); exact dx.out⟩, ⟨bO HB⟩⟩
  ·replace c7 := Bool.eq_false_iff.mpr c7;subst c7;have H1 : (some false) = some r := by rw [if_neg (show ¬ (false = true) by decide)] at H; exact H
   clear H;have H := H1;clear H1;obtain rfl := Option.some.inj H;go_wp2;go_ret;exact ⟨by first | rfl | (simp [aW, aX] <;> rfl) | (simp [*, aW, aX] <;> rfl), bO HB⟩
 case rest =>
  clear IK;(try clear c2); (try clear p2); (try clear c6); (try clear c7);obtain ⟨kq, HA, Gq, dx, HB⟩ := hcut
  cases kq with
  | zero => exact absurd HA.out (by simp [ay.j0])
  | succ kj3 =>
   have H := HA.out;clear HA;simp only [ay.j0] at H;have Y6 := aa.mk H;clear H;go_upto_region 3 with (fail)
   go_cut [28] (fun v28 wc => ∃ (kq : Nat) (Qy : Bool), v28 = .bool Qy ∧ aa (ay.j1 kq a1 Qy aR aH = some r) ∧ aa (kq ≤ kj3) ∧ aa (wc.heap[ja]? = some (.cells #[.int .i64 aR, (.slice bW aH.length bN)] 24 (0, 0))) ∧ aa (Below w.heap.size w wc))
   case first =>
    have H := Y6.out;clear Y6;by_cases c9 : aR > 30
    ·rw [if_pos c9] at H;have yg : decide (30 < aR) = true := decide_eq_true c9;clear c9
     (first | rw [yg] | (simp only [bH, bI]; rw [yg]) | skip)
     have H' := aa.mk H;clear H;have qB : wc.cell? ⟨ja, 0, none⟩ = some (.int .i64 aR) := (ae dx.out 0).trans rfl;have qC : wc.cell? ⟨ja, 1, none⟩ = some (.slice bW aH.length bN) := (ae dx.out 1).trans rfl;have qD := ai dx.out 0;have qE := ai dx.out 1;go_wp2;go_meet
     case rel => exact ⟨_, (true), (by first | rfl | (simp; done) | (simp [*]; done)), H', ⟨by have := Gq.out; first | omega | exact Nat.le_refl _⟩, ⟨by (with_reducible repeat (first | refine ax ?_ _ | refine az ?_ | refine au ?_ _)); exact dx.out⟩, ⟨bO HB⟩⟩
    ·rw [if_neg c9] at H;have yg : decide (30 < aR) = false := decide_eq_false c9;clear c9
     (first | rw [yg] | (simp only [bH, bI]; rw [yg]) | skip)
     by_cases c11 : (aH.length : Int) > 60
     ·rw [if_pos c11] at H;have om : decide (60 < (aH.length : Int)) = true := decide_eq_true c11;have P9 : decide (60 < aH.length) = true := decide_eq_true (by omega);clear c11;have H' := aa.mk H;clear H;have jK : wc.cell? ⟨ja, 0, none⟩ = some (.int .i64 aR) := (ae dx.out 0).trans rfl;have jL : wc.cell? ⟨ja, 1, none⟩ = some (.slice bW aH.length bN) := (ae dx.out 1).trans rfl;have jM := ai dx.out 0;have jN := ai dx.out 1;go_wp2;go_meet
      case rel => exact ⟨_, (true), (by first | rfl | (simp; done) | (simp [*]; done)), H', ⟨by have := Gq.out; first | omega | exact Nat.le_refl _⟩, ⟨by (with_reducible repeat (first | refine ax ?_ _ | refine az ?_ | refine au ?_ _)); exact dx.out⟩, ⟨bO HB⟩⟩
     ·rw [if_neg c11] at H;have om : decide (60 < (aH.length : Int)) = false := decide_eq_false c11;have P9 : decide (60 < aH.length) = false := decide_eq_false (by omega);clear c11;replace H := Option.bind_eq_some_iff.mp H;obtain ⟨XN, afh, H⟩ := H;replace H : (if XN = true then ((aU.f kj3 aR aH).bind fun Od => (ay.j1 kj3 a1 (!Od) aR aH)) else (ay.j1 kj3 a1 false aR aH)) = some r := H;have A13 := aa.mk afh;clear afh;by_cases c14 : XN = true
      ·subst c14;have H1 : ((aU.f kj3 aR aH).bind fun Od => (ay.j1 kj3 a1 (!Od) aR aH)) = some r := by rw [if_pos rfl] at H; exact H
       clear H;have H := H1;clear H1;replace H := Option.bind_eq_some_iff.mp H;obtain ⟨Od, afi, H⟩ := H;replace H : (ay.j1 kj3 a1 (!Od) aR aH) = some r := H;have A15 := aa.mk afi;clear afi;have H' := aa.mk H;clear H;have yL : wc.cell? ⟨ja, 0, none⟩ = some (.int .i64 aR) := (ae dx.out 0).trans rfl;have yM : wc.cell? ⟨ja, 1, none⟩ = some (.slice bW aH.length bN) := (ae dx.out 1).trans rfl;have yN := ai dx.out 0;have yO := ai dx.out 1;go_wp2_with (first | (go_at_call 34; (with_reducible refine (aA.calls kj3 aR _ _ aH true _ ?side1 ?side2 A13.out).mono ?_); (case side1 => repeat (first | exact (Kd.bF eP.out HB.out) | (with_reducible refine Kd.dF ?_ _) | (with_reducible refine Kd.dG ?_ _) | (with_reducible refine Kd.eG ?_))); (case side2 => exact fP.out); rintro e w17 ⟨rfl, hb⟩; have bP := aa.mk (aC (bk dx) hb); have bQ := aa.mk (aM (bO HB) hb); clear dx; clear HB; have dx := bP; have HB := bQ; clear bP bQ; (try clear hb); (try clear hb2); (try clear hk); (try clear hi); have lZ : w17.cell? ⟨ja, 0, none⟩ = some (.int .i64 aR) := (ae dx.out 0).trans rfl; have l5 : w17.cell? ⟨ja, 1, none⟩ = some (.slice bW aH.length bN) := (ae dx.out 1).trans rfl; have l6 := ai dx.out 0; have l7 := ai dx.out 1) | (go_at_call 35; (with_reducible refine (aU.calls kj3 aR _ _ aH Od _ ?side1 ?side2 A15.out).mono ?_); (case side1 => repeat (first | exact (Kd.bF eP.out HB.out) | (with_reducible refine Kd.dF ?_ _) | (with_reducible refine Kd.dG ?_ _) | (with_reducible refine Kd.eG ?_))); (case side2 => exact fP.out); rintro e w19 ⟨rfl, hb⟩; have bP := aa.mk (aC (bk dx) hb); have bQ := aa.mk (aM (bO HB) hb); clear dx; clear HB; have dx := bP; have HB := bQ; clear bP bQ; (try clear hb); (try clear hb2); (try clear hk); (try clear hi)))
       go_meet
       case rel => exact ⟨_, (!Od), (by first | rfl | (simp; done) | (simp [*]; done)), H', ⟨by have := Gq.out; first | omega | exact Nat.le_refl _⟩, ⟨by (with_reducible repeat (first | refine ax ?_ _ | refine az ?_ | refine au ?_ _)); exact dx.out⟩, ⟨bO HB⟩⟩
      ·replace c14 := Bool.eq_false_iff.mpr c14;subst c14;have H1 : (ay.j1 kj3 a1 false aR aH) = some r := by rw [if_neg (show ¬ (false = true) by decide)] at H; exact H
       clear H;have H := H1;clear H1;have H' := aa.mk H;clear H;have o9 : wc.cell? ⟨ja, 0, none⟩ = some (.int .i64 aR) := (ae dx.out 0).trans rfl;have pg : wc.cell? ⟨ja, 1, none⟩ = some (.slice bW aH.length bN) := (ae dx.out 1).trans rfl;have pq := ai dx.out 0;have pz := ai dx.out 1;go_wp2_with (first | (go_at_call 34; (with_reducible refine (aA.calls kj3 aR _ _ aH false _ ?side1 ?side2 A13.out).mono ?_); (case side1 => repeat (first | exact (Kd.bF eP.out HB.out) | (with_reducible refine Kd.dF ?_ _) | (with_reducible refine Kd.dG ?_ _) | (with_reducible refine Kd.eG ?_))); (case side2 => exact fP.out); rintro e Fb ⟨rfl, hb⟩; have bP := aa.mk (aC (bk dx) hb); have bQ := aa.mk (aM (bO HB) hb); clear dx; clear HB; have dx := bP; have HB := bQ; clear bP bQ; (try clear hb); (try clear hb2); (try clear hk); (try clear hi)))
       go_meet
       case rel => exact ⟨_, (false), (by first | rfl | (simp; done) | (simp [*]; done)), H', ⟨by have := Gq.out; first | omega | exact Nat.le_refl _⟩, ⟨by (with_reducible repeat (first | refine ax ?_ _ | refine az ?_ | refine au ?_ _)); exact dx.out⟩, ⟨bO HB⟩⟩
   case rest =>
    clear Y6;(try clear c1); (try clear c2); (try clear p2); (try clear c6); (try clear c7); (try clear c9); (try clear yg); (try clear c11); (try clear om); (try clear P9); (try clear c14); (try clear qB); (try clear qC); (try clear jK); (try clear jL); (try clear yL); (try clear yM); (try clear lZ); (try clear l5); (try clear o9); (try clear pg); (try clear qD); (try clear qE); (try clear jM); (try clear jN); (try clear yN); (try clear yO); (try clear l6); (try clear l7); (try clear pq); (try clear pz); (try clear p2);obtain ⟨kq, Qy, rfl, HA, HJ7, dx, HB⟩ := hcut
    cases kq with
    | zero => exact absurd HA.out (by simp [ay.j1])
    | succ kj7 =>
     have H := HA.out;clear HA;simp only [ay.j1] at H;by_cases vO : Qy = true
     ·subst vO;have H1 : (some true) = some r := by rw [if_pos rfl] at H; exact H
      clear H;have H := H1;clear H1;obtain rfl := Option.some.inj H;go_wp2;go_ret;exact ⟨by first | rfl | (simp [aW, aX] <;> rfl) | (simp [*, aW, aX] <;> rfl), bO HB⟩
     ·replace vO := Bool.eq_false_iff.mpr vO;subst vO;have H1 : ((bA.f kj7 aR aH a1).bind fun yF => ((aN.f kj7 aR aH a1).bind fun nZ => (if yF.2.2 = nZ.2.2 then ((aI.f kj7 yF.1 yF.2.1 nZ.1 nZ.2.1).bind fun zu => (some zu)) else (some false)))) = some r := by rw [if_neg (show ¬ (false = true) by decide)] at H; exact H
      clear H;have H := H1;clear H1;replace H := Option.bind_eq_some_iff.mp H;obtain ⟨⟨xz, yG, KF⟩, TS, H⟩ := H;replace H : ((aN.f kj7 aR aH a1).bind fun nZ => (if KF = nZ.2.2 then ((aI.f kj7 xz yG nZ.1 nZ.2.1).bind fun zu => (some zu)) else (some false))) = some r := H;have A23 := aa.mk TS;clear TS;replace H := Option.bind_eq_some_iff.mp H;obtain ⟨⟨Hy, G6, L6⟩, afj, H⟩ := H;replace H : (if KF = L6 then ((aI.f kj7 xz yG Hy G6).bind fun zu => (some zu)) else (some false)) = some r := H;have A24 := aa.mk afj;clear afj;by_cases ET : KF = L6
      ·rw [if_pos ET] at H;have yx : (KF == L6) = true := beq_iff_eq.mpr ET;have IL : (KF != L6) = false := bne_eq_false_iff_eq.mpr ET;clear ET;replace H := Option.bind_eq_some_iff.mp H;obtain ⟨zu, Ua, H⟩ := H;replace H : (some zu) = some r := H;have A26 := aa.mk Ua;clear Ua;obtain rfl := Option.some.inj H;have ahA : wc.cell? ⟨ja, 0, none⟩ = some (.int .i64 aR) := (ae dx.out 0).trans rfl;have ahB : wc.cell? ⟨ja, 1, none⟩ = some (.slice bW aH.length bN) := (ae dx.out 1).trans rfl;have ahC := ai dx.out 0;have ahD := ai dx.out 1;go_wp2_with (first | ((with_reducible refine dE (f := 36) rfl ?_); refine iB (some 32) rfl rfl Try.func36 (by kernel_rfl) rfl #[.agg #[.int .i64 aR, .slice bW aH.length bN], .int .i64 a1] rfl (by (try simp only [List.map_toArray, List.map_cons, List.map_nil]); first | done | rfl | (simp only [List.length_drop, List.length_take]; rfl)) ?_; (with_reducible refine (bA.calls kj7 aR _ _ aH a1 xz yG KF _ ?side1 ?side2 A23.out).mono ?_); (case side1 => repeat (first | exact (Kd.bF eP.out HB.out) | (with_reducible refine Kd.dF ?_ _) | (with_reducible refine Kd.dG ?_ _) | (with_reducible refine Kd.eG ?_))); (case side2 => exact fP.out); rintro e w28 ⟨ajY, rfl, ho0, hb⟩; refine ⟨_, rfl, ?_⟩; have bP := aa.mk (Kd.iL ho0 (aK (bO HB))); have bQ := aa.mk (aC (bk dx) hb); have bT := aa.mk (aM (bO HB) hb); clear dx; clear HB; have jZ := bP; have dx := bQ; have HB := bT; clear bP bQ bT; (try clear hb); (try clear hb2); (try clear hk); (try clear hi); (try clear ho0)) | ((with_reducible refine bM (N := 5) rfl ?_); (try (refine gG (by rfl) ?_; dsimp only)); refine bG ?hg (N := 5) ?hd (cs := #[.int .i64 0, .slice none 0 0]) (t := 27) ?hr ?_; (case hd => rfl); (case hg => rfl); (case hr => first | (go_simp; done) | (go_simp; rfl)); intro gY hg w29 bR hb; have bP := aa.mk (Kd.bu (Kd.uB (by (with_reducible repeat (first | apply Kd.ek | apply Kd.eu | apply Kd.eF)); exact jZ.out) gY (Nat.le_of_eq hg.symm)) hb); have bQ := aa.mk (aC (bk dx) hb); have bT := aa.mk (aM (bO HB) hb); have di := aa.mk (bR); have eB := aa.mk ((by rw [hg]; exact (aK (bO HB)) : w.heap.size ≤ gY)); have gB := aa.mk ((by rw [hg]; exact (aK (bO HB)) : w.heap.size ≤ gY)); have iG := aa.mk ((by rw [hg]; exact Nat.ne_of_lt (bE (bk dx)) : ja ≠ gY)); have sQ := aa.mk ((by rw [hg]; exact Nat.ne_of_gt (bE (bk dx)) : gY ≠ ja)); clear jZ; clear dx; clear HB; have jZ := bP; have dx := bQ; have HB := bT; have iQ := di; have afk := eB; have afl := gB; have oJ := iG; have Ed := sQ; clear bP bQ bT di eB gB iG sQ; clear hb bR hg; have PK := Ed.out; have PL := oJ.out; have qQ : w29.cell? ⟨gY, 0, none⟩ = some (.int .i64 0) := (ae iQ.out 0).trans rfl; have qR : w29.cell? ⟨gY, 1, none⟩ = some (.slice none 0 0) := (ae iQ.out 1).trans rfl; have qU := ai iQ.out 0; have qV := ai iQ.out 1; obtain ⟨EU, DU, Ub⟩ := Kd.fQ jZ.out; subst Ub; have wW : w29.cell? ⟨ja, 0, none⟩ = some (.int .i64 aR) := (ae dx.out 0).trans rfl; have wX : w29.cell? ⟨ja, 1, none⟩ = some (.slice bW aH.length bN) := (ae dx.out 1).trans rfl; have wY := ai dx.out 0; have wZ := ai dx.out 1) | ((with_reducible refine dE (f := 37) rfl ?_); refine iB (some 38) rfl rfl Try.func37 (by kernel_rfl) rfl #[.agg #[.int .i64 aR, .slice bW aH.length bN], .int .i64 a1] rfl (by (try simp only [List.map_toArray, List.map_cons, List.map_nil]); first | done | rfl | (simp only [List.length_drop, List.length_take]; rfl)) ?_; (with_reducible refine (aN.calls kj7 aR _ _ aH a1 Hy G6 L6 _ ?side1 ?side2 A24.out).mono ?_); (case side1 => exact Kd.bF eP.out (bO HB)); (case side2 => exact fP.out); rintro e w34 ⟨ajZ, rfl, ho0, hb⟩; refine ⟨_, rfl, ?_⟩; have bP := aa.mk (Kd.zX (by (with_reducible repeat (first | apply Kd.ek | apply Kd.eu | apply Kd.eF)); exact (Kd.bB (Kd.jS (p := ⟨gY, 1, none⟩) (Kd.jS (p := ⟨gY, 0, none⟩) (Kd.bB jZ.out (fun k_ hk => (⟨hk, hk.2⟩ : _ ∧ k_ ≠ gY))) (fun _ hk => hk.2) (.int .i64 xz)) (fun _ hk => hk.2) (.slice EU yG.length DU)) (fun _ h_ => h_.1))) (Kd.FI ho0) hb); have bQ := aa.mk (Kd.iL (Kd.xU (Kd.I8 ho0 (Kd.xK (by (with_reducible repeat (first | apply Kd.ek | apply Kd.eu | apply Kd.eF)); exact (Kd.bB (Kd.jS (p := ⟨gY, 1, none⟩) (Kd.jS (p := ⟨gY, 0, none⟩) (Kd.bB jZ.out (fun k_ hk => (⟨hk, hk.2⟩ : _ ∧ k_ ≠ gY))) (fun _ hk => hk.2) (.int .i64 xz)) (fun _ hk => hk.2) (.slice EU yG.length DU)) (fun _ h_ => h_.1))))) (g := gY) (o := .cells #[.int .i64 xz, .slice EU yG.length DU] 27 (0, 0)) (by (with_reducible repeat (first | refine ax ?_ _ | refine az ?_ | refine au ?_ _)); refine bL (cs := #[.int .i64 xz, .slice none 0 0]) ?_ 1 _ rfl; (with_reducible repeat (first | refine ax ?_ _ | refine az ?_ | refine au ?_ _)); refine bL (cs := #[.int .i64 0, .slice none 0 0]) ?_ 0 _ rfl; (with_reducible repeat (first | refine ax ?_ _ | refine az ?_ | refine au ?_ _)); exact iQ.out)) (aK (bO HB))); have bT := aa.mk (aC (g := ja) (o := .cells #[.int .i64 aR, .slice bW aH.length bN] 24 (0, 0)) (by (with_reducible repeat (first | refine ax ?_ _ | refine az ?_ | refine au ?_ _)); refine bD ?_ oJ.out _; (with_reducible repeat (first | refine ax ?_ _ | refine az ?_ | refine au ?_ _)); refine bD ?_ oJ.out _; (with_reducible repeat (first | refine ax ?_ _ | refine az ?_ | refine au ?_ _)); exact dx.out) hb); have di := aa.mk (aC (g := gY) (o := .cells #[.int .i64 xz, .slice EU yG.length DU] 27 (0, 0)) (by (with_reducible repeat (first | refine ax ?_ _ | refine az ?_ | refine au ?_ _)); refine bL (cs := #[.int .i64 xz, .slice none 0 0]) ?_ 1 _ rfl; (with_reducible repeat (first | refine ax ?_ _ | refine az ?_ | refine au ?_ _)); refine bL (cs := #[.int .i64 0, .slice none 0 0]) ?_ 0 _ rfl; (with_reducible repeat (first | refine ax ?_ _ | refine az ?_ | refine au ?_ _)); exact iQ.out) hb); have eB := aa.mk (aM (bO HB) hb); clear jZ; clear dx; clear iQ; clear HB; have jZ := bP; have uj := bQ; have dx := bT; have iQ := di; have HB := eB; clear bP bQ bT di eB; (try clear hb); (try clear hb2); (try clear hk); (try clear hi); (try clear ho0)) | ((with_reducible refine bM (N := 7) rfl ?_); (try (refine gG (by rfl) ?_; dsimp only)); refine bG ?hg (N := 7) ?hd (cs := #[.int .i64 0, .slice none 0 0]) (t := 27) ?hr ?_; (case hd => rfl); (case hg => rfl); (case hr => first | (go_simp; done) | (go_simp; rfl)); intro iK hg w35 bR hb; have bP := aa.mk (Kd.bu (Kd.uB (by (with_reducible repeat (first | apply Kd.ek | apply Kd.eu | apply Kd.eF)); exact jZ.out) iK (Nat.le_of_eq hg.symm)) hb); have bQ := aa.mk (Kd.bu (Kd.uB (by (with_reducible repeat (first | apply Kd.ek | apply Kd.eu | apply Kd.eF)); exact uj.out) iK (Nat.le_of_eq hg.symm)) hb); have bT := aa.mk (aC (bk dx) hb); have di := aa.mk (aC (bk iQ) hb); have eB := aa.mk (aM (bO HB) hb); have gB := aa.mk (bR); have iG := aa.mk ((by rw [hg]; exact (aK (bO HB)) : w.heap.size ≤ iK)); have sQ := aa.mk ((by rw [hg]; exact (aK (bO HB)) : w.heap.size ≤ iK)); have xB := aa.mk ((by rw [hg]; exact Nat.ne_of_lt (bE (bk dx)) : ja ≠ iK)); have xC := aa.mk ((by rw [hg]; exact Nat.ne_of_gt (bE (bk dx)) : iK ≠ ja)); have uX := aa.mk ((by rw [hg]; exact Nat.ne_of_lt (bE (bk iQ)) : gY ≠ iK)); have uY := aa.mk ((by rw [hg]; exact Nat.ne_of_gt (bE (bk iQ)) : iK ≠ gY)); clear jZ; clear uj; clear dx; clear iQ; clear HB; have jZ := bP; have uj := bQ; have dx := bT; have iQ := di; have HB := eB; have xI := gB; have afm := iG; have afn := sQ; have vB := xB; have Ee := xC; have vC := uX; have Ef := uY; clear bP bQ bT di eB gB iG sQ xB xC uX uY; clear hb bR hg; have adA := Ee.out; have adB := vB.out; have Yz := Ef.out; have YA := vC.out; have Fe : w35.cell? ⟨iK, 0, none⟩ = some (.int .i64 0) := (ae xI.out 0).trans rfl; have Ff : w35.cell? ⟨iK, 1, none⟩ = some (.slice none 0 0) := (ae xI.out 1).trans rfl; have Fg := ai xI.out 0; have Fh := ai xI.out 1; obtain ⟨KC, Hw, abD⟩ := Kd.fQ uj.out; subst abD; have ahG : w35.cell? ⟨gY, 0, none⟩ = some (.int .i64 xz) := (ae iQ.out 0).trans rfl; have ahH : w35.cell? ⟨gY, 1, none⟩ = some (.slice EU yG.length DU) := (ae iQ.out 1).trans rfl; have ahI := ai iQ.out 0; have ahJ := ai iQ.out 1) | (go_at_call 33; (with_reducible refine (aI.calls kj7 xz _ _ yG Hy _ _ G6 zu _ ?side1 ?side2 ?side3 ?side4 A26.out).mono ?_); (case side1 => refine (Kd.dD (e := 27) (base := w.heap.size) (ok := fun k_ => (((True ∧ k_ ≠ gY) ∧ some k_ ≠ (.slice KC G6.length Hw : Value).ownBlock) ∧ k_ ≠ iK)) (n := yG.length) (c := DU) ?_).2.2; exact (by (with_reducible repeat (first | apply Kd.ek | apply Kd.eu | apply Kd.eF)); exact (Kd.bB (Kd.jS (p := ⟨iK, 1, none⟩) (Kd.jS (p := ⟨iK, 0, none⟩) (Kd.bB jZ.out (fun k_ hk => (⟨hk, hk.2⟩ : _ ∧ k_ ≠ iK))) (fun _ hk => hk.2) (.int .i64 Hy)) (fun _ hk => hk.2) (.slice KC G6.length Hw)) (fun _ h_ => h_.1)))); (case side2 => exact (Kd.dD jZ.out).2.1); (case side3 => refine (Kd.dD (e := 27) (base := w.heap.size) (ok := fun k_ => (((True ∧ some k_ ≠ (.slice EU yG.length DU : Value).ownBlock) ∧ k_ ≠ gY) ∧ k_ ≠ iK)) (n := G6.length) (c := Hw) ?_).2.2; exact (by (with_reducible repeat (first | apply Kd.ek | apply Kd.eu | apply Kd.eF)); exact (Kd.bB (Kd.jS (p := ⟨iK, 1, none⟩) (Kd.jS (p := ⟨iK, 0, none⟩) (Kd.bB uj.out (fun k_ hk => (⟨hk, hk.2⟩ : _ ∧ k_ ≠ iK))) (fun _ hk => hk.2) (.int .i64 Hy)) (fun _ hk => hk.2) (.slice KC G6.length Hw)) (fun _ h_ => h_.1)))); (case side4 => exact (Kd.dD uj.out).2.1); rintro e w41 ⟨rfl, hb⟩; have bP := aa.mk (Kd.bu (by (with_reducible repeat (first | apply Kd.ek | apply Kd.eu | apply Kd.eF)); exact (Kd.bB (Kd.jS (p := ⟨iK, 1, none⟩) (Kd.jS (p := ⟨iK, 0, none⟩) (Kd.bB jZ.out (fun k_ hk => (⟨hk, hk.2⟩ : _ ∧ k_ ≠ iK))) (fun _ hk => hk.2) (.int .i64 Hy)) (fun _ hk => hk.2) (.slice KC G6.length Hw)) (fun _ h_ => h_.1))) hb); have bQ := aa.mk (Kd.bu (by (with_reducible repeat (first | apply Kd.ek | apply Kd.eu | apply Kd.eF)); exact (Kd.bB (Kd.jS (p := ⟨iK, 1, none⟩) (Kd.jS (p := ⟨iK, 0, none⟩) (Kd.bB uj.out (fun k_ hk => (⟨hk, hk.2⟩ : _ ∧ k_ ≠ iK))) (fun _ hk => hk.2) (.int .i64 Hy)) (fun _ hk => hk.2) (.slice KC G6.length Hw)) (fun _ h_ => h_.1))) hb); have bT := aa.mk (aC (g := ja) (o := .cells #[.int .i64 aR, .slice bW aH.length bN] 24 (0, 0)) (by (with_reducible repeat (first | refine ax ?_ _ | refine az ?_ | refine au ?_ _)); refine bD ?_ vB.out _; (with_reducible repeat (first | refine ax ?_ _ | refine az ?_ | refine au ?_ _)); refine bD ?_ vB.out _; (with_reducible repeat (first | refine ax ?_ _ | refine az ?_ | refine au ?_ _)); exact dx.out) hb); have di := aa.mk (aC (g := gY) (o := .cells #[.int .i64 xz, .slice EU yG.length DU] 27 (0, 0)) (by (with_reducible repeat (first | refine ax ?_ _ | refine az ?_ | refine au ?_ _)); refine bD ?_ vC.out _; (with_reducible repeat (first | refine ax ?_ _ | refine az ?_ | refine au ?_ _)); refine bD ?_ vC.out _; (with_reducible repeat (first | refine ax ?_ _ | refine az ?_ | refine au ?_ _)); exact iQ.out) hb); have eB := aa.mk (aC (g := iK) (o := .cells #[.int .i64 Hy, .slice KC G6.length Hw] 27 (0, 0)) (by (with_reducible repeat (first | refine ax ?_ _ | refine az ?_ | refine au ?_ _)); refine bL (cs := #[.int .i64 Hy, .slice none 0 0]) ?_ 1 _ rfl; (with_reducible repeat (first | refine ax ?_ _ | refine az ?_ | refine au ?_ _)); refine bL (cs := #[.int .i64 0, .slice none 0 0]) ?_ 0 _ rfl; (with_reducible repeat (first | refine ax ?_ _ | refine az ?_ | refine au ?_ _)); exact xI.out) hb); have gB := aa.mk (aM (bO HB) hb); clear jZ; clear uj; clear dx; clear iQ; clear xI; clear HB; have jZ := bP; have uj := bQ; have dx := bT; have iQ := di; have xI := eB; have HB := gB; clear bP bQ bT di eB gB; (try clear hb); (try clear hb2); (try clear hk); (try clear hi)))
       go_ret;exact ⟨by first | rfl | (simp [aW, aX] <;> rfl) | (simp [*, aW, aX] <;> rfl), bO HB⟩
      ·rw [if_neg ET] at H;have yx : (KF == L6) = false := beq_eq_false_iff_ne.mpr ET;have IL : (KF != L6) = true := bne_iff_ne.mpr ET;obtain rfl := Option.some.inj H;have Wu : wc.cell? ⟨ja, 0, none⟩ = some (.int .i64 aR) := (ae dx.out 0).trans rfl;have Wv : wc.cell? ⟨ja, 1, none⟩ = some (.slice bW aH.length bN) := (ae dx.out 1).trans rfl;have Ww := ai dx.out 0;have Wx := ai dx.out 1;go_wp2_with (first | ((with_reducible refine dE (f := 36) rfl ?_); refine iB (some 32) rfl rfl Try.func36 (by kernel_rfl) rfl #[.agg #[.int .i64 aR, .slice bW aH.length bN], .int .i64 a1] rfl (by (try simp only [List.map_toArray, List.map_cons, List.map_nil]); first | done | rfl | (simp only [List.length_drop, List.length_take]; rfl)) ?_; (with_reducible refine (bA.calls kj7 aR _ _ aH a1 xz yG KF _ ?side1 ?side2 A23.out).mono ?_); (case side1 => repeat (first | exact (Kd.bF eP.out HB.out) | (with_reducible refine Kd.dF ?_ _) | (with_reducible refine Kd.dG ?_ _) | (with_reducible refine Kd.eG ?_))); (case side2 => exact fP.out); rintro e R4 ⟨ajY, rfl, ho0, hb⟩; refine ⟨_, rfl, ?_⟩; have bP := aa.mk (Kd.iL ho0 (aK (bO HB))); have bQ := aa.mk (aC (bk dx) hb); have bT := aa.mk (aM (bO HB) hb); clear dx; clear HB; have jZ := bP; have dx := bQ; have HB := bT; clear bP bQ bT; (try clear hb); (try clear hb2); (try clear hk); (try clear hi); (try clear ho0)) | ((with_reducible refine bM (N := 5) rfl ?_); (try (refine gG (by rfl) ?_; dsimp only)); refine bG ?hg (N := 5) ?hd (cs := #[.int .i64 0, .slice none 0 0]) (t := 27) ?hr ?_; (case hd => rfl); (case hg => rfl); (case hr => first | (go_simp; done) | (go_simp; rfl)); intro gY hg w44 bR hb; have bP := aa.mk (Kd.bu (Kd.uB (by (with_reducible repeat (first | apply Kd.ek | apply Kd.eu | apply Kd.eF)); exact jZ.out) gY (Nat.le_of_eq hg.symm)) hb); have bQ := aa.mk (aC (bk dx) hb); have bT := aa.mk (aM (bO HB) hb); have di := aa.mk (bR); have eB := aa.mk ((by rw [hg]; exact (aK (bO HB)) : w.heap.size ≤ gY)); have gB := aa.mk ((by rw [hg]; exact (aK (bO HB)) : w.heap.size ≤ gY)); have iG := aa.mk ((by rw [hg]; exact Nat.ne_of_lt (bE (bk dx)) : ja ≠ gY)); have sQ := aa.mk ((by rw [hg]; exact Nat.ne_of_gt (bE (bk dx)) : gY ≠ ja)); clear jZ; clear dx; clear HB; have jZ := bP; have dx := bQ; have HB := bT; have iQ := di; have afk := eB; have afl := gB; have oJ := iG; have Ed := sQ; clear bP bQ bT di eB gB iG sQ; clear hb bR hg; have aeY := Ed.out; have aeZ := oJ.out; have Wy : w44.cell? ⟨gY, 0, none⟩ = some (.int .i64 0) := (ae iQ.out 0).trans rfl; have Wz : w44.cell? ⟨gY, 1, none⟩ = some (.slice none 0 0) := (ae iQ.out 1).trans rfl; have WA := ai iQ.out 0; have WB := ai iQ.out 1; obtain ⟨XO, XP, aj0⟩ := Kd.fQ jZ.out; subst aj0; have WE : w44.cell? ⟨ja, 0, none⟩ = some (.int .i64 aR) := (ae dx.out 0).trans rfl; have WG : w44.cell? ⟨ja, 1, none⟩ = some (.slice bW aH.length bN) := (ae dx.out 1).trans rfl; have WH := ai dx.out 0; have WI := ai dx.out 1) | ((with_reducible refine dE (f := 37) rfl ?_); refine iB (some 38) rfl rfl Try.func37 (by kernel_rfl) rfl #[.agg #[.int .i64 aR, .slice bW aH.length bN], .int .i64 a1] rfl (by (try simp only [List.map_toArray, List.map_cons, List.map_nil]); first | done | rfl | (simp only [List.length_drop, List.length_take]; rfl)) ?_; (with_reducible refine (aN.calls kj7 aR _ _ aH a1 Hy G6 L6 _ ?side1 ?side2 A24.out).mono ?_); (case side1 => exact Kd.bF eP.out (bO HB)); (case side2 => exact fP.out); rintro e w49 ⟨ajZ, rfl, ho0, hb⟩; refine ⟨_, rfl, ?_⟩; have bP := aa.mk (Kd.zX (by (with_reducible repeat (first | apply Kd.ek | apply Kd.eu | apply Kd.eF)); exact (Kd.bB (Kd.jS (p := ⟨gY, 1, none⟩) (Kd.jS (p := ⟨gY, 0, none⟩) (Kd.bB jZ.out (fun k_ hk => (⟨hk, hk.2⟩ : _ ∧ k_ ≠ gY))) (fun _ hk => hk.2) (.int .i64 xz)) (fun _ hk => hk.2) (.slice XO yG.length XP)) (fun _ h_ => h_.1))) (Kd.FI ho0) hb); have bQ := aa.mk (Kd.iL (Kd.xU (Kd.I8 ho0 (Kd.xK (by (with_reducible repeat (first | apply Kd.ek | apply Kd.eu | apply Kd.eF)); exact (Kd.bB (Kd.jS (p := ⟨gY, 1, none⟩) (Kd.jS (p := ⟨gY, 0, none⟩) (Kd.bB jZ.out (fun k_ hk => (⟨hk, hk.2⟩ : _ ∧ k_ ≠ gY))) (fun _ hk => hk.2) (.int .i64 xz)) (fun _ hk => hk.2) (.slice XO yG.length XP)) (fun _ h_ => h_.1))))) (g := gY) (o := .cells #[.int .i64 xz, .slice XO yG.length XP] 27 (0, 0)) (by (with_reducible repeat (first | refine ax ?_ _ | refine az ?_ | refine au ?_ _)); refine bL (cs := #[.int .i64 xz, .slice none 0 0]) ?_ 1 _ rfl; (with_reducible repeat (first | refine ax ?_ _ | refine az ?_ | refine au ?_ _)); refine bL (cs := #[.int .i64 0, .slice none 0 0]) ?_ 0 _ rfl; (with_reducible repeat (first | refine ax ?_ _ | refine az ?_ | refine au ?_ _)); exact iQ.out)) (aK (bO HB))); have bT := aa.mk (aC (g := ja) (o := .cells #[.int .i64 aR, .slice bW aH.length bN] 24 (0, 0)) (by (with_reducible repeat (first | refine ax ?_ _ | refine az ?_ | refine au ?_ _)); refine bD ?_ oJ.out _; (with_reducible repeat (first | refine ax ?_ _ | refine az ?_ | refine au ?_ _)); refine bD ?_ oJ.out _; (with_reducible repeat (first | refine ax ?_ _ | refine az ?_ | refine au ?_ _)); exact dx.out) hb); have di := aa.mk (aC (g := gY) (o := .cells #[.int .i64 xz, .slice XO yG.length XP] 27 (0, 0)) (by (with_reducible repeat (first | refine ax ?_ _ | refine az ?_ | refine au ?_ _)); refine bL (cs := #[.int .i64 xz, .slice none 0 0]) ?_ 1 _ rfl; (with_reducible repeat (first | refine ax ?_ _ | refine az ?_ | refine au ?_ _)); refine bL (cs := #[.int .i64 0, .slice none 0 0]) ?_ 0 _ rfl; (with_reducible repeat (first | refine ax ?_ _ | refine az ?_ | refine au ?_ _)); exact iQ.out) hb); have eB := aa.mk (aM (bO HB) hb); clear jZ; clear dx; clear iQ; clear HB; have jZ := bP; have uj := bQ; have dx := bT; have iQ := di; have HB := eB; clear bP bQ bT di eB; (try clear hb); (try clear hb2); (try clear hk); (try clear hi); (try clear ho0)) | ((with_reducible refine bM (N := 7) rfl ?_); (try (refine gG (by rfl) ?_; dsimp only)); refine bG ?hg (N := 7) ?hd (cs := #[.int .i64 0, .slice none 0 0]) (t := 27) ?hr ?_; (case hd => rfl); (case hg => rfl); (case hr => first | (go_simp; done) | (go_simp; rfl)); intro iK hg w50 bR hb; have bP := aa.mk (Kd.bu (Kd.uB (by (with_reducible repeat (first | apply Kd.ek | apply Kd.eu | apply Kd.eF)); exact jZ.out) iK (Nat.le_of_eq hg.symm)) hb); have bQ := aa.mk (Kd.bu (Kd.uB (by (with_reducible repeat (first | apply Kd.ek | apply Kd.eu | apply Kd.eF)); exact uj.out) iK (Nat.le_of_eq hg.symm)) hb); have bT := aa.mk (aC (bk dx) hb); have di := aa.mk (aC (bk iQ) hb); have eB := aa.mk (aM (bO HB) hb); have gB := aa.mk (bR); have iG := aa.mk ((by rw [hg]; exact (aK (bO HB)) : w.heap.size ≤ iK)); have sQ := aa.mk ((by rw [hg]; exact (aK (bO HB)) : w.heap.size ≤ iK)); have xB := aa.mk ((by rw [hg]; exact Nat.ne_of_lt (bE (bk dx)) : ja ≠ iK)); have xC := aa.mk ((by rw [hg]; exact Nat.ne_of_gt (bE (bk dx)) : iK ≠ ja)); have uX := aa.mk ((by rw [hg]; exact Nat.ne_of_lt (bE (bk iQ)) : gY ≠ iK)); have uY := aa.mk ((by rw [hg]; exact Nat.ne_of_gt (bE (bk iQ)) : iK ≠ gY)); clear jZ; clear uj; clear dx; clear iQ; clear HB; have jZ := bP; have uj := bQ; have dx := bT; have iQ := di; have HB := eB; have xI := gB; have afm := iG; have afn := sQ; have vB := xB; have Ee := xC; have vC := uX; have Ef := uY; clear bP bQ bT di eB gB iG sQ xB xC uX uY; clear hb bR hg; have anL := Ee.out; have anM := vB.out; have ae0 := Ef.out; have ae1 := vC.out; have ahL : w50.cell? ⟨iK, 0, none⟩ = some (.int .i64 0) := (ae xI.out 0).trans rfl; have ahM : w50.cell? ⟨iK, 1, none⟩ = some (.slice none 0 0) := (ae xI.out 1).trans rfl; have ahN := ai xI.out 0; have ahO := ai xI.out 1; obtain ⟨ap7, ap8, aj1⟩ := Kd.fQ uj.out; subst aj1))
       go_ret;exact ⟨by first | rfl | (simp [aW, aX] <;> rfl) | (simp [*, aW, aX] <;> rfl), bO HB⟩
end Go.Proofs.Ytamimodkcbbpmaa.Pr
end
section
namespace Go.Proofs.Ytamimodkcbbpmaa.Pr
open Go.RowKit Go.Proofs.YtamimodkcbbpmaaW.PrintWords Go.Proofs.YtamimodkcbbpmaaW.PrintLast
set_option linter.unusedVariables false
set_option linter.unusedSimpArgs false
section
variable (n : Int) (es : List dO)
theorem C9 (ed : List Int) (d : dU) (h0 : 0 ≤ d.f0) (h1 : d.f0 < (es.length : Int)) (hs : d.f1.length ≤ 1000000) (hl : d.f1.length = (aj es d.f0).f1.length)
  (hk : ∀ j, j < d.f1.length → Ev (fun k => aT.f k n es ed ((aj es d.f0).f1.getD j 0)) ((d.f1.getD j z27).f0, (d.f1.getD j z27).f1)) :
  ∀ m i, i + m = d.f1.length → Ev (fun k => aT.l0 k ed (aj es d.f0).f1 (i : Int) n es d.f0 (d.f1.take i)) (d.f0, d.f1)
 | 0, i, hi => by
  have hi2 : i = d.f1.length := by omega
  rw [hi2, List.take_length];refine (Ev.const _).succ (fun k => ?_);show aT.l0 (k + 1) _ _ _ _ _ _ _ = _;rw [aT.l0, if_neg (by omega)]
 | m + 1, i, hi => by
  have ea := hk i (by omega);have hw := RY i (by omega);have ec := C9 ed d h0 h1 hs hl hk m (i + 1) (by omega);have ht : d.f1.take (i + 1) = d.f1.take i ++ [d.f1.getD i z27] := by
   rw [List.take_succ_eq_append_getElem (by omega), List.getD_eq_getElem?_getD, List.getElem?_eq_getElem (by omega)];rfl
  rw [ht] at ec;have hal : (d.f1.take i).length < 4398046511104 := by rw [List.length_take]; omega
  have hrd : rd (aj es d.f0).f1 (i : Int) = (aj es d.f0).f1.getD i 0 := rfl;refine (Ev.bind (G := fun k t => if (d.f1.take i).length < 4398046511104 then aT.l0 k ed (aj es d.f0).f1 ((i + 1 : Nat) : Int) n es d.f0 (d.f1.take i ++ [(⟨t.1, t.2⟩ : dU)]) else none) ea (Ev.mp ec (fun k => by rw [if_pos hal, dU.eta']))).succ (fun k => ?_);show aT.l0 (k + 1) _ _ _ _ _ _ _ = _;rw [aT.l0, if_pos (by omega), if_pos (by omega), hw, hrd]
theorem Og (Qn : ∀ e, e ∈ es → e.f1.length ≤ 1000000) {ed : List Int} {v : Int} {d : dU} (h : BD es ed v d) : Ev (fun k => aT.f k n es ed v) (d.f0, d.f1) := by
 induction h with
 | mk v d h0 h1 he h2 h3 hl hk ih =>
  have hs : (aj es d.f0).f1.length ≤ 1000000 := by
   refine Qn _ ?_;simp only [aj];exact ib _ _ _ (by omega)
  have ea := C9 n es ed d h2 h3 (by omega) hl ih d.f1.length 0 (by omega);rw [List.take_zero] at ea;refine ea.succ (fun k => ?_);show aT.f (k + 1) _ _ _ _ = _;rw [aT.f, if_pos h0, if_pos h1, ← he, if_pos h2, if_pos h3];rfl
variable (hl : es.length ≤ 9223372036854775807) (ht : ∀ e, e ∈ es → e.f1.length ≤ 9223372036854775807)
include hl ht
theorem L8 {b : Bool} (hb : jJ n es = b) (r : Int) {x : Int × List dU × Int} (hx : Ev (fun k => if b = true then aN.j0 k r n es else some (0, [], 1)) x) : Ev (fun k => aN.f k n es r) x := by
 have h1 := zS n es hl ht;rw [hb] at h1;exact Ev.bind (G := fun k t => if t = true then aN.j0 k r n es else some (0, [], 1)) h1 hx
theorem RJ (h : jJ n es = false) (r : Int) : Ev (fun k => aN.f k n es r) (0, [], 1) :=
 L8 n es hl ht h r ((Ev.const _).mp (fun k => rfl))
theorem L9 (h : jJ n es = true) (r : Int) {x : Int × List dU × Int} (hx : Ev (fun k => aN.j0 k r n es) x) : Ev (fun k => aN.f k n es r) x :=
 L8 n es hl ht h r (hx.mp (fun k => rfl))
theorem Ma (h : jJ n es = true) (r : Int) (hr : r < 0 ∨ n ≤ r) : Ev (fun k => aN.f k n es r) (0, [], 2) := by
 have h1 : Ev (fun k => aN.j1 k r true n es) (0, [], 2) := (Ev.const _).succ (fun k => by rw [aN.j1, if_pos rfl]);refine L9 n es hl ht h r (h1.succ (fun k => ?_));rw [aN.j0];by_cases h0 : r < 0
 ·rw [if_pos h0]
 ·rw [if_neg h0, decide_eq_true (by omega)]
theorem Mc (h : kF n es) (r : Int) (h0 : 0 ≤ r) (h1 : r < n) {x : Int × List dU × Int} (hx : Ev (fun k => if (bJ (jy n.toNat es) r).f0 ≥ 1099511627776 then some (0, [], 6) else (aT.f k n es (xL n.toNat es) r).bind fun b => some (b.1, b.2, 0)) x) : Ev (fun k => aN.f k n es r) x := by
 have hsl := h.NG;have h2 : Ev (fun k => aN.j2 k r n es) x := hx.succ (fun k => by
  rw [aN.j2, eQ.f, if_pos h.GA, Option.bind_some, if_pos h0, if_pos (show r < ((jy n.toNat es).length : Int) by omega)])
 have h3 : Ev (fun k => aN.j1 k r false n es) x := h2.succ (fun k => by rw [aN.j1, if_neg (by decide)]);exact L9 n es hl ht h.valid r (h3.succ (fun k => by rw [aN.j0, if_neg (by omega), decide_eq_false (by omega)]))
theorem Oh (h : kF n es) (r : Int) (h0 : 0 ≤ r) (h1 : r < n) (hi : 1099511627776 ≤ (bJ (jy n.toNat es) r).f0) : Ev (fun k => aN.f k n es r) (0, [], 6) :=
 Mc n es hl ht h r h0 h1 ((Ev.const _).mp (fun k => if_pos hi))
theorem Oi (h : kF n es) (r : Int) (h0 : 0 ≤ r) (h1 : r < n) (hi : (bJ (jy n.toNat es) r).f0 < 1099511627776) {d : dU} (hb : BD es (xL n.toNat es) r d) : Ev (fun k => aN.f k n es r) (d.f0, d.f1, 0) := by
 refine Mc n es hl ht h r h0 h1 ?_;have h2 := Og n es (fun e he => by have := h.ta e he; omega) hb;exact (Ev.bind (G := fun k b => some (b.1, b.2, 0)) h2 (Ev.const _)).mp (fun k => if_neg (by omega))
theorem RL (r : Int) : Ev (fun k => ay.f k n es r) true := by
 have hs : ∀ b : Bool, Ev (fun k => ay.j1 k r b n es) true → True := fun _ _ => trivial
 have htr : Ev (fun k => ay.j1 k r true n es) true := (Ev.const true).succ (fun k => by rw [ay.j1, if_pos rfl]);have both : ∀ (d : dU) (e : Int), fO d → Ev (fun k => bA.f k n es r) (d.f0, d.f1, e) → Ev (fun k => aN.f k n es r) (d.f0, d.f1, e) → Ev (fun k => ay.j1 k r false n es) true := by
  intro d e hf h1 h2;obtain ⟨q, h3, hq⟩ := LQ hf d;obtain rfl : q = true := hq.2 rfl;refine (Ev.bind (G := fun k yF => (aN.f k n es r).bind fun nZ => if yF.2.2 = nZ.2.2 then ((aI.f k yF.1 yF.2.1 nZ.1 nZ.2.1).bind fun zu => some zu) else some false) h1 (Ev.bind (G := fun k nZ => if e = nZ.2.2 then ((aI.f k d.f0 d.f1 nZ.1 nZ.2.1).bind fun zu => some zu) else some false) h2 ((Ev.bind (G := fun k zu => some zu) h3 (Ev.const true)).mp (fun k => if_pos rfl)))).succ (fun k => ?_);rw [ay.j1, if_neg (by decide)]
 have fz : ∀ e : Int, fO ⟨0, []⟩ := fun _ => fO.mk _ ⟨by decide, by decide⟩ (by decide) (fun v hv => by cases hv)
 have main : Ev (fun k => ay.j0 k r n es) true := by
  by_cases c1 : n > 30
  ·exact htr.succ (fun k => by rw [ay.j0, if_pos c1])
  ·by_cases c2 : (es.length : Int) > 60
   ·exact htr.succ (fun k => by rw [ay.j0, if_neg c1, if_pos c2])
   ·have hv := zS n es hl ht
    cases hb : jJ n es with
    | false =>
     rw [hb] at hv;have h1 := both ⟨0, []⟩ 1 (fz 1) (UE n es hb r) (RJ n es hl ht hb r);exact (Ev.bind (G := fun k t => if t = true then ((aU.f k n es).bind fun Od => (ay.j1 k r (!Od) n es)) else ay.j1 k r false n es) hv (h1.mp (fun k => rfl))).succ (fun k => by
      show ay.j0 (k + 1) r n es = _;rw [ay.j0, if_neg c1, if_neg c2])
    | true =>
     rw [hb] at hv;obtain ⟨b, hsh, hbs⟩ := LA n es hl ht;have hj : Ev (fun k => ay.j1 k r (!b) n es) true := by
      cases b with
      | false => exact htr
      | true =>
       have hS := hbs.1 rfl;have h30 := hS.small.n2;by_cases h0 : r < 0 ∨ n ≤ r
       ·exact both ⟨0, []⟩ 2 (fz 2) (NQ n es hb r h0) (Ma n es hl ht hb r h0)
       ·by_cases hi : 1099511627776 ≤ (bJ (jy n.toNat es) r).f0
        ·exact both ⟨0, []⟩ 6 (fz 6) (RA n es hS.small r (by omega) (by omega) hi) (Oh n es hl ht hS.small r (by omega) (by omega) hi)
        ·obtain ⟨t, rfl⟩ : ∃ t : Nat, r = (t : Int) := ⟨r.toNat, by omega⟩;obtain ⟨d, bd, vd, _⟩ := BD.fin hS (t := t) (by omega) (by omega);exact both d 0 (vd.fits hS.small) (RB n es hS.small _ (by omega) (by omega) (by omega) bd) (Oi n es hl ht hS.small _ (by omega) (by omega) (by omega) bd)
     exact (Ev.bind (G := fun k t => if t = true then ((aU.f k n es).bind fun Od => (ay.j1 k r (!Od) n es)) else ay.j1 k r false n es) hv ((Ev.bind (G := fun k Od => ay.j1 k r (!Od) n es) hsh hj).mp (fun k => rfl))).succ (fun k => by
      show ay.j0 (k + 1) r n es = _;rw [ay.j0, if_neg c1, if_neg c2])
 exact main.mp (fun k => by unfold ay.f ig.f; rfl)
end
end Go.Proofs.Ytamimodkcbbpmaa.Pr
end
section
namespace Go.Proofs.Ytamimodkcbbpmaa.Pr
open Go.RowKit Go.Proofs.YtamimodkcbbpmaaW.PrintWords Go.Proofs.YtamimodkcbbpmaaW.PrintLast
theorem KG (n : Int) (A : Option Addr) (c : Nat) (l : List dO) (r : Int) (w : World) (hC : Kd.C sJ w A l.length l) (hc : l.length ≤ c) (hf : ∀ e, e ∈ l → Dl e) :
  Calls Try.prog 6 #[.agg #[.int .i64 n, .slice A l.length c], .int .i64 r] w fun e w' => e = .returned (.bool true) ∧ Below w.heap.size w w' := by
 obtain ⟨K, hK⟩ := (RL n l hC.2.1 (fun e he => (hf e he).len) r).ex;exact ay.calls K n A c l r true w hC hc hK
end Go.Proofs.Ytamimodkcbbpmaa.Pr
end
