/- F53 XAwake38 TS XEq F92 F59 F15 TL: a part of the proof of the row of a; no conditions. -/
import Derived.Test.YtamimodkcbbpmaaG2
import Derived.Test.YtamimodkcbbpmaaG8
import Derived.Test.YtamimodkcbbpmaaG5
import Derived.Test.YtamimodkcbbpmaaG3
import Derived.Test.YtamimodkcbbpmaaG7
section
namespace Go.Proofs.Ytamimodkcbbpmaa.Pr
open Go.RowKit Go.Proofs.YtamimodkcbbpmaaW.PrintWords Go.Proofs.YtamimodkcbbpmaaW.PrintLast Go.Proofs.YtamimodkcbbpmaaW.PrintMore Go.Proofs.YtamimodkcbbpmaaXW
attribute [local go_sem] aFh ky lX lY jf jg kz kC
set_option linter.unusedVariables false
set_option linter.unusedSimpArgs false
mutual
def Ae.j0 : Nat → Bool → Int → List (S64) → Int → List (S64) → Option (Bool)
 | 0, _, _, _, _, _ => none
 | k + 1, x19, auo, ar1, aup, ar8 => if x19 = true then (some false) else (Ae.j1 k auo ar1 aup ar8)
def Ae.j1 : Nat → Int → List (S64) → Int → List (S64) → Option (Bool)
 | 0, _, _, _, _ => none
 | k + 1, auo, ar1, aup, ar8 => Ae.l0 k 0 auo ar1 aup ar8
def Ae.l0 : Nat → Int → Int → List (S64) → Int → List (S64) → Option (Bool)
 | 0, _, _, _, _, _ => none
 | k + 1, x5, auo, ar1, aup, ar8 => if x5 < (ar1.length : Int) then (if 0 ≤ x5 then (if x5 < (ar8.length : Int) then ((Ae.f k ((FW ar1 x5).f0) ((FW ar1 x5).f1) ((FW ar8 x5).f0) ((FW ar8 x5).f1)).bind fun aAs => (if aAs = true then (Ae.l0 k (wrap64 (x5 + 1)) auo ar1 aup ar8) else (some false))) else (none)) else (none)) else (some true)
def Ae.f : Nat → Int → List (S64) → Int → List (S64) → Option (Bool)
 | 0, _, _, _, _ => none
 | k + 1, aR, aH, cK, cz => if aR = cK then (Ae.j0 k ((aH.length : Int) != (cz.length : Int)) aR aH cK cz) else (Ae.j0 k true aR aH cK cz)
end
theorem Ae.apw : ∀ k, (∀ y0 y1 y2 y3, dz (Ae.f k y0 y1 y2 y3) (Ae.f (k + 1) y0 y1 y2 y3)) ∧ (∀ y0 y1 y2 y3 y4, dz (Ae.j0 k y0 y1 y2 y3 y4) (Ae.j0 (k + 1) y0 y1 y2 y3 y4)) ∧ (∀ y0 y1 y2 y3, dz (Ae.j1 k y0 y1 y2 y3) (Ae.j1 (k + 1) y0 y1 y2 y3)) ∧ (∀ y0 y1 y2 y3 y4, dz (Ae.l0 k y0 y1 y2 y3 y4) (Ae.l0 (k + 1) y0 y1 y2 y3 y4))
 | 0 => ⟨fun _ _ _ _ r h => by simp [Ae.f] at h, fun _ _ _ _ _ r h => by simp [Ae.j0] at h, fun _ _ _ _ r h => by simp [Ae.j1] at h, fun _ _ _ _ _ r h => by simp [Ae.l0] at h⟩
 | k + 1 => by
  obtain ⟨jP, ih1, ih2, ih3⟩ := Ae.apw k;refine ⟨?_, ?_, ?_, ?_⟩;all_goals intros
  all_goals first | unfold Ae.f | unfold Ae.j0 | unfold Ae.j1 | unfold Ae.l0
  all_goals
   repeat' first
   | (with_reducible exact jP _ _ _ _)
   | (with_reducible exact ih1 _ _ _ _ _)
   | (with_reducible exact ih2 _ _ _ _)
   | (with_reducible exact ih3 _ _ _ _ _)
   | (with_reducible exact dz.refl _)
   | (with_reducible exact dz.none _)
   | (with_reducible refine dz.ite ?_ ?_)
   | (with_reducible refine dz.bind ?_ (fun _ => ?_))
   | exact jP _ _ _ _
   | exact ih1 _ _ _ _ _
   | exact ih2 _ _ _ _
   | exact ih3 _ _ _ _ _
   | exact dz.none _
   | refine dz.ite ?_ ?_
   | refine dz.bind ?_ (fun _ => ?_)
theorem Ae.mono : ∀ a0 a1 a2 a3 k, dz (Ae.f k a0 a1 a2 a3) (Ae.f (k + 1) a0 a1 a2 a3) := by
 intro a0 a1 a2 a3 k;obtain ⟨jP, ih1, ih2, ih3⟩ := Ae.apw k;exact jP a0 a1 a2 a3
def Ae.T6 : Bool × List (List Nat × List Nat) := (true, [([], []), ([0], [0]), ([], []), ([1, 2], [1, 2]), ([3], [3]), ([], []), ([5], [5]), ([], []), ([6, 7], [6, 7]), ([8], [8]), ([4, 9], [4, 9]), ([10], [10])])
def Ae.B6 : List Nat := [0, 1, 0, 7, 15, 0, 32, 0, 224, 480, 1023, 2047]
theorem Ae.Jt : iC .any (opsOf Try.f53 6) = Ae.T6 := by kernel_rfl
theorem Ae.axs : fo Ae.T6.2 Ae.B6 = true := by kernel_rfl
set_option maxHeartbeats 8000000 in
set_option maxRecDepth 100000 in
theorem Ae.calls (k : Nat) : ∀ (aR : Int) (bW : Option Addr) (bN : Nat) (aH : List (S64)) (cK : Int) (av3 : Option Addr) (lJ : Nat) (cz : List (S64)) (r : Bool) (w : World) (fw : Kd.C OG w bW aH.length aH) (fC : aH.length ≤ bN) (yz : Kd.C OG w av3 cz.length cz) (yA : cz.length ≤ lJ) (h : Ae.f k aR aH cK cz = some r),
  Calls Try.prog 53 #[.agg #[.int .i64 aR, .slice bW aH.length bN], .agg #[.int .i64 cK, .slice av3 cz.length lJ]] w fun e w' => e = .returned (.bool r) ∧ Below w.heap.size w w' := by
 induction k using Nat.strongRecOn with
 | _ k ih =>
 intro aR bW bN aH cK av3 lJ cz r w fw fC yz yA h
 cases k with
 | zero => exact absurd h (by simp [Ae.f])
 | succ k =>
 simp only [Ae.f] at h;have hu64 := Try.underlying64;have arT := aa.mk fw;have fP := aa.mk fC;clear fw fC;have ED := aa.mk yz;have TZ := aa.mk yA;clear yz yA;have HB := aa.mk (Below.refl w.heap.size w);have H : (if aR = cK then (Ae.j0 k ((aH.length : Int) != (cz.length : Int)) aR aH cK cz) else (Ae.j0 k true aR aH cK cz)) = some r := h;clear h;have Uo := aa.mk H;clear H;go_enter Try.func53, Try.ntmps53
 go_upto_region 1 with (first | ((with_reducible refine bM (N := 2) rfl ?_); (try (refine gG (by rfl) ?_; dsimp only)); refine bG ?hg (N := 2) ?hd (cs := #[.int .i64 aR, .slice bW aH.length bN]) (t := 64) ?hr ?_; (case hd => rfl); (case hg => rfl); (case hr => first | (go_simp; done) | (go_simp; rfl)); intro aqF hg w4 bR hb; have bP := aa.mk (aM (bO HB) hb); have bQ := aa.mk (bR); have bT := aa.mk ((by rw [hg]; exact (aK (bO HB)) : w.heap.size ≤ aqF)); have di := aa.mk ((by rw [hg]; exact (aK (bO HB)) : w.heap.size ≤ aqF)); clear HB; have HB := bP; have apy := bQ; have aOK := bT; have aOL := di; clear bP bQ bT di; clear hb bR hg) | ((with_reducible refine bM (N := 3) rfl ?_); (try (refine gG (by rfl) ?_; dsimp only)); refine bG ?hg (N := 3) ?hd (cs := #[.int .i64 cK, .slice av3 cz.length lJ]) (t := 64) ?hr ?_; (case hd => rfl); (case hg => rfl); (case hr => first | (go_simp; done) | (go_simp; rfl)); intro arW hg w5 bR hb; have bP := aa.mk (aC (bk apy) hb); have bQ := aa.mk (aM (bO HB) hb); have bT := aa.mk (bR); have di := aa.mk ((by rw [hg]; exact (aK (bO HB)) : w.heap.size ≤ arW)); have n4_ := aa.mk ((by rw [hg]; exact (aK (bO HB)) : w.heap.size ≤ arW)); have n5_ := aa.mk ((by rw [hg]; exact Nat.ne_of_lt (bE (bk apy)) : aqF ≠ arW)); have iG := aa.mk ((by rw [hg]; exact Nat.ne_of_gt (bE (bk apy)) : arW ≠ aqF)); clear apy; clear HB; have apy := bP; have HB := bQ; have aqi := bT; have aOM := di; have aON := n4_; have asc := n5_; have ase := iG; clear bP bQ bT di n4_ n5_ iG; clear hb bR hg))
 (try simp only [Act.put, List.setIfInBounds_toArray, List.set_cons_zero, List.set_cons_succ]);go_cut [19] (fun v19 wc => ∃ (kq : Nat) (Qr : Bool), v19 = .bool Qr ∧ aa (Ae.j0 kq Qr aR aH cK cz = some r) ∧ aa (kq ≤ k) ∧ aa (wc.heap[aqF]? = some (.cells #[.int .i64 aR, (.slice bW aH.length bN)] 64 (0, 0))) ∧ aa (wc.heap[arW]? = some (.cells #[.int .i64 cK, (.slice av3 cz.length lJ)] 64 (0, 0))) ∧ aa (Below w.heap.size w wc))
 case first =>
  have H := Uo.out;clear Uo;by_cases c6 : aR = cK
  ·rw [if_pos c6] at H;have Dy : (aR == cK) = true := beq_iff_eq.mpr c6;have XA : (aR != cK) = false := bne_eq_false_iff_eq.mpr c6;clear c6
   (first | rw [Dy] | (simp only [bH, bI]; rw [Dy]) | skip)
   have H' := aa.mk H;clear H;have aaL := asc.out;have aaM := ase.out;have nG : w5.cell? ⟨aqF, 0, none⟩ = some (.int .i64 aR) := (ae apy.out 0).trans rfl;have nH : w5.cell? ⟨aqF, 1, none⟩ = some (.slice bW aH.length bN) := (ae apy.out 1).trans rfl;have nI := ai apy.out 0;have nJ := ai apy.out 1;have nP : w5.cell? ⟨arW, 0, none⟩ = some (.int .i64 cK) := (ae aqi.out 0).trans rfl;have nQ : w5.cell? ⟨arW, 1, none⟩ = some (.slice av3 cz.length lJ) := (ae aqi.out 1).trans rfl;have nR := ai aqi.out 0;have nS := ai aqi.out 1;go_wp2;go_meet
   case rel => exact ⟨_, (((aH.length : Int) != (cz.length : Int))), (by first | rfl | (simp; done) | (simp [*]; done)), H', ⟨by first | omega | exact Nat.le_refl _⟩, ⟨by (with_reducible repeat (first | refine ax ?_ _ | refine az ?_ | refine au ?_ _)); exact apy.out⟩, ⟨by (with_reducible repeat (first | refine ax ?_ _ | refine az ?_ | refine au ?_ _)); exact aqi.out⟩, ⟨bO HB⟩⟩
  ·rw [if_neg c6] at H;have Dy : (aR == cK) = false := beq_eq_false_iff_ne.mpr c6;have XA : (aR != cK) = true := bne_iff_ne.mpr c6
   (first | rw [Dy] | (simp only [bH, bI]; rw [Dy]) | skip)
   have H' := aa.mk H;clear H;have adr := asc.out;have ads := ase.out;have oW : w5.cell? ⟨aqF, 0, none⟩ = some (.int .i64 aR) := (ae apy.out 0).trans rfl;have oZ : w5.cell? ⟨aqF, 1, none⟩ = some (.slice bW aH.length bN) := (ae apy.out 1).trans rfl;have o5 := ai apy.out 0;have o6 := ai apy.out 1;have jK : w5.cell? ⟨arW, 0, none⟩ = some (.int .i64 cK) := (ae aqi.out 0).trans rfl;have jL : w5.cell? ⟨arW, 1, none⟩ = some (.slice av3 cz.length lJ) := (ae aqi.out 1).trans rfl;have jM := ai aqi.out 0;have jN := ai aqi.out 1;go_wp2;go_meet
   case rel => exact ⟨_, (true), (by first | rfl | (simp; done) | (simp [*]; done)), H', ⟨by first | omega | exact Nat.le_refl _⟩, ⟨by (with_reducible repeat (first | refine ax ?_ _ | refine az ?_ | refine au ?_ _)); exact apy.out⟩, ⟨by (with_reducible repeat (first | refine ax ?_ _ | refine az ?_ | refine au ?_ _)); exact aqi.out⟩, ⟨bO HB⟩⟩
 case rest =>
  clear Uo;(try clear c1); (try clear p2); (try clear c5); (try clear c6); (try clear Dy); (try clear XA); (try clear c7); (try clear c10); (try clear oW); (try clear oZ); (try clear jK); (try clear jL); (try clear nG); (try clear nH); (try clear nP); (try clear nQ); (try clear o5); (try clear o6); (try clear jM); (try clear jN); (try clear nI); (try clear nJ); (try clear nR); (try clear nS);obtain ⟨kq, Qr, rfl, HA, HJ2, apy, aqi, HB⟩ := hcut
  cases kq with
  | zero => exact absurd HA.out (by simp [Ae.j0])
  | succ kj2 =>
   have H := HA.out;clear HA;simp only [Ae.j0] at H;have Gt := aa.mk H;clear H;go_upto_if 19 with (fail)
   go_cut [] (fun wc => ∃ (kq : Nat), aa (Ae.j1 kq aR aH cK cz = some r) ∧ aa (kq ≤ kj2) ∧ aa (wc.heap[aqF]? = some (.cells #[.int .i64 aR, (.slice bW aH.length bN)] 64 (0, 0))) ∧ aa (wc.heap[arW]? = some (.cells #[.int .i64 cK, (.slice av3 cz.length lJ)] 64 (0, 0))) ∧ aa (Below w.heap.size w wc))
   case first =>
    have H := Gt.out;clear Gt;by_cases c14 : Qr = true
    ·subst c14;have H1 : (some false) = some r := by rw [if_pos rfl] at H; exact H
     clear H;have H := H1;clear H1;obtain rfl := Option.some.inj H;go_wp2;go_ret;exact ⟨by first | rfl | (simp [aW, aX] <;> rfl) | (simp [*, aW, aX] <;> rfl), bO HB⟩
    ·replace c14 := Bool.eq_false_iff.mpr c14;subst c14;have H1 : (Ae.j1 kj2 aR aH cK cz) = some r := by rw [if_neg (show ¬ (false = true) by decide)] at H; exact H
     clear H;have H := H1;clear H1;have H' := aa.mk H;clear H;go_wp2;go_meet
     case rel => exact ⟨_, H', ⟨by have := HJ2.out; first | omega | exact Nat.le_refl _⟩, ⟨by (with_reducible repeat (first | refine ax ?_ _ | refine az ?_ | refine au ?_ _)); exact apy.out⟩, ⟨by (with_reducible repeat (first | refine ax ?_ _ | refine az ?_ | refine au ?_ _)); exact aqi.out⟩, ⟨bO HB⟩⟩
   case rest =>
    clear Gt;(try clear c1); (try clear p2); (try clear c5); (try clear c6); (try clear Dy); (try clear XA); (try clear c7); (try clear c10); (try clear c14); (try clear oW); (try clear oZ); (try clear jK); (try clear jL); (try clear nG); (try clear nH); (try clear nP); (try clear nQ); (try clear o5); (try clear o6); (try clear jM); (try clear jN); (try clear nI); (try clear nJ); (try clear nR); (try clear nS); (try clear p2);obtain ⟨kq, HA, Bp, apy, aqi, HB⟩ := hcut
    cases kq with
    | zero => exact absurd HA.out (by simp [Ae.j1])
    | succ kj12 =>
     have H := HA.out;clear HA;simp only [Ae.j1] at H;have H' := aa.mk H;clear H;go_wp2;go_loopg [5] kj12 (fun kq v5 w' => ∃ (gT : Int), v5 = .int .i64 gT ∧ aa (Ae.l0 kq gT aR aH cK cz = some r) ∧ aa (kq ≤ kj12) ∧ aa (w'.heap[aqF]? = some (.cells #[.int .i64 aR, (.slice bW aH.length bN)] 64 (0, 0))) ∧ aa (w'.heap[arW]? = some (.cells #[.int .i64 cK, (.slice av3 cz.length lJ)] 64 (0, 0))) ∧ aa (Below w.heap.size w w'))
     case atStart => exact ⟨(0), (by first | rfl | (simp; done) | (simp [*]; done)), H', ⟨Nat.le_refl _⟩, ⟨by (with_reducible repeat (first | refine ax ?_ _ | refine az ?_ | refine au ?_ _)); exact apy.out⟩, ⟨by (with_reducible repeat (first | refine ax ?_ _ | refine az ?_ | refine au ?_ _)); exact aqi.out⟩, ⟨bO HB⟩⟩
     case round =>
      clear H';(try clear c1); (try clear p2); (try clear c5); (try clear c6); (try clear Dy); (try clear XA); (try clear c7); (try clear c10); (try clear c14); (try clear oW); (try clear oZ); (try clear jK); (try clear jL); (try clear nG); (try clear nH); (try clear nP); (try clear nQ); (try clear o5); (try clear o6); (try clear jM); (try clear jN); (try clear nI); (try clear nJ); (try clear nR); (try clear nS); (try clear p2);obtain ⟨gT, rfl, HA, xO, apy, aqi, HB⟩ := hrel
      cases gk with
      | zero => exact absurd HA.out (by simp [Ae.l0])
      | succ k3 =>
       have H := HA.out;clear HA;simp only [Ae.l0] at H;by_cases c15 : gT < (aH.length : Int)
       ·rw [if_pos c15] at H;have tF : decide (gT < (aH.length : Int)) = true := decide_eq_true c15;clear c15;by_cases c16 : 0 ≤ gT
        ·rw [if_pos c16] at H;have EC : decide (0 ≤ gT) = true := decide_eq_true c16;clear c16;by_cases c17 : gT < (cz.length : Int)
         ·rw [if_pos c17] at H;have Zc : decide (gT < (cz.length : Int)) = true := decide_eq_true c17;clear c17;replace H := Option.bind_eq_some_iff.mp H;obtain ⟨aAs, UM, H⟩ := H;replace H : (if aAs = true then (Ae.l0 k3 (wrap64 (gT + 1)) aR aH cK cz) else (some false)) = some r := H;have A18 := aa.mk UM;clear UM;by_cases c19 : aAs = true
          ·subst c19;have H1 : (Ae.l0 k3 (wrap64 (gT + 1)) aR aH cK cz) = some r := by rw [if_pos rfl] at H; exact H
           clear H;have H := H1;clear H1;have H' := aa.mk H;clear H;have OQ := asc.out;have OT := ase.out;have qi : wr.cell? ⟨aqF, 0, none⟩ = some (.int .i64 aR) := (ae apy.out 0).trans rfl;have qj : wr.cell? ⟨aqF, 1, none⟩ = some (.slice bW aH.length bN) := (ae apy.out 1).trans rfl;have ql := ai apy.out 0;have qm := ai apy.out 1;try go_wp2
           have bP := aa.mk (az apy.out);have bQ := aa.mk (az aqi.out);have bT := aa.mk (fK HB.out);clear apy aqi HB;have apy := bP;have aqi := bQ;have HB := bT;clear bP bQ bT;have axk : 0 ≤ (gT : Int) := of_decide_eq_true (by first | (with_reducible assumption) | assumption);have axl : gT < (aH.length : Int) := of_decide_eq_true (by first | (with_reducible assumption) | assumption);obtain ⟨auq, avo, avp, aBG, arI, arJ, aur, aus⟩ := ah8 arT.out gT axk axl;have aut := arJ;have auu := arI
           cases aBG;replace arI := ah HB.out arI;replace arJ := ah HB.out arJ;have auv := aa.mk aus;have av4 := aa.mk aur;clear aus aur;replace axk := eq_true axk;replace axl := eq_true axl;have axm : 0 ≤ (gT : Int) := of_decide_eq_true (by first | (with_reducible assumption) | assumption);have axn : gT < (cz.length : Int) := of_decide_eq_true (by first | (with_reducible assumption) | assumption);obtain ⟨auw, avq, avr, aBH, arK, arL, auy, auz⟩ := ah8 ED.out gT axm axn;have auA := arL;have auB := arK
           cases aBH;replace arK := ah HB.out arK;replace arL := ah HB.out arL;have auC := aa.mk auz;have av5 := aa.mk auy;clear auz auy;replace axm := eq_true axm;replace axn := eq_true axn;refine fu (n := 12) (S := fun w' => w'.cell? ⟨aqF, 0, none⟩ = some (.int .i64 aR) ∧ w'.cell? ⟨aqF, 1, none⟩ = some (.slice (some auq) aH.length bN) ∧ w'.cell? ⟨arW, 0, none⟩ = some (.int .i64 cK) ∧ w'.cell? ⟨arW, 1, none⟩ = some (.slice (some auw) cz.length lJ) ∧ w'.cell? (auq.add ((gT).toNat * 2)) = some (.int .i64 ((FW aH gT).f0)) ∧ w'.cell? ⟨(auq.add ((gT).toNat * 2)).block, (auq.add ((gT).toNat * 2)).off + 1, none⟩ = some (.slice avo ((FW aH gT).f1).length avp) ∧ w'.cell? (auw.add ((gT).toNat * 2)) = some (.int .i64 ((FW cz gT).f0)) ∧ w'.cell? ⟨(auw.add ((gT).toNat * 2)).block, (auw.add ((gT).toNat * 2)).off + 1, none⟩ = some (.slice avq ((FW cz gT).f1).length avr)) (ds := []) #[false, false, false, false, false, false, false, false, false, false, false, false] (by kernel_rfl) rfl rfl ⟨(ae apy.out 0).trans rfl, (ae apy.out 1).trans rfl, (ae aqi.out 0).trans rfl, (ae aqi.out 1).trans rfl, (ah HB.out auu), (ah HB.out aut), (ah HB.out auB), (ah HB.out auA)⟩ (fun hHeld => ?_); refine dw Ae.Jt Ae.axs (fun dA ji => ?_);generalize wr.drew = w22 at apy aqi HB auv auC arI arJ arK arL hHeld ⊢;refine fG (fuel := 2) [(0, 27), (2, 29), (5, 32), (7, 34), (1, 28), (3, 30), (4, 31), (6, 33), (8, 35), (9, 36)] #[true, true, true, true, true, true, true, true, true, true, false, false] (df dA.out ji.out _ _ _ (by kernel_rfl)) rfl (fun _ _ _ _ _ h => h) hHeld (a' := ?_) ?_ ?_;rotate_left
           ·iterate 10
             refine bC (v := ?_) (a1 := ?_) rfl rfl (Or.inl ⟨by rfl, ?_⟩) ?_ ?_;rotate_left 2
             ·rintro w' ⟨s0, s1, s2, s3, s4, s5, s6, s7⟩;go_simp;with_reducible rfl
             ·simp only [Act.put, List.setIfInBounds_toArray, List.set_cons_zero, List.set_cons_succ, bH, bI];rfl
            exact chain_nil
           refine fT (i := 10) (N := some 37) #[true, true, true, true, true, true, true, true, true, true, true, false] rfl rfl (dn dA.out (by kernel_rfl)) (by decide) (fun K hK => ?_);refine uC Try.func53 (by kernel_rfl) rfl #[.agg #[.int .i64 ((FW aH gT).f0), .slice avo ((FW aH gT).f1).length avp], .agg #[.int .i64 ((FW cz gT).f0), .slice avq ((FW cz gT).f1).length avr]] (by rfl) rfl rfl (by (try simp only [List.map_toArray, List.map_cons, List.map_nil]); first | done | rfl | (simp only [List.length_drop, List.length_take]; rfl)) ?_;with_reducible refine (ih k3 (by have := HJ2.out; have := Bp.out; have := xO.out; omega) ((FW aH gT).f0) _ _ ((FW aH gT).f1) ((FW cz gT).f0) _ _ ((FW cz gT).f1) true _ ?side1 ?side2 ?side3 ?side4 A18.out).mono ?_
           (case side1 => repeat (first | exact (Kd.bF auv.out HB.out) | (with_reducible refine Kd.dF ?_ _) | (with_reducible refine Kd.dG ?_ _) | (with_reducible refine Kd.eG ?_)));(case side2 => exact av4.out);(case side3 => repeat (first | exact (Kd.bF auC.out HB.out) | (with_reducible refine Kd.dF ?_ _) | (with_reducible refine Kd.dG ?_ _) | (with_reducible refine Kd.eG ?_)));(case side4 => exact av5.out);rintro e YJ ⟨rfl, hb⟩;refine ⟨_, rfl, ?_⟩;have bP := aa.mk (aC (bk apy) hb);have bQ := aa.mk (aC (bk aqi) hb);have bT := aa.mk (aM (bO HB) hb);clear apy aqi HB;have apy := bP;have aqi := bQ;have HB := bT;clear bP bQ bT;(try clear hb);(try clear hb2);(try clear hk);(try clear hi);refine hK.out _ _ ⟨(ae apy.out 0).trans rfl, (ae apy.out 1).trans rfl, (ae aqi.out 0).trans rfl, (ae aqi.out 1).trans rfl, (ah HB.out auu), (ah HB.out aut), (ah HB.out auB), (ah HB.out auA)⟩ (fun hHeld => ?_);clear hK K;refine bS (a' := ?_) ?_ ?_;rotate_left
           ·show Act.put _ (some 37) _ = _;simp only [Act.put, List.setIfInBounds_toArray, List.set_cons_zero, List.set_cons_succ, bH, bI];rfl
           refine arz (i := 11) (N := some 38) (v := ?_) (a' := ?_) #[true, true, true, true, true, true, true, true, true, true, true, true] rfl rfl (ku dA.out (by kernel_rfl)) (fun _ _ _ h => h) (Or.inl ⟨by rfl, ?_⟩) ?_ ?_;rotate_left
           ·intro w';go_simp;with_reducible rfl
           rotate_left
           ·simp only [Act.put, List.setIfInBounds_toArray, List.set_cons_zero, List.set_cons_succ, bH, bI];rfl
           refine gH (dV dA.out (by kernel_rfl)) ?_;try go_wp2
           go_roundg k3
           case measure => have := HJ2.out; have := Bp.out; have := xO.out; omega
           case rel => exact ⟨(wrap64 (gT + 1)), (by first | rfl | (simp; done) | (simp [*]; done)), H', ⟨by have := HJ2.out; have := Bp.out; have := xO.out; omega⟩, ⟨by (with_reducible repeat (first | refine ax ?_ _ | refine az ?_ | refine au ?_ _)); exact apy.out⟩, ⟨by (with_reducible repeat (first | refine ax ?_ _ | refine az ?_ | refine au ?_ _)); exact aqi.out⟩, ⟨bO HB⟩⟩
          ·replace c19 := Bool.eq_false_iff.mpr c19;subst c19;have H1 : (some false) = some r := by rw [if_neg (show ¬ (false = true) by decide)] at H; exact H
           clear H;have H := H1;clear H1;obtain rfl := Option.some.inj H;have Zn := asc.out;have Zo := ase.out;have yP : wr.cell? ⟨aqF, 0, none⟩ = some (.int .i64 aR) := (ae apy.out 0).trans rfl;have yQ : wr.cell? ⟨aqF, 1, none⟩ = some (.slice bW aH.length bN) := (ae apy.out 1).trans rfl;have yR := ai apy.out 0;have yS := ai apy.out 1;try go_wp2
           have bP := aa.mk (az apy.out);have bQ := aa.mk (az aqi.out);have bT := aa.mk (fK HB.out);clear apy aqi HB;have apy := bP;have aqi := bQ;have HB := bT;clear bP bQ bT;have axk : 0 ≤ (gT : Int) := of_decide_eq_true (by first | (with_reducible assumption) | assumption);have axl : gT < (aH.length : Int) := of_decide_eq_true (by first | (with_reducible assumption) | assumption);obtain ⟨auq, avo, avp, aBG, arI, arJ, aur, aus⟩ := ah8 arT.out gT axk axl;have aut := arJ;have auu := arI
           cases aBG;replace arI := ah HB.out arI;replace arJ := ah HB.out arJ;have auv := aa.mk aus;have av4 := aa.mk aur;clear aus aur;replace axk := eq_true axk;replace axl := eq_true axl;have axm : 0 ≤ (gT : Int) := of_decide_eq_true (by first | (with_reducible assumption) | assumption);have axn : gT < (cz.length : Int) := of_decide_eq_true (by first | (with_reducible assumption) | assumption);obtain ⟨auw, avq, avr, aBH, arK, arL, auy, auz⟩ := ah8 ED.out gT axm axn;have auA := arL;have auB := arK
           cases aBH;replace arK := ah HB.out arK;replace arL := ah HB.out arL;have auC := aa.mk auz;have av5 := aa.mk auy;clear auz auy;replace axm := eq_true axm;replace axn := eq_true axn;refine fu (n := 12) (S := fun w' => w'.cell? ⟨aqF, 0, none⟩ = some (.int .i64 aR) ∧ w'.cell? ⟨aqF, 1, none⟩ = some (.slice (some auq) aH.length bN) ∧ w'.cell? ⟨arW, 0, none⟩ = some (.int .i64 cK) ∧ w'.cell? ⟨arW, 1, none⟩ = some (.slice (some auw) cz.length lJ) ∧ w'.cell? (auq.add ((gT).toNat * 2)) = some (.int .i64 ((FW aH gT).f0)) ∧ w'.cell? ⟨(auq.add ((gT).toNat * 2)).block, (auq.add ((gT).toNat * 2)).off + 1, none⟩ = some (.slice avo ((FW aH gT).f1).length avp) ∧ w'.cell? (auw.add ((gT).toNat * 2)) = some (.int .i64 ((FW cz gT).f0)) ∧ w'.cell? ⟨(auw.add ((gT).toNat * 2)).block, (auw.add ((gT).toNat * 2)).off + 1, none⟩ = some (.slice avq ((FW cz gT).f1).length avr)) (ds := []) #[false, false, false, false, false, false, false, false, false, false, false, false] (by kernel_rfl) rfl rfl ⟨(ae apy.out 0).trans rfl, (ae apy.out 1).trans rfl, (ae aqi.out 0).trans rfl, (ae aqi.out 1).trans rfl, (ah HB.out auu), (ah HB.out aut), (ah HB.out auB), (ah HB.out auA)⟩ (fun hHeld => ?_); refine dw Ae.Jt Ae.axs (fun dA ji => ?_);generalize wr.drew = w26 at apy aqi HB auv auC arI arJ arK arL hHeld ⊢;refine fG (fuel := 2) [(0, 27), (2, 29), (5, 32), (7, 34), (1, 28), (3, 30), (4, 31), (6, 33), (8, 35), (9, 36)] #[true, true, true, true, true, true, true, true, true, true, false, false] (df dA.out ji.out _ _ _ (by kernel_rfl)) rfl (fun _ _ _ _ _ h => h) hHeld (a' := ?_) ?_ ?_;rotate_left
           ·iterate 10
             refine bC (v := ?_) (a1 := ?_) rfl rfl (Or.inl ⟨by rfl, ?_⟩) ?_ ?_;rotate_left 2
             ·rintro w' ⟨s0, s1, s2, s3, s4, s5, s6, s7⟩;go_simp;with_reducible rfl
             ·simp only [Act.put, List.setIfInBounds_toArray, List.set_cons_zero, List.set_cons_succ, bH, bI];rfl
            exact chain_nil
           refine fT (i := 10) (N := some 37) #[true, true, true, true, true, true, true, true, true, true, true, false] rfl rfl (dn dA.out (by kernel_rfl)) (by decide) (fun K hK => ?_);refine uC Try.func53 (by kernel_rfl) rfl #[.agg #[.int .i64 ((FW aH gT).f0), .slice avo ((FW aH gT).f1).length avp], .agg #[.int .i64 ((FW cz gT).f0), .slice avq ((FW cz gT).f1).length avr]] (by rfl) rfl rfl (by (try simp only [List.map_toArray, List.map_cons, List.map_nil]); first | done | rfl | (simp only [List.length_drop, List.length_take]; rfl)) ?_;with_reducible refine (ih k3 (by have := HJ2.out; have := Bp.out; have := xO.out; omega) ((FW aH gT).f0) _ _ ((FW aH gT).f1) ((FW cz gT).f0) _ _ ((FW cz gT).f1) false _ ?side1 ?side2 ?side3 ?side4 A18.out).mono ?_
           (case side1 => repeat (first | exact (Kd.bF auv.out HB.out) | (with_reducible refine Kd.dF ?_ _) | (with_reducible refine Kd.dG ?_ _) | (with_reducible refine Kd.eG ?_)));(case side2 => exact av4.out);(case side3 => repeat (first | exact (Kd.bF auC.out HB.out) | (with_reducible refine Kd.dF ?_ _) | (with_reducible refine Kd.dG ?_ _) | (with_reducible refine Kd.eG ?_)));(case side4 => exact av5.out);rintro e V7 ⟨rfl, hb⟩;refine ⟨_, rfl, ?_⟩;have bP := aa.mk (aC (bk apy) hb);have bQ := aa.mk (aC (bk aqi) hb);have bT := aa.mk (aM (bO HB) hb);clear apy aqi HB;have apy := bP;have aqi := bQ;have HB := bT;clear bP bQ bT;(try clear hb);(try clear hb2);(try clear hk);(try clear hi);refine hK.out _ _ ⟨(ae apy.out 0).trans rfl, (ae apy.out 1).trans rfl, (ae aqi.out 0).trans rfl, (ae aqi.out 1).trans rfl, (ah HB.out auu), (ah HB.out aut), (ah HB.out auB), (ah HB.out auA)⟩ (fun hHeld => ?_);clear hK K;refine bS (a' := ?_) ?_ ?_;rotate_left
           ·show Act.put _ (some 37) _ = _;simp only [Act.put, List.setIfInBounds_toArray, List.set_cons_zero, List.set_cons_succ, bH, bI];rfl
           refine arz (i := 11) (N := some 38) (v := ?_) (a' := ?_) #[true, true, true, true, true, true, true, true, true, true, true, true] rfl rfl (ku dA.out (by kernel_rfl)) (fun _ _ _ h => h) (Or.inl ⟨by rfl, ?_⟩) ?_ ?_;rotate_left
           ·intro w';go_simp;with_reducible rfl
           rotate_left
           ·simp only [Act.put, List.setIfInBounds_toArray, List.set_cons_zero, List.set_cons_succ, bH, bI];rfl
           refine gH (dV dA.out (by kernel_rfl)) ?_;try go_wp2
           go_ret;exact ⟨by first | rfl | (simp [aW, aX] <;> rfl) | (simp [*, aW, aX] <;> rfl), bO HB⟩
         ·rw [if_neg c17] at H;exact absurd H (by simp)
        ·rw [if_neg c16] at H;exact absurd H (by simp)
       ·rw [if_neg c15] at H;have tF : decide (gT < (aH.length : Int)) = false := decide_eq_false c15;clear c15;obtain rfl := Option.some.inj H;have YL := asc.out;have YM := ase.out;have tK : wr.cell? ⟨aqF, 0, none⟩ = some (.int .i64 aR) := (ae apy.out 0).trans rfl;have tL : wr.cell? ⟨aqF, 1, none⟩ = some (.slice bW aH.length bN) := (ae apy.out 1).trans rfl;have tN := ai apy.out 0;have tO := ai apy.out 1;go_wp2;go_ret;exact ⟨by first | rfl | (simp [aW, aX] <;> rfl) | (simp [*, aW, aX] <;> rfl), bO HB⟩
end Go.Proofs.Ytamimodkcbbpmaa.Pr
end
section
namespace Go.Proofs.Ytamimodkcbbpmaa.Pr
open Go.RowKit Go.Proofs.YtamimodkcbbpmaaW.PrintWords Go.Proofs.YtamimodkcbbpmaaW.PrintLast Go.Proofs.YtamimodkcbbpmaaXW
set_option linter.unusedVariables false
set_option linter.unusedSimpArgs false
def exR : List KH := [⟨4, 0, 1, 1, 2, 0⟩, ⟨2, 1, 0, 0, 0, 0⟩, ⟨1, 1, 0, 0, 5, 0⟩]
def exI : List Int := [4]
abbrev exV : List dK := [⟨10, 3⟩, ⟨4, 1⟩]
abbrev exK : List S64 := [⟨1, []⟩, ⟨1, []⟩]
theorem aBI : aqu.f = some (1, 2, 0, exR, exI) := by kernel_rfl
theorem aAu : apm.f 40 1 2 0 exR exI 0 = some (0, exK, 0) := by kernel_rfl
theorem aAv : apm.f 40 1 2 0 exR exI 2 = some (0, [], 2) := by kernel_rfl
theorem aBJ : an2.f 40 1 2 0 exR exI = some exV := by kernel_rfl
theorem aAw : vz.f 40 exV exV = some true := by kernel_rfl
theorem aAx : Ae.f 40 0 exK 0 exK = some true := by kernel_rfl
theorem av6 {w : World} {b : Nat} {x y : Int} (h : w.heap[b]? = some (.cells #[.int .i64 x, .slice none 0 0, .int .i64 y, .slice none 0 0] 64 (0, 0))) : Kd.C OG w (some ⟨b, 0, none⟩) 2 [⟨x, []⟩, ⟨y, []⟩] := by
  have hnil : Kd.C OG w none 0 [] := ⟨rfl, by decide, fun h => absurd h (by decide)⟩
  refine ⟨rfl, by decide, fun _ => ⟨_, rfl, fun j p hj => ?_⟩⟩
  match j, hj with
  | 0, hj =>
    obtain rfl : (⟨x, []⟩ : S64) = p := by simpa using hj
    refine ⟨[.int .i64 x, .slice none 0 0], rfl, Z7 w ⟨x, []⟩ (Nat.le_refl _) hnil, fun i u hi => ?_⟩
    match i, hi with
    | 0, hi => obtain rfl : Value.int .i64 x = u := by simpa using hi
               show w.cell? ⟨b, 0, none⟩ = _
               rw [ae h 0]; rfl
    | 1, hi => obtain rfl : Value.slice none 0 0 = u := by simpa using hi
               show w.cell? ⟨b, 1, none⟩ = _
               rw [ae h 1]; rfl
    | i + 2, hi => simp at hi
  | 1, hj =>
    obtain rfl : (⟨y, []⟩ : S64) = p := by simpa using hj
    refine ⟨[.int .i64 y, .slice none 0 0], rfl, Z7 w ⟨y, []⟩ (Nat.le_refl _) hnil, fun i u hi => ?_⟩
    match i, hi with
    | 0, hi => obtain rfl : Value.int .i64 y = u := by simpa using hi
               show w.cell? ⟨b, 2, none⟩ = _
               rw [ae h 2]; rfl
    | 1, hi => obtain rfl : Value.slice none 0 0 = u := by simpa using hi
               show w.cell? ⟨b, 3, none⟩ = _
               rw [ae h 3]; rfl
    | i + 2, hi => simp at hi
  | j + 2, hj => simp at hj
theorem axo {w : World} {b : Nat} {x y z u : Int} (h : w.heap[b]? = some (.cells #[.int .i64 x, .int .i64 y, .int .i64 z, .int .i64 u] 34 (0, 0))) : Kd.C xA w (some ⟨b, 0, none⟩) 2 [⟨x, y⟩, ⟨z, u⟩] := by
  refine ⟨rfl, by decide, fun _ => ⟨_, rfl, fun j p hj => ?_⟩⟩
  match j, hj with
  | 0, hj =>
    obtain rfl : (⟨x, y⟩ : dK) = p := by simpa using hj
    refine ⟨[.int .i64 x, .int .i64 y], rfl, SQ w ⟨x, y⟩, fun i v hi => ?_⟩
    match i, hi with
    | 0, hi => obtain rfl : Value.int .i64 x = v := by simpa using hi
               show w.cell? ⟨b, 0, none⟩ = _
               rw [ae h 0]; rfl
    | 1, hi => obtain rfl : Value.int .i64 y = v := by simpa using hi
               show w.cell? ⟨b, 1, none⟩ = _
               rw [ae h 1]; rfl
    | i + 2, hi => simp at hi
  | 1, hj =>
    obtain rfl : (⟨z, u⟩ : dK) = p := by simpa using hj
    refine ⟨[.int .i64 z, .int .i64 u], rfl, SQ w ⟨z, u⟩, fun i v hi => ?_⟩
    match i, hi with
    | 0, hi => obtain rfl : Value.int .i64 z = v := by simpa using hi
               show w.cell? ⟨b, 2, none⟩ = _
               rw [ae h 2]; rfl
    | 1, hi => obtain rfl : Value.int .i64 u = v := by simpa using hi
               show w.cell? ⟨b, 3, none⟩ = _
               rw [ae h 3]; rfl
    | i + 2, hi => simp at hi
  | j + 2, hj => simp at hj
set_option maxRecDepth 100000 in
set_option maxHeartbeats 8000000 in
theorem avE (w : World) : Calls Try.prog 47 #[] w fun e w' => e = .returned (.bool true) ∧ Below w.heap.size w w' := by
 have avx := Try.underlying58;have hu64 := Try.underlying64;have QT := Try.underlying34;go_enter Try.func47, Try.ntmps47
 go_upto_region 2 with (first | (go_at_call 86; refine (aqu.calls 1 2 0 exR exI w aBI).mono ?_; rintro x w1 ⟨v3, v4, rfl, hR, hI, hB⟩; obtain ⟨A, c, rfl, hc, hC⟩ := Kd.oK hR; obtain ⟨AI, ci, rfl, hci, hCI⟩ := Kd.oK hI; have HC := aa.mk hC; have HCI := aa.mk hCI; have HB := aa.mk hB; clear hR hI hB hC hCI))
 have hA := eX w1 (.cells #[.int .i64 1, .int .i64 2, .int .i64 0, .slice A exR.length c] 58);have HB2 := aa.mk (aM HB.out hA.1);have Uc := aa.mk (Kd.bF HC.out hA.1);have HI2 := aa.mk (Kd.bF HCI.out hA.1);have Y1 := aa.mk hA.2;obtain ⟨g1, e1⟩ : ∃ g, g = w1.heap.size := ⟨_, rfl⟩;rw [← e1] at Y1 ⊢;clear e1 hA HB HC HCI;generalize (w1.alloc (.cells #[.int .i64 1, .int .i64 2, .int .i64 0, .slice A exR.length c] 58)) = w2 at *;have c0 : w2.cell? ⟨g1, 0, none⟩ = some (.int .i64 1) := (ae Y1.out 0).trans rfl;have c1 : w2.cell? ⟨g1, 1, none⟩ = some (.int .i64 2) := (ae Y1.out 1).trans rfl;have c2 : w2.cell? ⟨g1, 2, none⟩ = some (.int .i64 0) := (ae Y1.out 2).trans rfl;have c3 : w2.cell? ⟨g1, 3, none⟩ = some (.slice A exR.length c) := (ae Y1.out 3).trans rfl;go_upto_region 3 with (first | (go_at_call 51; refine (apm.calls 40 1 2 0 A c exR AI ci exI 0 0 exK 0 w2 Uc.out hc HI2.out hci aAu).mono ?_; rintro x w3 ⟨v3, rfl, hR, hB⟩; obtain ⟨Ap, cp, rfl, hcp, hCp⟩ := Kd.oK hR; have HCp := aa.mk hCp; have HB3 := aa.mk hB; clear hR hB hCp))
 have hA := eX w3 (.cells #[.int .i64 0, .slice Ap exK.length cp] 64);have hst := aM HB3.out hA.1;have Ju := aa.mk (aM HB2.out hst);have IK := aa.mk (Kd.bF Uc.out hst);have HI4 := aa.mk (Kd.bF HI2.out hst);have HP4 := aa.mk (Kd.bF HCp.out hA.1);have H14 := aa.mk (aC Y1.out hst);have H34 := aa.mk hA.2;obtain ⟨g3, e3⟩ : ∃ g, g = w3.heap.size := ⟨_, rfl⟩;rw [← e3] at H34 ⊢;clear e3 hA hst HB2 Uc HI2 HCp Y1 HB3 c0 c1 c2 c3;generalize (w3.alloc (.cells #[.int .i64 0, .slice Ap exK.length cp] 64)) = w4 at *;have c0 : w4.cell? ⟨g1, 0, none⟩ = some (.int .i64 1) := (ae H14.out 0).trans rfl;have c1 : w4.cell? ⟨g1, 1, none⟩ = some (.int .i64 2) := (ae H14.out 1).trans rfl;have c2 : w4.cell? ⟨g1, 2, none⟩ = some (.int .i64 0) := (ae H14.out 2).trans rfl;have c3 : w4.cell? ⟨g1, 3, none⟩ = some (.slice A exR.length c) := (ae H14.out 3).trans rfl;go_upto_region 4 with (first | (go_at_call 51; refine (apm.calls 40 1 2 0 A c exR AI ci exI 2 0 [] 2 w4 IK.out hc HI4.out hci aAv).mono ?_; rintro x w5 ⟨v3, rfl, hR, hB⟩; obtain ⟨Aq, cq, rfl, hcq, hCq⟩ := Kd.oK hR; have vY := aa.mk hB; clear hR hB hCq))
 have hA := eX w5 (.cells #[.int .i64 0, .slice Aq ([] : List S64).length cq] 64);have hst := aM vY.out hA.1;have Gp := aa.mk (aM Ju.out hst);have VT := aa.mk (Kd.bF IK.out hst);have HI6 := aa.mk (Kd.bF HI4.out hst);have HP6 := aa.mk (Kd.bF HP4.out hst);have H16 := aa.mk (aC H14.out hst);have H36 := aa.mk (aC H34.out hst);clear hA hst Ju IK HI4 HP4 H14 H34 vY c0 c1 c2 c3;simp only [List.length_nil] at *;generalize (w5.alloc (.cells #[.int .i64 0, .slice Aq 0 cq] 64)) = w6 at *;have Gy : aa (∀ w', Below w6.heap.size w6 w' → w'.cell? ⟨g1, 0, none⟩ = some (.int .i64 1) ∧ w'.cell? ⟨g1, 1, none⟩ = some (.int .i64 2) ∧ w'.cell? ⟨g1, 2, none⟩ = some (.int .i64 0) ∧ w'.cell? ⟨g1, 3, none⟩ = some (.slice A exR.length c) ∧ w'.cell? ⟨g3, 0, none⟩ = some (.int .i64 0) ∧ w'.cell? ⟨g3, 1, none⟩ = some (.slice Ap exK.length cp)) := ⟨fun w' h => ⟨(ae (aC H16.out h) 0).trans rfl, (ae (aC H16.out h) 1).trans rfl, (ae (aC H16.out h) 2).trans rfl, (ae (aC H16.out h) 3).trans rfl, (ae (aC H36.out h) 0).trans rfl, (ae (aC H36.out h) 1).trans rfl⟩⟩;obtain ⟨c0, c1, c2, c3, c4, c5⟩ := Gy.out w6 (Below.refl _ _);go_wp2_with (first | (go_at_call 49; refine (an2.calls 40 1 2 0 A c exR AI ci exI exV w6 VT.out hc HI6.out hci aBJ).mono ?_; rintro x w7 ⟨v7, rfl, hR, hB⟩; obtain ⟨Av, cv, rfl, hcv, hCv⟩ := Kd.oK hR; have UW := aa.mk hCv; have Co := aa.mk hB; clear hR hB hCv c0 c1 c2 c3 c4 c5; obtain ⟨c0, c1, c2, c3, c4, c5⟩ := Gy.out w7 Co.out) | (go_at_call 48; have hA := eX w7 (.cells #[.int .i64 10, .int .i64 3, .int .i64 4, .int .i64 1] 34); refine (vz.calls 40 Av cv exV (some ⟨w7.heap.size, 0, none⟩) 2 exV true (w7.alloc (.cells #[.int .i64 10, .int .i64 3, .int .i64 4, .int .i64 1] 34)) (Kd.bF UW.out hA.1) hcv (axo hA.2) (Nat.le_refl _) aAw).mono ?_; rintro x w8 ⟨rfl, hD⟩; have hB := hD.below; have hb := aM Co.out (aM hA.1 hB); have HB8 := aa.mk hb; clear hA hB hD hb c0 c1 c2 c3 c4 c5; obtain ⟨c0, c1, c2, c3, c4, c5⟩ := Gy.out w8 HB8.out) | (go_at_call 53; have hA := eX w8 (.cells #[.int .i64 1, .slice none 0 0, .int .i64 1, .slice none 0 0] 64); refine (Ae.calls 40 0 Ap cp exK 0 (some ⟨w8.heap.size, 0, none⟩) 2 exK true (w8.alloc (.cells #[.int .i64 1, .slice none 0 0, .int .i64 1, .slice none 0 0] 64)) (Kd.bF (Kd.bF HP6.out HB8.out) hA.1) hcp (av6 hA.2) (Nat.le_refl _) aAx).mono ?_; rintro x w9 ⟨rfl, hB⟩; have hb := aM HB8.out (aM hA.1 hB); have HB9 := aa.mk hb; clear hA hB hb c0 c1 c2 c3 c4 c5))
 go_ret;exact ⟨rfl, aM Gp.out HB9.out⟩
def apq.f : Option Bool := some true
theorem apq.calls (r : Bool) (w : World) (h : apq.f = some r) : Calls Try.prog 47 #[] w fun e w' => e = .returned (.bool r) ∧ Below w.heap.size w w' := by
 injection h with h
 subst h;exact avE w
end Go.Proofs.Ytamimodkcbbpmaa.Pr
end
section
namespace Go.Proofs.Ytamimodkcbbpmaa.Pr
open Go.RowKit Go.Proofs.YtamimodkcbbpmaaW.PrintWords Go.Proofs.YtamimodkcbbpmaaW.PrintLast
set_option linter.unusedVariables false
set_option linter.unusedSimpArgs false
theorem aAz (T N S : Int) (rs : List KH) (ins : List Int) : ∃ b, aqb.f T N S rs ins = some b ∧ (b = true → rs.length ≤ 60 ∧ N ≤ 60 ∧ ins.length ≤ 30) := by
 unfold aqb.f;by_cases h1 : (rs.length : Int) ≤ 60
 ·by_cases h2 : N ≤ 60
  ·exact ⟨_, by rw [if_pos h1, if_pos h2], fun h => ⟨by omega, h2, by have := of_decide_eq_true h; omega⟩⟩
  ·exact ⟨false, by rw [if_pos h1, if_neg h2], fun h => (by cases h)⟩
 ·exact ⟨false, by rw [if_neg h1], fun h => (by cases h)⟩
end Go.Proofs.Ytamimodkcbbpmaa.Pr
end
section
namespace Go.Proofs.Ytamimodkcbbpmaa.Pr
open Go.RowKit Go.Proofs.YtamimodkcbbpmaaW.PrintWords Go.Proofs.YtamimodkcbbpmaaW.PrintLast
theorem aLR (a b c d : Int) (w : World) : (if a = b then (if c = d then Result.ok (Next.value (Value.bool true)) w else Result.ok (Next.value (Value.bool false)) w) else Result.ok (Next.value (Value.bool false)) w) = Result.ok (Next.value (Value.bool (a == b && (c == d)))) w := by
 by_cases h1 : a = b
 ·by_cases h2 : c = d
  ·rw [if_pos h1, if_pos h2, h1, h2]; simp
  ·rw [if_pos h1, if_neg h2, beq_eq_false_iff_ne.2 h2, Bool.and_false]
 ·rw [if_neg h1, beq_eq_false_iff_ne.2 h1, Bool.false_and]
end Go.Proofs.Ytamimodkcbbpmaa.Pr
end
section
namespace Go.Proofs.Ytamimodkcbbpmaa.Pr
open Go.RowKit Go.Proofs.YtamimodkcbbpmaaW.PrintWords Go.Proofs.YtamimodkcbbpmaaW.PrintLast Go.Proofs.YtamimodkcbbpmaaW.PrintMore Go.Proofs.YtamimodkcbbpmaaXW
attribute [local go_sem] aFh ky lX lY jf jg kz kC
set_option linter.unusedVariables false
set_option linter.unusedSimpArgs false
mutual
def y9.j0 : Nat → Int → Int → Bool → Int → List (S64) → Option (Int)
 | 0, _, _, _, _, _ => none
 | k + 1, x1, x2, XX, aPG, aOn => if XX = true then (some (-1)) else (y9.j1 k x1 x2 aPG aOn)
def y9.j1 : Nat → Int → Int → Int → List (S64) → Option (Int)
 | 0, _, _, _, _ => none
 | k + 1, x1, x2, aPG, aOn => y9.l0 k x1 (wrap64 (x2 - 1)) 0 aPG aOn
def y9.l0 : Nat → Int → Int → Int → Int → List (S64) → Option (Int)
 | 0, _, _, _, _, _ => none
 | k + 1, x1, x2, x7, aPG, aOn => if x7 < (aOn.length : Int) then (if x2 ≥ 0 then (if 0 ≤ x7 then ((y9.f k ((FW aOn x7).f0) ((FW aOn x7).f1) (wrap64 (x1 + 1)) x2).bind fun aR2 => (y9.l0 k x1 aR2 (wrap64 (x7 + 1)) aPG aOn)) else (none)) else (some x2)) else (some x2)
def y9.f : Nat → Int → List (S64) → Int → Int → Option (Int)
 | 0, _, _, _, _ => none
 | k + 1, aR, aH, a1, a2 => if a1 > 100 then (y9.j0 k a1 a2 true aR aH) else (y9.j0 k a1 a2 (decide (a2 ≤ 0)) aR aH)
end
theorem y9.apw : ∀ k, (∀ y0 y1 y2 y3, dz (y9.f k y0 y1 y2 y3) (y9.f (k + 1) y0 y1 y2 y3)) ∧ (∀ y0 y1 y2 y3 y4, dz (y9.j0 k y0 y1 y2 y3 y4) (y9.j0 (k + 1) y0 y1 y2 y3 y4)) ∧ (∀ y0 y1 y2 y3, dz (y9.j1 k y0 y1 y2 y3) (y9.j1 (k + 1) y0 y1 y2 y3)) ∧ (∀ y0 y1 y2 y3 y4, dz (y9.l0 k y0 y1 y2 y3 y4) (y9.l0 (k + 1) y0 y1 y2 y3 y4))
 | 0 => ⟨fun _ _ _ _ r h => by simp [y9.f] at h, fun _ _ _ _ _ r h => by simp [y9.j0] at h, fun _ _ _ _ r h => by simp [y9.j1] at h, fun _ _ _ _ _ r h => by simp [y9.l0] at h⟩
 | k + 1 => by
  obtain ⟨jP, ih1, ih2, ih3⟩ := y9.apw k;refine ⟨?_, ?_, ?_, ?_⟩;all_goals intros
  all_goals first | unfold y9.f | unfold y9.j0 | unfold y9.j1 | unfold y9.l0
  all_goals
   repeat' first
   | (with_reducible exact jP _ _ _ _)
   | (with_reducible exact ih1 _ _ _ _ _)
   | (with_reducible exact ih2 _ _ _ _)
   | (with_reducible exact ih3 _ _ _ _ _)
   | (with_reducible exact dz.refl _)
   | (with_reducible exact dz.none _)
   | (with_reducible refine dz.ite ?_ ?_)
   | (with_reducible refine dz.bind ?_ (fun _ => ?_))
   | exact jP _ _ _ _
   | exact ih1 _ _ _ _ _
   | exact ih2 _ _ _ _
   | exact ih3 _ _ _ _ _
   | exact dz.none _
   | refine dz.ite ?_ ?_
   | refine dz.bind ?_ (fun _ => ?_)
theorem y9.mono : ∀ a0 a1 a2 a3 k, dz (y9.f k a0 a1 a2 a3) (y9.f (k + 1) a0 a1 a2 a3) := by
 intro a0 a1 a2 a3 k;obtain ⟨jP, ih1, ih2, ih3⟩ := y9.apw k;exact jP a0 a1 a2 a3
set_option maxHeartbeats 8000000 in
set_option maxRecDepth 100000 in
theorem y9.calls (k : Nat) : ∀ (aR : Int) (bW : Option Addr) (bN : Nat) (aH : List (S64)) (a1 : Int) (a2 : Int) (r : Int) (w : World) (fw : Kd.C OG w bW aH.length aH) (fC : aH.length ≤ bN) (h : y9.f k aR aH a1 a2 = some r),
  Calls Try.prog 92 #[.agg #[.int .i64 aR, .slice bW aH.length bN], .int .i64 a1, .int .i64 a2] w fun e w' => e = .returned (.int .i64 r) ∧ Below w.heap.size w w' := by
 induction k using Nat.strongRecOn with
 | _ k ih =>
 intro aR bW bN aH a1 a2 r w fw fC h
 cases k with
 | zero => exact absurd h (by simp [y9.f])
 | succ k =>
 simp only [y9.f] at h;have hu64 := Try.underlying64;have arT := aa.mk fw;have fP := aa.mk fC;clear fw fC;have HB := aa.mk (Below.refl w.heap.size w);have H : (if a1 > 100 then (y9.j0 k a1 a2 true aR aH) else (y9.j0 k a1 a2 (decide (a2 ≤ 0)) aR aH)) = some r := h;clear h;have IK := aa.mk H;clear H;go_enter Try.func92, Try.ntmps92
 go_upto_region 1 with (first | ((with_reducible refine bM (N := 3) rfl ?_); refine bG ?hg (N := 3) ?hd (cs := #[.int .i64 aR, .slice bW aH.length bN]) (t := 64) ?hr ?_; (case hd => rfl); (case hg => rfl); (case hr => first | (go_simp; done) | (go_simp; rfl)); intro aPq hg w5 bR hb; have bP := aa.mk (aM (bO HB) hb); have bQ := aa.mk (bR); have bT := aa.mk ((by rw [hg]; exact (aK (bO HB)) : w.heap.size ≤ aPq)); have di := aa.mk ((by rw [hg]; exact (aK (bO HB)) : w.heap.size ≤ aPq)); clear HB; have HB := bP; have aMR := bQ; have aYU := bT; have aYV := di; clear bP bQ bT di; clear hb bR hg))
 (try simp only [Act.put, List.setIfInBounds_toArray, List.set_cons_zero, List.set_cons_succ]);go_cut [13] (fun v13 wc => ∃ (kq : Nat) (aR4 : Bool), v13 = .bool aR4 ∧ aa (y9.j0 kq a1 a2 aR4 aR aH = some r) ∧ aa (kq ≤ k) ∧ aa (wc.heap[aPq]? = some (.cells #[.int .i64 aR, (.slice bW aH.length bN)] 64 (0, 0))) ∧ aa (Below w.heap.size w wc))
 case first =>
  have H := IK.out;clear IK;by_cases c6 : a1 > 100
  ·rw [if_pos c6] at H;have Dy : decide (100 < a1) = true := decide_eq_true c6;clear c6
   (first | rw [Dy] | (simp only [bH, bI]; rw [Dy]) | skip)
   have H' := aa.mk H;clear H;go_wp2;go_meet
   case rel => exact ⟨_, (true), (by first | rfl | (simp; done) | (simp [*]; done)), H', ⟨by first | omega | exact Nat.le_refl _⟩, ⟨by (with_reducible repeat (first | refine ax ?_ _ | refine az ?_ | refine au ?_ _)); exact aMR.out⟩, ⟨bO HB⟩⟩
  ·rw [if_neg c6] at H;have Dy : decide (100 < a1) = false := decide_eq_false c6;clear c6
   (first | rw [Dy] | (simp only [bH, bI]; rw [Dy]) | skip)
   have H' := aa.mk H;clear H;go_wp2;go_meet
   case rel => exact ⟨_, (decide (a2 ≤ 0)), (by first | rfl | (simp; done) | (simp [*]; done)), H', ⟨by first | omega | exact Nat.le_refl _⟩, ⟨by (with_reducible repeat (first | refine ax ?_ _ | refine az ?_ | refine au ?_ _)); exact aMR.out⟩, ⟨bO HB⟩⟩
 case rest =>
  clear IK;(try clear p2); (try clear c6); (try clear Dy);obtain ⟨kq, aR4, rfl, HA, Gq, aMR, HB⟩ := hcut
  cases kq with
  | zero => exact absurd HA.out (by simp [y9.j0])
  | succ kj3 =>
   have H := HA.out;clear HA;simp only [y9.j0] at H;have Ud := aa.mk H;clear H;go_upto_if 13 with (fail)
   go_cut [] (fun wc => ∃ (kq : Nat), aa (y9.j1 kq a1 a2 aR aH = some r) ∧ aa (kq ≤ kj3) ∧ aa (wc.heap[aPq]? = some (.cells #[.int .i64 aR, (.slice bW aH.length bN)] 64 (0, 0))) ∧ aa (Below w.heap.size w wc))
   case first =>
    have H := Ud.out;clear Ud;by_cases c8 : aR4 = true
    ·subst c8;have H1 : (some (-1)) = some r := by rw [if_pos rfl] at H; exact H
     clear H;have H := H1;clear H1;obtain rfl := Option.some.inj H;go_wp2;go_ret;exact ⟨by first | rfl | (simp [aW, aX] <;> rfl) | (simp [*, aW, aX] <;> rfl), bO HB⟩
    ·replace c8 := Bool.eq_false_iff.mpr c8;subst c8;have H1 : (y9.j1 kj3 a1 a2 aR aH) = some r := by rw [if_neg (show ¬ (false = true) by decide)] at H; exact H
     clear H;have H := H1;clear H1;have H' := aa.mk H;clear H;go_wp2;go_meet
     case rel => exact ⟨_, H', ⟨by have := Gq.out; first | omega | exact Nat.le_refl _⟩, ⟨by (with_reducible repeat (first | refine ax ?_ _ | refine az ?_ | refine au ?_ _)); exact aMR.out⟩, ⟨bO HB⟩⟩
   case rest =>
    clear Ud;(try clear p2); (try clear c6); (try clear Dy); (try clear c8); (try clear p2);obtain ⟨kq, HA, JY, aMR, HB⟩ := hcut
    cases kq with
    | zero => exact absurd HA.out (by simp [y9.j1])
    | succ kj6 =>
     have H := HA.out;clear HA;simp only [y9.j1] at H;have H' := aa.mk H;clear H;go_wp2;go_loopg [2, 7] kj6 (fun kq v2 v7 w' => ∃ (aRT : Int) (iU : Int), v2 = .int .i64 aRT ∧ v7 = .int .i64 iU ∧ aa (y9.l0 kq a1 aRT iU aR aH = some r) ∧ aa (kq ≤ kj6) ∧ aa (w'.heap[aPq]? = some (.cells #[.int .i64 aR, (.slice bW aH.length bN)] 64 (0, 0))) ∧ aa (Below w.heap.size w w'))
     case atStart => exact ⟨(wrap64 (a2 - 1)), (0), (by first | rfl | (simp; done) | (simp [*]; done)), (by first | rfl | (simp; done) | (simp [*]; done)), H', ⟨Nat.le_refl _⟩, ⟨by (with_reducible repeat (first | refine ax ?_ _ | refine az ?_ | refine au ?_ _)); exact aMR.out⟩, ⟨bO HB⟩⟩
     case round =>
      clear H';(try clear p2); (try clear c6); (try clear Dy); (try clear p6); (try clear c8); (try clear p2);obtain ⟨aRT, iU, rfl, rfl, HA, xO, aMR, HB⟩ := hrel
      cases gk with
      | zero => exact absurd HA.out (by simp [y9.l0])
      | succ k3 =>
       have H := HA.out;clear HA;simp only [y9.l0] at H;by_cases c9 : iU < (aH.length : Int)
       ·rw [if_pos c9] at H;have yg : decide (iU < (aH.length : Int)) = true := decide_eq_true c9;clear c9;by_cases c10 : aRT ≥ 0
        ·rw [if_pos c10] at H;have XY : decide (0 ≤ aRT) = true := decide_eq_true c10;clear c10;by_cases c11 : 0 ≤ iU
         ·rw [if_pos c11] at H;have om : decide (0 ≤ iU) = true := decide_eq_true c11;clear c11;replace H := Option.bind_eq_some_iff.mp H;obtain ⟨aR2, adN, H⟩ := H;replace H : (y9.l0 k3 a1 aR2 (wrap64 (iU + 1)) aR aH) = some r := H;have A12 := aa.mk adN;clear adN;have H' := aa.mk H;clear H;have yT : wr.cell? ⟨aPq, 0, none⟩ = some (.int .i64 aR) := (ae aMR.out 0).trans rfl;have yU : wr.cell? ⟨aPq, 1, none⟩ = some (.slice bW aH.length bN) := (ae aMR.out 1).trans rfl;have yV := ai aMR.out 0;have yX := ai aMR.out 1;have aTE : 0 ≤ (iU : Int) := of_decide_eq_true (by first | (with_reducible assumption) | assumption);have aTF : iU < (aH.length : Int) := of_decide_eq_true (by first | (with_reducible assumption) | assumption);obtain ⟨aYW, aTG, aTH, aWX, aR5, aR6, aR7, aR8⟩ := ah8 arT.out iU aTE aTF
          cases aWX;replace aR5 := ah HB.out aR5;replace aR6 := ah HB.out aR6;have aSu := aa.mk aR8;have aSv := aa.mk aR7;clear aR8 aR7;replace aTE := eq_true aTE;replace aTF := eq_true aTF;go_wp2_with (first | ((with_reducible refine dE (f := 92) rfl ?_); refine iB (some 35) rfl rfl Try.func92 (by kernel_rfl) rfl #[.agg #[.int .i64 ((FW aH iU).f0), .slice aTG ((FW aH iU).f1).length aTH], .int .i64 (wrap64 (a1 + 1)), .int .i64 aRT] rfl (by (try simp only [List.map_toArray, List.map_cons, List.map_nil]); first | done | rfl | (simp only [List.length_drop, List.length_take]; rfl)) ?_; (with_reducible refine (ih k3 (by have := Gq.out; have := JY.out; have := xO.out; omega) ((FW aH iU).f0) _ _ ((FW aH iU).f1) (wrap64 (a1 + 1)) aRT aR2 _ ?side1 ?side2 A12.out).mono ?_); (case side1 => repeat (first | exact (Kd.bF aSu.out HB.out) | (with_reducible refine Kd.dF ?_ _) | (with_reducible refine Kd.dG ?_ _) | (with_reducible refine Kd.eG ?_))); (case side2 => exact aSv.out); rintro e TR ⟨rfl, hb⟩; refine ⟨_, rfl, ?_⟩; have bP := aa.mk (aC (bk aMR) hb); have bQ := aa.mk (aM (bO HB) hb); clear aMR; clear HB; have aMR := bP; have HB := bQ; clear bP bQ; (try clear hb); (try clear hb2); (try clear hk); (try clear hi)))
          go_roundg k3
          case measure => have := Gq.out; have := JY.out; have := xO.out; omega
          case rel => exact ⟨(aR2), (wrap64 (iU + 1)), (by first | rfl | (simp; done) | (simp [*]; done)), (by first | rfl | (simp; done) | (simp [*]; done)), H', ⟨by have := Gq.out; have := JY.out; have := xO.out; omega⟩, ⟨by (with_reducible repeat (first | refine ax ?_ _ | refine az ?_ | refine au ?_ _)); exact aMR.out⟩, ⟨bO HB⟩⟩
         ·rw [if_neg c11] at H;exact absurd H (by simp)
        ·rw [if_neg c10] at H;have XY : decide (0 ≤ aRT) = false := decide_eq_false c10;clear c10;obtain rfl := Option.some.inj H;have pE : wr.cell? ⟨aPq, 0, none⟩ = some (.int .i64 aR) := (ae aMR.out 0).trans rfl;have pF : wr.cell? ⟨aPq, 1, none⟩ = some (.slice bW aH.length bN) := (ae aMR.out 1).trans rfl;have pG := ai aMR.out 0;have pI := ai aMR.out 1;go_wp2;go_ret;exact ⟨by first | rfl | (simp [aW, aX] <;> rfl) | (simp [*, aW, aX] <;> rfl), bO HB⟩
       ·rw [if_neg c9] at H;have yg : decide (iU < (aH.length : Int)) = false := decide_eq_false c9;clear c9;obtain rfl := Option.some.inj H;have yL : wr.cell? ⟨aPq, 0, none⟩ = some (.int .i64 aR) := (ae aMR.out 0).trans rfl;have yM : wr.cell? ⟨aPq, 1, none⟩ = some (.slice bW aH.length bN) := (ae aMR.out 1).trans rfl;have yN := ai aMR.out 0;have yO := ai aMR.out 1;go_wp2;go_ret;exact ⟨by first | rfl | (simp [aW, aX] <;> rfl) | (simp [*, aW, aX] <;> rfl), bO HB⟩
def aCa.f (k : Nat) (aR : Int) (aH : List (S64)) (a1 : Int) : Option (Bool) := (y9.f k aR aH 0 (wrap64 (a1 + 1))).bind fun aSg => (some (decide (aSg ≥ 0)))
theorem aCa.mono : ∀ a0 a1 a2 k, dz (aCa.f k a0 a1 a2) (aCa.f (k + 1) a0 a1 a2) := by
 intro a0 a1 a2 k;unfold aCa.f;repeat' first
   | (with_reducible exact y9.mono _ _ _ _ _)
   | (with_reducible exact dz.refl _)
   | (with_reducible exact dz.none _)
   | (with_reducible refine dz.ite ?_ ?_)
   | (with_reducible refine dz.bind ?_ (fun _ => ?_))
   | exact y9.mono _ _ _ _ _
   | exact dz.none _
   | refine dz.ite ?_ ?_
   | refine dz.bind ?_ (fun _ => ?_)
set_option maxHeartbeats 8000000 in
set_option maxRecDepth 100000 in
theorem aCa.calls (k : Nat) (aR : Int) (bW : Option Addr) (bN : Nat) (aH : List (S64)) (a1 : Int) (r : Bool) (w : World) (fw : Kd.C OG w bW aH.length aH) (fC : aH.length ≤ bN) (h : aCa.f k aR aH a1 = some r) :
  Calls Try.prog 59 #[.agg #[.int .i64 aR, .slice bW aH.length bN], .int .i64 a1] w fun e w' => e = .returned (.bool r) ∧ Below w.heap.size w w' := by
 have hu64 := Try.underlying64;have arT := aa.mk fw;have fP := aa.mk fC;clear fw fC;have HB := aa.mk (Below.refl w.heap.size w);have H : ((y9.f k aR aH 0 (wrap64 (a1 + 1))).bind fun aSg => (some (decide (aSg ≥ 0)))) = some r := h;clear h;replace H := Option.bind_eq_some_iff.mp H;obtain ⟨aSg, U0, H⟩ := H;replace H : (some (decide (aSg ≥ 0))) = some r := H;have A3 := aa.mk U0;clear U0;obtain rfl := Option.some.inj H;go_enter Try.func59, Try.ntmps59
 go_wp2_with (first | ((with_reducible refine bM (N := 2) rfl ?_); refine bG ?hg (N := 2) ?hd (cs := #[.int .i64 aR, .slice bW aH.length bN]) (t := 64) ?hr ?_; (case hd => rfl); (case hg => rfl); (case hr => first | (go_simp; done) | (go_simp; rfl)); intro aFF hg w4 bR hb; have bP := aa.mk (aM (bO HB) hb); have bQ := aa.mk (bR); have bT := aa.mk ((by rw [hg]; exact (aK (bO HB)) : w.heap.size ≤ aFF)); have di := aa.mk ((by rw [hg]; exact (aK (bO HB)) : w.heap.size ≤ aFF)); clear HB; have HB := bP; have aB7 := bQ; have aQU := bT; have aQV := di; clear bP bQ bT di; clear hb bR hg; have nU : w4.cell? ⟨aFF, 0, none⟩ = some (.int .i64 aR) := (ae aB7.out 0).trans rfl; have nV : w4.cell? ⟨aFF, 1, none⟩ = some (.slice bW aH.length bN) := (ae aB7.out 1).trans rfl; have nW := ai aB7.out 0; have nX := ai aB7.out 1) | ((with_reducible refine dE (f := 92) rfl ?_); refine iB (some 8) rfl rfl Try.func92 (by kernel_rfl) rfl #[.agg #[.int .i64 aR, .slice bW aH.length bN], .int .i64 0, .int .i64 (wrap64 (a1 + 1))] rfl (by (try simp only [List.map_toArray, List.map_cons, List.map_nil]); first | done | rfl | (simp only [List.length_drop, List.length_take]; rfl)) ?_; (with_reducible refine (y9.calls k aR _ _ aH 0 (wrap64 (a1 + 1)) aSg _ ?side1 ?side2 A3.out).mono ?_); (case side1 => repeat (first | exact (Kd.bF arT.out HB.out) | (with_reducible refine Kd.dF ?_ _) | (with_reducible refine Kd.dG ?_ _) | (with_reducible refine Kd.eG ?_))); (case side2 => exact fP.out); rintro e w6 ⟨rfl, hb⟩; refine ⟨_, rfl, ?_⟩; have bP := aa.mk (aC (bk aB7) hb); have bQ := aa.mk (aM (bO HB) hb); clear aB7; clear HB; have aB7 := bP; have HB := bQ; clear bP bQ; (try clear hb); (try clear hb2); (try clear hk); (try clear hi)))
 go_ret;exact ⟨by first | rfl | (simp [aW, aX] <;> rfl) | (simp [*, aW, aX] <;> rfl), bO HB⟩
mutual
def ek.j0 : Nat → List Int → Bool → Int → Int → Int → List (KH) → Int → List (S64) → Option (Bool)
 | 0, _, _, _, _, _, _, _, _ => none
 | k + 1, x1, x41, aOS, aOt, aOV, aNt, aNv, aPD => if x41 = true then ((apq.f).bind fun aSh => (some aSh)) else (ek.j1 k x1 aOS aOt aOV aNt aNv aPD)
def ek.j1 : Nat → List Int → Int → Int → Int → List (KH) → Int → List (S64) → Option (Bool)
 | 0, _, _, _, _, _, _, _ => none
 | k + 1, x1, aOS, aOt, aOV, aNt, aNv, aPD => if 0 ≤ aNv then (if aNv < (aNt.length : Int) then ((j3.f k aOS aOt aOV aNt ((Dj aNt aNv).f1) aNv aPD).bind fun aR3 => (if aR3 = true then (ek.j2 k x1 ((Dj aNt aNv).f1) aOS aOt aOV aNt aNv aPD) else ((apq.f).bind fun aP1 => (some aP1)))) else (none)) else (none)
def ek.j2 : Nat → List Int → Int → Int → Int → Int → List (KH) → Int → List (S64) → Option (Bool)
 | 0, _, _, _, _, _, _, _, _ => none
 | k + 1, x1, x7, aOS, aOt, aOV, aNt, aNv, aPD => (an2.f k aOS aOt aOV aNt x1).bind fun aMy => ((apq.f).bind fun aRU => (if aRU = true then (if (aMy.length : Int) = aOt then ((aBT.f aOS aOt aOV aNt x1 aNv aPD).bind fun aOu => (if 0 ≤ x7 then (if x7 < (aMy.length : Int) then ((jA.f aOu.1 aOu.2 ((bJ aMy x7).f0) ((bJ aMy x7).f1)).bind fun aPH => (some (!aPH))) else (none)) else (none))) else (some false)) else (some false)))
end
def ek.f (k : Nat) (aR : Int) (iR : Int) (vX : Int) (y8 : List (KH)) (l1 : List Int) (bg : Int) (bV : List (S64)) : Option (Bool) := (aqb.f aR iR vX y8 l1).bind fun aKE => (if aKE = true then ((rX.f k aR iR vX y8).bind fun aP2 => (if aP2 = true then ((aqe.f k aR iR vX y8 l1).bind fun aPf => (if aPf = true then ((aCa.f k bg bV 200).bind fun aOh => (if aOh = true then (if bg < 0 then (ek.j0 k l1 true aR iR vX y8 bg bV) else (ek.j0 k l1 (decide (bg ≥ (y8.length : Int))) aR iR vX y8 bg bV)) else (ek.j0 k l1 true aR iR vX y8 bg bV))) else (ek.j0 k l1 true aR iR vX y8 bg bV))) else (ek.j0 k l1 true aR iR vX y8 bg bV))) else (ek.j0 k l1 true aR iR vX y8 bg bV))
theorem ek.apw : ∀ k, (∀ y0 y1 y2 y3 y4 y5 y6 y7, dz (ek.j0 k y0 y1 y2 y3 y4 y5 y6 y7) (ek.j0 (k + 1) y0 y1 y2 y3 y4 y5 y6 y7)) ∧ (∀ y0 y1 y2 y3 y4 y5 y6, dz (ek.j1 k y0 y1 y2 y3 y4 y5 y6) (ek.j1 (k + 1) y0 y1 y2 y3 y4 y5 y6)) ∧ (∀ y0 y1 y2 y3 y4 y5 y6 y7, dz (ek.j2 k y0 y1 y2 y3 y4 y5 y6 y7) (ek.j2 (k + 1) y0 y1 y2 y3 y4 y5 y6 y7))
 | 0 => ⟨fun _ _ _ _ _ _ _ _ r h => by simp [ek.j0] at h, fun _ _ _ _ _ _ _ r h => by simp [ek.j1] at h, fun _ _ _ _ _ _ _ _ r h => by simp [ek.j2] at h⟩
 | k + 1 => by
  obtain ⟨jP, ih1, ih2⟩ := ek.apw k;refine ⟨?_, ?_, ?_⟩;all_goals intros
  all_goals first | unfold ek.j0 | unfold ek.j1 | unfold ek.j2
  all_goals
   repeat' first
   | (with_reducible exact jP _ _ _ _ _ _ _ _)
   | (with_reducible exact ih1 _ _ _ _ _ _ _)
   | (with_reducible exact ih2 _ _ _ _ _ _ _ _)
   | (with_reducible exact rX.mono _ _ _ _ _)
   | (with_reducible exact j3.mono _ _ _ _ _ _ _ _)
   | (with_reducible exact aCa.mono _ _ _ _)
   | (with_reducible exact aqe.mono _ _ _ _ _ _)
   | (with_reducible exact an2.mono _ _ _ _ _ _)
   | (with_reducible exact dz.refl _)
   | (with_reducible exact dz.none _)
   | (with_reducible refine dz.ite ?_ ?_)
   | (with_reducible refine dz.bind ?_ (fun _ => ?_))
   | exact jP _ _ _ _ _ _ _ _
   | exact ih1 _ _ _ _ _ _ _
   | exact ih2 _ _ _ _ _ _ _ _
   | exact rX.mono _ _ _ _ _
   | exact j3.mono _ _ _ _ _ _ _ _
   | exact aCa.mono _ _ _ _
   | exact aqe.mono _ _ _ _ _ _
   | exact an2.mono _ _ _ _ _ _
   | exact dz.none _
   | refine dz.ite ?_ ?_
   | refine dz.bind ?_ (fun _ => ?_)
theorem ek.mono : ∀ a0 a1 a2 a3 a4 a5 a6 k, dz (ek.f k a0 a1 a2 a3 a4 a5 a6) (ek.f (k + 1) a0 a1 a2 a3 a4 a5 a6) := by
 intro a0 a1 a2 a3 a4 a5 a6 k;obtain ⟨jP, ih1, ih2⟩ := ek.apw k;unfold ek.f;repeat' first
   | (with_reducible exact jP _ _ _ _ _ _ _ _)
   | (with_reducible exact ih1 _ _ _ _ _ _ _)
   | (with_reducible exact ih2 _ _ _ _ _ _ _ _)
   | (with_reducible exact rX.mono _ _ _ _ _)
   | (with_reducible exact j3.mono _ _ _ _ _ _ _ _)
   | (with_reducible exact aCa.mono _ _ _ _)
   | (with_reducible exact aqe.mono _ _ _ _ _ _)
   | (with_reducible exact an2.mono _ _ _ _ _ _)
   | (with_reducible exact dz.refl _)
   | (with_reducible exact dz.none _)
   | (with_reducible refine dz.ite ?_ ?_)
   | (with_reducible refine dz.bind ?_ (fun _ => ?_))
   | exact jP _ _ _ _ _ _ _ _
   | exact ih1 _ _ _ _ _ _ _
   | exact ih2 _ _ _ _ _ _ _ _
   | exact rX.mono _ _ _ _ _
   | exact j3.mono _ _ _ _ _ _ _ _
   | exact aCa.mono _ _ _ _
   | exact aqe.mono _ _ _ _ _ _
   | exact an2.mono _ _ _ _ _ _
   | exact dz.none _
   | refine dz.ite ?_ ?_
   | refine dz.bind ?_ (fun _ => ?_)
def ek.T7 : Bool × List (List Nat × List Nat) := (true, [([], []), ([0, 0], [0]), ([1], [1]), ([2, 1], [1, 2]), ([1], [1]), ([4, 1], [1, 4]), ([3, 5, 1], [1, 3, 5]), ([1, 6], [1, 6]), ([7, 1], [7]), ([8], [8]), ([8], [8]), ([8], [8]), ([9, 10, 11, 8, 8], [8, 9, 10, 11]), ([8], [8]), ([8], [8]), ([13, 14, 8], [8, 13, 14]), ([15, 8], [8, 15]), ([12, 16, 12, 8], [8, 12, 16]), ([17, 8], [8, 17]), ([8, 18], [8, 18]), ([19, 17, 0, 1, 2, 3, 4, 5, 6, 7, 8, 9, 10, 11, 12, 13, 14, 15, 16, 17, 18, 19], [19])])
def ek.B7 : List Nat := [0, 1, 3, 7, 3, 19, 63, 127, 255, 511, 511, 511, 4095, 511, 511, 25087, 57855, 131071, 262143, 524287, 1048575]
theorem ek.aQA : iC .any (opsOf Try.f15 7) = ek.T7 := by kernel_rfl
theorem ek.aOx : fo ek.T7.2 ek.B7 = true := by kernel_rfl
set_option maxHeartbeats 8000000 in
set_option maxRecDepth 100000 in
theorem ek.calls (k : Nat) (aR : Int) (iR : Int) (vX : Int) (aps : Option Addr) (ao4 : Nat) (y8 : List (KH)) (A1 : Option Addr) (c1 : Nat) (l1 : List Int) (bg : Int) (jX : Option Addr) (iX : Nat) (bV : List (S64)) (r : Bool) (w : World) (aqy : Kd.C Md w aps y8.length y8) (aqz : y8.length ≤ ao4) (hr1 : Kd.C (Kd.int .i64) w A1 l1.length l1) (hc1 : l1.length ≤ c1) (yu : Kd.C OG w jX bV.length bV) (yw : bV.length ≤ iX) (h : ek.f k aR iR vX y8 l1 bg bV = some r) :
  Calls Try.prog 15 #[.agg #[.int .i64 aR, .int .i64 iR, .int .i64 vX, .slice aps y8.length ao4], .slice A1 l1.length c1, .agg #[.int .i64 bg, .slice jX bV.length iX]] w fun e w' => e = .returned (.bool r) ∧ Below w.heap.size w w' := by
 have avx := Try.underlying58;have hu64 := Try.underlying64;have QT := Try.underlying34;have aqx := aa.mk aqy;have aqH := aa.mk aqz;clear aqy aqz;have HR1 := aa.mk hr1;have EY := aa.mk hc1;clear hr1 hc1;have AJ := aa.mk yu;have TQ := aa.mk yw;clear yu yw;have HB := aa.mk (Below.refl w.heap.size w);have H : ((aqb.f aR iR vX y8 l1).bind fun aKE => (if aKE = true then ((rX.f k aR iR vX y8).bind fun aP2 => (if aP2 = true then ((aqe.f k aR iR vX y8 l1).bind fun aPf => (if aPf = true then ((aCa.f k bg bV 200).bind fun aOh => (if aOh = true then (if bg < 0 then (ek.j0 k l1 true aR iR vX y8 bg bV) else (ek.j0 k l1 (decide (bg ≥ (y8.length : Int))) aR iR vX y8 bg bV)) else (ek.j0 k l1 true aR iR vX y8 bg bV))) else (ek.j0 k l1 true aR iR vX y8 bg bV))) else (ek.j0 k l1 true aR iR vX y8 bg bV))) else (ek.j0 k l1 true aR iR vX y8 bg bV))) = some r := h;clear h;have IK := aa.mk H;clear H;go_enter Try.func15, Try.ntmps15
 go_upto_region 1 with (first | ((with_reducible refine bM (N := 3) rfl ?_); (try (refine gG (by rfl) ?_; dsimp only)); refine bG ?hg (N := 3) ?hd (cs := #[.int .i64 aR, .int .i64 iR, .int .i64 vX, .slice aps y8.length ao4]) (t := 58) ?hr ?_; (case hd => rfl); (case hg => rfl); (case hr => first | (go_simp; done) | (go_simp; rfl)); intro aKQ hg w5 bR hb; have bP := aa.mk (aM (bO HB) hb); have bQ := aa.mk (bR); have bT := aa.mk ((by rw [hg]; exact (aK (bO HB)) : w.heap.size ≤ aKQ)); have di := aa.mk ((by rw [hg]; exact (aK (bO HB)) : w.heap.size ≤ aKQ)); clear HB; have HB := bP; have A8 := bQ; have aYX := bT; have aYY := di; clear bP bQ bT di; clear hb bR hg) | ((with_reducible refine bM (N := 5) rfl ?_); (try (refine gG (by rfl) ?_; dsimp only)); refine bG ?hg (N := 5) ?hd (cs := #[.int .i64 bg, .slice jX bV.length iX]) (t := 64) ?hr ?_; (case hd => rfl); (case hg => rfl); (case hr => first | (go_simp; done) | (go_simp; rfl)); intro aMS hg w6 bR hb; have bP := aa.mk (aC (bk A8) hb); have bQ := aa.mk (aM (bO HB) hb); have bT := aa.mk (bR); have di := aa.mk ((by rw [hg]; exact (aK (bO HB)) : w.heap.size ≤ aMS)); have n4_ := aa.mk ((by rw [hg]; exact (aK (bO HB)) : w.heap.size ≤ aMS)); have n5_ := aa.mk ((by rw [hg]; exact Nat.ne_of_lt (bE (bk A8)) : aKQ ≠ aMS)); have iG := aa.mk ((by rw [hg]; exact Nat.ne_of_gt (bE (bk A8)) : aMS ≠ aKQ)); clear A8; clear HB; have A8 := bP; have HB := bQ; have aBU := bT; have aYZ := di; have aY0 := n4_; have aMz := n5_; have aMQ := iG; clear bP bQ bT di n4_ n5_ iG; clear hb bR hg))
 (try simp only [Act.put, List.setIfInBounds_toArray, List.set_cons_zero, List.set_cons_succ]);go_cut [41] (fun v41 wc => ∃ (kq : Nat) (aR9 : Bool), v41 = .bool aR9 ∧ aa (ek.j0 kq l1 aR9 aR iR vX y8 bg bV = some r) ∧ aa (kq ≤ k) ∧ aa (wc.heap[aKQ]? = some (.cells #[.int .i64 aR, .int .i64 iR, .int .i64 vX, (.slice aps y8.length ao4)] 58 (0, 0))) ∧ aa (wc.heap[aMS]? = some (.cells #[.int .i64 bg, (.slice jX bV.length iX)] 64 (0, 0))) ∧ aa (Below w.heap.size w wc))
 case first =>
  have H := IK.out;clear IK;replace H := Option.bind_eq_some_iff.mp H;obtain ⟨aKE, A70, H⟩ := H;replace H : (if aKE = true then ((rX.f k aR iR vX y8).bind fun aP2 => (if aP2 = true then ((aqe.f k aR iR vX y8 l1).bind fun aPf => (if aPf = true then ((aCa.f k bg bV 200).bind fun aOh => (if aOh = true then (if bg < 0 then (ek.j0 k l1 true aR iR vX y8 bg bV) else (ek.j0 k l1 (decide (bg ≥ (y8.length : Int))) aR iR vX y8 bg bV)) else (ek.j0 k l1 true aR iR vX y8 bg bV))) else (ek.j0 k l1 true aR iR vX y8 bg bV))) else (ek.j0 k l1 true aR iR vX y8 bg bV))) else (ek.j0 k l1 true aR iR vX y8 bg bV)) = some r := H;have A7 := aa.mk A70;clear A70;by_cases c8 : aKE = true
  ·subst c8;have H1 : ((rX.f k aR iR vX y8).bind fun aP2 => (if aP2 = true then ((aqe.f k aR iR vX y8 l1).bind fun aPf => (if aPf = true then ((aCa.f k bg bV 200).bind fun aOh => (if aOh = true then (if bg < 0 then (ek.j0 k l1 true aR iR vX y8 bg bV) else (ek.j0 k l1 (decide (bg ≥ (y8.length : Int))) aR iR vX y8 bg bV)) else (ek.j0 k l1 true aR iR vX y8 bg bV))) else (ek.j0 k l1 true aR iR vX y8 bg bV))) else (ek.j0 k l1 true aR iR vX y8 bg bV))) = some r := by rw [if_pos rfl] at H; exact H
   clear H;have H := H1;clear H1;replace H := Option.bind_eq_some_iff.mp H;obtain ⟨aP2, A90, H⟩ := H;replace H : (if aP2 = true then ((aqe.f k aR iR vX y8 l1).bind fun aPf => (if aPf = true then ((aCa.f k bg bV 200).bind fun aOh => (if aOh = true then (if bg < 0 then (ek.j0 k l1 true aR iR vX y8 bg bV) else (ek.j0 k l1 (decide (bg ≥ (y8.length : Int))) aR iR vX y8 bg bV)) else (ek.j0 k l1 true aR iR vX y8 bg bV))) else (ek.j0 k l1 true aR iR vX y8 bg bV))) else (ek.j0 k l1 true aR iR vX y8 bg bV)) = some r := H;have A9 := aa.mk A90;clear A90;by_cases c10 : aP2 = true
   ·subst c10;have H1 : ((aqe.f k aR iR vX y8 l1).bind fun aPf => (if aPf = true then ((aCa.f k bg bV 200).bind fun aOh => (if aOh = true then (if bg < 0 then (ek.j0 k l1 true aR iR vX y8 bg bV) else (ek.j0 k l1 (decide (bg ≥ (y8.length : Int))) aR iR vX y8 bg bV)) else (ek.j0 k l1 true aR iR vX y8 bg bV))) else (ek.j0 k l1 true aR iR vX y8 bg bV))) = some r := by rw [if_pos rfl] at H; exact H
    clear H;have H := H1;clear H1;replace H := Option.bind_eq_some_iff.mp H;obtain ⟨aPf, aeT, H⟩ := H;replace H : (if aPf = true then ((aCa.f k bg bV 200).bind fun aOh => (if aOh = true then (if bg < 0 then (ek.j0 k l1 true aR iR vX y8 bg bV) else (ek.j0 k l1 (decide (bg ≥ (y8.length : Int))) aR iR vX y8 bg bV)) else (ek.j0 k l1 true aR iR vX y8 bg bV))) else (ek.j0 k l1 true aR iR vX y8 bg bV)) = some r := H;have A11 := aa.mk aeT;clear aeT;by_cases c12 : aPf = true
    ·subst c12;have H1 : ((aCa.f k bg bV 200).bind fun aOh => (if aOh = true then (if bg < 0 then (ek.j0 k l1 true aR iR vX y8 bg bV) else (ek.j0 k l1 (decide (bg ≥ (y8.length : Int))) aR iR vX y8 bg bV)) else (ek.j0 k l1 true aR iR vX y8 bg bV))) = some r := by rw [if_pos rfl] at H; exact H
     clear H;have H := H1;clear H1;replace H := Option.bind_eq_some_iff.mp H;obtain ⟨aOh, afh, H⟩ := H;replace H : (if aOh = true then (if bg < 0 then (ek.j0 k l1 true aR iR vX y8 bg bV) else (ek.j0 k l1 (decide (bg ≥ (y8.length : Int))) aR iR vX y8 bg bV)) else (ek.j0 k l1 true aR iR vX y8 bg bV)) = some r := H;have A13 := aa.mk afh;clear afh;by_cases c14 : aOh = true
     ·subst c14;have H1 : (if bg < 0 then (ek.j0 k l1 true aR iR vX y8 bg bV) else (ek.j0 k l1 (decide (bg ≥ (y8.length : Int))) aR iR vX y8 bg bV)) = some r := by rw [if_pos rfl] at H; exact H
      clear H;have H := H1;clear H1;by_cases c15 : bg < 0
      ·rw [if_pos c15] at H;have tF : decide (bg < 0) = true := decide_eq_true c15;clear c15
       (first | rw [tF] | (simp only [bH, bI]; rw [tF]) | skip)
       have H' := aa.mk H;clear H;have alS := aMz.out;have alT := aMQ.out;have Qj : w6.cell? ⟨aKQ, 0, none⟩ = some (.int .i64 aR) := (ae A8.out 0).trans rfl;have Qk : w6.cell? ⟨aKQ, 1, none⟩ = some (.int .i64 iR) := (ae A8.out 1).trans rfl;have azI : w6.cell? ⟨aKQ, 2, none⟩ = some (.int .i64 vX) := (ae A8.out 2).trans rfl;have azJ : w6.cell? ⟨aKQ, 3, none⟩ = some (.slice aps y8.length ao4) := (ae A8.out 3).trans rfl;have Ql := ai A8.out 0;have Qm := ai A8.out 1;have azK := ai A8.out 2;have azL := ai A8.out 3;go_wp2_with (first | ((with_reducible refine dE (f := 46) rfl ?_); refine iB (some 11) rfl rfl Try.func46 (by kernel_rfl) rfl #[.agg #[.int .i64 aR, .int .i64 iR, .int .i64 vX, .slice aps y8.length ao4], .slice A1 l1.length c1] rfl (by (try simp only [List.map_toArray, List.map_cons, List.map_nil]); first | done | rfl | (simp only [List.length_drop, List.length_take]; rfl)) ?_; (with_reducible refine (aqb.calls aR iR vX _ _ y8 _ _ l1 true _ ?side1 ?side2 ?side3 ?side4 A7.out).mono ?_); (case side1 => repeat (first | exact (Kd.bF aqx.out HB.out) | (with_reducible refine Kd.dF ?_ _) | (with_reducible refine Kd.dG ?_ _) | (with_reducible refine Kd.eG ?_))); (case side2 => exact aqH.out); (case side3 => repeat (first | exact (Kd.bF HR1.out HB.out) | (with_reducible refine Kd.dF ?_ _) | (with_reducible refine Kd.dG ?_ _) | (with_reducible refine Kd.eG ?_))); (case side4 => exact EY.out); rintro e w18 ⟨rfl, hb⟩; refine ⟨_, rfl, ?_⟩; have bP := aa.mk (aC (bk A8) hb); have bQ := aa.mk (aC (bk aBU) hb); have bT := aa.mk (aM (bO HB) hb); clear A8; clear aBU; clear HB; have A8 := bP; have aBU := bQ; have HB := bT; clear bP bQ bT; (try clear hb); (try clear hb2); (try clear hk); (try clear hi); have qo : w18.cell? ⟨aKQ, 0, none⟩ = some (.int .i64 aR) := (ae A8.out 0).trans rfl; have qp : w18.cell? ⟨aKQ, 1, none⟩ = some (.int .i64 iR) := (ae A8.out 1).trans rfl; have aQY : w18.cell? ⟨aKQ, 2, none⟩ = some (.int .i64 vX) := (ae A8.out 2).trans rfl; have aQ0 : w18.cell? ⟨aKQ, 3, none⟩ = some (.slice aps y8.length ao4) := (ae A8.out 3).trans rfl; have qw := ai A8.out 0; have qx := ai A8.out 1; have aQ2 := ai A8.out 2; have aQ6 := ai A8.out 3) | (go_at_call 57; (with_reducible refine (rX.calls k aR iR vX _ _ y8 true _ ?side1 ?side2 A9.out).mono ?_); (case side1 => repeat (first | exact (Kd.bF aqx.out HB.out) | (with_reducible refine Kd.dF ?_ _) | (with_reducible refine Kd.dG ?_ _) | (with_reducible refine Kd.eG ?_))); (case side2 => exact aqH.out); rintro e w20 ⟨rfl, hb⟩; have bP := aa.mk (aC (bk A8) hb); have bQ := aa.mk (aC (bk aBU) hb); have bT := aa.mk (aM (bO HB) hb); clear A8; clear aBU; clear HB; have A8 := bP; have aBU := bQ; have HB := bT; clear bP bQ bT; (try clear hb); (try clear hb2); (try clear hk); (try clear hi); have qi : w20.cell? ⟨aKQ, 0, none⟩ = some (.int .i64 aR) := (ae A8.out 0).trans rfl; have qj : w20.cell? ⟨aKQ, 1, none⟩ = some (.int .i64 iR) := (ae A8.out 1).trans rfl; have J2 : w20.cell? ⟨aKQ, 2, none⟩ = some (.int .i64 vX) := (ae A8.out 2).trans rfl; have J3 : w20.cell? ⟨aKQ, 3, none⟩ = some (.slice aps y8.length ao4) := (ae A8.out 3).trans rfl; have ql := ai A8.out 0; have qm := ai A8.out 1; have J5 := ai A8.out 2; have J6 := ai A8.out 3) | (go_at_call 58; (with_reducible refine (aqe.calls k aR iR vX _ _ y8 _ _ l1 true _ ?side1 ?side2 ?side3 ?side4 A11.out).mono ?_); (case side1 => repeat (first | exact (Kd.bF aqx.out HB.out) | (with_reducible refine Kd.dF ?_ _) | (with_reducible refine Kd.dG ?_ _) | (with_reducible refine Kd.eG ?_))); (case side2 => exact aqH.out); (case side3 => repeat (first | exact (Kd.bF HR1.out HB.out) | (with_reducible refine Kd.dF ?_ _) | (with_reducible refine Kd.dG ?_ _) | (with_reducible refine Kd.eG ?_))); (case side4 => exact EY.out); rintro e w22 ⟨rfl, hb⟩; have bP := aa.mk (aC (bk A8) hb); have bQ := aa.mk (aC (bk aBU) hb); have bT := aa.mk (aM (bO HB) hb); clear A8; clear aBU; clear HB; have A8 := bP; have aBU := bQ; have HB := bT; clear bP bQ bT; (try clear hb); (try clear hb2); (try clear hk); (try clear hi); have ar2 : w22.cell? ⟨aMS, 0, none⟩ = some (.int .i64 bg) := (ae aBU.out 0).trans rfl; have ar3 : w22.cell? ⟨aMS, 1, none⟩ = some (.slice jX bV.length iX) := (ae aBU.out 1).trans rfl; have ar4 := ai aBU.out 0; have ar5 := ai aBU.out 1) | (go_at_call 59; (with_reducible refine (aCa.calls k bg _ _ bV 200 true _ ?side1 ?side2 A13.out).mono ?_); (case side1 => repeat (first | exact (Kd.bF AJ.out HB.out) | (with_reducible refine Kd.dF ?_ _) | (with_reducible refine Kd.dG ?_ _) | (with_reducible refine Kd.eG ?_))); (case side2 => exact TQ.out); rintro e w24 ⟨rfl, hb⟩; have bP := aa.mk (aC (bk A8) hb); have bQ := aa.mk (aC (bk aBU) hb); have bT := aa.mk (aM (bO HB) hb); clear A8; clear aBU; clear HB; have A8 := bP; have aBU := bQ; have HB := bT; clear bP bQ bT; (try clear hb); (try clear hb2); (try clear hk); (try clear hi); have yP : w24.cell? ⟨aMS, 0, none⟩ = some (.int .i64 bg) := (ae aBU.out 0).trans rfl; have yQ : w24.cell? ⟨aMS, 1, none⟩ = some (.slice jX bV.length iX) := (ae aBU.out 1).trans rfl; have yR := ai aBU.out 0; have yS := ai aBU.out 1))
       go_meet
       case rel => exact ⟨_, (true), (by first | rfl | (simp; done) | (simp [*]; done)), H', ⟨by first | omega | exact Nat.le_refl _⟩, ⟨by (with_reducible repeat (first | refine ax ?_ _ | refine az ?_ | refine au ?_ _)); exact A8.out⟩, ⟨by (with_reducible repeat (first | refine ax ?_ _ | refine az ?_ | refine au ?_ _)); exact aBU.out⟩, ⟨bO HB⟩⟩
      ·rw [if_neg c15] at H;have tF : decide (bg < 0) = false := decide_eq_false c15;clear c15
       (first | rw [tF] | (simp only [bH, bI]; rw [tF]) | skip)
       have H' := aa.mk H;clear H;have adv := aMz.out;have adw := aMQ.out;have ahA : w6.cell? ⟨aKQ, 0, none⟩ = some (.int .i64 aR) := (ae A8.out 0).trans rfl;have ahB : w6.cell? ⟨aKQ, 1, none⟩ = some (.int .i64 iR) := (ae A8.out 1).trans rfl;have aoH : w6.cell? ⟨aKQ, 2, none⟩ = some (.int .i64 vX) := (ae A8.out 2).trans rfl;have aoI : w6.cell? ⟨aKQ, 3, none⟩ = some (.slice aps y8.length ao4) := (ae A8.out 3).trans rfl;have ahC := ai A8.out 0;have ahD := ai A8.out 1;have aoO := ai A8.out 2;have aoQ := ai A8.out 3;go_wp2_with (first | ((with_reducible refine dE (f := 46) rfl ?_); refine iB (some 11) rfl rfl Try.func46 (by kernel_rfl) rfl #[.agg #[.int .i64 aR, .int .i64 iR, .int .i64 vX, .slice aps y8.length ao4], .slice A1 l1.length c1] rfl (by (try simp only [List.map_toArray, List.map_cons, List.map_nil]); first | done | rfl | (simp only [List.length_drop, List.length_take]; rfl)) ?_; (with_reducible refine (aqb.calls aR iR vX _ _ y8 _ _ l1 true _ ?side1 ?side2 ?side3 ?side4 A7.out).mono ?_); (case side1 => repeat (first | exact (Kd.bF aqx.out HB.out) | (with_reducible refine Kd.dF ?_ _) | (with_reducible refine Kd.dG ?_ _) | (with_reducible refine Kd.eG ?_))); (case side2 => exact aqH.out); (case side3 => repeat (first | exact (Kd.bF HR1.out HB.out) | (with_reducible refine Kd.dF ?_ _) | (with_reducible refine Kd.dG ?_ _) | (with_reducible refine Kd.eG ?_))); (case side4 => exact EY.out); rintro e w28 ⟨rfl, hb⟩; refine ⟨_, rfl, ?_⟩; have bP := aa.mk (aC (bk A8) hb); have bQ := aa.mk (aC (bk aBU) hb); have bT := aa.mk (aM (bO HB) hb); clear A8; clear aBU; clear HB; have A8 := bP; have aBU := bQ; have HB := bT; clear bP bQ bT; (try clear hb); (try clear hb2); (try clear hk); (try clear hi); have tK : w28.cell? ⟨aKQ, 0, none⟩ = some (.int .i64 aR) := (ae A8.out 0).trans rfl; have tL : w28.cell? ⟨aKQ, 1, none⟩ = some (.int .i64 iR) := (ae A8.out 1).trans rfl; have aQ7 : w28.cell? ⟨aKQ, 2, none⟩ = some (.int .i64 vX) := (ae A8.out 2).trans rfl; have aRa : w28.cell? ⟨aKQ, 3, none⟩ = some (.slice aps y8.length ao4) := (ae A8.out 3).trans rfl; have tN := ai A8.out 0; have tO := ai A8.out 1; have aRb := ai A8.out 2; have aRc := ai A8.out 3) | (go_at_call 57; (with_reducible refine (rX.calls k aR iR vX _ _ y8 true _ ?side1 ?side2 A9.out).mono ?_); (case side1 => repeat (first | exact (Kd.bF aqx.out HB.out) | (with_reducible refine Kd.dF ?_ _) | (with_reducible refine Kd.dG ?_ _) | (with_reducible refine Kd.eG ?_))); (case side2 => exact aqH.out); rintro e w30 ⟨rfl, hb⟩; have bP := aa.mk (aC (bk A8) hb); have bQ := aa.mk (aC (bk aBU) hb); have bT := aa.mk (aM (bO HB) hb); clear A8; clear aBU; clear HB; have A8 := bP; have aBU := bQ; have HB := bT; clear bP bQ bT; (try clear hb); (try clear hb2); (try clear hk); (try clear hi); have qQ : w30.cell? ⟨aKQ, 0, none⟩ = some (.int .i64 aR) := (ae A8.out 0).trans rfl; have qR : w30.cell? ⟨aKQ, 1, none⟩ = some (.int .i64 iR) := (ae A8.out 1).trans rfl; have J8 : w30.cell? ⟨aKQ, 2, none⟩ = some (.int .i64 vX) := (ae A8.out 2).trans rfl; have J9 : w30.cell? ⟨aKQ, 3, none⟩ = some (.slice aps y8.length ao4) := (ae A8.out 3).trans rfl; have qU := ai A8.out 0; have qV := ai A8.out 1; have Kb := ai A8.out 2; have Ke := ai A8.out 3) | (go_at_call 58; (with_reducible refine (aqe.calls k aR iR vX _ _ y8 _ _ l1 true _ ?side1 ?side2 ?side3 ?side4 A11.out).mono ?_); (case side1 => repeat (first | exact (Kd.bF aqx.out HB.out) | (with_reducible refine Kd.dF ?_ _) | (with_reducible refine Kd.dG ?_ _) | (with_reducible refine Kd.eG ?_))); (case side2 => exact aqH.out); (case side3 => repeat (first | exact (Kd.bF HR1.out HB.out) | (with_reducible refine Kd.dF ?_ _) | (with_reducible refine Kd.dG ?_ _) | (with_reducible refine Kd.eG ?_))); (case side4 => exact EY.out); rintro e w32 ⟨rfl, hb⟩; have bP := aa.mk (aC (bk A8) hb); have bQ := aa.mk (aC (bk aBU) hb); have bT := aa.mk (aM (bO HB) hb); clear A8; clear aBU; clear HB; have A8 := bP; have aBU := bQ; have HB := bT; clear bP bQ bT; (try clear hb); (try clear hb2); (try clear hk); (try clear hi); have wW : w32.cell? ⟨aMS, 0, none⟩ = some (.int .i64 bg) := (ae aBU.out 0).trans rfl; have wX : w32.cell? ⟨aMS, 1, none⟩ = some (.slice jX bV.length iX) := (ae aBU.out 1).trans rfl; have wY := ai aBU.out 0; have wZ := ai aBU.out 1) | (go_at_call 59; (with_reducible refine (aCa.calls k bg _ _ bV 200 true _ ?side1 ?side2 A13.out).mono ?_); (case side1 => repeat (first | exact (Kd.bF AJ.out HB.out) | (with_reducible refine Kd.dF ?_ _) | (with_reducible refine Kd.dG ?_ _) | (with_reducible refine Kd.eG ?_))); (case side2 => exact TQ.out); rintro e w34 ⟨rfl, hb⟩; have bP := aa.mk (aC (bk A8) hb); have bQ := aa.mk (aC (bk aBU) hb); have bT := aa.mk (aM (bO HB) hb); clear A8; clear aBU; clear HB; have A8 := bP; have aBU := bQ; have HB := bT; clear bP bQ bT; (try clear hb); (try clear hb2); (try clear hk); (try clear hi); have Xo : w34.cell? ⟨aMS, 0, none⟩ = some (.int .i64 bg) := (ae aBU.out 0).trans rfl; have Xp : w34.cell? ⟨aMS, 1, none⟩ = some (.slice jX bV.length iX) := (ae aBU.out 1).trans rfl; have Xq := ai aBU.out 0; have Xr := ai aBU.out 1; have Xw : w34.cell? ⟨aKQ, 0, none⟩ = some (.int .i64 aR) := (ae A8.out 0).trans rfl; have Xx : w34.cell? ⟨aKQ, 1, none⟩ = some (.int .i64 iR) := (ae A8.out 1).trans rfl; have aIy : w34.cell? ⟨aKQ, 2, none⟩ = some (.int .i64 vX) := (ae A8.out 2).trans rfl; have aIz : w34.cell? ⟨aKQ, 3, none⟩ = some (.slice aps y8.length ao4) := (ae A8.out 3).trans rfl; have Xy := ai A8.out 0; have Xz := ai A8.out 1; have aIB := ai A8.out 2; have aIC := ai A8.out 3))
       go_meet
       case rel => exact ⟨_, (decide (bg ≥ (y8.length : Int))), (by first | rfl | (simp; done) | (simp [*]; done)), H', ⟨by first | omega | exact Nat.le_refl _⟩, ⟨by (with_reducible repeat (first | refine ax ?_ _ | refine az ?_ | refine au ?_ _)); exact A8.out⟩, ⟨by (with_reducible repeat (first | refine ax ?_ _ | refine az ?_ | refine au ?_ _)); exact aBU.out⟩, ⟨bO HB⟩⟩
     ·replace c14 := Bool.eq_false_iff.mpr c14;subst c14;have H1 : (ek.j0 k l1 true aR iR vX y8 bg bV) = some r := by rw [if_neg (show ¬ (false = true) by decide)] at H; exact H
      clear H;have H := H1;clear H1;have H' := aa.mk H;clear H;have Yz := aMz.out;have YA := aMQ.out;have Fe : w6.cell? ⟨aKQ, 0, none⟩ = some (.int .i64 aR) := (ae A8.out 0).trans rfl;have Ff : w6.cell? ⟨aKQ, 1, none⟩ = some (.int .i64 iR) := (ae A8.out 1).trans rfl;have axR : w6.cell? ⟨aKQ, 2, none⟩ = some (.int .i64 vX) := (ae A8.out 2).trans rfl;have axS : w6.cell? ⟨aKQ, 3, none⟩ = some (.slice aps y8.length ao4) := (ae A8.out 3).trans rfl;have Fg := ai A8.out 0;have Fh := ai A8.out 1;have axV := ai A8.out 2;have axW := ai A8.out 3;go_wp2_with (first | ((with_reducible refine dE (f := 46) rfl ?_); refine iB (some 11) rfl rfl Try.func46 (by kernel_rfl) rfl #[.agg #[.int .i64 aR, .int .i64 iR, .int .i64 vX, .slice aps y8.length ao4], .slice A1 l1.length c1] rfl (by (try simp only [List.map_toArray, List.map_cons, List.map_nil]); first | done | rfl | (simp only [List.length_drop, List.length_take]; rfl)) ?_; (with_reducible refine (aqb.calls aR iR vX _ _ y8 _ _ l1 true _ ?side1 ?side2 ?side3 ?side4 A7.out).mono ?_); (case side1 => repeat (first | exact (Kd.bF aqx.out HB.out) | (with_reducible refine Kd.dF ?_ _) | (with_reducible refine Kd.dG ?_ _) | (with_reducible refine Kd.eG ?_))); (case side2 => exact aqH.out); (case side3 => repeat (first | exact (Kd.bF HR1.out HB.out) | (with_reducible refine Kd.dF ?_ _) | (with_reducible refine Kd.dG ?_ _) | (with_reducible refine Kd.eG ?_))); (case side4 => exact EY.out); rintro e w39 ⟨rfl, hb⟩; refine ⟨_, rfl, ?_⟩; have bP := aa.mk (aC (bk A8) hb); have bQ := aa.mk (aC (bk aBU) hb); have bT := aa.mk (aM (bO HB) hb); clear A8; clear aBU; clear HB; have A8 := bP; have aBU := bQ; have HB := bT; clear bP bQ bT; (try clear hb); (try clear hb2); (try clear hk); (try clear hi); have ahG : w39.cell? ⟨aKQ, 0, none⟩ = some (.int .i64 aR) := (ae A8.out 0).trans rfl; have ahH : w39.cell? ⟨aKQ, 1, none⟩ = some (.int .i64 iR) := (ae A8.out 1).trans rfl; have aRd : w39.cell? ⟨aKQ, 2, none⟩ = some (.int .i64 vX) := (ae A8.out 2).trans rfl; have aRe : w39.cell? ⟨aKQ, 3, none⟩ = some (.slice aps y8.length ao4) := (ae A8.out 3).trans rfl; have ahI := ai A8.out 0; have ahJ := ai A8.out 1; have aRf := ai A8.out 2; have aRg := ai A8.out 3) | (go_at_call 57; (with_reducible refine (rX.calls k aR iR vX _ _ y8 true _ ?side1 ?side2 A9.out).mono ?_); (case side1 => repeat (first | exact (Kd.bF aqx.out HB.out) | (with_reducible refine Kd.dF ?_ _) | (with_reducible refine Kd.dG ?_ _) | (with_reducible refine Kd.eG ?_))); (case side2 => exact aqH.out); rintro e w41 ⟨rfl, hb⟩; have bP := aa.mk (aC (bk A8) hb); have bQ := aa.mk (aC (bk aBU) hb); have bT := aa.mk (aM (bO HB) hb); clear A8; clear aBU; clear HB; have A8 := bP; have aBU := bQ; have HB := bT; clear bP bQ bT; (try clear hb); (try clear hb2); (try clear hk); (try clear hi); have Wu : w41.cell? ⟨aKQ, 0, none⟩ = some (.int .i64 aR) := (ae A8.out 0).trans rfl; have Wv : w41.cell? ⟨aKQ, 1, none⟩ = some (.int .i64 iR) := (ae A8.out 1).trans rfl; have agv : w41.cell? ⟨aKQ, 2, none⟩ = some (.int .i64 vX) := (ae A8.out 2).trans rfl; have agw : w41.cell? ⟨aKQ, 3, none⟩ = some (.slice aps y8.length ao4) := (ae A8.out 3).trans rfl; have Ww := ai A8.out 0; have Wx := ai A8.out 1; have agy := ai A8.out 2; have agz := ai A8.out 3) | (go_at_call 58; (with_reducible refine (aqe.calls k aR iR vX _ _ y8 _ _ l1 true _ ?side1 ?side2 ?side3 ?side4 A11.out).mono ?_); (case side1 => repeat (first | exact (Kd.bF aqx.out HB.out) | (with_reducible refine Kd.dF ?_ _) | (with_reducible refine Kd.dG ?_ _) | (with_reducible refine Kd.eG ?_))); (case side2 => exact aqH.out); (case side3 => repeat (first | exact (Kd.bF HR1.out HB.out) | (with_reducible refine Kd.dF ?_ _) | (with_reducible refine Kd.dG ?_ _) | (with_reducible refine Kd.eG ?_))); (case side4 => exact EY.out); rintro e R4 ⟨rfl, hb⟩; have bP := aa.mk (aC (bk A8) hb); have bQ := aa.mk (aC (bk aBU) hb); have bT := aa.mk (aM (bO HB) hb); clear A8; clear aBU; clear HB; have A8 := bP; have aBU := bQ; have HB := bT; clear bP bQ bT; (try clear hb); (try clear hb2); (try clear hk); (try clear hi); have ahf : R4.cell? ⟨aMS, 0, none⟩ = some (.int .i64 bg) := (ae aBU.out 0).trans rfl; have ahg : R4.cell? ⟨aMS, 1, none⟩ = some (.slice jX bV.length iX) := (ae aBU.out 1).trans rfl; have ahh := ai aBU.out 0; have ahi := ai aBU.out 1) | (go_at_call 59; (with_reducible refine (aCa.calls k bg _ _ bV 200 false _ ?side1 ?side2 A13.out).mono ?_); (case side1 => repeat (first | exact (Kd.bF AJ.out HB.out) | (with_reducible refine Kd.dF ?_ _) | (with_reducible refine Kd.dG ?_ _) | (with_reducible refine Kd.eG ?_))); (case side2 => exact TQ.out); rintro e YD ⟨rfl, hb⟩; have bP := aa.mk (aC (bk A8) hb); have bQ := aa.mk (aC (bk aBU) hb); have bT := aa.mk (aM (bO HB) hb); clear A8; clear aBU; clear HB; have A8 := bP; have aBU := bQ; have HB := bT; clear bP bQ bT; (try clear hb); (try clear hb2); (try clear hk); (try clear hi)))
      go_meet
      case rel => exact ⟨_, (true), (by first | rfl | (simp; done) | (simp [*]; done)), H', ⟨by first | omega | exact Nat.le_refl _⟩, ⟨by (with_reducible repeat (first | refine ax ?_ _ | refine az ?_ | refine au ?_ _)); exact A8.out⟩, ⟨by (with_reducible repeat (first | refine ax ?_ _ | refine az ?_ | refine au ?_ _)); exact aBU.out⟩, ⟨bO HB⟩⟩
    ·replace c12 := Bool.eq_false_iff.mpr c12;subst c12;have H1 : (ek.j0 k l1 true aR iR vX y8 bg bV) = some r := by rw [if_neg (show ¬ (false = true) by decide)] at H; exact H
     clear H;have H := H1;clear H1;have H' := aa.mk H;clear H;have adG := aMz.out;have adH := aMQ.out;have ahm : w6.cell? ⟨aKQ, 0, none⟩ = some (.int .i64 aR) := (ae A8.out 0).trans rfl;have ahn : w6.cell? ⟨aKQ, 1, none⟩ = some (.int .i64 iR) := (ae A8.out 1).trans rfl;have asg : w6.cell? ⟨aKQ, 2, none⟩ = some (.int .i64 vX) := (ae A8.out 2).trans rfl;have ash : w6.cell? ⟨aKQ, 3, none⟩ = some (.slice aps y8.length ao4) := (ae A8.out 3).trans rfl;have aho := ai A8.out 0;have ahp := ai A8.out 1;have asq := ai A8.out 2;have asr := ai A8.out 3;go_wp2_with (first | ((with_reducible refine dE (f := 46) rfl ?_); refine iB (some 11) rfl rfl Try.func46 (by kernel_rfl) rfl #[.agg #[.int .i64 aR, .int .i64 iR, .int .i64 vX, .slice aps y8.length ao4], .slice A1 l1.length c1] rfl (by (try simp only [List.map_toArray, List.map_cons, List.map_nil]); first | done | rfl | (simp only [List.length_drop, List.length_take]; rfl)) ?_; (with_reducible refine (aqb.calls aR iR vX _ _ y8 _ _ l1 true _ ?side1 ?side2 ?side3 ?side4 A7.out).mono ?_); (case side1 => repeat (first | exact (Kd.bF aqx.out HB.out) | (with_reducible refine Kd.dF ?_ _) | (with_reducible refine Kd.dG ?_ _) | (with_reducible refine Kd.eG ?_))); (case side2 => exact aqH.out); (case side3 => repeat (first | exact (Kd.bF HR1.out HB.out) | (with_reducible refine Kd.dF ?_ _) | (with_reducible refine Kd.dG ?_ _) | (with_reducible refine Kd.eG ?_))); (case side4 => exact EY.out); rintro e w48 ⟨rfl, hb⟩; refine ⟨_, rfl, ?_⟩; have bP := aa.mk (aC (bk A8) hb); have bQ := aa.mk (aC (bk aBU) hb); have bT := aa.mk (aM (bO HB) hb); clear A8; clear aBU; clear HB; have A8 := bP; have aBU := bQ; have HB := bT; clear bP bQ bT; (try clear hb); (try clear hb2); (try clear hk); (try clear hi); have af6 : w48.cell? ⟨aKQ, 0, none⟩ = some (.int .i64 aR) := (ae A8.out 0).trans rfl; have af7 : w48.cell? ⟨aKQ, 1, none⟩ = some (.int .i64 iR) := (ae A8.out 1).trans rfl; have aO3 : w48.cell? ⟨aKQ, 2, none⟩ = some (.int .i64 vX) := (ae A8.out 2).trans rfl; have aO4 : w48.cell? ⟨aKQ, 3, none⟩ = some (.slice aps y8.length ao4) := (ae A8.out 3).trans rfl; have af8 := ai A8.out 0; have af9 := ai A8.out 1; have aO5 := ai A8.out 2; have aO6 := ai A8.out 3) | (go_at_call 57; (with_reducible refine (rX.calls k aR iR vX _ _ y8 true _ ?side1 ?side2 A9.out).mono ?_); (case side1 => repeat (first | exact (Kd.bF aqx.out HB.out) | (with_reducible refine Kd.dF ?_ _) | (with_reducible refine Kd.dG ?_ _) | (with_reducible refine Kd.eG ?_))); (case side2 => exact aqH.out); rintro e w50 ⟨rfl, hb⟩; have bP := aa.mk (aC (bk A8) hb); have bQ := aa.mk (aC (bk aBU) hb); have bT := aa.mk (aM (bO HB) hb); clear A8; clear aBU; clear HB; have A8 := bP; have aBU := bQ; have HB := bT; clear bP bQ bT; (try clear hb); (try clear hb2); (try clear hk); (try clear hi); have aRh : w50.cell? ⟨aKQ, 0, none⟩ = some (.int .i64 aR) := (ae A8.out 0).trans rfl; have aRi : w50.cell? ⟨aKQ, 1, none⟩ = some (.int .i64 iR) := (ae A8.out 1).trans rfl; have aRj : w50.cell? ⟨aKQ, 2, none⟩ = some (.int .i64 vX) := (ae A8.out 2).trans rfl; have aRk : w50.cell? ⟨aKQ, 3, none⟩ = some (.slice aps y8.length ao4) := (ae A8.out 3).trans rfl; have aRl := ai A8.out 0; have aRm := ai A8.out 1; have aRn := ai A8.out 2; have aRo := ai A8.out 3) | (go_at_call 58; (with_reducible refine (aqe.calls k aR iR vX _ _ y8 _ _ l1 false _ ?side1 ?side2 ?side3 ?side4 A11.out).mono ?_); (case side1 => repeat (first | exact (Kd.bF aqx.out HB.out) | (with_reducible refine Kd.dF ?_ _) | (with_reducible refine Kd.dG ?_ _) | (with_reducible refine Kd.eG ?_))); (case side2 => exact aqH.out); (case side3 => repeat (first | exact (Kd.bF HR1.out HB.out) | (with_reducible refine Kd.dF ?_ _) | (with_reducible refine Kd.dG ?_ _) | (with_reducible refine Kd.eG ?_))); (case side4 => exact EY.out); rintro e w52 ⟨rfl, hb⟩; have bP := aa.mk (aC (bk A8) hb); have bQ := aa.mk (aC (bk aBU) hb); have bT := aa.mk (aM (bO HB) hb); clear A8; clear aBU; clear HB; have A8 := bP; have aBU := bQ; have HB := bT; clear bP bQ bT; (try clear hb); (try clear hb2); (try clear hk); (try clear hi)))
     go_meet
     case rel => exact ⟨_, (true), (by first | rfl | (simp; done) | (simp [*]; done)), H', ⟨by first | omega | exact Nat.le_refl _⟩, ⟨by (with_reducible repeat (first | refine ax ?_ _ | refine az ?_ | refine au ?_ _)); exact A8.out⟩, ⟨by (with_reducible repeat (first | refine ax ?_ _ | refine az ?_ | refine au ?_ _)); exact aBU.out⟩, ⟨bO HB⟩⟩
   ·replace c10 := Bool.eq_false_iff.mpr c10;subst c10;have H1 : (ek.j0 k l1 true aR iR vX y8 bg bV) = some r := by rw [if_neg (show ¬ (false = true) by decide)] at H; exact H
    clear H;have H := H1;clear H1;have H' := aa.mk H;clear H;have am8 := aMz.out;have am9 := aMQ.out;have aIW : w6.cell? ⟨aKQ, 0, none⟩ = some (.int .i64 aR) := (ae A8.out 0).trans rfl;have aIX : w6.cell? ⟨aKQ, 1, none⟩ = some (.int .i64 iR) := (ae A8.out 1).trans rfl;have aIY : w6.cell? ⟨aKQ, 2, none⟩ = some (.int .i64 vX) := (ae A8.out 2).trans rfl;have aIZ : w6.cell? ⟨aKQ, 3, none⟩ = some (.slice aps y8.length ao4) := (ae A8.out 3).trans rfl;have aI2 := ai A8.out 0;have aI3 := ai A8.out 1;have aI4 := ai A8.out 2;have aI5 := ai A8.out 3;go_wp2_with (first | ((with_reducible refine dE (f := 46) rfl ?_); refine iB (some 11) rfl rfl Try.func46 (by kernel_rfl) rfl #[.agg #[.int .i64 aR, .int .i64 iR, .int .i64 vX, .slice aps y8.length ao4], .slice A1 l1.length c1] rfl (by (try simp only [List.map_toArray, List.map_cons, List.map_nil]); first | done | rfl | (simp only [List.length_drop, List.length_take]; rfl)) ?_; (with_reducible refine (aqb.calls aR iR vX _ _ y8 _ _ l1 true _ ?side1 ?side2 ?side3 ?side4 A7.out).mono ?_); (case side1 => repeat (first | exact (Kd.bF aqx.out HB.out) | (with_reducible refine Kd.dF ?_ _) | (with_reducible refine Kd.dG ?_ _) | (with_reducible refine Kd.eG ?_))); (case side2 => exact aqH.out); (case side3 => repeat (first | exact (Kd.bF HR1.out HB.out) | (with_reducible refine Kd.dF ?_ _) | (with_reducible refine Kd.dG ?_ _) | (with_reducible refine Kd.eG ?_))); (case side4 => exact EY.out); rintro e w55 ⟨rfl, hb⟩; refine ⟨_, rfl, ?_⟩; have bP := aa.mk (aC (bk A8) hb); have bQ := aa.mk (aC (bk aBU) hb); have bT := aa.mk (aM (bO HB) hb); clear A8; clear aBU; clear HB; have A8 := bP; have aBU := bQ; have HB := bT; clear bP bQ bT; (try clear hb); (try clear hb2); (try clear hk); (try clear hi); have asx : w55.cell? ⟨aKQ, 0, none⟩ = some (.int .i64 aR) := (ae A8.out 0).trans rfl; have asy : w55.cell? ⟨aKQ, 1, none⟩ = some (.int .i64 iR) := (ae A8.out 1).trans rfl; have asz : w55.cell? ⟨aKQ, 2, none⟩ = some (.int .i64 vX) := (ae A8.out 2).trans rfl; have asA : w55.cell? ⟨aKQ, 3, none⟩ = some (.slice aps y8.length ao4) := (ae A8.out 3).trans rfl; have asG := ai A8.out 0; have asH := ai A8.out 1; have asI := ai A8.out 2; have asJ := ai A8.out 3) | (go_at_call 57; (with_reducible refine (rX.calls k aR iR vX _ _ y8 false _ ?side1 ?side2 A9.out).mono ?_); (case side1 => repeat (first | exact (Kd.bF aqx.out HB.out) | (with_reducible refine Kd.dF ?_ _) | (with_reducible refine Kd.dG ?_ _) | (with_reducible refine Kd.eG ?_))); (case side2 => exact aqH.out); rintro e w57 ⟨rfl, hb⟩; have bP := aa.mk (aC (bk A8) hb); have bQ := aa.mk (aC (bk aBU) hb); have bT := aa.mk (aM (bO HB) hb); clear A8; clear aBU; clear HB; have A8 := bP; have aBU := bQ; have HB := bT; clear bP bQ bT; (try clear hb); (try clear hb2); (try clear hk); (try clear hi)))
    go_meet
    case rel => exact ⟨_, (true), (by first | rfl | (simp; done) | (simp [*]; done)), H', ⟨by first | omega | exact Nat.le_refl _⟩, ⟨by (with_reducible repeat (first | refine ax ?_ _ | refine az ?_ | refine au ?_ _)); exact A8.out⟩, ⟨by (with_reducible repeat (first | refine ax ?_ _ | refine az ?_ | refine au ?_ _)); exact aBU.out⟩, ⟨bO HB⟩⟩
  ·replace c8 := Bool.eq_false_iff.mpr c8;subst c8;have H1 : (ek.j0 k l1 true aR iR vX y8 bg bV) = some r := by rw [if_neg (show ¬ (false = true) by decide)] at H; exact H
   clear H;have H := H1;clear H1;have H' := aa.mk H;clear H;have aNK := aMz.out;have aNL := aMQ.out;have aRp : w6.cell? ⟨aKQ, 0, none⟩ = some (.int .i64 aR) := (ae A8.out 0).trans rfl;have aRq : w6.cell? ⟨aKQ, 1, none⟩ = some (.int .i64 iR) := (ae A8.out 1).trans rfl;have aRr : w6.cell? ⟨aKQ, 2, none⟩ = some (.int .i64 vX) := (ae A8.out 2).trans rfl;have aRs : w6.cell? ⟨aKQ, 3, none⟩ = some (.slice aps y8.length ao4) := (ae A8.out 3).trans rfl;have aRt := ai A8.out 0;have aRu := ai A8.out 1;have aRv := ai A8.out 2;have aRw := ai A8.out 3;go_wp2_with (first | ((with_reducible refine dE (f := 46) rfl ?_); refine iB (some 11) rfl rfl Try.func46 (by kernel_rfl) rfl #[.agg #[.int .i64 aR, .int .i64 iR, .int .i64 vX, .slice aps y8.length ao4], .slice A1 l1.length c1] rfl (by (try simp only [List.map_toArray, List.map_cons, List.map_nil]); first | done | rfl | (simp only [List.length_drop, List.length_take]; rfl)) ?_; (with_reducible refine (aqb.calls aR iR vX _ _ y8 _ _ l1 false _ ?side1 ?side2 ?side3 ?side4 A7.out).mono ?_); (case side1 => repeat (first | exact (Kd.bF aqx.out HB.out) | (with_reducible refine Kd.dF ?_ _) | (with_reducible refine Kd.dG ?_ _) | (with_reducible refine Kd.eG ?_))); (case side2 => exact aqH.out); (case side3 => repeat (first | exact (Kd.bF HR1.out HB.out) | (with_reducible refine Kd.dF ?_ _) | (with_reducible refine Kd.dG ?_ _) | (with_reducible refine Kd.eG ?_))); (case side4 => exact EY.out); rintro e w60 ⟨rfl, hb⟩; refine ⟨_, rfl, ?_⟩; have bP := aa.mk (aC (bk A8) hb); have bQ := aa.mk (aC (bk aBU) hb); have bT := aa.mk (aM (bO HB) hb); clear A8; clear aBU; clear HB; have A8 := bP; have aBU := bQ; have HB := bT; clear bP bQ bT; (try clear hb); (try clear hb2); (try clear hk); (try clear hi)))
   go_meet
   case rel => exact ⟨_, (true), (by first | rfl | (simp; done) | (simp [*]; done)), H', ⟨by first | omega | exact Nat.le_refl _⟩, ⟨by (with_reducible repeat (first | refine ax ?_ _ | refine az ?_ | refine au ?_ _)); exact A8.out⟩, ⟨by (with_reducible repeat (first | refine ax ?_ _ | refine az ?_ | refine au ?_ _)); exact aBU.out⟩, ⟨bO HB⟩⟩
 case rest =>
  clear IK;(try clear c1); (try clear c2); (try clear p2); (try clear c3); (try clear c4); (try clear c5); (try clear c8); (try clear c10); (try clear c12); (try clear c14); (try clear c15); (try clear tF); (try clear c16); (try clear RX); (try clear c37); (try clear c46); (try clear c53); (try clear c58); (try clear Qj); (try clear Qk); (try clear azI); (try clear azJ); (try clear qo); (try clear qp); (try clear aQY); (try clear aQ0); (try clear qi); (try clear qj); (try clear J2); (try clear J3); (try clear ar2); (try clear ar3); (try clear yP); (try clear yQ); (try clear ahA); (try clear ahB); (try clear aoH); (try clear aoI); (try clear tK); (try clear tL); (try clear aQ7); (try clear aRa); (try clear qQ); (try clear qR); (try clear J8); (try clear J9); (try clear wW); (try clear wX); (try clear Xo); (try clear Xp); (try clear Xw); (try clear Xx); (try clear aIy); (try clear aIz); (try clear Fe); (try clear Ff); (try clear axR); (try clear axS); (try clear ahG); (try clear ahH); (try clear aRd); (try clear aRe); (try clear Wu); (try clear Wv); (try clear agv); (try clear agw); (try clear ahf); (try clear ahg); (try clear ahm); (try clear ahn); (try clear asg); (try clear ash); (try clear af6); (try clear af7); (try clear aO3); (try clear aO4); (try clear aRh); (try clear aRi); (try clear aRj); (try clear aRk); (try clear aIW); (try clear aIX); (try clear aIY); (try clear aIZ); (try clear asx); (try clear asy); (try clear asz); (try clear asA); (try clear aRp); (try clear aRq); (try clear aRr); (try clear aRs); (try clear Ql); (try clear Qm); (try clear azK); (try clear azL); (try clear qw); (try clear qx); (try clear aQ2); (try clear aQ6); (try clear ql); (try clear qm); (try clear J5); (try clear J6); (try clear ar4); (try clear ar5); (try clear yR); (try clear yS); (try clear ahC); (try clear ahD); (try clear aoO); (try clear aoQ); (try clear tN); (try clear tO); (try clear aRb); (try clear aRc); (try clear qU); (try clear qV); (try clear Kb); (try clear Ke); (try clear wY); (try clear wZ); (try clear Xq); (try clear Xr); (try clear Xy); (try clear Xz); (try clear aIB); (try clear aIC); (try clear Fg); (try clear Fh); (try clear axV); (try clear axW); (try clear ahI); (try clear ahJ); (try clear aRf); (try clear aRg); (try clear Ww); (try clear Wx); (try clear agy); (try clear agz); (try clear ahh); (try clear ahi); (try clear aho); (try clear ahp); (try clear asq); (try clear asr); (try clear af8); (try clear af9); (try clear aO5); (try clear aO6); (try clear aRl); (try clear aRm); (try clear aRn); (try clear aRo); (try clear aI2); (try clear aI3); (try clear aI4); (try clear aI5); (try clear asG); (try clear asH); (try clear asI); (try clear asJ); (try clear aRt); (try clear aRu); (try clear aRv); (try clear aRw);obtain ⟨kq, aR9, rfl, HA, Gq, A8, aBU, HB⟩ := hcut
  cases kq with
  | zero => exact absurd HA.out (by simp [ek.j0])
  | succ kj3 =>
   have H := HA.out;clear HA;simp only [ek.j0] at H;have aTI := aa.mk H;clear H;go_upto_if 41 with (fail)
   go_cut [] (fun wc => ∃ (kq : Nat), aa (ek.j1 kq l1 aR iR vX y8 bg bV = some r) ∧ aa (kq ≤ kj3) ∧ aa (wc.heap[aKQ]? = some (.cells #[.int .i64 aR, .int .i64 iR, .int .i64 vX, (.slice aps y8.length ao4)] 58 (0, 0))) ∧ aa (wc.heap[aMS]? = some (.cells #[.int .i64 bg, (.slice jX bV.length iX)] 64 (0, 0))) ∧ aa (Below w.heap.size w wc))
   case first =>
    have H := aTI.out;clear aTI;by_cases c62 : aR9 = true
    ·subst c62;have H1 : ((apq.f).bind fun aSh => (some aSh)) = some r := by rw [if_pos rfl] at H; exact H
     clear H;have H := H1;clear H1;replace H := Option.bind_eq_some_iff.mp H;obtain ⟨aSh, aU1, H⟩ := H;replace H : (some aSh) = some r := H;have A63 := aa.mk aU1;clear aU1;obtain rfl := Option.some.inj H;go_wp2_with (first | ((with_reducible refine dE (f := 47) rfl ?_); refine iB (some 42) rfl rfl Try.func47 (by kernel_rfl) rfl #[] rfl (by (try simp only [List.map_toArray, List.map_cons, List.map_nil]); first | done | rfl | (simp only [List.length_drop, List.length_take]; rfl)) ?_; (with_reducible refine (apq.calls  aSh _ A63.out).mono ?_); rintro e RY ⟨rfl, hb⟩; refine ⟨_, rfl, ?_⟩; have bP := aa.mk (aC (bk A8) hb); have bQ := aa.mk (aC (bk aBU) hb); have bT := aa.mk (aM (bO HB) hb); clear A8; clear aBU; clear HB; have A8 := bP; have aBU := bQ; have HB := bT; clear bP bQ bT; (try clear hb); (try clear hb2); (try clear hk); (try clear hi)))
     go_ret;exact ⟨by first | rfl | (simp [aW, aX] <;> rfl) | (simp [*, aW, aX] <;> rfl), bO HB⟩
    ·replace c62 := Bool.eq_false_iff.mpr c62;subst c62;have H1 : (ek.j1 kj3 l1 aR iR vX y8 bg bV) = some r := by rw [if_neg (show ¬ (false = true) by decide)] at H; exact H
     clear H;have H := H1;clear H1;have H' := aa.mk H;clear H;go_wp2;go_meet
     case rel => exact ⟨_, H', ⟨by have := Gq.out; first | omega | exact Nat.le_refl _⟩, ⟨by (with_reducible repeat (first | refine ax ?_ _ | refine az ?_ | refine au ?_ _)); exact A8.out⟩, ⟨by (with_reducible repeat (first | refine ax ?_ _ | refine az ?_ | refine au ?_ _)); exact aBU.out⟩, ⟨bO HB⟩⟩
   case rest =>
    clear aTI;(try clear c1); (try clear c2); (try clear p2); (try clear c3); (try clear c4); (try clear c5); (try clear c6); (try clear c8); (try clear c10); (try clear c12); (try clear c14); (try clear c15); (try clear tF); (try clear c16); (try clear RX); (try clear c37); (try clear c46); (try clear c47); (try clear c53); (try clear c58); (try clear c62); (try clear Qj); (try clear Qk); (try clear azI); (try clear azJ); (try clear qo); (try clear qp); (try clear aQY); (try clear aQ0); (try clear qi); (try clear qj); (try clear J2); (try clear J3); (try clear ar2); (try clear ar3); (try clear yP); (try clear yQ); (try clear ahA); (try clear ahB); (try clear aoH); (try clear aoI); (try clear tK); (try clear tL); (try clear aQ7); (try clear aRa); (try clear qQ); (try clear qR); (try clear J8); (try clear J9); (try clear wW); (try clear wX); (try clear Xo); (try clear Xp); (try clear Xw); (try clear Xx); (try clear aIy); (try clear aIz); (try clear Fe); (try clear Ff); (try clear axR); (try clear axS); (try clear ahG); (try clear ahH); (try clear aRd); (try clear aRe); (try clear Wu); (try clear Wv); (try clear agv); (try clear agw); (try clear ahf); (try clear ahg); (try clear ahm); (try clear ahn); (try clear asg); (try clear ash); (try clear af6); (try clear af7); (try clear aO3); (try clear aO4); (try clear aRh); (try clear aRi); (try clear aRj); (try clear aRk); (try clear aIW); (try clear aIX); (try clear aIY); (try clear aIZ); (try clear asx); (try clear asy); (try clear asz); (try clear asA); (try clear aRp); (try clear aRq); (try clear aRr); (try clear aRs); (try clear Ql); (try clear Qm); (try clear azK); (try clear azL); (try clear qw); (try clear qx); (try clear aQ2); (try clear aQ6); (try clear ql); (try clear qm); (try clear J5); (try clear J6); (try clear ar4); (try clear ar5); (try clear yR); (try clear yS); (try clear ahC); (try clear ahD); (try clear aoO); (try clear aoQ); (try clear tN); (try clear tO); (try clear aRb); (try clear aRc); (try clear qU); (try clear qV); (try clear Kb); (try clear Ke); (try clear wY); (try clear wZ); (try clear Xq); (try clear Xr); (try clear Xy); (try clear Xz); (try clear aIB); (try clear aIC); (try clear Fg); (try clear Fh); (try clear axV); (try clear axW); (try clear ahI); (try clear ahJ); (try clear aRf); (try clear aRg); (try clear Ww); (try clear Wx); (try clear agy); (try clear agz); (try clear ahh); (try clear ahi); (try clear aho); (try clear ahp); (try clear asq); (try clear asr); (try clear af8); (try clear af9); (try clear aO5); (try clear aO6); (try clear aRl); (try clear aRm); (try clear aRn); (try clear aRo); (try clear aI2); (try clear aI3); (try clear aI4); (try clear aI5); (try clear asG); (try clear asH); (try clear asI); (try clear asJ); (try clear aRt); (try clear aRu); (try clear aRv); (try clear aRw); (try clear p2);obtain ⟨kq, HA, aWZ, A8, aBU, HB⟩ := hcut
    cases kq with
    | zero => exact absurd HA.out (by simp [ek.j1])
    | succ kj60 =>
     have H := HA.out;clear HA;simp only [ek.j1] at H;by_cases c65 : 0 ≤ bg
     ·rw [if_pos c65] at H;have aU3 : decide (0 ≤ bg) = true := decide_eq_true c65;clear c65;by_cases c66 : bg < (y8.length : Int)
      ·rw [if_pos c66] at H;have aU5 : decide (bg < (y8.length : Int)) = true := decide_eq_true c66;clear c66;replace H := Option.bind_eq_some_iff.mp H;obtain ⟨aR3, aU6, H⟩ := H;replace H : (if aR3 = true then (ek.j2 kj60 l1 ((Dj y8 bg).f1) aR iR vX y8 bg bV) else ((apq.f).bind fun aP1 => (some aP1))) = some r := H;have A67 := aa.mk aU6;clear aU6;have aTJ := aa.mk H;clear H;have aY4 := aMz.out;have aY5 := aMQ.out;have azk : wc.cell? ⟨aKQ, 0, none⟩ = some (.int .i64 aR) := (ae A8.out 0).trans rfl;have azl : wc.cell? ⟨aKQ, 1, none⟩ = some (.int .i64 iR) := (ae A8.out 1).trans rfl;have azm : wc.cell? ⟨aKQ, 2, none⟩ = some (.int .i64 vX) := (ae A8.out 2).trans rfl;have azn : wc.cell? ⟨aKQ, 3, none⟩ = some (.slice aps y8.length ao4) := (ae A8.out 3).trans rfl;have azo := ai A8.out 0;have azp := ai A8.out 1;have azq := ai A8.out 2;have azr := ai A8.out 3;have aSw : wc.cell? ⟨aMS, 0, none⟩ = some (.int .i64 bg) := (ae aBU.out 0).trans rfl;have aSx : wc.cell? ⟨aMS, 1, none⟩ = some (.slice jX bV.length iX) := (ae aBU.out 1).trans rfl;have aSy := ai aBU.out 0;have aSz := ai aBU.out 1;have aSA : 0 ≤ (bg : Int) := of_decide_eq_true (by first | (with_reducible assumption) | assumption);have aSB : bg < (y8.length : Int) := of_decide_eq_true (by first | (with_reducible assumption) | assumption);obtain ⟨aPr, aW0, aRx, aRy, aRz, aRA, aRB, aRC⟩ := ah5 aqx.out bg aSA aSB
       cases aW0;replace aRx := ah HB.out aRx;replace aRy := ah HB.out aRy;replace aRz := ah HB.out aRz;replace aRA := ah HB.out aRA;replace aRB := ah HB.out aRB;replace aRC := ah HB.out aRC;replace aSA := eq_true aSA;replace aSB := eq_true aSB;go_upto_if 54 with (first | ((with_reducible refine dE (f := 55) rfl ?_); refine iB (some 53) rfl rfl Try.func55 (by kernel_rfl) rfl #[.agg #[.int .i64 aR, .int .i64 iR, .int .i64 vX, .slice (some aPr) y8.length ao4], .int .i64 ((Dj y8 bg).f1), .agg #[.int .i64 bg, .slice jX bV.length iX]] rfl (by (try simp only [List.map_toArray, List.map_cons, List.map_nil]); first | done | rfl | (simp only [List.length_drop, List.length_take]; rfl)) ?_; (with_reducible refine (j3.calls kj60 aR iR vX _ _ y8 ((Dj y8 bg).f1) bg _ _ bV aR3 _ ?side1 ?side2 ?side3 ?side4 A67.out).mono ?_); (case side1 => repeat (first | exact (Kd.bF aqx.out HB.out) | (with_reducible refine Kd.dF ?_ _) | (with_reducible refine Kd.dG ?_ _) | (with_reducible refine Kd.eG ?_))); (case side2 => exact aqH.out); (case side3 => repeat (first | exact (Kd.bF AJ.out HB.out) | (with_reducible refine Kd.dF ?_ _) | (with_reducible refine Kd.dG ?_ _) | (with_reducible refine Kd.eG ?_))); (case side4 => exact TQ.out); rintro e w72 ⟨rfl, hb⟩; refine ⟨_, rfl, ?_⟩; have bP := aa.mk (aC (bk A8) hb); have bQ := aa.mk (aC (bk aBU) hb); have bT := aa.mk (aM (bO HB) hb); clear A8; clear aBU; clear HB; have A8 := bP; have aBU := bQ; have HB := bT; clear bP bQ bT; (try clear hb); (try clear hb2); (try clear hk); (try clear hi)))
       (try simp only [Act.put, List.setIfInBounds_toArray, List.set_cons_zero, List.set_cons_succ]);go_cut [] (fun wc => ∃ (kq : Nat), aa (ek.j2 kq l1 ((Dj y8 bg).f1) aR iR vX y8 bg bV = some r) ∧ aa (kq ≤ kj60) ∧ aa (wc.heap[aKQ]? = some (.cells #[.int .i64 aR, .int .i64 iR, .int .i64 vX, (.slice (some aPr) y8.length ao4)] 58 (0, 0))) ∧ aa (wc.heap[aMS]? = some (.cells #[.int .i64 bg, (.slice jX bV.length iX)] 64 (0, 0))) ∧ aa (Below w.heap.size w wc))
       case first =>
        have H := aTJ.out;clear aTJ;by_cases c73 : aR3 = true
        ·subst c73;have H1 : (ek.j2 kj60 l1 ((Dj y8 bg).f1) aR iR vX y8 bg bV) = some r := by rw [if_pos rfl] at H; exact H
         clear H;have H := H1;clear H1;have H' := aa.mk H;clear H;go_wp2;go_meet
         case rel => exact ⟨_, H', ⟨by have := Gq.out; have := aWZ.out; first | omega | exact Nat.le_refl _⟩, ⟨by (with_reducible repeat (first | refine ax ?_ _ | refine az ?_ | refine au ?_ _)); exact A8.out⟩, ⟨by (with_reducible repeat (first | refine ax ?_ _ | refine az ?_ | refine au ?_ _)); exact aBU.out⟩, ⟨bO HB⟩⟩
        ·replace c73 := Bool.eq_false_iff.mpr c73;subst c73;have H1 : ((apq.f).bind fun aP1 => (some aP1)) = some r := by rw [if_neg (show ¬ (false = true) by decide)] at H; exact H
         clear H;have H := H1;clear H1;replace H := Option.bind_eq_some_iff.mp H;obtain ⟨aP1, aU8, H⟩ := H;replace H : (some aP1) = some r := H;have A74 := aa.mk aU8;clear aU8;obtain rfl := Option.some.inj H;go_wp2_with (first | ((with_reducible refine dE (f := 47) rfl ?_); refine iB (some 55) rfl rfl Try.func47 (by kernel_rfl) rfl #[] rfl (by (try simp only [List.map_toArray, List.map_cons, List.map_nil]); first | done | rfl | (simp only [List.length_drop, List.length_take]; rfl)) ?_; (with_reducible refine (apq.calls  aP1 _ A74.out).mono ?_); rintro e w75 ⟨rfl, hb⟩; refine ⟨_, rfl, ?_⟩; have bP := aa.mk (aC (bk A8) hb); have bQ := aa.mk (aC (bk aBU) hb); have bT := aa.mk (aM (bO HB) hb); clear A8; clear aBU; clear HB; have A8 := bP; have aBU := bQ; have HB := bT; clear bP bQ bT; (try clear hb); (try clear hb2); (try clear hk); (try clear hi)))
         go_ret;exact ⟨by first | rfl | (simp [aW, aX] <;> rfl) | (simp [*, aW, aX] <;> rfl), bO HB⟩
       case rest =>
        clear aTJ;(try clear c1); (try clear c2); (try clear p2); (try clear c3); (try clear c4); (try clear c5); (try clear c6); (try clear c7); (try clear p7); (try clear q7); (try clear hx7); (try clear c8); (try clear c10); (try clear c12); (try clear c14); (try clear c15); (try clear tF); (try clear c16); (try clear RX); (try clear c37); (try clear c46); (try clear c47); (try clear c53); (try clear c55); (try clear c58); (try clear c62); (try clear c65); (try clear aU3); (try clear c66); (try clear aU5); (try clear c69); (try clear c73); (try clear p74); (try clear q74); (try clear a01); (try clear Qj); (try clear Qk); (try clear azI); (try clear azJ); (try clear qo); (try clear qp); (try clear aQY); (try clear aQ0); (try clear qi); (try clear qj); (try clear J2); (try clear J3); (try clear ar2); (try clear ar3); (try clear yP); (try clear yQ); (try clear ahA); (try clear ahB); (try clear aoH); (try clear aoI); (try clear tK); (try clear tL); (try clear aQ7); (try clear aRa); (try clear qQ); (try clear qR); (try clear J8); (try clear J9); (try clear wW); (try clear wX); (try clear Xo); (try clear Xp); (try clear Xw); (try clear Xx); (try clear aIy); (try clear aIz); (try clear Fe); (try clear Ff); (try clear axR); (try clear axS); (try clear ahG); (try clear ahH); (try clear aRd); (try clear aRe); (try clear Wu); (try clear Wv); (try clear agv); (try clear agw); (try clear ahf); (try clear ahg); (try clear ahm); (try clear ahn); (try clear asg); (try clear ash); (try clear af6); (try clear af7); (try clear aO3); (try clear aO4); (try clear aRh); (try clear aRi); (try clear aRj); (try clear aRk); (try clear aIW); (try clear aIX); (try clear aIY); (try clear aIZ); (try clear asx); (try clear asy); (try clear asz); (try clear asA); (try clear aRp); (try clear aRq); (try clear aRr); (try clear aRs); (try clear azk); (try clear azl); (try clear azm); (try clear azn); (try clear aSw); (try clear aSx); (try clear Ql); (try clear Qm); (try clear azK); (try clear azL); (try clear qw); (try clear qx); (try clear aQ2); (try clear aQ6); (try clear ql); (try clear qm); (try clear J5); (try clear J6); (try clear ar4); (try clear ar5); (try clear yR); (try clear yS); (try clear ahC); (try clear ahD); (try clear aoO); (try clear aoQ); (try clear tN); (try clear tO); (try clear aRb); (try clear aRc); (try clear qU); (try clear qV); (try clear Kb); (try clear Ke); (try clear wY); (try clear wZ); (try clear Xq); (try clear Xr); (try clear Xy); (try clear Xz); (try clear aIB); (try clear aIC); (try clear Fg); (try clear Fh); (try clear axV); (try clear axW); (try clear ahI); (try clear ahJ); (try clear aRf); (try clear aRg); (try clear Ww); (try clear Wx); (try clear agy); (try clear agz); (try clear ahh); (try clear ahi); (try clear aho); (try clear ahp); (try clear asq); (try clear asr); (try clear af8); (try clear af9); (try clear aO5); (try clear aO6); (try clear aRl); (try clear aRm); (try clear aRn); (try clear aRo); (try clear aI2); (try clear aI3); (try clear aI4); (try clear aI5); (try clear asG); (try clear asH); (try clear asI); (try clear asJ); (try clear aRt); (try clear aRu); (try clear aRv); (try clear aRw); (try clear azo); (try clear azp); (try clear azq); (try clear azr); (try clear aSy); (try clear aSz); (try clear aRx); (try clear aRy); (try clear aRz); (try clear aRA); (try clear aRB); (try clear aRC); (try clear p2); (try clear aSA); (try clear aSB)
        obtain ⟨kq, HA, a02, A8, aBU, HB⟩ := hcut
        cases kq with
        | zero => exact absurd HA.out (by simp [ek.j2])
        | succ kj67 =>
         have H := HA.out;clear HA;simp only [ek.j2] at H;replace H := Option.bind_eq_some_iff.mp H;obtain ⟨aMy, aU9, H⟩ := H;replace H : ((apq.f).bind fun aRU => (if aRU = true then (if (aMy.length : Int) = iR then ((aBT.f aR iR vX y8 l1 bg bV).bind fun aOu => (if 0 ≤ ((Dj y8 bg).f1) then (if ((Dj y8 bg).f1) < (aMy.length : Int) then ((jA.f aOu.1 aOu.2 ((bJ aMy ((Dj y8 bg).f1)).f0) ((bJ aMy ((Dj y8 bg).f1)).f1)).bind fun aPH => (some (!aPH))) else (none)) else (none))) else (some false)) else (some false))) = some r := H;have A76 := aa.mk aU9;clear aU9;replace H := Option.bind_eq_some_iff.mp H;obtain ⟨aRU, aVa, H⟩ := H;replace H : (if aRU = true then (if (aMy.length : Int) = iR then ((aBT.f aR iR vX y8 l1 bg bV).bind fun aOu => (if 0 ≤ ((Dj y8 bg).f1) then (if ((Dj y8 bg).f1) < (aMy.length : Int) then ((jA.f aOu.1 aOu.2 ((bJ aMy ((Dj y8 bg).f1)).f0) ((bJ aMy ((Dj y8 bg).f1)).f1)).bind fun aPH => (some (!aPH))) else (none)) else (none))) else (some false)) else (some false)) = some r := H;have A77 := aa.mk aVa;clear aVa;by_cases c78 : aRU = true
         ·subst c78;have H1 : (if (aMy.length : Int) = iR then ((aBT.f aR iR vX y8 l1 bg bV).bind fun aOu => (if 0 ≤ ((Dj y8 bg).f1) then (if ((Dj y8 bg).f1) < (aMy.length : Int) then ((jA.f aOu.1 aOu.2 ((bJ aMy ((Dj y8 bg).f1)).f0) ((bJ aMy ((Dj y8 bg).f1)).f1)).bind fun aPH => (some (!aPH))) else (none)) else (none))) else (some false)) = some r := by rw [if_pos rfl] at H; exact H
          clear H;have H := H1;clear H1;by_cases c79 : (aMy.length : Int) = iR
          ·rw [if_pos c79] at H;have aVb : ((aMy.length : Int) == iR) = true := beq_iff_eq.mpr c79;have aVc : ((aMy.length : Int) != iR) = false := bne_eq_false_iff_eq.mpr c79;clear c79;replace H := Option.bind_eq_some_iff.mp H;obtain ⟨⟨aSR, aSS⟩, aVd, H⟩ := H;replace H : (if 0 ≤ ((Dj y8 bg).f1) then (if ((Dj y8 bg).f1) < (aMy.length : Int) then ((jA.f aSR aSS ((bJ aMy ((Dj y8 bg).f1)).f0) ((bJ aMy ((Dj y8 bg).f1)).f1)).bind fun aPH => (some (!aPH))) else (none)) else (none)) = some r := H;have A80 := aa.mk aVd;clear aVd;by_cases c81 : 0 ≤ ((Dj y8 bg).f1)
           ·rw [if_pos c81] at H;have aY6 : decide (0 ≤ ((Dj y8 bg).f1)) = true := decide_eq_true c81;clear c81;by_cases c82 : ((Dj y8 bg).f1) < (aMy.length : Int)
            ·rw [if_pos c82] at H;have aY7 : decide (((Dj y8 bg).f1) < (aMy.length : Int)) = true := decide_eq_true c82;clear c82;replace H := Option.bind_eq_some_iff.mp H;obtain ⟨aPH, aVe, H⟩ := H;replace H : (some (!aPH)) = some r := H;have A83 := aa.mk aVe;clear aVe;obtain rfl := Option.some.inj H;have aNV := aMz.out;have aNW := aMQ.out;have aHF : wc.cell? ⟨aKQ, 0, none⟩ = some (.int .i64 aR) := (ae A8.out 0).trans rfl;have aHG : wc.cell? ⟨aKQ, 1, none⟩ = some (.int .i64 iR) := (ae A8.out 1).trans rfl;have aHH : wc.cell? ⟨aKQ, 2, none⟩ = some (.int .i64 vX) := (ae A8.out 2).trans rfl;have aHI : wc.cell? ⟨aKQ, 3, none⟩ = some (.slice (some aPr) y8.length ao4) := (ae A8.out 3).trans rfl;have aHJ := ai A8.out 0;have aHK := ai A8.out 1;have aHL := ai A8.out 2;have aHM := ai A8.out 3;try go_wp2_with (first | ((with_reducible refine dE (f := 49) rfl ?_); refine iB (some 58) rfl rfl Try.func49 (by kernel_rfl) rfl #[.agg #[.int .i64 aR, .int .i64 iR, .int .i64 vX, .slice (some aPr) y8.length ao4], .slice A1 l1.length c1] rfl (by (try simp only [List.map_toArray, List.map_cons, List.map_nil]); first | done | rfl | (simp only [List.length_drop, List.length_take]; rfl)) ?_; (with_reducible refine (an2.calls kj67 aR iR vX _ _ y8 _ _ l1 aMy _ ?side1 ?side2 ?side3 ?side4 A76.out).mono ?_); (case side1 => repeat (first | exact (Kd.bF aqx.out HB.out) | (with_reducible refine Kd.dF ?_ _) | (with_reducible refine Kd.dG ?_ _) | (with_reducible refine Kd.eG ?_))); (case side2 => exact aqH.out); (case side3 => repeat (first | exact (Kd.bF HR1.out HB.out) | (with_reducible refine Kd.dF ?_ _) | (with_reducible refine Kd.dG ?_ _) | (with_reducible refine Kd.eG ?_))); (case side4 => exact EY.out); rintro e w86 ⟨aVf, rfl, ho0, hb⟩; refine ⟨_, rfl, ?_⟩; have bP := aa.mk (Kd.iL ho0 (aK (bO HB))); have bQ := aa.mk (aC (bk A8) hb); have bT := aa.mk (aC (bk aBU) hb); have di := aa.mk (aM (bO HB) hb); clear A8; clear aBU; clear HB; have aMx := bP; have A8 := bQ; have aBU := bT; have HB := di; clear bP bQ bT di; (try clear hb); (try clear hb2); (try clear hk); (try clear hi); (try clear ho0)))
             have bP := aa.mk (Kd.aaH aMx.out);have bQ := aa.mk (az A8.out);have bT := aa.mk (az aBU.out);have di := aa.mk (fK HB.out);clear aMx A8 aBU HB;have aMx := bP;have A8 := bQ;have aBU := bT;have HB := di;clear bP bQ bT di;(try obtain ⟨Aq_, cq_, rfl⟩ := Kd.fQ aMx.out);have aTL : 0 ≤ (((Dj y8 bg).f1) : Int) := of_decide_eq_true (by first | (with_reducible assumption) | assumption);have aTM : ((Dj y8 bg).f1) < (aMy.length : Int) := of_decide_eq_true (by first | (with_reducible assumption) | assumption);obtain ⟨aSp, aW3, aSa, aSb⟩ := p9 (Kd.dD aMx.out).2.2 ((Dj y8 bg).f1) aTL aTM
             cases aW3;replace aTL := eq_true aTL;replace aTM := eq_true aTM;refine fu (n := 21) (S := fun w' => w'.cell? ⟨aKQ, 0, none⟩ = some (.int .i64 aR) ∧ w'.cell? ⟨aKQ, 1, none⟩ = some (.int .i64 iR) ∧ w'.cell? ⟨aKQ, 2, none⟩ = some (.int .i64 vX) ∧ w'.cell? ⟨aKQ, 3, none⟩ = some (.slice (some aPr) y8.length ao4) ∧ w'.cell? ⟨aMS, 0, none⟩ = some (.int .i64 bg) ∧ w'.cell? ⟨aMS, 1, none⟩ = some (.slice jX bV.length iX) ∧ w'.cell? (aSp.add ((((Dj y8 bg).f1)).toNat * 2)) = some (.int .i64 ((bJ aMy ((Dj y8 bg).f1)).f0)) ∧ w'.cell? ⟨(aSp.add ((((Dj y8 bg).f1)).toNat * 2)).block, (aSp.add ((((Dj y8 bg).f1)).toNat * 2)).off + 1, none⟩ = some (.int .i64 ((bJ aMy ((Dj y8 bg).f1)).f1))) (ds := []) #[false, false, false, false, false, false, false, false, false, false, false, false, false, false, false, false, false, false, false, false, false] (by kernel_rfl) rfl rfl ⟨(ae A8.out 0).trans rfl, (ae A8.out 1).trans rfl, (ae A8.out 2).trans rfl, (ae A8.out 3).trans rfl, (ae aBU.out 0).trans rfl, (ae aBU.out 1).trans rfl, aSa, aSb⟩ (fun hHeld => ?_); refine dw ek.aQA ek.aOx (fun dA ji => ?_);generalize w86.drew = w87 at aMx A8 aBU HB aSa aSb hHeld ⊢;refine fT (i := 0) (N := some 59) #[true, false, false, false, false, false, false, false, false, false, false, false, false, false, false, false, false, false, false, false, false] rfl rfl (dn dA.out (by kernel_rfl)) (by decide) (fun K hK => ?_);refine uC Try.func47 (by kernel_rfl) rfl #[] (by rfl) rfl rfl (by (try simp only [List.map_toArray, List.map_cons, List.map_nil]); first | done | rfl | (simp only [List.length_drop, List.length_take]; rfl)) ?_;with_reducible refine (apq.calls  true _ A77.out).mono ?_
             rintro e w88 ⟨rfl, hb⟩;have aOg := (hb.cell (World.block_lt_of_cell? _ _ (hHeld.2.2.2.2.2.2.1))).trans (hHeld.2.2.2.2.2.2.1);have aPT := (hb.cell (World.block_lt_of_cell? _ _ (hHeld.2.2.2.2.2.2.2))).trans (hHeld.2.2.2.2.2.2.2);refine ⟨_, rfl, ?_⟩;have bP := aa.mk (Kd.bu (by (with_reducible repeat (first | apply Kd.ay5 | apply Kd.eu | apply Kd.aaH)); exact aMx.out) hb);have bQ := aa.mk (aC (bk A8) hb);have bT := aa.mk (aC (bk aBU) hb);have di := aa.mk (aM (bO HB) hb);clear aMx A8 aBU HB;have aMx := bP;have A8 := bQ;have aBU := bT;have HB := di;clear bP bQ bT di;(try clear hb);(try clear hb2);(try clear hk);(try clear hi);obtain ⟨a06, a07, aVg⟩ := Kd.fQ aMx.out
             (first | subst aVg | (injection aVg with Ux f2_ Uy; have f4_ := Ux.symm; have f5_ := Uy.symm; clear Ux f2_ Uy; subst f4_; subst f5_))
             refine hK.out _ _ ⟨(ae A8.out 0).trans rfl, (ae A8.out 1).trans rfl, (ae A8.out 2).trans rfl, (ae A8.out 3).trans rfl, (ae aBU.out 0).trans rfl, (ae aBU.out 1).trans rfl, aOg, aPT⟩ (fun hHeld => ?_);clear hK K;refine bS (a' := ?_) ?_ ?_;rotate_left
             ·show Act.put _ (some 59) _ = _;simp only [Act.put, List.setIfInBounds_toArray, List.set_cons_zero, List.set_cons_succ, bH, bI];rfl
             refine fG (fuel := 5) [(1, 60), (2, 61), (3, 62), (4, 63), (5, 64), (6, 65), (7, 66), (8, 67), (10, 69), (13, 72), (14, 73), (15, 74), (9, 68), (11, 70), (16, 75)] #[true, true, true, true, true, true, true, true, true, true, true, true, false, true, true, true, true, false, false, false, false] (df dA.out ji.out _ _ _ (by kernel_rfl)) rfl (fun _ _ _ _ _ h => h) hHeld (a' := ?_) ?_ ?_;rotate_left
             ·iterate 15
               refine bC (v := ?_) (a1 := ?_) rfl rfl (Or.inl ⟨by rfl, ?_⟩) ?_ ?_;rotate_left 2
               ·rintro w' ⟨s0, s1, s2, s3, s4, s5, s6, s7⟩;go_simp;first | with_reducible rfl | exact aLR _ _ _ _ _
               ·simp only [Act.put, List.setIfInBounds_toArray, List.set_cons_zero, List.set_cons_succ, bH, bI];rfl
              exact chain_nil
             refine fT (i := 12) (N := some 71) #[true, true, true, true, true, true, true, true, true, true, true, true, true, true, true, true, true, false, false, false, false] rfl rfl (dn dA.out (by kernel_rfl)) (by decide) (fun K hK => ?_);refine uC Try.func56 (by kernel_rfl) rfl #[.agg #[.int .i64 aR, .int .i64 iR, .int .i64 vX, .slice (some aPr) y8.length ao4], .slice A1 l1.length c1, .agg #[.int .i64 bg, .slice jX bV.length iX]] (by rfl) rfl rfl (by (try simp only [List.map_toArray, List.map_cons, List.map_nil]); first | done | rfl | (simp only [List.length_drop, List.length_take]; rfl)) ?_;with_reducible refine (aBT.calls aR iR vX _ _ y8 _ _ l1 bg _ _ bV aSR aSS _ ?side1 ?side2 ?side3 ?side4 ?side5 ?side6 A80.out).mono ?_
             (case side1 => repeat (first | exact (Kd.bF aqx.out HB.out) | (with_reducible refine Kd.dF ?_ _) | (with_reducible refine Kd.dG ?_ _) | (with_reducible refine Kd.eG ?_)));(case side2 => exact aqH.out);(case side3 => repeat (first | exact (Kd.bF HR1.out HB.out) | (with_reducible refine Kd.dF ?_ _) | (with_reducible refine Kd.dG ?_ _) | (with_reducible refine Kd.eG ?_)));(case side4 => exact EY.out);(case side5 => repeat (first | exact (Kd.bF AJ.out HB.out) | (with_reducible refine Kd.dF ?_ _) | (with_reducible refine Kd.dG ?_ _) | (with_reducible refine Kd.eG ?_)));(case side6 => exact TQ.out);rintro e w90 ⟨rfl, hb⟩;have aOg := (hb.cell (World.block_lt_of_cell? _ _ (hHeld.2.2.2.2.2.2.1))).trans (hHeld.2.2.2.2.2.2.1);have aPT := (hb.cell (World.block_lt_of_cell? _ _ (hHeld.2.2.2.2.2.2.2))).trans (hHeld.2.2.2.2.2.2.2);refine ⟨_, rfl, ?_⟩;have bP := aa.mk (Kd.bu (by (with_reducible repeat (first | apply Kd.ay5 | apply Kd.eu | apply Kd.aaH)); exact aMx.out) hb);have bQ := aa.mk (aC (bk A8) hb);have bT := aa.mk (aC (bk aBU) hb);have di := aa.mk (aM (bO HB) hb);clear aMx A8 aBU HB;have aMx := bP;have A8 := bQ;have aBU := bT;have HB := di;clear bP bQ bT di;(try clear hb);(try clear hb2);(try clear hk);(try clear hi);refine hK.out _ _ ⟨(ae A8.out 0).trans rfl, (ae A8.out 1).trans rfl, (ae A8.out 2).trans rfl, (ae A8.out 3).trans rfl, (ae aBU.out 0).trans rfl, (ae aBU.out 1).trans rfl, aOg, aPT⟩ (fun hHeld => ?_);clear hK K;refine bS (a' := ?_) ?_ ?_;rotate_left
             ·show Act.put _ (some 71) _ = _;simp only [Act.put, List.setIfInBounds_toArray, List.set_cons_zero, List.set_cons_succ, bH, bI];rfl
             refine fT (i := 17) (N := some 76) #[true, true, true, true, true, true, true, true, true, true, true, true, true, true, true, true, true, true, false, false, false] rfl rfl (dn dA.out (by kernel_rfl)) (by decide) (fun K hK => ?_);refine uC Try.func60 (by kernel_rfl) rfl #[.agg #[.int .i64 aSR, .int .i64 aSS], .agg #[.int .i64 ((bJ aMy ((Dj y8 bg).f1)).f0), .int .i64 ((bJ aMy ((Dj y8 bg).f1)).f1)]] (by rfl) rfl rfl (by (try simp only [List.map_toArray, List.map_cons, List.map_nil]); first | done | rfl | (simp only [List.length_drop, List.length_take]; rfl)) ?_;with_reducible refine (jA.calls aSR aSS ((bJ aMy ((Dj y8 bg).f1)).f0) ((bJ aMy ((Dj y8 bg).f1)).f1) aPH _ A83.out).mono ?_
             rintro e w91 ⟨rfl, hb⟩;have aOg := (hb.cell (World.block_lt_of_cell? _ _ (hHeld.2.2.2.2.2.2.1))).trans (hHeld.2.2.2.2.2.2.1);have aPT := (hb.cell (World.block_lt_of_cell? _ _ (hHeld.2.2.2.2.2.2.2))).trans (hHeld.2.2.2.2.2.2.2);refine ⟨_, rfl, ?_⟩;have bP := aa.mk (Kd.bu (by (with_reducible repeat (first | apply Kd.ay5 | apply Kd.eu | apply Kd.aaH)); exact aMx.out) hb);have bQ := aa.mk (aC (bk A8) hb);have bT := aa.mk (aC (bk aBU) hb);have di := aa.mk (aM (bO HB) hb);clear aMx A8 aBU HB;have aMx := bP;have A8 := bQ;have aBU := bT;have HB := di;clear bP bQ bT di;(try clear hb);(try clear hb2);(try clear hk);(try clear hi);refine hK.out _ _ ⟨(ae A8.out 0).trans rfl, (ae A8.out 1).trans rfl, (ae A8.out 2).trans rfl, (ae A8.out 3).trans rfl, (ae aBU.out 0).trans rfl, (ae aBU.out 1).trans rfl, aOg, aPT⟩ (fun hHeld => ?_);clear hK K;refine bS (a' := ?_) ?_ ?_;rotate_left
             ·show Act.put _ (some 76) _ = _;simp only [Act.put, List.setIfInBounds_toArray, List.set_cons_zero, List.set_cons_succ, bH, bI];rfl
             refine fG (fuel := 0) [(18, 77), (19, 78), (20, 6)] #[true, true, true, true, true, true, true, true, true, true, true, true, true, true, true, true, true, true, true, true, true] (df dA.out ji.out _ _ _ (by kernel_rfl)) rfl (fun _ _ _ _ _ h => h) hHeld (a' := ?_) ?_ ?_;rotate_left
             ·iterate 3
               refine bC (v := ?_) (a1 := ?_) rfl rfl (Or.inl ⟨by rfl, ?_⟩) ?_ ?_;rotate_left 2
               ·rintro w' ⟨s0, s1, s2, s3, s4, s5, s6, s7⟩;go_simp;first | with_reducible rfl | exact aLR _ _ _ _ _
               ·simp only [Act.put, List.setIfInBounds_toArray, List.set_cons_zero, List.set_cons_succ, bH, bI];rfl
              exact chain_nil
             refine gH (dV dA.out (by kernel_rfl)) ?_;try go_wp2
             go_ret;exact ⟨by first | rfl | (simp [aW, aX] <;> rfl) | (simp [*, aW, aX] <;> rfl), bO HB⟩
            ·rw [if_neg c82] at H;exact absurd H (by simp)
           ·rw [if_neg c81] at H;exact absurd H (by simp)
          ·rw [if_neg c79] at H;have aVb : ((aMy.length : Int) == iR) = false := beq_eq_false_iff_ne.mpr c79;have aVc : ((aMy.length : Int) != iR) = true := bne_iff_ne.mpr c79;obtain rfl := Option.some.inj H;have aY8 := aMz.out;have aY9 := aMQ.out;have aVQ : wc.cell? ⟨aKQ, 0, none⟩ = some (.int .i64 aR) := (ae A8.out 0).trans rfl;have aVR : wc.cell? ⟨aKQ, 1, none⟩ = some (.int .i64 iR) := (ae A8.out 1).trans rfl;have aVS : wc.cell? ⟨aKQ, 2, none⟩ = some (.int .i64 vX) := (ae A8.out 2).trans rfl;have aVT : wc.cell? ⟨aKQ, 3, none⟩ = some (.slice (some aPr) y8.length ao4) := (ae A8.out 3).trans rfl;have aVU := ai A8.out 0;have aVV := ai A8.out 1;have aVW := ai A8.out 2;have aVX := ai A8.out 3;try go_wp2_with (first | ((with_reducible refine dE (f := 49) rfl ?_); refine iB (some 58) rfl rfl Try.func49 (by kernel_rfl) rfl #[.agg #[.int .i64 aR, .int .i64 iR, .int .i64 vX, .slice (some aPr) y8.length ao4], .slice A1 l1.length c1] rfl (by (try simp only [List.map_toArray, List.map_cons, List.map_nil]); first | done | rfl | (simp only [List.length_drop, List.length_take]; rfl)) ?_; (with_reducible refine (an2.calls kj67 aR iR vX _ _ y8 _ _ l1 aMy _ ?side1 ?side2 ?side3 ?side4 A76.out).mono ?_); (case side1 => repeat (first | exact (Kd.bF aqx.out HB.out) | (with_reducible refine Kd.dF ?_ _) | (with_reducible refine Kd.dG ?_ _) | (with_reducible refine Kd.eG ?_))); (case side2 => exact aqH.out); (case side3 => repeat (first | exact (Kd.bF HR1.out HB.out) | (with_reducible refine Kd.dF ?_ _) | (with_reducible refine Kd.dG ?_ _) | (with_reducible refine Kd.eG ?_))); (case side4 => exact EY.out); rintro e w94 ⟨aVf, rfl, ho0, hb⟩; refine ⟨_, rfl, ?_⟩; have bP := aa.mk (Kd.iL ho0 (aK (bO HB))); have bQ := aa.mk (aC (bk A8) hb); have bT := aa.mk (aC (bk aBU) hb); have di := aa.mk (aM (bO HB) hb); clear A8; clear aBU; clear HB; have aMx := bP; have A8 := bQ; have aBU := bT; have HB := di; clear bP bQ bT di; (try clear hb); (try clear hb2); (try clear hk); (try clear hi); (try clear ho0)))
           have bP := aa.mk (Kd.aaH aMx.out);have bQ := aa.mk (az A8.out);have bT := aa.mk (az aBU.out);have di := aa.mk (fK HB.out);clear aMx A8 aBU HB;have aMx := bP;have A8 := bQ;have aBU := bT;have HB := di;clear bP bQ bT di;refine fu (n := 21) (S := fun w' => w'.cell? ⟨aKQ, 0, none⟩ = some (.int .i64 aR) ∧ w'.cell? ⟨aKQ, 1, none⟩ = some (.int .i64 iR) ∧ w'.cell? ⟨aKQ, 2, none⟩ = some (.int .i64 vX) ∧ w'.cell? ⟨aKQ, 3, none⟩ = some (.slice (some aPr) y8.length ao4)) (ds := []) #[false, false, false, false, false, false, false, false, false, false, false, false, false, false, false, false, false, false, false, false, false] (by kernel_rfl) rfl rfl ⟨(ae A8.out 0).trans rfl, (ae A8.out 1).trans rfl, (ae A8.out 2).trans rfl, (ae A8.out 3).trans rfl⟩ (fun hHeld => ?_); refine dw ek.aQA ek.aOx (fun dA ji => ?_);generalize w94.drew = w95 at aMx A8 aBU HB hHeld ⊢;refine fT (i := 0) (N := some 59) #[true, false, false, false, false, false, false, false, false, false, false, false, false, false, false, false, false, false, false, false, false] rfl rfl (dn dA.out (by kernel_rfl)) (by decide) (fun K hK => ?_);refine uC Try.func47 (by kernel_rfl) rfl #[] (by rfl) rfl rfl (by (try simp only [List.map_toArray, List.map_cons, List.map_nil]); first | done | rfl | (simp only [List.length_drop, List.length_take]; rfl)) ?_;with_reducible refine (apq.calls  true _ A77.out).mono ?_
           rintro e w96 ⟨rfl, hb⟩;refine ⟨_, rfl, ?_⟩;have bP := aa.mk (Kd.bu (by (with_reducible repeat (first | apply Kd.ay5 | apply Kd.eu | apply Kd.aaH)); exact aMx.out) hb);have bQ := aa.mk (aC (bk A8) hb);have bT := aa.mk (aC (bk aBU) hb);have di := aa.mk (aM (bO HB) hb);clear aMx A8 aBU HB;have aMx := bP;have A8 := bQ;have aBU := bT;have HB := di;clear bP bQ bT di;(try clear hb);(try clear hb2);(try clear hk);(try clear hi);obtain ⟨a09, a1a, aVh⟩ := Kd.fQ aMx.out
           (first | subst aVh | (injection aVh with Ux f2_ Uy; have f4_ := Ux.symm; have f5_ := Uy.symm; clear Ux f2_ Uy; subst f4_; subst f5_))
           refine hK.out _ _ ⟨(ae A8.out 0).trans rfl, (ae A8.out 1).trans rfl, (ae A8.out 2).trans rfl, (ae A8.out 3).trans rfl⟩ (fun hHeld => ?_);clear hK K;refine bS (a' := ?_) ?_ ?_;rotate_left
           ·show Act.put _ (some 59) _ = _;simp only [Act.put, List.setIfInBounds_toArray, List.set_cons_zero, List.set_cons_succ, bH, bI];rfl
           refine fG (fuel := 0) [(1, 60), (2, 61), (3, 62), (4, 63), (5, 64), (6, 65), (7, 66), (8, 67), (9, 68), (10, 69), (11, 70), (12, 71), (13, 72), (14, 73), (15, 74), (16, 75), (17, 76), (18, 77), (19, 78), (20, 6)] #[true, true, true, true, true, true, true, true, true, true, true, true, true, true, true, true, true, true, true, true, true] (df dA.out ji.out _ _ _ (by kernel_rfl)) rfl (fun _ _ _ _ _ h => h) hHeld (a' := ?_) ?_ ?_;rotate_left
           ·iterate 8
             refine bC (v := ?_) (a1 := ?_) rfl rfl (Or.inl ⟨by rfl, ?_⟩) ?_ ?_;rotate_left 2
             ·rintro w' ⟨s0, s1, s2, s3⟩;go_simp;first | with_reducible rfl | exact aLR _ _ _ _ _
             ·simp only [Act.put, List.setIfInBounds_toArray, List.set_cons_zero, List.set_cons_succ, bH, bI];rfl
            iterate 10
             refine jQ (a1 := ?_) rfl rfl (by rfl) ?_ ?_;rotate_left
             ·simp only [Act.put, List.setIfInBounds_toArray, List.set_cons_zero, List.set_cons_succ];rfl
            iterate 2
             refine bC (v := ?_) (a1 := ?_) rfl rfl (Or.inl ⟨by rfl, ?_⟩) ?_ ?_;rotate_left 2
             ·rintro w' ⟨s0, s1, s2, s3⟩;go_simp;first | with_reducible rfl | exact aLR _ _ _ _ _
             ·simp only [Act.put, List.setIfInBounds_toArray, List.set_cons_zero, List.set_cons_succ, bH, bI];rfl
            exact chain_nil
           refine gH (dV dA.out (by kernel_rfl)) ?_;try go_wp2
           go_ret;exact ⟨by first | rfl | (simp [aW, aX] <;> rfl) | (simp [*, aW, aX] <;> rfl), bO HB⟩
         ·replace c78 := Bool.eq_false_iff.mpr c78;subst c78;have H1 : (some false) = some r := by rw [if_neg (show ¬ (false = true) by decide)] at H; exact H
          clear H;have H := H1;clear H1;obtain rfl := Option.some.inj H;have aZa := aMz.out;have aZb := aMQ.out;have aKq : wc.cell? ⟨aKQ, 0, none⟩ = some (.int .i64 aR) := (ae A8.out 0).trans rfl;have aKr : wc.cell? ⟨aKQ, 1, none⟩ = some (.int .i64 iR) := (ae A8.out 1).trans rfl;have aVY : wc.cell? ⟨aKQ, 2, none⟩ = some (.int .i64 vX) := (ae A8.out 2).trans rfl;have aVZ : wc.cell? ⟨aKQ, 3, none⟩ = some (.slice (some aPr) y8.length ao4) := (ae A8.out 3).trans rfl;have aKs := ai A8.out 0;have aKt := ai A8.out 1;have aV0 := ai A8.out 2;have aV1 := ai A8.out 3;try go_wp2_with (first | ((with_reducible refine dE (f := 49) rfl ?_); refine iB (some 58) rfl rfl Try.func49 (by kernel_rfl) rfl #[.agg #[.int .i64 aR, .int .i64 iR, .int .i64 vX, .slice (some aPr) y8.length ao4], .slice A1 l1.length c1] rfl (by (try simp only [List.map_toArray, List.map_cons, List.map_nil]); first | done | rfl | (simp only [List.length_drop, List.length_take]; rfl)) ?_; (with_reducible refine (an2.calls kj67 aR iR vX _ _ y8 _ _ l1 aMy _ ?side1 ?side2 ?side3 ?side4 A76.out).mono ?_); (case side1 => repeat (first | exact (Kd.bF aqx.out HB.out) | (with_reducible refine Kd.dF ?_ _) | (with_reducible refine Kd.dG ?_ _) | (with_reducible refine Kd.eG ?_))); (case side2 => exact aqH.out); (case side3 => repeat (first | exact (Kd.bF HR1.out HB.out) | (with_reducible refine Kd.dF ?_ _) | (with_reducible refine Kd.dG ?_ _) | (with_reducible refine Kd.eG ?_))); (case side4 => exact EY.out); rintro e aW4 ⟨aVf, rfl, ho0, hb⟩; refine ⟨_, rfl, ?_⟩; have bP := aa.mk (Kd.iL ho0 (aK (bO HB))); have bQ := aa.mk (aC (bk A8) hb); have bT := aa.mk (aC (bk aBU) hb); have di := aa.mk (aM (bO HB) hb); clear A8; clear aBU; clear HB; have aMx := bP; have A8 := bQ; have aBU := bT; have HB := di; clear bP bQ bT di; (try clear hb); (try clear hb2); (try clear hk); (try clear hi); (try clear ho0)))
          have bP := aa.mk (Kd.aaH aMx.out);have bQ := aa.mk (az A8.out);have bT := aa.mk (az aBU.out);have di := aa.mk (fK HB.out);clear aMx A8 aBU HB;have aMx := bP;have A8 := bQ;have aBU := bT;have HB := di;clear bP bQ bT di;refine fu (n := 21) (S := fun w' => True) (ds := []) #[false, false, false, false, false, false, false, false, false, false, false, false, false, false, false, false, false, false, false, false, false] (by kernel_rfl) rfl rfl trivial (fun hHeld => ?_); refine dw ek.aQA ek.aOx (fun dA ji => ?_);generalize aW4.drew = ayt at aMx A8 aBU HB hHeld ⊢;refine fT (i := 0) (N := some 59) #[true, false, false, false, false, false, false, false, false, false, false, false, false, false, false, false, false, false, false, false, false] rfl rfl (dn dA.out (by kernel_rfl)) (by decide) (fun K hK => ?_);refine uC Try.func47 (by kernel_rfl) rfl #[] (by rfl) rfl rfl (by (try simp only [List.map_toArray, List.map_cons, List.map_nil]); first | done | rfl | (simp only [List.length_drop, List.length_take]; rfl)) ?_;with_reducible refine (apq.calls  false _ A77.out).mono ?_
          rintro e a1b ⟨rfl, hb⟩;refine ⟨_, rfl, ?_⟩;have bP := aa.mk (Kd.bu (by (with_reducible repeat (first | apply Kd.ay5 | apply Kd.eu | apply Kd.aaH)); exact aMx.out) hb);have bQ := aa.mk (aC (bk A8) hb);have bT := aa.mk (aC (bk aBU) hb);have di := aa.mk (aM (bO HB) hb);clear aMx A8 aBU HB;have aMx := bP;have A8 := bQ;have aBU := bT;have HB := di;clear bP bQ bT di;(try clear hb);(try clear hb2);(try clear hk);(try clear hi);refine hK.out _ _ trivial (fun hHeld => ?_);clear hK K;refine bS (a' := ?_) ?_ ?_;rotate_left
          ·show Act.put _ (some 59) _ = _;simp only [Act.put, List.setIfInBounds_toArray, List.set_cons_zero, List.set_cons_succ, bH, bI];rfl
          refine fG (fuel := 0) [(1, 60), (2, 61), (3, 62), (4, 63), (5, 64), (6, 65), (7, 66), (8, 67), (9, 68), (10, 69), (11, 70), (12, 71), (13, 72), (14, 73), (15, 74), (16, 75), (17, 76), (18, 77), (19, 78), (20, 6)] #[true, true, true, true, true, true, true, true, true, true, true, true, true, true, true, true, true, true, true, true, true] (df dA.out ji.out _ _ _ (by kernel_rfl)) rfl (fun _ _ _ _ _ h => h) hHeld (a' := ?_) ?_ ?_;rotate_left
          ·iterate 1
            refine bC (v := ?_) (a1 := ?_) rfl rfl (Or.inl ⟨by rfl, ?_⟩) ?_ ?_;rotate_left 2
            ·intro w' _;go_simp;first | with_reducible rfl | exact aLR _ _ _ _ _
            ·simp only [Act.put, List.setIfInBounds_toArray, List.set_cons_zero, List.set_cons_succ, bH, bI];rfl
           iterate 5
            refine jQ (a1 := ?_) rfl rfl (by rfl) ?_ ?_;rotate_left
            ·simp only [Act.put, List.setIfInBounds_toArray, List.set_cons_zero, List.set_cons_succ];rfl
           iterate 2
            refine bC (v := ?_) (a1 := ?_) rfl rfl (Or.inl ⟨by rfl, ?_⟩) ?_ ?_;rotate_left 2
            ·intro w' _;go_simp;first | with_reducible rfl | exact aLR _ _ _ _ _
            ·simp only [Act.put, List.setIfInBounds_toArray, List.set_cons_zero, List.set_cons_succ, bH, bI];rfl
           iterate 10
            refine jQ (a1 := ?_) rfl rfl (by rfl) ?_ ?_;rotate_left
            ·simp only [Act.put, List.setIfInBounds_toArray, List.set_cons_zero, List.set_cons_succ];rfl
           iterate 2
            refine bC (v := ?_) (a1 := ?_) rfl rfl (Or.inl ⟨by rfl, ?_⟩) ?_ ?_;rotate_left 2
            ·intro w' _;go_simp;first | with_reducible rfl | exact aLR _ _ _ _ _
            ·simp only [Act.put, List.setIfInBounds_toArray, List.set_cons_zero, List.set_cons_succ, bH, bI];rfl
           exact chain_nil
          refine gH (dV dA.out (by kernel_rfl)) ?_;try go_wp2
          go_ret;exact ⟨by first | rfl | (simp [aW, aX] <;> rfl) | (simp [*, aW, aX] <;> rfl), bO HB⟩
      ·rw [if_neg c66] at H;exact absurd H (by simp)
     ·rw [if_neg c65] at H;exact absurd H (by simp)
end Go.Proofs.Ytamimodkcbbpmaa.Pr
end
section
namespace Go.Proofs.Ytamimodkcbbpmaa.Pr
open Go.RowKit Go.Proofs.YtamimodkcbbpmaaW.PrintWords Go.Proofs.YtamimodkcbbpmaaW.PrintLast
set_option linter.unusedVariables false
set_option linter.unusedSimpArgs false
mutual
def nT : S64 → Int
 | ⟨_, ks⟩ => 1 + nL ks
def nL : List S64 → Int
 | [] => 0
 | d :: ds => nT d + nL ds
end
theorem aSc (d : S64) : nT d = 1 + nL d.f1 := by
 obtain ⟨e, ks⟩ := d;rw [nT]
theorem aSd : ∀ (l : List S64) (i : Nat), i < l.length → nL (l.drop i) = nT (l.getD i z64) + nL (l.drop (i + 1))
 | d :: l, 0, _ => by simp [nL]
 | d :: l, i + 1, h => by
  have ih := aSd l i (by simpa using h);simp only [List.drop_succ_cons, List.getD_cons_succ];exact ih
theorem aQz (d : S64) (hl : d.f1.length ≤ 9223372036854775807) (a : Int) (h0 : 0 ≤ a) (h1 : a ≤ 100)
  (hk : ∀ v, v ∈ d.f1 → ∀ a x, 0 ≤ a → a ≤ 101 → x ≤ 201 → ∃ r, Ev (fun k => y9.f k v.f0 v.f1 a x) r ∧ -1 ≤ r ∧ r ≤ 201 ∧ (0 ≤ r → nT v + r ≤ x)) :
  ∀ m i x, i + m = d.f1.length → -1 ≤ x → x ≤ 201 → ∃ r, Ev (fun k => y9.l0 k a x (i : Int) d.f0 d.f1) r ∧ -1 ≤ r ∧ r ≤ 201 ∧ (0 ≤ r → nL (d.f1.drop i) + r ≤ x)
 | 0, i, x, hi, g0, g1 => by
  refine ⟨x, (Ev.const x).succ (fun k => ?_), g0, g1, fun _ => ?_⟩
  ·show y9.l0 (k + 1) _ _ _ _ _ = _;rw [y9.l0, if_neg (by omega)]
  ·rw [show i = d.f1.length by omega, List.drop_length, nL]; omega
 | m + 1, i, x, hi, g0, g1 => by
  have hw := RY i (by omega);by_cases gx : x ≥ 0
  ·obtain ⟨t, et, t0, t1, t2⟩ := hk _ (ib d.f1 i z64 (by omega)) (a + 1) x (by omega) (by omega) g1;obtain ⟨r, er, r0, r1, r2⟩ := aQz d hl a h0 h1 hk m (i + 1) t (by omega) t0 t1;have e2 : FW d.f1 (i : Int) = d.f1.getD i z64 := rfl;have ha : wrap64 (a + 1) = a + 1 := aMu _ (by omega) (by omega);refine ⟨r, (Ev.bind (G := fun k aR2 => y9.l0 k a aR2 ((i + 1 : Nat) : Int) d.f0 d.f1) et er).succ (fun k => ?_), r0, r1, fun h => ?_⟩
   ·show y9.l0 (k + 1) _ _ _ _ _ = _;rw [y9.l0, if_pos (by omega), if_pos gx, if_pos (by omega), hw, ha, e2]
   ·have h5 := r2 h;rw [aSd d.f1 i (by omega)];have hn : ∀ l : List S64, 0 ≤ t → True := fun _ _ => trivial
    by_cases ht : 0 ≤ t
    ·have := t2 ht; omega
    ·have hpos : ∀ l : List S64, 0 ≤ nL l := by
      intro l;suffices hs : ∀ (n : Nat) (l : List S64), SizeOf.sizeOf l ≤ n → 0 ≤ nL l from hs _ l (Nat.le_refl _)
      intro n;induction n with
      | zero => intro l hl; cases l <;> simp at hl
      | succ n ih =>
       intro l hl
       cases l with
       | nil => simp [nL]
       | cons x l =>
        obtain ⟨e, ks⟩ := x;simp only [List.cons.sizeOf_spec, S64.mk.sizeOf_spec] at hl;have a1 := ih ks (by omega);have a2 := ih l (by omega);rw [nL, nT];omega
     have := hpos (d.f1.drop (i + 1));omega
  ·refine ⟨x, (Ev.const x).succ (fun k => ?_), g0, g1, fun h => absurd h (by omega)⟩;show y9.l0 (k + 1) _ _ _ _ _ = _;rw [y9.l0, if_pos (by omega), if_neg gx]
theorem aST {d : S64} (hf : auE d) : ∀ a x, 0 ≤ a → a ≤ 101 → x ≤ 201 → ∃ r, Ev (fun k => y9.f k d.f0 d.f1 a x) r ∧ -1 ≤ r ∧ r ≤ 201 ∧ (0 ≤ r → nT d + r ≤ x) := by
 induction hf with
 | mk d _ hl _ ih =>
  intro a x h0 h1 hx;have bad : Ev (fun k => y9.j0 k a x true d.f0 d.f1) (-1) := (Ev.const (-1)).succ (fun k => by rw [y9.j0, if_pos rfl]);by_cases g : a > 100
  ·exact ⟨-1, bad.succ (fun k => by show y9.f (k + 1) _ _ _ _ = _; rw [y9.f, if_pos g]), by omega, by omega, fun h => absurd h (by omega)⟩
  ·by_cases gx : x ≤ 0
   ·exact ⟨-1, bad.succ (fun k => by show y9.f (k + 1) _ _ _ _ = _; rw [y9.f, if_neg g, decide_eq_true gx]), by omega, by omega, fun h => absurd h (by omega)⟩
   ·obtain ⟨r, er, r0, r1, r2⟩ := aQz d hl a h0 (by omega) ih d.f1.length 0 (x - 1) (by omega) (by omega) (by omega);have e1 : Ev (fun k => y9.j1 k a x d.f0 d.f1) r := er.succ (fun k => by rw [y9.j1, aMu (x - 1) (by omega) (by omega)]; rfl);have e0 : Ev (fun k => y9.j0 k a x false d.f0 d.f1) r := e1.succ (fun k => by rw [y9.j0, if_neg (by decide)]);refine ⟨r, e0.succ (fun k => by show y9.f (k + 1) _ _ _ _ = _; rw [y9.f, if_neg g, decide_eq_false gx]), r0, r1, fun h => ?_⟩;have := r2 h;rw [List.drop_zero] at this;rw [aSc];omega
theorem aTN {d : S64} (hf : auE d) : ∃ b, Ev (fun k => aCa.f k d.f0 d.f1 200) b ∧ (b = true → nT d ≤ 201) := by
 obtain ⟨r, er, r0, r1, r2⟩ := aST hf 0 201 (by omega) (by omega) (by omega);refine ⟨decide (r ≥ 0), Ev.mp (Ev.bind (G := fun k t => some (decide (t ≥ 0))) er (Ev.const _)) (fun k => by rw [aCa.f, aMu (200 + 1) (by omega) (by omega)]; rfl), fun h => ?_⟩;have := r2 (of_decide_eq_true h);have := of_decide_eq_true h;omega
section
variable {T N : Int} {rs : List KH} {ins : List Int}
theorem VP.cost (h : aqN T N rs ins) {v : Int} {d : S64} (hv : VP rs v d) : nT d ≤ 1000000 → (1 ≤ nT d ∧ 0 ≤ (aCv rs ins d).f0 ∧ (aCv rs ins d).f0 ≤ 61000 * nT d ∧ (aCv rs ins d).f1 = nT d) ∧ JC (aqo rs ins) v (aCv rs ins d) := by
 induction hv with
 | mk d h0 h1 hl hk ih =>
  intro hn;obtain ⟨q, hq⟩ : ∃ q : Nat, d.f0 = (q : Int) := ⟨d.f0.toNat, by omega⟩;have hqr : q < rs.length := by omega
  have eg := aCc (rs := rs) (ins := ins) q hqr;have hm := ayG rs q hqr;have hc := h.cost hm;rw [aSc] at hn;have hpos : ∀ l : List S64, 0 ≤ nL l := by
   intro l;suffices hs : ∀ (n : Nat) (l : List S64), SizeOf.sizeOf l ≤ n → 0 ≤ nL l from hs _ l (Nat.le_refl _)
   intro n;induction n with
   | zero => intro l hl; cases l <;> simp at hl
   | succ n ih =>
    intro l hl
    cases l with
    | nil => simp [nL]
    | cons x l =>
     obtain ⟨e, ks⟩ := x;simp only [List.cons.sizeOf_spec, S64.mk.sizeOf_spec] at hl;have a1 := ih ks (by omega);have a2 := ih l (by omega);rw [nL, nT];omega
  have hmem : ∀ (l : List S64) (x : S64), x ∈ l → nT x ≤ nL l := by
   intro l;induction l with
   | nil => intro x hx; cases hx
   | cons y l ihl =>
    intro x hx;rw [nL];rcases List.mem_cons.1 hx with rfl | hx
    ·have := hpos l; omega
    ·have := ihl x hx;have : 0 ≤ nT y := by rw [aSc]; have := hpos y.f1; omega
     omega
  have kid : ∀ j, j < d.f1.length → (1 ≤ nT (d.f1.getD j z64) ∧ 0 ≤ (aCv rs ins (d.f1.getD j z64)).f0 ∧ (aCv rs ins (d.f1.getD j z64)).f0 ≤ 61000 * nT (d.f1.getD j z64) ∧ (aCv rs ins (d.f1.getD j z64)).f1 = nT (d.f1.getD j z64)) ∧ JC (aqo rs ins) ((arc (Dj rs d.f0)).getD j 0) (aCv rs ins (d.f1.getD j z64)) :=
   fun j hj => ih j hj (by have := hmem d.f1 _ (ib d.f1 j z64 hj); omega)
  have aVi : ∀ x, x ∈ d.f1 → 1 ≤ nT x ∧ 0 ≤ (aCv rs ins x).f0 ∧ (aCv rs ins x).f0 ≤ 61000 * nT x ∧ (aCv rs ins x).f1 = nT x := lN _ z64 (fun j hj => (kid j hj).1);have sums : ∀ l : List S64, (∀ x, x ∈ l → 1 ≤ nT x ∧ 0 ≤ (aCv rs ins x).f0 ∧ (aCv rs ins x).f0 ≤ 61000 * nT x ∧ (aCv rs ins x).f1 = nT x) → 0 ≤ Mg (l.map (aCv rs ins)) ∧ Mg (l.map (aCv rs ins)) ≤ 61000 * nL l ∧ UY (l.map (aCv rs ins)) = nL l := by
   intro l;induction l with
   | nil => intro _; simp [Mg, UY, nL]
   | cons x l ihl =>
    intro hx;have h1 := hx x (List.mem_cons_self ..);have h2 := ihl (fun y hy => hx y (List.mem_cons_of_mem _ hy));rw [List.map_cons, uN, uO, nL];omega
  have hs := sums d.f1 aVi;have hnl := hpos d.f1;have hb := aMl h hm;rw [← hq] at hb hc eg;have hcs := aN9 (rs := rs) (ins := ins) d.f1 (aKX ins (Dj rs d.f0)) (by rw [hb]; exact hc.1) (by rw [hb]; show (0 : Int) ≤ 1; decide) (fun x hx => by have := aVi x hx; omega) (by rw [hb]; show (arh ins (Dj rs d.f0)).f2 + _ < _; omega) (by rw [hb]; show 1 + _ < _; omega);rw [hb] at hcs;have ec : aCv rs ins d = ⟨(arh ins (Dj rs d.f0)).f2 + Mg (d.f1.map (aCv rs ins)), 1 + UY (d.f1.map (aCv rs ins))⟩ := by rw [aPR, hb, hcs]
  refine ⟨?_, ?_⟩
  ·rw [ec, aSc];simp only;omega
  ·have hwl : (d.f1.map (aCv rs ins)).length = (aj (aqo rs ins) (q : Int)).f1.length := by rw [← hq, eg, List.length_map, hl]; rfl
   have hw : ∀ j, j < (d.f1.map (aCv rs ins)).length → JC (aqo rs ins) ((aj (aqo rs ins) (q : Int)).f1.getD j 0) ((d.f1.map (aCv rs ins)).getD j z34) := by
    intro j hj;rw [List.length_map] at hj;have := (kid j hj).2;rw [← hq, eg, List.getD_eq_getElem?_getD (l := d.f1.map (aCv rs ins)), List.getElem?_map, List.getElem?_eq_getElem hj];rw [List.getD_eq_getElem?_getD (l := d.f1), List.getElem?_eq_getElem hj] at this;exact this
   have hD := JC.mk (es := aqo rs ins) q (by rw [atI]; exact hqr) _ hwl hw;rw [← hq, eg, si _ _ hc.1 (lN _ z34 (fun j hj => (hw j hj).ok h.zO)), if_neg (by omega)] at hD;rw [ec];rw [Int.min_eq_left (show 1 + UY (d.f1.map (aCv rs ins)) ≤ 1099511627776 by omega)] at hD;exact hD
end
theorem aRV (T N S : Int) (rs : List KH) (ins : List Int) {d : S64} (hf : auE d) : Ev (fun k => ek.f k T N S rs ins d.f0 d.f1) true := by
 obtain ⟨b, hb, hs⟩ := aAz T N S rs ins;have aw : Ev (fun k => ek.j0 k ins true T N S rs d.f0 d.f1) true := (Ev.const true).succ (fun k => by rw [ek.j0, if_pos rfl]; rfl)
 cases b with
 | false => exact aw.mp (fun k => by rw [ek.f, hb]; rfl)
 | true =>
  obtain ⟨h1, h2, h3⟩ := hs rfl;have hi : ins.length ≤ 9223372036854775807 := by omega
  have eV := aBy T N S rs (by omega);have eP := ayu T N S rs ins hi;obtain ⟨bf, eF, hbf⟩ := aTN hf;have e3 : arD T N S rs = true → arS T ins = true → Ev (fun k => if bf = true then (if d.f0 < 0 then (ek.j0 k ins true T N S rs d.f0 d.f1) else (ek.j0 k ins (decide (d.f0 ≥ (rs.length : Int))) T N S rs d.f0 d.f1)) else (ek.j0 k ins true T N S rs d.f0 d.f1)) true := by
   intro hn hp
   cases bf with
   | false => exact aw
   | true =>
    refine Ev.pos rfl ?_;by_cases g0 : d.f0 < 0
    ·exact Ev.pos g0 aw
    refine Ev.neg g0 ?_;by_cases g1 : d.f0 ≥ (rs.length : Int)
    ·rw [decide_eq_true g1]; exact aw
    rw [decide_eq_false g1];have hbo : ar9 T N S rs ins = true := by unfold ar9; rw [hn, hp]; rfl
    have hN := aqN.of hbo h1 h2;have hn1 := hN.n1;obtain ⟨bv, eVP, hbv⟩ := aSQ T N S rs hf (Dj rs d.f0).f1;have e5 : Ev (fun k => if bv = true then (ek.j2 k ins ((Dj rs d.f0).f1) T N S rs d.f0 d.f1) else ((apq.f).bind fun aP1 => (some aP1))) true := by
     cases bv with
     | false => exact Ev.const true
     | true =>
      refine Ev.pos rfl ?_;have hvp := hbv.1 rfl;have hvv : ar0 T N S rs ins = jy N.toNat (aqo rs ins) := by unfold ar0; rw [if_pos hbo]
      have e1 := ayy (T := T) (S := S) (ins := ins) hi h1 h2;rw [hvv] at e1;have aVj : Pe N.toNat (aqo rs ins) (jy N.toNat (aqo rs ins)) := Gj hN.zO hN.zt (fun e he => by have := atJ e he; omega) (by rw [atI]; have := hN.len; omega);have hlen := aVj.len;have aVk := (hvp.cost hN (by have := hbf rfl; omega)).2;have hlow := aVj.lower hN.zO hN.zt aVk;have hm : Dj rs d.f0 ∈ rs := by
       simp only [Dj];exact ib _ _ _ (by omega)
      have hhd := (hN.ru _ hm).hd;have hC : aBT.f T N S rs ins d.f0 d.f1 = some ((aCv rs ins d).f0, (aCv rs ins d).f1) := by
       have := aRG hN hvp;obtain ⟨e, ks⟩ := d;unfold aBT.f;rw [if_pos this]
      refine (Ev.bind (G := fun k aMy => (apq.f).bind fun aRU => (if aRU = true then (if (aMy.length : Int) = N then ((aBT.f T N S rs ins d.f0 d.f1).bind fun aOu => (if 0 ≤ (Dj rs d.f0).f1 then (if (Dj rs d.f0).f1 < (aMy.length : Int) then ((jA.f aOu.1 aOu.2 ((bJ aMy (Dj rs d.f0).f1).f0) ((bJ aMy (Dj rs d.f0).f1).f1)).bind fun aPH => (some (!aPH))) else (none)) else (none))) else (some false)) else (some false))) e1 ((Ev.const true).mp (fun k => ?_))).succ (fun k => by rw [ek.j2]);rw [apq.f, Option.bind_some, if_pos rfl, if_pos (by omega), hC, Option.bind_some, if_pos (by omega), if_pos (by omega), M5, (rC _ _).2 hlow];rfl
    have e4 : Ev (fun k => ek.j1 k ins T N S rs d.f0 d.f1) true := (Ev.bind (G := fun k aR3 => if aR3 = true then (ek.j2 k ins ((Dj rs d.f0).f1) T N S rs d.f0 d.f1) else ((apq.f).bind fun aP1 => (some aP1))) eVP e5).succ (fun k => by rw [ek.j1, if_pos (by omega), if_pos (by omega)]);exact e4.succ (fun k => by rw [ek.j0, if_neg (by decide)])
  refine Ev.mp (Ev.bind (G := fun k aP2 => if aP2 = true then ((aqe.f k T N S rs ins).bind fun aPf => (if aPf = true then ((aCa.f k d.f0 d.f1 200).bind fun aOh => (if aOh = true then (if d.f0 < 0 then (ek.j0 k ins true T N S rs d.f0 d.f1) else (ek.j0 k ins (decide (d.f0 ≥ (rs.length : Int))) T N S rs d.f0 d.f1)) else (ek.j0 k ins true T N S rs d.f0 d.f1))) else (ek.j0 k ins true T N S rs d.f0 d.f1))) else (ek.j0 k ins true T N S rs d.f0 d.f1)) eV ?_) (fun k => by rw [ek.f, hb]; rfl);by_cases hn : arD T N S rs = true
  ·refine Ev.pos hn (Ev.bind (G := fun k aPf => if aPf = true then ((aCa.f k d.f0 d.f1 200).bind fun aOh => (if aOh = true then (if d.f0 < 0 then (ek.j0 k ins true T N S rs d.f0 d.f1) else (ek.j0 k ins (decide (d.f0 ≥ (rs.length : Int))) T N S rs d.f0 d.f1)) else (ek.j0 k ins true T N S rs d.f0 d.f1))) else (ek.j0 k ins true T N S rs d.f0 d.f1)) eP ?_);by_cases hp : arS T ins = true
   ·exact Ev.pos hp (Ev.bind (G := fun k aOh => if aOh = true then (if d.f0 < 0 then (ek.j0 k ins true T N S rs d.f0 d.f1) else (ek.j0 k ins (decide (d.f0 ≥ (rs.length : Int))) T N S rs d.f0 d.f1)) else (ek.j0 k ins true T N S rs d.f0 d.f1)) eF (e3 hn hp))
   ·exact Ev.neg hp aw
  ·exact Ev.neg hn aw
theorem aRN (T N S : Int) (A : Option Addr) (c : Nat) (rs : List KH) (AI : Option Addr) (ci : Nat) (ins : List Int) (d : S64) (AD : Option Addr) (cd : Nat) (w : World) (h0 : aCh w A c rs) (h1 : aCi w AI ci ins) (h2 : In64 w AD cd d) :
  Calls Try.prog 15 #[.agg #[.int .i64 T, .int .i64 N, .int .i64 S, .slice A rs.length c], .slice AI ins.length ci, .agg #[.int .i64 d.f0, .slice AD d.f1.length cd]] w fun e w' => e = .returned (.bool true) ∧ Below w.heap.size w w' := by
 obtain ⟨K, hK⟩ := (aRV T N S rs ins h2.f).ex;exact ek.calls K T N S A c rs AI ci ins d.f0 AD cd d.f1 true w h0.C h0.c h1.C h1.c h2.C h2.c hK
end Go.Proofs.Ytamimodkcbbpmaa.Pr
end
