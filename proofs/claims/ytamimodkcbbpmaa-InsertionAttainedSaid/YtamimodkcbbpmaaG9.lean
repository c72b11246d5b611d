/- F53 XAwake38 TS XEq F54 F14 TG: a part of the proof of the row of a; no conditions. -/
import Derived.Test.YtamimodkcbbpmaaG2
import Derived.Test.YtamimodkcbbpmaaG8
import Derived.Test.YtamimodkcbbpmaaG5
import Derived.Test.YtamimodkcbbpmaaG3
import Derived.Test.YtamimodkcbbpmaaG6
import Derived.Test.YtamimodkcbbpmaaG7
section
namespace Go.Proofs.Ytamimodkcbbpmaa.Pr
open Go.RowKit Go.Proofs.YtamimodkcbbpmaaW.PrintWords Go.Proofs.YtamimodkcbbpmaaW.PrintLast Go.Proofs.YtamimodkcbbpmaaW.PrintMore Go.Proofs.YtamimodkcbbpmaaXW
attribute [local go_sem] aFh ky lX lY jf jg kz kC
set_option linter.unusedVariables false
set_option linter.unusedSimpArgs false
mutual
def Ae.j0 : Nat → Bool → Int → List (S64) → Int → List (S64) → Option (Bool)
 | 0, _, _, _, _, _ => none
 | k + 1, x19, auo, ar1, aup, ar8 => if x19 = true then (some false) else (Ae.j1 k auo ar1 aup ar8)
def Ae.j1 : Nat → Int → List (S64) → Int → List (S64) → Option (Bool)
 | 0, _, _, _, _ => none
 | k + 1, auo, ar1, aup, ar8 => Ae.l0 k 0 auo ar1 aup ar8
def Ae.l0 : Nat → Int → Int → List (S64) → Int → List (S64) → Option (Bool)
 | 0, _, _, _, _, _ => none
 | k + 1, x5, auo, ar1, aup, ar8 => if x5 < (ar1.length : Int) then (if 0 ≤ x5 then (if x5 < (ar8.length : Int) then ((Ae.f k ((FW ar1 x5).f0) ((FW ar1 x5).f1) ((FW ar8 x5).f0) ((FW ar8 x5).f1)).bind fun aAs => (if aAs = true then (Ae.l0 k (wrap64 (x5 + 1)) auo ar1 aup ar8) else (some false))) else (none)) else (none)) else (some true)
def Ae.f : Nat → Int → List (S64) → Int → List (S64) → Option (Bool)
 | 0, _, _, _, _ => none
 | k + 1, aR, aH, cK, cz => if aR = cK then (Ae.j0 k ((aH.length : Int) != (cz.length : Int)) aR aH cK cz) else (Ae.j0 k true aR aH cK cz)
end
theorem Ae.apw : ∀ k, (∀ y0 y1 y2 y3, dz (Ae.f k y0 y1 y2 y3) (Ae.f (k + 1) y0 y1 y2 y3)) ∧ (∀ y0 y1 y2 y3 y4, dz (Ae.j0 k y0 y1 y2 y3 y4) (Ae.j0 (k + 1) y0 y1 y2 y3 y4)) ∧ (∀ y0 y1 y2 y3, dz (Ae.j1 k y0 y1 y2 y3) (Ae.j1 (k + 1) y0 y1 y2 y3)) ∧ (∀ y0 y1 y2 y3 y4, dz (Ae.l0 k y0 y1 y2 y3 y4) (Ae.l0 (k + 1) y0 y1 y2 y3 y4))
 | 0 => ⟨fun _ _ _ _ r h => by simp [Ae.f] at h, fun _ _ _ _ _ r h => by simp [Ae.j0] at h, fun _ _ _ _ r h => by simp [Ae.j1] at h, fun _ _ _ _ _ r h => by simp [Ae.l0] at h⟩
 | k + 1 => by
  obtain ⟨jP, ih1, ih2, ih3⟩ := Ae.apw k;refine ⟨?_, ?_, ?_, ?_⟩;all_goals intros
  all_goals first | unfold Ae.f | unfold Ae.j0 | unfold Ae.j1 | unfold Ae.l0
  all_goals
   repeat' first
   | (with_reducible exact jP _ _ _ _)
   | (with_reducible exact ih1 _ _ _ _ _)
   | (with_reducible exact ih2 _ _ _ _)
   | (with_reducible exact ih3 _ _ _ _ _)
   | (with_reducible exact dz.refl _)
   | (with_reducible exact dz.none _)
   | (with_reducible refine dz.ite ?_ ?_)
   | (with_reducible refine dz.bind ?_ (fun _ => ?_))
   | exact jP _ _ _ _
   | exact ih1 _ _ _ _ _
   | exact ih2 _ _ _ _
   | exact ih3 _ _ _ _ _
   | exact dz.none _
   | refine dz.ite ?_ ?_
   | refine dz.bind ?_ (fun _ => ?_)
theorem Ae.mono : ∀ a0 a1 a2 a3 k, dz (Ae.f k a0 a1 a2 a3) (Ae.f (k + 1) a0 a1 a2 a3) := by
 intro a0 a1 a2 a3 k;obtain ⟨jP, ih1, ih2, ih3⟩ := Ae.apw k;exact jP a0 a1 a2 a3
def Ae.T6 : Bool × List (List Nat × List Nat) := (true, [([], []), ([0], [0]), ([], []), ([1, 2], [1, 2]), ([3], [3]), ([], []), ([5], [5]), ([], []), ([6, 7], [6, 7]), ([8], [8]), ([4, 9], [4, 9]), ([10], [10])])
def Ae.B6 : List Nat := [0, 1, 0, 7, 15, 0, 32, 0, 224, 480, 1023, 2047]
theorem Ae.Jt : iC .any (opsOf Try.f53 6) = Ae.T6 := by kernel_rfl
theorem Ae.axs : fo Ae.T6.2 Ae.B6 = true := by kernel_rfl
set_option maxHeartbeats 8000000 in
set_option maxRecDepth 100000 in
theorem Ae.calls (k : Nat) : ∀ (aR : Int) (bW : Option Addr) (bN : Nat) (aH : List (S64)) (cK : Int) (av3 : Option Addr) (lJ : Nat) (cz : List (S64)) (r : Bool) (w : World) (fw : Kd.C OG w bW aH.length aH) (fC : aH.length ≤ bN) (yz : Kd.C OG w av3 cz.length cz) (yA : cz.length ≤ lJ) (h : Ae.f k aR aH cK cz = some r),
  Calls Try.prog 53 #[.agg #[.int .i64 aR, .slice bW aH.length bN], .agg #[.int .i64 cK, .slice av3 cz.length lJ]] w fun e w' => e = .returned (.bool r) ∧ Below w.heap.size w w' := by
 induction k using Nat.strongRecOn with
 | _ k ih =>
 intro aR bW bN aH cK av3 lJ cz r w fw fC yz yA h
 cases k with
 | zero => exact absurd h (by simp [Ae.f])
 | succ k =>
 simp only [Ae.f] at h;have hu64 := Try.underlying64;have arT := aa.mk fw;have fP := aa.mk fC;clear fw fC;have ED := aa.mk yz;have TZ := aa.mk yA;clear yz yA;have HB := aa.mk (Below.refl w.heap.size w);have H : (if aR = cK then (Ae.j0 k ((aH.length : Int) != (cz.length : Int)) aR aH cK cz) else (Ae.j0 k true aR aH cK cz)) = some r := h;clear h;have Uo := aa.mk H;clear H;go_enter Try.func53, Try.ntmps53
 go_upto_region 1 with (first | ((with_reducible refine bM (N := 2) rfl ?_); (try (refine gG (by rfl) ?_; dsimp only)); refine bG ?hg (N := 2) ?hd (cs := #[.int .i64 aR, .slice bW aH.length bN]) (t := 64) ?hr ?_; (case hd => rfl); (case hg => rfl); (case hr => first | (go_simp; done) | (go_simp; rfl)); intro aqF hg w4 bR hb; have bP := aa.mk (aM (bO HB) hb); have bQ := aa.mk (bR); have bT := aa.mk ((by rw [hg]; exact (aK (bO HB)) : w.heap.size ≤ aqF)); have di := aa.mk ((by rw [hg]; exact (aK (bO HB)) : w.heap.size ≤ aqF)); clear HB; have HB := bP; have apy := bQ; have aOK := bT; have aOL := di; clear bP bQ bT di; clear hb bR hg) | ((with_reducible refine bM (N := 3) rfl ?_); (try (refine gG (by rfl) ?_; dsimp only)); refine bG ?hg (N := 3) ?hd (cs := #[.int .i64 cK, .slice av3 cz.length lJ]) (t := 64) ?hr ?_; (case hd => rfl); (case hg => rfl); (case hr => first | (go_simp; done) | (go_simp; rfl)); intro arW hg w5 bR hb; have bP := aa.mk (aC (bk apy) hb); have bQ := aa.mk (aM (bO HB) hb); have bT := aa.mk (bR); have di := aa.mk ((by rw [hg]; exact (aK (bO HB)) : w.heap.size ≤ arW)); have n4_ := aa.mk ((by rw [hg]; exact (aK (bO HB)) : w.heap.size ≤ arW)); have n5_ := aa.mk ((by rw [hg]; exact Nat.ne_of_lt (bE (bk apy)) : aqF ≠ arW)); have iG := aa.mk ((by rw [hg]; exact Nat.ne_of_gt (bE (bk apy)) : arW ≠ aqF)); clear apy; clear HB; have apy := bP; have HB := bQ; have aqi := bT; have aOM := di; have aON := n4_; have asc := n5_; have ase := iG; clear bP bQ bT di n4_ n5_ iG; clear hb bR hg))
 (try simp only [Act.put, List.setIfInBounds_toArray, List.set_cons_zero, List.set_cons_succ]);go_cut [19] (fun v19 wc => ∃ (kq : Nat) (Qr : Bool), v19 = .bool Qr ∧ aa (Ae.j0 kq Qr aR aH cK cz = some r) ∧ aa (kq ≤ k) ∧ aa (wc.heap[aqF]? = some (.cells #[.int .i64 aR, (.slice bW aH.length bN)] 64 (0, 0))) ∧ aa (wc.heap[arW]? = some (.cells #[.int .i64 cK, (.slice av3 cz.length lJ)] 64 (0, 0))) ∧ aa (Below w.heap.size w wc))
 case first =>
  have H := Uo.out;clear Uo;by_cases c6 : aR = cK
  ·rw [if_pos c6] at H;have Dy : (aR == cK) = true := beq_iff_eq.mpr c6;have XA : (aR != cK) = false := bne_eq_false_iff_eq.mpr c6;clear c6
   (first | rw [Dy] | (simp only [bH, bI]; rw [Dy]) | skip)
   have H' := aa.mk H;clear H;have aaL := asc.out;have aaM := ase.out;have nG : w5.cell? ⟨aqF, 0, none⟩ = some (.int .i64 aR) := (ae apy.out 0).trans rfl;have nH : w5.cell? ⟨aqF, 1, none⟩ = some (.slice bW aH.length bN) := (ae apy.out 1).trans rfl;have nI := ai apy.out 0;have nJ := ai apy.out 1;have nP : w5.cell? ⟨arW, 0, none⟩ = some (.int .i64 cK) := (ae aqi.out 0).trans rfl;have nQ : w5.cell? ⟨arW, 1, none⟩ = some (.slice av3 cz.length lJ) := (ae aqi.out 1).trans rfl;have nR := ai aqi.out 0;have nS := ai aqi.out 1;go_wp2;go_meet
   case rel => exact ⟨_, (((aH.length : Int) != (cz.length : Int))), (by first | rfl | (simp; done) | (simp [*]; done)), H', ⟨by first | omega | exact Nat.le_refl _⟩, ⟨by (with_reducible repeat (first | refine ax ?_ _ | refine az ?_ | refine au ?_ _)); exact apy.out⟩, ⟨by (with_reducible repeat (first | refine ax ?_ _ | refine az ?_ | refine au ?_ _)); exact aqi.out⟩, ⟨bO HB⟩⟩
  ·rw [if_neg c6] at H;have Dy : (aR == cK) = false := beq_eq_false_iff_ne.mpr c6;have XA : (aR != cK) = true := bne_iff_ne.mpr c6
   (first | rw [Dy] | (simp only [bH, bI]; rw [Dy]) | skip)
   have H' := aa.mk H;clear H;have adr := asc.out;have ads := ase.out;have oW : w5.cell? ⟨aqF, 0, none⟩ = some (.int .i64 aR) := (ae apy.out 0).trans rfl;have oZ : w5.cell? ⟨aqF, 1, none⟩ = some (.slice bW aH.length bN) := (ae apy.out 1).trans rfl;have o5 := ai apy.out 0;have o6 := ai apy.out 1;have jK : w5.cell? ⟨arW, 0, none⟩ = some (.int .i64 cK) := (ae aqi.out 0).trans rfl;have jL : w5.cell? ⟨arW, 1, none⟩ = some (.slice av3 cz.length lJ) := (ae aqi.out 1).trans rfl;have jM := ai aqi.out 0;have jN := ai aqi.out 1;go_wp2;go_meet
   case rel => exact ⟨_, (true), (by first | rfl | (simp; done) | (simp [*]; done)), H', ⟨by first | omega | exact Nat.le_refl _⟩, ⟨by (with_reducible repeat (first | refine ax ?_ _ | refine az ?_ | refine au ?_ _)); exact apy.out⟩, ⟨by (with_reducible repeat (first | refine ax ?_ _ | refine az ?_ | refine au ?_ _)); exact aqi.out⟩, ⟨bO HB⟩⟩
 case rest =>
  clear Uo;(try clear c1); (try clear p2); (try clear c5); (try clear c6); (try clear Dy); (try clear XA); (try clear c7); (try clear c10); (try clear oW); (try clear oZ); (try clear jK); (try clear jL); (try clear nG); (try clear nH); (try clear nP); (try clear nQ); (try clear o5); (try clear o6); (try clear jM); (try clear jN); (try clear nI); (try clear nJ); (try clear nR); (try clear nS);obtain ⟨kq, Qr, rfl, HA, HJ2, apy, aqi, HB⟩ := hcut
  cases kq with
  | zero => exact absurd HA.out (by simp [Ae.j0])
  | succ kj2 =>
   have H := HA.out;clear HA;simp only [Ae.j0] at H;have Gt := aa.mk H;clear H;go_upto_if 19 with (fail)
   go_cut [] (fun wc => ∃ (kq : Nat), aa (Ae.j1 kq aR aH cK cz = some r) ∧ aa (kq ≤ kj2) ∧ aa (wc.heap[aqF]? = some (.cells #[.int .i64 aR, (.slice bW aH.length bN)] 64 (0, 0))) ∧ aa (wc.heap[arW]? = some (.cells #[.int .i64 cK, (.slice av3 cz.length lJ)] 64 (0, 0))) ∧ aa (Below w.heap.size w wc))
   case first =>
    have H := Gt.out;clear Gt;by_cases c14 : Qr = true
    ·subst c14;have H1 : (some false) = some r := by rw [if_pos rfl] at H; exact H
     clear H;have H := H1;clear H1;obtain rfl := Option.some.inj H;go_wp2;go_ret;exact ⟨by first | rfl | (simp [aW, aX] <;> rfl) | (simp [*, aW, aX] <;> rfl), bO HB⟩
    ·replace c14 := Bool.eq_false_iff.mpr c14;subst c14;have H1 : (Ae.j1 kj2 aR aH cK cz) = some r := by rw [if_neg (show ¬ (false = true) by decide)] at H; exact H
     clear H;have H := H1;clear H1;have H' := aa.mk H;clear H;go_wp2;go_meet
     case rel => exact ⟨_, H', ⟨by have := HJ2.out; first | omega | exact Nat.le_refl _⟩, ⟨by (with_reducible repeat (first | refine ax ?_ _ | refine az ?_ | refine au ?_ _)); exact apy.out⟩, ⟨by (with_reducible repeat (first | refine ax ?_ _ | refine az ?_ | refine au ?_ _)); exact aqi.out⟩, ⟨bO HB⟩⟩
   case rest =>
    clear Gt;(try clear c1); (try clear p2); (try clear c5); (try clear c6); (try clear Dy); (try clear XA); (try clear c7); (try clear c10); (try clear c14); (try clear oW); (try clear oZ); (try clear jK); (try clear jL); (try clear nG); (try clear nH); (try clear nP); (try clear nQ); (try clear o5); (try clear o6); (try clear jM); (try clear jN); (try clear nI); (try clear nJ); (try clear nR); (try clear nS); (try clear p2);obtain ⟨kq, HA, Bp, apy, aqi, HB⟩ := hcut
    cases kq with
    | zero => exact absurd HA.out (by simp [Ae.j1])
    | succ kj12 =>
     have H := HA.out;clear HA;simp only [Ae.j1] at H;have H' := aa.mk H;clear H;go_wp2;go_loopg [5] kj12 (fun kq v5 w' => ∃ (gT : Int), v5 = .int .i64 gT ∧ aa (Ae.l0 kq gT aR aH cK cz = some r) ∧ aa (kq ≤ kj12) ∧ aa (w'.heap[aqF]? = some (.cells #[.int .i64 aR, (.slice bW aH.length bN)] 64 (0, 0))) ∧ aa (w'.heap[arW]? = some (.cells #[.int .i64 cK, (.slice av3 cz.length lJ)] 64 (0, 0))) ∧ aa (Below w.heap.size w w'))
     case atStart => exact ⟨(0), (by first | rfl | (simp; done) | (simp [*]; done)), H', ⟨Nat.le_refl _⟩, ⟨by (with_reducible repeat (first | refine ax ?_ _ | refine az ?_ | refine au ?_ _)); exact apy.out⟩, ⟨by (with_reducible repeat (first | refine ax ?_ _ | refine az ?_ | refine au ?_ _)); exact aqi.out⟩, ⟨bO HB⟩⟩
     case round =>
      clear H';(try clear c1); (try clear p2); (try clear c5); (try clear c6); (try clear Dy); (try clear XA); (try clear c7); (try clear c10); (try clear c14); (try clear oW); (try clear oZ); (try clear jK); (try clear jL); (try clear nG); (try clear nH); (try clear nP); (try clear nQ); (try clear o5); (try clear o6); (try clear jM); (try clear jN); (try clear nI); (try clear nJ); (try clear nR); (try clear nS); (try clear p2);obtain ⟨gT, rfl, HA, xO, apy, aqi, HB⟩ := hrel
      cases gk with
      | zero => exact absurd HA.out (by simp [Ae.l0])
      | succ k3 =>
       have H := HA.out;clear HA;simp only [Ae.l0] at H;by_cases c15 : gT < (aH.length : Int)
       ·rw [if_pos c15] at H;have tF : decide (gT < (aH.length : Int)) = true := decide_eq_true c15;clear c15;by_cases c16 : 0 ≤ gT
        ·rw [if_pos c16] at H;have EC : decide (0 ≤ gT) = true := decide_eq_true c16;clear c16;by_cases c17 : gT < (cz.length : Int)
         ·rw [if_pos c17] at H;have Zc : decide (gT < (cz.length : Int)) = true := decide_eq_true c17;clear c17;replace H := Option.bind_eq_some_iff.mp H;obtain ⟨aAs, UM, H⟩ := H;replace H : (if aAs = true then (Ae.l0 k3 (wrap64 (gT + 1)) aR aH cK cz) else (some false)) = some r := H;have A18 := aa.mk UM;clear UM;by_cases c19 : aAs = true
          ·subst c19;have H1 : (Ae.l0 k3 (wrap64 (gT + 1)) aR aH cK cz) = some r := by rw [if_pos rfl] at H; exact H
           clear H;have H := H1;clear H1;have H' := aa.mk H;clear H;have OQ := asc.out;have OT := ase.out;have qi : wr.cell? ⟨aqF, 0, none⟩ = some (.int .i64 aR) := (ae apy.out 0).trans rfl;have qj : wr.cell? ⟨aqF, 1, none⟩ = some (.slice bW aH.length bN) := (ae apy.out 1).trans rfl;have ql := ai apy.out 0;have qm := ai apy.out 1;try go_wp2
           have bP := aa.mk (az apy.out);have bQ := aa.mk (az aqi.out);have bT := aa.mk (fK HB.out);clear apy aqi HB;have apy := bP;have aqi := bQ;have HB := bT;clear bP bQ bT;have axk : 0 ≤ (gT : Int) := of_decide_eq_true (by first | (with_reducible assumption) | assumption);have axl : gT < (aH.length : Int) := of_decide_eq_true (by first | (with_reducible assumption) | assumption);obtain ⟨auq, avo, avp, aBG, arI, arJ, aur, aus⟩ := ah8 arT.out gT axk axl;have aut := arJ;have auu := arI
           cases aBG;replace arI := ah HB.out arI;replace arJ := ah HB.out arJ;have auv := aa.mk aus;have av4 := aa.mk aur;clear aus aur;replace axk := eq_true axk;replace axl := eq_true axl;have axm : 0 ≤ (gT : Int) := of_decide_eq_true (by first | (with_reducible assumption) | assumption);have axn : gT < (cz.length : Int) := of_decide_eq_true (by first | (with_reducible assumption) | assumption);obtain ⟨auw, avq, avr, aBH, arK, arL, auy, auz⟩ := ah8 ED.out gT axm axn;have auA := arL;have auB := arK
           cases aBH;replace arK := ah HB.out arK;replace arL := ah HB.out arL;have auC := aa.mk auz;have av5 := aa.mk auy;clear auz auy;replace axm := eq_true axm;replace axn := eq_true axn;refine fu (n := 12) (S := fun w' => w'.cell? ⟨aqF, 0, none⟩ = some (.int .i64 aR) ∧ w'.cell? ⟨aqF, 1, none⟩ = some (.slice (some auq) aH.length bN) ∧ w'.cell? ⟨arW, 0, none⟩ = some (.int .i64 cK) ∧ w'.cell? ⟨arW, 1, none⟩ = some (.slice (some auw) cz.length lJ) ∧ w'.cell? (auq.add ((gT).toNat * 2)) = some (.int .i64 ((FW aH gT).f0)) ∧ w'.cell? ⟨(auq.add ((gT).toNat * 2)).block, (auq.add ((gT).toNat * 2)).off + 1, none⟩ = some (.slice avo ((FW aH gT).f1).length avp) ∧ w'.cell? (auw.add ((gT).toNat * 2)) = some (.int .i64 ((FW cz gT).f0)) ∧ w'.cell? ⟨(auw.add ((gT).toNat * 2)).block, (auw.add ((gT).toNat * 2)).off + 1, none⟩ = some (.slice avq ((FW cz gT).f1).length avr)) (ds := []) #[false, false, false, false, false, false, false, false, false, false, false, false] (by kernel_rfl) rfl rfl ⟨(ae apy.out 0).trans rfl, (ae apy.out 1).trans rfl, (ae aqi.out 0).trans rfl, (ae aqi.out 1).trans rfl, (ah HB.out auu), (ah HB.out aut), (ah HB.out auB), (ah HB.out auA)⟩ (fun hHeld => ?_); refine dw Ae.Jt Ae.axs (fun dA ji => ?_);generalize wr.drew = w22 at apy aqi HB auv auC arI arJ arK arL hHeld ⊢;refine fG (fuel := 2) [(0, 27), (2, 29), (5, 32), (7, 34), (1, 28), (3, 30), (4, 31), (6, 33), (8, 35), (9, 36)] #[true, true, true, true, true, true, true, true, true, true, false, false] (df dA.out ji.out _ _ _ (by kernel_rfl)) rfl (fun _ _ _ _ _ h => h) hHeld (a' := ?_) ?_ ?_;rotate_left
           ·iterate 10
             refine bC (v := ?_) (a1 := ?_) rfl rfl (Or.inl ⟨by rfl, ?_⟩) ?_ ?_;rotate_left 2
             ·rintro w' ⟨s0, s1, s2, s3, s4, s5, s6, s7⟩;go_simp;with_reducible rfl
             ·simp only [Act.put, List.setIfInBounds_toArray, List.set_cons_zero, List.set_cons_succ, bH, bI];rfl
            exact chain_nil
           refine fT (i := 10) (N := some 37) #[true, true, true, true, true, true, true, true, true, true, true, false] rfl rfl (dn dA.out (by kernel_rfl)) (by decide) (fun K hK => ?_);refine uC Try.func53 (by kernel_rfl) rfl #[.agg #[.int .i64 ((FW aH gT).f0), .slice avo ((FW aH gT).f1).length avp], .agg #[.int .i64 ((FW cz gT).f0), .slice avq ((FW cz gT).f1).length avr]] (by rfl) rfl rfl (by (try simp only [List.map_toArray, List.map_cons, List.map_nil]); first | done | rfl | (simp only [List.length_drop, List.length_take]; rfl)) ?_;with_reducible refine (ih k3 (by have := HJ2.out; have := Bp.out; have := xO.out; omega) ((FW aH gT).f0) _ _ ((FW aH gT).f1) ((FW cz gT).f0) _ _ ((FW cz gT).f1) true _ ?side1 ?side2 ?side3 ?side4 A18.out).mono ?_
           (case side1 => repeat (first | exact (Kd.bF auv.out HB.out) | (with_reducible refine Kd.dF ?_ _) | (with_reducible refine Kd.dG ?_ _) | (with_reducible refine Kd.eG ?_)));(case side2 => exact av4.out);(case side3 => repeat (first | exact (Kd.bF auC.out HB.out) | (with_reducible refine Kd.dF ?_ _) | (with_reducible refine Kd.dG ?_ _) | (with_reducible refine Kd.eG ?_)));(case side4 => exact av5.out);rintro e YJ ⟨rfl, hb⟩;refine ⟨_, rfl, ?_⟩;have bP := aa.mk (aC (bk apy) hb);have bQ := aa.mk (aC (bk aqi) hb);have bT := aa.mk (aM (bO HB) hb);clear apy aqi HB;have apy := bP;have aqi := bQ;have HB := bT;clear bP bQ bT;(try clear hb);(try clear hb2);(try clear hk);(try clear hi);refine hK.out _ _ ⟨(ae apy.out 0).trans rfl, (ae apy.out 1).trans rfl, (ae aqi.out 0).trans rfl, (ae aqi.out 1).trans rfl, (ah HB.out auu), (ah HB.out aut), (ah HB.out auB), (ah HB.out auA)⟩ (fun hHeld => ?_);clear hK K;refine bS (a' := ?_) ?_ ?_;rotate_left
           ·show Act.put _ (some 37) _ = _;simp only [Act.put, List.setIfInBounds_toArray, List.set_cons_zero, List.set_cons_succ, bH, bI];rfl
           refine arz (i := 11) (N := some 38) (v := ?_) (a' := ?_) #[true, true, true, true, true, true, true, true, true, true, true, true] rfl rfl (ku dA.out (by kernel_rfl)) (fun _ _ _ h => h) (Or.inl ⟨by rfl, ?_⟩) ?_ ?_;rotate_left
           ·intro w';go_simp;with_reducible rfl
           rotate_left
           ·simp only [Act.put, List.setIfInBounds_toArray, List.set_cons_zero, List.set_cons_succ, bH, bI];rfl
           refine gH (dV dA.out (by kernel_rfl)) ?_;try go_wp2
           go_roundg k3
           case measure => have := HJ2.out; have := Bp.out; have := xO.out; omega
           case rel => exact ⟨(wrap64 (gT + 1)), (by first | rfl | (simp; done) | (simp [*]; done)), H', ⟨by have := HJ2.out; have := Bp.out; have := xO.out; omega⟩, ⟨by (with_reducible repeat (first | refine ax ?_ _ | refine az ?_ | refine au ?_ _)); exact apy.out⟩, ⟨by (with_reducible repeat (first | refine ax ?_ _ | refine az ?_ | refine au ?_ _)); exact aqi.out⟩, ⟨bO HB⟩⟩
          ·replace c19 := Bool.eq_false_iff.mpr c19;subst c19;have H1 : (some false) = some r := by rw [if_neg (show ¬ (false = true) by decide)] at H; exact H
           clear H;have H := H1;clear H1;obtain rfl := Option.some.inj H;have Zn := asc.out;have Zo := ase.out;have yP : wr.cell? ⟨aqF, 0, none⟩ = some (.int .i64 aR) := (ae apy.out 0).trans rfl;have yQ : wr.cell? ⟨aqF, 1, none⟩ = some (.slice bW aH.length bN) := (ae apy.out 1).trans rfl;have yR := ai apy.out 0;have yS := ai apy.out 1;try go_wp2
           have bP := aa.mk (az apy.out);have bQ := aa.mk (az aqi.out);have bT := aa.mk (fK HB.out);clear apy aqi HB;have apy := bP;have aqi := bQ;have HB := bT;clear bP bQ bT;have axk : 0 ≤ (gT : Int) := of_decide_eq_true (by first | (with_reducible assumption) | assumption);have axl : gT < (aH.length : Int) := of_decide_eq_true (by first | (with_reducible assumption) | assumption);obtain ⟨auq, avo, avp, aBG, arI, arJ, aur, aus⟩ := ah8 arT.out gT axk axl;have aut := arJ;have auu := arI
           cases aBG;replace arI := ah HB.out arI;replace arJ := ah HB.out arJ;have auv := aa.mk aus;have av4 := aa.mk aur;clear aus aur;replace axk := eq_true axk;replace axl := eq_true axl;have axm : 0 ≤ (gT : Int) := of_decide_eq_true (by first | (with_reducible assumption) | assumption);have axn : gT < (cz.length : Int) := of_decide_eq_true (by first | (with_reducible assumption) | assumption);obtain ⟨auw, avq, avr, aBH, arK, arL, auy, auz⟩ := ah8 ED.out gT axm axn;have auA := arL;have auB := arK
           cases aBH;replace arK := ah HB.out arK;replace arL := ah HB.out arL;have auC := aa.mk auz;have av5 := aa.mk auy;clear auz auy;replace axm := eq_true axm;replace axn := eq_true axn;refine fu (n := 12) (S := fun w' => w'.cell? ⟨aqF, 0, none⟩ = some (.int .i64 aR) ∧ w'.cell? ⟨aqF, 1, none⟩ = some (.slice (some auq) aH.length bN) ∧ w'.cell? ⟨arW, 0, none⟩ = some (.int .i64 cK) ∧ w'.cell? ⟨arW, 1, none⟩ = some (.slice (some auw) cz.length lJ) ∧ w'.cell? (auq.add ((gT).toNat * 2)) = some (.int .i64 ((FW aH gT).f0)) ∧ w'.cell? ⟨(auq.add ((gT).toNat * 2)).block, (auq.add ((gT).toNat * 2)).off + 1, none⟩ = some (.slice avo ((FW aH gT).f1).length avp) ∧ w'.cell? (auw.add ((gT).toNat * 2)) = some (.int .i64 ((FW cz gT).f0)) ∧ w'.cell? ⟨(auw.add ((gT).toNat * 2)).block, (auw.add ((gT).toNat * 2)).off + 1, none⟩ = some (.slice avq ((FW cz gT).f1).length avr)) (ds := []) #[false, false, false, false, false, false, false, false, false, false, false, false] (by kernel_rfl) rfl rfl ⟨(ae apy.out 0).trans rfl, (ae apy.out 1).trans rfl, (ae aqi.out 0).trans rfl, (ae aqi.out 1).trans rfl, (ah HB.out auu), (ah HB.out aut), (ah HB.out auB), (ah HB.out auA)⟩ (fun hHeld => ?_); refine dw Ae.Jt Ae.axs (fun dA ji => ?_);generalize wr.drew = w26 at apy aqi HB auv auC arI arJ arK arL hHeld ⊢;refine fG (fuel := 2) [(0, 27), (2, 29), (5, 32), (7, 34), (1, 28), (3, 30), (4, 31), (6, 33), (8, 35), (9, 36)] #[true, true, true, true, true, true, true, true, true, true, false, false] (df dA.out ji.out _ _ _ (by kernel_rfl)) rfl (fun _ _ _ _ _ h => h) hHeld (a' := ?_) ?_ ?_;rotate_left
           ·iterate 10
             refine bC (v := ?_) (a1 := ?_) rfl rfl (Or.inl ⟨by rfl, ?_⟩) ?_ ?_;rotate_left 2
             ·rintro w' ⟨s0, s1, s2, s3, s4, s5, s6, s7⟩;go_simp;with_reducible rfl
             ·simp only [Act.put, List.setIfInBounds_toArray, List.set_cons_zero, List.set_cons_succ, bH, bI];rfl
            exact chain_nil
           refine fT (i := 10) (N := some 37) #[true, true, true, true, true, true, true, true, true, true, true, false] rfl rfl (dn dA.out (by kernel_rfl)) (by decide) (fun K hK => ?_);refine uC Try.func53 (by kernel_rfl) rfl #[.agg #[.int .i64 ((FW aH gT).f0), .slice avo ((FW aH gT).f1).length avp], .agg #[.int .i64 ((FW cz gT).f0), .slice avq ((FW cz gT).f1).length avr]] (by rfl) rfl rfl (by (try simp only [List.map_toArray, List.map_cons, List.map_nil]); first | done | rfl | (simp only [List.length_drop, List.length_take]; rfl)) ?_;with_reducible refine (ih k3 (by have := HJ2.out; have := Bp.out; have := xO.out; omega) ((FW aH gT).f0) _ _ ((FW aH gT).f1) ((FW cz gT).f0) _ _ ((FW cz gT).f1) false _ ?side1 ?side2 ?side3 ?side4 A18.out).mono ?_
           (case side1 => repeat (first | exact (Kd.bF auv.out HB.out) | (with_reducible refine Kd.dF ?_ _) | (with_reducible refine Kd.dG ?_ _) | (with_reducible refine Kd.eG ?_)));(case side2 => exact av4.out);(case side3 => repeat (first | exact (Kd.bF auC.out HB.out) | (with_reducible refine Kd.dF ?_ _) | (with_reducible refine Kd.dG ?_ _) | (with_reducible refine Kd.eG ?_)));(case side4 => exact av5.out);rintro e V7 ⟨rfl, hb⟩;refine ⟨_, rfl, ?_⟩;have bP := aa.mk (aC (bk apy) hb);have bQ := aa.mk (aC (bk aqi) hb);have bT := aa.mk (aM (bO HB) hb);clear apy aqi HB;have apy := bP;have aqi := bQ;have HB := bT;clear bP bQ bT;(try clear hb);(try clear hb2);(try clear hk);(try clear hi);refine hK.out _ _ ⟨(ae apy.out 0).trans rfl, (ae apy.out 1).trans rfl, (ae aqi.out 0).trans rfl, (ae aqi.out 1).trans rfl, (ah HB.out auu), (ah HB.out aut), (ah HB.out auB), (ah HB.out auA)⟩ (fun hHeld => ?_);clear hK K;refine bS (a' := ?_) ?_ ?_;rotate_left
           ·show Act.put _ (some 37) _ = _;simp only [Act.put, List.setIfInBounds_toArray, List.set_cons_zero, List.set_cons_succ, bH, bI];rfl
           refine arz (i := 11) (N := some 38) (v := ?_) (a' := ?_) #[true, true, true, true, true, true, true, true, true, true, true, true] rfl rfl (ku dA.out (by kernel_rfl)) (fun _ _ _ h => h) (Or.inl ⟨by rfl, ?_⟩) ?_ ?_;rotate_left
           ·intro w';go_simp;with_reducible rfl
           rotate_left
           ·simp only [Act.put, List.setIfInBounds_toArray, List.set_cons_zero, List.set_cons_succ, bH, bI];rfl
           refine gH (dV dA.out (by kernel_rfl)) ?_;try go_wp2
           go_ret;exact ⟨by first | rfl | (simp [aW, aX] <;> rfl) | (simp [*, aW, aX] <;> rfl), bO HB⟩
         ·rw [if_neg c17] at H;exact absurd H (by simp)
        ·rw [if_neg c16] at H;exact absurd H (by simp)
       ·rw [if_neg c15] at H;have tF : decide (gT < (aH.length : Int)) = false := decide_eq_false c15;clear c15;obtain rfl := Option.some.inj H;have YL := asc.out;have YM := ase.out;have tK : wr.cell? ⟨aqF, 0, none⟩ = some (.int .i64 aR) := (ae apy.out 0).trans rfl;have tL : wr.cell? ⟨aqF, 1, none⟩ = some (.slice bW aH.length bN) := (ae apy.out 1).trans rfl;have tN := ai apy.out 0;have tO := ai apy.out 1;go_wp2;go_ret;exact ⟨by first | rfl | (simp [aW, aX] <;> rfl) | (simp [*, aW, aX] <;> rfl), bO HB⟩
end Go.Proofs.Ytamimodkcbbpmaa.Pr
end
section
namespace Go.Proofs.Ytamimodkcbbpmaa.Pr
open Go.RowKit Go.Proofs.YtamimodkcbbpmaaW.PrintWords Go.Proofs.YtamimodkcbbpmaaW.PrintLast Go.Proofs.YtamimodkcbbpmaaXW
set_option linter.unusedVariables false
set_option linter.unusedSimpArgs false
def exR : List KH := [⟨4, 0, 1, 1, 2, 0⟩, ⟨2, 1, 0, 0, 0, 0⟩, ⟨1, 1, 0, 0, 5, 0⟩]
def exI : List Int := [4]
abbrev exV : List dK := [⟨10, 3⟩, ⟨4, 1⟩]
abbrev exK : List S64 := [⟨1, []⟩, ⟨1, []⟩]
theorem aBI : aqu.f = some (1, 2, 0, exR, exI) := by kernel_rfl
theorem aAu : apm.f 40 1 2 0 exR exI 0 = some (0, exK, 0) := by kernel_rfl
theorem aAv : apm.f 40 1 2 0 exR exI 2 = some (0, [], 2) := by kernel_rfl
theorem aBJ : an2.f 40 1 2 0 exR exI = some exV := by kernel_rfl
theorem aAw : vz.f 40 exV exV = some true := by kernel_rfl
theorem aAx : Ae.f 40 0 exK 0 exK = some true := by kernel_rfl
theorem av6 {w : World} {b : Nat} {x y : Int} (h : w.heap[b]? = some (.cells #[.int .i64 x, .slice none 0 0, .int .i64 y, .slice none 0 0] 64 (0, 0))) : Kd.C OG w (some ⟨b, 0, none⟩) 2 [⟨x, []⟩, ⟨y, []⟩] := by
  have hnil : Kd.C OG w none 0 [] := ⟨rfl, by decide, fun h => absurd h (by decide)⟩
  refine ⟨rfl, by decide, fun _ => ⟨_, rfl, fun j p hj => ?_⟩⟩
  match j, hj with
  | 0, hj =>
    obtain rfl : (⟨x, []⟩ : S64) = p := by simpa using hj
    refine ⟨[.int .i64 x, .slice none 0 0], rfl, Z7 w ⟨x, []⟩ (Nat.le_refl _) hnil, fun i u hi => ?_⟩
    match i, hi with
    | 0, hi => obtain rfl : Value.int .i64 x = u := by simpa using hi
               show w.cell? ⟨b, 0, none⟩ = _
               rw [ae h 0]; rfl
    | 1, hi => obtain rfl : Value.slice none 0 0 = u := by simpa using hi
               show w.cell? ⟨b, 1, none⟩ = _
               rw [ae h 1]; rfl
    | i + 2, hi => simp at hi
  | 1, hj =>
    obtain rfl : (⟨y, []⟩ : S64) = p := by simpa using hj
    refine ⟨[.int .i64 y, .slice none 0 0], rfl, Z7 w ⟨y, []⟩ (Nat.le_refl _) hnil, fun i u hi => ?_⟩
    match i, hi with
    | 0, hi => obtain rfl : Value.int .i64 y = u := by simpa using hi
               show w.cell? ⟨b, 2, none⟩ = _
               rw [ae h 2]; rfl
    | 1, hi => obtain rfl : Value.slice none 0 0 = u := by simpa using hi
               show w.cell? ⟨b, 3, none⟩ = _
               rw [ae h 3]; rfl
    | i + 2, hi => simp at hi
  | j + 2, hj => simp at hj
theorem axo {w : World} {b : Nat} {x y z u : Int} (h : w.heap[b]? = some (.cells #[.int .i64 x, .int .i64 y, .int .i64 z, .int .i64 u] 34 (0, 0))) : Kd.C xA w (some ⟨b, 0, none⟩) 2 [⟨x, y⟩, ⟨z, u⟩] := by
  refine ⟨rfl, by decide, fun _ => ⟨_, rfl, fun j p hj => ?_⟩⟩
  match j, hj with
  | 0, hj =>
    obtain rfl : (⟨x, y⟩ : dK) = p := by simpa using hj
    refine ⟨[.int .i64 x, .int .i64 y], rfl, SQ w ⟨x, y⟩, fun i v hi => ?_⟩
    match i, hi with
    | 0, hi => obtain rfl : Value.int .i64 x = v := by simpa using hi
               show w.cell? ⟨b, 0, none⟩ = _
               rw [ae h 0]; rfl
    | 1, hi => obtain rfl : Value.int .i64 y = v := by simpa using hi
               show w.cell? ⟨b, 1, none⟩ = _
               rw [ae h 1]; rfl
    | i + 2, hi => simp at hi
  | 1, hj =>
    obtain rfl : (⟨z, u⟩ : dK) = p := by simpa using hj
    refine ⟨[.int .i64 z, .int .i64 u], rfl, SQ w ⟨z, u⟩, fun i v hi => ?_⟩
    match i, hi with
    | 0, hi => obtain rfl : Value.int .i64 z = v := by simpa using hi
               show w.cell? ⟨b, 2, none⟩ = _
               rw [ae h 2]; rfl
    | 1, hi => obtain rfl : Value.int .i64 u = v := by simpa using hi
               show w.cell? ⟨b, 3, none⟩ = _
               rw [ae h 3]; rfl
    | i + 2, hi => simp at hi
  | j + 2, hj => simp at hj
set_option maxRecDepth 100000 in
set_option maxHeartbeats 8000000 in
theorem avE (w : World) : Calls Try.prog 47 #[] w fun e w' => e = .returned (.bool true) ∧ Below w.heap.size w w' := by
 have avx := Try.underlying58;have hu64 := Try.underlying64;have QT := Try.underlying34;go_enter Try.func47, Try.ntmps47
 go_upto_region 2 with (first | (go_at_call 86; refine (aqu.calls 1 2 0 exR exI w aBI).mono ?_; rintro x w1 ⟨v3, v4, rfl, hR, hI, hB⟩; obtain ⟨A, c, rfl, hc, hC⟩ := Kd.oK hR; obtain ⟨AI, ci, rfl, hci, hCI⟩ := Kd.oK hI; have HC := aa.mk hC; have HCI := aa.mk hCI; have HB := aa.mk hB; clear hR hI hB hC hCI))
 have hA := eX w1 (.cells #[.int .i64 1, .int .i64 2, .int .i64 0, .slice A exR.length c] 58);have HB2 := aa.mk (aM HB.out hA.1);have Uc := aa.mk (Kd.bF HC.out hA.1);have HI2 := aa.mk (Kd.bF HCI.out hA.1);have Y1 := aa.mk hA.2;obtain ⟨g1, e1⟩ : ∃ g, g = w1.heap.size := ⟨_, rfl⟩;rw [← e1] at Y1 ⊢;clear e1 hA HB HC HCI;generalize (w1.alloc (.cells #[.int .i64 1, .int .i64 2, .int .i64 0, .slice A exR.length c] 58)) = w2 at *;have c0 : w2.cell? ⟨g1, 0, none⟩ = some (.int .i64 1) := (ae Y1.out 0).trans rfl;have c1 : w2.cell? ⟨g1, 1, none⟩ = some (.int .i64 2) := (ae Y1.out 1).trans rfl;have c2 : w2.cell? ⟨g1, 2, none⟩ = some (.int .i64 0) := (ae Y1.out 2).trans rfl;have c3 : w2.cell? ⟨g1, 3, none⟩ = some (.slice A exR.length c) := (ae Y1.out 3).trans rfl;go_upto_region 3 with (first | (go_at_call 51; refine (apm.calls 40 1 2 0 A c exR AI ci exI 0 0 exK 0 w2 Uc.out hc HI2.out hci aAu).mono ?_; rintro x w3 ⟨v3, rfl, hR, hB⟩; obtain ⟨Ap, cp, rfl, hcp, hCp⟩ := Kd.oK hR; have HCp := aa.mk hCp; have HB3 := aa.mk hB; clear hR hB hCp))
 have hA := eX w3 (.cells #[.int .i64 0, .slice Ap exK.length cp] 64);have hst := aM HB3.out hA.1;have Ju := aa.mk (aM HB2.out hst);have IK := aa.mk (Kd.bF Uc.out hst);have HI4 := aa.mk (Kd.bF HI2.out hst);have HP4 := aa.mk (Kd.bF HCp.out hA.1);have H14 := aa.mk (aC Y1.out hst);have H34 := aa.mk hA.2;obtain ⟨g3, e3⟩ : ∃ g, g = w3.heap.size := ⟨_, rfl⟩;rw [← e3] at H34 ⊢;clear e3 hA hst HB2 Uc HI2 HCp Y1 HB3 c0 c1 c2 c3;generalize (w3.alloc (.cells #[.int .i64 0, .slice Ap exK.length cp] 64)) = w4 at *;have c0 : w4.cell? ⟨g1, 0, none⟩ = some (.int .i64 1) := (ae H14.out 0).trans rfl;have c1 : w4.cell? ⟨g1, 1, none⟩ = some (.int .i64 2) := (ae H14.out 1).trans rfl;have c2 : w4.cell? ⟨g1, 2, none⟩ = some (.int .i64 0) := (ae H14.out 2).trans rfl;have c3 : w4.cell? ⟨g1, 3, none⟩ = some (.slice A exR.length c) := (ae H14.out 3).trans rfl;go_upto_region 4 with (first | (go_at_call 51; refine (apm.calls 40 1 2 0 A c exR AI ci exI 2 0 [] 2 w4 IK.out hc HI4.out hci aAv).mono ?_; rintro x w5 ⟨v3, rfl, hR, hB⟩; obtain ⟨Aq, cq, rfl, hcq, hCq⟩ := Kd.oK hR; have vY := aa.mk hB; clear hR hB hCq))
 have hA := eX w5 (.cells #[.int .i64 0, .slice Aq ([] : List S64).length cq] 64);have hst := aM vY.out hA.1;have Gp := aa.mk (aM Ju.out hst);have VT := aa.mk (Kd.bF IK.out hst);have HI6 := aa.mk (Kd.bF HI4.out hst);have HP6 := aa.mk (Kd.bF HP4.out hst);have H16 := aa.mk (aC H14.out hst);have H36 := aa.mk (aC H34.out hst);clear hA hst Ju IK HI4 HP4 H14 H34 vY c0 c1 c2 c3;simp only [List.length_nil] at *;generalize (w5.alloc (.cells #[.int .i64 0, .slice Aq 0 cq] 64)) = w6 at *;have Gy : aa (∀ w', Below w6.heap.size w6 w' → w'.cell? ⟨g1, 0, none⟩ = some (.int .i64 1) ∧ w'.cell? ⟨g1, 1, none⟩ = some (.int .i64 2) ∧ w'.cell? ⟨g1, 2, none⟩ = some (.int .i64 0) ∧ w'.cell? ⟨g1, 3, none⟩ = some (.slice A exR.length c) ∧ w'.cell? ⟨g3, 0, none⟩ = some (.int .i64 0) ∧ w'.cell? ⟨g3, 1, none⟩ = some (.slice Ap exK.length cp)) := ⟨fun w' h => ⟨(ae (aC H16.out h) 0).trans rfl, (ae (aC H16.out h) 1).trans rfl, (ae (aC H16.out h) 2).trans rfl, (ae (aC H16.out h) 3).trans rfl, (ae (aC H36.out h) 0).trans rfl, (ae (aC H36.out h) 1).trans rfl⟩⟩;obtain ⟨c0, c1, c2, c3, c4, c5⟩ := Gy.out w6 (Below.refl _ _);go_wp2_with (first | (go_at_call 49; refine (an2.calls 40 1 2 0 A c exR AI ci exI exV w6 VT.out hc HI6.out hci aBJ).mono ?_; rintro x w7 ⟨v7, rfl, hR, hB⟩; obtain ⟨Av, cv, rfl, hcv, hCv⟩ := Kd.oK hR; have UW := aa.mk hCv; have Co := aa.mk hB; clear hR hB hCv c0 c1 c2 c3 c4 c5; obtain ⟨c0, c1, c2, c3, c4, c5⟩ := Gy.out w7 Co.out) | (go_at_call 48; have hA := eX w7 (.cells #[.int .i64 10, .int .i64 3, .int .i64 4, .int .i64 1] 34); refine (vz.calls 40 Av cv exV (some ⟨w7.heap.size, 0, none⟩) 2 exV true (w7.alloc (.cells #[.int .i64 10, .int .i64 3, .int .i64 4, .int .i64 1] 34)) (Kd.bF UW.out hA.1) hcv (axo hA.2) (Nat.le_refl _) aAw).mono ?_; rintro x w8 ⟨rfl, hD⟩; have hB := hD.below; have hb := aM Co.out (aM hA.1 hB); have HB8 := aa.mk hb; clear hA hB hD hb c0 c1 c2 c3 c4 c5; obtain ⟨c0, c1, c2, c3, c4, c5⟩ := Gy.out w8 HB8.out) | (go_at_call 53; have hA := eX w8 (.cells #[.int .i64 1, .slice none 0 0, .int .i64 1, .slice none 0 0] 64); refine (Ae.calls 40 0 Ap cp exK 0 (some ⟨w8.heap.size, 0, none⟩) 2 exK true (w8.alloc (.cells #[.int .i64 1, .slice none 0 0, .int .i64 1, .slice none 0 0] 64)) (Kd.bF (Kd.bF HP6.out HB8.out) hA.1) hcp (av6 hA.2) (Nat.le_refl _) aAx).mono ?_; rintro x w9 ⟨rfl, hB⟩; have hb := aM HB8.out (aM hA.1 hB); have HB9 := aa.mk hb; clear hA hB hb c0 c1 c2 c3 c4 c5))
 go_ret;exact ⟨rfl, aM Gp.out HB9.out⟩
def apq.f : Option Bool := some true
theorem apq.calls (r : Bool) (w : World) (h : apq.f = some r) : Calls Try.prog 47 #[] w fun e w' => e = .returned (.bool r) ∧ Below w.heap.size w w' := by
 injection h with h
 subst h;exact avE w
end Go.Proofs.Ytamimodkcbbpmaa.Pr
end
section
namespace Go.Proofs.Ytamimodkcbbpmaa.Pr
open Go.RowKit Go.Proofs.YtamimodkcbbpmaaW.PrintWords Go.Proofs.YtamimodkcbbpmaaW.PrintLast
set_option linter.unusedVariables false
set_option linter.unusedSimpArgs false
theorem aAz (T N S : Int) (rs : List KH) (ins : List Int) : ∃ b, aqb.f T N S rs ins = some b ∧ (b = true → rs.length ≤ 60 ∧ N ≤ 60 ∧ ins.length ≤ 30) := by
 unfold aqb.f;by_cases h1 : (rs.length : Int) ≤ 60
 ·by_cases h2 : N ≤ 60
  ·exact ⟨_, by rw [if_pos h1, if_pos h2], fun h => ⟨by omega, h2, by have := of_decide_eq_true h; omega⟩⟩
  ·exact ⟨false, by rw [if_pos h1, if_neg h2], fun h => (by cases h)⟩
 ·exact ⟨false, by rw [if_neg h1], fun h => (by cases h)⟩
end Go.Proofs.Ytamimodkcbbpmaa.Pr
end
section
namespace Go.Proofs.Ytamimodkcbbpmaa.Pr
open Go.RowKit Go.Proofs.YtamimodkcbbpmaaW.PrintWords Go.Proofs.YtamimodkcbbpmaaW.PrintLast
theorem aLR (a b c d : Int) (w : World) : (if a = b then (if c = d then Result.ok (Next.value (Value.bool true)) w else Result.ok (Next.value (Value.bool false)) w) else Result.ok (Next.value (Value.bool false)) w) = Result.ok (Next.value (Value.bool (a == b && (c == d)))) w := by
 by_cases h1 : a = b
 ·by_cases h2 : c = d
  ·rw [if_pos h1, if_pos h2, h1, h2]; simp
  ·rw [if_pos h1, if_neg h2, beq_eq_false_iff_ne.2 h2, Bool.and_false]
 ·rw [if_neg h1, beq_eq_false_iff_ne.2 h1, Bool.false_and]
end Go.Proofs.Ytamimodkcbbpmaa.Pr
end
section
namespace Go.Proofs.Ytamimodkcbbpmaa.Pr
open Go.RowKit Go.Proofs.YtamimodkcbbpmaaW.PrintWords Go.Proofs.YtamimodkcbbpmaaW.PrintLast Go.Proofs.YtamimodkcbbpmaaW.PrintMore Go.Proofs.YtamimodkcbbpmaaXW
attribute [local go_sem] aFh ky lX lY jf jg kz kC
set_option linter.unusedVariables false
set_option linter.unusedSimpArgs false
mutual
def j5.j0 : Nat → List Int → Bool → Int → Int → Int → List (KH) → Option (Bool)
 | 0, _, _, _, _, _, _ => none
 | k + 1, x1, x15, aOi, aOj, aOk, aOl => if x15 = true then (some false) else (j5.j1 k x1 aOi aOj aOk aOl)
def j5.j1 : Nat → List Int → Int → Int → Int → List (KH) → Option (Bool)
 | 0, _, _, _, _, _ => none
 | k + 1, x1, aOi, aOj, aOk, aOl => (H5.f k aOi aOj aOk aOl x1).bind fun aMv => (j5.l0 k aMv 0)
def j5.l0 : Nat → List (dK) → Int → Option (Bool)
 | 0, _, _ => none
 | k + 1, x5, x6 => if x6 < (x5.length : Int) then (if 0 ≤ x6 then (if ((bJ x5 x6).f1) > 1000 then (some false) else (j5.l0 k x5 (wrap64 (x6 + 1)))) else (none)) else (some true)
end
def j5.f (k : Nat) (aR : Int) (iR : Int) (vX : Int) (bf : List (KH)) (l1 : List Int) : Option (Bool) := (rX.f k aR iR vX bf).bind fun aNO => (if aNO = true then ((aqe.f k aR iR vX bf l1).bind fun aKD => (j5.j0 k l1 (!aKD) aR iR vX bf)) else (j5.j0 k l1 true aR iR vX bf))
theorem j5.apw : ∀ k, (∀ y0 y1 y2 y3 y4 y5, dz (j5.j0 k y0 y1 y2 y3 y4 y5) (j5.j0 (k + 1) y0 y1 y2 y3 y4 y5)) ∧ (∀ y0 y1 y2 y3 y4, dz (j5.j1 k y0 y1 y2 y3 y4) (j5.j1 (k + 1) y0 y1 y2 y3 y4)) ∧ (∀ y0 y1, dz (j5.l0 k y0 y1) (j5.l0 (k + 1) y0 y1))
 | 0 => ⟨fun _ _ _ _ _ _ r h => by simp [j5.j0] at h, fun _ _ _ _ _ r h => by simp [j5.j1] at h, fun _ _ r h => by simp [j5.l0] at h⟩
 | k + 1 => by
  obtain ⟨jP, ih1, ih2⟩ := j5.apw k;refine ⟨?_, ?_, ?_⟩;all_goals intros
  all_goals first | unfold j5.j0 | unfold j5.j1 | unfold j5.l0
  all_goals
   repeat' first
   | (with_reducible exact jP _ _ _ _ _ _)
   | (with_reducible exact ih1 _ _ _ _ _)
   | (with_reducible exact ih2 _ _)
   | (with_reducible exact rX.mono _ _ _ _ _)
   | (with_reducible exact aqe.mono _ _ _ _ _ _)
   | (with_reducible exact H5.mono _ _ _ _ _ _)
   | (with_reducible exact dz.refl _)
   | (with_reducible exact dz.none _)
   | (with_reducible refine dz.ite ?_ ?_)
   | (with_reducible refine dz.bind ?_ (fun _ => ?_))
   | exact jP _ _ _ _ _ _
   | exact ih1 _ _ _ _ _
   | exact ih2 _ _
   | exact rX.mono _ _ _ _ _
   | exact aqe.mono _ _ _ _ _ _
   | exact H5.mono _ _ _ _ _ _
   | exact dz.none _
   | refine dz.ite ?_ ?_
   | refine dz.bind ?_ (fun _ => ?_)
theorem j5.mono : ∀ a0 a1 a2 a3 a4 k, dz (j5.f k a0 a1 a2 a3 a4) (j5.f (k + 1) a0 a1 a2 a3 a4) := by
 intro a0 a1 a2 a3 a4 k;obtain ⟨jP, ih1, ih2⟩ := j5.apw k;unfold j5.f;repeat' first
   | (with_reducible exact jP _ _ _ _ _ _)
   | (with_reducible exact ih1 _ _ _ _ _)
   | (with_reducible exact ih2 _ _)
   | (with_reducible exact rX.mono _ _ _ _ _)
   | (with_reducible exact aqe.mono _ _ _ _ _ _)
   | (with_reducible exact H5.mono _ _ _ _ _ _)
   | (with_reducible exact dz.refl _)
   | (with_reducible exact dz.none _)
   | (with_reducible refine dz.ite ?_ ?_)
   | (with_reducible refine dz.bind ?_ (fun _ => ?_))
   | exact jP _ _ _ _ _ _
   | exact ih1 _ _ _ _ _
   | exact ih2 _ _
   | exact rX.mono _ _ _ _ _
   | exact aqe.mono _ _ _ _ _ _
   | exact H5.mono _ _ _ _ _ _
   | exact dz.none _
   | refine dz.ite ?_ ?_
   | refine dz.bind ?_ (fun _ => ?_)
set_option maxHeartbeats 8000000 in
set_option maxRecDepth 100000 in
theorem j5.calls (k : Nat) (aR : Int) (iR : Int) (vX : Int) (aps : Option Addr) (ao4 : Nat) (bf : List (KH)) (A1 : Option Addr) (c1 : Nat) (l1 : List Int) (r : Bool) (w : World) (aqy : Kd.C Md w aps bf.length bf) (aqz : bf.length ≤ ao4) (hr1 : Kd.C (Kd.int .i64) w A1 l1.length l1) (hc1 : l1.length ≤ c1) (h : j5.f k aR iR vX bf l1 = some r) :
  Calls Try.prog 54 #[.agg #[.int .i64 aR, .int .i64 iR, .int .i64 vX, .slice aps bf.length ao4], .slice A1 l1.length c1] w fun e w' => e = .returned (.bool r) ∧ Below w.heap.size w w' := by
 have avx := Try.underlying58;have aqx := aa.mk aqy;have aqH := aa.mk aqz;clear aqy aqz;have HR1 := aa.mk hr1;have EY := aa.mk hc1;clear hr1 hc1;have HB := aa.mk (Below.refl w.heap.size w);have H : ((rX.f k aR iR vX bf).bind fun aNO => (if aNO = true then ((aqe.f k aR iR vX bf l1).bind fun aKD => (j5.j0 k l1 (!aKD) aR iR vX bf)) else (j5.j0 k l1 true aR iR vX bf))) = some r := h;clear h;have Uo := aa.mk H;clear H;go_enter Try.func54, Try.ntmps54
 go_upto_region 1 with (first | ((with_reducible refine bM (N := 2) rfl ?_); refine bG ?hg (N := 2) ?hd (cs := #[.int .i64 aR, .int .i64 iR, .int .i64 vX, .slice aps bf.length ao4]) (t := 58) ?hr ?_; (case hd => rfl); (case hg => rfl); (case hr => first | (go_simp; done) | (go_simp; rfl)); intro aKF hg w4 bR hb; have bP := aa.mk (aM (bO HB) hb); have bQ := aa.mk (bR); have bT := aa.mk ((by rw [hg]; exact (aK (bO HB)) : w.heap.size ≤ aKF)); have di := aa.mk ((by rw [hg]; exact (aK (bO HB)) : w.heap.size ≤ aKF)); clear HB; have HB := bP; have aB6 := bQ; have aWr := bT; have aWs := di; clear bP bQ bT di; clear hb bR hg))
 (try simp only [Act.put, List.setIfInBounds_toArray, List.set_cons_zero, List.set_cons_succ]);go_cut [15] (fun v15 wc => ∃ (kq : Nat) (ayi : Bool), v15 = .bool ayi ∧ aa (j5.j0 kq l1 ayi aR iR vX bf = some r) ∧ aa (kq ≤ k) ∧ aa (wc.heap[aKF]? = some (.cells #[.int .i64 aR, .int .i64 iR, .int .i64 vX, (.slice aps bf.length ao4)] 58 (0, 0))) ∧ aa (Below w.heap.size w wc))
 case first =>
  have H := Uo.out;clear Uo;replace H := Option.bind_eq_some_iff.mp H;obtain ⟨aNO, A50, H⟩ := H;replace H : (if aNO = true then ((aqe.f k aR iR vX bf l1).bind fun aKD => (j5.j0 k l1 (!aKD) aR iR vX bf)) else (j5.j0 k l1 true aR iR vX bf)) = some r := H;have A5 := aa.mk A50;clear A50;by_cases c6 : aNO = true
  ·subst c6;have H1 : ((aqe.f k aR iR vX bf l1).bind fun aKD => (j5.j0 k l1 (!aKD) aR iR vX bf)) = some r := by rw [if_pos rfl] at H; exact H
   clear H;have H := H1;clear H1;replace H := Option.bind_eq_some_iff.mp H;obtain ⟨aKD, A70, H⟩ := H;replace H : (j5.j0 k l1 (!aKD) aR iR vX bf) = some r := H;have A7 := aa.mk A70;clear A70;have H' := aa.mk H;clear H;have nG : w4.cell? ⟨aKF, 0, none⟩ = some (.int .i64 aR) := (ae aB6.out 0).trans rfl;have nH : w4.cell? ⟨aKF, 1, none⟩ = some (.int .i64 iR) := (ae aB6.out 1).trans rfl;have axe : w4.cell? ⟨aKF, 2, none⟩ = some (.int .i64 vX) := (ae aB6.out 2).trans rfl;have axf : w4.cell? ⟨aKF, 3, none⟩ = some (.slice aps bf.length ao4) := (ae aB6.out 3).trans rfl;have nI := ai aB6.out 0;have nJ := ai aB6.out 1;have axg := ai aB6.out 2;have axh := ai aB6.out 3;go_wp2_with (first | ((with_reducible refine dE (f := 57) rfl ?_); refine iB (some 8) rfl rfl Try.func57 (by kernel_rfl) rfl #[.agg #[.int .i64 aR, .int .i64 iR, .int .i64 vX, .slice aps bf.length ao4]] rfl (by (try simp only [List.map_toArray, List.map_cons, List.map_nil]); first | done | rfl | (simp only [List.length_drop, List.length_take]; rfl)) ?_; (with_reducible refine (rX.calls k aR iR vX _ _ bf true _ ?side1 ?side2 A5.out).mono ?_); (case side1 => repeat (first | exact (Kd.bF aqx.out HB.out) | (with_reducible refine Kd.dF ?_ _) | (with_reducible refine Kd.dG ?_ _) | (with_reducible refine Kd.eG ?_))); (case side2 => exact aqH.out); rintro e w9 ⟨rfl, hb⟩; refine ⟨_, rfl, ?_⟩; have bP := aa.mk (aC (bk aB6) hb); have bQ := aa.mk (aM (bO HB) hb); clear aB6; clear HB; have aB6 := bP; have HB := bQ; clear bP bQ; (try clear hb); (try clear hb2); (try clear hk); (try clear hi); have qB : w9.cell? ⟨aKF, 0, none⟩ = some (.int .i64 aR) := (ae aB6.out 0).trans rfl; have qC : w9.cell? ⟨aKF, 1, none⟩ = some (.int .i64 iR) := (ae aB6.out 1).trans rfl; have atD : w9.cell? ⟨aKF, 2, none⟩ = some (.int .i64 vX) := (ae aB6.out 2).trans rfl; have atE : w9.cell? ⟨aKF, 3, none⟩ = some (.slice aps bf.length ao4) := (ae aB6.out 3).trans rfl; have qD := ai aB6.out 0; have qE := ai aB6.out 1; have atF := ai aB6.out 2; have atG := ai aB6.out 3) | (go_at_call 58; (with_reducible refine (aqe.calls k aR iR vX _ _ bf _ _ l1 aKD _ ?side1 ?side2 ?side3 ?side4 A7.out).mono ?_); (case side1 => repeat (first | exact (Kd.bF aqx.out HB.out) | (with_reducible refine Kd.dF ?_ _) | (with_reducible refine Kd.dG ?_ _) | (with_reducible refine Kd.eG ?_))); (case side2 => exact aqH.out); (case side3 => repeat (first | exact (Kd.bF HR1.out HB.out) | (with_reducible refine Kd.dF ?_ _) | (with_reducible refine Kd.dG ?_ _) | (with_reducible refine Kd.eG ?_))); (case side4 => exact EY.out); rintro e Me ⟨rfl, hb⟩; have bP := aa.mk (aC (bk aB6) hb); have bQ := aa.mk (aM (bO HB) hb); clear aB6; clear HB; have aB6 := bP; have HB := bQ; clear bP bQ; (try clear hb); (try clear hb2); (try clear hk); (try clear hi)))
   go_meet
   case rel => exact ⟨_, (!aKD), (by first | rfl | (simp; done) | (simp [*]; done)), H', ⟨by first | omega | exact Nat.le_refl _⟩, ⟨by (with_reducible repeat (first | refine ax ?_ _ | refine az ?_ | refine au ?_ _)); exact aB6.out⟩, ⟨bO HB⟩⟩
  ·replace c6 := Bool.eq_false_iff.mpr c6;subst c6;have H1 : (j5.j0 k l1 true aR iR vX bf) = some r := by rw [if_neg (show ¬ (false = true) by decide)] at H; exact H
   clear H;have H := H1;clear H1;have H' := aa.mk H;clear H;have jK : w4.cell? ⟨aKF, 0, none⟩ = some (.int .i64 aR) := (ae aB6.out 0).trans rfl;have jL : w4.cell? ⟨aKF, 1, none⟩ = some (.int .i64 iR) := (ae aB6.out 1).trans rfl;have aAj : w4.cell? ⟨aKF, 2, none⟩ = some (.int .i64 vX) := (ae aB6.out 2).trans rfl;have aAk : w4.cell? ⟨aKF, 3, none⟩ = some (.slice aps bf.length ao4) := (ae aB6.out 3).trans rfl;have jM := ai aB6.out 0;have jN := ai aB6.out 1;have aAl := ai aB6.out 2;have aAm := ai aB6.out 3;go_wp2_with (first | ((with_reducible refine dE (f := 57) rfl ?_); refine iB (some 8) rfl rfl Try.func57 (by kernel_rfl) rfl #[.agg #[.int .i64 aR, .int .i64 iR, .int .i64 vX, .slice aps bf.length ao4]] rfl (by (try simp only [List.map_toArray, List.map_cons, List.map_nil]); first | done | rfl | (simp only [List.length_drop, List.length_take]; rfl)) ?_; (with_reducible refine (rX.calls k aR iR vX _ _ bf false _ ?side1 ?side2 A5.out).mono ?_); (case side1 => repeat (first | exact (Kd.bF aqx.out HB.out) | (with_reducible refine Kd.dF ?_ _) | (with_reducible refine Kd.dG ?_ _) | (with_reducible refine Kd.eG ?_))); (case side2 => exact aqH.out); rintro e w13 ⟨rfl, hb⟩; refine ⟨_, rfl, ?_⟩; have bP := aa.mk (aC (bk aB6) hb); have bQ := aa.mk (aM (bO HB) hb); clear aB6; clear HB; have aB6 := bP; have HB := bQ; clear bP bQ; (try clear hb); (try clear hb2); (try clear hk); (try clear hi)))
   go_meet
   case rel => exact ⟨_, (true), (by first | rfl | (simp; done) | (simp [*]; done)), H', ⟨by first | omega | exact Nat.le_refl _⟩, ⟨by (with_reducible repeat (first | refine ax ?_ _ | refine az ?_ | refine au ?_ _)); exact aB6.out⟩, ⟨bO HB⟩⟩
 case rest =>
  clear Uo;(try clear c1); (try clear p2); (try clear c5); (try clear c6); (try clear qB); (try clear qC); (try clear atD); (try clear atE); (try clear jK); (try clear jL); (try clear aAj); (try clear aAk); (try clear nG); (try clear nH); (try clear axe); (try clear axf); (try clear qD); (try clear qE); (try clear atF); (try clear atG); (try clear jM); (try clear jN); (try clear aAl); (try clear aAm); (try clear nI); (try clear nJ); (try clear axg); (try clear axh);obtain ⟨kq, ayi, rfl, HA, HJ2, aB6, HB⟩ := hcut
  cases kq with
  | zero => exact absurd HA.out (by simp [j5.j0])
  | succ kj2 =>
   have H := HA.out;clear HA;simp only [j5.j0] at H;have aaS := aa.mk H;clear H;go_upto_if 15 with (fail)
   go_cut [] (fun wc => ∃ (kq : Nat), aa (j5.j1 kq l1 aR iR vX bf = some r) ∧ aa (kq ≤ kj2) ∧ aa (wc.heap[aKF]? = some (.cells #[.int .i64 aR, .int .i64 iR, .int .i64 vX, (.slice aps bf.length ao4)] 58 (0, 0))) ∧ aa (Below w.heap.size w wc))
   case first =>
    have H := aaS.out;clear aaS;by_cases c15 : ayi = true
    ·subst c15;have H1 : (some false) = some r := by rw [if_pos rfl] at H; exact H
     clear H;have H := H1;clear H1;obtain rfl := Option.some.inj H;go_wp2;go_ret;exact ⟨by first | rfl | (simp [aW, aX] <;> rfl) | (simp [*, aW, aX] <;> rfl), bO HB⟩
    ·replace c15 := Bool.eq_false_iff.mpr c15;subst c15;have H1 : (j5.j1 kj2 l1 aR iR vX bf) = some r := by rw [if_neg (show ¬ (false = true) by decide)] at H; exact H
     clear H;have H := H1;clear H1;have H' := aa.mk H;clear H;go_wp2;go_meet
     case rel => exact ⟨_, H', ⟨by have := HJ2.out; first | omega | exact Nat.le_refl _⟩, ⟨by (with_reducible repeat (first | refine ax ?_ _ | refine az ?_ | refine au ?_ _)); exact aB6.out⟩, ⟨bO HB⟩⟩
   case rest =>
    clear aaS;(try clear c1); (try clear p2); (try clear c5); (try clear c6); (try clear c15); (try clear qB); (try clear qC); (try clear atD); (try clear atE); (try clear jK); (try clear jL); (try clear aAj); (try clear aAk); (try clear nG); (try clear nH); (try clear axe); (try clear axf); (try clear qD); (try clear qE); (try clear atF); (try clear atG); (try clear jM); (try clear jN); (try clear aAl); (try clear aAm); (try clear nI); (try clear nJ); (try clear axg); (try clear axh); (try clear p2);obtain ⟨kq, HA, Uf, aB6, HB⟩ := hcut
    cases kq with
    | zero => exact absurd HA.out (by simp [j5.j1])
    | succ kj13 =>
     have H := HA.out;clear HA;simp only [j5.j1] at H;replace H := Option.bind_eq_some_iff.mp H;obtain ⟨aMv, aFl, H⟩ := H;replace H : (j5.l0 kj13 aMv 0) = some r := H;have A16 := aa.mk aFl;clear aFl;have H' := aa.mk H;clear H;have Qj : wc.cell? ⟨aKF, 0, none⟩ = some (.int .i64 aR) := (ae aB6.out 0).trans rfl;have Qk : wc.cell? ⟨aKF, 1, none⟩ = some (.int .i64 iR) := (ae aB6.out 1).trans rfl;have azI : wc.cell? ⟨aKF, 2, none⟩ = some (.int .i64 vX) := (ae aB6.out 2).trans rfl;have azJ : wc.cell? ⟨aKF, 3, none⟩ = some (.slice aps bf.length ao4) := (ae aB6.out 3).trans rfl;have Ql := ai aB6.out 0;have Qm := ai aB6.out 1;have azK := ai aB6.out 2;have azL := ai aB6.out 3;go_wp2_with (first | ((with_reducible refine dE (f := 50) rfl ?_); refine iB (some 18) rfl rfl Try.func50 (by kernel_rfl) rfl #[.agg #[.int .i64 aR, .int .i64 iR, .int .i64 vX, .slice aps bf.length ao4], .slice A1 l1.length c1] rfl (by (try simp only [List.map_toArray, List.map_cons, List.map_nil]); first | done | rfl | (simp only [List.length_drop, List.length_take]; rfl)) ?_; (with_reducible refine (H5.calls kj13 aR iR vX _ _ bf _ _ l1 aMv _ ?side1 ?side2 ?side3 ?side4 A16.out).mono ?_); (case side1 => repeat (first | exact (Kd.bF aqx.out HB.out) | (with_reducible refine Kd.dF ?_ _) | (with_reducible refine Kd.dG ?_ _) | (with_reducible refine Kd.eG ?_))); (case side2 => exact aqH.out); (case side3 => repeat (first | exact (Kd.bF HR1.out HB.out) | (with_reducible refine Kd.dF ?_ _) | (with_reducible refine Kd.dG ?_ _) | (with_reducible refine Kd.eG ?_))); (case side4 => exact EY.out); rintro e w18 ⟨aUl, rfl, ho0, hb⟩; refine ⟨_, rfl, ?_⟩; have bP := aa.mk (Kd.iL ho0 (aK (bO HB))); have bQ := aa.mk (aC (bk aB6) hb); have bT := aa.mk (aM (bO HB) hb); clear aB6; clear HB; have aSV := bP; have aB6 := bQ; have HB := bT; clear bP bQ bT; (try clear hb); (try clear hb2); (try clear hk); (try clear hi); (try clear ho0)))
     go_loopg [6] kj13 (fun kq v6 w' => ∃ (aMj : Int), v6 = .int .i64 aMj ∧ aa (j5.l0 kq aMv aMj = some r) ∧ aa (kq ≤ kj13) ∧ aa (Kd.R xA 34 w' w.heap.size (fun _ => True) aUl aMv) ∧ aa (w'.heap[aKF]? = some (.cells #[.int .i64 aR, .int .i64 iR, .int .i64 vX, (.slice aps bf.length ao4)] 58 (0, 0))) ∧ aa (Below w.heap.size w w'))
     case atStart => exact ⟨(0), (by first | rfl | (simp; done) | (simp [*]; done)), H', ⟨Nat.le_refl _⟩, ⟨by (with_reducible repeat (first | apply Kd.ay5 | apply Kd.eu | apply Kd.aaH)); exact aSV.out⟩, ⟨by (with_reducible repeat (first | refine ax ?_ _ | refine az ?_ | refine au ?_ _)); exact aB6.out⟩, ⟨bO HB⟩⟩
     case round =>
      clear H';(try clear c1); (try clear p2); (try clear c5); (try clear c6); (try clear c15); (try clear qB); (try clear qC); (try clear atD); (try clear atE); (try clear jK); (try clear jL); (try clear aAj); (try clear aAk); (try clear Qj); (try clear Qk); (try clear azI); (try clear azJ); (try clear nG); (try clear nH); (try clear axe); (try clear axf); (try clear qD); (try clear qE); (try clear atF); (try clear atG); (try clear jM); (try clear jN); (try clear aAl); (try clear aAm); (try clear Ql); (try clear Qm); (try clear azK); (try clear azL); (try clear nI); (try clear nJ); (try clear axg); (try clear axh); (try clear p2);obtain ⟨aMj, rfl, HA, xO, sw, aB6, HB⟩ := hrel
      cases gk with
      | zero => exact absurd HA.out (by simp [j5.l0])
      | succ k3 =>
       have H := HA.out;clear HA;simp only [j5.l0] at H;by_cases c19 : aMj < (aMv.length : Int)
       ·rw [if_pos c19] at H;have yh : decide (aMj < (aMv.length : Int)) = true := decide_eq_true c19;clear c19;by_cases c20 : 0 ≤ aMj
        ·rw [if_pos c20] at H;have alk : decide (0 ≤ aMj) = true := decide_eq_true c20;clear c20;by_cases c21 : ((bJ aMv aMj).f1) > 1000
         ·rw [if_pos c21] at H;have alm : decide (1000 < ((bJ aMv aMj).f1)) = true := decide_eq_true c21;clear c21;obtain rfl := Option.some.inj H;obtain ⟨aUE, aUF, aQE⟩ := Kd.fQ sw.out;subst aQE;have aPd : 0 ≤ (aMj : Int) := of_decide_eq_true (by first | (with_reducible assumption) | assumption);have aPe : aMj < (aMv.length : Int) := of_decide_eq_true (by first | (with_reducible assumption) | assumption);obtain ⟨aSW, aRH, aP3, aP6⟩ := p9 (Kd.dD sw.out).2.2 aMj aPd aPe
          cases aRH;replace aPd := eq_true aPd;replace aPe := eq_true aPe;go_wp2;go_ret;exact ⟨by first | rfl | (simp [aW, aX] <;> rfl) | (simp [*, aW, aX] <;> rfl), bO HB⟩
         ·rw [if_neg c21] at H;have alm : decide (1000 < ((bJ aMv aMj).f1)) = false := decide_eq_false c21;clear c21;have H' := aa.mk H;clear H;obtain ⟨ajE, ajF, ae6⟩ := Kd.fQ sw.out;subst ae6;have aPd : 0 ≤ (aMj : Int) := of_decide_eq_true (by first | (with_reducible assumption) | assumption);have aPe : aMj < (aMv.length : Int) := of_decide_eq_true (by first | (with_reducible assumption) | assumption);obtain ⟨aSW, aRH, aP3, aP6⟩ := p9 (Kd.dD sw.out).2.2 aMj aPd aPe
          cases aRH;replace aPd := eq_true aPd;replace aPe := eq_true aPe;go_wp2;go_roundg k3
          case measure => have := HJ2.out; have := Uf.out; have := xO.out; omega
          case rel => exact ⟨(wrap64 (aMj + 1)), (by first | rfl | (simp; done) | (simp [*]; done)), H', ⟨by have := HJ2.out; have := Uf.out; have := xO.out; omega⟩, ⟨by (with_reducible repeat (first | apply Kd.ay5 | apply Kd.eu | apply Kd.aaH)); exact sw.out⟩, ⟨by (with_reducible repeat (first | refine ax ?_ _ | refine az ?_ | refine au ?_ _)); exact aB6.out⟩, ⟨bO HB⟩⟩
        ·rw [if_neg c20] at H;exact absurd H (by simp)
       ·rw [if_neg c19] at H;have yh : decide (aMj < (aMv.length : Int)) = false := decide_eq_false c19;clear c19;obtain rfl := Option.some.inj H;obtain ⟨Xi, Xj, Uw⟩ := Kd.fQ sw.out;subst Uw;go_wp2;go_ret;exact ⟨by first | rfl | (simp [aW, aX] <;> rfl) | (simp [*, aW, aX] <;> rfl), bO HB⟩
mutual
def j4.j0 : Nat → List Int → Int → Bool → Int → Int → Int → List (KH) → Option (Bool)
 | 0, _, _, _, _, _, _, _ => none
 | k + 1, x1, x2, x20, aMb, aKG, aMc, aMf => if x20 = true then ((apq.f).bind fun aPs => (some aPs)) else (j4.j1 k x1 x2 aMb aKG aMc aMf)
def j4.j1 : Nat → List Int → Int → Int → Int → Int → List (KH) → Option (Bool)
 | 0, _, _, _, _, _, _ => none
 | k + 1, x1, x2, aMb, aKG, aMc, aMf => if aKG = 0 then (none) else ((an2.f k aMb aKG aMc aMf x1).bind fun aFn => ((apm.f k aMb aKG aMc aMf x1 (Int.tmod (wrap64 (x2)) aKG)).bind fun aLV => (if (aFn.length : Int) = aKG then (j4.j2 k x1 (Int.tmod (wrap64 (x2)) aKG) aFn aLV.2.2 aMb aKG aMc aMf aLV.1 aLV.2.1) else (some false))))
def j4.j2 : Nat → List Int → Int → List (dK) → Int → Int → Int → Int → List (KH) → Int → List (S64) → Option (Bool)
 | 0, _, _, _, _, _, _, _, _, _, _ => none
 | k + 1, x1, x7, x8, x10, aMb, aKG, aMc, aMf, aPj, aPk => if x10 = 0 then ((apq.f).bind fun aP9 => (if aP9 = true then ((j3.f k aMb aKG aMc aMf x7 aPj aPk).bind fun aN1 => (if aN1 = true then ((aBT.f aMb aKG aMc aMf x1 aPj aPk).bind fun aKS => (if 0 ≤ x7 then (if x7 < (x8.length : Int) then (some (aKS.1 == ((bJ x8 x7).f0) && (aKS.2 == ((bJ x8 x7).f1)))) else (none)) else (none))) else (some false))) else (some false))) else ((apq.f).bind fun aQa => (if aQa = true then (if x10 = 6 then (if 0 ≤ x7 then (if x7 < (x8.length : Int) then (some (((bJ x8 x7).f0) == 1099511627776)) else (none)) else (none)) else (some false)) else (some false)))
end
def j4.f (k : Nat) (aR : Int) (iR : Int) (vX : Int) (bf : List (KH)) (l1 : List Int) (a2 : Int) : Option (Bool) := (aqb.f aR iR vX bf l1).bind fun aPt => (if aPt = true then ((j5.f k aR iR vX bf l1).bind fun aMO => (j4.j0 k l1 a2 (!aMO) aR iR vX bf)) else (j4.j0 k l1 a2 true aR iR vX bf))
theorem j4.apw : ∀ k, (∀ y0 y1 y2 y3 y4 y5 y6, dz (j4.j0 k y0 y1 y2 y3 y4 y5 y6) (j4.j0 (k + 1) y0 y1 y2 y3 y4 y5 y6)) ∧ (∀ y0 y1 y2 y3 y4 y5, dz (j4.j1 k y0 y1 y2 y3 y4 y5) (j4.j1 (k + 1) y0 y1 y2 y3 y4 y5)) ∧ (∀ y0 y1 y2 y3 y4 y5 y6 y7 y8 y9, dz (j4.j2 k y0 y1 y2 y3 y4 y5 y6 y7 y8 y9) (j4.j2 (k + 1) y0 y1 y2 y3 y4 y5 y6 y7 y8 y9))
 | 0 => ⟨fun _ _ _ _ _ _ _ r h => by simp [j4.j0] at h, fun _ _ _ _ _ _ r h => by simp [j4.j1] at h, fun _ _ _ _ _ _ _ _ _ _ r h => by simp [j4.j2] at h⟩
 | k + 1 => by
  obtain ⟨jP, ih1, ih2⟩ := j4.apw k;refine ⟨?_, ?_, ?_⟩;all_goals intros
  all_goals first | unfold j4.j0 | unfold j4.j1 | unfold j4.j2
  all_goals
   repeat' first
   | (with_reducible exact jP _ _ _ _ _ _ _)
   | (with_reducible exact ih1 _ _ _ _ _ _)
   | (with_reducible exact ih2 _ _ _ _ _ _ _ _ _ _)
   | (with_reducible exact j3.mono _ _ _ _ _ _ _ _)
   | (with_reducible exact j5.mono _ _ _ _ _ _)
   | (with_reducible exact apm.mono _ _ _ _ _ _ _)
   | (with_reducible exact an2.mono _ _ _ _ _ _)
   | (with_reducible exact dz.refl _)
   | (with_reducible exact dz.none _)
   | (with_reducible refine dz.ite ?_ ?_)
   | (with_reducible refine dz.bind ?_ (fun _ => ?_))
   | exact jP _ _ _ _ _ _ _
   | exact ih1 _ _ _ _ _ _
   | exact ih2 _ _ _ _ _ _ _ _ _ _
   | exact j3.mono _ _ _ _ _ _ _ _
   | exact j5.mono _ _ _ _ _ _
   | exact apm.mono _ _ _ _ _ _ _
   | exact an2.mono _ _ _ _ _ _
   | exact dz.none _
   | refine dz.ite ?_ ?_
   | refine dz.bind ?_ (fun _ => ?_)
theorem j4.mono : ∀ a0 a1 a2 a3 a4 a5 k, dz (j4.f k a0 a1 a2 a3 a4 a5) (j4.f (k + 1) a0 a1 a2 a3 a4 a5) := by
 intro a0 a1 a2 a3 a4 a5 k;obtain ⟨jP, ih1, ih2⟩ := j4.apw k;unfold j4.f;repeat' first
   | (with_reducible exact jP _ _ _ _ _ _ _)
   | (with_reducible exact ih1 _ _ _ _ _ _)
   | (with_reducible exact ih2 _ _ _ _ _ _ _ _ _ _)
   | (with_reducible exact j3.mono _ _ _ _ _ _ _ _)
   | (with_reducible exact j5.mono _ _ _ _ _ _)
   | (with_reducible exact apm.mono _ _ _ _ _ _ _)
   | (with_reducible exact an2.mono _ _ _ _ _ _)
   | (with_reducible exact dz.refl _)
   | (with_reducible exact dz.none _)
   | (with_reducible refine dz.ite ?_ ?_)
   | (with_reducible refine dz.bind ?_ (fun _ => ?_))
   | exact jP _ _ _ _ _ _ _
   | exact ih1 _ _ _ _ _ _
   | exact ih2 _ _ _ _ _ _ _ _ _ _
   | exact j3.mono _ _ _ _ _ _ _ _
   | exact j5.mono _ _ _ _ _ _
   | exact apm.mono _ _ _ _ _ _ _
   | exact an2.mono _ _ _ _ _ _
   | exact dz.none _
   | refine dz.ite ?_ ?_
   | refine dz.bind ?_ (fun _ => ?_)
def j4.T10 : Bool × List (List Nat × List Nat) := (true, [([], []), ([0, 0], [0]), ([1], [1]), ([1], [1]), ([1], [1]), ([2, 3, 4, 1, 1], [1, 2, 3, 4]), ([1, 5], [1, 5]), ([6, 5], [6]), ([7], [7]), ([7], [7]), ([7], [7]), ([8, 9, 10, 7, 7], [7, 8, 9, 10]), ([7], [7]), ([7], [7]), ([12, 13, 7], [7, 12, 13]), ([14, 7], [7, 14]), ([11, 15, 7], [7, 11, 15]), ([7, 16], [7, 16]), ([17, 11, 0, 1, 2, 3, 4, 5, 6, 7, 8, 9, 10, 11, 12, 13, 14, 15, 16, 17], [17])])
def j4.B10 : List Nat := [0, 1, 3, 3, 3, 31, 63, 127, 255, 255, 255, 2047, 255, 255, 12543, 28927, 65535, 131071, 262143]
theorem j4.anI : iC .any (opsOf Try.f14 10) = j4.T10 := by kernel_rfl
theorem j4.aks : fo j4.T10.2 j4.B10 = true := by kernel_rfl
set_option maxHeartbeats 8000000 in
set_option maxRecDepth 100000 in
theorem j4.calls (k : Nat) (aR : Int) (iR : Int) (vX : Int) (aps : Option Addr) (ao4 : Nat) (bf : List (KH)) (A1 : Option Addr) (c1 : Nat) (l1 : List Int) (a2 : Int) (r : Bool) (w : World) (aqy : Kd.C Md w aps bf.length bf) (aqz : bf.length ≤ ao4) (hr1 : Kd.C (Kd.int .i64) w A1 l1.length l1) (hc1 : l1.length ≤ c1) (h : j4.f k aR iR vX bf l1 a2 = some r) :
  Calls Try.prog 14 #[.agg #[.int .i64 aR, .int .i64 iR, .int .i64 vX, .slice aps bf.length ao4], .slice A1 l1.length c1, .int .u8 a2] w fun e w' => e = .returned (.bool r) ∧ Below w.heap.size w w' := by
 have avx := Try.underlying58;have hu64 := Try.underlying64;have QT := Try.underlying34;have aqx := aa.mk aqy;have aqH := aa.mk aqz;clear aqy aqz;have HR1 := aa.mk hr1;have EY := aa.mk hc1;clear hr1 hc1;have HB := aa.mk (Below.refl w.heap.size w);have H : ((aqb.f aR iR vX bf l1).bind fun aPt => (if aPt = true then ((j5.f k aR iR vX bf l1).bind fun aMO => (j4.j0 k l1 a2 (!aMO) aR iR vX bf)) else (j4.j0 k l1 a2 true aR iR vX bf))) = some r := h;clear h;have IK := aa.mk H;clear H;go_enter Try.func14, Try.ntmps14
 go_upto_region 1 with (first | ((with_reducible refine bM (N := 3) rfl ?_); refine bG ?hg (N := 3) ?hd (cs := #[.int .i64 aR, .int .i64 iR, .int .i64 vX, .slice aps bf.length ao4]) (t := 58) ?hr ?_; (case hd => rfl); (case hg => rfl); (case hr => first | (go_simp; done) | (go_simp; rfl)); intro aCm hg w5 bR hb; have bP := aa.mk (aM (bO HB) hb); have bQ := aa.mk (bR); have bT := aa.mk ((by rw [hg]; exact (aK (bO HB)) : w.heap.size ≤ aCm)); have di := aa.mk ((by rw [hg]; exact (aK (bO HB)) : w.heap.size ≤ aCm)); clear HB; have HB := bP; have av2 := bQ; have aWu := bT; have aWv := di; clear bP bQ bT di; clear hb bR hg))
 (try simp only [Act.put, List.setIfInBounds_toArray, List.set_cons_zero, List.set_cons_succ]);go_cut [20] (fun v20 wc => ∃ (kq : Nat) (Pv : Bool), v20 = .bool Pv ∧ aa (j4.j0 kq l1 a2 Pv aR iR vX bf = some r) ∧ aa (kq ≤ k) ∧ aa (wc.heap[aCm]? = some (.cells #[.int .i64 aR, .int .i64 iR, .int .i64 vX, (.slice aps bf.length ao4)] 58 (0, 0))) ∧ aa (Below w.heap.size w wc))
 case first =>
  have H := IK.out;clear IK;replace H := Option.bind_eq_some_iff.mp H;obtain ⟨aPt, A60, H⟩ := H;replace H : (if aPt = true then ((j5.f k aR iR vX bf l1).bind fun aMO => (j4.j0 k l1 a2 (!aMO) aR iR vX bf)) else (j4.j0 k l1 a2 true aR iR vX bf)) = some r := H;have A6 := aa.mk A60;clear A60;by_cases c7 : aPt = true
  ·subst c7;have H1 : ((j5.f k aR iR vX bf l1).bind fun aMO => (j4.j0 k l1 a2 (!aMO) aR iR vX bf)) = some r := by rw [if_pos rfl] at H; exact H
   clear H;have H := H1;clear H1;replace H := Option.bind_eq_some_iff.mp H;obtain ⟨aMO, A80, H⟩ := H;replace H : (j4.j0 k l1 a2 (!aMO) aR iR vX bf) = some r := H;have A8 := aa.mk A80;clear A80;have H' := aa.mk H;clear H;have nP : w5.cell? ⟨aCm, 0, none⟩ = some (.int .i64 aR) := (ae av2.out 0).trans rfl;have nQ : w5.cell? ⟨aCm, 1, none⟩ = some (.int .i64 iR) := (ae av2.out 1).trans rfl;have aiD : w5.cell? ⟨aCm, 2, none⟩ = some (.int .i64 vX) := (ae av2.out 2).trans rfl;have aiE : w5.cell? ⟨aCm, 3, none⟩ = some (.slice aps bf.length ao4) := (ae av2.out 3).trans rfl;have nR := ai av2.out 0;have nS := ai av2.out 1;have aiG := ai av2.out 2;have aiH := ai av2.out 3;go_wp2_with (first | ((with_reducible refine dE (f := 46) rfl ?_); refine iB (some 13) rfl rfl Try.func46 (by kernel_rfl) rfl #[.agg #[.int .i64 aR, .int .i64 iR, .int .i64 vX, .slice aps bf.length ao4], .slice A1 l1.length c1] rfl (by (try simp only [List.map_toArray, List.map_cons, List.map_nil]); first | done | rfl | (simp only [List.length_drop, List.length_take]; rfl)) ?_; (with_reducible refine (aqb.calls aR iR vX _ _ bf _ _ l1 true _ ?side1 ?side2 ?side3 ?side4 A6.out).mono ?_); (case side1 => repeat (first | exact (Kd.bF aqx.out HB.out) | (with_reducible refine Kd.dF ?_ _) | (with_reducible refine Kd.dG ?_ _) | (with_reducible refine Kd.eG ?_))); (case side2 => exact aqH.out); (case side3 => repeat (first | exact (Kd.bF HR1.out HB.out) | (with_reducible refine Kd.dF ?_ _) | (with_reducible refine Kd.dG ?_ _) | (with_reducible refine Kd.eG ?_))); (case side4 => exact EY.out); rintro e Io ⟨rfl, hb⟩; refine ⟨_, rfl, ?_⟩; have bP := aa.mk (aC (bk av2) hb); have bQ := aa.mk (aM (bO HB) hb); clear av2; clear HB; have av2 := bP; have HB := bQ; clear bP bQ; (try clear hb); (try clear hb2); (try clear hk); (try clear hi); have oW : Io.cell? ⟨aCm, 0, none⟩ = some (.int .i64 aR) := (ae av2.out 0).trans rfl; have oZ : Io.cell? ⟨aCm, 1, none⟩ = some (.int .i64 iR) := (ae av2.out 1).trans rfl; have afT : Io.cell? ⟨aCm, 2, none⟩ = some (.int .i64 vX) := (ae av2.out 2).trans rfl; have afU : Io.cell? ⟨aCm, 3, none⟩ = some (.slice aps bf.length ao4) := (ae av2.out 3).trans rfl; have o5 := ai av2.out 0; have o6 := ai av2.out 1; have afW := ai av2.out 2; have afX := ai av2.out 3) | (go_at_call 54; (with_reducible refine (j5.calls k aR iR vX _ _ bf _ _ l1 aMO _ ?side1 ?side2 ?side3 ?side4 A8.out).mono ?_); (case side1 => repeat (first | exact (Kd.bF aqx.out HB.out) | (with_reducible refine Kd.dF ?_ _) | (with_reducible refine Kd.dG ?_ _) | (with_reducible refine Kd.eG ?_))); (case side2 => exact aqH.out); (case side3 => repeat (first | exact (Kd.bF HR1.out HB.out) | (with_reducible refine Kd.dF ?_ _) | (with_reducible refine Kd.dG ?_ _) | (with_reducible refine Kd.eG ?_))); (case side4 => exact EY.out); rintro e w12 ⟨rfl, hb⟩; have bP := aa.mk (aC (bk av2) hb); have bQ := aa.mk (aM (bO HB) hb); clear av2; clear HB; have av2 := bP; have HB := bQ; clear bP bQ; (try clear hb); (try clear hb2); (try clear hk); (try clear hi)))
   go_meet
   case rel => exact ⟨_, (!aMO), (by first | rfl | (simp; done) | (simp [*]; done)), H', ⟨by first | omega | exact Nat.le_refl _⟩, ⟨by (with_reducible repeat (first | refine ax ?_ _ | refine az ?_ | refine au ?_ _)); exact av2.out⟩, ⟨bO HB⟩⟩
  ·replace c7 := Bool.eq_false_iff.mpr c7;subst c7;have H1 : (j4.j0 k l1 a2 true aR iR vX bf) = some r := by rw [if_neg (show ¬ (false = true) by decide)] at H; exact H
   clear H;have H := H1;clear H1;have H' := aa.mk H;clear H;have yT : w5.cell? ⟨aCm, 0, none⟩ = some (.int .i64 aR) := (ae av2.out 0).trans rfl;have yU : w5.cell? ⟨aCm, 1, none⟩ = some (.int .i64 iR) := (ae av2.out 1).trans rfl;have akB : w5.cell? ⟨aCm, 2, none⟩ = some (.int .i64 vX) := (ae av2.out 2).trans rfl;have akC : w5.cell? ⟨aCm, 3, none⟩ = some (.slice aps bf.length ao4) := (ae av2.out 3).trans rfl;have yV := ai av2.out 0;have yX := ai av2.out 1;have akI := ai av2.out 2;have akJ := ai av2.out 3;go_wp2_with (first | ((with_reducible refine dE (f := 46) rfl ?_); refine iB (some 13) rfl rfl Try.func46 (by kernel_rfl) rfl #[.agg #[.int .i64 aR, .int .i64 iR, .int .i64 vX, .slice aps bf.length ao4], .slice A1 l1.length c1] rfl (by (try simp only [List.map_toArray, List.map_cons, List.map_nil]); first | done | rfl | (simp only [List.length_drop, List.length_take]; rfl)) ?_; (with_reducible refine (aqb.calls aR iR vX _ _ bf _ _ l1 false _ ?side1 ?side2 ?side3 ?side4 A6.out).mono ?_); (case side1 => repeat (first | exact (Kd.bF aqx.out HB.out) | (with_reducible refine Kd.dF ?_ _) | (with_reducible refine Kd.dG ?_ _) | (with_reducible refine Kd.eG ?_))); (case side2 => exact aqH.out); (case side3 => repeat (first | exact (Kd.bF HR1.out HB.out) | (with_reducible refine Kd.dF ?_ _) | (with_reducible refine Kd.dG ?_ _) | (with_reducible refine Kd.eG ?_))); (case side4 => exact EY.out); rintro e TR ⟨rfl, hb⟩; refine ⟨_, rfl, ?_⟩; have bP := aa.mk (aC (bk av2) hb); have bQ := aa.mk (aM (bO HB) hb); clear av2; clear HB; have av2 := bP; have HB := bQ; clear bP bQ; (try clear hb); (try clear hb2); (try clear hk); (try clear hi)))
   go_meet
   case rel => exact ⟨_, (true), (by first | rfl | (simp; done) | (simp [*]; done)), H', ⟨by first | omega | exact Nat.le_refl _⟩, ⟨by (with_reducible repeat (first | refine ax ?_ _ | refine az ?_ | refine au ?_ _)); exact av2.out⟩, ⟨bO HB⟩⟩
 case rest =>
  clear IK;(try clear c1); (try clear p2); (try clear c4); (try clear c7); (try clear c14); (try clear oW); (try clear oZ); (try clear afT); (try clear afU); (try clear yT); (try clear yU); (try clear akB); (try clear akC); (try clear nP); (try clear nQ); (try clear aiD); (try clear aiE); (try clear o5); (try clear o6); (try clear afW); (try clear afX); (try clear yV); (try clear yX); (try clear akI); (try clear akJ); (try clear nR); (try clear nS); (try clear aiG); (try clear aiH);obtain ⟨kq, Pv, rfl, HA, Gq, av2, HB⟩ := hcut
  cases kq with
  | zero => exact absurd HA.out (by simp [j4.j0])
  | succ kj3 =>
   have H := HA.out;clear HA;simp only [j4.j0] at H;have aRI := aa.mk H;clear H;go_upto_if 20 with (fail)
   go_cut [] (fun wc => ∃ (kq : Nat), aa (j4.j1 kq l1 a2 aR iR vX bf = some r) ∧ aa (kq ≤ kj3) ∧ aa (wc.heap[aCm]? = some (.cells #[.int .i64 aR, .int .i64 iR, .int .i64 vX, (.slice aps bf.length ao4)] 58 (0, 0))) ∧ aa (Below w.heap.size w wc))
   case first =>
    have H := aRI.out;clear aRI;by_cases c16 : Pv = true
    ·subst c16;have H1 : ((apq.f).bind fun aPs => (some aPs)) = some r := by rw [if_pos rfl] at H; exact H
     clear H;have H := H1;clear H1;replace H := Option.bind_eq_some_iff.mp H;obtain ⟨aPs, aN5, H⟩ := H;replace H : (some aPs) = some r := H;have A17 := aa.mk aN5;clear aN5;obtain rfl := Option.some.inj H;go_wp2_with (first | ((with_reducible refine dE (f := 47) rfl ?_); refine iB (some 21) rfl rfl Try.func47 (by kernel_rfl) rfl #[] rfl (by (try simp only [List.map_toArray, List.map_cons, List.map_nil]); first | done | rfl | (simp only [List.length_drop, List.length_take]; rfl)) ?_; (with_reducible refine (apq.calls  aPs _ A17.out).mono ?_); rintro e w18 ⟨rfl, hb⟩; refine ⟨_, rfl, ?_⟩; have bP := aa.mk (aC (bk av2) hb); have bQ := aa.mk (aM (bO HB) hb); clear av2; clear HB; have av2 := bP; have HB := bQ; clear bP bQ; (try clear hb); (try clear hb2); (try clear hk); (try clear hi)))
     go_ret;exact ⟨by first | rfl | (simp [aW, aX] <;> rfl) | (simp [*, aW, aX] <;> rfl), bO HB⟩
    ·replace c16 := Bool.eq_false_iff.mpr c16;subst c16;have H1 : (j4.j1 kj3 l1 a2 aR iR vX bf) = some r := by rw [if_neg (show ¬ (false = true) by decide)] at H; exact H
     clear H;have H := H1;clear H1;have H' := aa.mk H;clear H;go_wp2;go_meet
     case rel => exact ⟨_, H', ⟨by have := Gq.out; first | omega | exact Nat.le_refl _⟩, ⟨by (with_reducible repeat (first | refine ax ?_ _ | refine az ?_ | refine au ?_ _)); exact av2.out⟩, ⟨bO HB⟩⟩
   case rest =>
    clear aRI;(try clear c1); (try clear p2); (try clear c4); (try clear c7); (try clear c14); (try clear c16); (try clear oW); (try clear oZ); (try clear afT); (try clear afU); (try clear yT); (try clear yU); (try clear akB); (try clear akC); (try clear nP); (try clear nQ); (try clear aiD); (try clear aiE); (try clear o5); (try clear o6); (try clear afW); (try clear afX); (try clear yV); (try clear yX); (try clear akI); (try clear akJ); (try clear nR); (try clear nS); (try clear aiG); (try clear aiH); (try clear p2);obtain ⟨kq, HA, aUm, av2, HB⟩ := hcut
    cases kq with
    | zero => exact absurd HA.out (by simp [j4.j1])
    | succ kj14 =>
     have H := HA.out;clear HA;simp only [j4.j1] at H;by_cases c19 : iR = 0
     ·rw [if_pos c19] at H;exact absurd H (by simp)
     ·rw [if_neg c19] at H;have yh : (iR == 0) = false := beq_eq_false_iff_ne.mpr c19;have acE : (iR != 0) = true := bne_iff_ne.mpr c19;replace H := Option.bind_eq_some_iff.mp H;obtain ⟨aFn, ark, H⟩ := H;replace H : ((apm.f kj14 aR iR vX bf l1 (Int.tmod (wrap64 (a2)) iR)).bind fun aLV => (if (aFn.length : Int) = iR then (j4.j2 kj14 l1 (Int.tmod (wrap64 (a2)) iR) aFn aLV.2.2 aR iR vX bf aLV.1 aLV.2.1) else (some false))) = some r := H;have A20 := aa.mk ark;clear ark;replace H := Option.bind_eq_some_iff.mp H;obtain ⟨⟨aMh, aL1, aKD⟩, ae9, H⟩ := H;replace H : (if (aFn.length : Int) = iR then (j4.j2 kj14 l1 (Int.tmod (wrap64 (a2)) iR) aFn aKD aR iR vX bf aMh aL1) else (some false)) = some r := H;have A21 := aa.mk ae9;clear ae9;have aMH := aa.mk H;clear H;have ar2 : wc.cell? ⟨aCm, 0, none⟩ = some (.int .i64 aR) := (ae av2.out 0).trans rfl;have ar3 : wc.cell? ⟨aCm, 1, none⟩ = some (.int .i64 iR) := (ae av2.out 1).trans rfl;have aQb : wc.cell? ⟨aCm, 2, none⟩ = some (.int .i64 vX) := (ae av2.out 2).trans rfl;have aQl : wc.cell? ⟨aCm, 3, none⟩ = some (.slice aps bf.length ao4) := (ae av2.out 3).trans rfl;have ar4 := ai av2.out 0;have ar5 := ai av2.out 1;have aQm := ai av2.out 2;have aQn := ai av2.out 3;go_upto_if 41 with (first | ((with_reducible refine dE (f := 49) rfl ?_); refine iB (some 29) rfl rfl Try.func49 (by kernel_rfl) rfl #[.agg #[.int .i64 aR, .int .i64 iR, .int .i64 vX, .slice aps bf.length ao4], .slice A1 l1.length c1] rfl (by (try simp only [List.map_toArray, List.map_cons, List.map_nil]); first | done | rfl | (simp only [List.length_drop, List.length_take]; rfl)) ?_; (with_reducible refine (an2.calls kj14 aR iR vX _ _ bf _ _ l1 aFn _ ?side1 ?side2 ?side3 ?side4 A20.out).mono ?_); (case side1 => repeat (first | exact (Kd.bF aqx.out HB.out) | (with_reducible refine Kd.dF ?_ _) | (with_reducible refine Kd.dG ?_ _) | (with_reducible refine Kd.eG ?_))); (case side2 => exact aqH.out); (case side3 => repeat (first | exact (Kd.bF HR1.out HB.out) | (with_reducible refine Kd.dF ?_ _) | (with_reducible refine Kd.dG ?_ _) | (with_reducible refine Kd.eG ?_))); (case side4 => exact EY.out); rintro e w24 ⟨aYs, rfl, ho0, hb⟩; refine ⟨_, rfl, ?_⟩; have bP := aa.mk (Kd.iL ho0 (aK (bO HB))); have bQ := aa.mk (aC (bk av2) hb); have bT := aa.mk (aM (bO HB) hb); clear av2; clear HB; have aMU := bP; have av2 := bQ; have HB := bT; clear bP bQ bT; (try clear hb); (try clear hb2); (try clear hk); (try clear hi); (try clear ho0); have yP : w24.cell? ⟨aCm, 0, none⟩ = some (.int .i64 aR) := (ae av2.out 0).trans rfl; have yQ : w24.cell? ⟨aCm, 1, none⟩ = some (.int .i64 iR) := (ae av2.out 1).trans rfl; have axx : w24.cell? ⟨aCm, 2, none⟩ = some (.int .i64 vX) := (ae av2.out 2).trans rfl; have axy : w24.cell? ⟨aCm, 3, none⟩ = some (.slice aps bf.length ao4) := (ae av2.out 3).trans rfl; have yR := ai av2.out 0; have yS := ai av2.out 1; have axz := ai av2.out 2; have axA := ai av2.out 3) | ((with_reducible refine dE (f := 51) rfl ?_); refine iB (some 34) rfl rfl Try.func51 (by kernel_rfl) rfl #[.agg #[.int .i64 aR, .int .i64 iR, .int .i64 vX, .slice aps bf.length ao4], .slice A1 l1.length c1, .int .i64 (Int.tmod (wrap64 (a2)) iR)] rfl (by (try simp only [List.map_toArray, List.map_cons, List.map_nil]); first | done | rfl | (simp only [List.length_drop, List.length_take]; rfl)) ?_; (with_reducible refine (apm.calls kj14 aR iR vX _ _ bf _ _ l1 (Int.tmod (wrap64 (a2)) iR) aMh aL1 aKD _ ?side1 ?side2 ?side3 ?side4 A21.out).mono ?_); (case side1 => repeat (first | exact (Kd.bF aqx.out HB.out) | (with_reducible refine Kd.dF ?_ _) | (with_reducible refine Kd.dG ?_ _) | (with_reducible refine Kd.eG ?_))); (case side2 => exact aqH.out); (case side3 => repeat (first | exact (Kd.bF HR1.out HB.out) | (with_reducible refine Kd.dF ?_ _) | (with_reducible refine Kd.dG ?_ _) | (with_reducible refine Kd.eG ?_))); (case side4 => exact EY.out); rintro e w26 ⟨aYt, rfl, ho0, hb⟩; refine ⟨_, rfl, ?_⟩; have bP := aa.mk (Kd.bu (by (with_reducible repeat (first | apply Kd.ay5 | apply Kd.eu | apply Kd.aaH)); exact aMU.out) hb); have bQ := aa.mk (Kd.iL ho0 (aK (bO HB))); have bT := aa.mk (aC (bk av2) hb); have di := aa.mk (aM (bO HB) hb); clear aMU; clear av2; clear HB; have aMU := bP; have aOq := bQ; have av2 := bT; have HB := di; clear bP bQ bT di; (try clear hb); (try clear hb2); (try clear hk); (try clear hi); (try clear ho0)) | ((with_reducible refine bM (N := 9) rfl ?_); refine bG ?hg (N := 9) ?hd (cs := #[.int .i64 0, .slice none 0 0]) (t := 64) ?hr ?_; (case hd => rfl); (case hg => rfl); (case hr => first | (go_simp; done) | (go_simp; rfl)); intro aKP hg V7 bR hb; have bP := aa.mk (Kd.bu (by (with_reducible repeat (first | apply Kd.ay5 | apply Kd.eu | apply Kd.aaH)); exact aMU.out) hb); have bQ := aa.mk (Kd.bu (Kd.uB (by (with_reducible repeat (first | apply Kd.ay5 | apply Kd.eu | apply Kd.aaH)); exact aOq.out) aKP (Nat.le_of_eq hg.symm)) hb); have bT := aa.mk (aC (bk av2) hb); have di := aa.mk (aM (bO HB) hb); have n4_ := aa.mk (bR); have n5_ := aa.mk ((by rw [hg]; exact (aK (bO HB)) : w.heap.size ≤ aKP)); have iG := aa.mk ((by rw [hg]; exact (aK (bO HB)) : w.heap.size ≤ aKP)); have sQ := aa.mk ((by rw [hg]; exact Nat.ne_of_lt (bE (bk av2)) : aCm ≠ aKP)); have xB := aa.mk ((by rw [hg]; exact Nat.ne_of_gt (bE (bk av2)) : aKP ≠ aCm)); clear aMU; clear aOq; clear av2; clear HB; have aMU := bP; have aOq := bQ; have av2 := bT; have HB := di; have aBV := n4_; have aWx := n5_; have aWy := iG; have aMP := sQ; have aPC := xB; clear bP bQ bT di n4_ n5_ iG sQ xB; clear hb bR hg; have YL := aPC.out; have YM := aMP.out; have tK : V7.cell? ⟨aKP, 0, none⟩ = some (.int .i64 0) := (ae aBV.out 0).trans rfl; have tL : V7.cell? ⟨aKP, 1, none⟩ = some (.slice none 0 0) := (ae aBV.out 1).trans rfl; have tN := ai aBV.out 0; have tO := ai aBV.out 1; obtain ⟨aKT, aKU, aPK⟩ := Kd.fQ aOq.out; subst aPK; obtain ⟨ae7, ae8, ajG⟩ := Kd.fQ aMU.out; subst ajG; have Ca : V7.cell? ⟨aCm, 0, none⟩ = some (.int .i64 aR) := (ae av2.out 0).trans rfl; have Cb : V7.cell? ⟨aCm, 1, none⟩ = some (.int .i64 iR) := (ae av2.out 1).trans rfl; have aQo : V7.cell? ⟨aCm, 2, none⟩ = some (.int .i64 vX) := (ae av2.out 2).trans rfl; have aQp : V7.cell? ⟨aCm, 3, none⟩ = some (.slice aps bf.length ao4) := (ae av2.out 3).trans rfl; have Cc := ai av2.out 0; have Ce := ai av2.out 1; have aQq := ai av2.out 2; have aQr := ai av2.out 3))
      (try simp only [Act.put, List.setIfInBounds_toArray, List.set_cons_zero, List.set_cons_succ]);go_cut [] (fun wc => ∃ (kq : Nat), aa (j4.j2 kq l1 (Int.tmod (wrap64 (a2)) iR) aFn aKD aR iR vX bf aMh aL1 = some r) ∧ aa (kq ≤ kj14) ∧ aa (Kd.R xA 34 wc w.heap.size (fun _ => True) (.slice ae7 aFn.length ae8) aFn) ∧ aa (Kd.R OG 64 wc w.heap.size (fun k_ => k_ ≠ aKP) (.slice aKT aL1.length aKU) aL1) ∧ aa (wc.heap[aCm]? = some (.cells #[.int .i64 aR, .int .i64 iR, .int .i64 vX, (.slice aps bf.length ao4)] 58 (0, 0))) ∧ aa (wc.heap[aKP]? = some (.cells #[.int .i64 aMh, (.slice aKT aL1.length aKU)] 64 (0, 0))) ∧ aa (Below w.heap.size w wc))
      case first =>
       have H := aMH.out;clear aMH;by_cases c33 : (aFn.length : Int) = iR
       ·rw [if_pos c33] at H;have aSN : ((aFn.length : Int) == iR) = true := beq_iff_eq.mpr c33;have aQ3 : ((aFn.length : Int) != iR) = false := bne_eq_false_iff_eq.mpr c33;clear c33
        (first | rw [aSN] | (simp only [bH, bI]; rw [aSN]) | skip)
        have H' := aa.mk H;clear H;go_wp2;go_meet
        case rel => exact ⟨_, H', ⟨by have := Gq.out; have := aUm.out; first | omega | exact Nat.le_refl _⟩, ⟨by (with_reducible repeat (first | apply Kd.ay5 | apply Kd.eu | apply Kd.aaH)); exact Kd.bB (Kd.jS (p := ⟨aKP, 1, none⟩) (Kd.jS (p := ⟨aKP, 0, none⟩) (Kd.zV aMU.out aBV.out (by decide)) (fun _ hk => hk.2) (.int .i64 aMh)) (fun _ hk => hk.2) (.slice aKT aL1.length aKU)) (fun _ hk => trivial)⟩, ⟨by (with_reducible repeat (first | apply Kd.ay5 | apply Kd.eu | apply Kd.aaH)); exact Kd.bB (Kd.jS (p := ⟨aKP, 1, none⟩) (Kd.jS (p := ⟨aKP, 0, none⟩) (Kd.bB aOq.out (fun k_ hk => (⟨hk, hk.2⟩ : _ ∧ k_ ≠ aKP))) (fun _ hk => hk.2) (.int .i64 aMh)) (fun _ hk => hk.2) (.slice aKT aL1.length aKU)) (fun _ hk => hk.1.2)⟩, ⟨by (with_reducible repeat (first | refine ax ?_ _ | refine az ?_ | refine au ?_ _)); refine bD ?_ aMP.out _; (with_reducible repeat (first | refine ax ?_ _ | refine az ?_ | refine au ?_ _)); refine bD ?_ aMP.out _; (with_reducible repeat (first | refine ax ?_ _ | refine az ?_ | refine au ?_ _)); exact av2.out⟩, ⟨by (with_reducible repeat (first | refine ax ?_ _ | refine az ?_ | refine au ?_ _)); refine bL (cs := #[.int .i64 aMh, .slice none 0 0]) ?_ 1 _ rfl; (with_reducible repeat (first | refine ax ?_ _ | refine az ?_ | refine au ?_ _)); refine bL (cs := #[.int .i64 0, .slice none 0 0]) ?_ 0 _ rfl; (with_reducible repeat (first | refine ax ?_ _ | refine az ?_ | refine au ?_ _)); exact aBV.out⟩, ⟨bO HB⟩⟩
       ·rw [if_neg c33] at H;have aSN : ((aFn.length : Int) == iR) = false := beq_eq_false_iff_ne.mpr c33;have aQ3 : ((aFn.length : Int) != iR) = true := bne_iff_ne.mpr c33
        (first | rw [aSN] | (simp only [bH, bI]; rw [aSN]) | skip)
        obtain rfl := Option.some.inj H;go_wp2;go_ret;exact ⟨by first | rfl | (simp [aW, aX] <;> rfl) | (simp [*, aW, aX] <;> rfl), bO HB⟩
      case rest =>
       clear aMH;(try clear c1); (try clear c2); (try clear p2); (try clear c3); (try clear c4); (try clear c5); (try clear p6); (try clear c7); (try clear c14); (try clear c16); (try clear c19); (try clear yh); (try clear acE); (try clear c28); (try clear c33); (try clear aSN); (try clear aQ3); (try clear oW); (try clear oZ); (try clear afT); (try clear afU); (try clear yT); (try clear yU); (try clear akB); (try clear akC); (try clear ar2); (try clear ar3); (try clear aQb); (try clear aQl); (try clear yP); (try clear yQ); (try clear axx); (try clear axy); (try clear tK); (try clear tL); (try clear Ca); (try clear Cb); (try clear aQo); (try clear aQp); (try clear nP); (try clear nQ); (try clear aiD); (try clear aiE); (try clear o5); (try clear o6); (try clear afW); (try clear afX); (try clear yV); (try clear yX); (try clear akI); (try clear akJ); (try clear ar4); (try clear ar5); (try clear aQm); (try clear aQn); (try clear yR); (try clear yS); (try clear axz); (try clear axA); (try clear tN); (try clear tO); (try clear Cc); (try clear Ce); (try clear aQq); (try clear aQr); (try clear nR); (try clear nS); (try clear aiG); (try clear aiH); (try clear p2);obtain ⟨kq, HA, aQJ, aBS, awY, av2, aBV, HB⟩ := hcut
       cases kq with
       | zero => exact absurd HA.out (by simp [j4.j2])
       | succ kj21 =>
        have H := HA.out;clear HA;simp only [j4.j2] at H;by_cases c34 : aKD = 0
        ·rw [if_pos c34] at H;have aOH : (aKD == 0) = true := beq_iff_eq.mpr c34;have aSX : (aKD != 0) = false := bne_eq_false_iff_eq.mpr c34;clear c34;replace H := Option.bind_eq_some_iff.mp H;obtain ⟨aP9, aPO, H⟩ := H;replace H : (if aP9 = true then ((j3.f kj21 aR iR vX bf (Int.tmod (wrap64 (a2)) iR) aMh aL1).bind fun aN1 => (if aN1 = true then ((aBT.f aR iR vX bf l1 aMh aL1).bind fun aKS => (if 0 ≤ (Int.tmod (wrap64 (a2)) iR) then (if (Int.tmod (wrap64 (a2)) iR) < (aFn.length : Int) then (some (aKS.1 == ((bJ aFn (Int.tmod (wrap64 (a2)) iR)).f0) && (aKS.2 == ((bJ aFn (Int.tmod (wrap64 (a2)) iR)).f1)))) else (none)) else (none))) else (some false))) else (some false)) = some r := H;have A35 := aa.mk aPO;clear aPO;by_cases c36 : aP9 = true
         ·subst c36;have H1 : ((j3.f kj21 aR iR vX bf (Int.tmod (wrap64 (a2)) iR) aMh aL1).bind fun aN1 => (if aN1 = true then ((aBT.f aR iR vX bf l1 aMh aL1).bind fun aKS => (if 0 ≤ (Int.tmod (wrap64 (a2)) iR) then (if (Int.tmod (wrap64 (a2)) iR) < (aFn.length : Int) then (some (aKS.1 == ((bJ aFn (Int.tmod (wrap64 (a2)) iR)).f0) && (aKS.2 == ((bJ aFn (Int.tmod (wrap64 (a2)) iR)).f1)))) else (none)) else (none))) else (some false))) = some r := by rw [if_pos rfl] at H; exact H
          clear H;have H := H1;clear H1;replace H := Option.bind_eq_some_iff.mp H;obtain ⟨aN1, aSY, H⟩ := H;replace H : (if aN1 = true then ((aBT.f aR iR vX bf l1 aMh aL1).bind fun aKS => (if 0 ≤ (Int.tmod (wrap64 (a2)) iR) then (if (Int.tmod (wrap64 (a2)) iR) < (aFn.length : Int) then (some (aKS.1 == ((bJ aFn (Int.tmod (wrap64 (a2)) iR)).f0) && (aKS.2 == ((bJ aFn (Int.tmod (wrap64 (a2)) iR)).f1)))) else (none)) else (none))) else (some false)) = some r := H;have A37 := aa.mk aSY;clear aSY;by_cases c38 : aN1 = true
          ·subst c38;have H1 : ((aBT.f aR iR vX bf l1 aMh aL1).bind fun aKS => (if 0 ≤ (Int.tmod (wrap64 (a2)) iR) then (if (Int.tmod (wrap64 (a2)) iR) < (aFn.length : Int) then (some (aKS.1 == ((bJ aFn (Int.tmod (wrap64 (a2)) iR)).f0) && (aKS.2 == ((bJ aFn (Int.tmod (wrap64 (a2)) iR)).f1)))) else (none)) else (none))) = some r := by rw [if_pos rfl] at H; exact H
           clear H;have H := H1;clear H1;replace H := Option.bind_eq_some_iff.mp H;obtain ⟨⟨aRJ, aRK⟩, aSZ, H⟩ := H;replace H : (if 0 ≤ (Int.tmod (wrap64 (a2)) iR) then (if (Int.tmod (wrap64 (a2)) iR) < (aFn.length : Int) then (some (aRJ == ((bJ aFn (Int.tmod (wrap64 (a2)) iR)).f0) && (aRK == ((bJ aFn (Int.tmod (wrap64 (a2)) iR)).f1)))) else (none)) else (none)) = some r := H;have A39 := aa.mk aSZ;clear aSZ;obtain ⟨aMk, aNs⟩ : ∃ j_ : Int, (Int.tmod (wrap64 (a2)) iR) = j_ := ⟨_, rfl⟩;replace H : (if 0 ≤ (aMk) then (if (aMk) < (aFn.length : Int) then (some (aRJ == ((bJ aFn (aMk)).f0) && (aRK == ((bJ aFn (aMk)).f1)))) else (none)) else (none)) = some r := by first | (rw [aNs] at H; exact H) | (simp only [aNs] at H ⊢; exact H)
           (try rw [aNs] at A35);(try rw [aNs] at A37);(try rw [aNs] at A39);by_cases c41 : 0 ≤ (aMk)
           ·rw [if_pos c41] at H;have alA : decide (0 ≤ (aMk)) = true := decide_eq_true c41;clear c41;by_cases OZ : (aMk) < (aFn.length : Int)
            ·rw [if_pos OZ] at H;have YC : decide ((aMk) < (aFn.length : Int)) = true := decide_eq_true OZ;clear OZ;obtain rfl := Option.some.inj H;try go_wp2
             have bP := aa.mk (Kd.aaH aBS.out);have bQ := aa.mk (Kd.aaH awY.out);have bT := aa.mk (az av2.out);have di := aa.mk (az aBV.out);have n4_ := aa.mk (fK HB.out);clear aBS awY av2 aBV HB;have aBS := bP;have awY := bQ;have av2 := bT;have aBV := di;have HB := n4_;clear bP bQ bT di n4_;(try obtain ⟨Aq_, cq_, rfl⟩ := Kd.fQ aBS.out);have aRL : 0 ≤ ((aMk) : Int) := of_decide_eq_true (by first | (with_reducible assumption) | assumption);have aRM : (aMk) < (aFn.length : Int) := of_decide_eq_true (by first | (with_reducible assumption) | assumption);obtain ⟨aPS, aUo, aPl, aPm⟩ := p9 (Kd.dD aBS.out).2.2 (aMk) aRL aRM
             cases aUo;replace aRL := eq_true aRL;replace aRM := eq_true aRM;refine fu (n := 19) (S := fun w' => w'.cell? ⟨aCm, 0, none⟩ = some (.int .i64 aR) ∧ w'.cell? ⟨aCm, 1, none⟩ = some (.int .i64 iR) ∧ w'.cell? ⟨aCm, 2, none⟩ = some (.int .i64 vX) ∧ w'.cell? ⟨aCm, 3, none⟩ = some (.slice aps bf.length ao4) ∧ w'.cell? ⟨aKP, 0, none⟩ = some (.int .i64 aMh) ∧ w'.cell? ⟨aKP, 1, none⟩ = some (.slice aKT aL1.length aKU) ∧ w'.cell? (aPS.add (((aMk)).toNat * 2)) = some (.int .i64 ((bJ aFn (aMk)).f0)) ∧ w'.cell? ⟨(aPS.add (((aMk)).toNat * 2)).block, (aPS.add (((aMk)).toNat * 2)).off + 1, none⟩ = some (.int .i64 ((bJ aFn (aMk)).f1))) (ds := []) #[false, false, false, false, false, false, false, false, false, false, false, false, false, false, false, false, false, false, false] (by kernel_rfl) rfl rfl ⟨(ae av2.out 0).trans rfl, (ae av2.out 1).trans rfl, (ae av2.out 2).trans rfl, (ae av2.out 3).trans rfl, (ae aBV.out 0).trans rfl, (ae aBV.out 1).trans rfl, aPl, aPm⟩ (fun hHeld => ?_); refine dw j4.anI j4.aks (fun dA ji => ?_);generalize wc.drew = R4 at aBS awY av2 aBV HB aPl aPm hHeld ⊢;refine fT (i := 0) (N := some 57) #[true, false, false, false, false, false, false, false, false, false, false, false, false, false, false, false, false, false, false] rfl rfl (dn dA.out (by kernel_rfl)) (by decide) (fun K hK => ?_);refine uC Try.func47 (by kernel_rfl) rfl #[] (by rfl) rfl rfl (by (try simp only [List.map_toArray, List.map_cons, List.map_nil]); first | done | rfl | (simp only [List.length_drop, List.length_take]; rfl)) ?_;with_reducible refine (apq.calls  true _ A35.out).mono ?_
             rintro e w44 ⟨rfl, hb⟩;have aOg := (hb.cell (World.block_lt_of_cell? _ _ (hHeld.2.2.2.2.2.2.1))).trans (hHeld.2.2.2.2.2.2.1);have aPT := (hb.cell (World.block_lt_of_cell? _ _ (hHeld.2.2.2.2.2.2.2))).trans (hHeld.2.2.2.2.2.2.2);refine ⟨_, rfl, ?_⟩;have bP := aa.mk (Kd.bu (by (with_reducible repeat (first | apply Kd.ay5 | apply Kd.eu | apply Kd.aaH)); exact aBS.out) hb);have bQ := aa.mk (Kd.bu (by (with_reducible repeat (first | apply Kd.ay5 | apply Kd.eu | apply Kd.aaH)); exact awY.out) hb);have bT := aa.mk (aC (bk av2) hb);have di := aa.mk (aC (bk aBV) hb);have n4_ := aa.mk (aM (bO HB) hb);clear aBS awY av2 aBV HB;have aBS := bP;have awY := bQ;have av2 := bT;have aBV := di;have HB := n4_;clear bP bQ bT di n4_;(try clear hb);(try clear hb2);(try clear hk);(try clear hi);refine hK.out _ _ ⟨(ae av2.out 0).trans rfl, (ae av2.out 1).trans rfl, (ae av2.out 2).trans rfl, (ae av2.out 3).trans rfl, (ae aBV.out 0).trans rfl, (ae aBV.out 1).trans rfl, aOg, aPT⟩ (fun hHeld => ?_);clear hK K;refine bS (a' := ?_) ?_ ?_;rotate_left
             ·show Act.put _ (some 57) _ = _;simp only [Act.put, List.setIfInBounds_toArray, List.set_cons_zero, List.set_cons_succ, bH, bI];rfl
             refine fG (fuel := 14) [(1, 58), (3, 60), (2, 59), (4, 61)] #[true, true, true, true, true, false, false, false, false, false, false, false, false, false, false, false, false, false, false] (df dA.out ji.out _ _ _ (by kernel_rfl)) rfl (fun _ _ _ _ _ h => h) hHeld (a' := ?_) ?_ ?_;rotate_left
             ·iterate 4
               refine bC (v := ?_) (a1 := ?_) rfl rfl (Or.inl ⟨by rfl, ?_⟩) ?_ ?_;rotate_left 2
               ·rintro w' ⟨s0, s1, s2, s3, s4, s5, s6, s7⟩;go_simp;first | with_reducible rfl | exact aLR _ _ _ _ _
               ·simp only [Act.put, List.setIfInBounds_toArray, List.set_cons_zero, List.set_cons_succ, bH, bI];rfl
              exact chain_nil
             refine fT (i := 5) (N := some 62) #[true, true, true, true, true, true, false, false, false, false, false, false, false, false, false, false, false, false, false] rfl rfl (dn dA.out (by kernel_rfl)) (by decide) (fun K hK => ?_);refine uC Try.func55 (by kernel_rfl) rfl #[.agg #[.int .i64 aR, .int .i64 iR, .int .i64 vX, .slice aps bf.length ao4], .int .i64 (aMk), .agg #[.int .i64 aMh, .slice aKT aL1.length aKU]] (by rfl) rfl rfl (by (try simp only [List.map_toArray, List.map_cons, List.map_nil]); first | done | (simp only [aNs]; rfl) | rfl | (simp only [List.length_drop, List.length_take]; rfl)) ?_;with_reducible refine (j3.calls kj21 aR iR vX _ _ bf (aMk) aMh _ _ aL1 true _ ?side1 ?side2 ?side3 ?side4 A37.out).mono ?_
             (case side1 => repeat (first | exact (Kd.bF aqx.out HB.out) | (with_reducible refine Kd.dF ?_ _) | (with_reducible refine Kd.dG ?_ _) | (with_reducible refine Kd.eG ?_)));(case side2 => exact aqH.out);(case side3 => repeat (first | exact (Kd.dD awY.out).2.2 | (with_reducible refine Kd.dF ?_ _) | (with_reducible refine Kd.dG ?_ _) | (with_reducible refine Kd.eG ?_)));(case side4 => exact (Kd.dD awY.out).2.1);rintro e YD ⟨rfl, hb⟩;have aOg := (hb.cell (World.block_lt_of_cell? _ _ (hHeld.2.2.2.2.2.2.1))).trans (hHeld.2.2.2.2.2.2.1);have aPT := (hb.cell (World.block_lt_of_cell? _ _ (hHeld.2.2.2.2.2.2.2))).trans (hHeld.2.2.2.2.2.2.2);refine ⟨_, rfl, ?_⟩;have bP := aa.mk (Kd.bu (by (with_reducible repeat (first | apply Kd.ay5 | apply Kd.eu | apply Kd.aaH)); exact aBS.out) hb);have bQ := aa.mk (Kd.bu (by (with_reducible repeat (first | apply Kd.ay5 | apply Kd.eu | apply Kd.aaH)); exact awY.out) hb);have bT := aa.mk (aC (bk av2) hb);have di := aa.mk (aC (bk aBV) hb);have n4_ := aa.mk (aM (bO HB) hb);clear aBS awY av2 aBV HB;have aBS := bP;have awY := bQ;have av2 := bT;have aBV := di;have HB := n4_;clear bP bQ bT di n4_;(try clear hb);(try clear hb2);(try clear hk);(try clear hi);refine hK.out _ _ ⟨(ae av2.out 0).trans rfl, (ae av2.out 1).trans rfl, (ae av2.out 2).trans rfl, (ae av2.out 3).trans rfl, (ae aBV.out 0).trans rfl, (ae aBV.out 1).trans rfl, aOg, aPT⟩ (fun hHeld => ?_);clear hK K;refine bS (a' := ?_) ?_ ?_;rotate_left
             ·show Act.put _ (some 62) _ = _;simp only [Act.put, List.setIfInBounds_toArray, List.set_cons_zero, List.set_cons_succ, bH, bI];rfl
             refine fG (fuel := 4) [(6, 63), (7, 64), (9, 66), (12, 69), (13, 70), (14, 71), (8, 65), (10, 67), (15, 72)] #[true, true, true, true, true, true, true, true, true, true, true, false, true, true, true, true, false, false, false] (df dA.out ji.out _ _ _ (by kernel_rfl)) rfl (fun _ _ _ _ _ h => h) hHeld (a' := ?_) ?_ ?_;rotate_left
             ·iterate 9
               refine bC (v := ?_) (a1 := ?_) rfl rfl (Or.inl ⟨by rfl, ?_⟩) ?_ ?_;rotate_left 2
               ·rintro w' ⟨s0, s1, s2, s3, s4, s5, s6, s7⟩;go_simp;first | with_reducible rfl | exact aLR _ _ _ _ _
               ·simp only [Act.put, List.setIfInBounds_toArray, List.set_cons_zero, List.set_cons_succ, bH, bI];rfl
              exact chain_nil
             refine fT (i := 11) (N := some 68) #[true, true, true, true, true, true, true, true, true, true, true, true, true, true, true, true, false, false, false] rfl rfl (dn dA.out (by kernel_rfl)) (by decide) (fun K hK => ?_);refine uC Try.func56 (by kernel_rfl) rfl #[.agg #[.int .i64 aR, .int .i64 iR, .int .i64 vX, .slice aps bf.length ao4], .slice A1 l1.length c1, .agg #[.int .i64 aMh, .slice aKT aL1.length aKU]] (by rfl) rfl rfl (by (try simp only [List.map_toArray, List.map_cons, List.map_nil]); first | done | rfl | (simp only [List.length_drop, List.length_take]; rfl)) ?_;with_reducible refine (aBT.calls aR iR vX _ _ bf _ _ l1 aMh _ _ aL1 aRJ aRK _ ?side1 ?side2 ?side3 ?side4 ?side5 ?side6 A39.out).mono ?_
             (case side1 => repeat (first | exact (Kd.bF aqx.out HB.out) | (with_reducible refine Kd.dF ?_ _) | (with_reducible refine Kd.dG ?_ _) | (with_reducible refine Kd.eG ?_)));(case side2 => exact aqH.out);(case side3 => repeat (first | exact (Kd.bF HR1.out HB.out) | (with_reducible refine Kd.dF ?_ _) | (with_reducible refine Kd.dG ?_ _) | (with_reducible refine Kd.eG ?_)));(case side4 => exact EY.out);(case side5 => repeat (first | exact (Kd.dD awY.out).2.2 | (with_reducible refine Kd.dF ?_ _) | (with_reducible refine Kd.dG ?_ _) | (with_reducible refine Kd.eG ?_)));(case side6 => exact (Kd.dD awY.out).2.1);rintro e w46 ⟨rfl, hb⟩;have aOg := (hb.cell (World.block_lt_of_cell? _ _ (hHeld.2.2.2.2.2.2.1))).trans (hHeld.2.2.2.2.2.2.1);have aPT := (hb.cell (World.block_lt_of_cell? _ _ (hHeld.2.2.2.2.2.2.2))).trans (hHeld.2.2.2.2.2.2.2);refine ⟨_, rfl, ?_⟩;have bP := aa.mk (Kd.bu (by (with_reducible repeat (first | apply Kd.ay5 | apply Kd.eu | apply Kd.aaH)); exact aBS.out) hb);have bQ := aa.mk (Kd.bu (by (with_reducible repeat (first | apply Kd.ay5 | apply Kd.eu | apply Kd.aaH)); exact awY.out) hb);have bT := aa.mk (aC (bk av2) hb);have di := aa.mk (aC (bk aBV) hb);have n4_ := aa.mk (aM (bO HB) hb);clear aBS awY av2 aBV HB;have aBS := bP;have awY := bQ;have av2 := bT;have aBV := di;have HB := n4_;clear bP bQ bT di n4_;(try clear hb);(try clear hb2);(try clear hk);(try clear hi);refine hK.out _ _ ⟨(ae av2.out 0).trans rfl, (ae av2.out 1).trans rfl, (ae av2.out 2).trans rfl, (ae av2.out 3).trans rfl, (ae aBV.out 0).trans rfl, (ae aBV.out 1).trans rfl, aOg, aPT⟩ (fun hHeld => ?_);clear hK K;refine bS (a' := ?_) ?_ ?_;rotate_left
             ·show Act.put _ (some 68) _ = _;simp only [Act.put, List.setIfInBounds_toArray, List.set_cons_zero, List.set_cons_succ, bH, bI];rfl
             refine fG (fuel := 0) [(16, 73), (17, 74), (18, 6)] #[true, true, true, true, true, true, true, true, true, true, true, true, true, true, true, true, true, true, true] (df dA.out ji.out _ _ _ (by kernel_rfl)) rfl (fun _ _ _ _ _ h => h) hHeld (a' := ?_) ?_ ?_;rotate_left
             ·iterate 3
               refine bC (v := ?_) (a1 := ?_) rfl rfl (Or.inl ⟨by rfl, ?_⟩) ?_ ?_;rotate_left 2
               ·rintro w' ⟨s0, s1, s2, s3, s4, s5, s6, s7⟩;go_simp;first | with_reducible rfl | exact aLR _ _ _ _ _
               ·simp only [Act.put, List.setIfInBounds_toArray, List.set_cons_zero, List.set_cons_succ, bH, bI];rfl
              exact chain_nil
             refine gH (dV dA.out (by kernel_rfl)) ?_;try go_wp2
             go_ret;exact ⟨by first | rfl | (simp [aW, aX] <;> rfl) | (simp only [← aNs]; first | rfl | (simp [aW, aX] <;> rfl)) | (simp [*, aW, aX] <;> rfl), bO HB⟩
            ·rw [if_neg OZ] at H;exact absurd H (by simp)
           ·rw [if_neg c41] at H;exact absurd H (by simp)
          ·replace c38 := Bool.eq_false_iff.mpr c38;subst c38;have H1 : (some false) = some r := by rw [if_neg (show ¬ (false = true) by decide)] at H; exact H
           clear H;have H := H1;clear H1;obtain rfl := Option.some.inj H;try go_wp2
           have bP := aa.mk (Kd.aaH aBS.out);have bQ := aa.mk (Kd.aaH awY.out);have bT := aa.mk (az av2.out);have di := aa.mk (az aBV.out);have n4_ := aa.mk (fK HB.out);clear aBS awY av2 aBV HB;have aBS := bP;have awY := bQ;have av2 := bT;have aBV := di;have HB := n4_;clear bP bQ bT di n4_;refine fu (n := 19) (S := fun w' => w'.cell? ⟨aCm, 0, none⟩ = some (.int .i64 aR) ∧ w'.cell? ⟨aCm, 1, none⟩ = some (.int .i64 iR) ∧ w'.cell? ⟨aCm, 2, none⟩ = some (.int .i64 vX) ∧ w'.cell? ⟨aCm, 3, none⟩ = some (.slice aps bf.length ao4) ∧ w'.cell? ⟨aKP, 0, none⟩ = some (.int .i64 aMh) ∧ w'.cell? ⟨aKP, 1, none⟩ = some (.slice aKT aL1.length aKU)) (ds := []) #[false, false, false, false, false, false, false, false, false, false, false, false, false, false, false, false, false, false, false] (by kernel_rfl) rfl rfl ⟨(ae av2.out 0).trans rfl, (ae av2.out 1).trans rfl, (ae av2.out 2).trans rfl, (ae av2.out 3).trans rfl, (ae aBV.out 0).trans rfl, (ae aBV.out 1).trans rfl⟩ (fun hHeld => ?_); refine dw j4.anI j4.aks (fun dA ji => ?_);generalize wc.drew = w47 at aBS awY av2 aBV HB hHeld ⊢;refine fT (i := 0) (N := some 57) #[true, false, false, false, false, false, false, false, false, false, false, false, false, false, false, false, false, false, false] rfl rfl (dn dA.out (by kernel_rfl)) (by decide) (fun K hK => ?_);refine uC Try.func47 (by kernel_rfl) rfl #[] (by rfl) rfl rfl (by (try simp only [List.map_toArray, List.map_cons, List.map_nil]); first | done | rfl | (simp only [List.length_drop, List.length_take]; rfl)) ?_;with_reducible refine (apq.calls  true _ A35.out).mono ?_
           rintro e w48 ⟨rfl, hb⟩;refine ⟨_, rfl, ?_⟩;have bP := aa.mk (Kd.bu (by (with_reducible repeat (first | apply Kd.ay5 | apply Kd.eu | apply Kd.aaH)); exact aBS.out) hb);have bQ := aa.mk (Kd.bu (by (with_reducible repeat (first | apply Kd.ay5 | apply Kd.eu | apply Kd.aaH)); exact awY.out) hb);have bT := aa.mk (aC (bk av2) hb);have di := aa.mk (aC (bk aBV) hb);have n4_ := aa.mk (aM (bO HB) hb);clear aBS awY av2 aBV HB;have aBS := bP;have awY := bQ;have av2 := bT;have aBV := di;have HB := n4_;clear bP bQ bT di n4_;(try clear hb);(try clear hb2);(try clear hk);(try clear hi);refine hK.out _ _ ⟨(ae av2.out 0).trans rfl, (ae av2.out 1).trans rfl, (ae av2.out 2).trans rfl, (ae av2.out 3).trans rfl, (ae aBV.out 0).trans rfl, (ae aBV.out 1).trans rfl⟩ (fun hHeld => ?_);clear hK K;refine bS (a' := ?_) ?_ ?_;rotate_left
           ·show Act.put _ (some 57) _ = _;simp only [Act.put, List.setIfInBounds_toArray, List.set_cons_zero, List.set_cons_succ, bH, bI];rfl
           refine fG (fuel := 14) [(1, 58), (3, 60), (2, 59), (4, 61)] #[true, true, true, true, true, false, false, false, false, false, false, false, false, false, false, false, false, false, false] (df dA.out ji.out _ _ _ (by kernel_rfl)) rfl (fun _ _ _ _ _ h => h) hHeld (a' := ?_) ?_ ?_;rotate_left
           ·iterate 4
             refine bC (v := ?_) (a1 := ?_) rfl rfl (Or.inl ⟨by rfl, ?_⟩) ?_ ?_;rotate_left 2
             ·rintro w' ⟨s0, s1, s2, s3, s4, s5⟩;go_simp;first | with_reducible rfl | exact aLR _ _ _ _ _
             ·simp only [Act.put, List.setIfInBounds_toArray, List.set_cons_zero, List.set_cons_succ, bH, bI];rfl
            exact chain_nil
           refine fT (i := 5) (N := some 62) #[true, true, true, true, true, true, false, false, false, false, false, false, false, false, false, false, false, false, false] rfl rfl (dn dA.out (by kernel_rfl)) (by decide) (fun K hK => ?_);refine uC Try.func55 (by kernel_rfl) rfl #[.agg #[.int .i64 aR, .int .i64 iR, .int .i64 vX, .slice aps bf.length ao4], .int .i64 (Int.tmod (wrap64 (a2)) iR), .agg #[.int .i64 aMh, .slice aKT aL1.length aKU]] (by rfl) rfl rfl (by (try simp only [List.map_toArray, List.map_cons, List.map_nil]); first | done | rfl | (simp only [List.length_drop, List.length_take]; rfl)) ?_;with_reducible refine (j3.calls kj21 aR iR vX _ _ bf (Int.tmod (wrap64 (a2)) iR) aMh _ _ aL1 false _ ?side1 ?side2 ?side3 ?side4 A37.out).mono ?_
           (case side1 => repeat (first | exact (Kd.bF aqx.out HB.out) | (with_reducible refine Kd.dF ?_ _) | (with_reducible refine Kd.dG ?_ _) | (with_reducible refine Kd.eG ?_)));(case side2 => exact aqH.out);(case side3 => repeat (first | exact (Kd.dD awY.out).2.2 | (with_reducible refine Kd.dF ?_ _) | (with_reducible refine Kd.dG ?_ _) | (with_reducible refine Kd.eG ?_)));(case side4 => exact (Kd.dD awY.out).2.1);rintro e w49 ⟨rfl, hb⟩;refine ⟨_, rfl, ?_⟩;have bP := aa.mk (Kd.bu (by (with_reducible repeat (first | apply Kd.ay5 | apply Kd.eu | apply Kd.aaH)); exact aBS.out) hb);have bQ := aa.mk (Kd.bu (by (with_reducible repeat (first | apply Kd.ay5 | apply Kd.eu | apply Kd.aaH)); exact awY.out) hb);have bT := aa.mk (aC (bk av2) hb);have di := aa.mk (aC (bk aBV) hb);have n4_ := aa.mk (aM (bO HB) hb);clear aBS awY av2 aBV HB;have aBS := bP;have awY := bQ;have av2 := bT;have aBV := di;have HB := n4_;clear bP bQ bT di n4_;(try clear hb);(try clear hb2);(try clear hk);(try clear hi);refine hK.out _ _ ⟨(ae av2.out 0).trans rfl, (ae av2.out 1).trans rfl, (ae av2.out 2).trans rfl, (ae av2.out 3).trans rfl, (ae aBV.out 0).trans rfl, (ae aBV.out 1).trans rfl⟩ (fun hHeld => ?_);clear hK K;refine bS (a' := ?_) ?_ ?_;rotate_left
           ·show Act.put _ (some 62) _ = _;simp only [Act.put, List.setIfInBounds_toArray, List.set_cons_zero, List.set_cons_succ, bH, bI];rfl
           refine fG (fuel := 0) [(6, 63), (7, 64), (8, 65), (9, 66), (10, 67), (11, 68), (12, 69), (13, 70), (14, 71), (15, 72), (16, 73), (17, 74), (18, 6)] #[true, true, true, true, true, true, true, true, true, true, true, true, true, true, true, true, true, true, true] (df dA.out ji.out _ _ _ (by kernel_rfl)) rfl (fun _ _ _ _ _ h => h) hHeld (a' := ?_) ?_ ?_;rotate_left
           ·iterate 2
             refine bC (v := ?_) (a1 := ?_) rfl rfl (Or.inl ⟨by rfl, ?_⟩) ?_ ?_;rotate_left 2
             ·rintro w' ⟨s0, s1, s2, s3, s4, s5⟩;go_simp;first | with_reducible rfl | exact aLR _ _ _ _ _
             ·simp only [Act.put, List.setIfInBounds_toArray, List.set_cons_zero, List.set_cons_succ, bH, bI];rfl
            iterate 9
             refine jQ (a1 := ?_) rfl rfl (by rfl) ?_ ?_;rotate_left
             ·simp only [Act.put, List.setIfInBounds_toArray, List.set_cons_zero, List.set_cons_succ];rfl
            iterate 2
             refine bC (v := ?_) (a1 := ?_) rfl rfl (Or.inl ⟨by rfl, ?_⟩) ?_ ?_;rotate_left 2
             ·rintro w' ⟨s0, s1, s2, s3, s4, s5⟩;go_simp;first | with_reducible rfl | exact aLR _ _ _ _ _
             ·simp only [Act.put, List.setIfInBounds_toArray, List.set_cons_zero, List.set_cons_succ, bH, bI];rfl
            exact chain_nil
           refine gH (dV dA.out (by kernel_rfl)) ?_;try go_wp2
           go_ret;exact ⟨by first | rfl | (simp [aW, aX] <;> rfl) | (simp [*, aW, aX] <;> rfl), bO HB⟩
         ·replace c36 := Bool.eq_false_iff.mpr c36;subst c36;have H1 : (some false) = some r := by rw [if_neg (show ¬ (false = true) by decide)] at H; exact H
          clear H;have H := H1;clear H1;obtain rfl := Option.some.inj H;try go_wp2
          have bP := aa.mk (Kd.aaH aBS.out);have bQ := aa.mk (Kd.aaH awY.out);have bT := aa.mk (az av2.out);have di := aa.mk (az aBV.out);have n4_ := aa.mk (fK HB.out);clear aBS awY av2 aBV HB;have aBS := bP;have awY := bQ;have av2 := bT;have aBV := di;have HB := n4_;clear bP bQ bT di n4_;refine fu (n := 19) (S := fun w' => True) (ds := []) #[false, false, false, false, false, false, false, false, false, false, false, false, false, false, false, false, false, false, false] (by kernel_rfl) rfl rfl trivial (fun hHeld => ?_); refine dw j4.anI j4.aks (fun dA ji => ?_);generalize wc.drew = w50 at aBS awY av2 aBV HB hHeld ⊢;refine fT (i := 0) (N := some 57) #[true, false, false, false, false, false, false, false, false, false, false, false, false, false, false, false, false, false, false] rfl rfl (dn dA.out (by kernel_rfl)) (by decide) (fun K hK => ?_);refine uC Try.func47 (by kernel_rfl) rfl #[] (by rfl) rfl rfl (by (try simp only [List.map_toArray, List.map_cons, List.map_nil]); first | done | rfl | (simp only [List.length_drop, List.length_take]; rfl)) ?_;with_reducible refine (apq.calls  false _ A35.out).mono ?_
          rintro e Wn ⟨rfl, hb⟩;refine ⟨_, rfl, ?_⟩;have bP := aa.mk (Kd.bu (by (with_reducible repeat (first | apply Kd.ay5 | apply Kd.eu | apply Kd.aaH)); exact aBS.out) hb);have bQ := aa.mk (Kd.bu (by (with_reducible repeat (first | apply Kd.ay5 | apply Kd.eu | apply Kd.aaH)); exact awY.out) hb);have bT := aa.mk (aC (bk av2) hb);have di := aa.mk (aC (bk aBV) hb);have n4_ := aa.mk (aM (bO HB) hb);clear aBS awY av2 aBV HB;have aBS := bP;have awY := bQ;have av2 := bT;have aBV := di;have HB := n4_;clear bP bQ bT di n4_;(try clear hb);(try clear hb2);(try clear hk);(try clear hi);refine hK.out _ _ trivial (fun hHeld => ?_);clear hK K;refine bS (a' := ?_) ?_ ?_;rotate_left
          ·show Act.put _ (some 57) _ = _;simp only [Act.put, List.setIfInBounds_toArray, List.set_cons_zero, List.set_cons_succ, bH, bI];rfl
          refine fG (fuel := 0) [(1, 58), (2, 59), (3, 60), (4, 61), (5, 62), (6, 63), (7, 64), (8, 65), (9, 66), (10, 67), (11, 68), (12, 69), (13, 70), (14, 71), (15, 72), (16, 73), (17, 74), (18, 6)] #[true, true, true, true, true, true, true, true, true, true, true, true, true, true, true, true, true, true, true] (df dA.out ji.out _ _ _ (by kernel_rfl)) rfl (fun _ _ _ _ _ h => h) hHeld (a' := ?_) ?_ ?_;rotate_left
          ·iterate 1
            refine bC (v := ?_) (a1 := ?_) rfl rfl (Or.inl ⟨by rfl, ?_⟩) ?_ ?_;rotate_left 2
            ·intro w' _;go_simp;first | with_reducible rfl | exact aLR _ _ _ _ _
            ·simp only [Act.put, List.setIfInBounds_toArray, List.set_cons_zero, List.set_cons_succ, bH, bI];rfl
           iterate 4
            refine jQ (a1 := ?_) rfl rfl (by rfl) ?_ ?_;rotate_left
            ·simp only [Act.put, List.setIfInBounds_toArray, List.set_cons_zero, List.set_cons_succ];rfl
           iterate 2
            refine bC (v := ?_) (a1 := ?_) rfl rfl (Or.inl ⟨by rfl, ?_⟩) ?_ ?_;rotate_left 2
            ·intro w' _;go_simp;first | with_reducible rfl | exact aLR _ _ _ _ _
            ·simp only [Act.put, List.setIfInBounds_toArray, List.set_cons_zero, List.set_cons_succ, bH, bI];rfl
           iterate 9
            refine jQ (a1 := ?_) rfl rfl (by rfl) ?_ ?_;rotate_left
            ·simp only [Act.put, List.setIfInBounds_toArray, List.set_cons_zero, List.set_cons_succ];rfl
           iterate 2
            refine bC (v := ?_) (a1 := ?_) rfl rfl (Or.inl ⟨by rfl, ?_⟩) ?_ ?_;rotate_left 2
            ·intro w' _;go_simp;first | with_reducible rfl | exact aLR _ _ _ _ _
            ·simp only [Act.put, List.setIfInBounds_toArray, List.set_cons_zero, List.set_cons_succ, bH, bI];rfl
           exact chain_nil
          refine gH (dV dA.out (by kernel_rfl)) ?_;try go_wp2
          go_ret;exact ⟨by first | rfl | (simp [aW, aX] <;> rfl) | (simp [*, aW, aX] <;> rfl), bO HB⟩
        ·rw [if_neg c34] at H;have aOH : (aKD == 0) = false := beq_eq_false_iff_ne.mpr c34;have aSX : (aKD != 0) = true := bne_iff_ne.mpr c34;replace H := Option.bind_eq_some_iff.mp H;obtain ⟨aQa, aS0, H⟩ := H;replace H : (if aQa = true then (if aKD = 6 then (if 0 ≤ (Int.tmod (wrap64 (a2)) iR) then (if (Int.tmod (wrap64 (a2)) iR) < (aFn.length : Int) then (some (((bJ aFn (Int.tmod (wrap64 (a2)) iR)).f0) == 1099511627776)) else (none)) else (none)) else (some false)) else (some false)) = some r := H;have A52 := aa.mk aS0;clear aS0;by_cases c53 : aQa = true
         ·subst c53;have H1 : (if aKD = 6 then (if 0 ≤ (Int.tmod (wrap64 (a2)) iR) then (if (Int.tmod (wrap64 (a2)) iR) < (aFn.length : Int) then (some (((bJ aFn (Int.tmod (wrap64 (a2)) iR)).f0) == 1099511627776)) else (none)) else (none)) else (some false)) = some r := by rw [if_pos rfl] at H; exact H
          clear H;have H := H1;clear H1;by_cases c54 : aKD = 6
          ·rw [if_pos c54] at H;have aS1 : (aKD == 6) = true := beq_iff_eq.mpr c54;have aS2 : (aKD != 6) = false := bne_eq_false_iff_eq.mpr c54;clear c54;obtain ⟨aN2, aPn⟩ : ∃ j_ : Int, (Int.tmod (wrap64 (a2)) iR) = j_ := ⟨_, rfl⟩;replace H : (if 0 ≤ (aN2) then (if (aN2) < (aFn.length : Int) then (some (((bJ aFn (aN2)).f0) == 1099511627776)) else (none)) else (none)) = some r := by first | (rw [aPn] at H; exact H) | (simp only [aPn] at H ⊢; exact H)
           (try rw [aPn] at A52);by_cases c56 : 0 ≤ (aN2)
           ·rw [if_pos c56] at H;have aWA : decide (0 ≤ (aN2)) = true := decide_eq_true c56;clear c56;by_cases c57 : (aN2) < (aFn.length : Int)
            ·rw [if_pos c57] at H;have aWB : decide ((aN2) < (aFn.length : Int)) = true := decide_eq_true c57;clear c57;obtain rfl := Option.some.inj H;go_wp2_with (first | ((with_reducible refine dE (f := 47) rfl ?_); refine iB (some 44) rfl rfl Try.func47 (by kernel_rfl) rfl #[] rfl (by (try simp only [List.map_toArray, List.map_cons, List.map_nil]); first | done | rfl | (simp only [List.length_drop, List.length_take]; rfl)) ?_; (with_reducible refine (apq.calls  true _ A52.out).mono ?_); rintro e w58 ⟨rfl, hb⟩; refine ⟨_, rfl, ?_⟩; have bP := aa.mk (Kd.bu (by (with_reducible repeat (first | apply Kd.ay5 | apply Kd.eu | apply Kd.aaH)); exact aBS.out) hb); have bQ := aa.mk (Kd.bu (by (with_reducible repeat (first | apply Kd.ay5 | apply Kd.eu | apply Kd.aaH)); exact awY.out) hb); have bT := aa.mk (aC (bk av2) hb); have di := aa.mk (aC (bk aBV) hb); have n4_ := aa.mk (aM (bO HB) hb); clear aBS; clear awY; clear av2; clear aBV; clear HB; have aBS := bP; have awY := bQ; have av2 := bT; have aBV := di; have HB := n4_; clear bP bQ bT di n4_; (try clear hb); (try clear hb2); (try clear hk); (try clear hi); have aRO : 0 ≤ ((aN2) : Int) := of_decide_eq_true (by first | (with_reducible assumption) | assumption); have aRP : (aN2) < (aFn.length : Int) := of_decide_eq_true (by first | (with_reducible assumption) | assumption); obtain ⟨aWC, aUp, aTw, aTx⟩ := p9 (Kd.dD aBS.out).2.2 (aN2) aRO aRP; cases aUp; replace aRO := eq_true aRO; replace aRP := eq_true aRP))
             go_ret;exact ⟨by first | rfl | (simp [aW, aX] <;> rfl) | (simp only [← aPn]; first | rfl | (simp [aW, aX] <;> rfl)) | (simp [*, aW, aX] <;> rfl), bO HB⟩
            ·rw [if_neg c57] at H;exact absurd H (by simp)
           ·rw [if_neg c56] at H;exact absurd H (by simp)
          ·rw [if_neg c54] at H;have aS1 : (aKD == 6) = false := beq_eq_false_iff_ne.mpr c54;have aS2 : (aKD != 6) = true := bne_iff_ne.mpr c54;obtain rfl := Option.some.inj H;go_wp2_with (first | ((with_reducible refine dE (f := 47) rfl ?_); refine iB (some 44) rfl rfl Try.func47 (by kernel_rfl) rfl #[] rfl (by (try simp only [List.map_toArray, List.map_cons, List.map_nil]); first | done | rfl | (simp only [List.length_drop, List.length_take]; rfl)) ?_; (with_reducible refine (apq.calls  true _ A52.out).mono ?_); rintro e w59 ⟨rfl, hb⟩; refine ⟨_, rfl, ?_⟩; have bP := aa.mk (Kd.bu (by (with_reducible repeat (first | apply Kd.ay5 | apply Kd.eu | apply Kd.aaH)); exact aBS.out) hb); have bQ := aa.mk (Kd.bu (by (with_reducible repeat (first | apply Kd.ay5 | apply Kd.eu | apply Kd.aaH)); exact awY.out) hb); have bT := aa.mk (aC (bk av2) hb); have di := aa.mk (aC (bk aBV) hb); have n4_ := aa.mk (aM (bO HB) hb); clear aBS; clear awY; clear av2; clear aBV; clear HB; have aBS := bP; have awY := bQ; have av2 := bT; have aBV := di; have HB := n4_; clear bP bQ bT di n4_; (try clear hb); (try clear hb2); (try clear hk); (try clear hi)))
           go_ret;exact ⟨by first | rfl | (simp [aW, aX] <;> rfl) | (simp [*, aW, aX] <;> rfl), bO HB⟩
         ·replace c53 := Bool.eq_false_iff.mpr c53;subst c53;have H1 : (some false) = some r := by rw [if_neg (show ¬ (false = true) by decide)] at H; exact H
          clear H;have H := H1;clear H1;obtain rfl := Option.some.inj H;go_wp2_with (first | ((with_reducible refine dE (f := 47) rfl ?_); refine iB (some 44) rfl rfl Try.func47 (by kernel_rfl) rfl #[] rfl (by (try simp only [List.map_toArray, List.map_cons, List.map_nil]); first | done | rfl | (simp only [List.length_drop, List.length_take]; rfl)) ?_; (with_reducible refine (apq.calls  false _ A52.out).mono ?_); rintro e w60 ⟨rfl, hb⟩; refine ⟨_, rfl, ?_⟩; have bP := aa.mk (Kd.bu (by (with_reducible repeat (first | apply Kd.ay5 | apply Kd.eu | apply Kd.aaH)); exact aBS.out) hb); have bQ := aa.mk (Kd.bu (by (with_reducible repeat (first | apply Kd.ay5 | apply Kd.eu | apply Kd.aaH)); exact awY.out) hb); have bT := aa.mk (aC (bk av2) hb); have di := aa.mk (aC (bk aBV) hb); have n4_ := aa.mk (aM (bO HB) hb); clear aBS; clear awY; clear av2; clear aBV; clear HB; have aBS := bP; have awY := bQ; have av2 := bT; have aBV := di; have HB := n4_; clear bP bQ bT di n4_; (try clear hb); (try clear hb2); (try clear hk); (try clear hi)))
          go_ret;exact ⟨by first | rfl | (simp [aW, aX] <;> rfl) | (simp [*, aW, aX] <;> rfl), bO HB⟩
end Go.Proofs.Ytamimodkcbbpmaa.Pr
end
section
namespace Go.Proofs.Ytamimodkcbbpmaa.Pr
open Go.RowKit Go.Proofs.YtamimodkcbbpmaaW.PrintWords Go.Proofs.YtamimodkcbbpmaaW.PrintLast
set_option linter.unusedVariables false
set_option linter.unusedSimpArgs false
section
variable {T N : Int} {rs : List KH} {ins : List Int}
theorem aS3 (l : List dU) : arE l = l.map toP := by
 induction l with
 | nil => rfl
 | cons d l ih =>
  show toP d :: arE l = _;rw [ih];rfl
theorem BD.value (h : aqN T N rs ins) {v : Int} {d : dU} (hb : BD (aqo rs ins) (xL N.toNat (aqo rs ins)) v d) : (bJ (jy N.toNat (aqo rs ins)) v).f1 ≤ 1000 → (VP rs v (toP d) ∧ auE (toP d)) ∧ aCv rs ins (toP d) = bJ (jy N.toNat (aqo rs ins)) v := by
 have hM := h.mid;induction hb with
 | mk v d h0 h1 he h2 h3 hl hk ih =>
  intro hsz;obtain ⟨t, rfl⟩ : ∃ t : Nat, v = (t : Int) := ⟨v.toNat, by omega⟩;obtain ⟨q, hq, hql, htn, hT⟩ := BD.top hM (BD.mk (t : Int) d h0 h1 he h2 h3 hl hk);have hr := hM.UZ.ok _ (AA (jy N.toNat (aqo rs ins)) (t : Int) (by omega) (by rw [hM.UZ.len]; omega));obtain ⟨⟨hone, htt⟩, e0, e1⟩ := zT hM q t hql htn hT (by omega);have hqr : q < rs.length := by rw [atI] at hql; exact hql
  have eg := aCc (rs := rs) (ins := ins) q hqr;have hm := ayG rs q hqr;have aUq := h.len;rw [← hq] at eg hm htt e0 e1;have htl : (aj (aqo rs ins) d.f0).f1 = arc (Dj rs d.f0) := by rw [eg]; rfl
  have h2l := avn (Dj rs d.f0);have kid : ∀ j, j < d.f1.length → (VP rs ((arc (Dj rs d.f0)).getD j 0) (toP (d.f1.getD j z27)) ∧ auE (toP (d.f1.getD j z27))) ∧ aCv rs ins (toP (d.f1.getD j z27)) = bJ (jy N.toNat (aqo rs ins)) ((arc (Dj rs d.f0)).getD j 0) := by
   intro j hj;have hj2 := htt j (by rw [← hl]; exact hj);have := ih j hj (by omega);rw [htl] at this;exact this
  have hhead : (Dj rs d.f0).f1 = (t : Int) := by
   have := hT.1;rw [← hq, eg] at this;exact this
  have hlp : (arE d.f1).length = (arc (Dj rs d.f0)).length := by rw [auO, hl, htl]
  have ep : toP d = ⟨d.f0, arE d.f1⟩ := aBF d;refine ⟨⟨?_, ?_⟩, ?_⟩
  ·rw [ep, ← hhead];refine VP.mk ⟨d.f0, arE d.f1⟩ h2 (show d.f0 < (rs.length : Int) by omega) hlp (fun j hj => ?_);have hj2 : j < d.f1.length := by have h5 : (arE d.f1).length = d.f1.length := auO d.f1; simp only at hj; omega
   show VP rs _ ((arE d.f1).getD j z64);rw [aCj _ _ hj2];exact (kid j hj2).1.1
  ·rw [ep];refine auE.mk _ ⟨by show _ ≤ d.f0; omega, by show d.f0 ≤ _; omega⟩ (by show (arE d.f1).length ≤ _; omega) (lN _ z64 (fun j hj => ?_));have hj2 : j < d.f1.length := by have h5 : (arE d.f1).length = d.f1.length := auO d.f1; simp only at hj; omega
   show auE ((arE d.f1).getD j z64);rw [aCj _ _ hj2];exact (kid j hj2).1.2
  ·have ek : (arE d.f1).map (aCv rs ins) = tailV (jy N.toNat (aqo rs ins)) (aj (aqo rs ins) d.f0).f1 := by
    refine LG z34 _ _ (by rw [List.length_map, eY, hlp, htl]) (fun j hj => ?_);have hj2 : j < d.f1.length := by rw [List.length_map, auO] at hj; exact hj
    rw [kM _ _ _ (by rw [htl, ← hlp, auO]; exact hj2), htl, ← (kid j hj2).2];have hj3 : j < (arE d.f1).length := by rw [auO]; exact hj2
    rw [← aCj _ _ hj2, List.getD_eq_getElem?_getD, List.getElem?_map, List.getElem?_eq_getElem hj3, List.getD_eq_getElem?_getD, List.getElem?_eq_getElem hj3];rfl
   have TN : ∀ v, v ∈ tailV (jy N.toNat (aqo rs ins)) (aj (aqo rs ins) d.f0).f1 → okV v := by rw [hq]; exact hM.aeS q hql
   have hpos : ∀ x, x ∈ arE d.f1 → 0 ≤ (aCv rs ins x).f0 ∧ 0 ≤ (aCv rs ins x).f1 := by
    intro x hx;have hx2 : aCv rs ins x ∈ (arE d.f1).map (aCv rs ins) := List.mem_map_of_mem hx;rw [ek] at hx2;have := TN _ hx2;exact ⟨this.a, this.c⟩
   have hc := h.cost hm;have hfin := hT.2.1;have hce : (arh ins (Dj rs d.f0)).f2 = (aj (aqo rs ins) d.f0).f2 := by rw [eg]
   have hs := aN9 (rs := rs) (ins := ins) (arE d.f1) (aKX ins (Dj rs d.f0)) (by rw [aMl h hm]; exact hc.1) (by rw [aMl h hm]; show (0 : Int) ≤ 1; decide) hpos (by rw [aMl h hm, ek]; show (arh ins (Dj rs d.f0)).f2 + _ < _; omega) (by rw [aMl h hm, ek]; show (1 : Int) + _ < _; omega);rw [ep, aPR];show aLU rs ins (aKX ins (Dj rs d.f0)) (arE d.f1) = _;rw [hs, ek, aMl h hm];show (⟨(arh ins (Dj rs d.f0)).f2 + _, 1 + _⟩ : dK) = _;rw [hce, ← e0, ← e1]
end
section
variable (T N S : Int) (rs : List KH) (ins : List Int)
theorem aOr (vs : List dK) (hl : vs.length ≤ 9223372036854775807) : ∀ m i, i + m = vs.length → ∃ b, Ev (fun k => j5.l0 k vs (i : Int)) b ∧ (b = true → ∀ j : Nat, i ≤ j → j < vs.length → (bJ vs (j : Int)).f1 ≤ 1000)
 | 0, i, hi => by
  refine ⟨true, (Ev.const true).succ (fun k => ?_), fun _ j h1 h2 => absurd h2 (by omega)⟩;show j5.l0 (k + 1) _ _ = _;rw [j5.l0, if_neg (by omega)]
 | m + 1, i, hi => by
  by_cases h4 : (bJ vs (i : Int)).f1 > 1000
  ·refine ⟨false, (Ev.const false).succ (fun k => ?_), fun h => (by cases h)⟩;show j5.l0 (k + 1) _ _ = _;rw [j5.l0, if_pos (by omega), if_pos (by omega), if_pos h4]
  ·obtain ⟨b, eb, hb⟩ := aOr vs hl m (i + 1) (by omega);refine ⟨b, eb.succ (fun k => ?_), fun h j h1 h2 => ?_⟩
   ·show j5.l0 (k + 1) _ _ = _;rw [j5.l0, if_pos (by omega), if_pos (by omega), if_neg h4, RY i (by omega)]
   ·by_cases hj : j = i
    ·subst hj; omega
    ·exact hb h j (by omega) h2
theorem aRQ (hi : ins.length ≤ 9223372036854775807) (h1 : rs.length ≤ 60) (h2 : N ≤ 60) : ∃ b, Ev (fun k => j5.f k T N S rs ins) b ∧ (b = true → ar9 T N S rs ins = true ∧ ∀ j : Nat, (j : Int) < N → (bJ (jy N.toNat (aqo rs ins)) (j : Int)).f1 ≤ 1000) := by
 have hv := aBy T N S rs (by omega);have hp := ayu T N S rs ins hi;have bad : Ev (fun k => j5.j0 k ins true T N S rs) false := (Ev.const _).succ (fun k => by rw [j5.j0, if_pos rfl])
 cases hn : arD T N S rs with
 | false =>
  rw [hn] at hv;exact ⟨false, Ev.mp (Ev.bind (G := fun k aNO => if aNO = true then ((aqe.f k T N S rs ins).bind fun aKD => (j5.j0 k ins (!aKD) T N S rs)) else (j5.j0 k ins true T N S rs)) hv (bad.mp (fun k => rfl))) (fun k => by rw [j5.f]), fun h => (by cases h)⟩
 | true =>
  rw [hn] at hv;have wrap : ∀ b, Ev (fun k => j5.j0 k ins (!arS T ins) T N S rs) b → Ev (fun k => j5.f k T N S rs ins) b := fun b hx =>
   Ev.mp (Ev.bind (G := fun k aNO => if aNO = true then ((aqe.f k T N S rs ins).bind fun aKD => (j5.j0 k ins (!aKD) T N S rs)) else (j5.j0 k ins true T N S rs)) hv (Ev.mp (Ev.bind (G := fun k aKD => j5.j0 k ins (!aKD) T N S rs) hp hx) (fun k => if_pos rfl))) (fun k => by rw [j5.f])
  cases hpo : arS T ins with
  | false => exact ⟨false, wrap _ (by rw [hpo]; exact bad), fun h => (by cases h)⟩
  | true =>
   have hb : ar9 T N S rs ins = true := by unfold ar9; rw [hn, hpo]; rfl
   have hN := aqN.of hb h1 h2;have hvv : ar0 T N S rs ins = jy N.toNat (aqo rs ins) := by unfold ar0; rw [if_pos hb]
   have hlen := hN.mid.UZ.len;have hn1 := hN.n1;have e1 := axi (T := T) (S := S) (ins := ins) hi h1 h2;rw [hvv] at e1;obtain ⟨b, e2, hb2⟩ := aOr (jy N.toNat (aqo rs ins)) (by omega) (jy N.toNat (aqo rs ins)).length 0 (by omega);have e3 : Ev (fun k => j5.j1 k ins T N S rs) b := (Ev.bind (G := fun k aMv => j5.l0 k aMv 0) e1 e2).succ (fun k => by rw [j5.j1]);refine ⟨b, wrap b (by rw [hpo]; exact e3.succ (fun k => by rw [j5.j0]; rfl)), fun h => ⟨hb, fun j hj => hb2 h j (Nat.zero_le _) (by omega)⟩⟩
theorem aOs (a : Int) (ha : 0 ≤ a ∧ a ≤ 255) : Ev (fun k => j4.f k T N S rs ins a) true := by
 obtain ⟨b, hb, hs⟩ := aAz T N S rs ins;have aw : Ev (fun k => j4.j0 k ins a true T N S rs) true := (Ev.const true).succ (fun k => by rw [j4.j0, if_pos rfl]; rfl)
 cases b with
 | false => exact aw.mp (fun k => by rw [j4.f, hb]; rfl)
 | true =>
  obtain ⟨h1, h2, h3⟩ := hs rfl;have hi : ins.length ≤ 9223372036854775807 := by omega
  obtain ⟨bm, eM, hm⟩ := aRQ T N S rs ins hi h1 h2;have go : Ev (fun k => j4.j0 k ins a (!bm) T N S rs) true := by
   cases bm with
   | false => exact aw
   | true =>
    obtain ⟨hbo, hsz⟩ := hm rfl;have hN := aqN.of hbo h1 h2;have hM := hN.mid;have hn1 := hN.n1;have hlen := hM.UZ.len;have hvv : ar0 T N S rs ins = jy N.toNat (aqo rs ins) := by unfold ar0; rw [if_pos hbo]
    have e1 := ayy (T := T) (S := S) (ins := ins) hi h1 h2;rw [hvv] at e1;have hw : wrap64 a = a := aMu _ ha.1 (by omega);obtain ⟨t, ht⟩ : ∃ t : Nat, Int.tmod a N = (t : Int) := ⟨(Int.tmod a N).toNat, by have := Int.tmod_nonneg N ha.1; omega⟩;have htn : (t : Int) < N := by rw [← ht]; exact Int.tmod_lt_of_pos a (by omega)
    have hPe : ∃ (d : dU) (e : Int), PR T N S rs ins (t : Int) (d.f0, arE d.f1, e) ∧ Ev (fun k => j4.j2 k ins (t : Int) (jy N.toNat (aqo rs ins)) e T N S rs d.f0 (arE d.f1)) true := by
     by_cases hc : 1099511627776 ≤ (bJ (jy N.toNat (aqo rs ins)) (t : Int)).f0
     ·refine ⟨⟨0, []⟩, 6, aFw T N S rs ins _ hi h1 h2 hbo ⟨by omega, htn⟩ hc, ?_⟩;have hok := hM.UZ.ok _ (AA (jy N.toNat (aqo rs ins)) (t : Int) (by omega) (by rw [hM.UZ.len]; omega));have hcc : (bJ (jy N.toNat (aqo rs ins)) (t : Int)).f0 = 1099511627776 := by have := hok.b; omega
      refine (Ev.const true).succ (fun k => ?_);rw [j4.j2, if_neg (by decide), apq.f, Option.bind_some, if_pos rfl, if_pos rfl, if_pos (by omega), if_pos (by omega), hcc];rfl
     ·have hs1 := hsz t htn;obtain ⟨d, hd⟩ := BD.fin hM (t := t) (by omega) (by omega) (by omega);obtain ⟨⟨hvp, hft⟩, hval⟩ := hd.value hN hs1;refine ⟨d, 0, aFx T N S rs ins _ hi h1 h2 hbo ⟨by omega, htn⟩ (by omega) hs1 hd, ?_⟩;obtain ⟨bv, eV, hbv⟩ := aSQ T N S rs hft (t : Int);obtain rfl : bv = true := hbv.2 hvp;rw [aBF] at eV hvp hval;have hC : aBT.f T N S rs ins d.f0 (arE d.f1) = some ((bJ (jy N.toNat (aqo rs ins)) (t : Int)).f0, (bJ (jy N.toNat (aqo rs ins)) (t : Int)).f1) := by
       unfold aBT.f;rw [if_pos (aRG hN hvp), hval]
      refine (Ev.bind (G := fun k aN1 => if aN1 = true then ((aBT.f T N S rs ins d.f0 (arE d.f1)).bind fun aKS => (if 0 ≤ (t : Int) then (if (t : Int) < ((jy N.toNat (aqo rs ins)).length : Int) then (some (aKS.1 == ((bJ (jy N.toNat (aqo rs ins)) (t : Int)).f0) && (aKS.2 == ((bJ (jy N.toNat (aqo rs ins)) (t : Int)).f1)))) else (none)) else (none))) else (some false)) eV ((Ev.const true).mp (fun k => by rw [if_pos rfl, hC, Option.bind_some, if_pos (by omega), if_pos (by omega)]; simp))).succ (fun k => ?_);rw [j4.j2, if_pos rfl, apq.f, Option.bind_some, if_pos rfl]
    obtain ⟨d, e, hPR, hj2⟩ := hPe;have e5 : Ev (fun k => j4.j1 k ins a T N S rs) true := by
     refine (Ev.bind (G := fun k aFn => (apm.f k T N S rs ins (Int.tmod (wrap64 a) N)).bind fun aLV => (if (aFn.length : Int) = N then (j4.j2 k ins (Int.tmod (wrap64 a) N) aFn aLV.2.2 T N S rs aLV.1 aLV.2.1) else (some false))) e1 (Ev.mp (Ev.bind (G := fun k aLV => if ((jy N.toNat (aqo rs ins)).length : Int) = N then (j4.j2 k ins (t : Int) (jy N.toNat (aqo rs ins)) aLV.2.2 T N S rs aLV.1 aLV.2.1) else (some false)) hPR (hj2.mp (fun k => if_pos (by omega)))) (fun k => by rw [hw, ht]))).succ (fun k => ?_);rw [j4.j1, if_neg (by omega)]
    exact e5.succ (fun k => by rw [j4.j0]; rfl)
  exact Ev.mp (Ev.bind (G := fun k aMO => j4.j0 k ins a (!aMO) T N S rs) eM go) (fun k => by rw [j4.f, hb]; rfl)
end
theorem aOm (T N S : Int) (A : Option Addr) (c : Nat) (rs : List KH) (AI : Option Addr) (ci : Nat) (ins : List Int) (a : Int) (w : World) (h0 : aCh w A c rs) (h1 : aCi w AI ci ins) (h2 : 0 ≤ a ∧ a ≤ 255) :
  Calls Try.prog 14 #[.agg #[.int .i64 T, .int .i64 N, .int .i64 S, .slice A rs.length c], .slice AI ins.length ci, .int .u8 a] w fun e w' => e = .returned (.bool true) ∧ Below w.heap.size w w' := by
 obtain ⟨K, hK⟩ := (aOs T N S rs ins a h2).ex;exact j4.calls K T N S A c rs AI ci ins a true w h0.C h0.c h1.C h1.c hK
end Go.Proofs.Ytamimodkcbbpmaa.Pr
end
