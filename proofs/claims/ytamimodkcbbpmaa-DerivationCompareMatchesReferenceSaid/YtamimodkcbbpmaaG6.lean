/- F34 F77 LA LB LC LD F60 F62 F63 LE: a part of the proof of the row of a; no conditions. -/
import Derived.Test.YtamimodkcbbpmaaG2
import Derived.Test.YtamimodkcbbpmaaG3
section
namespace Go.Proofs.Ytamimodkcbbpmaa.Pr
open Go.RowKit Go.Proofs.YtamimodkcbbpmaaW.PrintWords Go.Proofs.YtamimodkcbbpmaaW.PrintLast Go.Proofs.YtamimodkcbbpmaaW.PrintMore Go.Proofs.YtamimodkcbbpmaaXW
attribute [local go_sem] kv ky lX lY jf jg kz kC
set_option linter.unusedVariables false
set_option linter.unusedSimpArgs false
mutual
def aA.j0 : Nat → Bool → Int → List (dO) → Option (Bool)
 | 0, _, _, _ => none
 | k + 1, XX, jc, dR => if XX = true then (some false) else (aA.j1 k jc dR)
def aA.j1 : Nat → Int → List (dO) → Option (Bool)
 | 0, _, _ => none
 | k + 1, jc, dR => aA.l0 k 0 jc dR
def aA.l0 : Nat → Int → Int → List (dO) → Option (Bool)
 | 0, _, _, _ => none
 | k + 1, x3, jc, dR => if x3 < (dR.length : Int) then (aA.j3 k x3 jc dR) else (some true)
def aA.j3 : Nat → Int → Int → List (dO) → Option (Bool)
 | 0, _, _, _ => none
 | k + 1, x3, jc, dR => if 0 ≤ x3 then (if x3 < (dR.length : Int) then (if ((aj dR x3).f0) < 0 then (aA.j4 k x3 true jc dR ((aj dR x3).f0) ((aj dR x3).f1) ((aj dR x3).f2) ((aj dR x3).f3.f0) ((aj dR x3).f3.f1)) else (if ((aj dR x3).f0) ≥ jc then (aA.j4 k x3 true jc dR ((aj dR x3).f0) ((aj dR x3).f1) ((aj dR x3).f2) ((aj dR x3).f3.f0) ((aj dR x3).f3.f1)) else (if ((aj dR x3).f2) < 0 then (aA.j4 k x3 true jc dR ((aj dR x3).f0) ((aj dR x3).f1) ((aj dR x3).f2) ((aj dR x3).f3.f0) ((aj dR x3).f3.f1)) else (aA.j4 k x3 (decide (((aj dR x3).f2) > 1099511627776)) jc dR ((aj dR x3).f0) ((aj dR x3).f1) ((aj dR x3).f2) ((aj dR x3).f3.f0) ((aj dR x3).f3.f1))))) else (none)) else (none)
def aA.j4 : Nat → Int → Bool → Int → List (dO) → Int → List Int → Int → Int → Int → Option (Bool)
 | 0, _, _, _, _, _, _, _, _, _ => none
 | k + 1, x3, x45, jc, dR, BH, tQ, BI, BJ, BK => if x45 = true then (some false) else (aA.j5 k x3 jc dR BH tQ BI BJ BK)
def aA.j5 : Nat → Int → Int → List (dO) → Int → List Int → Int → Int → Int → Option (Bool)
 | 0, _, _, _, _, _, _, _, _ => none
 | k + 1, x3, jc, dR, BH, tQ, BI, BJ, BK => aA.l1 k x3 0 jc dR BH tQ BI BJ BK
def aA.l1 : Nat → Int → Int → Int → List (dO) → Int → List Int → Int → Int → Int → Option (Bool)
 | 0, _, _, _, _, _, _, _, _, _ => none
 | k + 1, x3, x5, jc, dR, BH, tQ, BI, BJ, BK => if x5 < (tQ.length : Int) then (if 0 ≤ x5 then (if (rd tQ x5) < 0 then (some false) else (if (rd tQ x5) ≥ jc then (some false) else (aA.l1 k x3 (wrap64 (x5 + 1)) jc dR BH tQ BI BJ BK))) else (none)) else (aA.l0 k (wrap64 (x3 + 1)) jc dR)
end
def aA.f (k : Nat) (aR : Int) (aH : List (dO)) : Option (Bool) := if aR < 1 then (aA.j0 k true aR aH) else (aA.j0 k (decide (aR > 1048576)) aR aH)
theorem aA.eD : ∀ k, (∀ y0 y1 y2, dz (aA.j0 k y0 y1 y2) (aA.j0 (k + 1) y0 y1 y2)) ∧ (∀ y0 y1, dz (aA.j1 k y0 y1) (aA.j1 (k + 1) y0 y1)) ∧ (∀ y0 y1 y2, dz (aA.l0 k y0 y1 y2) (aA.l0 (k + 1) y0 y1 y2)) ∧ (∀ y0 y1 y2, dz (aA.j3 k y0 y1 y2) (aA.j3 (k + 1) y0 y1 y2)) ∧ (∀ y0 y1 y2 y3 y4 y5 y6 y7 y8, dz (aA.j4 k y0 y1 y2 y3 y4 y5 y6 y7 y8) (aA.j4 (k + 1) y0 y1 y2 y3 y4 y5 y6 y7 y8)) ∧ (∀ y0 y1 y2 y3 y4 y5 y6 y7, dz (aA.j5 k y0 y1 y2 y3 y4 y5 y6 y7) (aA.j5 (k + 1) y0 y1 y2 y3 y4 y5 y6 y7)) ∧ (∀ y0 y1 y2 y3 y4 y5 y6 y7 y8, dz (aA.l1 k y0 y1 y2 y3 y4 y5 y6 y7 y8) (aA.l1 (k + 1) y0 y1 y2 y3 y4 y5 y6 y7 y8))
 | 0 => ⟨fun _ _ _ r h => by simp [aA.j0] at h, fun _ _ r h => by simp [aA.j1] at h, fun _ _ _ r h => by simp [aA.l0] at h, fun _ _ _ r h => by simp [aA.j3] at h, fun _ _ _ _ _ _ _ _ _ r h => by simp [aA.j4] at h, fun _ _ _ _ _ _ _ _ r h => by simp [aA.j5] at h, fun _ _ _ _ _ _ _ _ _ r h => by simp [aA.l1] at h⟩
 | k + 1 => by
  obtain ⟨jP, ih1, ih2, ih3, Wi, Wj, ih6⟩ := aA.eD k;refine ⟨?_, ?_, ?_, ?_, ?_, ?_, ?_⟩;all_goals intros
  all_goals first | unfold aA.j0 | unfold aA.j1 | unfold aA.l0 | unfold aA.j3 | unfold aA.j4 | unfold aA.j5 | unfold aA.l1
  all_goals
   repeat' first
   | (with_reducible exact jP _ _ _)
   | (with_reducible exact ih1 _ _)
   | (with_reducible exact ih2 _ _ _)
   | (with_reducible exact ih3 _ _ _)
   | (with_reducible exact Wi _ _ _ _ _ _ _ _ _)
   | (with_reducible exact Wj _ _ _ _ _ _ _ _)
   | (with_reducible exact ih6 _ _ _ _ _ _ _ _ _)
   | (with_reducible exact dz.refl _)
   | (with_reducible exact dz.none _)
   | (with_reducible refine dz.ite ?_ ?_)
   | (with_reducible refine dz.bind ?_ (fun _ => ?_))
   | exact jP _ _ _
   | exact ih1 _ _
   | exact ih2 _ _ _
   | exact ih3 _ _ _
   | exact Wi _ _ _ _ _ _ _ _ _
   | exact Wj _ _ _ _ _ _ _ _
   | exact ih6 _ _ _ _ _ _ _ _ _
   | exact dz.none _
   | refine dz.ite ?_ ?_
   | refine dz.bind ?_ (fun _ => ?_)
theorem aA.mono : ∀ a0 a1 k, dz (aA.f k a0 a1) (aA.f (k + 1) a0 a1) := by
 intro a0 a1 k;obtain ⟨jP, ih1, ih2, ih3, Wi, Wj, ih6⟩ := aA.eD k;unfold aA.f;repeat' first
   | (with_reducible exact jP _ _ _)
   | (with_reducible exact ih1 _ _)
   | (with_reducible exact ih2 _ _ _)
   | (with_reducible exact ih3 _ _ _)
   | (with_reducible exact Wi _ _ _ _ _ _ _ _ _)
   | (with_reducible exact Wj _ _ _ _ _ _ _ _)
   | (with_reducible exact ih6 _ _ _ _ _ _ _ _ _)
   | (with_reducible exact dz.refl _)
   | (with_reducible exact dz.none _)
   | (with_reducible refine dz.ite ?_ ?_)
   | (with_reducible refine dz.bind ?_ (fun _ => ?_))
   | exact jP _ _ _
   | exact ih1 _ _
   | exact ih2 _ _ _
   | exact ih3 _ _ _
   | exact Wi _ _ _ _ _ _ _ _ _
   | exact Wj _ _ _ _ _ _ _ _
   | exact ih6 _ _ _ _ _ _ _ _ _
   | exact dz.none _
   | refine dz.ite ?_ ?_
   | refine dz.bind ?_ (fun _ => ?_)
set_option maxHeartbeats 8000000 in
set_option maxRecDepth 100000 in
theorem aA.calls (k : Nat) (aR : Int) (bW : Option Addr) (bN : Nat) (aH : List (dO)) (r : Bool) (w : World) (fw : Kd.C sJ w bW aH.length aH) (fC : aH.length ≤ bN) (h : aA.f k aR aH = some r) :
  Calls Try.prog 34 #[.agg #[.int .i64 aR, .slice bW aH.length bN]] w fun e w' => e = .returned (.bool r) ∧ Below w.heap.size w w' := by
 have ES := Try.underlying24;have aaB := Try.underlying54;have eP := aa.mk fw;have fP := aa.mk fC;clear fw fC;have HB := aa.mk (Below.refl w.heap.size w);have H : (if aR < 1 then (aA.j0 k true aR aH) else (aA.j0 k (decide (aR > 1048576)) aR aH)) = some r := h;clear h;have Uc := aa.mk H;clear H;go_enter Try.func34, Try.ntmps34
 go_upto_region 1 with (first | ((with_reducible refine bM (N := 1) rfl ?_); refine bG ?hg (N := 1) ?hd (cs := #[.int .i64 aR, .slice bW aH.length bN]) (t := 24) ?hr ?_; (case hd => rfl); (case hg => rfl); (case hr => first | (go_simp; done) | (go_simp; rfl)); intro ic hg w3 bR hb; have bP := aa.mk (aM (bO HB) hb); have bQ := aa.mk (bR); have bT := aa.mk ((by rw [hg]; exact (aK (bO HB)) : w.heap.size ≤ ic)); have di := aa.mk ((by rw [hg]; exact (aK (bO HB)) : w.heap.size ≤ ic)); clear HB; have HB := bP; have dQ := bQ; have YO := bT; have YP := di; clear bP bQ bT di; clear hb bR hg))
 repeat (go_quiet (first | ((with_reducible refine bM (N := 1) rfl ?_); refine bG ?hg (N := 1) ?hd (cs := #[.int .i64 aR, .slice bW aH.length bN]) (t := 24) ?hr ?_; (case hd => rfl); (case hg => rfl); (case hr => first | (go_simp; done) | (go_simp; rfl)); intro ic hg w3 bR hb; have bP := aa.mk (aM (bO HB) hb); have bQ := aa.mk (bR); have bT := aa.mk ((by rw [hg]; exact (aK (bO HB)) : w.heap.size ≤ ic)); have di := aa.mk ((by rw [hg]; exact (aK (bO HB)) : w.heap.size ≤ ic)); clear HB; have HB := bP; have dQ := bQ; have YO := bT; have YP := di; clear bP bQ bT di; clear hb bR hg)); go_upto_region 1 with (first | ((with_reducible refine bM (N := 1) rfl ?_); refine bG ?hg (N := 1) ?hd (cs := #[.int .i64 aR, .slice bW aH.length bN]) (t := 24) ?hr ?_; (case hd => rfl); (case hg => rfl); (case hr => first | (go_simp; done) | (go_simp; rfl)); intro ic hg w3 bR hb; have bP := aa.mk (aM (bO HB) hb); have bQ := aa.mk (bR); have bT := aa.mk ((by rw [hg]; exact (aK (bO HB)) : w.heap.size ≤ ic)); have di := aa.mk ((by rw [hg]; exact (aK (bO HB)) : w.heap.size ≤ ic)); clear HB; have HB := bP; have dQ := bQ; have YO := bT; have YP := di; clear bP bQ bT di; clear hb bR hg)))
 (try simp only [Act.put, List.setIfInBounds_toArray, List.set_cons_zero, List.set_cons_succ]);go_cut [13] (fun v13 wc => ∃ (kq : Nat) (jY : Bool), v13 = .bool jY ∧ aa (aA.j0 kq jY aR aH = some r) ∧ aa (kq ≤ k) ∧ aa (wc.heap[ic]? = some (.cells #[.int .i64 aR, (.slice bW aH.length bN)] 24 (0, 0))) ∧ aa (Below w.heap.size w wc))
 case first =>
  have H := Uc.out;clear Uc;by_cases c4 : aR < 1
  ·rw [if_pos c4] at H;have nu : decide (aR < 1) = true := decide_eq_true c4;clear c4
   (first | rw [nu] | (simp only [bH, bI]; rw [nu]) | skip)
   have H' := aa.mk H;clear H;have nU : w3.cell? ⟨ic, 0, none⟩ = some (.int .i64 aR) := (ae dQ.out 0).trans rfl;have nV : w3.cell? ⟨ic, 1, none⟩ = some (.slice bW aH.length bN) := (ae dQ.out 1).trans rfl;have nW := ai dQ.out 0;have nX := ai dQ.out 1;go_wp2;repeat (go_quiet (fail); try go_wp2)
   go_meet
   case rel => exact ⟨_, (true), (by first | rfl | (simp; done) | (simp [*]; done)), H', ⟨by first | omega | exact Nat.le_refl _⟩, ⟨by (with_reducible repeat (first | refine ax ?_ _ | refine az ?_ | refine au ?_ _)); exact dQ.out⟩, ⟨bO HB⟩⟩
  ·rw [if_neg c4] at H;have nu : decide (aR < 1) = false := decide_eq_false c4;clear c4
   (first | rw [nu] | (simp only [bH, bI]; rw [nu]) | skip)
   have H' := aa.mk H;clear H;have qa : w3.cell? ⟨ic, 0, none⟩ = some (.int .i64 aR) := (ae dQ.out 0).trans rfl;have qb : w3.cell? ⟨ic, 1, none⟩ = some (.slice bW aH.length bN) := (ae dQ.out 1).trans rfl;have qc := ai dQ.out 0;have qd := ai dQ.out 1;go_wp2;repeat (go_quiet (fail); try go_wp2)
   go_meet
   case rel => exact ⟨_, (decide (aR > 1048576)), (by first | rfl | (simp; done) | (simp [*]; done)), H', ⟨by first | omega | exact Nat.le_refl _⟩, ⟨by (with_reducible repeat (first | refine ax ?_ _ | refine az ?_ | refine au ?_ _)); exact dQ.out⟩, ⟨bO HB⟩⟩
 case rest =>
  clear Uc;(try clear p2); (try clear c3); (try clear c4); (try clear nu); (try clear nU); (try clear nV); (try clear qa); (try clear qb); (try clear nW); (try clear nX); (try clear qc); (try clear qd);obtain ⟨kq, jY, rfl, HA, Nt, dQ, HB⟩ := hcut
  cases kq with
  | zero => exact absurd HA.out (by simp [aA.j0])
  | succ kj1 =>
   have H := HA.out;clear HA;simp only [aA.j0] at H;have Ud := aa.mk H;clear H;go_upto_if 13 with (fail)
   repeat (go_quiet (fail); go_upto_if 13 with (fail))
   go_cut [] (fun wc => ∃ (kq : Nat), aa (aA.j1 kq aR aH = some r) ∧ aa (kq ≤ kj1) ∧ aa (wc.heap[ic]? = some (.cells #[.int .i64 aR, (.slice bW aH.length bN)] 24 (0, 0))) ∧ aa (Below w.heap.size w wc))
   case first =>
    have H := Ud.out;clear Ud;by_cases c8 : jY = true
    ·subst c8;have H1 : (some false) = some r := by rw [if_pos rfl] at H; exact H
     clear H;have H := H1;clear H1;obtain rfl := Option.some.inj H;go_wp2;repeat (go_quiet (fail); try go_wp2)
     go_ret;exact ⟨by first | rfl | (simp [aW, aX] <;> rfl) | (simp [*, aW, aX] <;> rfl), bO HB⟩
    ·replace c8 := Bool.eq_false_iff.mpr c8;subst c8;have H1 : (aA.j1 kj1 aR aH) = some r := by rw [if_neg (show ¬ (false = true) by decide)] at H; exact H
     clear H;have H := H1;clear H1;have H' := aa.mk H;clear H;go_wp2;repeat (go_quiet (fail); try go_wp2)
     go_meet
     case rel => exact ⟨_, H', ⟨by have := Nt.out; first | omega | exact Nat.le_refl _⟩, ⟨by (with_reducible repeat (first | refine ax ?_ _ | refine az ?_ | refine au ?_ _)); exact dQ.out⟩, ⟨bO HB⟩⟩
   case rest =>
    clear Ud;(try clear p2); (try clear c3); (try clear c4); (try clear nu); (try clear c8); (try clear nU); (try clear nV); (try clear qa); (try clear qb); (try clear nW); (try clear nX); (try clear qc); (try clear qd); (try clear p2);obtain ⟨kq, HA, JY, dQ, HB⟩ := hcut
    cases kq with
    | zero => exact absurd HA.out (by simp [aA.j1])
    | succ kj6 =>
     have H := HA.out;clear HA;simp only [aA.j1] at H;have H' := aa.mk H;clear H;go_wp2;repeat (go_quiet (fail); try go_wp2)
     go_loopg [3] kj6 (fun kq v3 w' => ∃ (cZ : Int), v3 = .int .i64 cZ ∧ aa (aA.l0 kq cZ aR aH = some r) ∧ aa (kq ≤ kj6) ∧ aa (w'.heap[ic]? = some (.cells #[.int .i64 aR, (.slice bW aH.length bN)] 24 (0, 0))) ∧ aa (Below w.heap.size w w'))
     case atStart => exact ⟨(0), (by first | rfl | (simp; done) | (simp [*]; done)), H', ⟨Nat.le_refl _⟩, ⟨by (with_reducible repeat (first | refine ax ?_ _ | refine az ?_ | refine au ?_ _)); exact dQ.out⟩, ⟨bO HB⟩⟩
     case round =>
      clear H';(try clear p2); (try clear c3); (try clear c4); (try clear nu); (try clear c8); (try clear nU); (try clear nV); (try clear qa); (try clear qb); (try clear nW); (try clear nX); (try clear qc); (try clear qd); (try clear p2);obtain ⟨cZ, rfl, HA, xO, dQ, HB⟩ := hrel
      cases gk with
      | zero => exact absurd HA.out (by simp [aA.l0])
      | succ k3 =>
       have H := HA.out;clear HA;simp only [aA.l0] at H;have HC9 := aa.mk H;clear H;have qB : wr.cell? ⟨ic, 0, none⟩ = some (.int .i64 aR) := (ae dQ.out 0).trans rfl;have qC : wr.cell? ⟨ic, 1, none⟩ = some (.slice bW aH.length bN) := (ae dQ.out 1).trans rfl;have qD := ai dQ.out 0;have qE := ai dQ.out 1;go_upto_if 18 with (fail)
       repeat (go_quiet (fail); go_upto_if 18 with (fail))
       go_cut [] (fun wc => ∃ (kq : Nat), aa (aA.j3 kq cZ aR aH = some r) ∧ aa (kq ≤ k3) ∧ aa (wc.heap[ic]? = some (.cells #[.int .i64 aR, (.slice bW aH.length bN)] 24 (0, 0))) ∧ aa (Below w.heap.size w wc))
       case first =>
        have H := HC9.out;clear HC9;by_cases c11 : cZ < (aH.length : Int)
        ·rw [if_pos c11] at H;have om : decide (cZ < (aH.length : Int)) = true := decide_eq_true c11;clear c11
         (first | rw [om] | (simp only [bH, bI]; rw [om]) | skip)
         have H' := aa.mk H;clear H;go_wp2;repeat (go_quiet (fail); try go_wp2)
         go_meet
         case rel => exact ⟨_, H', ⟨by have := Nt.out; have := JY.out; have := xO.out; first | omega | exact Nat.le_refl _⟩, ⟨by (with_reducible repeat (first | refine ax ?_ _ | refine az ?_ | refine au ?_ _)); exact dQ.out⟩, ⟨bO HB⟩⟩
        ·rw [if_neg c11] at H;have om : decide (cZ < (aH.length : Int)) = false := decide_eq_false c11;clear c11
         (first | rw [om] | (simp only [bH, bI]; rw [om]) | skip)
         obtain rfl := Option.some.inj H;go_wp2;repeat (go_quiet (fail); try go_wp2)
         go_ret;exact ⟨by first | rfl | (simp [aW, aX] <;> rfl) | (simp [*, aW, aX] <;> rfl), bO HB⟩
       case rest =>
        clear HC9;(try clear c1); (try clear p2); (try clear c3); (try clear c4); (try clear nu); (try clear c8); (try clear c11); (try clear om); (try clear qB); (try clear qC); (try clear nU); (try clear nV); (try clear qa); (try clear qb); (try clear qD); (try clear qE); (try clear nW); (try clear nX); (try clear qc); (try clear qd); (try clear p2);obtain ⟨kq, HA, Ws, dQ, HB⟩ := hcut
        cases kq with
        | zero => exact absurd HA.out (by simp [aA.j3])
        | succ kj8 =>
         have H := HA.out;clear HA;simp only [aA.j3] at H;by_cases c12 : 0 ≤ cZ
         ·rw [if_pos c12] at H;have Lg : decide (0 ≤ cZ) = true := decide_eq_true c12;clear c12;by_cases c13 : cZ < (aH.length : Int)
          ·rw [if_pos c13] at H;have uU : decide (cZ < (aH.length : Int)) = true := decide_eq_true c13;clear c13;have aaS := aa.mk H;clear H;have pE : wc.cell? ⟨ic, 0, none⟩ = some (.int .i64 aR) := (ae dQ.out 0).trans rfl;have pF : wc.cell? ⟨ic, 1, none⟩ = some (.slice bW aH.length bN) := (ae dQ.out 1).trans rfl;have pG := ai dQ.out 0;have pI := ai dQ.out 1;have Rn : 0 ≤ (cZ : Int) := of_decide_eq_true (by first | (with_reducible assumption) | assumption);have Ro : cZ < (aH.length : Int) := of_decide_eq_true (by first | (with_reducible assumption) | assumption);obtain ⟨EE, kQ, kR, e221, BL, BM, BN, BO, BP, PU, PV⟩ := kK eP.out cZ Rn Ro
           cases e221;replace BL := ah HB.out BL;replace BM := ah HB.out BM;replace BN := ah HB.out BN;replace BO := ah HB.out BO;replace BP := ah HB.out BP;have BQ := aa.mk PV;have agh := aa.mk PU;clear PV PU;replace Rn := eq_true Rn;replace Ro := eq_true Ro;go_upto_region 7 with (first | ((with_reducible refine bM (N := 4) rfl ?_); refine bG ?hg (N := 4) ?hd (cs := #[.int .i64 0, .slice none 0 0, .int .i64 0, .int .i64 0, .int .i64 0]) (t := 54) ?hr ?_; (case hd => rfl); (case hg => rfl); (case hr => first | (go_simp; done) | (go_simp; rfl)); intro dS hg w16 bR hb; have bP := aa.mk (aC (bk dQ) hb); have bQ := aa.mk (aM (bO HB) hb); have bT := aa.mk (bR); have di := aa.mk ((by rw [hg]; exact (aK (bO HB)) : w.heap.size ≤ dS)); have eB := aa.mk ((by rw [hg]; exact (aK (bO HB)) : w.heap.size ≤ dS)); have gB := aa.mk ((by rw [hg]; exact Nat.ne_of_lt (bE (bk dQ)) : ic ≠ dS)); have iG := aa.mk ((by rw [hg]; exact Nat.ne_of_gt (bE (bk dQ)) : dS ≠ ic)); clear dQ; clear HB; have dQ := bP; have HB := bQ; have bY := bT; have YQ := di; have YR := eB; have dI := gB; have jo := iG; clear bP bQ bT di eB gB iG; clear hb bR hg; have FX := jo.out; have FY := dI.out; have lZ : w16.cell? ⟨dS, 0, none⟩ = some (.int .i64 0) := (ae bY.out 0).trans rfl; have l5 : w16.cell? ⟨dS, 1, none⟩ = some (.slice none 0 0) := (ae bY.out 1).trans rfl; have BR : w16.cell? ⟨dS, 2, none⟩ = some (.int .i64 0) := (ae bY.out 2).trans rfl; have BS : w16.cell? ⟨dS, 3, none⟩ = some (.int .i64 0) := (ae bY.out 3).trans rfl; have BU : w16.cell? ⟨dS, 4, none⟩ = some (.int .i64 0) := (ae bY.out 4).trans rfl; have l6 := ai bY.out 0; have l7 := ai bY.out 1; have BV := ai bY.out 2; have BX := ai bY.out 3; have BZ := ai bY.out 4))
           repeat (go_quiet (first | ((with_reducible refine bM (N := 4) rfl ?_); refine bG ?hg (N := 4) ?hd (cs := #[.int .i64 0, .slice none 0 0, .int .i64 0, .int .i64 0, .int .i64 0]) (t := 54) ?hr ?_; (case hd => rfl); (case hg => rfl); (case hr => first | (go_simp; done) | (go_simp; rfl)); intro dS hg w16 bR hb; have bP := aa.mk (aC (bk dQ) hb); have bQ := aa.mk (aM (bO HB) hb); have bT := aa.mk (bR); have di := aa.mk ((by rw [hg]; exact (aK (bO HB)) : w.heap.size ≤ dS)); have eB := aa.mk ((by rw [hg]; exact (aK (bO HB)) : w.heap.size ≤ dS)); have gB := aa.mk ((by rw [hg]; exact Nat.ne_of_lt (bE (bk dQ)) : ic ≠ dS)); have iG := aa.mk ((by rw [hg]; exact Nat.ne_of_gt (bE (bk dQ)) : dS ≠ ic)); clear dQ; clear HB; have dQ := bP; have HB := bQ; have bY := bT; have YQ := di; have YR := eB; have dI := gB; have jo := iG; clear bP bQ bT di eB gB iG; clear hb bR hg; have FX := jo.out; have FY := dI.out; have lZ : w16.cell? ⟨dS, 0, none⟩ = some (.int .i64 0) := (ae bY.out 0).trans rfl; have l5 : w16.cell? ⟨dS, 1, none⟩ = some (.slice none 0 0) := (ae bY.out 1).trans rfl; have BR : w16.cell? ⟨dS, 2, none⟩ = some (.int .i64 0) := (ae bY.out 2).trans rfl; have BS : w16.cell? ⟨dS, 3, none⟩ = some (.int .i64 0) := (ae bY.out 3).trans rfl; have BU : w16.cell? ⟨dS, 4, none⟩ = some (.int .i64 0) := (ae bY.out 4).trans rfl; have l6 := ai bY.out 0; have l7 := ai bY.out 1; have BV := ai bY.out 2; have BX := ai bY.out 3; have BZ := ai bY.out 4)); go_upto_region 7 with (first | ((with_reducible refine bM (N := 4) rfl ?_); refine bG ?hg (N := 4) ?hd (cs := #[.int .i64 0, .slice none 0 0, .int .i64 0, .int .i64 0, .int .i64 0]) (t := 54) ?hr ?_; (case hd => rfl); (case hg => rfl); (case hr => first | (go_simp; done) | (go_simp; rfl)); intro dS hg w16 bR hb; have bP := aa.mk (aC (bk dQ) hb); have bQ := aa.mk (aM (bO HB) hb); have bT := aa.mk (bR); have di := aa.mk ((by rw [hg]; exact (aK (bO HB)) : w.heap.size ≤ dS)); have eB := aa.mk ((by rw [hg]; exact (aK (bO HB)) : w.heap.size ≤ dS)); have gB := aa.mk ((by rw [hg]; exact Nat.ne_of_lt (bE (bk dQ)) : ic ≠ dS)); have iG := aa.mk ((by rw [hg]; exact Nat.ne_of_gt (bE (bk dQ)) : dS ≠ ic)); clear dQ; clear HB; have dQ := bP; have HB := bQ; have bY := bT; have YQ := di; have YR := eB; have dI := gB; have jo := iG; clear bP bQ bT di eB gB iG; clear hb bR hg; have FX := jo.out; have FY := dI.out; have lZ : w16.cell? ⟨dS, 0, none⟩ = some (.int .i64 0) := (ae bY.out 0).trans rfl; have l5 : w16.cell? ⟨dS, 1, none⟩ = some (.slice none 0 0) := (ae bY.out 1).trans rfl; have BR : w16.cell? ⟨dS, 2, none⟩ = some (.int .i64 0) := (ae bY.out 2).trans rfl; have BS : w16.cell? ⟨dS, 3, none⟩ = some (.int .i64 0) := (ae bY.out 3).trans rfl; have BU : w16.cell? ⟨dS, 4, none⟩ = some (.int .i64 0) := (ae bY.out 4).trans rfl; have l6 := ai bY.out 0; have l7 := ai bY.out 1; have BV := ai bY.out 2; have BX := ai bY.out 3; have BZ := ai bY.out 4)))
           (try simp only [Act.put, List.setIfInBounds_toArray, List.set_cons_zero, List.set_cons_succ]);go_cut [45] (fun v45 wc => ∃ (kq : Nat) (JZ : Bool), v45 = .bool JZ ∧ aa (aA.j4 kq cZ JZ aR aH ((aj aH cZ).f0) ((aj aH cZ).f1) ((aj aH cZ).f2) ((aj aH cZ).f3.f0) ((aj aH cZ).f3.f1) = some r) ∧ aa (kq ≤ kj8) ∧ aa (wc.heap[ic]? = some (.cells #[.int .i64 aR, (.slice (some EE) aH.length bN)] 24 (0, 0))) ∧ aa (wc.heap[dS]? = some (.cells #[.int .i64 ((aj aH cZ).f0), (.slice kQ ((aj aH cZ).f1).length kR), .int .i64 ((aj aH cZ).f2), .int .i64 ((aj aH cZ).f3.f0), .int .i64 ((aj aH cZ).f3.f1)] 54 (0, 0))) ∧ aa (Below w.heap.size w wc))
           case first =>
            have H := aaS.out;clear aaS;by_cases c19 : ((aj aH cZ).f0) < 0
            ·rw [if_pos c19] at H;have yh : decide (((aj aH cZ).f0) < 0) = true := decide_eq_true c19;clear c19
             (first | rw [yh] | (simp only [bH, bI]; rw [yh]) | skip)
             have H' := aa.mk H;clear H;have OQ := jo.out;have OT := dI.out;have qi : w16.cell? ⟨dS, 0, none⟩ = some (.int .i64 0) := (ae bY.out 0).trans rfl;have qj : w16.cell? ⟨dS, 1, none⟩ = some (.slice none 0 0) := (ae bY.out 1).trans rfl;have J2 : w16.cell? ⟨dS, 2, none⟩ = some (.int .i64 0) := (ae bY.out 2).trans rfl;have J3 : w16.cell? ⟨dS, 3, none⟩ = some (.int .i64 0) := (ae bY.out 3).trans rfl;have J4 : w16.cell? ⟨dS, 4, none⟩ = some (.int .i64 0) := (ae bY.out 4).trans rfl;have ql := ai bY.out 0;have qm := ai bY.out 1;have J5 := ai bY.out 2;have J6 := ai bY.out 3;have J7 := ai bY.out 4;go_wp2;repeat (go_quiet (fail); try go_wp2)
             go_meet
             case rel => exact ⟨_, (true), (by first | rfl | (simp; done) | (simp [*]; done)), H', ⟨by have := Nt.out; have := JY.out; have := xO.out; have := Ws.out; first | omega | exact Nat.le_refl _⟩, ⟨by (with_reducible repeat (first | refine ax ?_ _ | refine az ?_ | refine au ?_ _)); refine bD ?_ dI.out _; (with_reducible repeat (first | refine ax ?_ _ | refine az ?_ | refine au ?_ _)); refine bD ?_ dI.out _; (with_reducible repeat (first | refine ax ?_ _ | refine az ?_ | refine au ?_ _)); refine bD ?_ dI.out _; (with_reducible repeat (first | refine ax ?_ _ | refine az ?_ | refine au ?_ _)); refine bD ?_ dI.out _; (with_reducible repeat (first | refine ax ?_ _ | refine az ?_ | refine au ?_ _)); refine bD ?_ dI.out _; (with_reducible repeat (first | refine ax ?_ _ | refine az ?_ | refine au ?_ _)); exact dQ.out⟩, ⟨by (with_reducible repeat (first | refine ax ?_ _ | refine az ?_ | refine au ?_ _)); refine bL (cs := #[.int .i64 ((aj aH cZ).f0), .slice kQ ((aj aH cZ).f1).length kR, .int .i64 ((aj aH cZ).f2), .int .i64 ((aj aH cZ).f3.f0), .int .i64 0]) ?_ 4 _ rfl; (with_reducible repeat (first | refine ax ?_ _ | refine az ?_ | refine au ?_ _)); refine bL (cs := #[.int .i64 ((aj aH cZ).f0), .slice kQ ((aj aH cZ).f1).length kR, .int .i64 ((aj aH cZ).f2), .int .i64 0, .int .i64 0]) ?_ 3 _ rfl; (with_reducible repeat (first | refine ax ?_ _ | refine az ?_ | refine au ?_ _)); refine bL (cs := #[.int .i64 ((aj aH cZ).f0), .slice kQ ((aj aH cZ).f1).length kR, .int .i64 0, .int .i64 0, .int .i64 0]) ?_ 2 _ rfl; (with_reducible repeat (first | refine ax ?_ _ | refine az ?_ | refine au ?_ _)); refine bL (cs := #[.int .i64 ((aj aH cZ).f0), .slice none 0 0, .int .i64 0, .int .i64 0, .int .i64 0]) ?_ 1 _ rfl; (with_reducible repeat (first | refine ax ?_ _ | refine az ?_ | refine au ?_ _)); refine bL (cs := #[.int .i64 0, .slice none 0 0, .int .i64 0, .int .i64 0, .int .i64 0]) ?_ 0 _ rfl; (with_reducible repeat (first | refine ax ?_ _ | refine az ?_ | refine au ?_ _)); exact bY.out⟩, ⟨bO HB⟩⟩
            ·rw [if_neg c19] at H;have yh : decide (((aj aH cZ).f0) < 0) = false := decide_eq_false c19;clear c19
             (first | rw [yh] | (simp only [bH, bI]; rw [yh]) | skip)
             by_cases vO : ((aj aH cZ).f0) ≥ aR
             ·rw [if_pos vO] at H;have tC : decide (aR ≤ ((aj aH cZ).f0)) = true := decide_eq_true vO;clear vO;have H' := aa.mk H;clear H;have Tk := jo.out;have Tm := dI.out;have oN : w16.cell? ⟨dS, 0, none⟩ = some (.int .i64 0) := (ae bY.out 0).trans rfl;have oO : w16.cell? ⟨dS, 1, none⟩ = some (.slice none 0 0) := (ae bY.out 1).trans rfl;have wG : w16.cell? ⟨dS, 2, none⟩ = some (.int .i64 0) := (ae bY.out 2).trans rfl;have wH : w16.cell? ⟨dS, 3, none⟩ = some (.int .i64 0) := (ae bY.out 3).trans rfl;have wI : w16.cell? ⟨dS, 4, none⟩ = some (.int .i64 0) := (ae bY.out 4).trans rfl;have oP := ai bY.out 0;have oQ := ai bY.out 1;have wJ := ai bY.out 2;have wK := ai bY.out 3;have wL := ai bY.out 4;have yP : w16.cell? ⟨ic, 0, none⟩ = some (.int .i64 aR) := (ae dQ.out 0).trans rfl;have yQ : w16.cell? ⟨ic, 1, none⟩ = some (.slice (some EE) aH.length bN) := (ae dQ.out 1).trans rfl;have yR := ai dQ.out 0;have yS := ai dQ.out 1;go_wp2;repeat (go_quiet (fail); try go_wp2)
              go_meet
              case rel => exact ⟨_, (true), (by first | rfl | (simp; done) | (simp [*]; done)), H', ⟨by have := Nt.out; have := JY.out; have := xO.out; have := Ws.out; first | omega | exact Nat.le_refl _⟩, ⟨by (with_reducible repeat (first | refine ax ?_ _ | refine az ?_ | refine au ?_ _)); refine bD ?_ dI.out _; (with_reducible repeat (first | refine ax ?_ _ | refine az ?_ | refine au ?_ _)); refine bD ?_ dI.out _; (with_reducible repeat (first | refine ax ?_ _ | refine az ?_ | refine au ?_ _)); refine bD ?_ dI.out _; (with_reducible repeat (first | refine ax ?_ _ | refine az ?_ | refine au ?_ _)); refine bD ?_ dI.out _; (with_reducible repeat (first | refine ax ?_ _ | refine az ?_ | refine au ?_ _)); refine bD ?_ dI.out _; (with_reducible repeat (first | refine ax ?_ _ | refine az ?_ | refine au ?_ _)); exact dQ.out⟩, ⟨by (with_reducible repeat (first | refine ax ?_ _ | refine az ?_ | refine au ?_ _)); refine bL (cs := #[.int .i64 ((aj aH cZ).f0), .slice kQ ((aj aH cZ).f1).length kR, .int .i64 ((aj aH cZ).f2), .int .i64 ((aj aH cZ).f3.f0), .int .i64 0]) ?_ 4 _ rfl; (with_reducible repeat (first | refine ax ?_ _ | refine az ?_ | refine au ?_ _)); refine bL (cs := #[.int .i64 ((aj aH cZ).f0), .slice kQ ((aj aH cZ).f1).length kR, .int .i64 ((aj aH cZ).f2), .int .i64 0, .int .i64 0]) ?_ 3 _ rfl; (with_reducible repeat (first | refine ax ?_ _ | refine az ?_ | refine au ?_ _)); refine bL (cs := #[.int .i64 ((aj aH cZ).f0), .slice kQ ((aj aH cZ).f1).length kR, .int .i64 0, .int .i64 0, .int .i64 0]) ?_ 2 _ rfl; (with_reducible repeat (first | refine ax ?_ _ | refine az ?_ | refine au ?_ _)); refine bL (cs := #[.int .i64 ((aj aH cZ).f0), .slice none 0 0, .int .i64 0, .int .i64 0, .int .i64 0]) ?_ 1 _ rfl; (with_reducible repeat (first | refine ax ?_ _ | refine az ?_ | refine au ?_ _)); refine bL (cs := #[.int .i64 0, .slice none 0 0, .int .i64 0, .int .i64 0, .int .i64 0]) ?_ 0 _ rfl; (with_reducible repeat (first | refine ax ?_ _ | refine az ?_ | refine au ?_ _)); exact bY.out⟩, ⟨bO HB⟩⟩
             ·rw [if_neg vO] at H;have tC : decide (aR ≤ ((aj aH cZ).f0)) = false := decide_eq_false vO;clear vO;by_cases RX : ((aj aH cZ).f2) < 0
              ·rw [if_pos RX] at H;have PW : decide (((aj aH cZ).f2) < 0) = true := decide_eq_true RX;clear RX;have H' := aa.mk H;clear H;have Li := jo.out;have Lj := dI.out;have mG : w16.cell? ⟨dS, 0, none⟩ = some (.int .i64 0) := (ae bY.out 0).trans rfl;have mH : w16.cell? ⟨dS, 1, none⟩ = some (.slice none 0 0) := (ae bY.out 1).trans rfl;have wN : w16.cell? ⟨dS, 2, none⟩ = some (.int .i64 0) := (ae bY.out 2).trans rfl;have wR : w16.cell? ⟨dS, 3, none⟩ = some (.int .i64 0) := (ae bY.out 3).trans rfl;have wS : w16.cell? ⟨dS, 4, none⟩ = some (.int .i64 0) := (ae bY.out 4).trans rfl;have mI := ai bY.out 0;have mJ := ai bY.out 1;have wT := ai bY.out 2;have wU := ai bY.out 3;have wV := ai bY.out 4;have tK : w16.cell? ⟨ic, 0, none⟩ = some (.int .i64 aR) := (ae dQ.out 0).trans rfl;have tL : w16.cell? ⟨ic, 1, none⟩ = some (.slice (some EE) aH.length bN) := (ae dQ.out 1).trans rfl;have tN := ai dQ.out 0;have tO := ai dQ.out 1;go_wp2;repeat (go_quiet (fail); try go_wp2)
               go_meet
               case rel => exact ⟨_, (true), (by first | rfl | (simp; done) | (simp [*]; done)), H', ⟨by have := Nt.out; have := JY.out; have := xO.out; have := Ws.out; first | omega | exact Nat.le_refl _⟩, ⟨by (with_reducible repeat (first | refine ax ?_ _ | refine az ?_ | refine au ?_ _)); refine bD ?_ dI.out _; (with_reducible repeat (first | refine ax ?_ _ | refine az ?_ | refine au ?_ _)); refine bD ?_ dI.out _; (with_reducible repeat (first | refine ax ?_ _ | refine az ?_ | refine au ?_ _)); refine bD ?_ dI.out _; (with_reducible repeat (first | refine ax ?_ _ | refine az ?_ | refine au ?_ _)); refine bD ?_ dI.out _; (with_reducible repeat (first | refine ax ?_ _ | refine az ?_ | refine au ?_ _)); refine bD ?_ dI.out _; (with_reducible repeat (first | refine ax ?_ _ | refine az ?_ | refine au ?_ _)); exact dQ.out⟩, ⟨by (with_reducible repeat (first | refine ax ?_ _ | refine az ?_ | refine au ?_ _)); refine bL (cs := #[.int .i64 ((aj aH cZ).f0), .slice kQ ((aj aH cZ).f1).length kR, .int .i64 ((aj aH cZ).f2), .int .i64 ((aj aH cZ).f3.f0), .int .i64 0]) ?_ 4 _ rfl; (with_reducible repeat (first | refine ax ?_ _ | refine az ?_ | refine au ?_ _)); refine bL (cs := #[.int .i64 ((aj aH cZ).f0), .slice kQ ((aj aH cZ).f1).length kR, .int .i64 ((aj aH cZ).f2), .int .i64 0, .int .i64 0]) ?_ 3 _ rfl; (with_reducible repeat (first | refine ax ?_ _ | refine az ?_ | refine au ?_ _)); refine bL (cs := #[.int .i64 ((aj aH cZ).f0), .slice kQ ((aj aH cZ).f1).length kR, .int .i64 0, .int .i64 0, .int .i64 0]) ?_ 2 _ rfl; (with_reducible repeat (first | refine ax ?_ _ | refine az ?_ | refine au ?_ _)); refine bL (cs := #[.int .i64 ((aj aH cZ).f0), .slice none 0 0, .int .i64 0, .int .i64 0, .int .i64 0]) ?_ 1 _ rfl; (with_reducible repeat (first | refine ax ?_ _ | refine az ?_ | refine au ?_ _)); refine bL (cs := #[.int .i64 0, .slice none 0 0, .int .i64 0, .int .i64 0, .int .i64 0]) ?_ 0 _ rfl; (with_reducible repeat (first | refine ax ?_ _ | refine az ?_ | refine au ?_ _)); exact bY.out⟩, ⟨bO HB⟩⟩
              ·rw [if_neg RX] at H;have PW : decide (((aj aH cZ).f2) < 0) = false := decide_eq_false RX;clear RX;have H' := aa.mk H;clear H;have PK := jo.out;have PL := dI.out;have qQ : w16.cell? ⟨dS, 0, none⟩ = some (.int .i64 0) := (ae bY.out 0).trans rfl;have qR : w16.cell? ⟨dS, 1, none⟩ = some (.slice none 0 0) := (ae bY.out 1).trans rfl;have J8 : w16.cell? ⟨dS, 2, none⟩ = some (.int .i64 0) := (ae bY.out 2).trans rfl;have J9 : w16.cell? ⟨dS, 3, none⟩ = some (.int .i64 0) := (ae bY.out 3).trans rfl;have Ka : w16.cell? ⟨dS, 4, none⟩ = some (.int .i64 0) := (ae bY.out 4).trans rfl;have qU := ai bY.out 0;have qV := ai bY.out 1;have Kb := ai bY.out 2;have Ke := ai bY.out 3;have Kg := ai bY.out 4;have Ca : w16.cell? ⟨ic, 0, none⟩ = some (.int .i64 aR) := (ae dQ.out 0).trans rfl;have Cb : w16.cell? ⟨ic, 1, none⟩ = some (.slice (some EE) aH.length bN) := (ae dQ.out 1).trans rfl;have Cc := ai dQ.out 0;have Ce := ai dQ.out 1;go_wp2;repeat (go_quiet (fail); try go_wp2)
               go_meet
               case rel => exact ⟨_, (decide (((aj aH cZ).f2) > 1099511627776)), (by first | rfl | (simp; done) | (simp [*]; done)), H', ⟨by have := Nt.out; have := JY.out; have := xO.out; have := Ws.out; first | omega | exact Nat.le_refl _⟩, ⟨by (with_reducible repeat (first | refine ax ?_ _ | refine az ?_ | refine au ?_ _)); refine bD ?_ dI.out _; (with_reducible repeat (first | refine ax ?_ _ | refine az ?_ | refine au ?_ _)); refine bD ?_ dI.out _; (with_reducible repeat (first | refine ax ?_ _ | refine az ?_ | refine au ?_ _)); refine bD ?_ dI.out _; (with_reducible repeat (first | refine ax ?_ _ | refine az ?_ | refine au ?_ _)); refine bD ?_ dI.out _; (with_reducible repeat (first | refine ax ?_ _ | refine az ?_ | refine au ?_ _)); refine bD ?_ dI.out _; (with_reducible repeat (first | refine ax ?_ _ | refine az ?_ | refine au ?_ _)); exact dQ.out⟩, ⟨by (with_reducible repeat (first | refine ax ?_ _ | refine az ?_ | refine au ?_ _)); refine bL (cs := #[.int .i64 ((aj aH cZ).f0), .slice kQ ((aj aH cZ).f1).length kR, .int .i64 ((aj aH cZ).f2), .int .i64 ((aj aH cZ).f3.f0), .int .i64 0]) ?_ 4 _ rfl; (with_reducible repeat (first | refine ax ?_ _ | refine az ?_ | refine au ?_ _)); refine bL (cs := #[.int .i64 ((aj aH cZ).f0), .slice kQ ((aj aH cZ).f1).length kR, .int .i64 ((aj aH cZ).f2), .int .i64 0, .int .i64 0]) ?_ 3 _ rfl; (with_reducible repeat (first | refine ax ?_ _ | refine az ?_ | refine au ?_ _)); refine bL (cs := #[.int .i64 ((aj aH cZ).f0), .slice kQ ((aj aH cZ).f1).length kR, .int .i64 0, .int .i64 0, .int .i64 0]) ?_ 2 _ rfl; (with_reducible repeat (first | refine ax ?_ _ | refine az ?_ | refine au ?_ _)); refine bL (cs := #[.int .i64 ((aj aH cZ).f0), .slice none 0 0, .int .i64 0, .int .i64 0, .int .i64 0]) ?_ 1 _ rfl; (with_reducible repeat (first | refine ax ?_ _ | refine az ?_ | refine au ?_ _)); refine bL (cs := #[.int .i64 0, .slice none 0 0, .int .i64 0, .int .i64 0, .int .i64 0]) ?_ 0 _ rfl; (with_reducible repeat (first | refine ax ?_ _ | refine az ?_ | refine au ?_ _)); exact bY.out⟩, ⟨bO HB⟩⟩
           case rest =>
            clear aaS;(try clear c1); (try clear c2); (try clear p2); (try clear q2); (try clear hx2); (try clear c3); (try clear c4); (try clear nu); (try clear c8); (try clear c11); (try clear om); (try clear c12); (try clear Lg); (try clear c13); (try clear uU); (try clear c17); (try clear c19); (try clear yh); (try clear c20); (try clear vO); (try clear tC); (try clear p22); (try clear q22); (try clear adW); (try clear c23); (try clear RX); (try clear PW); (try clear c27); (try clear Ue); (try clear qB); (try clear qC); (try clear pE); (try clear pF); (try clear lZ); (try clear l5); (try clear BR); (try clear BS); (try clear BU); (try clear qi); (try clear qj); (try clear J2); (try clear J3); (try clear J4); (try clear oN); (try clear oO); (try clear wG); (try clear wH); (try clear wI); (try clear yP); (try clear yQ); (try clear mG); (try clear mH); (try clear wN); (try clear wR); (try clear wS); (try clear tK); (try clear tL); (try clear qQ); (try clear qR); (try clear J8); (try clear J9); (try clear Ka); (try clear Ca); (try clear Cb); (try clear nU); (try clear nV); (try clear qa); (try clear qb); (try clear qD); (try clear qE); (try clear pG); (try clear pI); (try clear l6); (try clear l7); (try clear BV); (try clear BX); (try clear BZ); (try clear ql); (try clear qm); (try clear J5); (try clear J6); (try clear J7); (try clear oP); (try clear oQ); (try clear wJ); (try clear wK); (try clear wL); (try clear yR); (try clear yS); (try clear mI); (try clear mJ); (try clear wT); (try clear wU); (try clear wV); (try clear tN); (try clear tO); (try clear qU); (try clear qV); (try clear Kb); (try clear Ke); (try clear Kg); (try clear Cc); (try clear Ce); (try clear nW); (try clear nX); (try clear qc); (try clear qd); (try clear BL); (try clear BM); (try clear BN); (try clear BO); (try clear BP); (try clear p2); (try clear Rn); (try clear Ro);obtain ⟨kq, JZ, rfl, HA, Uf, dQ, bY, HB⟩ := hcut
            cases kq with
            | zero => exact absurd HA.out (by simp [aA.j4])
            | succ kj13 =>
             have H := HA.out;clear HA;simp only [aA.j4] at H;have aaT := aa.mk H;clear H;go_upto_if 45 with (fail)
             repeat (go_quiet (fail); go_upto_if 45 with (fail))
             go_cut [] (fun wc => ∃ (kq : Nat), aa (aA.j5 kq cZ aR aH ((aj aH cZ).f0) ((aj aH cZ).f1) ((aj aH cZ).f2) ((aj aH cZ).f3.f0) ((aj aH cZ).f3.f1) = some r) ∧ aa (kq ≤ kj13) ∧ aa (wc.heap[ic]? = some (.cells #[.int .i64 aR, (.slice (some EE) aH.length bN)] 24 (0, 0))) ∧ aa (wc.heap[dS]? = some (.cells #[.int .i64 ((aj aH cZ).f0), (.slice kQ ((aj aH cZ).f1).length kR), .int .i64 ((aj aH cZ).f2), .int .i64 ((aj aH cZ).f3.f0), .int .i64 ((aj aH cZ).f3.f1)] 54 (0, 0))) ∧ aa (Below w.heap.size w wc))
             case first =>
              have H := aaT.out;clear aaT;by_cases c34 : JZ = true
              ·subst c34;have H1 : (some false) = some r := by rw [if_pos rfl] at H; exact H
               clear H;have H := H1;clear H1;obtain rfl := Option.some.inj H;go_wp2;repeat (go_quiet (fail); try go_wp2)
               go_ret;exact ⟨by first | rfl | (simp [aW, aX] <;> rfl) | (simp [*, aW, aX] <;> rfl), bO HB⟩
              ·replace c34 := Bool.eq_false_iff.mpr c34;subst c34;have H1 : (aA.j5 kj13 cZ aR aH ((aj aH cZ).f0) ((aj aH cZ).f1) ((aj aH cZ).f2) ((aj aH cZ).f3.f0) ((aj aH cZ).f3.f1)) = some r := by rw [if_neg (show ¬ (false = true) by decide)] at H; exact H
               clear H;have H := H1;clear H1;have H' := aa.mk H;clear H;go_wp2;repeat (go_quiet (fail); try go_wp2)
               go_meet
               case rel => exact ⟨_, H', ⟨by have := Nt.out; have := JY.out; have := xO.out; have := Ws.out; have := Uf.out; first | omega | exact Nat.le_refl _⟩, ⟨by (with_reducible repeat (first | refine ax ?_ _ | refine az ?_ | refine au ?_ _)); exact dQ.out⟩, ⟨by (with_reducible repeat (first | refine ax ?_ _ | refine az ?_ | refine au ?_ _)); exact bY.out⟩, ⟨bO HB⟩⟩
             case rest =>
              clear aaT;(try clear c1); (try clear c2); (try clear p2); (try clear q2); (try clear hx2); (try clear c3); (try clear c4); (try clear nu); (try clear c8); (try clear c11); (try clear om); (try clear c12); (try clear Lg); (try clear c13); (try clear uU); (try clear c17); (try clear c19); (try clear yh); (try clear c20); (try clear vO); (try clear tC); (try clear p22); (try clear q22); (try clear adW); (try clear c23); (try clear RX); (try clear PW); (try clear c27); (try clear Ue); (try clear c34); (try clear qB); (try clear qC); (try clear pE); (try clear pF); (try clear lZ); (try clear l5); (try clear BR); (try clear BS); (try clear BU); (try clear qi); (try clear qj); (try clear J2); (try clear J3); (try clear J4); (try clear oN); (try clear oO); (try clear wG); (try clear wH); (try clear wI); (try clear yP); (try clear yQ); (try clear mG); (try clear mH); (try clear wN); (try clear wR); (try clear wS); (try clear tK); (try clear tL); (try clear qQ); (try clear qR); (try clear J8); (try clear J9); (try clear Ka); (try clear Ca); (try clear Cb); (try clear nU); (try clear nV); (try clear qa); (try clear qb); (try clear qD); (try clear qE); (try clear pG); (try clear pI); (try clear l6); (try clear l7); (try clear BV); (try clear BX); (try clear BZ); (try clear ql); (try clear qm); (try clear J5); (try clear J6); (try clear J7); (try clear oP); (try clear oQ); (try clear wJ); (try clear wK); (try clear wL); (try clear yR); (try clear yS); (try clear mI); (try clear mJ); (try clear wT); (try clear wU); (try clear wV); (try clear tN); (try clear tO); (try clear qU); (try clear qV); (try clear Kb); (try clear Ke); (try clear Kg); (try clear Cc); (try clear Ce); (try clear nW); (try clear nX); (try clear qc); (try clear qd); (try clear BL); (try clear BM); (try clear BN); (try clear BO); (try clear BP); (try clear p2); (try clear p22); (try clear Rn); (try clear q2); (try clear q22); (try clear Ro);obtain ⟨kq, HA, Wt, dQ, bY, HB⟩ := hcut
              cases kq with
              | zero => exact absurd HA.out (by simp [aA.j5])
              | succ kj32 =>
               have H := HA.out;clear HA;simp only [aA.j5] at H;have H' := aa.mk H;clear H;go_wp2;repeat (go_quiet (fail); try go_wp2)
               go_loopg [5] kj32 (fun kq v5 w' => ∃ (ny : Int), v5 = .int .i64 ny ∧ aa (aA.l1 kq cZ ny aR aH ((aj aH cZ).f0) ((aj aH cZ).f1) ((aj aH cZ).f2) ((aj aH cZ).f3.f0) ((aj aH cZ).f3.f1) = some r) ∧ aa (kq ≤ kj32) ∧ aa (w'.heap[ic]? = some (.cells #[.int .i64 aR, (.slice (some EE) aH.length bN)] 24 (0, 0))) ∧ aa (w'.heap[dS]? = some (.cells #[.int .i64 ((aj aH cZ).f0), (.slice kQ ((aj aH cZ).f1).length kR), .int .i64 ((aj aH cZ).f2), .int .i64 ((aj aH cZ).f3.f0), .int .i64 ((aj aH cZ).f3.f1)] 54 (0, 0))) ∧ aa (Below w.heap.size w w'))
               case atStart => exact ⟨(0), (by first | rfl | (simp; done) | (simp [*]; done)), H', ⟨Nat.le_refl _⟩, ⟨by (with_reducible repeat (first | refine ax ?_ _ | refine az ?_ | refine au ?_ _)); exact dQ.out⟩, ⟨by (with_reducible repeat (first | refine ax ?_ _ | refine az ?_ | refine au ?_ _)); exact bY.out⟩, ⟨bO HB⟩⟩
               case round =>
                clear H';(try clear c1); (try clear c2); (try clear p2); (try clear q2); (try clear hx2); (try clear c3); (try clear c4); (try clear nu); (try clear c8); (try clear c11); (try clear om); (try clear c12); (try clear Lg); (try clear c13); (try clear uU); (try clear c17); (try clear c19); (try clear yh); (try clear c20); (try clear vO); (try clear tC); (try clear p22); (try clear q22); (try clear adW); (try clear c23); (try clear RX); (try clear PW); (try clear c27); (try clear Ue); (try clear c34); (try clear qB); (try clear qC); (try clear pE); (try clear pF); (try clear lZ); (try clear l5); (try clear BR); (try clear BS); (try clear BU); (try clear qi); (try clear qj); (try clear J2); (try clear J3); (try clear J4); (try clear oN); (try clear oO); (try clear wG); (try clear wH); (try clear wI); (try clear yP); (try clear yQ); (try clear mG); (try clear mH); (try clear wN); (try clear wR); (try clear wS); (try clear tK); (try clear tL); (try clear qQ); (try clear qR); (try clear J8); (try clear J9); (try clear Ka); (try clear Ca); (try clear Cb); (try clear nU); (try clear nV); (try clear qa); (try clear qb); (try clear qD); (try clear qE); (try clear pG); (try clear pI); (try clear l6); (try clear l7); (try clear BV); (try clear BX); (try clear BZ); (try clear ql); (try clear qm); (try clear J5); (try clear J6); (try clear J7); (try clear oP); (try clear oQ); (try clear wJ); (try clear wK); (try clear wL); (try clear yR); (try clear yS); (try clear mI); (try clear mJ); (try clear wT); (try clear wU); (try clear wV); (try clear tN); (try clear tO); (try clear qU); (try clear qV); (try clear Kb); (try clear Ke); (try clear Kg); (try clear Cc); (try clear Ce); (try clear nW); (try clear nX); (try clear qc); (try clear qd); (try clear BL); (try clear BM); (try clear BN); (try clear BO); (try clear BP); (try clear p2); (try clear p22); (try clear Rn); (try clear q2); (try clear q22); (try clear Ro);obtain ⟨ny, rfl, HA, HK7, dQ, bY, HB⟩ := hrel
                cases gk with
                | zero => exact absurd HA.out (by simp [aA.l1])
                | succ k7 =>
                 have H := HA.out;clear HA;simp only [aA.l1] at H;by_cases Pz : ny < (((aj aH cZ).f1).length : Int)
                 ·rw [if_pos Pz] at H;have adX : decide (ny < (((aj aH cZ).f1).length : Int)) = true := decide_eq_true Pz;clear Pz;by_cases c36 : 0 ≤ ny
                  ·rw [if_pos c36] at H;have alV : decide (0 ≤ ny) = true := decide_eq_true c36;clear c36;by_cases c37 : (rd ((aj aH cZ).f1) ny) < 0
                   ·rw [if_pos c37] at H;have Ug : decide ((rd ((aj aH cZ).f1) ny) < 0) = true := decide_eq_true c37;clear c37;obtain rfl := Option.some.inj H;have alW := jo.out;have alX := dI.out;have agk : wr.cell? ⟨dS, 0, none⟩ = some (.int .i64 ((aj aH cZ).f0)) := (ae bY.out 0).trans rfl;have agl : wr.cell? ⟨dS, 1, none⟩ = some (.slice kQ ((aj aH cZ).f1).length kR) := (ae bY.out 1).trans rfl;have agm : wr.cell? ⟨dS, 2, none⟩ = some (.int .i64 ((aj aH cZ).f2)) := (ae bY.out 2).trans rfl;have agn : wr.cell? ⟨dS, 3, none⟩ = some (.int .i64 ((aj aH cZ).f3.f0)) := (ae bY.out 3).trans rfl;have agp : wr.cell? ⟨dS, 4, none⟩ = some (.int .i64 ((aj aH cZ).f3.f1)) := (ae bY.out 4).trans rfl;have agq := ai bY.out 0;have agr := ai bY.out 1;have ags := ai bY.out 2;have agt := ai bY.out 3;have agu := ai bY.out 4;have Gu : 0 ≤ (ny : Int) := of_decide_eq_true (by first | (with_reducible assumption) | assumption);have Gv : ny < (((aj aH cZ).f1).length : Int) := of_decide_eq_true (by first | (with_reducible assumption) | assumption);obtain ⟨PX, e223, tT⟩ := Kd.nC BQ.out ny Gu Gv
                    cases e223;replace tT := ah HB.out tT;replace Gu := eq_true Gu;replace Gv := eq_true Gv;go_wp2;repeat (go_quiet (fail); try go_wp2)
                    go_ret;exact ⟨by first | rfl | (simp [aW, aX] <;> rfl) | (simp [*, aW, aX] <;> rfl), bO HB⟩
                   ·rw [if_neg c37] at H;have Ug : decide ((rd ((aj aH cZ).f1) ny) < 0) = false := decide_eq_false c37;clear c37;by_cases c40 : (rd ((aj aH cZ).f1) ny) ≥ aR
                    ·rw [if_pos c40] at H;have TW : decide (aR ≤ (rd ((aj aH cZ).f1) ny)) = true := decide_eq_true c40;clear c40;obtain rfl := Option.some.inj H;have alY := jo.out;have alZ := dI.out;have Wu : wr.cell? ⟨dS, 0, none⟩ = some (.int .i64 ((aj aH cZ).f0)) := (ae bY.out 0).trans rfl;have Wv : wr.cell? ⟨dS, 1, none⟩ = some (.slice kQ ((aj aH cZ).f1).length kR) := (ae bY.out 1).trans rfl;have agv : wr.cell? ⟨dS, 2, none⟩ = some (.int .i64 ((aj aH cZ).f2)) := (ae bY.out 2).trans rfl;have agw : wr.cell? ⟨dS, 3, none⟩ = some (.int .i64 ((aj aH cZ).f3.f0)) := (ae bY.out 3).trans rfl;have agx : wr.cell? ⟨dS, 4, none⟩ = some (.int .i64 ((aj aH cZ).f3.f1)) := (ae bY.out 4).trans rfl;have Ww := ai bY.out 0;have Wx := ai bY.out 1;have agy := ai bY.out 2;have agz := ai bY.out 3;have agA := ai bY.out 4;have Gu : 0 ≤ (ny : Int) := of_decide_eq_true (by first | (with_reducible assumption) | assumption);have Gv : ny < (((aj aH cZ).f1).length : Int) := of_decide_eq_true (by first | (with_reducible assumption) | assumption);obtain ⟨PX, e223, tT⟩ := Kd.nC BQ.out ny Gu Gv
                     cases e223;replace tT := ah HB.out tT;replace Gu := eq_true Gu;replace Gv := eq_true Gv;have Nu : 0 ≤ (ny : Int) := of_decide_eq_true (by first | (with_reducible assumption) | assumption);have Nv : ny < (((aj aH cZ).f1).length : Int) := of_decide_eq_true (by first | (with_reducible assumption) | assumption);obtain ⟨Uh, e224, Cf⟩ := Kd.nC BQ.out ny Nu Nv;obtain rfl : PX = Uh := (by injection e224);replace Cf := ah HB.out Cf;replace Nu := eq_true Nu;replace Nv := eq_true Nv;have agB : wr.cell? ⟨ic, 0, none⟩ = some (.int .i64 aR) := (ae dQ.out 0).trans rfl;have agC : wr.cell? ⟨ic, 1, none⟩ = some (.slice (some EE) aH.length bN) := (ae dQ.out 1).trans rfl;have agD := ai dQ.out 0;have agE := ai dQ.out 1;go_wp2;repeat (go_quiet (fail); try go_wp2)
                     go_ret;exact ⟨by first | rfl | (simp [aW, aX] <;> rfl) | (simp [*, aW, aX] <;> rfl), bO HB⟩
                    ·rw [if_neg c40] at H;have TW : decide (aR ≤ (rd ((aj aH cZ).f1) ny)) = false := decide_eq_false c40;clear c40;have H' := aa.mk H;clear H;have adY := jo.out;have adZ := dI.out;have agF : wr.cell? ⟨dS, 0, none⟩ = some (.int .i64 ((aj aH cZ).f0)) := (ae bY.out 0).trans rfl;have agG : wr.cell? ⟨dS, 1, none⟩ = some (.slice kQ ((aj aH cZ).f1).length kR) := (ae bY.out 1).trans rfl;have agH : wr.cell? ⟨dS, 2, none⟩ = some (.int .i64 ((aj aH cZ).f2)) := (ae bY.out 2).trans rfl;have agI : wr.cell? ⟨dS, 3, none⟩ = some (.int .i64 ((aj aH cZ).f3.f0)) := (ae bY.out 3).trans rfl;have agJ : wr.cell? ⟨dS, 4, none⟩ = some (.int .i64 ((aj aH cZ).f3.f1)) := (ae bY.out 4).trans rfl;have agK := ai bY.out 0;have agL := ai bY.out 1;have agM := ai bY.out 2;have agN := ai bY.out 3;have agO := ai bY.out 4;have Gu : 0 ≤ (ny : Int) := of_decide_eq_true (by first | (with_reducible assumption) | assumption);have Gv : ny < (((aj aH cZ).f1).length : Int) := of_decide_eq_true (by first | (with_reducible assumption) | assumption);obtain ⟨PX, e223, tT⟩ := Kd.nC BQ.out ny Gu Gv
                     cases e223;replace tT := ah HB.out tT;replace Gu := eq_true Gu;replace Gv := eq_true Gv;have Nu : 0 ≤ (ny : Int) := of_decide_eq_true (by first | (with_reducible assumption) | assumption);have Nv : ny < (((aj aH cZ).f1).length : Int) := of_decide_eq_true (by first | (with_reducible assumption) | assumption);obtain ⟨Uh, e224, Cf⟩ := Kd.nC BQ.out ny Nu Nv;obtain rfl : PX = Uh := (by injection e224);replace Cf := ah HB.out Cf;replace Nu := eq_true Nu;replace Nv := eq_true Nv;have Wy : wr.cell? ⟨ic, 0, none⟩ = some (.int .i64 aR) := (ae dQ.out 0).trans rfl;have Wz : wr.cell? ⟨ic, 1, none⟩ = some (.slice (some EE) aH.length bN) := (ae dQ.out 1).trans rfl;have WA := ai dQ.out 0;have WB := ai dQ.out 1;go_wp2;repeat (go_quiet (fail); try go_wp2)
                     go_roundg k7
                     case measure => have := Nt.out; have := JY.out; have := xO.out; have := Ws.out; have := Uf.out; have := Wt.out; have := HK7.out; omega
                     case rel => exact ⟨(wrap64 (ny + 1)), (by first | rfl | (simp; done) | (simp [*]; done)), H', ⟨by have := Nt.out; have := JY.out; have := xO.out; have := Ws.out; have := Uf.out; have := Wt.out; have := HK7.out; omega⟩, ⟨by (with_reducible repeat (first | refine ax ?_ _ | refine az ?_ | refine au ?_ _)); exact dQ.out⟩, ⟨by (with_reducible repeat (first | refine ax ?_ _ | refine az ?_ | refine au ?_ _)); exact bY.out⟩, ⟨bO HB⟩⟩
                  ·rw [if_neg c36] at H;exact absurd H (by simp)
                 ·rw [if_neg Pz] at H;have adX : decide (ny < (((aj aH cZ).f1).length : Int)) = false := decide_eq_false Pz;clear Pz;have H' := aa.mk H;clear H;have adI := jo.out;have adJ := dI.out;have WE : wr.cell? ⟨dS, 0, none⟩ = some (.int .i64 ((aj aH cZ).f0)) := (ae bY.out 0).trans rfl;have WG : wr.cell? ⟨dS, 1, none⟩ = some (.slice kQ ((aj aH cZ).f1).length kR) := (ae bY.out 1).trans rfl;have agP : wr.cell? ⟨dS, 2, none⟩ = some (.int .i64 ((aj aH cZ).f2)) := (ae bY.out 2).trans rfl;have agQ : wr.cell? ⟨dS, 3, none⟩ = some (.int .i64 ((aj aH cZ).f3.f0)) := (ae bY.out 3).trans rfl;have agR : wr.cell? ⟨dS, 4, none⟩ = some (.int .i64 ((aj aH cZ).f3.f1)) := (ae bY.out 4).trans rfl;have WH := ai bY.out 0;have WI := ai bY.out 1;have agS := ai bY.out 2;have agT := ai bY.out 3;have agU := ai bY.out 4;go_wp2;repeat (go_quiet (fail); try go_wp2)
                  go_roundg k7
                  case measure => have := Nt.out; have := JY.out; have := xO.out; have := Ws.out; have := Uf.out; have := Wt.out; have := HK7.out; omega
                  case rel => exact ⟨(wrap64 (cZ + 1)), (by first | rfl | (simp; done) | (simp [*]; done)), H', ⟨by have := Nt.out; have := JY.out; have := xO.out; have := Ws.out; have := Uf.out; have := Wt.out; have := HK7.out; omega⟩, ⟨by (with_reducible repeat (first | refine ax ?_ _ | refine az ?_ | refine au ?_ _)); exact dQ.out⟩, ⟨bO HB⟩⟩
          ·rw [if_neg c13] at H;exact absurd H (by simp)
         ·rw [if_neg c12] at H;exact absurd H (by simp)
mutual
def aQ.j0 : Nat → Bool → Int → List (dO) → Option (Bool)
 | 0, _, _, _ => none
 | k + 1, x12, zg, tX => if x12 = true then (some false) else (aQ.j1 k zg tX)
def aQ.j1 : Nat → Int → List (dO) → Option (Bool)
 | 0, _, _ => none
 | k + 1, zg, tX => aQ.l0 k 0 zg tX
def aQ.l0 : Nat → Int → Int → List (dO) → Option (Bool)
 | 0, _, _, _ => none
 | k + 1, x3, zg, tX => if x3 < (tX.length : Int) then (if 0 ≤ x3 then (if (((aj tX x3).f1).length : Int) > 4 then (some false) else (aQ.l0 k (wrap64 (x3 + 1)) zg tX)) else (none)) else ((aA.f k zg tX).bind fun t227 => (some t227))
end
def aQ.f (k : Nat) (aR : Int) (aH : List (dO)) : Option (Bool) := if aR > 30 then (aQ.j0 k true aR aH) else (aQ.j0 k (decide ((aH.length : Int) > 60)) aR aH)
theorem aQ.eD : ∀ k, (∀ y0 y1 y2, dz (aQ.j0 k y0 y1 y2) (aQ.j0 (k + 1) y0 y1 y2)) ∧ (∀ y0 y1, dz (aQ.j1 k y0 y1) (aQ.j1 (k + 1) y0 y1)) ∧ (∀ y0 y1 y2, dz (aQ.l0 k y0 y1 y2) (aQ.l0 (k + 1) y0 y1 y2))
 | 0 => ⟨fun _ _ _ r h => by simp [aQ.j0] at h, fun _ _ r h => by simp [aQ.j1] at h, fun _ _ _ r h => by simp [aQ.l0] at h⟩
 | k + 1 => by
  obtain ⟨jP, ih1, ih2⟩ := aQ.eD k;refine ⟨?_, ?_, ?_⟩;all_goals intros
  all_goals first | unfold aQ.j0 | unfold aQ.j1 | unfold aQ.l0
  all_goals
   repeat' first
   | (with_reducible exact jP _ _ _)
   | (with_reducible exact ih1 _ _)
   | (with_reducible exact ih2 _ _ _)
   | (with_reducible exact aA.mono _ _ _)
   | (with_reducible exact dz.refl _)
   | (with_reducible exact dz.none _)
   | (with_reducible refine dz.ite ?_ ?_)
   | (with_reducible refine dz.bind ?_ (fun _ => ?_))
   | exact jP _ _ _
   | exact ih1 _ _
   | exact ih2 _ _ _
   | exact aA.mono _ _ _
   | exact dz.none _
   | refine dz.ite ?_ ?_
   | refine dz.bind ?_ (fun _ => ?_)
theorem aQ.mono : ∀ a0 a1 k, dz (aQ.f k a0 a1) (aQ.f (k + 1) a0 a1) := by
 intro a0 a1 k;obtain ⟨jP, ih1, ih2⟩ := aQ.eD k;unfold aQ.f;repeat' first
   | (with_reducible exact jP _ _ _)
   | (with_reducible exact ih1 _ _)
   | (with_reducible exact ih2 _ _ _)
   | (with_reducible exact aA.mono _ _ _)
   | (with_reducible exact dz.refl _)
   | (with_reducible exact dz.none _)
   | (with_reducible refine dz.ite ?_ ?_)
   | (with_reducible refine dz.bind ?_ (fun _ => ?_))
   | exact jP _ _ _
   | exact ih1 _ _
   | exact ih2 _ _ _
   | exact aA.mono _ _ _
   | exact dz.none _
   | refine dz.ite ?_ ?_
   | refine dz.bind ?_ (fun _ => ?_)
set_option maxHeartbeats 8000000 in
set_option maxRecDepth 100000 in
theorem aQ.calls (k : Nat) (aR : Int) (bW : Option Addr) (bN : Nat) (aH : List (dO)) (r : Bool) (w : World) (fw : Kd.C sJ w bW aH.length aH) (fC : aH.length ≤ bN) (h : aQ.f k aR aH = some r) :
  Calls Try.prog 77 #[.agg #[.int .i64 aR, .slice bW aH.length bN]] w fun e w' => e = .returned (.bool r) ∧ Below w.heap.size w w' := by
 have ES := Try.underlying24;have eP := aa.mk fw;have fP := aa.mk fC;clear fw fC;have HB := aa.mk (Below.refl w.heap.size w);have H : (if aR > 30 then (aQ.j0 k true aR aH) else (aQ.j0 k (decide ((aH.length : Int) > 60)) aR aH)) = some r := h;clear h;have Uc := aa.mk H;clear H;go_enter Try.func77, Try.ntmps77
 go_upto_region 1 with (first | ((with_reducible refine bM (N := 1) rfl ?_); (try (refine gG (by rfl) ?_; dsimp only)); refine bG ?hg (N := 1) ?hd (cs := #[.int .i64 aR, .slice bW aH.length bN]) (t := 24) ?hr ?_; (case hd => rfl); (case hg => rfl); (case hr => first | (go_simp; done) | (go_simp; rfl)); intro sG hg w3 bR hb; have bP := aa.mk (aM (bO HB) hb); have bQ := aa.mk (bR); have bT := aa.mk ((by rw [hg]; exact (aK (bO HB)) : w.heap.size ≤ sG)); have di := aa.mk ((by rw [hg]; exact (aK (bO HB)) : w.heap.size ≤ sG)); clear HB; have HB := bP; have jD := bQ; have al3 := bT; have al4 := di; clear bP bQ bT di; clear hb bR hg))
 (try simp only [Act.put, List.setIfInBounds_toArray, List.set_cons_zero, List.set_cons_succ]);go_cut [12] (fun v12 wc => ∃ (kq : Nat) (P8 : Bool), v12 = .bool P8 ∧ aa (aQ.j0 kq P8 aR aH = some r) ∧ aa (kq ≤ k) ∧ aa (wc.heap[sG]? = some (.cells #[.int .i64 aR, (.slice bW aH.length bN)] 24 (0, 0))) ∧ aa (Below w.heap.size w wc))
 case first =>
  have H := Uc.out;clear Uc;by_cases c4 : aR > 30
  ·rw [if_pos c4] at H;have nu : decide (30 < aR) = true := decide_eq_true c4;clear c4
   (first | rw [nu] | (simp only [bH, bI]; rw [nu]) | skip)
   have H' := aa.mk H;clear H;have nU : w3.cell? ⟨sG, 0, none⟩ = some (.int .i64 aR) := (ae jD.out 0).trans rfl;have nV : w3.cell? ⟨sG, 1, none⟩ = some (.slice bW aH.length bN) := (ae jD.out 1).trans rfl;have nW := ai jD.out 0;have nX := ai jD.out 1;go_wp2;go_meet
   case rel => exact ⟨_, (true), (by first | rfl | (simp; done) | (simp [*]; done)), H', ⟨by first | omega | exact Nat.le_refl _⟩, ⟨by (with_reducible repeat (first | refine ax ?_ _ | refine az ?_ | refine au ?_ _)); exact jD.out⟩, ⟨bO HB⟩⟩
  ·rw [if_neg c4] at H;have nu : decide (30 < aR) = false := decide_eq_false c4;clear c4
   (first | rw [nu] | (simp only [bH, bI]; rw [nu]) | skip)
   have H' := aa.mk H;clear H;have qa : w3.cell? ⟨sG, 0, none⟩ = some (.int .i64 aR) := (ae jD.out 0).trans rfl;have qb : w3.cell? ⟨sG, 1, none⟩ = some (.slice bW aH.length bN) := (ae jD.out 1).trans rfl;have qc := ai jD.out 0;have qd := ai jD.out 1;go_wp2;go_meet
   case rel => exact ⟨_, (decide ((aH.length : Int) > 60)), (by first | rfl | (simp; done) | (simp [*]; done)), H', ⟨by first | omega | exact Nat.le_refl _⟩, ⟨by (with_reducible repeat (first | refine ax ?_ _ | refine az ?_ | refine au ?_ _)); exact jD.out⟩, ⟨bO HB⟩⟩
 case rest =>
  clear Uc;(try clear p2); (try clear c4); (try clear nu); (try clear nU); (try clear nV); (try clear qa); (try clear qb); (try clear nW); (try clear nX); (try clear qc); (try clear qd);obtain ⟨kq, P8, rfl, HA, Nt, jD, HB⟩ := hcut
  cases kq with
  | zero => exact absurd HA.out (by simp [aQ.j0])
  | succ kj1 =>
   have H := HA.out;clear HA;simp only [aQ.j0] at H;have Ud := aa.mk H;clear H;go_upto_if 12 with (fail)
   go_cut [] (fun wc => ∃ (kq : Nat), aa (aQ.j1 kq aR aH = some r) ∧ aa (kq ≤ kj1) ∧ aa (wc.heap[sG]? = some (.cells #[.int .i64 aR, (.slice bW aH.length bN)] 24 (0, 0))) ∧ aa (Below w.heap.size w wc))
   case first =>
    have H := Ud.out;clear Ud;by_cases c8 : P8 = true
    ·subst c8;have H1 : (some false) = some r := by rw [if_pos rfl] at H; exact H
     clear H;have H := H1;clear H1;obtain rfl := Option.some.inj H;go_wp2;go_ret;exact ⟨by first | rfl | (simp [aW, aX] <;> rfl) | (simp [*, aW, aX] <;> rfl), bO HB⟩
    ·replace c8 := Bool.eq_false_iff.mpr c8;subst c8;have H1 : (aQ.j1 kj1 aR aH) = some r := by rw [if_neg (show ¬ (false = true) by decide)] at H; exact H
     clear H;have H := H1;clear H1;have H' := aa.mk H;clear H;go_wp2;go_meet
     case rel => exact ⟨_, H', ⟨by have := Nt.out; first | omega | exact Nat.le_refl _⟩, ⟨by (with_reducible repeat (first | refine ax ?_ _ | refine az ?_ | refine au ?_ _)); exact jD.out⟩, ⟨bO HB⟩⟩
   case rest =>
    clear Ud;(try clear p2); (try clear c4); (try clear nu); (try clear c7); (try clear c8); (try clear nU); (try clear nV); (try clear qa); (try clear qb); (try clear nW); (try clear nX); (try clear qc); (try clear qd); (try clear p2);obtain ⟨kq, HA, JY, jD, HB⟩ := hcut
    cases kq with
    | zero => exact absurd HA.out (by simp [aQ.j1])
    | succ kj6 =>
     have H := HA.out;clear HA;simp only [aQ.j1] at H;have H' := aa.mk H;clear H;go_wp2;go_loopg [3] kj6 (fun kq v3 w' => ∃ (cZ : Int), v3 = .int .i64 cZ ∧ aa (aQ.l0 kq cZ aR aH = some r) ∧ aa (kq ≤ kj6) ∧ aa (w'.heap[sG]? = some (.cells #[.int .i64 aR, (.slice bW aH.length bN)] 24 (0, 0))) ∧ aa (Below w.heap.size w w'))
     case atStart => exact ⟨(0), (by first | rfl | (simp; done) | (simp [*]; done)), H', ⟨Nat.le_refl _⟩, ⟨by (with_reducible repeat (first | refine ax ?_ _ | refine az ?_ | refine au ?_ _)); exact jD.out⟩, ⟨bO HB⟩⟩
     case round =>
      clear H';(try clear p2); (try clear c4); (try clear nu); (try clear c7); (try clear c8); (try clear nU); (try clear nV); (try clear qa); (try clear qb); (try clear nW); (try clear nX); (try clear qc); (try clear qd); (try clear p2);obtain ⟨cZ, rfl, HA, xO, jD, HB⟩ := hrel
      cases gk with
      | zero => exact absurd HA.out (by simp [aQ.l0])
      | succ k3 =>
       have H := HA.out;clear HA;simp only [aQ.l0] at H;by_cases c9 : cZ < (aH.length : Int)
       ·rw [if_pos c9] at H;have yg : decide (cZ < (aH.length : Int)) = true := decide_eq_true c9;clear c9;by_cases c10 : 0 ≤ cZ
        ·rw [if_pos c10] at H;have XY : decide (0 ≤ cZ) = true := decide_eq_true c10;clear c10;by_cases c11 : (((aj aH cZ).f1).length : Int) > 4
         ·rw [if_pos c11] at H;have om : decide (4 < (((aj aH cZ).f1).length : Int)) = true := decide_eq_true c11;have P9 : decide (4 < ((aj aH cZ).f1).length) = true := decide_eq_true (by omega);clear c11;obtain rfl := Option.some.inj H;have jK : wr.cell? ⟨sG, 0, none⟩ = some (.int .i64 aR) := (ae jD.out 0).trans rfl;have jL : wr.cell? ⟨sG, 1, none⟩ = some (.slice bW aH.length bN) := (ae jD.out 1).trans rfl;have jM := ai jD.out 0;have jN := ai jD.out 1;have Nw : 0 ≤ (cZ : Int) := of_decide_eq_true (by first | (with_reducible assumption) | assumption);have Ny : cZ < (aH.length : Int) := of_decide_eq_true (by first | (with_reducible assumption) | assumption);obtain ⟨ad3, aaY, aaZ, e226, Cg, Ch, Ci, Cj, Ck, Cm, Cn⟩ := kK eP.out cZ Nw Ny
          cases e226;replace Cg := ah HB.out Cg;replace Ch := ah HB.out Ch;replace Ci := ah HB.out Ci;replace Cj := ah HB.out Cj;replace Ck := ah HB.out Ck;have WM := aa.mk Cn;have WN := aa.mk Cm;clear Cn Cm;replace Nw := eq_true Nw;replace Ny := eq_true Ny;go_wp2;go_ret;exact ⟨by first | rfl | (simp [aW, aX] <;> rfl) | (simp [*, aW, aX] <;> rfl), bO HB⟩
         ·rw [if_neg c11] at H;have om : decide (4 < (((aj aH cZ).f1).length : Int)) = false := decide_eq_false c11;have P9 : decide (4 < ((aj aH cZ).f1).length) = false := decide_eq_false (by omega);clear c11;have H' := aa.mk H;clear H;have yT : wr.cell? ⟨sG, 0, none⟩ = some (.int .i64 aR) := (ae jD.out 0).trans rfl;have yU : wr.cell? ⟨sG, 1, none⟩ = some (.slice bW aH.length bN) := (ae jD.out 1).trans rfl;have yV := ai jD.out 0;have yX := ai jD.out 1;have Nw : 0 ≤ (cZ : Int) := of_decide_eq_true (by first | (with_reducible assumption) | assumption);have Ny : cZ < (aH.length : Int) := of_decide_eq_true (by first | (with_reducible assumption) | assumption);obtain ⟨ad3, aaY, aaZ, e226, Cg, Ch, Ci, Cj, Ck, Cm, Cn⟩ := kK eP.out cZ Nw Ny
          cases e226;replace Cg := ah HB.out Cg;replace Ch := ah HB.out Ch;replace Ci := ah HB.out Ci;replace Cj := ah HB.out Cj;replace Ck := ah HB.out Ck;have WM := aa.mk Cn;have WN := aa.mk Cm;clear Cn Cm;replace Nw := eq_true Nw;replace Ny := eq_true Ny;go_wp2;go_roundg k3
          case measure => have := Nt.out; have := JY.out; have := xO.out; omega
          case rel => exact ⟨(wrap64 (cZ + 1)), (by first | rfl | (simp; done) | (simp [*]; done)), H', ⟨by have := Nt.out; have := JY.out; have := xO.out; omega⟩, ⟨by (with_reducible repeat (first | refine ax ?_ _ | refine az ?_ | refine au ?_ _)); exact jD.out⟩, ⟨bO HB⟩⟩
        ·rw [if_neg c10] at H;exact absurd H (by simp)
       ·rw [if_neg c9] at H;have yg : decide (cZ < (aH.length : Int)) = false := decide_eq_false c9;clear c9;replace H := Option.bind_eq_some_iff.mp H;obtain ⟨t227, ad4, H⟩ := H;replace H : (some t227) = some r := H;have A14 := aa.mk ad4;clear ad4;obtain rfl := Option.some.inj H;have pE : wr.cell? ⟨sG, 0, none⟩ = some (.int .i64 aR) := (ae jD.out 0).trans rfl;have pF : wr.cell? ⟨sG, 1, none⟩ = some (.slice bW aH.length bN) := (ae jD.out 1).trans rfl;have pG := ai jD.out 0;have pI := ai jD.out 1;go_wp2_with (first | ((with_reducible refine dE (f := 34) rfl ?_); refine iB (some 29) rfl rfl Try.func34 (by kernel_rfl) rfl #[.agg #[.int .i64 aR, .slice bW aH.length bN]] rfl (by (try simp only [List.map_toArray, List.map_cons, List.map_nil]); first | done | rfl | (simp only [List.length_drop, List.length_take]; rfl)) ?_; (with_reducible refine (aA.calls k3 aR _ _ aH t227 _ ?side1 ?side2 A14.out).mono ?_); (case side1 => repeat (first | exact (Kd.bF eP.out HB.out) | (with_reducible refine Kd.dF ?_ _) | (with_reducible refine Kd.dG ?_ _) | (with_reducible refine Kd.eG ?_))); (case side2 => exact fP.out); rintro e w16 ⟨rfl, hb⟩; refine ⟨_, rfl, ?_⟩; have bP := aa.mk (aC (bk jD) hb); have bQ := aa.mk (aM (bO HB) hb); clear jD; clear HB; have jD := bP; have HB := bQ; clear bP bQ; (try clear hb); (try clear hb2); (try clear hk); (try clear hi)))
        go_ret;exact ⟨by first | rfl | (simp [aW, aX] <;> rfl) | (simp [*, aW, aX] <;> rfl), bO HB⟩
end Go.Proofs.Ytamimodkcbbpmaa.Pr
end
section
namespace Go.Proofs.Ytamimodkcbbpmaa.Pr
open Go.RowKit Go.Proofs.YtamimodkcbbpmaaW.PrintWords Go.Proofs.YtamimodkcbbpmaaW.PrintLast Go.Proofs.YtamimodkcbbpmaaXW Go.Proofs.YtamimodkcbbpmaaXM
set_option linter.unusedVariables false
set_option linter.unusedSimpArgs false
def oV (a b : dK) : Prop := a.f0 < b.f0 ∨ a.f0 = b.f0 ∧ a.f1 ≤ b.f1
theorem za (a b : dK) : pW a b = true ↔ a.f0 < b.f0 ∨ a.f0 = b.f0 ∧ a.f1 < b.f1 := by simp [pW]
theorem rC (a b : dK) : pW a b = false ↔ oV b a := by
  have h := za a b
  unfold oV
  cases hb : pW a b with
  | true => rw [hb] at h; have h2 := h.1 rfl; constructor
            · intro h3; cases h3
            · intro h3; omega
  | false => rw [hb] at h; constructor
             · intro _
               have h3 : ¬ (a.f0 < b.f0 ∨ a.f0 = b.f0 ∧ a.f1 < b.f1) := fun h4 => by have := h.2 h4; cases this
               omega
             · intro _; rfl
theorem oV.refl (a : dK) : oV a a := by unfold oV; omega
theorem oV.trans {a b c : dK} (h1 : oV a b) (h2 : oV b c) : oV a c := by unfold oV at *; omega
theorem oV.antisymm {a b : dK} (h1 : oV a b) (h2 : oV b a) : a = b := by
 obtain ⟨a0, a1⟩ := a;obtain ⟨b0, b1⟩ := b;unfold oV at *;have e0 : a0 = b0 := by simp only at h1 h2; omega
 have e1 : a1 = b1 := by simp only at h1 h2; omega
 rw [e0, e1]
theorem oV.total (a b : dK) : oV a b ∨ oV b a := by unfold oV; omega
def leB (a b : dP) : Prop := KW b a = false
theorem E9 (a b : dP) : leB a b ↔ (a.f0.f1.f0 < b.f0.f1.f0 ∨ a.f0.f1.f0 = b.f0.f1.f0 ∧ (a.f0.f1.f1 < b.f0.f1.f1 ∨ a.f0.f1.f1 = b.f0.f1.f1 ∧ a.f2 ≤ b.f2)) := by
 unfold leB KW pW;simp only [Bool.or_eq_false_iff, Bool.and_eq_false_iff, decide_eq_false_iff_not, Bool.not_eq_false, Bool.or_eq_true, Bool.and_eq_true, decide_eq_true_eq, Bool.not_eq_false', Bool.not_eq_true'];omega
theorem leB.trans {a b c : dP} (h1 : leB a b) (h2 : leB b c) : leB a c := by rw [E9] at *; omega
theorem leB.refl (a : dP) : leB a a := by rw [E9]; omega
theorem Gd {a b : dP} (h : KW a b = true) : leB a b := by
 rcases Bool.eq_false_or_eq_true (KW b a) with h1 | h1
 ·rw [E9];unfold KW pW at h h1;simp only [Bool.or_eq_true, Bool.and_eq_true, decide_eq_true_eq, Bool.not_eq_true', Bool.or_eq_false_iff, Bool.and_eq_false_iff, decide_eq_false_iff_not] at h h1;omega
 ·exact h1
theorem VI {a b : dP} (h : leB a b) : oV a.f0.f1 b.f0.f1 := by rw [E9] at h; unfold oV; omega
abbrev fV (es : List dP) (i : Nat) : dP := eO es (i : Int)
theorem pQ (es : List dP) (i : Nat) (h : i < es.length) : fV es i = es[i] := by
 simp [fV, eO, List.getD_eq_getElem?_getD, List.getElem?_eq_getElem h]
theorem jl {α : Type} (l : List α) (t i : Nat) (b d : α) : (l.set t b).getD i d = if i = t ∧ t < l.length then b else l.getD i d := by
 simp only [List.getD_eq_getElem?_getD, List.getElem?_set];by_cases h : t = i
 ·subst h;by_cases h2 : t < l.length
  ·simp [h2]
  ·simp [h2]
 ·rw [if_neg h, if_neg (fun h2 => h h2.1.symm)]
theorem lu (es : List dP) (i j k : Nat) (hi : i < es.length) (hj : j < es.length) (hk : k < es.length) : fV (nK es (i : Int) (j : Int)) k = if k = j then fV es i else if k = i then fV es j else fV es k := by
 show (((es.set i (fV es j)).set j (fV es i))).getD k _ = _;rw [jl, jl, List.length_set];by_cases h1 : k = j
 ·rw [if_pos ⟨h1, hj⟩, if_pos h1]
 ·rw [if_neg (fun h => h1 h.1), if_neg h1];by_cases h2 : k = i
  ·rw [if_pos ⟨h2, hi⟩, if_pos h2]
  ·rw [if_neg (fun h => h2 h.1), if_neg h2];rfl
theorem Gf (es : List dP) (x : dP) : x ∈ es ↔ ∃ k, k < es.length ∧ x = fV es k := by
 rw [List.mem_iff_getElem];constructor
 ·rintro ⟨k, hk, e⟩;exact ⟨k, hk, by rw [pQ _ _ hk, e]⟩
 ·rintro ⟨k, hk, e⟩;exact ⟨k, hk, by rw [e, pQ _ _ hk]⟩
theorem Az (es : List dP) (i j : Nat) (hi : i < es.length) (hj : j < es.length) (x : dP) : x ∈ nK es (i : Int) (j : Int) ↔ x ∈ es := by
 rw [Gf, Gf, dh];constructor
 ·rintro ⟨k, hk, e⟩;rw [lu es i j k hi hj hk] at e;split at e
  ·exact ⟨i, hi, e⟩
  ·split at e
   ·exact ⟨j, hj, e⟩
   ·exact ⟨k, hk, e⟩
 ·rintro ⟨k, hk, e⟩;by_cases h1 : k = i
  ·refine ⟨j, hj, ?_⟩;rw [lu es i j j hi hj hj, if_pos rfl, e, h1]
  ·by_cases h2 : k = j
   ·refine ⟨i, hi, ?_⟩;rw [lu es i j i hi hj hi, e, h2];split
    ·rename_i h3; rw [h3]
    ·rw [if_pos rfl]
   ·refine ⟨k, hk, ?_⟩;rw [lu es i j k hi hj hk, if_neg h2, if_neg h1, e]
def Heap (es : List dP) : Prop := ∀ i, 0 < i → i < es.length → leB (fV es ((i - 1) / 2)) (fV es i)
theorem Heap.root {es : List dP} (h : Heap es) : ∀ i, i < es.length → leB (fV es 0) (fV es i) := by
 intro i;induction i using Nat.strongRecOn with
 | ind i ih =>
  intro hi;by_cases h0 : i = 0
  ·subst h0; exact leB.refl _
  ·exact (ih ((i - 1) / 2) (by omega) (by omega)).trans (h i (by omega) hi)
structure ade (es : List dP) (k : Nat) : Prop where
 a : ∀ i, 0 < i → i < es.length → i ≠ k → leB (fV es ((i - 1) / 2)) (fV es i)
 b : ∀ c, 0 < k → 0 < c → c < es.length → (c - 1) / 2 = k → leB (fV es ((k - 1) / 2)) (fV es c)
theorem Lc : ∀ (K : Nat) (es : List dP) (k : Nat), k < es.length → k ≤ K → ade es k → Heap (Hg K es k)
 | 0, es, k, hk, hK, h => by
  obtain rfl : k = 0 := by omega
  exact fun i h0 h1 => h.a i h0 h1 (by omega)
 | K + 1, es, 0, hk, hK, h => fun i h0 h1 => h.a i h0 h1 (by omega)
 | K + 1, es, m + 1, hk, hK, h => by
  have e2 : ((m : Int) / 2) = ((m / 2 : Nat) : Int) := by omega
  have e1 : ((m : Int) + 1) = ((m + 1 : Nat) : Int) := by omega
  unfold Hg;rw [e1, e2];split
  ·rename_i hb
   refine Lc K _ (m / 2) (by rw [dh]; omega) (by omega) ?_;have hle := Gd hb;have hp : m / 2 < es.length := by omega
   have hsw : ∀ k, k < es.length → fV (nK es ((m + 1 : Nat) : Int) ((m / 2 : Nat) : Int)) k = if k = m / 2 then fV es (m + 1) else if k = m + 1 then fV es (m / 2) else fV es k := fun k hk2 => lu es (m + 1) (m / 2) k hk hp hk2
   constructor
   ·intro i h0 h1 h2;rw [dh] at h1;rw [hsw i h1, hsw ((i - 1) / 2) (by omega), if_neg h2];by_cases h3 : i = m + 1
    ·subst h3;rw [if_pos rfl, if_pos (by omega)];exact hle
    ·rw [if_neg h3];by_cases h4 : (i - 1) / 2 = m / 2
     ·rw [if_pos h4];have := h.a i h0 h1 h3;rw [h4] at this;exact hle.trans this
     ·rw [if_neg h4];by_cases h5 : (i - 1) / 2 = m + 1
      ·rw [if_pos h5];have := h.b i (by omega) h0 h1 h5;exact this
      ·rw [if_neg h5];exact h.a i h0 h1 h3
   ·intro c hk0 h0 h1 h2;rw [dh] at h1;have hpp := h.a (m / 2) hk0 hp (by omega);rw [hsw c h1, hsw ((m / 2 - 1) / 2) (by omega), if_neg (show ¬ (m / 2 - 1) / 2 = m / 2 by omega), if_neg (show ¬ (m / 2 - 1) / 2 = m + 1 by omega), if_neg (show ¬ c = m / 2 by omega)];by_cases h3 : c = m + 1
    ·rw [if_pos h3]; exact hpp
    ·rw [if_neg h3];have := h.a c h0 h1 h3;rw [h2] at this;exact hpp.trans this
  ·rename_i hb
   have hb' : leB (fV es (m / 2)) (fV es (m + 1)) := Bool.eq_false_iff.2 hb;intro i h0 h1;by_cases h2 : i = m + 1
   ·subst h2; exact hb'
   ·exact h.a i h0 h1 h2
theorem Ex : ∀ (K : Nat) (es : List dP) (k : Nat), k < es.length → ∀ x, x ∈ Hg K es k ↔ x ∈ es
 | 0, es, k, hk, x => Iff.rfl
 | K + 1, es, 0, hk, x => Iff.rfl
 | K + 1, es, m + 1, hk, x => by
  have e2 : ((m : Int) / 2) = ((m / 2 : Nat) : Int) := by omega
  have e1 : ((m : Int) + 1) = ((m + 1 : Nat) : Int) := by omega
  unfold Hg;rw [e1, e2];split
  ·rw [Ex K _ (m / 2) (by rw [dh]; omega) x];exact Az es (m + 1) (m / 2) hk (by omega) x
  ·exact Iff.rfl
structure adf (es : List dP) (k : Nat) : Prop where
 a : ∀ i, 0 < i → i < es.length → (i - 1) / 2 ≠ k → leB (fV es ((i - 1) / 2)) (fV es i)
 b : ∀ c, 0 < k → 0 < c → c < es.length → (c - 1) / 2 = k → leB (fV es ((k - 1) / 2)) (fV es c)
theorem IA (es : List dP) (i : Nat) : ∀ t, (pM es i t = i ∨ ∃ s, s < t ∧ pM es i t = 2 * i + 1 + s) ∧ leB (fV es (pM es i t)) (fV es i) ∧ ∀ s, s < t → 2 * i + 1 + s < es.length → leB (fV es (pM es i t)) (fV es (2 * i + 1 + s))
 | 0 => ⟨Or.inl rfl, leB.refl _, fun s hs => absurd hs (by omega)⟩
 | t + 1 => by
  obtain ⟨h1, h2, h3⟩ := IA es i t;rw [rA];split
  ·rename_i hc
   have hle := Gd hc.2;refine ⟨Or.inr ⟨t, by omega, rfl⟩, hle.trans h2, fun s hs hl => ?_⟩;by_cases hst : s = t
   ·subst hst; exact leB.refl _
   ·exact hle.trans (h3 s (by omega) hl)
  ·rename_i hc
   refine ⟨?_, h2, fun s hs hl => ?_⟩
   ·rcases h1 with h1 | ⟨s, hs, h1⟩
    ·exact Or.inl h1
    ·exact Or.inr ⟨s, by omega, h1⟩
   ·by_cases hst : s = t
    ·subst hst;have : KW (fV es (2 * i + 1 + s)) (fV es (pM es i s)) = false := by
      rcases Bool.eq_false_or_eq_true (KW (fV es (2 * i + 1 + s)) (fV es (pM es i s))) with h5 | h5
      ·exact absurd ⟨hl, h5⟩ hc
      ·exact h5
     exact this
    ·exact h3 s (by omega) hl
theorem Gg : ∀ (K : Nat) (es : List dP) (k : Nat), es.length ≤ k + K → adf es k → Heap (mZ K es k)
 | 0, es, k, hK, h => by
  show Heap es;exact fun i h0 h1 => h.a i h0 h1 (by omega)
 | K + 1, es, k, hK, h => by
  obtain ⟨h1, h2, h3⟩ := IA es k 2;unfold mZ;split
  ·rename_i he
   rw [he] at h3;intro i h0 hi;by_cases hp : (i - 1) / 2 = k
   ·have := h3 (i - (2 * k + 1)) (by omega) (by omega);rw [hp];rw [show 2 * k + 1 + (i - (2 * k + 1)) = i by omega] at this;exact this
   ·exact h.a i h0 hi hp
  ·rename_i he
   by_cases hk : k < es.length
   ·have hl := (Am es k hk 2).1;obtain ⟨L, hL⟩ : ∃ L, pM es k 2 = L := ⟨_, rfl⟩;rw [hL] at h1 h2 h3 hl he ⊢;have hkL : (L - 1) / 2 = k ∧ k < L := by
     rcases h1 with h1 | ⟨s, hs, h1⟩
     ·exact absurd h1 he
     ·omega
    have hsw : ∀ i, i < es.length → fV (nK es (k : Int) (L : Int)) i = if i = L then fV es k else if i = k then fV es L else fV es i := fun i hi => lu es k L i hk hl hi
    refine Gg K _ L (by rw [dh]; omega) ?_;constructor
    ·intro i h0 hi hp;rw [dh] at hi;rw [hsw i hi, hsw ((i - 1) / 2) (by omega), if_neg hp];by_cases h4 : (i - 1) / 2 = k
     ·rw [if_pos h4];by_cases h5 : i = L
      ·rw [if_pos h5]; exact h2
      ·rw [if_neg h5, if_neg (by omega)];have := h3 (i - (2 * k + 1)) (by omega) (by omega);rw [show 2 * k + 1 + (i - (2 * k + 1)) = i by omega] at this;exact this
     ·rw [if_neg h4, if_neg (show ¬ i = L by omega)];by_cases h5 : i = k
      ·rw [if_pos h5];subst h5;exact h.b L h0 (by omega) hl hkL.1
      ·rw [if_neg h5];exact h.a i h0 hi h4
    ·intro c hL0 h0 hc hp;rw [dh] at hc;rw [hsw c hc, hsw ((L - 1) / 2) (by omega), hkL.1, if_neg (show ¬ k = L by omega), if_pos rfl, if_neg (show ¬ c = L by omega), if_neg (show ¬ c = k by omega)];have := h.a c h0 hc (by omega);rw [hp] at this;exact this
   ·rcases h1 with h1 | ⟨s, hs, h1⟩
    ·exact absurd h1 he
    ·exfalso;have hz : ∀ t, pM es k t = k := by
      intro t;induction t with
      | zero => rfl
      | succ t ih => rw [rA, if_neg (by omega)]; exact ih
     exact he (hz 2)
theorem zB : ∀ (K : Nat) (es : List dP) (k : Nat), k < es.length → ∀ x, x ∈ mZ K es k ↔ x ∈ es
 | 0, es, k, hk, x => Iff.rfl
 | K + 1, es, k, hk, x => by
  have hl := (Am es k hk 2).1;unfold mZ;split
  ·exact Iff.rfl
  ·rw [zB K _ _ (by rw [dh]; exact hl) x];exact Az es k (pM es k 2) hk hl x
theorem vV (es : List dP) (m i : Nat) (h : i < m) (hm : m ≤ es.length) : fV (es.take m) i = fV es i := by
 rw [pQ _ i (by rw [List.length_take]; omega), pQ _ i (by omega), List.getElem_take]
theorem IB {es : List dP} (h : Heap es) : Heap (r9 es) := by
 unfold r9;refine Gg _ _ 0 (by rw [List.length_take, dh]; omega) ?_;constructor
 ·intro i h0 hi hp;rw [List.length_take, dh] at hi;rw [vV _ _ _ (by omega) (by rw [dh]; omega), vV _ _ _ (by omega) (by rw [dh]; omega)];have e : nK es 0 ((es.length - 1 : Nat) : Int) = nK es ((0 : Nat) : Int) ((es.length - 1 : Nat) : Int) := rfl;rw [e, lu es 0 (es.length - 1) i (by omega) (by omega) (by omega), lu es 0 (es.length - 1) ((i - 1) / 2) (by omega) (by omega) (by omega), if_neg (by omega), if_neg (by omega), if_neg (by omega), if_neg (by omega)];exact h i h0 (by omega)
 ·intro c hk;omega
theorem Q7 (e0 : dP) (r : List dP) (x : dP) (h : x ∈ e0 :: r) : x = e0 ∨ x ∈ r9 (e0 :: r) := by
 by_cases hr : r = []
 ·subst hr;exact Or.inl (List.mem_singleton.1 h)
 ·have hl : 0 < r.length := by cases r with | nil => exact absurd rfl hr | cons _ _ => simp
  obtain ⟨es, hes⟩ : ∃ es, es = e0 :: r := ⟨_, rfl⟩;have hlen : es.length = r.length + 1 := by rw [hes]; rfl
  have h0 : fV es 0 = e0 := by rw [pQ es 0 (by omega)]; simp [hes]
  rw [← hes] at h ⊢;unfold r9;rw [zB _ _ 0 (by rw [List.length_take, dh]; omega), Gf];obtain ⟨k, hk, e⟩ := (Gf es x).1 h;have e9 : nK es 0 ((es.length - 1 : Nat) : Int) = nK es ((0 : Nat) : Int) ((es.length - 1 : Nat) : Int) := rfl;by_cases hk0 : k = 0
  ·subst hk0;exact Or.inl (e.trans h0)
  ·refine Or.inr ?_;by_cases hkl : k = es.length - 1
   ·refine ⟨0, by rw [List.length_take, dh]; omega, ?_⟩;rw [vV _ _ _ (by omega) (by rw [dh]; omega), e9, lu es 0 (es.length - 1) 0 (by omega) (by omega) (by omega), if_neg (by omega), if_pos rfl, e, hkl]
   ·refine ⟨k, by rw [List.length_take, dh]; omega, ?_⟩;rw [vV _ _ _ (by omega) (by rw [dh]; omega), e9, lu es 0 (es.length - 1) k (by omega) (by omega) (by omega), if_neg hkl, if_neg hk0, e]
theorem M3 {Q : QQ} (h : Heap Q.es) (c : uo) : Heap (Et Q c).es := by
 refine Lc _ _ Q.es.length (by simp) (by omega) ?_;have hat : ∀ i, i < Q.es.length → fV (Q.es ++ [⟨c, Q.nx, Q.ck⟩]) i = fV Q.es i := fun i hi => by
  rw [pQ _ i (by simp; omega), pQ _ i hi, List.getElem_append_left hi]
 constructor
 ·intro i h0 hi hne;rw [List.length_append, List.length_singleton] at hi;rw [hat i (by omega), hat _ (by omega)];exact h i h0 (by omega)
 ·intro x hk h0 hx hp;rw [List.length_append, List.length_singleton] at hx;omega
theorem Dw (Q : QQ) (c : uo) (x : dP) : x ∈ (Et Q c).es ↔ x ∈ Q.es ∨ x = ⟨c, Q.nx, Q.ck⟩ := by
 show x ∈ Hg _ _ _ ↔ _;rw [Ex _ _ _ (by simp) x, List.mem_append, List.mem_singleton]
structure okV (v : dK) : Prop where
 a : 0 ≤ v.f0
 b : v.f0 ≤ 1099511627776
 c : 0 ≤ v.f1
 d : v.f1 ≤ 1099511627776
 e : v.f0 = 1099511627776 → v.f1 = 0
theorem JB : okV sK := ⟨by decide, by decide, by decide, by decide, fun _ => rfl⟩
theorem okV.le_inf {v : dK} (h : okV v) : oV v sK := by
 obtain ⟨a, b, c, d, e⟩ := h;show v.f0 < 1099511627776 ∨ v.f0 = 1099511627776 ∧ v.f1 ≤ 0;omega
theorem okV.aau {v : dK} (h : okV v) (hi : 1099511627776 ≤ v.f0) : v = sK := by
 obtain ⟨a, b, c, d, e⟩ := h;obtain ⟨v0, v1⟩ := v;have e0 : v0 = 1099511627776 := by simp only at b hi; omega
 have e1 := e e0;simp only at e1;rw [e0, e1]
def Mg (l : List dK) : Int := (l.map dK.f0).sum
def UY (l : List dK) : Int := (l.map dK.f1).sum
theorem uN (v : dK) (l : List dK) : Mg (v :: l) = v.f0 + Mg l := by simp [Mg]
theorem uO (v : dK) (l : List dK) : UY (v :: l) = v.f1 + UY l := by simp [UY]
theorem zM : ∀ l : List dK, (∀ v, v ∈ l → okV v) → 0 ≤ Mg l ∧ 0 ≤ UY l
 | [], _ => ⟨Int.le_refl _, Int.le_refl _⟩
 | v :: l, h => by
  have hv := h v (List.mem_cons_self ..);have ih := zM l (fun x hx => h x (List.mem_cons_of_mem _ hx));have h1 := hv.a;have h2 := hv.c;rw [uN, uO];omega
theorem Gh (a b : Int) : mn a b = min a b := by
 unfold mn;split <;> omega
theorem TI : ∀ (l : List dK) (a : dK), (0 ≤ a.f0 ∧ a.f0 ≤ 1099511627776) → (0 ≤ a.f1 ∧ a.f1 ≤ 1099511627776) → (∀ v, v ∈ l → okV v) → l.foldl xG a = ⟨min (a.f0 + Mg l) 1099511627776, min (a.f1 + UY l) 1099511627776⟩
 | [], a, h0, h1, _ => by
  obtain ⟨a0, a1⟩ := a;simp only at h0 h1;have e0 : min (a0 + 0) 1099511627776 = a0 := by omega
  have e1 : min (a1 + 0) 1099511627776 = a1 := by omega
  show dK.mk a0 a1 = ⟨min (a0 + 0) _, min (a1 + 0) _⟩;rw [e0, e1]
 | v :: l, a, h0, h1, h => by
  have hv := h v (List.mem_cons_self ..);have hl := zM l (fun x hx => h x (List.mem_cons_of_mem _ hx));obtain ⟨va, vb, vc, vd, ve⟩ := hv;have w0 : wrap64 (a.f0 + v.f0) = a.f0 + v.f0 := by unfold wrap64; omega
  have w1 : wrap64 (a.f1 + v.f1) = a.f1 + v.f1 := by unfold wrap64; omega
  rw [List.foldl_cons, TI l _ ?_ ?_ (fun x hx => h x (List.mem_cons_of_mem _ hx)), uN, uO]
  ·simp only [xG, Gh, w0, w1];congr 1 <;> omega
  ·simp only [xG, Gh, w0];omega
  ·simp only [xG, Gh, w1];omega
theorem si (c : Int) (l : List dK) (hc : 0 ≤ c) (h : ∀ v, v ∈ l → okV v) : gD c l = if 1099511627776 ≤ c + Mg l then sK else ⟨c + Mg l, min (1 + UY l) 1099511627776⟩ := by
 have hp := zM l h;unfold gD;rw [TI l _ ?_ ?_ h]
 ·simp only [Gh, TB];split
  ·rename_i h1
   rw [if_pos (by omega)]
  ·rename_i h1
   rw [if_neg (by omega)];congr 1
   omega
 ·simp only [Gh]; omega
 ·simp only; omega
theorem Gi (c : Int) (l : List dK) (hc : 0 ≤ c) (h : ∀ v, v ∈ l → okV v) : okV (gD c l) := by
 have hp := zM l h;rw [si c l hc h];split
 ·exact JB
 ·constructor <;> simp only <;> omega
theorem Pd : ∀ (l l' : List dK), l.length = l'.length → (∀ j, j < l.length → oV (l.getD j z34) (l'.getD j z34)) → Mg l ≤ Mg l' ∧ (Mg l = Mg l' → UY l ≤ UY l')
 | [], [], _, _ => ⟨Int.le_refl _, fun _ => Int.le_refl _⟩
 | v :: l, v' :: l', hl, h => by
  have h0 : oV v v' := h 0 (by simp);have ih := Pd l l' (by simpa using hl) (fun j hj => h (j + 1) (by simpa using hj));unfold oV at h0;rw [uN, uN, uO, uO];omega
 | [], _ :: _, hl, _ => by simp at hl
 | _ :: _, [], hl, _ => by simp at hl
theorem zN (c : Int) (l l' : List dK) (hc : 0 ≤ c) (h : ∀ v, v ∈ l → okV v) (h' : ∀ v, v ∈ l' → okV v) (hl : l.length = l'.length) (hle : ∀ j, j < l.length → oV (l.getD j z34) (l'.getD j z34)) : oV (gD c l) (gD c l') := by
 have hm := Pd l l' hl hle;rw [si c l hc h, si c l' hc h'];split <;> split
 ·exact oV.refl _
 ·exfalso; omega
 ·refine Or.inl ?_;show c + Mg l < 1099511627776;omega
 ·unfold oV; simp only; omega
theorem Fa : ∀ (l : List dK) (j : Nat), j < l.length → (∀ v, v ∈ l → okV v) → (l.getD j z34).f0 ≤ Mg l ∧ (l.getD j z34).f1 ≤ UY l
 | v :: l, 0, _, h => by
  have hp := zM l (fun x hx => h x (List.mem_cons_of_mem _ hx));rw [uN, uO, List.getD_cons_zero];omega
 | v :: l, j + 1, hj, h => by
  have ih := Fa l j (by simpa using hj) (fun x hx => h x (List.mem_cons_of_mem _ hx));have hv := h v (List.mem_cons_self ..);have h1 := hv.a;have h2 := hv.c;rw [uN, uO, List.getD_cons_succ];omega
 | [], j, hj, _ => by simp at hj
theorem ib {α : Type} (l : List α) (j : Nat) (z : α) (h : j < l.length) : l.getD j z ∈ l := by
 rw [List.getD_eq_getElem?_getD, List.getElem?_eq_getElem h];exact List.getElem_mem _
theorem Ey (c : Int) (l : List dK) (hc : 0 ≤ c) (h : ∀ v, v ∈ l → okV v) (j : Nat) (hj : j < l.length) : oV (l.getD j z34) (gD c l) := by
 have hs := Fa l j hj h;have hv := h _ (ib l j z34 hj);rw [si c l hc h];split
 ·exact hv.le_inf
 ·obtain ⟨a, b, c', d, e⟩ := hv;unfold oV;simp only;omega
theorem IC (c : Int) (l : List dK) (hc : 0 ≤ c) (h : ∀ v, v ∈ l → okV v) (j : Nat) (hj : j < l.length) (hi : l.getD j z34 = sK) : gD c l = sK := by
 have hs := Fa l j hj h;rw [hi] at hs;have h0 := hs.1;simp only at h0;rw [si c l hc h, if_pos (by omega)]
def zO (es : List dO) : Prop := ∀ e, e ∈ es → 0 ≤ e.f2 ∧ e.f2 ≤ 1099511627776
theorem nM {es : List dO} (h : zO es) (k : Nat) (h1 : k < es.length) : 0 ≤ (aj es (k : Int)).f2 ∧ (aj es (k : Int)).f2 ≤ 1099511627776 := by
 refine h _ ?_;simp only [aj, Int.toNat_natCast];exact ib _ _ _ h1
inductive JC (es : List dO) : Int → dK → Prop
 | mk (k : Nat) (hk : k < es.length) (vs : List dK) (hl : vs.length = (aj es (k : Int)).f1.length) (h : ∀ j, j < vs.length → JC es ((aj es (k : Int)).f1.getD j 0) (vs.getD j z34)) : JC es (aj es (k : Int)).f0 (gD (aj es (k : Int)).f2 vs)
theorem lN {α : Type} {P : α → Prop} (l : List α) (z : α) (h : ∀ j, j < l.length → P (l.getD j z)) : ∀ v, v ∈ l → P v := by
 intro v hv;obtain ⟨j, hj, e⟩ := List.mem_iff_getElem.1 hv;have := h j hj;rw [List.getD_eq_getElem?_getD, List.getElem?_eq_getElem hj, Option.getD_some, e] at this;exact this
theorem JC.ok {es : List dO} (hc : zO es) {t : Int} {v : dK} (h : JC es t v) : okV v := by
 induction h with
 | mk k hk vs hl _ ih => exact Gi _ _ (nM hc k hk).1 (lN vs z34 ih)
structure Pe (n : Nat) (es : List dO) (vs : List dK) : Prop where
 len : vs.length = n
 ok : ∀ v, v ∈ vs → okV v
 fix : ∀ k : Nat, k < es.length → oV (bJ vs (aj es (k : Int)).f0) (kV vs (aj es (k : Int)))
 att : ∀ t : Nat, t < n → bJ vs (t : Int) = sK ∨ JC es (t : Int) (bJ vs (t : Int))
theorem AA (vs : List dK) (t : Int) (h0 : 0 ≤ t) (h1 : t < (vs.length : Int)) : bJ vs t ∈ vs := by
 unfold bJ;exact ib _ _ _ (by omega)
theorem kM (vs : List dK) (l : List Int) (j : Nat) (h : j < l.length) : (tailV vs l).getD j z34 = bJ vs (l.getD j 0) := by
 simp [tailV, List.getD_eq_getElem?_getD, List.getElem?_eq_getElem h]
theorem eY (vs : List dK) (l : List Int) : (tailV vs l).length = l.length := by simp [tailV]
theorem nN {vs : List dK} {l : List Int} (h : ∀ v, v ∈ vs → okV v) (hl : ∀ t, t ∈ l → 0 ≤ t ∧ t < (vs.length : Int)) : ∀ v, v ∈ tailV vs l → okV v := by
 intro v hv;obtain ⟨t, ht, rfl⟩ := List.mem_map.1 hv;exact h _ (AA vs t (hl t ht).1 (hl t ht).2)
theorem Pe.lower {n : Nat} {es : List dO} {vs : List dK} (h : Pe n es vs) (hc : zO es) (he : zt n es) {t : Int} {v : dK} (hd : JC es t v) : oV (bJ vs t) v := by
 induction hd with
 | mk k hk ws hl hw ih =>
  refine (h.fix k hk).trans ?_;have zC := jb he (k : Int) (by omega) (by omega);refine zN _ _ _ (nM hc k hk).1 (nN h.ok (fun t ht => by rw [h.len]; exact zC.2.1 t ht)) (lN ws z34 (fun j hj => (hw j hj).ok hc)) (by rw [eY, hl]) (fun j hj => ?_);rw [eY] at hj;rw [kM _ _ _ hj];exact ih j (by omega)
theorem Pe.le {n : Nat} {es : List dO} {vs ws : List dK} (h : Pe n es vs) (h' : Pe n es ws) (hc : zO es) (he : zt n es) (t : Nat) (ht : t < n) : oV (bJ vs (t : Int)) (bJ ws (t : Int)) := by
 rcases h'.att t ht with h1 | h1
 ·rw [h1];exact (h.ok _ (AA vs t (by omega) (by rw [h.len]; omega))).le_inf
 ·exact h.lower hc he h1
theorem Pe.uniq {n : Nat} {es : List dO} {vs ws : List dK} (h : Pe n es vs) (h' : Pe n es ws) (hc : zO es) (he : zt n es) : vs = ws := by
 refine List.ext_getElem (by rw [h.len, h'.len]) (fun i h1 h2 => ?_);have hi : i < n := by rw [← h.len]; exact h1
 have h3 := (h.le h' hc he i hi).antisymm (h'.le h hc he i hi);simp only [bJ, Int.toNat_natCast, List.getD_eq_getElem?_getD, List.getElem?_eq_getElem h1, List.getElem?_eq_getElem h2, Option.getD_some] at h3;exact h3
theorem uP (vs : List dK) (t : Nat) (ht : t < vs.length) (v : dK) (i : Int) (h0 : 0 ≤ i) : bJ (vs.set t v) i = if i = (t : Int) then v else bJ vs i := by
 unfold bJ;rw [jl];by_cases h : i = (t : Int)
 ·rw [if_pos h, if_pos ⟨by omega, ht⟩]
 ·rw [if_neg h, if_neg (fun h2 => h (by omega))]
def vW (st : List Bool) (l : List Int) : Nat := l.countP (fun t => !st.getD t.toNat false)
theorem Ld (st : List Bool) (t : Nat) (ht : t < st.length) (hb : st.getD t false = false) : ∀ l : List Int, (∀ x, x ∈ l → 0 ≤ x) → vW st l = vW (st.set t true) l + l.count (t : Int)
 | [], _ => rfl
 | x :: l, h => by
  have ih := Ld st t ht hb l (fun y hy => h y (List.mem_cons_of_mem _ hy));have hx := h x (List.mem_cons_self ..);unfold vW at ih ⊢;rw [List.countP_cons, List.countP_cons, List.count_cons, jl, ih];by_cases hxt : x = (t : Int)
  ·subst hxt;simp only [Int.toNat_natCast, hb, ht, and_self, if_true, beq_self_eq_true, Bool.not_false, Bool.not_true];simp
   omega
  ·have h2 : ¬ (x.toNat = t ∧ t < st.length) := fun h3 => hxt (by omega)
   have h3 : (x == (t : Int)) = false := by rw [beq_eq_false_iff_ne]; exact hxt
   rw [if_neg h2, h3];simp
   omega
theorem IE {st : List Bool} {l : List Int} (h : vW st l = 0) : ∀ t, t ∈ l → st.getD t.toNat false = true := by
 intro t ht;have := (List.countP_eq_zero.1 h) t ht;simpa using this
theorem TJ {st : List Bool} {l : List Int} (h : vW st l ≠ 0) : ∃ j, j < l.length ∧ st.getD (l.getD j 0).toNat false = false := by
 have := List.countP_pos_iff.1 (Nat.pos_of_ne_zero h);obtain ⟨t, ht, hb⟩ := this;obtain ⟨j, hj, e⟩ := List.mem_iff_getElem.1 ht;refine ⟨j, hj, ?_⟩;rw [List.getD_eq_getElem?_getD (l := l), List.getElem?_eq_getElem hj, Option.getD_some, e];simpa using hb
theorem afR (st : List Bool) (l : List Int) : vW st l ≤ l.length := List.countP_le_length
section
variable (n : Nat) (es : List dO)
def JD (vs : List dK) (st : List Bool) (Q : QQ) (k : Nat) : Prop :=
 kV vs (aj es (k : Int)) = sK ∨ (st.getD (aj es (k : Int)).f0.toNat false = true ∧ oV (bJ vs (aj es (k : Int)).f0) (kV vs (aj es (k : Int)))) ∨ ∃ x, x ∈ Q.es ∧ x.f0.f0 = (aj es (k : Int)).f0 ∧ x.f0.f1 = kV vs (aj es (k : Int))
structure Core (vs : List dK) (st : List Bool) (Q : QQ) (top : dK) : Prop where
 vl : vs.length = n
 sl : st.length = n
 uns : ∀ t : Nat, t < n → st.getD t false = false → bJ vs (t : Int) = sK
 set : ∀ t : Nat, t < n → st.getD t false = true → JC es (t : Int) (bJ vs (t : Int)) ∧ (bJ vs (t : Int)).f0 < 1099511627776 ∧ oV (bJ vs (t : Int)) top
 ent : ∀ x, x ∈ Q.es → (0 ≤ x.f0.f0 ∧ x.f0.f0 < (n : Int)) ∧ oV top x.f0.f1 ∧ x.f0.f1.f0 < 1099511627776 ∧ JC es x.f0.f0 x.f0.f1
 heap : Heap Q.es
structure TK (st : List Bool) (op : List Int) (l : List Int) : Prop where
 ol : op.length = es.length
 op : ∀ k : Nat, k < es.length → op.getD k 0 = ((vW st (aj es (k : Int)).f1 + l.count (k : Int) : Nat) : Int)
 bd : ∀ k : Nat, k < es.length → vW st (aj es (k : Int)).f1 + l.count (k : Int) ≤ 1000000
end
section
variable {n : Nat} {es : List dO}
theorem Core.aaw {vs : List dK} {st : List Bool} {Q : QQ} {top : dK} (h : Core n es vs st Q top) (hc : zO es) : ∀ v, v ∈ vs → okV v := by
 refine lN vs z34 (fun j hj => ?_);have hj' : j < n := by rw [← h.vl]; exact hj
 have e : vs.getD j z34 = bJ vs (j : Int) := rfl;rw [e]
 cases hb : st.getD j false with
 | false => rw [h.uns j hj' hb]; exact JB
 | true => exact (h.set j hj' hb).1.ok hc
theorem Core.val {vs : List dK} {st : List Bool} {Q : QQ} {top : dK} (h : Core n es vs st Q top) (hc : zO es) (he : zt n es) (k : Nat) (hk : k < es.length) : okV (kV vs (aj es (k : Int))) := by
 have zC := jb he (k : Int) (by omega) (by omega);exact Gi _ _ (nM hc k hk).1 (nN (h.aaw hc) (fun t ht => by rw [h.vl]; exact zC.2.1 t ht))
theorem Core.offer {vs : List dK} {st : List Bool} {Q : QQ} {top : dK} (h : Core n es vs st Q top) (hc : zO es) (he : zt n es) (k : Nat) (hk : k < es.length) (hs : ∀ t, t ∈ (aj es (k : Int)).f1 → st.getD t.toNat false = true) (ht : oV top (kV vs (aj es (k : Int)))) :
  Core n es vs st (nL es vs st Q (k : Int)) top ∧ JD es vs st (nL es vs st Q (k : Int)) k ∧ ∀ j, JD es vs st Q j → JD es vs st (nL es vs st Q (k : Int)) j := by
 have zC := jb he (k : Int) (by omega) (by omega);have hv := h.val hc he k hk;have Q8 : JC es (aj es (k : Int)).f0 (kV vs (aj es (k : Int))) := by
  refine JC.mk k hk _ (eY _ _) (fun j hj => ?_);rw [eY] at hj;rw [kM _ _ _ hj];have hm := ib (aj es (k : Int)).f1 j 0 hj;have h1 := zC.2.1 _ hm;have h2 := hs _ hm;have h3 := (h.set ((aj es (k : Int)).f1.getD j 0).toNat (by omega) h2).1;rw [Int.toNat_of_nonneg h1.1] at h3;exact h3
 unfold nL;split
 ·rename_i hif
  refine ⟨⟨h.vl, h.sl, h.uns, h.set, fun x hx => ?_, M3 h.heap _⟩, Or.inr (Or.inr ⟨_, (Dw Q _ _).2 (Or.inr rfl), rfl, rfl⟩), fun j hj => ?_⟩
  ·rcases (Dw Q _ _).1 hx with h1 | h1
   ·exact h.ent x h1
   ·subst h1;exact ⟨zC.1, ht, hif.1, Q8⟩
  ·rcases hj with h1 | h1 | ⟨x, hx, h2⟩
   ·exact Or.inl h1
   ·exact Or.inr (Or.inl h1)
   ·exact Or.inr (Or.inr ⟨x, (Dw Q _ _).2 (Or.inl hx), h2⟩)
 ·rename_i hif
  refine ⟨h, ?_, fun j hj => hj⟩;by_cases hlt : (kV vs (aj es (k : Int))).f0 < 1099511627776
  ·have hst : st.getD (aj es (k : Int)).f0.toNat false = true := by
    rcases Bool.eq_false_or_eq_true (st.getD (aj es (k : Int)).f0.toNat false) with h1 | h1
    ·exact h1
    ·exact absurd ⟨hlt, h1⟩ hif
   have h3 := (h.set (aj es (k : Int)).f0.toNat (by omega) hst).2.2;rw [Int.toNat_of_nonneg zC.1.1] at h3;exact Or.inr (Or.inl ⟨hst, h3.trans ht⟩)
  ·exact Or.inl (hv.aau (by omega))
theorem yo {vs : List dK} {st : List Bool} {top : dK} (hc : zO es) (he : zt n es) : ∀ (l : List Int) (op : List Int) (Q : QQ), (∀ k, k ∈ l → (0 ≤ k ∧ k < (es.length : Int)) ∧ oV top (kV vs (aj es k))) → Core n es vs st Q top → TK es st op l → (∀ k : Nat, k < es.length → op.getD k 0 = 0 → JD es vs st Q k) →
  Core n es vs st (jV es vs st l (op, Q)).2 top ∧ TK es st (jV es vs st l (op, Q)).1 [] ∧ ∀ k : Nat, k < es.length → (jV es vs st l (op, Q)).1.getD k 0 = 0 → JD es vs st (jV es vs st l (op, Q)).2 k
 | [], op, Q, _, h, hp, ho => ⟨h, hp, ho⟩
 | k :: l, op, Q, hl, h, hp, ho => by
  obtain ⟨⟨hk0, hk1⟩, hkt⟩ := hl k (List.mem_cons_self ..);obtain ⟨kn, rfl⟩ : ∃ kn : Nat, k = (kn : Int) := ⟨k.toNat, by omega⟩;have hkn : kn < es.length := by omega
  have hop := hp.op kn hkn;have hbd := hp.bd kn hkn;rw [List.count_cons_self] at hop hbd;have hrd : rd op (kn : Int) = op.getD kn 0 := rfl;have hw : wrap64 (rd op (kn : Int) - 1) = ((vW st (aj es (kn : Int)).f1 + l.count (kn : Int) : Nat) : Int) := by
   rw [hrd, hop];unfold wrap64;omega
  have hstep : jV es vs st ((kn : Int) :: l) (op, Q) = jV es vs st l (jw es vs st (op, Q) (kn : Int)) := rfl;have adg : rd (op.set (kn : Int).toNat (wrap64 (rd op (kn : Int) - 1))) (kn : Int) = ((vW st (aj es (kn : Int)).f1 + l.count (kn : Int) : Nat) : Int) := by
   show (op.set kn _).getD kn 0 = _;rw [jl, if_pos ⟨rfl, by rw [hp.ol]; exact hkn⟩, hw]
  have hp2 : TK es st (op.set (kn : Int).toNat (wrap64 (rd op (kn : Int) - 1))) l := by
   refine ⟨by rw [List.length_set]; exact hp.ol, fun j hj => ?_, fun j hj => ?_⟩
   ·show (op.set kn _).getD j 0 = _;rw [jl];by_cases hjk : j = kn
    ·subst hjk;rw [if_pos ⟨rfl, by rw [hp.ol]; exact hkn⟩, hw]
    ·rw [if_neg (fun h2 => hjk h2.1), hp.op j hj, List.count_cons_of_ne (by omega)]
   ·have := hp.bd j hj;rw [List.count_cons] at this;omega
  have hl2 : ∀ k, k ∈ l → (0 ≤ k ∧ k < (es.length : Int)) ∧ oV top (kV vs (aj es k)) := fun k hk => hl k (List.mem_cons_of_mem _ hk)
  have hoth : ∀ j : Nat, j < es.length → j ≠ kn → (op.set (kn : Int).toNat (wrap64 (rd op (kn : Int) - 1))).getD j 0 = op.getD j 0 := fun j hj hne => by
   show (op.set kn _).getD j 0 = _;rw [jl, if_neg (fun h2 => hne h2.1)]
  rw [hstep];unfold jw;simp only;rw [adg];split
  ·rename_i hz
   have hcz : vW st (aj es (kn : Int)).f1 = 0 := by omega
   obtain ⟨h1, h2, h3⟩ := h.offer hc he kn hkn (IE hcz) hkt;refine yo hc he l _ _ hl2 h1 hp2 (fun j hj hz2 => ?_);by_cases hjk : j = kn
   ·rw [hjk]; exact h2
   ·rw [hoth j hj hjk] at hz2;exact h3 j (ho j hj hz2)
  ·rename_i hz
   refine yo hc he l _ _ hl2 h hp2 (fun j hj hz2 => ?_);by_cases hjk : j = kn
   ·subst hjk;exact absurd (adg.symm.trans hz2) (fun e => hz e)
   ·rw [hoth j hj hjk] at hz2;exact ho j hj hz2
structure Inv (n : Nat) (es : List dO) (m : MS) (top : dK) : Prop where
 core : Core n es m.vs m.st m.Q top
 pend : TK es m.st m.op []
 off : ∀ k : Nat, k < es.length → m.op.getD k 0 = 0 → JD es m.vs m.st m.Q k
theorem Core.least {vs : List dK} {st : List Bool} {Q : QQ} {top : dK} (h : Core n es vs st Q top) {e0 : dP} {r : List dP} (hq : Q.es = e0 :: r) : ∀ x, x ∈ Q.es → oV e0.f0.f1 x.f0.f1 := by
 intro x hx;obtain ⟨k, hk, e⟩ := (Gf _ x).1 hx;have h0 : fV Q.es 0 = e0 := by rw [pQ Q.es 0 (by rw [hq]; simp)]; simp [hq]
 have := VI (h.heap.root k hk);rw [h0, ← e] at this;exact this
theorem Inv.step {us : List (List Int)} {m : MS} {top : dK} (h : Inv n es m top) (hc : zO es) (he : zt n es) (hul : ∀ t k, k ∈ us.getD t [] → 0 ≤ k ∧ k < (es.length : Int)) (MX : ∀ t k : Nat, t < n → k < es.length → (us.getD t []).count (k : Int) = (aj es (k : Int)).f1.count (t : Int))
  {e0 : dP} {r : List dP} (hq : m.Q.es = e0 :: r) : Inv n es (lM es us m e0) e0.f0.f1 := by
 have h0m : e0 ∈ m.Q.es := by rw [hq]; exact List.mem_cons_self ..
 obtain ⟨hn0, htop, hfin, Q8⟩ := h.core.ent e0 h0m;have hle := h.core.least hq;have Q9 : ∀ x, x ∈ r9 m.Q.es → x ∈ m.Q.es := fun x hx => by rw [hq] at hx ⊢; exact KZ e0 r x hx
 have hkeep : ∀ x, x ∈ m.Q.es → x = e0 ∨ x ∈ r9 m.Q.es := fun x hx => by rw [hq] at hx ⊢; exact Q7 e0 r x hx
 obtain ⟨t, ht⟩ : ∃ t : Nat, e0.f0.f0 = (t : Int) := ⟨e0.f0.f0.toNat, by omega⟩;have htn : t < n := by omega
 unfold lM;rw [ht, Int.toNat_natCast];split
 ·rename_i hst
  refine ⟨⟨h.core.vl, h.core.sl, h.core.uns, fun i hi hb => ⟨(h.core.set i hi hb).1, (h.core.set i hi hb).2.1, (h.core.set i hi hb).2.2.trans htop⟩, fun x hx => ⟨(h.core.ent x (Q9 x hx)).1, hle x (Q9 x hx), (h.core.ent x (Q9 x hx)).2.2⟩, IB h.core.heap⟩, h.pend, fun k hk hz => ?_⟩;rcases h.off k hk hz with h1 | h1 | ⟨x, hx, h2, h3⟩
  ·exact Or.inl h1
  ·exact Or.inr (Or.inl h1)
  ·rcases hkeep x hx with rfl | h4
   ·refine Or.inr (Or.inl ⟨?_, ?_⟩)
    ·rw [← h2, ht, Int.toNat_natCast]; exact hst
    ·rw [← h2, ← h3, ht];exact (h.core.set t htn hst).2.2.trans htop
   ·exact Or.inr (Or.inr ⟨x, h4, h2, h3⟩)
 ·rename_i hst
  have hst' : m.st.getD t false = false := by simpa using hst
  have hsl : t < m.st.length := by rw [h.core.sl]; exact htn
  have hvl : t < m.vs.length := by rw [h.core.vl]; exact htn
  have hval : ∀ k : Nat, k < es.length → (∀ x, x ∈ (aj es (k : Int)).f1 → x ≠ (t : Int)) → kV (m.vs.set t e0.f0.f1) (aj es (k : Int)) = kV m.vs (aj es (k : Int)) := fun k hk hx => by
   have zC := jb he (k : Int) (by omega) (by omega);unfold kV tailV;congr 1
   refine List.map_congr_left (fun x hxm => ?_);rw [uP m.vs t hvl _ x (zC.2.1 x hxm).1, if_neg (hx x hxm)]
  have hcore : Core n es (m.vs.set t e0.f0.f1) (m.st.set t true) ⟨r9 m.Q.es, m.Q.nx, m.Q.ck⟩ e0.f0.f1 := by
   refine ⟨by rw [List.length_set]; exact h.core.vl, by rw [List.length_set]; exact h.core.sl, fun i hi hb => ?_, fun i hi hb => ?_, fun x hx => ⟨(h.core.ent x (Q9 x hx)).1, hle x (Q9 x hx), (h.core.ent x (Q9 x hx)).2.2⟩, IB h.core.heap⟩
   ·rw [jl] at hb;rw [uP m.vs t hvl _ _ (by omega)];by_cases hit : i = t
    ·subst hit;rw [if_pos ⟨rfl, hsl⟩] at hb
     cases hb
    ·rw [if_neg (fun h2 => hit h2.1)] at hb;rw [if_neg (by omega)];exact h.core.uns i hi hb
   ·rw [jl] at hb;rw [uP m.vs t hvl _ _ (by omega)];by_cases hit : i = t
    ·subst hit;rw [if_pos rfl, ← ht];exact ⟨Q8, hfin, oV.refl _⟩
    ·rw [if_neg (fun h2 => hit h2.1)] at hb;rw [if_neg (by omega)];exact ⟨(h.core.set i hi hb).1, (h.core.set i hi hb).2.1, (h.core.set i hi hb).2.2.trans htop⟩
  have hset : ∀ k : Nat, k < es.length → vW m.st (aj es (k : Int)).f1 = vW (m.st.set t true) (aj es (k : Int)).f1 + (aj es (k : Int)).f1.count (t : Int) := fun k hk => by
   have zC := jb he (k : Int) (by omega) (by omega);exact Ld m.st t hsl hst' _ (fun x hx => (zC.2.1 x hx).1)
  have adh : TK es (m.st.set t true) m.op (us.getD t []) := by
   refine ⟨h.pend.ol, fun k hk => ?_, fun k hk => ?_⟩
   ·have h1 := h.pend.op k hk;rw [List.count_nil, Nat.add_zero, hset k hk] at h1;rw [MX t k htn hk];exact h1
   ·have h1 := h.pend.bd k hk;rw [List.count_nil, Nat.add_zero, hset k hk] at h1;rw [MX t k htn hk];exact h1
  have hoff : ∀ k : Nat, k < es.length → m.op.getD k 0 = 0 → JD es (m.vs.set t e0.f0.f1) (m.st.set t true) ⟨r9 m.Q.es, m.Q.nx, m.Q.ck⟩ k := fun k hk hz => by
   have zC := jb he (k : Int) (by omega) (by omega);have hcz : vW m.st (aj es (k : Int)).f1 = 0 := by
    have h1 := h.pend.op k hk;rw [List.count_nil, Nat.add_zero, hz] at h1;omega
   have hv := hval k hk (fun x hx hxt => by
    have := IE hcz x hx;rw [hxt, Int.toNat_natCast, hst'] at this
    cases this)
   unfold JD;rw [hv, uP m.vs t hvl _ _ zC.1.1, jl];rcases h.off k hk hz with h1 | ⟨h1, h1'⟩ | ⟨x, hx, h2, h3⟩
   ·exact Or.inl h1
   ·have hne : ¬ (aj es (k : Int)).f0 = (t : Int) := fun e => by rw [e, Int.toNat_natCast, hst'] at h1; cases h1
    refine Or.inr (Or.inl ?_);rw [if_neg (fun h5 => hne (by omega)), if_neg hne];exact ⟨h1, h1'⟩
   ·rcases hkeep x hx with rfl | h4
    ·refine Or.inr (Or.inl ?_);rw [if_pos ⟨by omega, hsl⟩, if_pos (by omega), h3];exact ⟨rfl, oV.refl _⟩
    ·exact Or.inr (Or.inr ⟨x, h4, h2, h3⟩)
  have hl : ∀ k, k ∈ us.getD t [] → (0 ≤ k ∧ k < (es.length : Int)) ∧ oV e0.f0.f1 (kV (m.vs.set t e0.f0.f1) (aj es k)) := fun k hk => by
   have h1 := hul t k hk;refine ⟨h1, ?_⟩;obtain ⟨kn, rfl⟩ : ∃ kn : Nat, k = (kn : Int) := ⟨k.toNat, by omega⟩;have hkn : kn < es.length := by omega
   have zC := jb he (kn : Int) (by omega) (by omega);have hcnt : 0 < (aj es (kn : Int)).f1.count (t : Int) := by rw [← MX t kn htn hkn]; exact List.count_pos_iff.2 hk
   obtain ⟨j, hj, ej⟩ := List.mem_iff_getElem.1 (List.count_pos_iff.1 hcnt);have hs := Ey (aj es (kn : Int)).f2 (tailV (m.vs.set t e0.f0.f1) (aj es (kn : Int)).f1) (nM hc kn hkn).1 (nN (hcore.aaw hc) (fun x hx => by rw [hcore.vl]; exact zC.2.1 x hx)) j (by rw [eY]; exact hj);rw [kM _ _ _ hj, List.getD_eq_getElem?_getD (l := (aj es (kn : Int)).f1), List.getElem?_eq_getElem hj, Option.getD_some, ej, uP m.vs t hvl _ _ (by omega), if_pos rfl] at hs;exact hs
  obtain ⟨r1, r2, r3⟩ := yo hc he (us.getD t []) m.op ⟨r9 m.Q.es, m.Q.nx, m.Q.ck⟩ hl hcore adh hoff;exact ⟨r1, r2, r3⟩
theorem IG {us : List (List Int)} (hc : zO es) (he : zt n es) (MX : ∀ t k : Nat, t < n → k < es.length → (us.getD t []).count (k : Int) = (aj es (k : Int)).f1.count (t : Int)) : ∀ (g : Nat) (m : MS) (top : dK), Inv n es m top → okM n es us m → mu us m < g → ∃ aiA, Inv n es (uM es us g m) aiA ∧ (uM es us g m).Q.es = []
 | 0, m, top, _, _, hg => absurd hg (by omega)
 | g + 1, m, top, h, hm, hg => by
  cases hq : m.Q.es with
  | nil =>
   have e : uM es us (g + 1) m = m := by simp only [uM, hq]
   rw [e];exact ⟨top, h, hq⟩
  | cons e0 r =>
   rw [Ga es us g m e0 r hq];have hs := K9 hm he hq;exact IG hc he MX g _ _ (h.step hc he hm.us MX hq) hs.1 (by omega)
theorem Inv.UZ {m : MS} {top : dK} (h : Inv n es m top) (hc : zO es) (he : zt n es) (hq : m.Q.es = []) : Pe n es m.vs := by
 have hok := h.core.aaw hc;refine ⟨h.core.vl, hok, fun k hk => ?_, fun t ht => ?_⟩
 ·have zC := jb he (k : Int) (by omega) (by omega);have hhd := hok _ (AA m.vs (aj es (k : Int)).f0 zC.1.1 (by rw [h.core.vl]; exact zC.1.2));by_cases hz : vW m.st (aj es (k : Int)).f1 = 0
  ·have h1 := h.pend.op k hk;rw [List.count_nil, Nat.add_zero, hz] at h1;rcases h.off k hk h1 with h2 | h2 | ⟨x, hx, _⟩
   ·rw [h2]; exact hhd.le_inf
   ·exact h2.2
   ·rw [hq] at hx; cases hx
  ·obtain ⟨j, hj, hb⟩ := TJ hz;have hm := zC.2.1 _ (ib _ j 0 hj);have hi := h.core.uns ((aj es (k : Int)).f1.getD j 0).toNat (by omega) hb;rw [Int.toNat_of_nonneg hm.1] at hi;have : kV m.vs (aj es (k : Int)) = sK := IC _ _ (nM hc k hk).1 (nN hok (fun x hx => by rw [h.core.vl]; exact zC.2.1 x hx)) j (by rw [eY]; exact hj) (by rw [kM _ _ _ hj]; exact hi);rw [this];exact hhd.le_inf
 ·cases hb : m.st.getD t false with
  | false => exact Or.inl (h.core.uns t ht hb)
  | true => exact Or.inr (h.core.set t ht hb).1
theorem Ra (us : List (List Int)) (k : Int) (t : Nat) (ht : t < us.length) (x : Int) : ∀ l : List Int, (∀ y, y ∈ l → 0 ≤ y) → ((Hl us k l).getD t []).count x = (us.getD t []).count x + if x = k then l.count (t : Int) else 0 := by
 intro l;induction l generalizing us with
 | nil => intro _; simp [Hl]
 | cons y l ih =>
  intro h;have hy := h y (List.mem_cons_self ..);have e : Hl us k (y :: l) = Hl (us.set y.toNat (us.getD y.toNat [] ++ [k])) k l := rfl;rw [e, ih _ (by rw [List.length_set]; exact ht) (fun z hz => h z (List.mem_cons_of_mem _ hz)), jl, List.count_cons];by_cases hyt : y = (t : Int)
  ·subst hyt;rw [if_pos ⟨by omega, by omega⟩, Int.toNat_natCast, List.count_append, List.count_singleton];by_cases hx : x = k
   ·subst hx;simp
    omega
   ·have : (k == x) = false := by rw [beq_eq_false_iff_ne]; exact fun h => hx h.symm
    rw [this, if_neg hx, if_neg hx];simp
  ·have h2 : (y == (t : Int)) = false := by rw [beq_eq_false_iff_ne]; exact hyt
   rw [if_neg (fun h3 => hyt (by omega)), h2];simp
theorem II (he : zt n es) (t : Nat) (ht : t < n) (k : Nat) : ∀ i, i ≤ es.length → ((yn n es i).getD t []).count (k : Int) = if k < i then (aj es (k : Int)).f1.count (t : Int) else 0
 | 0, _ => by
  simp only [yn, List.getD_eq_getElem?_getD, List.getElem?_replicate];rw [if_pos ht];simp
 | i + 1, hi => by
  have ih := II he t ht k i (by omega);have hei := jb he (i : Int) (by omega) (by omega);have e : yn n es (i + 1) = Hl (yn n es i) (i : Nat) (aj es (i : Nat)).f1 := rfl;rw [e, Ra _ _ t (by rw [zL]; exact ht) _ _ (fun y hy => (hei.2.1 y hy).1), ih];by_cases h1 : k < i
  ·rw [if_pos h1, if_neg (by omega), if_pos (by omega)];rfl
  ·by_cases h2 : k = i
   ·subst h2;rw [if_neg h1, if_pos rfl, if_pos (by omega)];omega
   ·rw [if_neg h1, if_neg (by omega), if_neg (by omega)]
theorem kW {α : Type} (m i : Nat) (a d : α) (h : i < m) : (List.replicate m a).getD i d = a := by
 simp [List.getD_eq_getElem?_getD, List.getElem?_replicate, h]
theorem IJ (hc : zO es) (he : zt n es) : ∀ k, k ≤ es.length → Core n es (List.replicate n sK) (List.replicate n false) (oh es (List.replicate n sK) (List.replicate n false) k) ⟨0, 0⟩ ∧ ∀ j, j < k → (aj es (j : Int)).f1.length = 0 → JD es (List.replicate n sK) (List.replicate n false) (oh es (List.replicate n sK) (List.replicate n false) k) j
 | 0, _ => by
  refine ⟨⟨by simp, by simp, fun t ht _ => kW n t _ _ ht, fun t ht hb => ?_, fun x hx => by simp [oh] at hx, fun i h0 h1 => by simp [oh] at h1⟩, fun j hj => absurd hj (by omega)⟩;rw [kW n t _ _ ht] at hb
  cases hb
 | k + 1, hk => by
  obtain ⟨h1, h2⟩ := IJ hc he k (by omega);rw [vT];split
  ·rename_i hz
   have hv := h1.val hc he k (by omega);obtain ⟨r1, r2, r3⟩ := h1.offer hc he k (by omega) (fun t ht => by rw [List.eq_nil_of_length_eq_zero hz] at ht; cases ht) (by
    have ha := hv.a;have hb := hv.c;unfold oV;simp only;omega)
   refine ⟨r1, fun j hj hz2 => ?_⟩;by_cases hjk : j = k
   ·rw [hjk]; exact r2
   ·exact r3 j (h2 j (by omega) hz2)
  ·rename_i hz
   refine ⟨h1, fun j hj hz2 => ?_⟩;by_cases hjk : j = k
   ·rw [hjk] at hz2; exact absurd hz2 hz
   ·exact h2 j (by omega) hz2
theorem Dx (m : Nat) : ∀ l : List Int, vW (List.replicate m false) l = l.length
 | [] => rfl
 | x :: l => by
  have ih := Dx m l;unfold vW at ih ⊢;rw [List.countP_cons, ih, List.length_cons];have : (List.replicate m false).getD x.toNat false = false := by
   simp only [List.getD_eq_getElem?_getD, List.getElem?_replicate];split <;> rfl
  rw [this];rfl
theorem TL (hc : zO es) (he : zt n es) : Inv n es (m0L n es) ⟨0, 0⟩ := by
 obtain ⟨h1, h2⟩ := IJ hc he es.length (Nat.le_refl _);refine ⟨h1, ⟨by simp [m0L, Iz], fun k hk => ?_, fun k hk => ?_⟩, fun k hk hz => ?_⟩
 ·have := JA es k hk;rw [Int.toNat_natCast] at this;show (Iz es es.length).getD k 0 = _;rw [this];show _ = ((vW (List.replicate n false) _ + _ : Nat) : Int);rw [Dx, List.count_nil];rfl
 ·show vW (List.replicate n false) _ + _ ≤ _;rw [Dx, List.count_nil];exact (jb he (k : Int) (by omega) (by omega)).2.2
 ·have := JA es k hk;rw [Int.toNat_natCast] at this;have hz2 : (Iz es es.length).getD k 0 = 0 := hz;rw [this] at hz2;exact h2 k hk (by omega)
theorem Le (hc : zO es) (he : zt n es) (hT : ∀ e, e ∈ es → e.f1.length ≤ 100) (hl : es.length ≤ 1000) : ∃ top, Inv n es (M0 n es) top ∧ (M0 n es).Q.es = [] :=
 IG hc he (fun t k ht hk => by rw [II he t ht k es.length (Nat.le_refl _), if_pos hk]) 1000000 (m0L n es) ⟨0, 0⟩ (TL hc he) (Lb n es he (m0L n es) rfl) (Pb n es hT hl (m0L n es) rfl)
theorem Gj (hc : zO es) (he : zt n es) (hT : ∀ e, e ∈ es → e.f1.length ≤ 100) (hl : es.length ≤ 1000) : Pe n es (M0 n es).vs := by
 obtain ⟨top, h, hq⟩ := Le hc he hT hl;exact h.UZ hc he hq
end
theorem M4 (n : Nat) (es : List dO) (vs : List dK) (st : List Bool) : ∀ k, (RU n es vs st k).length = n
 | 0 => by simp [RU]
 | k + 1 => by
  have ih := M4 n es vs st k;rw [Gc];unfold Gb;split
  ·rw [List.length_set]; exact ih
  ·exact ih
def pR (es : List dO) (vs : List dK) (k : Nat) (t : Int) : Prop := (aj es (k : Int)).f0 = t ∧ (bJ vs t).f0 < 1099511627776 ∧ kV vs (aj es (k : Int)) = bJ vs t
structure zP (n : Nat) (es : List dO) (vs : List dK) (m : Nat) (ed : List Int) : Prop where
 len : ed.length = n
 ch : ∀ t : Nat, t < n → (ed.getD t 0 = -1 ∧ ∀ k, k < m → ¬ pR es vs k (t : Int)) ∨ ∃ k, k < m ∧ ed.getD t 0 = (k : Int) ∧ pR es vs k (t : Int) ∧ ∀ j, j < k → ¬ pR es vs j (t : Int)
theorem zP.uniq {n : Nat} {es : List dO} {vs : List dK} {m : Nat} {a b : List Int} (ha : zP n es vs m a) (hb : zP n es vs m b) : a = b := by
 refine List.ext_getElem (by rw [ha.len, hb.len]) (fun i h1 h2 => ?_);have hi : i < n := by rw [← ha.len]; exact h1
 have h3 : a.getD i 0 = b.getD i 0 := by
  rcases ha.ch i hi with ⟨ea, ta⟩ | ⟨k, hk, ea, ta, fa⟩ <;> rcases hb.ch i hi with ⟨eb, tb⟩ | ⟨j, hj, eb, tb, fb⟩
  ·rw [ea, eb]
  ·exact absurd tb (ta j hj)
  ·exact absurd ta (tb k hk)
  ·rw [ea, eb];by_cases h4 : k < j
   ·exact absurd ta (fb k h4)
   ·by_cases h5 : j < k
    ·exact absurd tb (fa j h5)
    ·omega
 simp only [List.getD_eq_getElem?_getD, List.getElem?_eq_getElem h1, List.getElem?_eq_getElem h2, Option.getD_some] at h3;exact h3
theorem Gl {n : Nat} {es : List dO} {vs : List dK} {st : List Bool} (he : zt n es) (hst : ∀ t : Nat, t < n → (st.getD t false = true ↔ (bJ vs (t : Int)).f0 < 1099511627776)) : ∀ m, m ≤ es.length → zP n es vs m (RU n es vs st m)
 | 0, _ => ⟨by simp [RU], fun t ht => Or.inl ⟨kW n t _ _ ht, fun k hk => absurd hk (by omega)⟩⟩
 | m + 1, hm => by
  have ih := Gl he hst m (by omega);have zC := jb he (m : Int) (by omega) (by omega);obtain ⟨hd, hhd⟩ : ∃ hd : Nat, (aj es (m : Int)).f0 = (hd : Int) := ⟨(aj es (m : Int)).f0.toNat, by omega⟩;have hdn : hd < n := by omega
  rw [Gc];unfold Gb;rw [hhd, Int.toNat_natCast];have hneg : ∀ t : Nat, t < n → ((RU n es vs st m).getD t 0 < 0 ↔ ∀ k, k < m → ¬ pR es vs k (t : Int)) := fun t ht => by
   rcases ih.ch t ht with ⟨e, h⟩ | ⟨k, hk, e, h, _⟩
   ·rw [e]; exact ⟨fun _ => h, fun _ => by decide⟩
   ·rw [e]; exact ⟨fun h2 => absurd h2 (by omega), fun h2 => absurd h (h2 k hk)⟩
  split
  ·rename_i hif
   obtain ⟨i1, i2, i3⟩ := hif;have htm : pR es vs m (hd : Int) := ⟨hhd, (hst hd hdn).1 i2, (E5 _ _).1 i3⟩;refine ⟨by rw [List.length_set]; exact ih.len, fun t ht => ?_⟩;rw [jl];by_cases hth : t = hd
   ·subst hth;rw [if_pos ⟨rfl, by rw [ih.len]; exact ht⟩];exact Or.inr ⟨m, by omega, rfl, htm, (hneg t ht).1 i1⟩
   ·rw [if_neg (fun h => hth h.1)];rcases ih.ch t ht with ⟨e, h⟩ | ⟨k, hk, e, h⟩
    ·refine Or.inl ⟨e, fun k hk hT => ?_⟩;by_cases hkm : k = m
     ·subst hkm;have := hT.1;omega
     ·exact h k (by omega) hT
    ·exact Or.inr ⟨k, by omega, e, h⟩
  ·rename_i hif
   refine ⟨ih.len, fun t ht => ?_⟩;rcases ih.ch t ht with ⟨e, h⟩ | ⟨k, hk, e, h⟩
   ·refine Or.inl ⟨e, fun k hk hT => ?_⟩;by_cases hkm : k = m
    ·subst hkm;have hth : (t : Int) = (hd : Int) := hT.1.symm.trans hhd;obtain rfl : t = hd := by omega
     exact hif ⟨by rw [e]; decide, (hst t ht).2 hT.2.1, (E5 _ _).2 hT.2.2⟩
    ·exact h k (by omega) hT
   ·exact Or.inr ⟨k, by omega, e, h⟩
theorem Inv.settled {n : Nat} {es : List dO} {m : MS} {top : dK} (h : Inv n es m top) (t : Nat) (ht : t < n) : m.st.getD t false = true ↔ (bJ m.vs (t : Int)).f0 < 1099511627776 := by
 cases hb : m.st.getD t false with
 | false =>
  rw [h.core.uns t ht hb];exact ⟨fun h => (by cases h), fun h => absurd h (by decide)⟩
 | true => exact ⟨fun _ => (h.core.set t ht hb).2.1, fun _ => rfl⟩
theorem Ez {n : Nat} {es : List dO} (hc : zO es) (he : zt n es) (hT : ∀ e, e ∈ es → e.f1.length ≤ 100) (hl : es.length ≤ 1000) : zP n es (jy n es) es.length (xL n es) := by
 obtain ⟨top, h, hq⟩ := Le hc he hT hl;exact Gl he (fun t ht => h.settled t ht) es.length (Nat.le_refl _)
end Go.Proofs.Ytamimodkcbbpmaa.Pr
end
section
namespace Go.Proofs.Ytamimodkcbbpmaa.Pr
open Go.RowKit Go.Proofs.YtamimodkcbbpmaaW.PrintWords Go.Proofs.YtamimodkcbbpmaaW.PrintLast Go.Proofs.YtamimodkcbbpmaaW.PrintMore Go.Proofs.YtamimodkcbbpmaaXW
attribute [local go_sem] kv ky lX lY jf jg kz kC
set_option linter.unusedVariables false
set_option linter.unusedSimpArgs false
def jA.f (aR : Int) (iR : Int) (cK : Int) (iT : Int) : Option (Bool) := if aR < cK then (some true) else (if aR = cK then (some (decide (iR < iT))) else (some false))
set_option maxHeartbeats 8000000 in
set_option maxRecDepth 100000 in
theorem jA.calls (aR : Int) (iR : Int) (cK : Int) (iT : Int) (r : Bool) (w : World) (h : jA.f aR iR cK iT = some r) :
  Calls Try.prog 60 #[.agg #[.int .i64 aR, .int .i64 iR], .agg #[.int .i64 cK, .int .i64 iT]] w fun e w' => e = .returned (.bool r) ∧ Below w.heap.size w w' := by
 have QT := Try.underlying34;have HB := aa.mk (Below.refl w.heap.size w);have H : (if aR < cK then (some true) else (if aR = cK then (some (decide (iR < iT))) else (some false))) = some r := h;clear h;by_cases c3 : aR < cK
 ·rw [if_pos c3] at H;have Tn : decide (aR < cK) = true := decide_eq_true c3;clear c3;obtain rfl := Option.some.inj H;go_enter Try.func60, Try.ntmps60
  go_wp2_with (first | ((with_reducible refine bM (N := 2) rfl ?_); refine bG ?hg (N := 2) ?hd (cs := #[.int .i64 aR, .int .i64 iR]) (t := 34) ?hr ?_; (case hd => rfl); (case hg => rfl); (case hr => first | (go_simp; done) | (go_simp; rfl)); intro ni hg w4 bR hb; have bP := aa.mk (aM (bO HB) hb); have bQ := aa.mk (bR); have bT := aa.mk ((by rw [hg]; exact (aK (bO HB)) : w.heap.size ≤ ni)); have di := aa.mk ((by rw [hg]; exact (aK (bO HB)) : w.heap.size ≤ ni)); clear HB; have HB := bP; have jW := bQ; have Yk := bT; have Yl := di; clear bP bQ bT di; clear hb bR hg) | ((with_reducible refine bM (N := 3) rfl ?_); refine bG ?hg (N := 3) ?hd (cs := #[.int .i64 cK, .int .i64 iT]) (t := 34) ?hr ?_; (case hd => rfl); (case hg => rfl); (case hr => first | (go_simp; done) | (go_simp; rfl)); intro nk hg w5 bR hb; have bP := aa.mk (aC (bk jW) hb); have bQ := aa.mk (aM (bO HB) hb); have bT := aa.mk (bR); have di := aa.mk ((by rw [hg]; exact (aK (bO HB)) : w.heap.size ≤ nk)); have eB := aa.mk ((by rw [hg]; exact (aK (bO HB)) : w.heap.size ≤ nk)); have gB := aa.mk ((by rw [hg]; exact Nat.ne_of_lt (bE (bk jW)) : ni ≠ nk)); have iG := aa.mk ((by rw [hg]; exact Nat.ne_of_gt (bE (bk jW)) : nk ≠ ni)); clear jW; clear HB; have jW := bP; have HB := bQ; have sZ := bT; have Ym := di; have Yn := eB; have uQ := gB; have uR := iG; clear bP bQ bT di eB gB iG; clear hb bR hg; have aaa := uQ.out; have aab := uR.out; have ML : w5.cell? ⟨ni, 0, none⟩ = some (.int .i64 aR) := (ae jW.out 0).trans rfl; have MM : w5.cell? ⟨ni, 1, none⟩ = some (.int .i64 iR) := (ae jW.out 1).trans rfl; have MN := ai jW.out 0; have MO := ai jW.out 1; have nG : w5.cell? ⟨nk, 0, none⟩ = some (.int .i64 cK) := (ae sZ.out 0).trans rfl; have nH : w5.cell? ⟨nk, 1, none⟩ = some (.int .i64 iT) := (ae sZ.out 1).trans rfl; have nI := ai sZ.out 0; have nJ := ai sZ.out 1))
  go_ret;exact ⟨by first | rfl | (simp [aW, aX] <;> rfl) | (simp [*, aW, aX] <;> rfl), bO HB⟩
 ·rw [if_neg c3] at H;have Tn : decide (aR < cK) = false := decide_eq_false c3;clear c3;by_cases c9 : aR = cK
  ·rw [if_pos c9] at H;have yg : (aR == cK) = true := beq_iff_eq.mpr c9;have aaf : (aR != cK) = false := bne_eq_false_iff_eq.mpr c9;clear c9;obtain rfl := Option.some.inj H;go_enter Try.func60, Try.ntmps60
   go_wp2_with (first | ((with_reducible refine bM (N := 2) rfl ?_); refine bG ?hg (N := 2) ?hd (cs := #[.int .i64 aR, .int .i64 iR]) (t := 34) ?hr ?_; (case hd => rfl); (case hg => rfl); (case hr => first | (go_simp; done) | (go_simp; rfl)); intro ni hg Io bR hb; have bP := aa.mk (aM (bO HB) hb); have bQ := aa.mk (bR); have bT := aa.mk ((by rw [hg]; exact (aK (bO HB)) : w.heap.size ≤ ni)); have di := aa.mk ((by rw [hg]; exact (aK (bO HB)) : w.heap.size ≤ ni)); clear HB; have HB := bP; have jW := bQ; have Yk := bT; have Yl := di; clear bP bQ bT di; clear hb bR hg) | ((with_reducible refine bM (N := 3) rfl ?_); refine bG ?hg (N := 3) ?hd (cs := #[.int .i64 cK, .int .i64 iT]) (t := 34) ?hr ?_; (case hd => rfl); (case hg => rfl); (case hr => first | (go_simp; done) | (go_simp; rfl)); intro nk hg Me bR hb; have bP := aa.mk (aC (bk jW) hb); have bQ := aa.mk (aM (bO HB) hb); have bT := aa.mk (bR); have di := aa.mk ((by rw [hg]; exact (aK (bO HB)) : w.heap.size ≤ nk)); have eB := aa.mk ((by rw [hg]; exact (aK (bO HB)) : w.heap.size ≤ nk)); have gB := aa.mk ((by rw [hg]; exact Nat.ne_of_lt (bE (bk jW)) : ni ≠ nk)); have iG := aa.mk ((by rw [hg]; exact Nat.ne_of_gt (bE (bk jW)) : nk ≠ ni)); clear jW; clear HB; have jW := bP; have HB := bQ; have sZ := bT; have Ym := di; have Yn := eB; have uQ := gB; have uR := iG; clear bP bQ bT di eB gB iG; clear hb bR hg; have Tp := uQ.out; have Tq := uR.out; have yT : Me.cell? ⟨ni, 0, none⟩ = some (.int .i64 aR) := (ae jW.out 0).trans rfl; have yU : Me.cell? ⟨ni, 1, none⟩ = some (.int .i64 iR) := (ae jW.out 1).trans rfl; have yV := ai jW.out 0; have yX := ai jW.out 1; have Vt : Me.cell? ⟨nk, 0, none⟩ = some (.int .i64 cK) := (ae sZ.out 0).trans rfl; have Vu : Me.cell? ⟨nk, 1, none⟩ = some (.int .i64 iT) := (ae sZ.out 1).trans rfl; have Vv := ai sZ.out 0; have Vw := ai sZ.out 1))
   go_ret;exact ⟨by first | rfl | (simp [aW, aX] <;> rfl) | (simp [*, aW, aX] <;> rfl), bO HB⟩
  ·rw [if_neg c9] at H;have yg : (aR == cK) = false := beq_eq_false_iff_ne.mpr c9;have aaf : (aR != cK) = true := bne_iff_ne.mpr c9;obtain rfl := Option.some.inj H;go_enter Try.func60, Try.ntmps60
   go_wp2_with (first | ((with_reducible refine bM (N := 2) rfl ?_); refine bG ?hg (N := 2) ?hd (cs := #[.int .i64 aR, .int .i64 iR]) (t := 34) ?hr ?_; (case hd => rfl); (case hg => rfl); (case hr => first | (go_simp; done) | (go_simp; rfl)); intro ni hg w15 bR hb; have bP := aa.mk (aM (bO HB) hb); have bQ := aa.mk (bR); have bT := aa.mk ((by rw [hg]; exact (aK (bO HB)) : w.heap.size ≤ ni)); have di := aa.mk ((by rw [hg]; exact (aK (bO HB)) : w.heap.size ≤ ni)); clear HB; have HB := bP; have jW := bQ; have Yk := bT; have Yl := di; clear bP bQ bT di; clear hb bR hg) | ((with_reducible refine bM (N := 3) rfl ?_); refine bG ?hg (N := 3) ?hd (cs := #[.int .i64 cK, .int .i64 iT]) (t := 34) ?hr ?_; (case hd => rfl); (case hg => rfl); (case hr => first | (go_simp; done) | (go_simp; rfl)); intro nk hg w16 bR hb; have bP := aa.mk (aC (bk jW) hb); have bQ := aa.mk (aM (bO HB) hb); have bT := aa.mk (bR); have di := aa.mk ((by rw [hg]; exact (aK (bO HB)) : w.heap.size ≤ nk)); have eB := aa.mk ((by rw [hg]; exact (aK (bO HB)) : w.heap.size ≤ nk)); have gB := aa.mk ((by rw [hg]; exact Nat.ne_of_lt (bE (bk jW)) : ni ≠ nk)); have iG := aa.mk ((by rw [hg]; exact Nat.ne_of_gt (bE (bk jW)) : nk ≠ ni)); clear jW; clear HB; have jW := bP; have HB := bQ; have sZ := bT; have Ym := di; have Yn := eB; have uQ := gB; have uR := iG; clear bP bQ bT di eB gB iG; clear hb bR hg; have FX := uQ.out; have FY := uR.out; have lZ : w16.cell? ⟨ni, 0, none⟩ = some (.int .i64 aR) := (ae jW.out 0).trans rfl; have l5 : w16.cell? ⟨ni, 1, none⟩ = some (.int .i64 iR) := (ae jW.out 1).trans rfl; have l6 := ai jW.out 0; have l7 := ai jW.out 1; have qo : w16.cell? ⟨nk, 0, none⟩ = some (.int .i64 cK) := (ae sZ.out 0).trans rfl; have qp : w16.cell? ⟨nk, 1, none⟩ = some (.int .i64 iT) := (ae sZ.out 1).trans rfl; have qw := ai sZ.out 0; have qx := ai sZ.out 1))
   go_ret;exact ⟨by first | rfl | (simp [aW, aX] <;> rfl) | (simp [*, aW, aX] <;> rfl), bO HB⟩
def bz.l0 : Nat → List (dK) → Int → Int → Int → Option (Int × Int)
 | 0, _, _, _, _ => none
 | k + 1, x1, x5, x6, x7 => if x7 < (x1.length : Int) then (if 0 ≤ x7 then (bz.l0 k x1 (mn (wrap64 (x5 + ((bJ x1 x7).f0))) 1099511627776) (mn (wrap64 (x6 + ((bJ x1 x7).f1))) 1099511627776) (wrap64 (x7 + 1))) else (none)) else (if x5 ≥ 1099511627776 then (some (1099511627776, 0)) else (some (x5, x6)))
def bz.f (k : Nat) (a0 : Int) (l1 : List (dK)) : Option (Int × Int) := bz.l0 k l1 a0 1 0
theorem bz.eD : ∀ k, (∀ y0 y1 y2 y3, dz (bz.l0 k y0 y1 y2 y3) (bz.l0 (k + 1) y0 y1 y2 y3))
 | 0 => fun _ _ _ _ r h => by simp [bz.l0] at h
 | k + 1 => by
  have jP := bz.eD k
  ·intro y0 y1 y2 y3;unfold bz.l0;repeat' first
   | (with_reducible exact jP _ _ _ _)
   | (with_reducible exact dz.refl _)
   | (with_reducible exact dz.none _)
   | (with_reducible refine dz.ite ?_ ?_)
   | (with_reducible refine dz.bind ?_ (fun _ => ?_))
   | exact jP _ _ _ _
   | exact dz.none _
   | refine dz.ite ?_ ?_
   | refine dz.bind ?_ (fun _ => ?_)
theorem bz.mono : ∀ a0 a1 k, dz (bz.f k a0 a1) (bz.f (k + 1) a0 a1) := by
 intro a0 a1 k;have jP := bz.eD k;unfold bz.f;repeat' first
   | (with_reducible exact jP _ _ _ _)
   | (with_reducible exact dz.refl _)
   | (with_reducible exact dz.none _)
   | (with_reducible refine dz.ite ?_ ?_)
   | (with_reducible refine dz.bind ?_ (fun _ => ?_))
   | exact jP _ _ _ _
   | exact dz.none _
   | refine dz.ite ?_ ?_
   | refine dz.bind ?_ (fun _ => ?_)
set_option maxHeartbeats 8000000 in
set_option maxRecDepth 100000 in
theorem bz.calls (k : Nat) (a0 : Int) (A1 : Option Addr) (c1 : Nat) (l1 : List (dK)) (r1 : Int) (r2 : Int) (w : World) (hr1 : Kd.C xA w A1 l1.length l1) (hc1 : l1.length ≤ c1) (h : bz.f k a0 l1 = some (r1, r2)) :
  Calls Try.prog 62 #[.int .i64 a0, .slice A1 l1.length c1] w fun e w' => e = .returned (.agg #[.int .i64 r1, .int .i64 r2]) ∧ Below w.heap.size w w' := by
 have QT := Try.underlying34;have HR1 := aa.mk hr1;have EY := aa.mk hc1;clear hr1 hc1;have HB := aa.mk (Below.refl w.heap.size w);have H : (bz.l0 k l1 a0 1 0) = some (r1, r2) := h;clear h;have H' := aa.mk H;clear H;go_enter Try.func62, Try.ntmps62
 go_wp2_with (first | ((with_reducible refine bM (N := 4) rfl ?_); refine bG ?hg (N := 4) ?hd (cs := #[.int .i64 0, .int .i64 0]) (t := 34) ?hr ?_; (case hd => rfl); (case hg => rfl); (case hr => first | (go_simp; done) | (go_simp; rfl)); intro sj hg w3 bR hb; have bP := aa.mk (aM (bO HB) hb); have bQ := aa.mk (bR); have bT := aa.mk ((by rw [hg]; exact (aK (bO HB)) : w.heap.size ≤ sj)); have di := aa.mk ((by rw [hg]; exact (aK (bO HB)) : w.heap.size ≤ sj)); clear HB; have HB := bP; have su := bQ; have Yo := bT; have Yp := di; clear bP bQ bT di; clear hb bR hg))
 repeat (go_quiet (first | ((with_reducible refine bM (N := 4) rfl ?_); refine bG ?hg (N := 4) ?hd (cs := #[.int .i64 0, .int .i64 0]) (t := 34) ?hr ?_; (case hd => rfl); (case hg => rfl); (case hr => first | (go_simp; done) | (go_simp; rfl)); intro sj hg w3 bR hb; have bP := aa.mk (aM (bO HB) hb); have bQ := aa.mk (bR); have bT := aa.mk ((by rw [hg]; exact (aK (bO HB)) : w.heap.size ≤ sj)); have di := aa.mk ((by rw [hg]; exact (aK (bO HB)) : w.heap.size ≤ sj)); clear HB; have HB := bP; have su := bQ; have Yo := bT; have Yp := di; clear bP bQ bT di; clear hb bR hg)); try go_wp2_with (first | ((with_reducible refine bM (N := 4) rfl ?_); refine bG ?hg (N := 4) ?hd (cs := #[.int .i64 0, .int .i64 0]) (t := 34) ?hr ?_; (case hd => rfl); (case hg => rfl); (case hr => first | (go_simp; done) | (go_simp; rfl)); intro sj hg w3 bR hb; have bP := aa.mk (aM (bO HB) hb); have bQ := aa.mk (bR); have bT := aa.mk ((by rw [hg]; exact (aK (bO HB)) : w.heap.size ≤ sj)); have di := aa.mk ((by rw [hg]; exact (aK (bO HB)) : w.heap.size ≤ sj)); clear HB; have HB := bP; have su := bQ; have Yo := bT; have Yp := di; clear bP bQ bT di; clear hb bR hg)))
 go_loopg [5, 6, 7] k (fun kq v5 v6 v7 w' => ∃ (nO : Int) (lD : Int) (qA : Int), v5 = .int .i64 nO ∧ v6 = .int .i64 lD ∧ v7 = .int .i64 qA ∧ aa (bz.l0 kq l1 nO lD qA = some (r1, r2)) ∧ aa (kq ≤ k) ∧ aa (w'.heap[sj]? = some (.cells #[.int .i64 0, .int .i64 0] 34 (0, 0))) ∧ aa (Below w.heap.size w w'))
 case atStart => exact ⟨(a0), (1), (0), (by first | rfl | (simp; done) | (simp [*]; done)), (by first | rfl | (simp; done) | (simp [*]; done)), (by first | rfl | (simp; done) | (simp [*]; done)), H', ⟨Nat.le_refl _⟩, ⟨by (with_reducible repeat (first | refine ax ?_ _ | refine az ?_ | refine au ?_ _)); exact su.out⟩, ⟨bO HB⟩⟩
 case round =>
  clear H';(try clear c1); (try clear p2);obtain ⟨nO, lD, qA, rfl, rfl, rfl, HA, yf, su, HB⟩ := hrel
  cases gk with
  | zero => exact absurd HA.out (by simp [bz.l0])
  | succ k1 =>
   have H := HA.out;clear HA;simp only [bz.l0] at H;by_cases c4 : qA < (l1.length : Int)
   ·rw [if_pos c4] at H;have nu : decide (qA < (l1.length : Int)) = true := decide_eq_true c4;clear c4;by_cases c5 : 0 ≤ qA
    ·rw [if_pos c5] at H;have TM : decide (0 ≤ qA) = true := decide_eq_true c5;clear c5;obtain ⟨ji6, VJ⟩ : ∃ j_ : Int, (mn (wrap64 (nO + ((bJ l1 qA).f0))) 1099511627776) = j_ := ⟨_, rfl⟩;replace H : (bz.l0 k1 l1 ji6 (mn (wrap64 (lD + ((bJ l1 qA).f1))) 1099511627776) (wrap64 (qA + 1))) = some (r1, r2) := by first | (rw [VJ] at H; exact H) | (simp only [VJ] at H ⊢; exact H)
     have ak5 : (if 1099511627776 < (wrap64 (nO + ((bJ l1 qA).f0))) then 1099511627776 else (wrap64 (nO + ((bJ l1 qA).f0)))) = ji6 := VJ;obtain ⟨ji7, VK⟩ : ∃ j_ : Int, (mn (wrap64 (lD + ((bJ l1 qA).f1))) 1099511627776) = j_ := ⟨_, rfl⟩;replace H : (bz.l0 k1 l1 ji6 ji7 (wrap64 (qA + 1))) = some (r1, r2) := by first | (rw [VK] at H; exact H) | (simp only [VK] at H ⊢; exact H)
     have ak6 : (if 1099511627776 < (wrap64 (lD + ((bJ l1 qA).f1))) then 1099511627776 else (wrap64 (lD + ((bJ l1 qA).f1)))) = ji7 := VK;have H' := aa.mk H;clear H;have aax : 0 ≤ (qA : Int) := of_decide_eq_true (by first | (with_reducible assumption) | assumption);have aay : qA < (l1.length : Int) := of_decide_eq_true (by first | (with_reducible assumption) | assumption);obtain ⟨adi, e212, Pf, Pg⟩ := p9 HR1.out qA aax aay
     cases e212;replace Pf := ah HB.out Pf;replace Pg := ah HB.out Pg;replace aax := eq_true aax;replace aay := eq_true aay;have aaz : 0 ≤ (qA : Int) := of_decide_eq_true (by first | (with_reducible assumption) | assumption);have aaA : qA < (l1.length : Int) := of_decide_eq_true (by first | (with_reducible assumption) | assumption);obtain ⟨adj, e213, Ph, Pj⟩ := p9 HR1.out qA aaz aaA;obtain rfl : adi = adj := (by injection e213);replace Ph := ah HB.out Ph;replace Pj := ah HB.out Pj;replace aaz := eq_true aaz;replace aaA := eq_true aaA;go_wp2;repeat (go_quiet (fail); try go_wp2)
     go_roundg k1
     case measure => have := yf.out; omega
     case rel => exact ⟨(ji6), (ji7), (wrap64 (qA + 1)), (by first | rfl | (simp; done) | (simp only [← VJ] <;> (first | rfl | simp)) | (simp [*]; done)), (by first | rfl | (simp; done) | (simp only [← VK] <;> (first | rfl | simp)) | (simp [*]; done)), (by first | rfl | (simp; done) | (simp [*]; done)), H', ⟨by have := yf.out; omega⟩, ⟨by (with_reducible repeat (first | refine ax ?_ _ | refine az ?_ | refine au ?_ _)); exact su.out⟩, ⟨bO HB⟩⟩
    ·rw [if_neg c5] at H;exact absurd H (by simp)
   ·rw [if_neg c4] at H;have nu : decide (qA < (l1.length : Int)) = false := decide_eq_false c4;clear c4;by_cases c8 : nO ≥ 1099511627776
    ·rw [if_pos c8] at H;have Hd : decide (1099511627776 ≤ nO) = true := decide_eq_true c8;clear c8;simp only [Option.some.injEq, Prod.mk.injEq] at H;obtain ⟨rfl, rfl⟩ := H;have nP : wr.cell? ⟨sj, 0, none⟩ = some (.int .i64 0) := (ae su.out 0).trans rfl;have nQ : wr.cell? ⟨sj, 1, none⟩ = some (.int .i64 0) := (ae su.out 1).trans rfl;have nR := ai su.out 0;have nS := ai su.out 1;go_wp2;repeat (go_quiet (fail); try go_wp2)
     refine bodyPost_ret (results_cell_row rfl _ _ sj 34 #[.int .i64 1099511627776, .int .i64 0] (0, 0) _ rfl (by (with_reducible repeat (first | refine ax ?_ _ | refine az ?_ | refine au ?_ _)); refine bL (cs := #[.int .i64 1099511627776, .int .i64 0]) ?_ 1 _ rfl; (with_reducible repeat (first | refine ax ?_ _ | refine az ?_ | refine au ?_ _)); refine bL (cs := #[.int .i64 0, .int .i64 0]) ?_ 0 _ rfl; (with_reducible repeat (first | refine ax ?_ _ | refine az ?_ | refine au ?_ _)); exact su.out) Try.underlying34 rfl (by kernel_rfl)) rfl ?_;exact ⟨by first | rfl | (simp [aW, aX] <;> rfl) | (simp [*, aW, aX] <;> rfl), bO HB⟩
    ·rw [if_neg c8] at H;have Hd : decide (1099511627776 ≤ nO) = false := decide_eq_false c8;clear c8;simp only [Option.some.injEq, Prod.mk.injEq] at H;obtain ⟨rfl, rfl⟩ := H;have qB : wr.cell? ⟨sj, 0, none⟩ = some (.int .i64 0) := (ae su.out 0).trans rfl;have qC : wr.cell? ⟨sj, 1, none⟩ = some (.int .i64 0) := (ae su.out 1).trans rfl;have qD := ai su.out 0;have qE := ai su.out 1;go_wp2;repeat (go_quiet (fail); try go_wp2)
     refine bodyPost_ret (results_cell_row rfl _ _ sj 34 #[.int .i64 nO, .int .i64 lD] (0, 0) _ rfl (by (with_reducible repeat (first | refine ax ?_ _ | refine az ?_ | refine au ?_ _)); refine bL (cs := #[.int .i64 nO, .int .i64 0]) ?_ 1 _ rfl; (with_reducible repeat (first | refine ax ?_ _ | refine az ?_ | refine au ?_ _)); refine bL (cs := #[.int .i64 0, .int .i64 0]) ?_ 0 _ rfl; (with_reducible repeat (first | refine ax ?_ _ | refine az ?_ | refine au ?_ _)); exact su.out) Try.underlying34 rfl (by kernel_rfl)) rfl ?_;exact ⟨by first | rfl | (simp [aW, aX] <;> rfl) | (simp [*, aW, aX] <;> rfl), bO HB⟩
def bK.l0 : Nat → List (dK) → List (dK) → Int → Int → List Int → Int → Int → Int → Option ((List (dK)))
 | 0, _, _, _, _, _, _, _, _ => none
 | k + 1, x1, x5, x6, VL, zb, VM, VN, VO => if x6 < (zb.length : Int) then (if 0 ≤ x6 then (if 0 ≤ (rd zb x6) then (if (rd zb x6) < (x1.length : Int) then (if x5.length < 8796093022208 then (bK.l0 k x1 (x5 ++ [(⟨(bJ x1 (rd zb x6)).f0, (bJ x1 (rd zb x6)).f1⟩ : dK)]) (wrap64 (x6 + 1)) VL zb VM VN VO) else (none)) else (none)) else (none)) else (none)) else (some x5)
def bK.f (k : Nat) (aR : Int) (aH : List Int) (vX : Int) (sM : Int) (Gm : Int) (l1 : List (dK)) : Option ((List (dK))) := bK.l0 k l1 ([] : List (dK)) 0 aR aH vX sM Gm
theorem bK.eD : ∀ k, (∀ y0 y1 y2 y3 y4 y5 y6 y7, dz (bK.l0 k y0 y1 y2 y3 y4 y5 y6 y7) (bK.l0 (k + 1) y0 y1 y2 y3 y4 y5 y6 y7))
 | 0 => fun _ _ _ _ _ _ _ _ r h => by simp [bK.l0] at h
 | k + 1 => by
  have jP := bK.eD k
  ·intro y0 y1 y2 y3 y4 y5 y6 y7;unfold bK.l0;repeat' first
   | (with_reducible exact jP _ _ _ _ _ _ _ _)
   | (with_reducible exact dz.refl _)
   | (with_reducible exact dz.none _)
   | (with_reducible refine dz.ite ?_ ?_)
   | (with_reducible refine dz.bind ?_ (fun _ => ?_))
   | exact jP _ _ _ _ _ _ _ _
   | exact dz.none _
   | refine dz.ite ?_ ?_
   | refine dz.bind ?_ (fun _ => ?_)
theorem bK.mono : ∀ a0 a1 a2 a3 a4 a5 k, dz (bK.f k a0 a1 a2 a3 a4 a5) (bK.f (k + 1) a0 a1 a2 a3 a4 a5) := by
 intro a0 a1 a2 a3 a4 a5 k;have jP := bK.eD k;unfold bK.f;repeat' first
   | (with_reducible exact jP _ _ _ _ _ _ _ _)
   | (with_reducible exact dz.refl _)
   | (with_reducible exact dz.none _)
   | (with_reducible refine dz.ite ?_ ?_)
   | (with_reducible refine dz.bind ?_ (fun _ => ?_))
   | exact jP _ _ _ _ _ _ _ _
   | exact dz.none _
   | refine dz.ite ?_ ?_
   | refine dz.bind ?_ (fun _ => ?_)
set_option maxHeartbeats 8000000 in
set_option maxRecDepth 100000 in
theorem bK.calls (k : Nat) (aR : Int) (bW : Option Addr) (bN : Nat) (aH : List Int) (vX : Int) (sM : Int) (Gm : Int) (A1 : Option Addr) (c1 : Nat) (l1 : List (dK)) (r : List (dK)) (w : World) (fw : Kd.C (Kd.int .i64) w bW aH.length aH) (fC : aH.length ≤ bN) (hr1 : Kd.C xA w A1 l1.length l1) (hc1 : l1.length ≤ c1) (h : bK.f k aR aH vX sM Gm l1 = some r) :
  Calls Try.prog 63 #[.agg #[.int .i64 aR, .slice bW aH.length bN, .int .i64 vX, .int .i64 sM, .int .i64 Gm], .slice A1 l1.length c1] w fun e w' => ∃ Pk : Value, e = .returned (Pk) ∧ Kd.R xA 34 w' w.heap.size (fun _ => True) Pk r ∧ Below w.heap.size w w' := by
 have aaB := Try.underlying54;have QT := Try.underlying34;have eP := aa.mk fw;have fP := aa.mk fC;clear fw fC;have HR1 := aa.mk hr1;have EY := aa.mk hc1;clear hr1 hc1;have HB := aa.mk (Below.refl w.heap.size w);have H : (bK.l0 k l1 ([] : List (dK)) 0 aR aH vX sM Gm) = some r := h;clear h;have H' := aa.mk H;clear H;go_enter Try.func63, Try.ntmps63
 go_wp2_with (first | ((with_reducible refine bM (N := 2) rfl ?_); refine bG ?hg (N := 2) ?hd (cs := #[.int .i64 aR, .slice bW aH.length bN, .int .i64 vX, .int .i64 sM, .int .i64 Gm]) (t := 54) ?hr ?_; (case hd => rfl); (case hg => rfl); (case hr => first | (go_simp; done) | (go_simp; rfl)); intro uS hg w3 bR hb; have bP := aa.mk (aM (bO HB) hb); have bQ := aa.mk (bR); have bT := aa.mk ((by rw [hg]; exact (aK (bO HB)) : w.heap.size ≤ uS)); have di := aa.mk ((by rw [hg]; exact (aK (bO HB)) : w.heap.size ≤ uS)); clear HB; have HB := bP; have kD := bQ; have ak7 := bT; have ak8 := di; clear bP bQ bT di; clear hb bR hg))
 go_loopg [5, 6] k (fun kq v5 v6 w' => ∃ (nO : List (dK)) (lD : Int), v6 = .int .i64 lD ∧ aa (bK.l0 kq l1 nO lD aR aH vX sM Gm = some r) ∧ aa (kq ≤ k) ∧ aa (Kd.R xA 34 w' w.heap.size (fun _ => True) v5 nO) ∧ aa (w'.heap[uS]? = some (.cells #[.int .i64 aR, (.slice bW aH.length bN), .int .i64 vX, .int .i64 sM, .int .i64 Gm] 54 (0, 0))) ∧ aa (Below w.heap.size w w'))
 case atStart => exact ⟨(([] : List (dK))), (0), (by first | rfl | (simp; done) | (simp [*]; done)), H', ⟨Nat.le_refl _⟩, ⟨by first | exact Kd.qf _ _ _ _ _ | exact Kd.xY _ _ _ _ _ | exact Kd.xZ _ _ _ _ _ | exact Kd.xS _ _ _ _ _ | exact Kd.xW _ _ _ _ _⟩, ⟨by (with_reducible repeat (first | refine ax ?_ _ | refine az ?_ | refine au ?_ _)); exact kD.out⟩, ⟨bO HB⟩⟩
 case round =>
  clear H';(try clear c1); (try clear p2);obtain ⟨nO, lD, rfl, HA, yf, sw, kD, HB⟩ := hrel
  cases gk with
  | zero => exact absurd HA.out (by simp [bK.l0])
  | succ k1 =>
   have H := HA.out;clear HA;simp only [bK.l0] at H;by_cases c4 : lD < (aH.length : Int)
   ·rw [if_pos c4] at H;have nu : decide (lD < (aH.length : Int)) = true := decide_eq_true c4;clear c4;by_cases c5 : 0 ≤ lD
    ·rw [if_pos c5] at H;have TM : decide (0 ≤ lD) = true := decide_eq_true c5;clear c5;by_cases c6 : 0 ≤ (rd aH lD)
     ·rw [if_pos c6] at H;have Dy : decide (0 ≤ (rd aH lD)) = true := decide_eq_true c6;clear c6;by_cases c7 : (rd aH lD) < (l1.length : Int)
      ·rw [if_pos c7] at H;have uy : decide ((rd aH lD) < (l1.length : Int)) = true := decide_eq_true c7;clear c7;by_cases c8 : nO.length < 8796093022208
       ·rw [if_pos c8] at H;have aiC := aa.mk c8;clear c8;obtain ⟨adk, Lf⟩ : ∃ y_ : List (dK), y_ = (nO ++ [(⟨(bJ l1 (rd aH lD)).f0, (bJ l1 (rd aH lD)).f1⟩ : dK)]) := ⟨_, rfl⟩;replace H : (bK.l0 k1 l1 adk (wrap64 (lD + 1)) aR aH vX sM Gm) = some r := by first | (rw [Lf]; with_reducible exact H) | (have Gn := (Option.bind_some _ _).symm.trans H; rw [Lf]; with_reducible exact Gn) | (have Gn := (Option.bind_some _ _).symm.trans H; with_reducible exact Gn) | with_reducible exact H | (rw [Lf]; exact H) | exact H
        have adl := aa.mk Lf;clear Lf;have H' := aa.mk H;clear H;have nP : wr.cell? ⟨uS, 0, none⟩ = some (.int .i64 aR) := (ae kD.out 0).trans rfl;have nQ : wr.cell? ⟨uS, 1, none⟩ = some (.slice bW aH.length bN) := (ae kD.out 1).trans rfl;have aiD : wr.cell? ⟨uS, 2, none⟩ = some (.int .i64 vX) := (ae kD.out 2).trans rfl;have aiE : wr.cell? ⟨uS, 3, none⟩ = some (.int .i64 sM) := (ae kD.out 3).trans rfl;have aiF : wr.cell? ⟨uS, 4, none⟩ = some (.int .i64 Gm) := (ae kD.out 4).trans rfl;have nR := ai kD.out 0;have nS := ai kD.out 1;have aiG := ai kD.out 2;have aiH := ai kD.out 3;have aiI := ai kD.out 4;have aaC : 0 ≤ (lD : Int) := of_decide_eq_true (by first | (with_reducible assumption) | assumption);have aaD : lD < (aH.length : Int) := of_decide_eq_true (by first | (with_reducible assumption) | assumption);obtain ⟨ak9, e215, Pm⟩ := Kd.nC eP.out lD aaC aaD
        cases e215;replace Pm := ah HB.out Pm;replace aaC := eq_true aaC;replace aaD := eq_true aaD;have aaE : 0 ≤ ((rd aH lD) : Int) := of_decide_eq_true (by first | (with_reducible assumption) | assumption);have aaF : (rd aH lD) < (l1.length : Int) := of_decide_eq_true (by first | (with_reducible assumption) | assumption);obtain ⟨ala, e216, Pn, Po⟩ := p9 HR1.out (rd aH lD) aaE aaF
        cases e216;replace Pn := ah HB.out Pn;replace Po := ah HB.out Po;replace aaE := eq_true aaE;replace aaF := eq_true aaF;go_wp2_with (first | ((with_reducible refine Ab (b := .append) (xs := #[.tmp 14, .tmp 23]) rfl ?_); at_builtin; refine Kd.KI xA (w0 := w) w.heap.size rfl (.tmp 14) (.tmp 23) 43 34 (.agg #[(.int .i64 0), (.int .i64 0)]) 16 rfl Try.underlying43 FP rfl (by decide) (by omega) u5 nO (⟨(bJ l1 (rd aH lD)).f0, (bJ l1 (rd aH lD)).f1⟩ : dK) [.int .i64 ((bJ l1 (rd aH lD)).f0), .int .i64 ((bJ l1 (rd aH lD)).f1)] (fun _ => True) (fun _ => False) rfl rfl ?aP (fun _ hk => hk.elim) ?aF ?aO ?aB ?aS ?aL ?_; (case aP => exact vL _ _ _ (⟨(bJ l1 (rd aH lD)).f0, (bJ l1 (rd aH lD)).f1⟩ : dK)); (case aB => exact (bO HB)); (case aF => exact (fun _ _ => trivial)); (case aO => exact (by (with_reducible repeat (first | apply Kd.ek | apply Kd.eu | apply Kd.aaH)); exact sw.out)); (case aS => exact (aK (bO HB))); (case aL => have := aiC.out; omega); intro v218 Io ho hb hg hat; rw [← adl.out] at ho; have bP := aa.mk (bX (bk kD) hg (Kd.mK sw.out kD.out (by decide))); have bQ := aa.mk (hb); have bT := aa.mk (ho); clear kD; clear HB; clear sw; have kD := bP; have HB := bQ; have adm := bT; clear bP bQ bT; clear ho hb hg hat))
        go_roundg k1
        case measure => have := yf.out; omega
        case rel => exact ⟨(adk), (wrap64 (lD + 1)), (by first | rfl | (simp; done) | (simp [*]; done)), H', ⟨by have := yf.out; omega⟩, ⟨by (with_reducible repeat (first | apply Kd.ek | apply Kd.eu | apply Kd.aaH)); exact adm.out⟩, ⟨by (with_reducible repeat (first | refine ax ?_ _ | refine az ?_ | refine au ?_ _)); exact kD.out⟩, ⟨bO HB⟩⟩
       ·rw [if_neg c8] at H;exact absurd H (by simp)
      ·rw [if_neg c7] at H;exact absurd H (by simp)
     ·rw [if_neg c6] at H;exact absurd H (by simp)
    ·rw [if_neg c5] at H;exact absurd H (by simp)
   ·rw [if_neg c4] at H;have nu : decide (lD < (aH.length : Int)) = false := decide_eq_false c4;clear c4;obtain rfl := Option.some.inj H;have oW : wr.cell? ⟨uS, 0, none⟩ = some (.int .i64 aR) := (ae kD.out 0).trans rfl;have oZ : wr.cell? ⟨uS, 1, none⟩ = some (.slice bW aH.length bN) := (ae kD.out 1).trans rfl;have afT : wr.cell? ⟨uS, 2, none⟩ = some (.int .i64 vX) := (ae kD.out 2).trans rfl;have afU : wr.cell? ⟨uS, 3, none⟩ = some (.int .i64 sM) := (ae kD.out 3).trans rfl;have afV : wr.cell? ⟨uS, 4, none⟩ = some (.int .i64 Gm) := (ae kD.out 4).trans rfl;have o5 := ai kD.out 0;have o6 := ai kD.out 1;have afW := ai kD.out 2;have afX := ai kD.out 3;have afY := ai kD.out 4;go_wp2;go_ret;exact ⟨_, by first | rfl | (simp [aW, aX] <;> rfl) | (simp [*, aW, aX] <;> rfl), by (with_reducible repeat (first | apply Kd.ek | apply Kd.eu | apply Kd.aaH)); exact sw.out, bO HB⟩
end Go.Proofs.Ytamimodkcbbpmaa.Pr
end
section
namespace Go.Proofs.Ytamimodkcbbpmaa.Pr
open Go.RowKit Go.Proofs.YtamimodkcbbpmaaW.PrintWords Go.Proofs.YtamimodkcbbpmaaW.PrintLast Go.Proofs.YtamimodkcbbpmaaXW Go.Proofs.YtamimodkcbbpmaaXM
set_option linter.unusedVariables false
set_option linter.unusedSimpArgs false
theorem M5 (a b : dK) : jA.f a.f0 a.f1 b.f0 b.f1 = some (pW a b) := by
 unfold jA.f pW;by_cases h1 : a.f0 < b.f0
 ·simp [h1]
 ·by_cases h2 : a.f0 = b.f0
  ·simp [h2]
  ·simp [h1, h2]
theorem zD (l : List dK) : ∀ (k i : Nat) (a : dK), i ≤ l.length → l.length < i + k → l.length ≤ 1000000 → bz.l0 k l a.f0 a.f1 (i : Int) = if ((l.drop i).foldl xG a).f0 ≥ 1099511627776 then some (1099511627776, 0) else some (((l.drop i).foldl xG a).f0, ((l.drop i).foldl xG a).f1)
 | 0, i, a, h1, h2, _ => by omega
 | k + 1, i, a, h1, h2, h3 => by
  unfold bz.l0;by_cases h : i < l.length
  ·rw [if_pos (by omega), if_pos (by omega)];have hw : wrap64 ((i : Int) + 1) = ((i + 1 : Nat) : Int) := by unfold wrap64; omega
   have hd : l.drop i = bJ l (i : Int) :: l.drop (i + 1) := by
    rw [List.drop_eq_getElem_cons h];simp [bJ, List.getD_eq_getElem?_getD, List.getElem?_eq_getElem h]
   rw [hw, hd, List.foldl_cons];exact zD l k (i + 1) (xG a (bJ l (i : Int))) (by omega) (by omega) h3
  ·have hi : i = l.length := by omega
   subst hi;rw [if_neg (by omega), List.drop_length, List.foldl_nil]
theorem mh (cost : Int) (l : List dK) (h : l.length ≤ 1000000) (h0 : 0 ≤ cost) (h1 : cost ≤ 1099511627776) (hok : ∀ v, v ∈ l → okV v) : bz.f (l.length + 1) cost l = some ((gD cost l).f0, (gD cost l).f1) := by
 have h2 := zD l (l.length + 1) 0 ⟨cost, 1⟩ (by omega) (by omega) h;have hp := zM l hok;rw [List.drop_zero, TI l _ ⟨h0, h1⟩ ⟨show (0 : Int) ≤ 1 by decide, show (1 : Int) ≤ 1099511627776 by decide⟩ hok] at h2;unfold bz.f;rw [si cost l h0 hok];refine h2.trans ?_;simp only;by_cases h3 : 1099511627776 ≤ cost + Mg l
 ·rw [if_pos (by omega), if_pos h3]
 ·rw [if_neg (by omega), if_neg h3, show min (cost + Mg l) 1099511627776 = cost + Mg l by omega]
theorem EA (vs : List dK) (a0 : Int) (l : List Int) (a2 a3 a4 : Int) (hr : ∀ t, t ∈ l → 0 ≤ t ∧ t < (vs.length : Int)) (hl : l.length ≤ 1000000) : ∀ (k i : Nat) (acc : List dK), i ≤ l.length → l.length < i + k → acc.length ≤ i → bK.l0 k vs acc (i : Int) a0 l a2 a3 a4 = some (acc ++ tailV vs (l.drop i))
 | 0, i, acc, h1, h2, _ => by omega
 | k + 1, i, acc, h1, h2, h3 => by
  unfold bK.l0;by_cases h : i < l.length
  ·have hrd : rd l (i : Int) = l.getD i 0 := rfl;have hm := hr _ (ib l i 0 h);rw [if_pos (by omega), if_pos (by omega), hrd, if_pos hm.1, if_pos hm.2, if_pos (by omega)];have hw : wrap64 ((i : Int) + 1) = ((i + 1 : Nat) : Int) := by unfold wrap64; omega
   have hd : l.drop i = l.getD i 0 :: l.drop (i + 1) := by
    rw [List.drop_eq_getElem_cons h];simp [List.getD_eq_getElem?_getD, List.getElem?_eq_getElem h]
   rw [hw, EA vs a0 l a2 a3 a4 hr hl k (i + 1) _ (by omega) (by omega) (by rw [List.length_append, List.length_singleton]; omega), hd];simp [tailV]
  ·have hi : i = l.length := by omega
   subst hi;rw [if_neg (by omega), List.drop_length];simp [tailV]
theorem yt (vs : List dK) (e : dO) (hr : ∀ t, t ∈ e.f1 → 0 ≤ t ∧ t < (vs.length : Int)) (hl : e.f1.length ≤ 1000000) : bK.f (e.f1.length + 1) e.f0 e.f1 e.f2 e.f3.f0 e.f3.f1 vs = some (tailV vs e.f1) :=
 EA vs e.f0 e.f1 e.f2 e.f3.f0 e.f3.f1 hr hl (e.f1.length + 1) 0 [] (by omega) (by omega) (by simp)
structure Pre (n : Nat) (es : List dO) (vs : List dK) : Prop where
 len : vs.length = n
 ok : ∀ v, v ∈ vs → okV v
 att : ∀ t : Nat, t < n → bJ vs (t : Int) = sK ∨ JC es (t : Int) (bJ vs (t : Int))
theorem Pre.val {n : Nat} {es : List dO} {vs : List dK} (h : Pre n es vs) (hc : zO es) (he : zt n es) (k : Nat) (hk : k < es.length) : okV (kV vs (aj es (k : Int))) := by
 have zC := jb he (k : Int) (by omega) (by omega);exact Gi _ _ (nM hc k hk).1 (nN h.ok (fun t ht => by rw [h.len]; exact zC.2.1 t ht))
theorem Pre.set {n : Nat} {es : List dO} {vs : List dK} (h : Pre n es vs) (hc : zO es) (he : zt n es) (k : Nat) (hk : k < es.length) (hlt : pW (kV vs (aj es (k : Int))) (bJ vs (aj es (k : Int)).f0) = true) : Pre n es (vs.set (aj es (k : Int)).f0.toNat (kV vs (aj es (k : Int)))) := by
 have zC := jb he (k : Int) (by omega) (by omega);have hv := h.val hc he k hk;have hhd := h.ok _ (AA vs (aj es (k : Int)).f0 zC.1.1 (by rw [h.len]; exact zC.1.2));have hfin : kV vs (aj es (k : Int)) ≠ sK := fun e => by
  rw [e] at hlt;have h1 := (za _ _).1 hlt;have h2 := hhd.le_inf;unfold oV at h2;omega
 have TN : ∀ v, v ∈ tailV vs (aj es (k : Int)).f1 → okV v := nN h.ok (fun t ht => by rw [h.len]; exact zC.2.1 t ht);have Q8 : JC es (aj es (k : Int)).f0 (kV vs (aj es (k : Int))) := by
  refine JC.mk k hk _ (eY _ _) (fun j hj => ?_);rw [eY] at hj;rw [kM _ _ _ hj];have h1 := zC.2.1 _ (ib (aj es (k : Int)).f1 j 0 hj);have h3 := h.att ((aj es (k : Int)).f1.getD j 0).toNat (by omega);rw [Int.toNat_of_nonneg h1.1] at h3;rcases h3 with h3 | h3
  ·exact absurd (IC _ _ (nM hc k hk).1 TN j (by rw [eY]; exact hj) (by rw [kM _ _ _ hj]; exact h3)) hfin
  ·exact h3
 obtain ⟨hd, aiJ⟩ : ∃ hd : Nat, (aj es (k : Int)).f0 = (hd : Int) := ⟨(aj es (k : Int)).f0.toNat, by omega⟩;have hdn : hd < vs.length := by rw [h.len]; omega
 rw [aiJ] at Q8 ⊢;rw [Int.toNat_natCast];refine ⟨by rw [List.length_set]; exact h.len, fun v hv2 => ?_, fun t ht => ?_⟩
 ·rcases List.mem_or_eq_of_mem_set hv2 with h1 | h1
  ·exact h.ok v h1
  ·rw [h1]; exact hv
 ·rw [uP vs hd hdn _ _ (by omega)];by_cases hth : (t : Int) = (hd : Int)
  ·rw [if_pos hth, hth];exact Or.inr Q8
  ·rw [if_neg hth];exact h.att t ht
def mV (vs : List dK) : Nat := (vs.map (fun v => v.f0.toNat * 2199023255552 + v.f1.toNat)).sum
theorem TP : ∀ (vs : List dK) (i : Nat) (x : dK), i < vs.length → okV x → (∀ v, v ∈ vs → okV v) → pW x (vs.getD i z34) = true → mV (vs.set i x) < mV vs
 | v :: vs, 0, x, _, hx, hv, hlt => by
  have h0 := hv v (List.mem_cons_self ..);have h1 : pW x v = true := hlt;rw [za] at h1;obtain ⟨a, b, c, d, e⟩ := hx;obtain ⟨a', b', c', d', e'⟩ := h0;simp only [mV, List.set_cons_zero, List.map_cons, List.sum_cons];omega
 | v :: vs, i + 1, x, hi, hx, hv, hlt => by
  have ih := TP vs i x (by simpa using hi) hx (fun y hy => hv y (List.mem_cons_of_mem _ hy)) hlt;simp only [mV, List.set_cons_succ, List.map_cons, List.sum_cons] at ih ⊢;omega
 | [], i, x, hi, _, _, _ => by simp at hi
theorem VP {n : Nat} {es : List dO} {vs : List dK} (h : Pre n es vs) (hc : zO es) (he : zt n es) (k : Nat) (hk : k < es.length) (hlt : pW (kV vs (aj es (k : Int))) (bJ vs (aj es (k : Int)).f0) = true) : mV (vs.set (aj es (k : Int)).f0.toNat (kV vs (aj es (k : Int)))) < mV vs := by
 have zC := jb he (k : Int) (by omega) (by omega);exact TP vs _ _ (by rw [h.len]; omega) (h.val hc he k hk) h.ok hlt
structure RV (n : Nat) (es : List dO) (v0 vs : List dK) (k : Nat) (more : Bool) : Prop where
 pre : Pre n es vs
 no : more = false → vs = v0 ∧ ∀ j : Nat, j < k → oV (bJ vs (aj es (j : Int)).f0) (kV vs (aj es (j : Int)))
 yes : more = true → mV vs < mV v0
theorem RV.zero {n : Nat} {es : List dO} {vs : List dK} (h : Pre n es vs) : RV n es vs vs 0 false := ⟨h, fun _ => ⟨rfl, fun j hj => absurd hj (by omega)⟩, fun h => by cases h⟩
theorem RV.skip {n : Nat} {es : List dO} {v0 vs : List dK} {k : Nat} {more : Bool} (h : RV n es v0 vs k more) (hlt : pW (kV vs (aj es (k : Int))) (bJ vs (aj es (k : Int)).f0) = false) : RV n es v0 vs (k + 1) more := by
 refine ⟨h.pre, fun hm => ⟨(h.no hm).1, fun j hj => ?_⟩, h.yes⟩;by_cases hjk : j = k
 ·rw [hjk]; exact (rC _ _).1 hlt
 ·exact (h.no hm).2 j (by omega)
theorem RV.step {n : Nat} {es : List dO} {v0 vs : List dK} {k : Nat} {more : Bool} (h : RV n es v0 vs k more) (hc : zO es) (he : zt n es) (hk : k < es.length) (hlt : pW (kV vs (aj es (k : Int))) (bJ vs (aj es (k : Int)).f0) = true) : RV n es v0 (vs.set (aj es (k : Int)).f0.toNat (kV vs (aj es (k : Int)))) (k + 1) true := by
 have hm := VP h.pre hc he k hk hlt;refine ⟨h.pre.set hc he k hk hlt, fun h => (by cases h), fun _ => ?_⟩
 cases more with
 | true => have := h.yes rfl; omega
 | false => rw [← (h.no rfl).1]; exact hm
theorem RV.UZ {n : Nat} {es : List dO} {v0 vs : List dK} (h : RV n es v0 vs es.length false) : Pe n es vs := ⟨h.pre.len, h.pre.ok, (h.no rfl).2, h.pre.att⟩
theorem Pre.init (n : Nat) (es : List dO) : Pre n es (List.replicate n sK) :=
 ⟨by simp, fun v hv => by rw [(List.mem_replicate.1 hv).2]; exact JB, fun t ht => Or.inl (kW n t _ _ ht)⟩
structure Down (n : Nat) (es : List dO) (vs : List dK) (i : Nat) (ed : List Int) : Prop where
 len : ed.length = n
 ch : ∀ t : Nat, t < n → (ed.getD t 0 = -1 ∧ ∀ k, i ≤ k → k < es.length → ¬ pR es vs k (t : Int)) ∨ ∃ k, (i ≤ k ∧ k < es.length) ∧ ed.getD t 0 = (k : Int) ∧ pR es vs k (t : Int) ∧ ∀ j, i ≤ j → j < k → ¬ pR es vs j (t : Int)
theorem Down.init (n : Nat) (es : List dO) (vs : List dK) : Down n es vs es.length (List.replicate n (-1)) :=
 ⟨by simp, fun t ht => Or.inl ⟨kW n t _ _ ht, fun k h1 h2 => absurd h2 (by omega)⟩⟩
theorem Down.chosen {n : Nat} {es : List dO} {vs : List dK} {ed : List Int} (h : Down n es vs 0 ed) : zP n es vs es.length ed := by
 refine ⟨h.len, fun t ht => ?_⟩;rcases h.ch t ht with ⟨e, h1⟩ | ⟨k, hk, e, h1, h2⟩
 ·exact Or.inl ⟨e, fun k hk => h1 k (by omega) hk⟩
 ·exact Or.inr ⟨k, hk.2, e, h1, fun j hj => h2 j (by omega) hj⟩
theorem Down.skip {n : Nat} {es : List dO} {vs : List dK} {i : Nat} {ed : List Int} (h : Down n es vs (i + 1) ed) (hT : ¬ pR es vs i (aj es (i : Int)).f0) : Down n es vs i ed := by
 have hno : ∀ t : Nat, ¬ pR es vs i (t : Int) := fun t ht => hT (by rw [ht.1]; exact ht)
 refine ⟨h.len, fun t ht => ?_⟩;rcases h.ch t ht with ⟨e, h1⟩ | ⟨k, hk, e, h1, h2⟩
 ·refine Or.inl ⟨e, fun k h3 h4 => ?_⟩;by_cases hki : k = i
  ·rw [hki]; exact hno t
  ·exact h1 k (by omega) h4
 ·refine Or.inr ⟨k, by omega, e, h1, fun j h3 h4 => ?_⟩;by_cases hji : j = i
  ·rw [hji]; exact hno t
  ·exact h2 j (by omega) h4
theorem Down.step {n : Nat} {es : List dO} {vs : List dK} {i : Nat} {ed : List Int} (h : Down n es vs (i + 1) ed) (he : zt n es) (hi : i < es.length) (hT : pR es vs i (aj es (i : Int)).f0) : Down n es vs i (ed.set (aj es (i : Int)).f0.toNat (i : Int)) := by
 have zC := jb he (i : Int) (by omega) (by omega);obtain ⟨hd, hhd⟩ : ∃ hd : Nat, (aj es (i : Int)).f0 = (hd : Int) := ⟨(aj es (i : Int)).f0.toNat, by omega⟩;rw [hhd] at hT ⊢;rw [Int.toNat_natCast];refine ⟨by rw [List.length_set]; exact h.len, fun t ht => ?_⟩;rw [jl];by_cases hth : t = hd
 ·subst hth;rw [if_pos ⟨rfl, by rw [h.len]; exact ht⟩];exact Or.inr ⟨i, ⟨Nat.le_refl _, hi⟩, rfl, hT, fun j h3 h4 => absurd h4 (by omega)⟩
 ·rw [if_neg (fun h => hth h.1)];have hno : ¬ pR es vs i (t : Int) := fun h2 => hth (by have := h2.1; omega)
  rcases h.ch t ht with ⟨e, h1⟩ | ⟨k, hk, e, h1, h2⟩
  ·refine Or.inl ⟨e, fun k h3 h4 => ?_⟩;by_cases hki : k = i
   ·rw [hki]; exact hno
   ·exact h1 k (by omega) h4
  ·refine Or.inr ⟨k, by omega, e, h1, fun j h3 h4 => ?_⟩;by_cases hji : j = i
   ·rw [hji]; exact hno
   ·exact h2 j (by omega) h4
theorem VQ {n : Nat} {es : List dO} {vs : List dK} {ed : List Int} (hc : zO es) (he : zt n es) (hT : ∀ e, e ∈ es → e.f1.length ≤ 100) (hl : es.length ≤ 1000) (h : Pe n es vs) (hd : Down n es vs 0 ed) : vs = jy n es ∧ ed = xL n es := by
 have h1 : vs = jy n es := h.uniq (Gj hc he hT hl) hc he;subst h1;exact ⟨rfl, hd.chosen.uniq (Ez hc he hT hl)⟩
end Go.Proofs.Ytamimodkcbbpmaa.Pr
end
