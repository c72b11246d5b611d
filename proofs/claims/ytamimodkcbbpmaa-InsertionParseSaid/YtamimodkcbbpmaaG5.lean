/- XValid XBinA XBin F87: a part of the proof of the row of a; no conditions. -/
import Derived.Test.YtamimodkcbbpmaaG3
import Derived.Test.YtamimodkcbbpmaaG2
section
namespace Go.Proofs.Ytamimodkcbbpmaa.Pr
open Go.RowKit Go.Proofs.YtamimodkcbbpmaaW.PrintWords Go.Proofs.YtamimodkcbbpmaaW.PrintLast Go.Proofs.YtamimodkcbbpmaaXW Go.Proofs.YtamimodkcbbpmaaXM
set_option linter.unusedVariables false
set_option linter.unusedSimpArgs false
def AB (n v : Int) : Bool := decide (0 ≤ v) && decide (v < n)
def edgeOk (n : Int) (e : dO) : Bool := (AB n e.f0 && (decide (0 ≤ e.f2) && decide (e.f2 ≤ 1099511627776))) && e.f1.all (AB n)
def jJ (n : Int) (es : List dO) : Bool := (decide (1 ≤ n) && decide (n ≤ 1048576)) && es.all (edgeOk n)
def fA.f (n : Int) (es : List dO) : Option Bool := some (jJ n es)
theorem o7 {α : Type} (p : α → Bool) (l : List α) (z : α) (k : Nat) (h : k < l.length) : (l.drop k).all p = (p (l.getD k z) && (l.drop (k + 1)).all p) := by
 rw [List.drop_eq_getElem_cons h, List.all_cons, List.getD_eq_getElem?_getD, List.getElem?_eq_getElem h, Option.getD_some]
set_option maxHeartbeats 2000000 in
theorem uT (v : Int) (b : Nat) (n : Int) (S : Value) (w : World) (hb : w.heap[b]? = some (.cells #[.int .i64 n, S] 24 (0, 0))) :
  Calls Try.prog 101 #[.int .i64 v, .pointer (some ⟨b, 0, none⟩)] w fun e w' => e = .returned (.bool (AB n v)) ∧ Below w.heap.size w w' := by
 have h0 : w.cell? ⟨b, 0, none⟩ = some (.int .i64 n) := by rw [ae hb 0]; rfl
 clear hb;go_enter Try.func101, Try.ntmps101
 have HV : aa (AB n v = (decide (0 ≤ v) && decide (v < n))) := ⟨rfl⟩;by_cases h1 : 0 ≤ v
 ·by_cases h2 : v < n
  ·go_wp2;go_ret;exact ⟨by rw [HV.out, decide_eq_true h1, decide_eq_true h2]; rfl, Below.refl _ _⟩
  ·go_wp2;go_ret;exact ⟨by rw [HV.out, decide_eq_true h1, decide_eq_false (by omega)]; rfl, Below.refl _ _⟩
 ·go_wp2;go_ret;exact ⟨by rw [HV.out, decide_eq_false (by omega)]; rfl, Below.refl _ _⟩
set_option maxRecDepth 100000 in
set_option maxHeartbeats 8000000 in
theorem fA.calls (n : Int) (A : Option Addr) (c : Nat) (es : List dO) (r : Bool) (w : World) (hC : Kd.C sJ w A es.length es) (hc : es.length ≤ c) (h : fA.f n es = some r) :
  Calls Try.prog 78 #[.agg #[.int .i64 n, .slice A es.length c]] w fun e w' => e = .returned (.bool r) ∧ Below w.heap.size w w' := by
 injection h with h
 subst h;have hl0 : es.length ≤ 9223372036854775807 := hC.2.1;have hv : jJ n es = ((decide (1 ≤ n) && decide (n ≤ 1048576)) && es.all (edgeOk n)) := rfl;have HV := aa.mk hv;clear hv;have HC := aa.mk hC;clear hC;go_enter Try.func78, Try.ntmps78
 go_upto_region 1 with (fail)
 have ER := eX w (.cells #[.int .i64 n, .slice A es.length c] 24);have HB := aa.mk ER.1;have hb1 := ER.2;obtain ⟨b1, e1⟩ : ∃ b1, b1 = w.heap.size := ⟨_, rfl⟩;rw [← e1] at hb1 ⊢;have E1 := aa.mk e1;clear ER e1;generalize (w.alloc (.cells #[.int .i64 n, .slice A es.length c] 24)) = wA at *;have s0 : wA.cell? ⟨b1, 0, none⟩ = some (.int .i64 n) := by rw [ae hb1 0]; rfl
 have s1 : wA.cell? ⟨b1, 1, none⟩ = some (.slice A es.length c) := by rw [ae hb1 1]; rfl
 have HB1 := aa.mk hb1;clear hb1;by_cases h1 : n < 1
 ·go_wp2;go_ret;exact ⟨by rw [HV.out, decide_eq_false (by omega)]; rfl, HB.out⟩
 ·by_cases h2 : n > 1048576
  ·go_wp2;go_ret;exact ⟨by rw [HV.out, decide_eq_true (show 1 ≤ n by omega), decide_eq_false (show ¬ n ≤ 1048576 by omega)]; rfl, HB.out⟩
  ·have HV2 : aa (jJ n es = (es.drop 0).all (edgeOk n)) := ⟨by rw [HV.out, decide_eq_true (show 1 ≤ n by omega), decide_eq_true (show n ≤ 1048576 by omega)]; rfl⟩;clear HV;have hmf : ∀ (fn : Fn) (first cap : Array Value) (w : World), (Instr.makeFunc fn first cap).run Try.prog w = .ok (.func fn first cap) w := fun _ _ _ _ => rfl
   obtain ⟨wO, hwO⟩ : ∃ wO : World, wO = wA := ⟨_, rfl⟩;go_wp2_with fail
   go_loopg [20] (es.length + 1) (fun g v20 wr => ∃ k : Nat, v20 = .int .i64 k ∧ aa (k ≤ es.length) ∧ aa (es.length - k < g) ∧ aa (jJ n es = (es.drop k).all (edgeOk n)) ∧ aa (Below w.heap.size w wr) ∧ aa (wr.heap[b1]? = some (.cells #[.int .i64 n, .slice A es.length c] 24 (0, 0))))
   case atStart => exact ⟨0, by go_num, ⟨by omega⟩, ⟨by omega⟩, HV2, HB, HB1⟩
   case round =>
    obtain ⟨k, rfl, hk, hg, HV, HB, HB1⟩ := hrel;clear HV2 s0 s1;by_cases hkn : k < es.length
    ·obtain ⟨ad, A1, c1, hA, d0, d1, d2, d3, d4, hc1, Da⟩ := kK HC.out (k : Int) (by omega) (by omega);subst hA;replace d0 := ah HB.out d0; replace d1 := ah HB.out d1; replace d2 := ah HB.out d2; replace d3 := ah HB.out d3; replace d4 := ah HB.out d4;have hstep := o7 (edgeOk n) es (aj es (k : Int)) k hkn;have hge : es.getD k (aj es (k : Int)) = aj es (k : Int) := by
      simp only [aj, Int.toNat_natCast, List.getD_eq_getElem?_getD, List.getElem?_eq_getElem hkn, Option.getD_some]
     rw [hge] at hstep;have hlen : (aj es (k : Int)).f1.length ≤ 9223372036854775807 := Da.2.1;obtain ⟨e, zQ⟩ : ∃ e, aj es (k : Int) = e := ⟨_, rfl⟩;rw [zQ] at d0 d1 d2 d3 d4 hc1 Da hstep hlen;simp only [Int.toNat_natCast] at d0 d1 d2 d3 d4;have HST := aa.mk (HV.out.trans hstep);have EY := aa.mk Da;clear zQ hge hstep Da HV;go_upto_region 7 with (fail)
     have EB := eX wr (.cells #[.int .i64 e.f0, .slice A1 e.f1.length c1, .int .i64 e.f2, .int .i64 e.f3.f0, .int .i64 e.f3.f1] 54);have M6 := aa.mk (aM HB.out EB.1);have Rb := aa.mk (aC HB1.out EB.1);have H8 := aa.mk EB.2;obtain ⟨b8, Yq⟩ : ∃ b8, b8 = wr.heap.size := ⟨_, rfl⟩;rw [← Yq] at H8 ⊢;clear Yq EB HB HB1 d0 d1 d2 d3 d4;generalize (wr.alloc (.cells #[.int .i64 e.f0, .slice A1 e.f1.length c1, .int .i64 e.f2, .int .i64 e.f3.f0, .int .i64 e.f3.f1] 54)) = wB at *;have h80 : wB.cell? ⟨b8, 0, none⟩ = some (.int .i64 e.f0) := (by rw [ae H8.out 0]; rfl);have HE : aa (edgeOk n e = ((AB n e.f0 && (decide (0 ≤ e.f2) && decide (e.f2 ≤ 1099511627776))) && e.f1.all (AB n))) := ⟨rfl⟩;obtain ⟨bi, hbi⟩ : ∃ bi, AB n e.f0 = bi := ⟨_, rfl⟩;rw [hbi] at HE;have HBI := aa.mk hbi;clear hbi
     cases bi with
     | false =>
      go_wp2_with (first | (go_at_call 101; refine (uT e.f0 b1 n (.slice (some ad) es.length c) wB Rb.out).mono ?_; rintro x w5 ⟨rfl, Db⟩; rw [HBI.out]; have VR : w5.cell? ⟨b8, 2, none⟩ = some (.int .i64 e.f2) := (by rw [ae (aC H8.out Db) 2]; rfl); have VS : w5.cell? ⟨b8, 1, none⟩ = some (.slice A1 e.f1.length c1) := (by rw [ae (aC H8.out Db) 1]; rfl); have vY := aa.mk Db; clear Db))
      go_ret;exact ⟨by rw [HST.out, HE.out]; rfl, aM M6.out vY.out⟩
     | true =>
      by_cases hc0 : e.f2 < 0
      ·go_wp2_with (first | (go_at_call 101; refine (uT e.f0 b1 n (.slice (some ad) es.length c) wB Rb.out).mono ?_; rintro x w5 ⟨rfl, Db⟩; rw [HBI.out]; have VR : w5.cell? ⟨b8, 2, none⟩ = some (.int .i64 e.f2) := (by rw [ae (aC H8.out Db) 2]; rfl); have VS : w5.cell? ⟨b8, 1, none⟩ = some (.slice A1 e.f1.length c1) := (by rw [ae (aC H8.out Db) 1]; rfl); have vY := aa.mk Db; clear Db))
       go_ret;exact ⟨by rw [HST.out, HE.out, decide_eq_false (show ¬ 0 ≤ e.f2 by omega)]; rfl, aM M6.out vY.out⟩
      ·by_cases Yr : e.f2 > 1099511627776
       ·go_wp2_with (first | (go_at_call 101; refine (uT e.f0 b1 n (.slice (some ad) es.length c) wB Rb.out).mono ?_; rintro x w5 ⟨rfl, Db⟩; rw [HBI.out]; have VR : w5.cell? ⟨b8, 2, none⟩ = some (.int .i64 e.f2) := (by rw [ae (aC H8.out Db) 2]; rfl); have VS : w5.cell? ⟨b8, 1, none⟩ = some (.slice A1 e.f1.length c1) := (by rw [ae (aC H8.out Db) 1]; rfl); have vY := aa.mk Db; clear Db))
        go_ret;exact ⟨by rw [HST.out, HE.out, decide_eq_true (show 0 ≤ e.f2 by omega), decide_eq_false (show ¬ e.f2 ≤ 1099511627776 by omega)]; rfl, aM M6.out vY.out⟩
       ·have HE2 : aa (edgeOk n e = (e.f1.drop 0).all (AB n)) := ⟨by rw [HE.out, decide_eq_true (show 0 ≤ e.f2 by omega), decide_eq_true (show e.f2 ≤ 1099511627776 by omega)]; rfl⟩;obtain ⟨wP, Tx⟩ : ∃ wP : World, wP = wr := ⟨_, rfl⟩;obtain ⟨gP, hgP⟩ : ∃ gP : Nat, gP = gk := ⟨_, rfl⟩;go_wp2_with (first | (go_at_call 101; refine (uT e.f0 b1 n (.slice (some ad) es.length c) wB Rb.out).mono ?_; rintro x w5 ⟨rfl, Db⟩; rw [HBI.out]; have VR : w5.cell? ⟨b8, 2, none⟩ = some (.int .i64 e.f2) := (by rw [ae (aC H8.out Db) 2]; rfl); have VS : w5.cell? ⟨b8, 1, none⟩ = some (.slice A1 e.f1.length c1) := (by rw [ae (aC H8.out Db) 1]; rfl); have vY := aa.mk Db; clear Db))
        have Gp := aa.mk (aM M6.out vY.out);have adn := aa.mk (aC Rb.out vY.out);have VT := aa.mk (Kd.bF EY.out Gp.out);clear h80 VR VS vY M6 Rb H8;go_loopg [42] (e.f1.length + 1) (fun g v42 wr => ∃ j : Nat, v42 = .int .i64 j ∧ aa (j ≤ e.f1.length) ∧ aa (e.f1.length - j < g) ∧ aa (edgeOk n e = (e.f1.drop j).all (AB n)) ∧ aa (Below w.heap.size w wr) ∧ aa (wr.heap[b1]? = some (.cells #[.int .i64 n, .slice (some ad) es.length c] 24 (0, 0))))
        case atStart => exact ⟨0, by go_num, ⟨by omega⟩, ⟨by omega⟩, HE2, Gp, adn⟩
        case round =>
         obtain ⟨j, rfl, hj, hgj, HEJ, HBJ, VU⟩ := hrel;clear HE2 Gp adn VT;by_cases hjn : j < e.f1.length
         ·obtain ⟨ad2, hA2, t0⟩ := Jv EY.out j hjn;subst hA2;replace t0 := ah HBJ.out t0;have hst := o7 (AB n) e.f1 0 j hjn;obtain ⟨t, ht⟩ : ∃ t, e.f1.getD j 0 = t := ⟨_, rfl⟩;rw [ht] at t0 hst;obtain ⟨bt, hbt⟩ : ∃ bt, AB n t = bt := ⟨_, rfl⟩;rw [hbt] at hst;have HBT := aa.mk hbt;have HSJ := aa.mk (HEJ.out.trans hst);clear ht hst hbt
          cases bt with
          | false =>
           go_wp2_with (first | (go_at_call 101; refine (uT t b1 n (.slice (some ad) es.length c) wr VU.out).mono ?_; rintro x w5 ⟨rfl, Db⟩; rw [HBT.out]; have vY := aa.mk Db; clear Db))
           go_ret;exact ⟨by rw [HST.out, HSJ.out]; rfl, aM HBJ.out vY.out⟩
          | true =>
           go_wp2_with (first | (go_at_call 101; refine (uT t b1 n (.slice (some ad) es.length c) wr VU.out).mono ?_; rintro x w5 ⟨rfl, Db⟩; rw [HBT.out]; have vY := aa.mk Db; clear Db))
           go_roundg (e.f1.length - j)
           case measure => have := hgj.out; omega
           case rel => exact ⟨j + 1, by go_num, ⟨by omega⟩, ⟨by omega⟩, ⟨by rw [HSJ.out]; rfl⟩, ⟨aM HBJ.out vY.out⟩, ⟨aC VU.out vY.out⟩⟩
         ·obtain rfl : j = e.f1.length := by have := hj.out; omega
          have hjj : ¬ ((e.f1.length : Int) < (e.f1.length : Int)) := by omega
          have HVK : aa (jJ n es = (es.drop (k + 1)).all (edgeOk n)) := ⟨by rw [HST.out, HEJ.out, List.drop_length]; rfl⟩;go_wp2_with fail
          go_roundg (es.length - k)
          case measure => have := hg.out; omega
          case rel => exact ⟨k + 1, by go_num, ⟨by omega⟩, ⟨by omega⟩, HVK, HBJ, VU⟩
    ·obtain rfl : k = es.length := by have := hk.out; omega
     have hkk : ¬ ((es.length : Int) < (es.length : Int)) := by omega
     go_wp2_with fail
     go_ret;exact ⟨by rw [HV.out, List.drop_length]; rfl, HB.out⟩
def kindOk (T N : Int) (r : KH) : Bool :=
 if r.f0 = 1 then decide (r.f2 = 0) && decide (r.f3 = 0) else if r.f0 = 2 then (decide (0 ≤ r.f2) && decide (r.f2 < T)) && decide (r.f3 = 0) else if r.f0 = 3 then AB N r.f2 && decide (r.f3 = 0) else if r.f0 = 4 then AB N r.f2 && AB N r.f3 else false
def aqa (T N : Int) (r : KH) : Bool := (AB N r.f1 && ((decide (0 ≤ r.f4) && decide (r.f4 ≤ 1000)) && decide (-1 ≤ r.f5))) && kindOk T N r
def arD (T N S : Int) (rs : List KH) : Bool := ((((decide (0 ≤ T) && decide (T ≤ 120)) && (decide (1 ≤ N) && decide (N ≤ 1000))) && (decide (0 ≤ S) && decide (S < N))) && decide (rs.length ≤ 600)) && rs.all (aqa T N)
def aqg.f (T N S : Int) (rs : List KH) : Option Bool := some (arD T N S rs)
set_option maxHeartbeats 2000000 in
theorem awn (v : Int) (b : Nat) (T N S : Int) (R : Value) (w : World) (hb : w.heap[b]? = some (.cells #[.int .i64 T, .int .i64 N, .int .i64 S, R] 58 (0, 0))) :
  Calls Try.prog 119 #[.int .i64 v, .pointer (some ⟨b, 0, none⟩)] w fun e w' => e = .returned (.bool (AB N v)) ∧ Below w.heap.size w w' := by
 have h0 : w.cell? ⟨b, 1, none⟩ = some (.int .i64 N) := by rw [ae hb 1]; rfl
 clear hb;go_enter Try.func119, Try.ntmps119
 have HV : aa (AB N v = (decide (0 ≤ v) && decide (v < N))) := ⟨rfl⟩;by_cases h1 : 0 ≤ v
 ·by_cases h2 : v < N
  ·go_wp2;go_ret;exact ⟨by rw [HV.out, decide_eq_true h1, decide_eq_true h2]; rfl, Below.refl _ _⟩
  ·go_wp2;go_ret;exact ⟨by rw [HV.out, decide_eq_true h1, decide_eq_false (by omega)]; rfl, Below.refl _ _⟩
 ·go_wp2;go_ret;exact ⟨by rw [HV.out, decide_eq_false (by omega)]; rfl, Below.refl _ _⟩
set_option maxRecDepth 100000 in
set_option maxHeartbeats 8000000 in
theorem aw5 (T N S : Int) (R : Value) (r : KH) (w : World) :
  Calls Try.prog 115 #[.agg #[.int .i64 T, .int .i64 N, .int .i64 S, R], .agg #[.int .i64 r.f0, .int .i64 r.f1, .int .i64 r.f2, .int .i64 r.f3, .int .i64 r.f4, .int .i64 r.f5]] w fun e w' => e = .returned (.bool (aqa T N r)) ∧ Below w.heap.size w w' := by
 obtain ⟨r0, r1, r2, r3, r4, r5⟩ := r;simp only;have HV : aa (aqa T N ⟨r0, r1, r2, r3, r4, r5⟩ = ((AB N r1 && ((decide (0 ≤ r4) && decide (r4 ≤ 1000)) && decide (-1 ≤ r5))) && kindOk T N ⟨r0, r1, r2, r3, r4, r5⟩)) := ⟨rfl⟩;have HK : aa (kindOk T N ⟨r0, r1, r2, r3, r4, r5⟩ = if r0 = 1 then decide (r2 = 0) && decide (r3 = 0) else if r0 = 2 then (decide (0 ≤ r2) && decide (r2 < T)) && decide (r3 = 0) else if r0 = 3 then AB N r2 && decide (r3 = 0) else if r0 = 4 then AB N r2 && AB N r3 else false) := ⟨rfl⟩;generalize aqa T N ⟨r0, r1, r2, r3, r4, r5⟩ = res at HV ⊢;generalize kindOk T N ⟨r0, r1, r2, r3, r4, r5⟩ = kres at HV HK;go_enter Try.func115, Try.ntmps115
 have hmf : ∀ (fn : Fn) (first cap : Array Value) (w : World), (Instr.makeFunc fn first cap).run Try.prog w = .ok (.func fn first cap) w := fun _ _ _ _ => rfl
 go_upto_region 2 with (fail)
 have ER := eX w (.cells #[.int .i64 T, .int .i64 N, .int .i64 S, R] 58);have hA1 := eX (w.alloc (.cells #[.int .i64 T, .int .i64 N, .int .i64 S, R] 58)) (.cells #[.int .i64 r0, .int .i64 r1, .int .i64 r2, .int .i64 r3, .int .i64 r4, .int .i64 r5] 75);have hsz : (w.alloc (.cells #[.int .i64 T, .int .i64 N, .int .i64 S, R] 58)).heap.size = w.heap.size + 1 := (by show (w.heap.push _).size = _; simp);have HB := aa.mk (aM ER.1 hA1.1);have H1 := aa.mk (aC ER.2 hA1.1);have H2 := aa.mk hA1.2;rw [hsz] at H2;obtain ⟨b1, e1⟩ : ∃ b1, b1 = w.heap.size := ⟨_, rfl⟩;obtain ⟨b2, e2⟩ : ∃ b2, b2 = w.heap.size + 1 := ⟨_, rfl⟩;rw [← e2] at H2 ⊢;rw [← e1] at H1 ⊢;clear e1 e2 hsz ER hA1;generalize ((w.alloc (.cells #[.int .i64 T, .int .i64 N, .int .i64 S, R] 58)).alloc (.cells #[.int .i64 r0, .int .i64 r1, .int .i64 r2, .int .i64 r3, .int .i64 r4, .int .i64 r5] 75)) = w1 at *;have Gy : aa (∀ w', Below w1.heap.size w1 w' → w'.cell? ⟨b1, 0, none⟩ = some (.int .i64 T) ∧ w'.cell? ⟨b2, 0, none⟩ = some (.int .i64 r0) ∧ w'.cell? ⟨b2, 1, none⟩ = some (.int .i64 r1) ∧ w'.cell? ⟨b2, 2, none⟩ = some (.int .i64 r2) ∧ w'.cell? ⟨b2, 3, none⟩ = some (.int .i64 r3) ∧ w'.cell? ⟨b2, 4, none⟩ = some (.int .i64 r4) ∧ w'.cell? ⟨b2, 5, none⟩ = some (.int .i64 r5)) := ⟨fun w' h => ⟨by rw [ae (aC H1.out h) 0]; rfl, by rw [ae (aC H2.out h) 0]; rfl, by rw [ae (aC H2.out h) 1]; rfl, by rw [ae (aC H2.out h) 2]; rfl, by rw [ae (aC H2.out h) 3]; rfl, by rw [ae (aC H2.out h) 4]; rfl, by rw [ae (aC H2.out h) 5]; rfl⟩⟩;have LI : aa (∀ v w', Below w1.heap.size w1 w' → Calls Try.prog 119 #[.int .i64 v, .pointer (some ⟨b1, 0, none⟩)] w' fun e w'' => e = .returned (.bool (AB N v)) ∧ Below w'.heap.size w' w'') := ⟨fun v w' h => awn v b1 T N S R w' (aC H1.out h)⟩;obtain ⟨c0, c1, c2, c3, c4, c5, c6⟩ := Gy.out w1 (Below.refl _ _);have Dt := aa.mk (Below.refl w1.heap.size w1);clear H1 H2;obtain ⟨bi, hbi⟩ : ∃ bi, AB N r1 = bi := ⟨_, rfl⟩;have HBI := aa.mk hbi;rw [hbi] at HV;clear hbi
 cases bi with
 | false =>
  go_wp2_with (first | (go_at_call 119; (with_reducible refine (LI.out r1 w1 Dt.out).mono ?_); rintro x w2 ⟨rfl, hB⟩; rw [HBI.out]; have Mf := aa.mk (aM Dt.out hB); clear hB c0 c1 c2 c3 c4 c5 c6; obtain ⟨c0, c1, c2, c3, c4, c5, c6⟩ := Gy.out w2 Mf.out))
  go_ret;exact ⟨by rw [HV.out]; rfl, aM HB.out Mf.out⟩
 | true =>
  by_cases g1 : r4 < 0
  ·go_wp2_with (first | (go_at_call 119; (with_reducible refine (LI.out r1 w1 Dt.out).mono ?_); rintro x w2 ⟨rfl, hB⟩; rw [HBI.out]; have Mf := aa.mk (aM Dt.out hB); clear hB c0 c1 c2 c3 c4 c5 c6; obtain ⟨c0, c1, c2, c3, c4, c5, c6⟩ := Gy.out w2 Mf.out))
   go_ret;exact ⟨by rw [HV.out, decide_eq_false (show ¬ 0 ≤ r4 by omega)]; rfl, aM HB.out Mf.out⟩
  ·by_cases g2 : r4 > 1000
   ·go_wp2_with (first | (go_at_call 119; (with_reducible refine (LI.out r1 w1 Dt.out).mono ?_); rintro x w2 ⟨rfl, hB⟩; rw [HBI.out]; have Mf := aa.mk (aM Dt.out hB); clear hB c0 c1 c2 c3 c4 c5 c6; obtain ⟨c0, c1, c2, c3, c4, c5, c6⟩ := Gy.out w2 Mf.out))
    go_ret;exact ⟨by rw [HV.out, decide_eq_false (show ¬ r4 ≤ 1000 by omega), Bool.and_false]; rfl, aM HB.out Mf.out⟩
   ·by_cases g3 : r5 < -1
    ·go_wp2_with (first | (go_at_call 119; (with_reducible refine (LI.out r1 w1 Dt.out).mono ?_); rintro x w2 ⟨rfl, hB⟩; rw [HBI.out]; have Mf := aa.mk (aM Dt.out hB); clear hB c0 c1 c2 c3 c4 c5 c6; obtain ⟨c0, c1, c2, c3, c4, c5, c6⟩ := Gy.out w2 Mf.out))
     go_ret;exact ⟨by rw [HV.out, decide_eq_false (show ¬ -1 ≤ r5 by omega), Bool.and_false, Bool.and_false]; rfl, aM HB.out Mf.out⟩
    ·have HR : aa (res = kres) := ⟨by rw [HV.out, decide_eq_true (show 0 ≤ r4 by omega), decide_eq_true (show r4 ≤ 1000 by omega), decide_eq_true (show -1 ≤ r5 by omega)]; rfl⟩;clear HV;by_cases k1 : r0 = 1
     ·have yf := HK.out;rw [if_pos k1] at yf;by_cases a1 : r2 = 0
      ·go_wp2_with (first | (go_at_call 119; (with_reducible refine (LI.out r1 w1 Dt.out).mono ?_); rintro x w2 ⟨rfl, hB⟩; rw [HBI.out]; have Mf := aa.mk (aM Dt.out hB); clear hB c0 c1 c2 c3 c4 c5 c6; obtain ⟨c0, c1, c2, c3, c4, c5, c6⟩ := Gy.out w2 Mf.out))
       go_ret;exact ⟨by rw [HR.out, yf, decide_eq_true a1]; rfl, aM HB.out Mf.out⟩
      ·go_wp2_with (first | (go_at_call 119; (with_reducible refine (LI.out r1 w1 Dt.out).mono ?_); rintro x w2 ⟨rfl, hB⟩; rw [HBI.out]; have Mf := aa.mk (aM Dt.out hB); clear hB c0 c1 c2 c3 c4 c5 c6; obtain ⟨c0, c1, c2, c3, c4, c5, c6⟩ := Gy.out w2 Mf.out))
       go_ret;exact ⟨by rw [HR.out, yf, decide_eq_false a1]; rfl, aM HB.out Mf.out⟩
     ·by_cases k2 : r0 = 2
      ·have yf := HK.out;rw [if_neg k1, if_pos k2] at yf;by_cases a1 : 0 ≤ r2
       ·by_cases a2 : r2 < T
        ·go_wp2_with (first | (go_at_call 119; (with_reducible refine (LI.out r1 w1 Dt.out).mono ?_); rintro x w2 ⟨rfl, hB⟩; rw [HBI.out]; have Mf := aa.mk (aM Dt.out hB); clear hB c0 c1 c2 c3 c4 c5 c6; obtain ⟨c0, c1, c2, c3, c4, c5, c6⟩ := Gy.out w2 Mf.out))
         go_ret;exact ⟨by rw [HR.out, yf, decide_eq_true a1, decide_eq_true a2]; rfl, aM HB.out Mf.out⟩
        ·go_wp2_with (first | (go_at_call 119; (with_reducible refine (LI.out r1 w1 Dt.out).mono ?_); rintro x w2 ⟨rfl, hB⟩; rw [HBI.out]; have Mf := aa.mk (aM Dt.out hB); clear hB c0 c1 c2 c3 c4 c5 c6; obtain ⟨c0, c1, c2, c3, c4, c5, c6⟩ := Gy.out w2 Mf.out))
         go_ret;exact ⟨by rw [HR.out, yf, decide_eq_false (show ¬ r2 < T by omega), Bool.and_false]; rfl, aM HB.out Mf.out⟩
       ·go_wp2_with (first | (go_at_call 119; (with_reducible refine (LI.out r1 w1 Dt.out).mono ?_); rintro x w2 ⟨rfl, hB⟩; rw [HBI.out]; have Mf := aa.mk (aM Dt.out hB); clear hB c0 c1 c2 c3 c4 c5 c6; obtain ⟨c0, c1, c2, c3, c4, c5, c6⟩ := Gy.out w2 Mf.out))
        go_ret;exact ⟨by rw [HR.out, yf, decide_eq_false (show ¬ 0 ≤ r2 by omega)]; rfl, aM HB.out Mf.out⟩
      ·by_cases k3 : r0 = 3
       ·have yf := HK.out;rw [if_neg k1, if_neg k2, if_pos k3] at yf;obtain ⟨b4, hb4⟩ : ∃ b4, AB N r2 = b4 := ⟨_, rfl⟩;have Ju := aa.mk hb4;rw [hb4] at yf;clear hb4
        cases b4 with
        | false =>
         go_wp2_with (first | (go_at_call 119; (with_reducible refine (LI.out r1 w1 Dt.out).mono ?_); rintro x w2 ⟨rfl, hB⟩; rw [HBI.out]; have Mf := aa.mk (aM Dt.out hB); clear hB c0 c1 c2 c3 c4 c5 c6; obtain ⟨c0, c1, c2, c3, c4, c5, c6⟩ := Gy.out w2 Mf.out) | (go_at_call 119; (with_reducible refine (LI.out r2 w2 Mf.out).mono ?_); rintro x w3 ⟨rfl, hB⟩; rw [Ju.out]; have HQ3 := aa.mk (aM Mf.out hB); clear hB c0 c1 c2 c3 c4 c5 c6; obtain ⟨c0, c1, c2, c3, c4, c5, c6⟩ := Gy.out w3 HQ3.out))
         go_ret;exact ⟨by rw [HR.out, yf]; rfl, aM HB.out HQ3.out⟩
        | true =>
         go_wp2_with (first | (go_at_call 119; (with_reducible refine (LI.out r1 w1 Dt.out).mono ?_); rintro x w2 ⟨rfl, hB⟩; rw [HBI.out]; have Mf := aa.mk (aM Dt.out hB); clear hB c0 c1 c2 c3 c4 c5 c6; obtain ⟨c0, c1, c2, c3, c4, c5, c6⟩ := Gy.out w2 Mf.out) | (go_at_call 119; (with_reducible refine (LI.out r2 w2 Mf.out).mono ?_); rintro x w3 ⟨rfl, hB⟩; rw [Ju.out]; have HQ3 := aa.mk (aM Mf.out hB); clear hB c0 c1 c2 c3 c4 c5 c6; obtain ⟨c0, c1, c2, c3, c4, c5, c6⟩ := Gy.out w3 HQ3.out))
         go_ret;exact ⟨by rw [HR.out, yf]; rfl, aM HB.out HQ3.out⟩
       ·by_cases k4 : r0 = 4
        ·have yf := HK.out;rw [if_neg k1, if_neg k2, if_neg k3, if_pos k4] at yf;obtain ⟨b4, hb4⟩ : ∃ b4, AB N r2 = b4 := ⟨_, rfl⟩;have Ju := aa.mk hb4;rw [hb4] at yf;clear hb4
         cases b4 with
         | false =>
          go_wp2_with (first | (go_at_call 119; (with_reducible refine (LI.out r1 w1 Dt.out).mono ?_); rintro x w2 ⟨rfl, hB⟩; rw [HBI.out]; have Mf := aa.mk (aM Dt.out hB); clear hB c0 c1 c2 c3 c4 c5 c6; obtain ⟨c0, c1, c2, c3, c4, c5, c6⟩ := Gy.out w2 Mf.out) | (go_at_call 119; (with_reducible refine (LI.out r2 w2 Mf.out).mono ?_); rintro x w3 ⟨rfl, hB⟩; rw [Ju.out]; have HQ3 := aa.mk (aM Mf.out hB); clear hB c0 c1 c2 c3 c4 c5 c6; obtain ⟨c0, c1, c2, c3, c4, c5, c6⟩ := Gy.out w3 HQ3.out))
          go_ret;exact ⟨by rw [HR.out, yf]; rfl, aM HB.out HQ3.out⟩
         | true =>
          go_wp2_with (first | (go_at_call 119; (with_reducible refine (LI.out r1 w1 Dt.out).mono ?_); rintro x w2 ⟨rfl, hB⟩; rw [HBI.out]; have Mf := aa.mk (aM Dt.out hB); clear hB c0 c1 c2 c3 c4 c5 c6; obtain ⟨c0, c1, c2, c3, c4, c5, c6⟩ := Gy.out w2 Mf.out) | (go_at_call 119; (with_reducible refine (LI.out r2 w2 Mf.out).mono ?_); rintro x w3 ⟨rfl, hB⟩; rw [Ju.out]; have HQ3 := aa.mk (aM Mf.out hB); clear hB c0 c1 c2 c3 c4 c5 c6; obtain ⟨c0, c1, c2, c3, c4, c5, c6⟩ := Gy.out w3 HQ3.out) | (go_at_call 119; (with_reducible refine (LI.out r3 w3 HQ3.out).mono ?_); rintro x w4 ⟨rfl, hB⟩; have HQ4 := aa.mk (aM HQ3.out hB); clear hB c0 c1 c2 c3 c4 c5 c6; obtain ⟨c0, c1, c2, c3, c4, c5, c6⟩ := Gy.out w4 HQ4.out))
          go_ret;exact ⟨by rw [HR.out, yf]; rfl, aM HB.out HQ4.out⟩
        ·have yf := HK.out;rw [if_neg k1, if_neg k2, if_neg k3, if_neg k4] at yf;go_wp2_with (first | (go_at_call 119; (with_reducible refine (LI.out r1 w1 Dt.out).mono ?_); rintro x w2 ⟨rfl, hB⟩; rw [HBI.out]; have Mf := aa.mk (aM Dt.out hB); clear hB c0 c1 c2 c3 c4 c5 c6; obtain ⟨c0, c1, c2, c3, c4, c5, c6⟩ := Gy.out w2 Mf.out))
         go_ret;exact ⟨by rw [HR.out, yf]; first | done | rfl, aM HB.out Mf.out⟩
set_option maxHeartbeats 2000000 in
theorem avH (T N S : Int) (R : Value) (r : KH) (b : Nat) (w : World) (hb : w.heap[b]? = some (.cells #[.int .i64 T, .int .i64 N, .int .i64 S, R] 58 (0, 0))) :
  Calls Try.prog 114 #[.agg #[.int .i64 r.f0, .int .i64 r.f1, .int .i64 r.f2, .int .i64 r.f3, .int .i64 r.f4, .int .i64 r.f5], .pointer (some ⟨b, 0, none⟩)] w fun e w' => e = .returned (.bool (!aqa T N r)) ∧ Below w.heap.size w w' := by
 obtain ⟨r0, r1, r2, r3, r4, r5⟩ := r;simp only;have HR : aa (∀ w' R', Calls Try.prog 115 #[.agg #[.int .i64 T, .int .i64 N, .int .i64 S, R'], .agg #[.int .i64 r0, .int .i64 r1, .int .i64 r2, .int .i64 r3, .int .i64 r4, .int .i64 r5]] w' fun e w'' => e = .returned (.bool (aqa T N ⟨r0, r1, r2, r3, r4, r5⟩)) ∧ Below w'.heap.size w' w'') := ⟨fun w' R' => aw5 T N S R' ⟨r0, r1, r2, r3, r4, r5⟩ w'⟩;generalize aqa T N ⟨r0, r1, r2, r3, r4, r5⟩ = res at HR ⊢;have HBX := aa.mk hb;clear hb;go_enter Try.func114, Try.ntmps114
 go_upto_region 1 with (fail)
 have ER := eX w (.cells #[.int .i64 r0, .int .i64 r1, .int .i64 r2, .int .i64 r3, .int .i64 r4, .int .i64 r5] 75);have HB := aa.mk ER.1;have H1 := aa.mk (aC HBX.out ER.1);have H2 := aa.mk ER.2;obtain ⟨b2, e2⟩ : ∃ b2, b2 = w.heap.size := ⟨_, rfl⟩;rw [← e2] at H2 ⊢;clear e2 ER HBX;generalize (w.alloc (.cells #[.int .i64 r0, .int .i64 r1, .int .i64 r2, .int .i64 r3, .int .i64 r4, .int .i64 r5] 75)) = w1 at *;have c0 : w1.cell? ⟨b, 0, none⟩ = some (.int .i64 T) := by rw [ae H1.out 0]; rfl
 have c1 : w1.cell? ⟨b, 1, none⟩ = some (.int .i64 N) := by rw [ae H1.out 1]; rfl
 have c2 : w1.cell? ⟨b, 2, none⟩ = some (.int .i64 S) := by rw [ae H1.out 2]; rfl
 have c3 : w1.cell? ⟨b, 3, none⟩ = some R := by rw [ae H1.out 3]; rfl
 have d0 : w1.cell? ⟨b2, 0, none⟩ = some (.int .i64 r0) := by rw [ae H2.out 0]; rfl
 have d1 : w1.cell? ⟨b2, 1, none⟩ = some (.int .i64 r1) := by rw [ae H2.out 1]; rfl
 have d2 : w1.cell? ⟨b2, 2, none⟩ = some (.int .i64 r2) := by rw [ae H2.out 2]; rfl
 have d3 : w1.cell? ⟨b2, 3, none⟩ = some (.int .i64 r3) := by rw [ae H2.out 3]; rfl
 have d4 : w1.cell? ⟨b2, 4, none⟩ = some (.int .i64 r4) := by rw [ae H2.out 4]; rfl
 have d5 : w1.cell? ⟨b2, 5, none⟩ = some (.int .i64 r5) := by rw [ae H2.out 5]; rfl
 go_wp2_with (first | (go_at_call 115; refine (HR.out w1 R).mono ?_; rintro x w2 ⟨rfl, hB⟩; have HB2 := aa.mk hB; clear hB))
 go_ret;exact ⟨rfl, aM HB.out HB2.out⟩
set_option maxHeartbeats 8000000 in
theorem awo (T N S : Int) (R : Value) (rs : List KH) (A : Option Addr) (c : Nat) (b : Nat) (w : World) (hC : Kd.C Md w A rs.length rs) (hb : w.heap[b]? = some (.cells #[.int .i64 T, .int .i64 N, .int .i64 S, R] 58 (0, 0))) :
  Calls Try.prog 118 #[.slice A rs.length c, .func (.func 114) #[] #[.pointer (some ⟨b, 0, none⟩)]] w fun e w' => ∃ i : Int, e = .returned (.int .i64 i) ∧ (i < 0 ↔ rs.all (aqa T N) = true) ∧ Below w.heap.size w w' := by
 have hl0 : rs.length ≤ 9223372036854775807 := hC.2.1;have HC := aa.mk hC;have HBX := aa.mk hb;clear hC hb;have HD : aa (rs.all (aqa T N) = (rs.drop 0).all (aqa T N)) := ⟨rfl⟩;generalize rs.all (aqa T N) = res at HD ⊢;go_enter Try.func118, Try.ntmps118
 go_wp2_with fail
 go_loopg [8] (rs.length + 1) (fun g v8 wr => ∃ k : Nat, v8 = .int .i64 k ∧ aa (k ≤ rs.length) ∧ aa (rs.length - k < g) ∧ aa (res = (rs.drop k).all (aqa T N)) ∧ aa (Below w.heap.size w wr))
 case atStart => exact ⟨0, by go_num, ⟨by omega⟩, ⟨by omega⟩, HD, ⟨Below.refl _ _⟩⟩
 case round =>
  obtain ⟨k, rfl, hk, hg, HV, HB⟩ := hrel;clear HD;by_cases hkn : k < rs.length
  ·obtain ⟨ad, hA, d0, d1, d2, d3, d4, d5⟩ := ah5 HC.out (k : Int) (by omega) (by omega);subst hA;replace d0 := ah HB.out d0; replace d1 := ah HB.out d1; replace d2 := ah HB.out d2; replace d3 := ah HB.out d3; replace d4 := ah HB.out d4; replace d5 := ah HB.out d5;have hstep := o7 (aqa T N) rs (Dj rs (k : Int)) k hkn;have hge : rs.getD k (Dj rs (k : Int)) = Dj rs (k : Int) := by
    simp only [Dj, Int.toNat_natCast, List.getD_eq_getElem?_getD, List.getElem?_eq_getElem hkn, Option.getD_some]
   rw [hge] at hstep;obtain ⟨e, zQ⟩ : ∃ e, Dj rs (k : Int) = e := ⟨_, rfl⟩;rw [zQ] at d0 d1 d2 d3 d4 d5 hstep;simp only [Int.toNat_natCast] at d0 d1 d2 d3 d4 d5;obtain ⟨bi, hbi⟩ : ∃ bi, aqa T N e = bi := ⟨_, rfl⟩;rw [hbi] at hstep;have HBI := aa.mk hbi;have HST := aa.mk (HV.out.trans hstep);clear zQ hge hstep hbi HV;have HX := aa.mk (aC HBX.out HB.out)
   cases bi with
   | false =>
    go_wp2_with (first | (go_at_call 114; refine (avH T N S R e b wr HX.out).mono ?_; rintro x w5 ⟨rfl, Db⟩; rw [HBI.out]; have vY := aa.mk Db; clear Db))
    go_ret;exact ⟨_, rfl, ⟨fun h => absurd h (by omega), fun h => by rw [HST.out] at h; cases h⟩, aM HB.out vY.out⟩
   | true =>
    go_wp2_with (first | (go_at_call 114; refine (avH T N S R e b wr HX.out).mono ?_; rintro x w5 ⟨rfl, Db⟩; rw [HBI.out]; have vY := aa.mk Db; clear Db))
    go_roundg (rs.length - k)
    case measure => have := hg.out; omega
    case rel => exact ⟨k + 1, by go_num, ⟨by omega⟩, ⟨by omega⟩, ⟨by rw [HST.out]; rfl⟩, ⟨aM HB.out vY.out⟩⟩
  ·obtain rfl : k = rs.length := by have := hk.out; omega
   have hkk : ¬ ((rs.length : Int) < (rs.length : Int)) := by omega
   go_wp2_with fail
   go_ret;exact ⟨_, rfl, ⟨fun _ => by rw [HV.out, List.drop_length]; rfl, fun _ => by decide⟩, HB.out⟩
set_option maxHeartbeats 2000000 in
theorem ava (T N S : Int) (R : Value) (rs : List KH) (A : Option Addr) (c : Nat) (b : Nat) (w : World) (hC : Kd.C Md w A rs.length rs) (hb : w.heap[b]? = some (.cells #[.int .i64 T, .int .i64 N, .int .i64 S, R] 58 (0, 0))) :
  Calls Try.prog 113 #[.slice A rs.length c, .func (.func 114) #[] #[.pointer (some ⟨b, 0, none⟩)]] w fun e w' => e = .returned (.bool (!rs.all (aqa T N))) ∧ Below w.heap.size w w' := by
 have HI := aa.mk (awo T N S R rs A c b w hC hb);clear hC hb;generalize rs.all (aqa T N) = res at HI ⊢;go_enter Try.func113, Try.ntmps113
 go_wp2_with (first | (go_at_call 118; refine HI.out.mono ?_; rintro x w2 ⟨i, rfl, hi, hB⟩; have HB2 := aa.mk hB; have HN := aa.mk hi; clear hB hi HI))
 go_ret;refine ⟨?_, HB2.out⟩;have hn := HN.out
 cases res with
 | true => rw [decide_eq_false (by have := hn.2 rfl; omega)]; rfl
 | false => rw [decide_eq_true (by
   by_cases h : i < 0
   ·exact absurd (hn.1 h) (by decide)
   ·omega)]; rfl
set_option maxRecDepth 100000 in
set_option maxHeartbeats 8000000 in
theorem aqg.calls (T N S : Int) (A : Option Addr) (c : Nat) (rs : List KH) (r : Bool) (w : World) (hC : Kd.C Md w A rs.length rs) (hc : rs.length ≤ c) (h : aqg.f T N S rs = some r) :
  Calls Try.prog 108 #[.agg #[.int .i64 T, .int .i64 N, .int .i64 S, .slice A rs.length c]] w fun e w' => e = .returned (.bool r) ∧ Below w.heap.size w w' := by
 injection h with h
 subst h;have HV : aa (arD T N S rs = (((((decide (0 ≤ T) && decide (T ≤ 120)) && (decide (1 ≤ N) && decide (N ≤ 1000))) && (decide (0 ≤ S) && decide (S < N))) && decide (rs.length ≤ 600)) && rs.all (aqa T N))) := ⟨rfl⟩;have HC := aa.mk hC;clear hC;obtain ⟨al, hal⟩ : ∃ al, rs.all (aqa T N) = al := ⟨_, rfl⟩;have HAL := aa.mk hal;rw [hal] at HV;clear hal;generalize arD T N S rs = res at HV ⊢;have hmf : ∀ (fn : Fn) (first cap : Array Value) (w : World), (Instr.makeFunc fn first cap).run Try.prog w = .ok (.func fn first cap) w := fun _ _ _ _ => rfl
 go_enter Try.func108, Try.ntmps108
 go_upto_region 1 with (fail)
 have ER := eX w (.cells #[.int .i64 T, .int .i64 N, .int .i64 S, .slice A rs.length c] 58);have HB := aa.mk ER.1;have H1 := aa.mk ER.2;obtain ⟨b1, e1⟩ : ∃ b1, b1 = w.heap.size := ⟨_, rfl⟩;rw [← e1] at H1 ⊢;clear e1 ER;generalize (w.alloc (.cells #[.int .i64 T, .int .i64 N, .int .i64 S, .slice A rs.length c] 58)) = w1 at *;have c0 : w1.cell? ⟨b1, 0, none⟩ = some (.int .i64 T) := by rw [ae H1.out 0]; rfl
 have c1 : w1.cell? ⟨b1, 1, none⟩ = some (.int .i64 N) := by rw [ae H1.out 1]; rfl
 have c2 : w1.cell? ⟨b1, 2, none⟩ = some (.int .i64 S) := by rw [ae H1.out 2]; rfl
 have c3 : w1.cell? ⟨b1, 3, none⟩ = some (.slice A rs.length c) := by rw [ae H1.out 3]; rfl
 by_cases g1 : T < 0
 ·go_wp2;go_ret;exact ⟨by rw [HV.out, decide_eq_false (show ¬ 0 ≤ T by omega)]; simp, HB.out⟩
 ·by_cases g2 : T > 120
  ·go_wp2;go_ret;exact ⟨by rw [HV.out, decide_eq_false (show ¬ T ≤ 120 by omega)]; simp, HB.out⟩
  ·by_cases g3 : N < 1
   ·go_wp2;go_ret;exact ⟨by rw [HV.out, decide_eq_false (show ¬ 1 ≤ N by omega)]; simp, HB.out⟩
   ·by_cases g4 : N > 1000
    ·go_wp2;go_ret;exact ⟨by rw [HV.out, decide_eq_false (show ¬ N ≤ 1000 by omega)]; simp, HB.out⟩
    ·by_cases g5 : S < 0
     ·go_wp2;go_ret;exact ⟨by rw [HV.out, decide_eq_false (show ¬ 0 ≤ S by omega)]; simp, HB.out⟩
     ·by_cases g6 : S ≥ N
      ·go_wp2;go_ret;exact ⟨by rw [HV.out, decide_eq_false (show ¬ S < N by omega)]; simp, HB.out⟩
      ·by_cases g7 : (rs.length : Int) > 600
       ·go_wp2;go_ret;exact ⟨by rw [HV.out, decide_eq_false (show ¬ rs.length ≤ 600 by omega)]; simp, HB.out⟩
       ·have HV2 : aa (res = al) := ⟨by rw [HV.out, decide_eq_true (show 0 ≤ T by omega), decide_eq_true (show T ≤ 120 by omega), decide_eq_true (show 1 ≤ N by omega), decide_eq_true (show N ≤ 1000 by omega), decide_eq_true (show 0 ≤ S by omega), decide_eq_true (show S < N by omega), decide_eq_true (show rs.length ≤ 600 by omega)]; rfl⟩;go_wp2_with (first | (go_at_call 113; refine (ava T N S (.slice A rs.length c) rs A c b1 w1 (Kd.bF HC.out HB.out) H1.out).mono ?_; rintro x w2 ⟨rfl, hB⟩; rw [HAL.out]; have HB2 := aa.mk hB; clear hB))
        go_ret;exact ⟨by rw [HV2.out]; simp, aM HB.out HB2.out⟩
end Go.Proofs.Ytamimodkcbbpmaa.Pr
end
section
namespace Go.Proofs.Ytamimodkcbbpmaa.Pr
open Go.RowKit Go.Proofs.YtamimodkcbbpmaaW.PrintWords Go.Proofs.YtamimodkcbbpmaaW.PrintLast Go.Proofs.YtamimodkcbbpmaaW.PrintMore Go.Proofs.YtamimodkcbbpmaaXW
attribute [local go_sem] kv ky lX lY jf jg kz kC
set_option linter.unusedVariables false
set_option linter.unusedSimpArgs false
mutual
def aqQ.j0 : Nat → List Int → Bool → Option (Bool)
 | 0, _, _ => none
 | k + 1, x1, x16 => if x16 = true then (some false) else (aqQ.j1 k x1)
def aqQ.j1 : Nat → List Int → Option (Bool)
 | 0, _ => none
 | k + 1, x1 => aqQ.l0 k x1 (x1.length : Int) 0
def aqQ.l0 : Nat → List Int → Int → Int → Option (Bool)
 | 0, _, _, _ => none
 | k + 1, x17, x18, x19 => if x19 < x18 then (if 0 ≤ x19 then (if x19 < (x17.length : Int) then (if (rd x17 x19) < 1 then (some false) else (if (rd x17 x19) > 60000 then (some false) else (aqQ.l0 k x17 x18 (wrap64 (x19 + 1))))) else (none)) else (none)) else (some true)
end
def aqQ.f (k : Nat) (aR : Int) (iR : Int) (vX : Int) (bf : List (KH)) (l1 : List Int) : Option (Bool) := (aqg.f aR iR vX bf).bind fun ayq => (if ayq = true then (aqQ.j0 k l1 ((l1.length : Int) != aR)) else (aqQ.j0 k l1 true))
theorem aqQ.apw : ∀ k, (∀ y0 y1, dz (aqQ.j0 k y0 y1) (aqQ.j0 (k + 1) y0 y1)) ∧ (∀ y0, dz (aqQ.j1 k y0) (aqQ.j1 (k + 1) y0)) ∧ (∀ y0 y1 y2, dz (aqQ.l0 k y0 y1 y2) (aqQ.l0 (k + 1) y0 y1 y2))
 | 0 => ⟨fun _ _ r h => by simp [aqQ.j0] at h, fun _ r h => by simp [aqQ.j1] at h, fun _ _ _ r h => by simp [aqQ.l0] at h⟩
 | k + 1 => by
  obtain ⟨jP, ih1, ih2⟩ := aqQ.apw k;refine ⟨?_, ?_, ?_⟩;all_goals intros
  all_goals first | unfold aqQ.j0 | unfold aqQ.j1 | unfold aqQ.l0
  all_goals
   repeat' first
   | (with_reducible exact jP _ _)
   | (with_reducible exact ih1 _)
   | (with_reducible exact ih2 _ _ _)
   | (with_reducible exact dz.refl _)
   | (with_reducible exact dz.none _)
   | (with_reducible refine dz.ite ?_ ?_)
   | (with_reducible refine dz.bind ?_ (fun _ => ?_))
   | exact jP _ _
   | exact ih1 _
   | exact ih2 _ _ _
   | exact dz.none _
   | refine dz.ite ?_ ?_
   | refine dz.bind ?_ (fun _ => ?_)
theorem aqQ.mono : ∀ a0 a1 a2 a3 a4 k, dz (aqQ.f k a0 a1 a2 a3 a4) (aqQ.f (k + 1) a0 a1 a2 a3 a4) := by
 intro a0 a1 a2 a3 a4 k;obtain ⟨jP, ih1, ih2⟩ := aqQ.apw k;unfold aqQ.f;repeat' first
   | (with_reducible exact jP _ _)
   | (with_reducible exact ih1 _)
   | (with_reducible exact ih2 _ _ _)
   | (with_reducible exact dz.refl _)
   | (with_reducible exact dz.none _)
   | (with_reducible refine dz.ite ?_ ?_)
   | (with_reducible refine dz.bind ?_ (fun _ => ?_))
   | exact jP _ _
   | exact ih1 _
   | exact ih2 _ _ _
   | exact dz.none _
   | refine dz.ite ?_ ?_
   | refine dz.bind ?_ (fun _ => ?_)
set_option maxHeartbeats 8000000 in
set_option maxRecDepth 100000 in
theorem aqQ.calls (k : Nat) (aR : Int) (iR : Int) (vX : Int) (aps : Option Addr) (ao4 : Nat) (bf : List (KH)) (A1 : Option Addr) (c1 : Nat) (l1 : List Int) (r : Bool) (w : World) (aqy : Kd.C Md w aps bf.length bf) (aqz : bf.length ≤ ao4) (hr1 : Kd.C (Kd.int .i64) w A1 l1.length l1) (hc1 : l1.length ≤ c1) (h : aqQ.f k aR iR vX bf l1 = some r) :
  Calls Try.prog 87 #[.agg #[.int .i64 aR, .int .i64 iR, .int .i64 vX, .slice aps bf.length ao4], .slice A1 l1.length c1] w fun e w' => e = .returned (.bool r) ∧ Below w.heap.size w w' := by
 have avx := Try.underlying58;have aqx := aa.mk aqy;have aqH := aa.mk aqz;clear aqy aqz;have HR1 := aa.mk hr1;have EY := aa.mk hc1;clear hr1 hc1;have HB := aa.mk (Below.refl w.heap.size w);have H : ((aqg.f aR iR vX bf).bind fun ayq => (if ayq = true then (aqQ.j0 k l1 ((l1.length : Int) != aR)) else (aqQ.j0 k l1 true))) = some r := h;clear h;have Uo := aa.mk H;clear H;go_enter Try.func87, Try.ntmps87
 go_upto_region 1 with (first | ((with_reducible refine bM (N := 2) rfl ?_); (try (refine gG (by rfl) ?_; dsimp only)); refine bG ?hg (N := 2) ?hd (cs := #[.int .i64 aR, .int .i64 iR, .int .i64 vX, .slice aps bf.length ao4]) (t := 58) ?hr ?_; (case hd => rfl); (case hg => rfl); (case hr => first | (go_simp; done) | (go_simp; rfl)); intro arA hg w4 bR hb; have bP := aa.mk (aM (bO HB) hb); have bQ := aa.mk (bR); have bT := aa.mk ((by rw [hg]; exact (aK (bO HB)) : w.heap.size ≤ arA)); have di := aa.mk ((by rw [hg]; exact (aK (bO HB)) : w.heap.size ≤ arA)); clear HB; have HB := bP; have aqh := bQ; have aNx := bT; have aNy := di; clear bP bQ bT di; clear hb bR hg))
 (try simp only [Act.put, List.setIfInBounds_toArray, List.set_cons_zero, List.set_cons_succ]);go_cut [16] (fun v16 wc => ∃ (kq : Nat) (ayh : Bool), v16 = .bool ayh ∧ aa (aqQ.j0 kq l1 ayh = some r) ∧ aa (kq ≤ k) ∧ aa (wc.heap[arA]? = some (.cells #[.int .i64 aR, .int .i64 iR, .int .i64 vX, (.slice aps bf.length ao4)] 58 (0, 0))) ∧ aa (Below w.heap.size w wc))
 case first =>
  have H := Uo.out;clear Uo;replace H := Option.bind_eq_some_iff.mp H;obtain ⟨ayq, A50, H⟩ := H;replace H : (if ayq = true then (aqQ.j0 k l1 ((l1.length : Int) != aR)) else (aqQ.j0 k l1 true)) = some r := H;have A5 := aa.mk A50;clear A50;by_cases c6 : ayq = true
  ·subst c6;have H1 : (aqQ.j0 k l1 ((l1.length : Int) != aR)) = some r := by rw [if_pos rfl] at H; exact H
   clear H;have H := H1;clear H1;have H' := aa.mk H;clear H;have ML : w4.cell? ⟨arA, 0, none⟩ = some (.int .i64 aR) := (ae aqh.out 0).trans rfl;have MM : w4.cell? ⟨arA, 1, none⟩ = some (.int .i64 iR) := (ae aqh.out 1).trans rfl;have arO : w4.cell? ⟨arA, 2, none⟩ = some (.int .i64 vX) := (ae aqh.out 2).trans rfl;have arP : w4.cell? ⟨arA, 3, none⟩ = some (.slice aps bf.length ao4) := (ae aqh.out 3).trans rfl;have MN := ai aqh.out 0;have MO := ai aqh.out 1;have arQ := ai aqh.out 2;have arR := ai aqh.out 3;go_wp2_with (first | ((with_reducible refine dE (f := 108) rfl ?_); refine iB (some 8) rfl rfl Try.func108 (by kernel_rfl) rfl #[.agg #[.int .i64 aR, .int .i64 iR, .int .i64 vX, .slice aps bf.length ao4]] rfl (by (try simp only [List.map_toArray, List.map_cons, List.map_nil]); first | done | rfl | (simp only [List.length_drop, List.length_take]; rfl)) ?_; (with_reducible refine (aqg.calls aR iR vX _ _ bf true _ ?side1 ?side2 A5.out).mono ?_); (case side1 => repeat (first | exact (Kd.bF aqx.out HB.out) | (with_reducible refine Kd.dF ?_ _) | (with_reducible refine Kd.dG ?_ _) | (with_reducible refine Kd.eG ?_))); (case side2 => exact aqH.out); rintro e w8 ⟨rfl, hb⟩; refine ⟨_, rfl, ?_⟩; have bP := aa.mk (aC (bk aqh) hb); have bQ := aa.mk (aM (bO HB) hb); clear aqh; clear HB; have aqh := bP; have HB := bQ; clear bP bQ; (try clear hb); (try clear hb2); (try clear hk); (try clear hi); have nP : w8.cell? ⟨arA, 0, none⟩ = some (.int .i64 aR) := (ae aqh.out 0).trans rfl; have nQ : w8.cell? ⟨arA, 1, none⟩ = some (.int .i64 iR) := (ae aqh.out 1).trans rfl; have aiD : w8.cell? ⟨arA, 2, none⟩ = some (.int .i64 vX) := (ae aqh.out 2).trans rfl; have aiE : w8.cell? ⟨arA, 3, none⟩ = some (.slice aps bf.length ao4) := (ae aqh.out 3).trans rfl; have nR := ai aqh.out 0; have nS := ai aqh.out 1; have aiG := ai aqh.out 2; have aiH := ai aqh.out 3))
   go_meet
   case rel => exact ⟨_, (((l1.length : Int) != aR)), (by first | rfl | (simp; done) | (simp [*]; done)), H', ⟨by first | omega | exact Nat.le_refl _⟩, ⟨by (with_reducible repeat (first | refine ax ?_ _ | refine az ?_ | refine au ?_ _)); exact aqh.out⟩, ⟨bO HB⟩⟩
  ·replace c6 := Bool.eq_false_iff.mpr c6;subst c6;have H1 : (aqQ.j0 k l1 true) = some r := by rw [if_neg (show ¬ (false = true) by decide)] at H; exact H
   clear H;have H := H1;clear H1;have H' := aa.mk H;clear H;have qB : w4.cell? ⟨arA, 0, none⟩ = some (.int .i64 aR) := (ae aqh.out 0).trans rfl;have qC : w4.cell? ⟨arA, 1, none⟩ = some (.int .i64 iR) := (ae aqh.out 1).trans rfl;have atD : w4.cell? ⟨arA, 2, none⟩ = some (.int .i64 vX) := (ae aqh.out 2).trans rfl;have atE : w4.cell? ⟨arA, 3, none⟩ = some (.slice aps bf.length ao4) := (ae aqh.out 3).trans rfl;have qD := ai aqh.out 0;have qE := ai aqh.out 1;have atF := ai aqh.out 2;have atG := ai aqh.out 3;go_wp2_with (first | ((with_reducible refine dE (f := 108) rfl ?_); refine iB (some 8) rfl rfl Try.func108 (by kernel_rfl) rfl #[.agg #[.int .i64 aR, .int .i64 iR, .int .i64 vX, .slice aps bf.length ao4]] rfl (by (try simp only [List.map_toArray, List.map_cons, List.map_nil]); first | done | rfl | (simp only [List.length_drop, List.length_take]; rfl)) ?_; (with_reducible refine (aqg.calls aR iR vX _ _ bf false _ ?side1 ?side2 A5.out).mono ?_); (case side1 => repeat (first | exact (Kd.bF aqx.out HB.out) | (with_reducible refine Kd.dF ?_ _) | (with_reducible refine Kd.dG ?_ _) | (with_reducible refine Kd.eG ?_))); (case side2 => exact aqH.out); rintro e Me ⟨rfl, hb⟩; refine ⟨_, rfl, ?_⟩; have bP := aa.mk (aC (bk aqh) hb); have bQ := aa.mk (aM (bO HB) hb); clear aqh; clear HB; have aqh := bP; have HB := bQ; clear bP bQ; (try clear hb); (try clear hb2); (try clear hk); (try clear hi)))
   go_meet
   case rel => exact ⟨_, (true), (by first | rfl | (simp; done) | (simp [*]; done)), H', ⟨by first | omega | exact Nat.le_refl _⟩, ⟨by (with_reducible repeat (first | refine ax ?_ _ | refine az ?_ | refine au ?_ _)); exact aqh.out⟩, ⟨bO HB⟩⟩
 case rest =>
  clear Uo;(try clear c1); (try clear p2); (try clear c6); (try clear c8); (try clear c10); (try clear qB); (try clear qC); (try clear atD); (try clear atE); (try clear ML); (try clear MM); (try clear arO); (try clear arP); (try clear nP); (try clear nQ); (try clear aiD); (try clear aiE); (try clear qD); (try clear qE); (try clear atF); (try clear atG); (try clear MN); (try clear MO); (try clear arQ); (try clear arR); (try clear nR); (try clear nS); (try clear aiG); (try clear aiH);obtain ⟨kq, ayh, rfl, HA, HJ2, aqh, HB⟩ := hcut
  cases kq with
  | zero => exact absurd HA.out (by simp [aqQ.j0])
  | succ kj2 =>
   have H := HA.out;clear HA;simp only [aqQ.j0] at H;have aw6 := aa.mk H;clear H;go_upto_if 16 with (fail)
   go_cut [] (fun wc => ∃ (kq : Nat), aa (aqQ.j1 kq l1 = some r) ∧ aa (kq ≤ kj2) ∧ aa (wc.heap[arA]? = some (.cells #[.int .i64 aR, .int .i64 iR, .int .i64 vX, (.slice aps bf.length ao4)] 58 (0, 0))) ∧ aa (Below w.heap.size w wc))
   case first =>
    have H := aw6.out;clear aw6;by_cases c13 : ayh = true
    ·subst c13;have H1 : (some false) = some r := by rw [if_pos rfl] at H; exact H
     clear H;have H := H1;clear H1;obtain rfl := Option.some.inj H;go_wp2;go_ret;exact ⟨by first | rfl | (simp [aW, aX] <;> rfl) | (simp [*, aW, aX] <;> rfl), bO HB⟩
    ·replace c13 := Bool.eq_false_iff.mpr c13;subst c13;have H1 : (aqQ.j1 kj2 l1) = some r := by rw [if_neg (show ¬ (false = true) by decide)] at H; exact H
     clear H;have H := H1;clear H1;have H' := aa.mk H;clear H;go_wp2;go_meet
     case rel => exact ⟨_, H', ⟨by have := HJ2.out; first | omega | exact Nat.le_refl _⟩, ⟨by (with_reducible repeat (first | refine ax ?_ _ | refine az ?_ | refine au ?_ _)); exact aqh.out⟩, ⟨bO HB⟩⟩
   case rest =>
    clear aw6;(try clear c1); (try clear p2); (try clear c6); (try clear c8); (try clear c10); (try clear c13); (try clear qB); (try clear qC); (try clear atD); (try clear atE); (try clear ML); (try clear MM); (try clear arO); (try clear arP); (try clear nP); (try clear nQ); (try clear aiD); (try clear aiE); (try clear qD); (try clear qE); (try clear atF); (try clear atG); (try clear MN); (try clear MO); (try clear arQ); (try clear arR); (try clear nR); (try clear nS); (try clear aiG); (try clear aiH); (try clear p2);obtain ⟨kq, HA, avb, aqh, HB⟩ := hcut
    cases kq with
    | zero => exact absurd HA.out (by simp [aqQ.j1])
    | succ kj11 =>
     have H := HA.out;clear HA;simp only [aqQ.j1] at H;have H' := aa.mk H;clear H;go_wp2;go_loopg [19] kj11 (fun kq v19 w' => ∃ (aqB : Int), v19 = .int .i64 aqB ∧ aa (aqQ.l0 kq l1 (l1.length : Int) aqB = some r) ∧ aa (kq ≤ kj11) ∧ aa (w'.heap[arA]? = some (.cells #[.int .i64 aR, .int .i64 iR, .int .i64 vX, (.slice aps bf.length ao4)] 58 (0, 0))) ∧ aa (Below w.heap.size w w'))
     case atStart => exact ⟨(0), (by first | rfl | (simp; done) | (simp [*]; done)), H', ⟨Nat.le_refl _⟩, ⟨by (with_reducible repeat (first | refine ax ?_ _ | refine az ?_ | refine au ?_ _)); exact aqh.out⟩, ⟨bO HB⟩⟩
     case round =>
      clear H';(try clear c1); (try clear p2); (try clear c6); (try clear c8); (try clear c10); (try clear c13); (try clear qB); (try clear qC); (try clear atD); (try clear atE); (try clear ML); (try clear MM); (try clear arO); (try clear arP); (try clear nP); (try clear nQ); (try clear aiD); (try clear aiE); (try clear qD); (try clear qE); (try clear atF); (try clear atG); (try clear MN); (try clear MO); (try clear arQ); (try clear arR); (try clear nR); (try clear nS); (try clear aiG); (try clear aiH); (try clear p2);obtain ⟨aqB, rfl, HA, xO, aqh, HB⟩ := hrel
      cases gk with
      | zero => exact absurd HA.out (by simp [aqQ.l0])
      | succ k3 =>
       have H := HA.out;clear HA;simp only [aqQ.l0] at H;by_cases c14 : aqB < (l1.length : Int)
       ·rw [if_pos c14] at H;have GV : decide (aqB < (l1.length : Int)) = true := decide_eq_true c14;clear c14;by_cases c15 : 0 ≤ aqB
        ·rw [if_pos c15] at H;have tF : decide (0 ≤ aqB) = true := decide_eq_true c15;clear c15;by_cases c16 : aqB < (l1.length : Int)
         ·rw [if_pos c16] at H;have EC : decide (aqB < (l1.length : Int)) = true := decide_eq_true c16;clear c16;by_cases c17 : (rd l1 aqB) < 1
          ·rw [if_pos c17] at H;have Zc : decide ((rd l1 aqB) < 1) = true := decide_eq_true c17;clear c17;obtain rfl := Option.some.inj H;have avc : 0 ≤ (aqB : Int) := of_decide_eq_true (by first | (with_reducible assumption) | assumption);have avd : aqB < (l1.length : Int) := of_decide_eq_true (by first | (with_reducible assumption) | assumption);obtain ⟨aAH, ayY, arZ⟩ := Kd.nC HR1.out aqB avc avd
           cases ayY;replace arZ := ah HB.out arZ;replace avc := eq_true avc;replace avd := eq_true avd;go_wp2;go_ret;exact ⟨by first | rfl | (simp [aW, aX] <;> rfl) | (simp [*, aW, aX] <;> rfl), bO HB⟩
          ·rw [if_neg c17] at H;have Zc : decide ((rd l1 aqB) < 1) = false := decide_eq_false c17;clear c17;by_cases c18 : (rd l1 aqB) > 60000
           ·rw [if_pos c18] at H;have Yt : decide (60000 < (rd l1 aqB)) = true := decide_eq_true c18;clear c18;obtain rfl := Option.some.inj H;have avc : 0 ≤ (aqB : Int) := of_decide_eq_true (by first | (with_reducible assumption) | assumption);have avd : aqB < (l1.length : Int) := of_decide_eq_true (by first | (with_reducible assumption) | assumption);obtain ⟨aAH, ayY, arZ⟩ := Kd.nC HR1.out aqB avc avd
            cases ayY;replace arZ := ah HB.out arZ;replace avc := eq_true avc;replace avd := eq_true avd;go_wp2;go_ret;exact ⟨by first | rfl | (simp [aW, aX] <;> rfl) | (simp [*, aW, aX] <;> rfl), bO HB⟩
           ·rw [if_neg c18] at H;have Yt : decide (60000 < (rd l1 aqB)) = false := decide_eq_false c18;clear c18;have H' := aa.mk H;clear H;have avc : 0 ≤ (aqB : Int) := of_decide_eq_true (by first | (with_reducible assumption) | assumption);have avd : aqB < (l1.length : Int) := of_decide_eq_true (by first | (with_reducible assumption) | assumption);obtain ⟨aAH, ayY, arZ⟩ := Kd.nC HR1.out aqB avc avd
            cases ayY;replace arZ := ah HB.out arZ;replace avc := eq_true avc;replace avd := eq_true avd;go_wp2;go_roundg k3
            case measure => have := HJ2.out; have := avb.out; have := xO.out; omega
            case rel => exact ⟨(wrap64 (aqB + 1)), (by first | rfl | (simp; done) | (simp [*]; done)), H', ⟨by have := HJ2.out; have := avb.out; have := xO.out; omega⟩, ⟨by (with_reducible repeat (first | refine ax ?_ _ | refine az ?_ | refine au ?_ _)); exact aqh.out⟩, ⟨bO HB⟩⟩
         ·rw [if_neg c16] at H;exact absurd H (by simp)
        ·rw [if_neg c15] at H;exact absurd H (by simp)
       ·rw [if_neg c14] at H;have GV : decide (aqB < (l1.length : Int)) = false := decide_eq_false c14;clear c14;obtain rfl := Option.some.inj H;go_wp2;go_ret;exact ⟨by first | rfl | (simp [aW, aX] <;> rfl) | (simp [*, aW, aX] <;> rfl), bO HB⟩
end Go.Proofs.Ytamimodkcbbpmaa.Pr
end
