/- TM: a part of the proof of the row of a; no conditions. -/
import Derived.Test.YtamimodkcbbpmaaG8
import Derived.Test.YtamimodkcbbpmaaG9
namespace Go.Proofs.Ytamimodkcbbpmaa.Pr
open Go.RowKit Go.Proofs.YtamimodkcbbpmaaW.PrintWords Go.Proofs.YtamimodkcbbpmaaW.PrintLast
set_option linter.unusedVariables false
set_option linter.unusedSimpArgs false
section
variable (T N S : Int) (rs : List KH) (ins : List Int)
def aWd (es : List dO) (vs : List dK) (i : Nat) (L : List Bool) : Prop := ∀ j, j < i → kV vs (aj es (j : Int)) = bJ vs (aj es (j : Int)).f0 → L.getD (aj es (j : Int)).f0.toNat false = true
theorem aT7 (vs : List dK) (L : List Bool) (hN : N ≤ 60) (hv : (vs.length : Int) = N) (hL : (L.length : Int) = N) (h : ∀ t : Nat, (t : Int) < N → (bJ vs (t : Int)).f0 < 1099511627776 → L.getD t false = true) :
  ∀ m i, i + m = L.length → Ev (fun k => bf.l1 k vs L (i : Int) T N S rs) true
 | 0, i, hi => (Ev.const true).succ (fun k => by
   show bf.l1 (k + 1) _ _ _ _ _ _ _ = _;rw [bf.l1, if_neg (by omega)];rfl)
 | m + 1, i, hi => by
  have ih := aT7 vs L hN hv hL h m (i + 1) (by omega);refine ih.succ (fun k => ?_);show bf.l1 (k + 1) _ _ _ _ _ _ _ = _;rw [bf.l1, if_pos (by omega), if_pos (by omega), if_pos (by omega), RY i (by omega)];have e : ach false L (i : Int) = L.getD i false := rfl;rw [e]
  cases hb : L.getD i false with
  | true => rw [if_pos rfl]
  | false =>
   rw [if_neg (by decide), if_pos (by omega), if_neg (fun hf => ?_)];have := h i (by omega) hf;rw [hb] at this
   cases this
variable {T N rs ins}
theorem aT8 (h : aqN T N rs ins) : ∀ m i (L : List Bool), i + m = (aqo rs ins).length → (L.length : Int) = N → aWd (aqo rs ins) (jy N.toNat (aqo rs ins)) i L → Ev (fun k => bf.l0 k (jy N.toNat (aqo rs ins)) L (i : Int) T N S rs N (aqo rs ins)) true
 | 0, i, L, hi, hL, hM => by
  have hmid := h.mid;have hn1 := h.n1;have hn2 := h.n2;have hlen := hmid.UZ.len;have e1 := aT7 T N S rs (jy N.toNat (aqo rs ins)) L (by omega) (by omega) hL (fun t ht hf => by
   obtain ⟨k, hk, hT⟩ := LJ hmid t (by omega) hf;have := hM k (by omega) (by rw [hT.1]; exact hT.2.2);rw [hT.1] at this;exact this) L.length 0 (by omega)
  have e2 : Ev (fun k => bf.j5 k (jy N.toNat (aqo rs ins)) L T N S rs) true := e1.succ (fun k => by rw [bf.j5]; rfl);exact e2.succ (fun k => by
   show bf.l0 (k + 1) _ _ _ _ _ _ _ _ _ = _;rw [bf.l0, if_neg (by omega)])
 | m + 1, i, L, hi, hL, hM => by
  have hmid := h.mid;have hn1 := h.n1;have hn2 := h.n2;have aVj := hmid.UZ;have hlen := aVj.len;have hik : i < (aqo rs ins).length := by omega
  have g0 : (0 : Int) ≤ (i : Int) := Int.natCast_nonneg i;have g1 : (i : Int) < ((aqo rs ins).length : Int) := Int.ofNat_lt.2 hik;have a1d : (aqo rs ins).length ≤ 1000 := hmid.len;have zC := jb hmid.ok (i : Int) (by omega) (by omega);have htl := hmid.ta _ (aCu (aqo rs ins) i hik);have hcc := nM hmid.co i hik;have TN := hmid.aeS i hik;have hfix := aVj.fix i hik;have eT : Ev (fun k => bK.f k (aj (aqo rs ins) (i : Int)).f0 (aj (aqo rs ins) (i : Int)).f1 (aj (aqo rs ins) (i : Int)).f2 (aj (aqo rs ins) (i : Int)).f3.f0 (aj (aqo rs ins) (i : Int)).f3.f1 (jy N.toNat (aqo rs ins))) (tailV (jy N.toNat (aqo rs ins)) (aj (aqo rs ins) (i : Int)).f1) :=
   Ev.P7 (fun k => bK.mono _ _ _ _ _ _ k) (yt (jy N.toNat (aqo rs ins)) (aj (aqo rs ins) (i : Int)) (fun t ht => by rw [hlen]; exact zC.2.1 t ht) (by omega))
  have eC : Ev (fun k => bz.f k (aj (aqo rs ins) (i : Int)).f2 (tailV (jy N.toNat (aqo rs ins)) (aj (aqo rs ins) (i : Int)).f1)) ((kV (jy N.toNat (aqo rs ins)) (aj (aqo rs ins) (i : Int))).f0, (kV (jy N.toNat (aqo rs ins)) (aj (aqo rs ins) (i : Int))).f1) :=
   Ev.P7 (fun k => bz.mono _ _ k) (mh _ (tailV (jy N.toNat (aqo rs ins)) (aj (aqo rs ins) (i : Int)).f1) (by rw [eY]; omega) hcc.1 hcc.2 TN)
  obtain ⟨e, he⟩ : ∃ e, aj (aqo rs ins) (i : Int) = e := ⟨_, rfl⟩;obtain ⟨vs, hvs⟩ : ∃ vs, jy N.toNat (aqo rs ins) = vs := ⟨_, rfl⟩;rw [he] at zC eT eC hfix;rw [hvs] at eT eC hfix hM hlen;have hhd := zC.1;obtain ⟨t, ht⟩ : ∃ t : Nat, e.f0 = (t : Int) := ⟨e.f0.toNat, by omega⟩;have next : ∀ b : Bool, (kV vs e = bJ vs e.f0 → b = true) → (L.getD t false = true → b = true) → Ev (fun k => bf.l0 k vs (L.set e.f0.toNat b) ((i + 1 : Nat) : Int) T N S rs N (aqo rs ins)) true := by
   intro b hb1 hb2;have := aT8 h m (i + 1) (L.set e.f0.toNat b) (by omega) (by rw [List.length_set]; exact hL) (by
    intro j hj hv;rw [hvs] at hv;rw [jl];by_cases hji : j = i
    ·subst hji;rw [he] at hv ⊢;rw [if_pos ⟨rfl, by omega⟩];exact hb1 hv
    ·have hold := hM j (by omega) hv;by_cases ht2 : (aj (aqo rs ins) (j : Int)).f0.toNat = e.f0.toNat
     ·rw [if_pos ⟨ht2, by omega⟩];refine hb2 ?_;rw [ht2, ht, Int.toNat_natCast] at hold;exact hold
     ·rw [if_neg (fun h => ht2 h.1)];exact hold)
   rw [hvs] at this;exact this
  have rdb : ach false L e.f0 = L.getD t false := by rw [ht]; rfl
  have key : Ev (fun k => if ach false L e.f0 = true then (bf.l0 k vs (L.set (e.f0 : Int).toNat true) ((i + 1 : Nat) : Int) T N S rs N (aqo rs ins)) else (bf.l0 k vs (L.set (e.f0 : Int).toNat ((kV vs e).f0 == (bJ vs e.f0).f0 && ((kV vs e).f1 == (bJ vs e.f0).f1))) ((i + 1 : Nat) : Int) T N S rs N (aqo rs ins))) true := by
   by_cases hb : ach false L e.f0 = true
   ·exact Ev.pos hb (next true (fun _ => rfl) (fun _ => rfl))
   ·refine Ev.neg hb (next _ (fun hv => by rw [hv, beq_self_eq_true, beq_self_eq_true]; rfl) (fun hx => absurd (rdb.trans hx) hb))
  have hw := RY i (by omega);have e4 : Ev (fun k => bf.j4 k vs L (i : Int) T N S rs N (aqo rs ins)) true := by
   refine (Ev.bind (G := fun k aS4 => (bz.f k e.f2 aS4).bind fun aSm => (if 0 ≤ e.f0 then (if e.f0 < (vs.length : Int) then ((jA.f aSm.1 aSm.2 ((bJ vs e.f0).f0) ((bJ vs e.f0).f1)).bind fun aTe => (if aTe = true then (some false) else (if e.f0 < (L.length : Int) then (if ach false L e.f0 = true then (bf.l0 k vs (L.set (e.f0 : Int).toNat true) (wrap64 ((i : Int) + 1)) T N S rs N (aqo rs ins)) else (bf.l0 k vs (L.set (e.f0 : Int).toNat (aSm.1 == ((bJ vs e.f0).f0) && (aSm.2 == ((bJ vs e.f0).f1)))) (wrap64 ((i : Int) + 1)) T N S rs N (aqo rs ins))) else (none)))) else (none)) else (none))) eT
    (Ev.bind (G := fun k aSm => if 0 ≤ e.f0 then (if e.f0 < (vs.length : Int) then ((jA.f aSm.1 aSm.2 ((bJ vs e.f0).f0) ((bJ vs e.f0).f1)).bind fun aTe => (if aTe = true then (some false) else (if e.f0 < (L.length : Int) then (if ach false L e.f0 = true then (bf.l0 k vs (L.set (e.f0 : Int).toNat true) (wrap64 ((i : Int) + 1)) T N S rs N (aqo rs ins)) else (bf.l0 k vs (L.set (e.f0 : Int).toNat (aSm.1 == ((bJ vs e.f0).f0) && (aSm.2 == ((bJ vs e.f0).f1)))) (wrap64 ((i : Int) + 1)) T N S rs N (aqo rs ins))) else (none)))) else (none)) else (none)) eC (key.mp (fun k => ?_)))).succ (fun k => ?_)
   ·simp only [];rw [if_pos (by omega), if_pos (by omega), M5, (rC _ _).2 hfix, Option.bind_some, if_neg (by decide), if_pos (by omega), hw]
   ·rw [bf.j4, if_pos g0, if_pos g1, he]
  exact e4.succ (fun k => by
   show bf.l0 (k + 1) _ _ _ _ _ _ _ _ _ = _;rw [bf.l0, if_pos g1, hvs])
end
theorem aTD (T N S : Int) (rs : List KH) (ins : List Int) : Ev (fun k => bf.f k T N S rs ins) true := by
 obtain ⟨b, hb, hs⟩ := aAz T N S rs ins;have aw : Ev (fun k => bf.j0 k ins true T N S rs) true := (Ev.const true).succ (fun k => by rw [bf.j0, if_pos rfl]; rfl)
 cases b with
 | false => exact aw.mp (fun k => by rw [bf.f, hb]; rfl)
 | true =>
  obtain ⟨h1, h2, h3⟩ := hs rfl;have hi : ins.length ≤ 9223372036854775807 := by omega
  obtain ⟨bm, eM, hm⟩ := aRQ T N S rs ins hi h1 h2;have go : Ev (fun k => bf.j0 k ins (!bm) T N S rs) true := by
   cases bm with
   | false => exact aw
   | true =>
    obtain ⟨hbo, hsz⟩ := hm rfl;have hN := aqN.of hbo h1 h2;have hmid := hN.mid;have hn1 := hN.n1;have hlen := hmid.UZ.len;have hvv : ar0 T N S rs ins = jy N.toNat (aqo rs ins) := by unfold ar0; rw [if_pos hbo]
    have e1 := ayy (T := T) (S := S) (ins := ins) hi h1 h2;rw [hvv] at e1;have el := aT8 S hN (aqo rs ins).length 0 (List.replicate (N : Int).toNat false) (by omega) (by rw [List.length_replicate]; omega) (fun j hj => absurd hj (by omega));have e3 : Ev (fun k => bf.j2 k ins (jy N.toNat (aqo rs ins)) T N S rs) true := by
     refine (Ev.bind (G := fun k aTK => if 0 ≤ N then (if (N : Int).toNat ≤ 281474976710656 then (bf.l0 k (jy N.toNat (aqo rs ins)) (List.replicate (N : Int).toNat false) 0 T N S rs aTK.1 aTK.2) else (none)) else (none)) (ayx (S := S) hN) (el.mp (fun k => ?_))).succ (fun k => by rw [bf.j2]);rw [if_pos (by omega), if_pos (by omega)];rfl
    have e2 : Ev (fun k => bf.j1 k ins T N S rs) true :=
     (Ev.bind (G := fun k aOa => if (aOa.length : Int) = N then (bf.j2 k ins aOa T N S rs) else (some false)) e1 (e3.mp (fun k => if_pos (by omega)))).succ (fun k => by rw [bf.j1])
    exact e2.succ (fun k => by rw [bf.j0]; rfl)
  exact Ev.mp (Ev.bind (G := fun k aTf => bf.j0 k ins (!aTf) T N S rs) eM go) (fun k => by rw [bf.f, hb]; rfl)
theorem aTy (T N S : Int) (A : Option Addr) (c : Nat) (rs : List KH) (AI : Option Addr) (ci : Nat) (ins : List Int) (w : World) (h0 : aCh w A c rs) (h1 : aCi w AI ci ins) :
  Calls Try.prog 17 #[.agg #[.int .i64 T, .int .i64 N, .int .i64 S, .slice A rs.length c], .slice AI ins.length ci] w fun e w' => e = .returned (.bool true) ∧ Below w.heap.size w w' := by
 obtain ⟨K, hK⟩ := (aTD T N S rs ins).ex;exact bf.calls K T N S A c rs AI ci ins true w h0.C h0.c h1.C h1.c hK
end Go.Proofs.Ytamimodkcbbpmaa.Pr
