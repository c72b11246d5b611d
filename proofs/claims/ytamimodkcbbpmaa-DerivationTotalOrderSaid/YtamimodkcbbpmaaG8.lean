/- PB LF LG PC PD QC: a part of the proof of the row of DerivationTotalOrder; no conditions. -/
import Derived.Test.YtamimodkcbbpmaaG7
import Derived.Test.YtamimodkcbbpmaaG5
section
/- The functions of chapter 30: Value, Size, Small, Short; what a fair case is. -/
namespace Go.Proofs.Ytamimodkcbbpmaa.Pr
open Go.RowKit Go.Proofs.YtamimodkcbbpmaaW.PrintWords Go.Proofs.YtamimodkcbbpmaaW.PrintLast
set_option linter.unusedVariables false
set_option linter.unusedSimpArgs false

theorem Ev.mp {α : Type} {f g : Nat → Option α} {r : α} (h : Ev g r) (e : ∀ k, f k = g k) : Ev f r := by
  obtain ⟨K, hK⟩ := h
  exact ⟨K, fun k hk => (e k).trans (hK k hk)⟩
/-- A small hypergraph. -/
structure SmallP (n : Int) (es : List S54) : Prop where
  n1 : 1 ≤ n
  n2 : n ≤ 30
  len : es.length ≤ 60
  ok : okE n.toNat es
  co : okC es
  ta : ∀ e, e ∈ es → e.f1.length ≤ 4

section
variable (n : Int) (es : List S54)
theorem values_end (hco : okC es) (d : S27) (h0 : 0 ≤ d.f0) (h1 : d.f0 < (es.length : Int)) (acc : List S34) (hal : acc.length ≤ 1000000) (hok : ∀ v, v ∈ acc → okV v) :
    Ev (fun k => knuth_Combine.f k ((rd_T54 es d.f0).f2) acc) ((combV (rd_T54 es d.f0).f2 acc).f0, (combV (rd_T54 es d.f0).f2 acc).f1) ∧ Ev (fun k => emendateref29_Combine.f k ((rd_T54 es d.f0).f2) acc) ((combV (rd_T54 es d.f0).f2 acc).f0, (combV (rd_T54 es d.f0).f2 acc).f1) := by
  obtain ⟨i, hi⟩ : ∃ i : Nat, d.f0 = (i : Int) := ⟨d.f0.toNat, by omega⟩
  have hc := okC_rd hco i (by omega)
  rw [← hi] at hc
  exact ⟨Ev.of_mono (fun k => knuth_Combine.mono _ _ k) (knuth_Combine_eq _ acc hal), Ev.of_mono (fun k => emendateref29_Combine.mono _ _ k) (refCombine_eq _ acc hal hc.1 hc.2 hok)⟩
end
/-- Size ends. -/
theorem loop_Size (d : S27) (hl : d.f1.length ≤ 9223372036854775807) (hk : ∀ j, j < d.f1.length → ∃ v, Ev (fun k => emendateref30_Size.f k (d.f1.getD j z27).f0 (d.f1.getD j z27).f1) v) : ∀ m i (x : Int), i + m = d.f1.length → ∃ v, Ev (fun k => emendateref30_Size.l0 k x (i : Int) d.f0 d.f1) v
  | 0, i, x, hi => by
    refine ⟨x, (Ev.const x).succ (fun k => ?_)⟩
    show emendateref30_Size.l0 (k + 1) _ _ _ _ = _
    rw [emendateref30_Size.l0, if_neg (by omega)]
  | m + 1, i, x, hi => by
    obtain ⟨v, ea⟩ := hk i (by omega)
    have hw := w64 i (by omega)
    obtain ⟨r, ec⟩ := loop_Size d hl hk m (i + 1) (wrap64 (x + v)) (by omega)
    refine ⟨r, (Ev.bind (G := fun k t => emendateref30_Size.l0 k (wrap64 (x + t)) ((i + 1 : Nat) : Int) d.f0 d.f1) ea ec).succ (fun k => ?_)⟩
    show emendateref30_Size.l0 (k + 1) _ _ _ _ = _
    rw [emendateref30_Size.l0, if_pos (by omega), if_pos (by omega), hw]
    rfl
theorem ev_Size {d : S27} (h : Fits27 d) : ∃ v, Ev (fun k => emendateref30_Size.f k d.f0 d.f1) v := by
  induction h with
  | mk d hf hl hk ih =>
    obtain ⟨v, ea⟩ := loop_Size d hl (fun j hj => ih _ (getD_mem _ _ _ hj)) d.f1.length 0 1 (by omega)
    refine ⟨v, ea.succ (fun k => ?_)⟩
    show emendateref30_Size.f (k + 1) _ _ = _
    rw [emendateref30_Size.f]
    rfl
section
variable (n : Int) (es : List S54)
/-- The reference's test of a hypergraph, its inner loop. -/
theorem loop_Valid27' (hl : es.length ≤ 9223372036854775807) (q : Nat) (hq : q < es.length) (ht : (rd_T54 es (q : Int)).f1.length ≤ 9223372036854775807) (a b c e0 : Int) {r : Bool} (hrest : Ev (fun k => emendateref27_Valid.l0 k ((q + 1 : Nat) : Int) n es) r) :
    ∀ m i, i + m = (rd_T54 es (q : Int)).f1.length → Ev (fun k => emendateref27_Valid.l1 k (q : Int) (i : Int) n es e0 (rd_T54 es (q : Int)).f1 a b c) (((rd_T54 es (q : Int)).f1.drop i).all (inR n) && r)
  | 0, i, hi => by
    have hi2 : i = (rd_T54 es (q : Int)).f1.length := by omega
    rw [hi2, List.drop_length]
    refine hrest.succ (fun k => ?_)
    show emendateref27_Valid.l1 (k + 1) _ _ _ _ _ _ _ _ _ = _
    rw [emendateref27_Valid.l1, if_neg (by omega), w64 q (by omega)]
  | m + 1, i, hi => by
    have hlt : i < (rd_T54 es (q : Int)).f1.length := by omega
    have hd := all_drop_cons (inR n) (rd_T54 es (q : Int)).f1 0 i hlt
    have hrd : rd (rd_T54 es (q : Int)).f1 (i : Int) = (rd_T54 es (q : Int)).f1.getD i 0 := rfl
    rw [hd]
    by_cases h1 : (rd_T54 es (q : Int)).f1.getD i 0 < 0
    · rw [show inR n ((rd_T54 es (q : Int)).f1.getD i 0) = false by unfold inR; rw [decide_eq_false (by omega)]; rfl]
      refine (Ev.const false).succ (fun k => ?_)
      show emendateref27_Valid.l1 (k + 1) _ _ _ _ _ _ _ _ _ = _
      rw [emendateref27_Valid.l1, if_pos (by omega), if_pos (by omega), hrd, if_pos h1]
    · by_cases h2 : (rd_T54 es (q : Int)).f1.getD i 0 ≥ n
      · rw [show inR n ((rd_T54 es (q : Int)).f1.getD i 0) = false by unfold inR; rw [decide_eq_false (show ¬ (rd_T54 es (q : Int)).f1.getD i 0 < n by omega), Bool.and_false]]
        refine (Ev.const false).succ (fun k => ?_)
        show emendateref27_Valid.l1 (k + 1) _ _ _ _ _ _ _ _ _ = _
        rw [emendateref27_Valid.l1, if_pos (by omega), if_pos (by omega), hrd, if_neg h1, if_pos h2]
      · rw [show inR n ((rd_T54 es (q : Int)).f1.getD i 0) = true by unfold inR; rw [decide_eq_true (show 0 ≤ (rd_T54 es (q : Int)).f1.getD i 0 by omega), decide_eq_true (show (rd_T54 es (q : Int)).f1.getD i 0 < n by omega)]; rfl, Bool.true_and]
        refine (loop_Valid27' hl q hq ht a b c e0 hrest m (i + 1) (by omega)).succ (fun k => ?_)
        show emendateref27_Valid.l1 (k + 1) _ _ _ _ _ _ _ _ _ = _
        rw [emendateref27_Valid.l1, if_pos (by omega), if_pos (by omega), hrd, if_neg h1, if_neg h2, w64 i (by omega)]
theorem loop_Valid27 (hl : es.length ≤ 9223372036854775807) (ht : ∀ e, e ∈ es → e.f1.length ≤ 9223372036854775807) : ∀ m i, i + m = es.length → Ev (fun k => emendateref27_Valid.l0 k (i : Int) n es) ((es.drop i).all (edgeOk n))
  | 0, i, hi => by
    have hi2 : i = es.length := by omega
    rw [hi2, List.drop_length]
    refine (Ev.const true).succ (fun k => ?_)
    show emendateref27_Valid.l0 (k + 1) _ _ _ = _
    rw [emendateref27_Valid.l0, if_neg (by omega)]
  | m + 1, i, hi => by
    have hlt : i < es.length := by omega
    have hd := all_drop_cons (edgeOk n) es (rd_T54 es (i : Int)) i hlt
    have hge : es.getD i (rd_T54 es (i : Int)) = rd_T54 es (i : Int) := by
      simp only [rd_T54, Int.toNat_natCast, List.getD_eq_getElem?_getD, List.getElem?_eq_getElem hlt, Option.getD_some]
    rw [hge] at hd
    have ih := loop_Valid27 hl ht m (i + 1) (by omega)
    have hin := loop_Valid27' n es hl i hlt (ht _ (by simp only [rd_T54, Int.toNat_natCast]; exact getD_mem _ _ _ hlt)) (rd_T54 es (i : Int)).f2 (rd_T54 es (i : Int)).f3.f0 (rd_T54 es (i : Int)).f3.f1 (rd_T54 es (i : Int)).f0 ih (rd_T54 es (i : Int)).f1.length 0 (by omega)
    rw [List.drop_zero] at hin
    have hE : edgeOk n (rd_T54 es (i : Int)) = ((inR n (rd_T54 es (i : Int)).f0 && (decide (0 ≤ (rd_T54 es (i : Int)).f2) && decide ((rd_T54 es (i : Int)).f2 ≤ 1099511627776))) && (rd_T54 es (i : Int)).f1.all (inR n)) := rfl
    rw [hd, hE]
    have bad : ∀ r : Bool, (inR n (rd_T54 es (i : Int)).f0 && (decide (0 ≤ (rd_T54 es (i : Int)).f2) && decide ((rd_T54 es (i : Int)).f2 ≤ 1099511627776))) = false → Ev (fun k => emendateref27_Valid.j4 k (i : Int) true n es (rd_T54 es (i : Int)).f0 (rd_T54 es (i : Int)).f1 (rd_T54 es (i : Int)).f2 (rd_T54 es (i : Int)).f3.f0 (rd_T54 es (i : Int)).f3.f1) (((inR n (rd_T54 es (i : Int)).f0 && (decide (0 ≤ (rd_T54 es (i : Int)).f2) && decide ((rd_T54 es (i : Int)).f2 ≤ 1099511627776))) && (rd_T54 es (i : Int)).f1.all (inR n)) && r) := fun r h => by
      rw [h]
      refine (Ev.const false).succ (fun k => ?_)
      rw [emendateref27_Valid.j4, if_pos rfl]
    refine Ev.succ (g := fun k => emendateref27_Valid.j3 k (i : Int) n es) ?_ (fun k => by show emendateref27_Valid.l0 (k + 1) _ _ _ = _; rw [emendateref27_Valid.l0, if_pos (by omega)])
    by_cases h1 : (rd_T54 es (i : Int)).f0 < 0
    · refine (bad _ (by unfold inR; rw [decide_eq_false (show ¬ 0 ≤ (rd_T54 es (i : Int)).f0 by omega)]; rfl)).succ (fun k => ?_)
      rw [emendateref27_Valid.j3, if_pos (by omega), if_pos (by omega), if_pos h1]
    · by_cases h2 : (rd_T54 es (i : Int)).f0 ≥ n
      · refine (bad _ (by unfold inR; rw [decide_eq_false (show ¬ (rd_T54 es (i : Int)).f0 < n by omega), Bool.and_false]; rfl)).succ (fun k => ?_)
        rw [emendateref27_Valid.j3, if_pos (by omega), if_pos (by omega), if_neg h1, if_pos h2]
      · by_cases h3 : (rd_T54 es (i : Int)).f2 < 0
        · refine (bad _ (by rw [decide_eq_false (show ¬ 0 ≤ (rd_T54 es (i : Int)).f2 by omega), Bool.false_and, Bool.and_false])).succ (fun k => ?_)
          rw [emendateref27_Valid.j3, if_pos (by omega), if_pos (by omega), if_neg h1, if_neg h2, if_pos h3]
        · by_cases h4 : (rd_T54 es (i : Int)).f2 > 1099511627776
          · refine (bad _ (by rw [decide_eq_false (show ¬ (rd_T54 es (i : Int)).f2 ≤ 1099511627776 by omega), Bool.and_false, Bool.and_false])).succ (fun k => ?_)
            rw [emendateref27_Valid.j3, if_pos (by omega), if_pos (by omega), if_neg h1, if_neg h2, if_neg h3, decide_eq_true h4]
          · rw [show (inR n (rd_T54 es (i : Int)).f0 && (decide (0 ≤ (rd_T54 es (i : Int)).f2) && decide ((rd_T54 es (i : Int)).f2 ≤ 1099511627776))) = true by unfold inR; rw [decide_eq_true (show 0 ≤ (rd_T54 es (i : Int)).f0 by omega), decide_eq_true (show (rd_T54 es (i : Int)).f0 < n by omega), decide_eq_true (show 0 ≤ (rd_T54 es (i : Int)).f2 by omega), decide_eq_true (show (rd_T54 es (i : Int)).f2 ≤ 1099511627776 by omega)]; rfl, Bool.true_and]
            refine Ev.succ (g := fun k => emendateref27_Valid.j4 k (i : Int) false n es (rd_T54 es (i : Int)).f0 (rd_T54 es (i : Int)).f1 (rd_T54 es (i : Int)).f2 (rd_T54 es (i : Int)).f3.f0 (rd_T54 es (i : Int)).f3.f1) (Ev.succ (g := fun k => emendateref27_Valid.j5 k (i : Int) n es (rd_T54 es (i : Int)).f0 (rd_T54 es (i : Int)).f1 (rd_T54 es (i : Int)).f2 (rd_T54 es (i : Int)).f3.f0 (rd_T54 es (i : Int)).f3.f1) (hin.succ (fun k => ?_)) (fun k => ?_)) (fun k => ?_)
            · rw [emendateref27_Valid.j5]; rfl
            · rw [emendateref27_Valid.j4, if_neg (by decide)]
            · rw [emendateref27_Valid.j3, if_pos (by omega), if_pos (by omega), if_neg h1, if_neg h2, if_neg h3, decide_eq_false h4]
/-- The reference's test of a hypergraph. -/
theorem ev_Valid27 (hl : es.length ≤ 9223372036854775807) (ht : ∀ e, e ∈ es → e.f1.length ≤ 9223372036854775807) : Ev (fun k => emendateref27_Valid.f k n es) (hyValid n es) := by
  have hv : hyValid n es = ((decide (1 ≤ n) && decide (n ≤ 1048576)) && es.all (edgeOk n)) := rfl
  have h0 := loop_Valid27 n es hl ht es.length 0 (by omega)
  rw [List.drop_zero] at h0
  have bad : Ev (fun k => emendateref27_Valid.j0 k true n es) false := (Ev.const false).succ (fun k => by rw [emendateref27_Valid.j0, if_pos rfl])
  by_cases h1 : n < 1
  · rw [hv, decide_eq_false (show ¬ 1 ≤ n by omega)]
    exact bad.mp (fun k => by rw [emendateref27_Valid.f, if_pos h1])
  · by_cases h2 : n > 1048576
    · rw [hv, decide_eq_false (show ¬ n ≤ 1048576 by omega), Bool.and_false]
      exact bad.mp (fun k => by rw [emendateref27_Valid.f, if_neg h1, decide_eq_true h2])
    · rw [hv, decide_eq_true (show 1 ≤ n by omega), decide_eq_true (show n ≤ 1048576 by omega)]
      have h3 : Ev (fun k => emendateref27_Valid.j0 k false n es) (es.all (edgeOk n)) := Ev.succ (g := fun k => emendateref27_Valid.j1 k n es) (h0.succ (fun k => by rw [emendateref27_Valid.j1]; rfl)) (fun k => by rw [emendateref27_Valid.j0, if_neg (by decide)])
      exact h3.mp (fun k => by rw [emendateref27_Valid.f, if_neg h1, decide_eq_false h2])
end
end Go.Proofs.Ytamimodkcbbpmaa.Pr
end
section
/- Derivations: their values, and their order as a Lean function; it is a total order on the derivations of a node. -/
namespace Go.Proofs.Ytamimodkcbbpmaa.Pr
open Go.RowKit Go.Proofs.YtamimodkcbbpmaaW.PrintWords Go.Proofs.YtamimodkcbbpmaaW.PrintLast
set_option linter.unusedVariables false
set_option linter.unusedSimpArgs false
section
variable (es : List S54)
mutual
/-- The value of a derivation. -/
def valT : S27 → S34
  | ⟨e, ks⟩ => combV (rd_T54 es e).f2 (valTs ks)
def valTs : List S27 → List S34
  | [] => []
  | d :: ds => valT d :: valTs ds
end
mutual
/-- Derivation a against derivation b: -1, 0 or 1. -/
def cmpT : S27 → S27 → Int
  | ⟨e, ks⟩, b => if ltV (valT es ⟨e, ks⟩) (valT es b) = true then -1 else if ltV (valT es b) (valT es ⟨e, ks⟩) = true then 1 else if e < b.f0 then -1 else if e > b.f0 then 1 else cmpTs ks b.f1
def cmpTs : List S27 → List S27 → Int
  | [], _ => 0
  | d :: ds, bs => match bs with
    | [] => 0
    | b :: bs => if cmpT d b = 0 then cmpTs ds bs else cmpT d b
end
end
section
variable {es : List S54}
theorem valTs_length : ∀ l : List S27, (valTs es l).length = l.length
  | [] => rfl
  | d :: l => by
    have ih := valTs_length l
    simp only [valTs, List.length_cons, ih]
theorem valTs_getD : ∀ (l : List S27) (j : Nat), j < l.length → (valTs es l).getD j z34 = valT es (l.getD j z27)
  | d :: l, 0, _ => rfl
  | d :: l, j + 1, h => by
    have ih := valTs_getD l j (by simpa using h)
    simp only [valTs, List.getD_cons_succ]
    exact ih
  | [], j, h => by simp at h
theorem valT_eq (d : S27) : valT es d = combV (rd_T54 es d.f0).f2 (valTs es d.f1) := by
  obtain ⟨e, ks⟩ := d
  rw [valT]
theorem cmpT_eq (a b : S27) : cmpT es a b = if ltV (valT es a) (valT es b) = true then -1 else if ltV (valT es b) (valT es a) = true then 1 else if a.f0 < b.f0 then -1 else if a.f0 > b.f0 then 1 else cmpTs es a.f1 b.f1 := by
  obtain ⟨e, ks⟩ := a
  rw [cmpT]
theorem VD.der (hco : okC es) {root : Int} {d : S27} (h : VD es root d) : Der es root (valT es d) := by
  induction h with
  | mk d h0 h1 hl hk ih =>
    obtain ⟨q, hq⟩ : ∃ q : Nat, d.f0 = (q : Int) := ⟨d.f0.toNat, by omega⟩
    rw [valT_eq]
    rw [hq] at hl ih ⊢
    refine Der.mk q (by omega) _ (by rw [valTs_length]; exact hl) (fun j hj => ?_)
    rw [valTs_length] at hj
    rw [valTs_getD _ _ hj]
    exact ih j hj
/-- Two lists of derivations of the same nodes. -/
def SameN (ns : List Int) (l : List S27) : Prop := l.length = ns.length ∧ ∀ j, j < l.length → VD es (ns.getD j 0) (l.getD j z27)
theorem SameN.cons {n : Int} {ns : List Int} {d : S27} {l : List S27} (h : SameN (es := es) (n :: ns) (d :: l)) : VD es n d ∧ SameN (es := es) ns l :=
  ⟨h.2 0 (by simp), by simpa using h.1, fun j hj => h.2 (j + 1) (by simpa using hj)⟩
theorem VD.kids {root : Int} {d : S27} (h : VD es root d) : SameN (es := es) (rd_T54 es d.f0).f1 d.f1 := ⟨h.inv.2.2.2.1, h.inv.2.2.2.2⟩
/-- What the order is to be on two derivations of a node. -/
structure OrdP (a b : S27) : Prop where
  anti : cmpT es a b = - cmpT es b a
  rng : -1 ≤ cmpT es a b ∧ cmpT es a b ≤ 1
  zero : cmpT es a b = 0 ↔ a = b
theorem ltV_asymm {x y : S34} (h : ltV x y = true) : ltV y x = false := by
  rw [ltV_false]
  have := (ltV_iff x y).1 h
  unfold LeV
  omega
theorem ltV_eq {x y : S34} (h1 : ltV x y = false) (h2 : ltV y x = false) : x = y := ((ltV_false y x).1 h2).antisymm ((ltV_false x y).1 h1)
theorem ordTs : ∀ (l : List S27), (∀ d, d ∈ l → ∀ root b, VD es root d → VD es root b → OrdP (es := es) d b) → ∀ (ns : List Int) (l' : List S27), SameN (es := es) ns l → SameN (es := es) ns l' → cmpTs es l l' = - cmpTs es l' l ∧ (-1 ≤ cmpTs es l l' ∧ cmpTs es l l' ≤ 1) ∧ (cmpTs es l l' = 0 ↔ l = l')
  | [], _, ns, l', h, h' => by
    have hl : l' = [] := List.eq_nil_of_length_eq_zero (by rw [h'.1, ← h.1]; rfl)
    subst hl
    exact ⟨by simp [cmpTs], by simp [cmpTs], by simp [cmpTs]⟩
  | d :: l, hd, [], l', h, h' => by have := h.1; simp at this
  | d :: l, hd, n :: ns, [], h, h' => by have := h'.1; simp at this
  | d :: l, hd, n :: ns, b :: l', h, h' => by
    obtain ⟨v1, s1⟩ := h.cons
    obtain ⟨v2, s2⟩ := h'.cons
    obtain ⟨i1, i2, i3⟩ := ordTs l (fun x hx => hd x (List.mem_cons_of_mem _ hx)) ns l' s1 s2
    have o := hd d (List.mem_cons_self ..) n b v1 v2
    have e1 : cmpTs es (d :: l) (b :: l') = if cmpT es d b = 0 then cmpTs es l l' else cmpT es d b := by rw [cmpTs]
    have e2 : cmpTs es (b :: l') (d :: l) = if cmpT es b d = 0 then cmpTs es l' l else cmpT es b d := by rw [cmpTs]
    have oa := o.anti
    have org := o.rng
    rw [e1, e2]
    by_cases hz : cmpT es d b = 0
    · have hz2 : cmpT es b d = 0 := by omega
      have hdb := o.zero.1 hz
      rw [if_pos hz, if_pos hz2]
      refine ⟨i1, i2, i3.trans ⟨fun h => by rw [hdb, h], fun h => by injection h⟩⟩
    · have hz2 : ¬ cmpT es b d = 0 := by omega
      rw [if_neg hz, if_neg hz2]
      refine ⟨oa, org, ⟨fun h => absurd h hz, fun h => absurd (o.zero.2 (by injection h)) hz⟩⟩
theorem ord_step (d : S27) (hk : ∀ x, x ∈ d.f1 → ∀ root b, VD es root x → VD es root b → OrdP (es := es) x b) (root : Int) (b : S27) (hd : VD es root d) (hb : VD es root b) : OrdP (es := es) d b := by
  have e1 := cmpT_eq (es := es) d b
  have e2 := cmpT_eq (es := es) b d
  by_cases h1 : ltV (valT es d) (valT es b) = true
  · have h2 := ltV_asymm h1
    rw [if_pos h1] at e1
    rw [if_neg (by rw [h2]; decide), if_pos h1] at e2
    refine ⟨by rw [e1, e2], by rw [e1]; decide, ⟨fun h => by rw [e1] at h; exact absurd h (by decide), fun h => ?_⟩⟩
    subst h
    rw [h1] at h2
    cases h2
  · have h1' : ltV (valT es d) (valT es b) = false := Bool.eq_false_iff.2 h1
    by_cases h2 : ltV (valT es b) (valT es d) = true
    · rw [if_neg h1, if_pos h2] at e1
      rw [if_pos h2] at e2
      refine ⟨by rw [e1, e2]; rfl, by rw [e1]; decide, ⟨fun h => by rw [e1] at h; exact absurd h (by decide), fun h => ?_⟩⟩
      subst h
      exact absurd h2 h1
    · rw [if_neg h1, if_neg h2] at e1
      rw [if_neg h2, if_neg h1] at e2
      by_cases h3 : d.f0 < b.f0
      · rw [if_pos h3] at e1
        rw [if_neg (by omega), if_pos (by omega)] at e2
        refine ⟨by rw [e1, e2], by rw [e1]; decide, ⟨fun h => by rw [e1] at h; exact absurd h (by decide), fun h => by subst h; omega⟩⟩
      · by_cases h4 : d.f0 > b.f0
        · rw [if_neg h3, if_pos h4] at e1
          rw [if_pos (by omega)] at e2
          refine ⟨by rw [e1, e2]; rfl, by rw [e1]; decide, ⟨fun h => by rw [e1] at h; exact absurd h (by decide), fun h => by subst h; omega⟩⟩
        · have hf : d.f0 = b.f0 := by omega
          rw [if_neg h3, if_neg h4] at e1
          rw [if_neg (by omega), if_neg (by omega)] at e2
          have hbk := hb.kids
          rw [← hf] at hbk
          obtain ⟨i1, i2, i3⟩ := ordTs d.f1 hk _ b.f1 hd.kids hbk
          have hz : d.f1 = b.f1 ↔ d = b := by
            obtain ⟨x, xs⟩ := d
            obtain ⟨y, ys⟩ := b
            simp only at hf
            subst hf
            exact ⟨fun h => by simp only at h; rw [h], fun h => by injection h⟩
          refine ⟨by rw [e1, e2]; exact i1, by rw [e1]; exact i2, by rw [e1]; exact i3.trans hz⟩
theorem ord_all {d : S27} (hf : Fits27 d) : ∀ root b, VD es root d → VD es root b → OrdP (es := es) d b := by
  induction hf with
  | mk d _ _ _ ih => exact fun root b => ord_step d ih root b
theorem ltV_trans {x y z : S34} (h1 : ltV x y = true) (h2 : ltV y z = true) : ltV x z = true := by
  rw [ltV_iff] at *
  omega
/-- When one derivation is at most another. -/
theorem cmp_le (a b : S27) : cmpT es a b ≤ 0 ↔ ltV (valT es a) (valT es b) = true ∨ (valT es a = valT es b ∧ (a.f0 < b.f0 ∨ (a.f0 = b.f0 ∧ cmpTs es a.f1 b.f1 ≤ 0))) := by
  rw [cmpT_eq]
  by_cases h1 : ltV (valT es a) (valT es b) = true
  · rw [if_pos h1]
    exact ⟨fun _ => Or.inl h1, fun _ => by decide⟩
  · rw [if_neg h1]
    by_cases h2 : ltV (valT es b) (valT es a) = true
    · rw [if_pos h2]
      refine ⟨fun h => absurd h (by decide), fun h => ?_⟩
      rcases h with h | ⟨h, _⟩
      · exact absurd h h1
      · rw [h] at h1 h2; exact absurd h2 h1
    · rw [if_neg h2]
      have he := ltV_eq (Bool.eq_false_iff.2 h1) (Bool.eq_false_iff.2 h2)
      by_cases h3 : a.f0 < b.f0
      · rw [if_pos h3]
        exact ⟨fun _ => Or.inr ⟨he, Or.inl h3⟩, fun _ => by decide⟩
      · rw [if_neg h3]
        by_cases h4 : a.f0 > b.f0
        · rw [if_pos h4]
          refine ⟨fun h => absurd h (by decide), fun h => ?_⟩
          rcases h with h | ⟨_, h | ⟨h, _⟩⟩
          · exact absurd h h1
          · omega
          · omega
        · rw [if_neg h4]
          refine ⟨fun h => Or.inr ⟨he, Or.inr ⟨by omega, h⟩⟩, fun h => ?_⟩
          rcases h with h | ⟨_, h | ⟨_, h⟩⟩
          · exact absurd h h1
          · omega
          · exact h
def TransP (x : S27) : Prop := ∀ root b c, Fits27 b → Fits27 c → VD es root x → VD es root b → VD es root c → cmpT es x b ≤ 0 → cmpT es b c ≤ 0 → cmpT es x c ≤ 0
theorem trans_list : ∀ (l : List S27), (∀ x, x ∈ l → Fits27 x ∧ TransP (es := es) x) → ∀ (ns : List Int) (m k : List S27), (∀ x, x ∈ m → Fits27 x) → (∀ x, x ∈ k → Fits27 x) → SameN (es := es) ns l → SameN (es := es) ns m → SameN (es := es) ns k → cmpTs es l m ≤ 0 → cmpTs es m k ≤ 0 → cmpTs es l k ≤ 0
  | [], _, ns, m, k, _, _, _, _, _, _, _ => by simp [cmpTs]
  | x :: l, _, [], m, k, _, _, sl, _, _, _, _ => by have := sl.1; simp at this
  | x :: l, _, n :: ns, [], k, _, _, _, sm, _, _, _ => by have := sm.1; simp at this
  | x :: l, _, n :: ns, y :: m, [], _, _, _, _, sk, _, _ => by have := sk.1; simp at this
  | x :: l, hl, n :: ns, y :: m, z :: k, fm, fk, sl, sm, sk, g1, g2 => by
    obtain ⟨vx, sl'⟩ := sl.cons
    obtain ⟨vy, sm'⟩ := sm.cons
    obtain ⟨vz, sk'⟩ := sk.cons
    have e1 : cmpTs es (x :: l) (y :: m) = if cmpT es x y = 0 then cmpTs es l m else cmpT es x y := by rw [cmpTs]
    have e2 : cmpTs es (y :: m) (z :: k) = if cmpT es y z = 0 then cmpTs es m k else cmpT es y z := by rw [cmpTs]
    have e3 : cmpTs es (x :: l) (z :: k) = if cmpT es x z = 0 then cmpTs es l k else cmpT es x z := by rw [cmpTs]
    rw [e1] at g1
    rw [e2] at g2
    rw [e3]
    obtain ⟨fx, tx⟩ := hl x (List.mem_cons_self ..)
    have fy := fm y (List.mem_cons_self ..)
    have fz := fk z (List.mem_cons_self ..)
    have oxy := ord_all fx n y vx vy
    have oxz := ord_all fx n z vx vz
    have hxy : cmpT es x y ≤ 0 := by
      by_cases h : cmpT es x y = 0
      · omega
      · rw [if_neg h] at g1; exact g1
    have hyz : cmpT es y z ≤ 0 := by
      by_cases h : cmpT es y z = 0
      · omega
      · rw [if_neg h] at g2; exact g2
    have hxz := tx n y z fy fz vx vy vz hxy hyz
    by_cases hz : cmpT es x z = 0
    · have hxz2 := oxz.zero.1 hz
      have hyx : cmpT es y x ≤ 0 := by rw [hxz2]; exact hyz
      have hz1 : cmpT es x y = 0 := by have := oxy.anti; omega
      have hxy2 := oxy.zero.1 hz1
      have hz2 : cmpT es y z = 0 := by rw [← hxy2, hxz2]; exact (ord_all fz n z vz vz).zero.2 rfl
      rw [if_pos hz1] at g1
      rw [if_pos hz2] at g2
      rw [if_pos hz]
      exact trans_list l (fun q hq => hl q (List.mem_cons_of_mem _ hq)) ns m k (fun q hq => fm q (List.mem_cons_of_mem _ hq)) (fun q hq => fk q (List.mem_cons_of_mem _ hq)) sl' sm' sk' g1 g2
    · rw [if_neg hz]; exact hxz
theorem Fits27.mem {d : S27} (h : Fits27 d) : ∀ x, x ∈ d.f1 → Fits27 x := by
  cases h with
  | mk _ _ _ hk => exact hk
/-- The order is transitive on the derivations of a node. -/
theorem trans_all {d : S27} (hf : Fits27 d) : TransP (es := es) d := by
  induction hf with
  | mk d _ _ hk ih =>
    intro root b c fb fc hd hb hc h1 h2
    rw [cmp_le] at h1 h2 ⊢
    rcases h1 with h1 | ⟨h1, h1'⟩
    · rcases h2 with h2 | ⟨h2, _⟩
      · exact Or.inl (ltV_trans h1 h2)
      · rw [← h2]; exact Or.inl h1
    · rw [h1]
      rcases h2 with h2 | ⟨h2, h2'⟩
      · exact Or.inl h2
      · refine Or.inr ⟨h2, ?_⟩
        rcases h1' with h1' | ⟨h1', g1⟩
        · rcases h2' with h2' | ⟨h2', _⟩
          · exact Or.inl (by omega)
          · exact Or.inl (by omega)
        · rcases h2' with h2' | ⟨h2', g2⟩
          · exact Or.inl (by omega)
          · refine Or.inr ⟨by omega, ?_⟩
            have sb := hb.kids
            have sc := hc.kids
            rw [← h1'] at sb
            rw [← h2', ← h1'] at sc
            exact trans_list d.f1 (fun x hx => ⟨hk x hx, ih x hx⟩) _ b.f1 c.f1 fb.mem fc.mem hd.kids sb sc g1 g2
end
end Go.Proofs.Ytamimodkcbbpmaa.Pr
end
section
/- Value and Compare of the program, as the Lean functions valT and cmpT tell. -/
namespace Go.Proofs.Ytamimodkcbbpmaa.Pr
open Go.RowKit Go.Proofs.YtamimodkcbbpmaaW.PrintWords Go.Proofs.YtamimodkcbbpmaaW.PrintLast
set_option linter.unusedVariables false
set_option linter.unusedSimpArgs false
section
variable (n : Int) (es : List S54)
theorem valTs_append (l m : List S27) : valTs es (l ++ m) = valTs es l ++ valTs es m := by
  induction l with
  | nil => rfl
  | cons d l ih =>
    show valT es d :: valTs es (l ++ m) = _
    rw [ih]
    rfl
theorem valTs_take (l : List S27) (i : Nat) (h : i < l.length) : valTs es (l.take (i + 1)) = valTs es (l.take i) ++ [valT es (l.getD i z27)] := by
  rw [List.take_succ_eq_append_getElem h, valTs_append]
  congr 1
  show [valT es l[i]] = _
  rw [List.getD_eq_getElem?_getD, List.getElem?_eq_getElem h]
  rfl
theorem loop_Val (hco : okC es) (d : S27) (h0 : 0 ≤ d.f0) (h1 : d.f0 < (es.length : Int)) (hs : d.f1.length ≤ 1000000) (hok : ∀ v, v ∈ valTs es d.f1 → okV v)
    (hk : ∀ j, j < d.f1.length → Ev (fun k => derivation_Value.f k n es (d.f1.getD j z27).f0 (d.f1.getD j z27).f1) ((valT es (d.f1.getD j z27)).f0, (valT es (d.f1.getD j z27)).f1)) :
    ∀ m i, i + m = d.f1.length →
      Ev (fun k => derivation_Value.l0 k (valTs es (d.f1.take i)) d.f1 (d.f1.length : Int) (i : Int) n es d.f0 d.f1) ((valT es d).f0, (valT es d).f1)
  | 0, i, hi => by
    have hi2 : i = d.f1.length := by omega
    rw [hi2, List.take_length, valT_eq]
    obtain ⟨e1, e2⟩ := values_end es hco d h0 h1 (valTs es d.f1) (by rw [valTs_length]; exact hs) hok
    refine (Ev.bind (G := fun _ t => some (t.1, t.2)) e1 (Ev.const _)).succ (fun k => ?_)
    show derivation_Value.l0 (k + 1) _ _ _ _ _ _ _ _ = _
    rw [derivation_Value.l0, if_neg (by omega), if_pos h0, if_pos h1]
  | m + 1, i, hi => by
    have ea := hk i (by omega)
    have hw := w64 i (by omega)
    have ec := loop_Val hco d h0 h1 hs hok hk m (i + 1) (by omega)
    rw [valTs_take es d.f1 i (by omega)] at ec
    have hal : (valTs es (d.f1.take i)).length < 8796093022208 := by rw [valTs_length, List.length_take]; omega
    refine (Ev.bind (G := fun k t => if (valTs es (d.f1.take i)).length < 8796093022208 then derivation_Value.l0 k (valTs es (d.f1.take i) ++ [(⟨t.1, t.2⟩ : S34)]) d.f1 (d.f1.length : Int) ((i + 1 : Nat) : Int) n es d.f0 d.f1 else none) ea (Ev.mp ec (fun k => if_pos hal))).succ (fun k => ?_)
    show derivation_Value.l0 (k + 1) _ _ _ _ _ _ _ _ = _
    rw [derivation_Value.l0, if_pos (by omega), if_pos (by omega), if_pos (by omega), hw]
    rfl
/-- The value of a valid derivation. -/
theorem ev_Val (hco : okC es) (hta : ∀ e, e ∈ es → e.f1.length ≤ 1000000) {root : Int} {d : S27} (h : VD es root d) : Ev (fun k => derivation_Value.f k n es d.f0 d.f1) ((valT es d).f0, (valT es d).f1) := by
  induction h with
  | mk d h0 h1 hl hk ih =>
    have hs : (rd_T54 es d.f0).f1.length ≤ 1000000 := by
      refine hta _ ?_
      simp only [rd_T54]
      exact getD_mem _ _ _ (by omega)
    have hok : ∀ v, v ∈ valTs es d.f1 → okV v := all_of_getD _ z34 (fun j hj => by
      rw [valTs_length] at hj
      rw [valTs_getD _ _ hj]
      exact ((hk j hj).der hco).ok hco)
    have ea := loop_Val n es hco d h0 h1 (by omega) hok ih d.f1.length 0 (by omega)
    refine ea.succ (fun k => ?_)
    show derivation_Value.f (k + 1) _ _ _ _ = _
    rw [derivation_Value.f]
    rfl
theorem values_eq (x y : S34) : derivation_values.f x.f0 x.f1 y.f0 y.f1 = some (if ltV x y = true then -1 else if ltV y x = true then 1 else 0) := by
  unfold derivation_values.f
  rw [knuth_Less_eq x y, Option.bind_some]
  by_cases h1 : ltV x y = true
  · rw [if_pos h1, if_pos h1]
  · rw [if_neg h1, if_neg h1, knuth_Less_eq y x, Option.bind_some]
    by_cases h2 : ltV y x = true
    · rw [if_pos h2, if_pos h2]
    · rw [if_neg h2, if_neg h2]
theorem loop_Cmp (ks : List S27) (b : S27) (hl : ks.length = b.f1.length) (hb : ks.length ≤ 9223372036854775807)
    (hk : ∀ j, j < ks.length → Ev (fun k => derivation_Compare.f k n es (ks.getD j z27).f0 (ks.getD j z27).f1 (b.f1.getD j z27).f0 (b.f1.getD j z27).f1) (cmpT es (ks.getD j z27) (b.f1.getD j z27))) :
    ∀ m i, i + m = ks.length → Ev (fun k => derivation_Compare.l0 k 0 ks (ks.length : Int) (i : Int) n es b.f0 b.f1) (cmpTs es (ks.drop i) (b.f1.drop i))
  | 0, i, hi => by
    have hi2 : i = ks.length := by omega
    rw [hi2, List.drop_length]
    refine (Ev.const 0).succ (fun k => ?_)
    show derivation_Compare.l0 (k + 1) _ _ _ _ _ _ _ _ = _
    rw [derivation_Compare.l0, if_neg (by omega)]
  | m + 1, i, hi => by
    have ea := hk i (by omega)
    have ih := loop_Cmp ks b hl hb hk m (i + 1) (by omega)
    have d1 : ks.drop i = ks.getD i z27 :: ks.drop (i + 1) := by rw [List.drop_eq_getElem_cons (by omega), List.getD_eq_getElem?_getD, List.getElem?_eq_getElem (by omega)]; rfl
    have d2 : b.f1.drop i = b.f1.getD i z27 :: b.f1.drop (i + 1) := by rw [List.drop_eq_getElem_cons (by omega), List.getD_eq_getElem?_getD, List.getElem?_eq_getElem (by omega)]; rfl
    rw [d1, d2, show cmpTs es (ks.getD i z27 :: ks.drop (i + 1)) (b.f1.getD i z27 :: b.f1.drop (i + 1)) = if cmpT es (ks.getD i z27) (b.f1.getD i z27) = 0 then cmpTs es (ks.drop (i + 1)) (b.f1.drop (i + 1)) else cmpT es (ks.getD i z27) (b.f1.getD i z27) by rw [cmpTs]]
    have hG : Ev (fun k => if cmpT es (ks.getD i z27) (b.f1.getD i z27) = 0 then derivation_Compare.l0 k 0 ks (ks.length : Int) ((i + 1 : Nat) : Int) n es b.f0 b.f1 else some (cmpT es (ks.getD i z27) (b.f1.getD i z27))) (if cmpT es (ks.getD i z27) (b.f1.getD i z27) = 0 then cmpTs es (ks.drop (i + 1)) (b.f1.drop (i + 1)) else cmpT es (ks.getD i z27) (b.f1.getD i z27)) := by
      by_cases hz : cmpT es (ks.getD i z27) (b.f1.getD i z27) = 0
      · rw [if_pos hz]
        exact ih.mp (fun k => if_pos hz)
      · rw [if_neg hz]
        exact (Ev.const _).mp (fun k => if_neg hz)
    refine (Ev.bind (G := fun k t => if t = 0 then derivation_Compare.l0 k 0 ks (ks.length : Int) ((i + 1 : Nat) : Int) n es b.f0 b.f1 else some t) ea hG).succ (fun k => ?_)
    show derivation_Compare.l0 (k + 1) _ _ _ _ _ _ _ _ = _
    rw [derivation_Compare.l0, if_pos (by omega), if_pos (by omega), if_pos (by omega), if_pos (by omega), w64 i (by omega)]
    rfl
/-- What the program's Compare tells. -/
theorem ev_Compare (hco : okC es) (hta : ∀ e, e ∈ es → e.f1.length ≤ 1000000) {a : S27} (fa : Fits27 a) : ∀ root b, VD es root a → VD es root b → Ev (fun k => derivation_Compare.f k n es a.f0 a.f1 b.f0 b.f1) (cmpT es a b) := by
  induction fa with
  | mk a _ hl _ ih =>
    intro root b ha hb
    have e1 := ev_Val n es hco hta ha
    have e2 := ev_Val n es hco hta hb
    have hres : ∀ t : Int, t = (if ltV (valT es a) (valT es b) = true then -1 else if ltV (valT es b) (valT es a) = true then 1 else 0) → Ev (fun k => if t = 0 then derivation_Compare.j0 k n es a.f0 a.f1 b.f0 b.f1 else some t) (cmpT es a b) := by
      intro t ht
      rw [cmpT_eq]
      by_cases h1 : ltV (valT es a) (valT es b) = true
      · rw [if_pos h1] at ht ⊢
        exact (Ev.const (-1)).mp (fun k => by rw [ht, if_neg (by decide)])
      · rw [if_neg h1] at ht ⊢
        by_cases h2 : ltV (valT es b) (valT es a) = true
        · rw [if_pos h2] at ht ⊢
          exact (Ev.const 1).mp (fun k => by rw [ht, if_neg (by decide)])
        · rw [if_neg h2] at ht ⊢
          by_cases h3 : a.f0 < b.f0
          · rw [if_pos h3]
            have : Ev (fun k => derivation_Compare.j0 k n es a.f0 a.f1 b.f0 b.f1) (-1) := (Ev.const (-1)).succ (fun k => by rw [derivation_Compare.j0, if_neg (by omega), if_pos h3])
            exact this.mp (fun k => by rw [ht, if_pos rfl])
          · rw [if_neg h3]
            by_cases h4 : a.f0 > b.f0
            · rw [if_pos h4]
              have : Ev (fun k => derivation_Compare.j0 k n es a.f0 a.f1 b.f0 b.f1) 1 := (Ev.const 1).succ (fun k => by rw [derivation_Compare.j0, if_neg (by omega), if_neg h3])
              exact this.mp (fun k => by rw [ht, if_pos rfl])
            · rw [if_neg h4]
              have hf : a.f0 = b.f0 := by omega
              have sb := hb.kids
              rw [← hf] at sb
              have sa := ha.kids
              have hll : a.f1.length = b.f1.length := by rw [sa.1, sb.1]
              have hloop := loop_Cmp n es a.f1 b hll hl (fun j hj => ih _ (getD_mem _ _ _ hj) _ _ (sa.2 j hj) (sb.2 j (by omega))) a.f1.length 0 (by omega)
              rw [List.drop_zero, List.drop_zero] at hloop
              have h5 : Ev (fun k => derivation_Compare.j0 k n es a.f0 a.f1 b.f0 b.f1) (cmpTs es a.f1 b.f1) := Ev.succ (g := fun k => derivation_Compare.j1 k n es a.f0 a.f1 b.f0 b.f1) (hloop.succ (fun k => by rw [derivation_Compare.j1]; rfl)) (fun k => by rw [derivation_Compare.j0, if_pos hf])
              exact h5.mp (fun k => by rw [ht, if_pos rfl])
    refine (Ev.bind (G := fun k bt135 => ((derivation_Value.f k n es b.f0 b.f1).bind fun bt137 => ((derivation_values.f bt135.1 bt135.2 bt137.1 bt137.2).bind fun t139 => (if t139 = 0 then (derivation_Compare.j0 k n es a.f0 a.f1 b.f0 b.f1) else (some t139))))) e1 (Ev.bind (G := fun k bt137 => ((derivation_values.f (valT es a).f0 (valT es a).f1 bt137.1 bt137.2).bind fun t139 => (if t139 = 0 then (derivation_Compare.j0 k n es a.f0 a.f1 b.f0 b.f1) else (some t139)))) e2 ((hres _ rfl).mp (fun k => by rw [values_eq]; rfl)))).succ (fun k => ?_)
    show derivation_Compare.f (k + 1) _ _ _ _ _ _ = _
    rw [derivation_Compare.f]
end
end Go.Proofs.Ytamimodkcbbpmaa.Pr
end
section
/- What a fair case is; the first law of chapter 30 as plain Lean. -/
namespace Go.Proofs.Ytamimodkcbbpmaa.Pr
open Go.RowKit Go.Proofs.YtamimodkcbbpmaaW.PrintWords Go.Proofs.YtamimodkcbbpmaaW.PrintLast
set_option linter.unusedVariables false
set_option linter.unusedSimpArgs false
section
variable (n : Int) (es : List S54)
theorem hyValid_iff : hyValid n es = true ↔ (1 ≤ n ∧ n ≤ 1048576) ∧ ∀ e, e ∈ es → ((0 ≤ e.f0 ∧ e.f0 < n) ∧ 0 ≤ e.f2 ∧ e.f2 ≤ 1099511627776) ∧ ∀ t, t ∈ e.f1 → 0 ≤ t ∧ t < n := by
  simp only [hyValid, edgeOk, inR, Bool.and_eq_true, decide_eq_true_eq, List.all_eq_true]
theorem SmallP.of (hn : n ≤ 30) (hl : es.length ≤ 60) (ht : ∀ e, e ∈ es → e.f1.length ≤ 4) (h : hyValid n es = true) : SmallP n es := by
  obtain ⟨⟨h1, h2⟩, h3⟩ := (hyValid_iff n es).1 h
  refine ⟨h1, hn, hl, fun e he => ?_, fun e he => (h3 e he).1.2, ht⟩
  have h4 := h3 e he
  have h5 := ht e he
  refine ⟨by have := h4.1.1; omega, fun t ht => by have := h4.2 t ht; omega, by omega⟩
theorem SmallP.valid {n : Int} {es : List S54} (h : SmallP n es) : hyValid n es = true := by
  have h1 := h.n1
  have h2 := h.n2
  refine (hyValid_iff n es).2 ⟨by omega, fun e he => ?_⟩
  have h4 := h.ok e he
  have h5 := h.co e he
  exact ⟨⟨by have := h4.1; omega, h5⟩, fun t ht => by have := h4.2.1 t ht; omega⟩
theorem loop_Small (hl : es.length ≤ 9223372036854775807) {r : Bool} (hv : Ev (fun k => emendateref27_Valid.f k n es) r) : ∀ m i, i + m = es.length → ∃ b, Ev (fun k => emendateref27_Small.l0 k (i : Int) n es) b ∧ (b = true ↔ (∀ j : Nat, i ≤ j → j < es.length → (rd_T54 es (j : Int)).f1.length ≤ 4) ∧ r = true)
  | 0, i, hi => by
    refine ⟨r, (Ev.bind (G := fun _ t => some t) hv (Ev.const r)).succ (fun k => ?_), ⟨fun h => ⟨fun j h1 h2 => absurd h2 (by omega), h⟩, fun h => h.2⟩⟩
    show emendateref27_Small.l0 (k + 1) _ _ _ = _
    rw [emendateref27_Small.l0, if_neg (by omega)]
  | m + 1, i, hi => by
    by_cases h4 : (rd_T54 es (i : Int)).f1.length ≤ 4
    · obtain ⟨b, eb, hb⟩ := loop_Small hl hv m (i + 1) (by omega)
      refine ⟨b, eb.succ (fun k => ?_), hb.trans ⟨fun h => ⟨fun j h1 h2 => ?_, h.2⟩, fun h => ⟨fun j h1 h2 => h.1 j (by omega) h2, h.2⟩⟩⟩
      · show emendateref27_Small.l0 (k + 1) _ _ _ = _
        rw [emendateref27_Small.l0, if_pos (by omega), if_pos (by omega), if_neg (by omega), w64 i (by omega)]
      · by_cases hj : j = i
        · subst hj; exact h4
        · exact h.1 j (by omega) h2
    · refine ⟨false, (Ev.const false).succ (fun k => ?_), ⟨fun h => (by cases h), fun h => absurd (h.1 i (Nat.le_refl _) (by omega)) h4⟩⟩
      show emendateref27_Small.l0 (k + 1) _ _ _ = _
      rw [emendateref27_Small.l0, if_pos (by omega), if_pos (by omega), if_pos (by omega)]
theorem ev_Small (hl : es.length ≤ 9223372036854775807) (ht : ∀ e, e ∈ es → e.f1.length ≤ 9223372036854775807) : ∃ b, Ev (fun k => emendateref27_Small.f k n es) b ∧ (b = true ↔ SmallP n es) := by
  have bad : Ev (fun k => emendateref27_Small.j0 k true n es) false := (Ev.const false).succ (fun k => by rw [emendateref27_Small.j0, if_pos rfl])
  by_cases h1 : n > 30
  · exact ⟨false, bad.mp (fun k => by rw [emendateref27_Small.f, if_pos h1]), ⟨fun h => (by cases h), fun h => absurd h.n2 (by omega)⟩⟩
  · by_cases h2 : (es.length : Int) > 60
    · exact ⟨false, bad.mp (fun k => by rw [emendateref27_Small.f, if_neg h1, decide_eq_true h2]), ⟨fun h => (by cases h), fun h => absurd h.len (by omega)⟩⟩
    · obtain ⟨b, eb, hb⟩ := loop_Small n es hl (ev_Valid27 n es hl ht) es.length 0 (by omega)
      have h3 : Ev (fun k => emendateref27_Small.j0 k false n es) b := Ev.succ (g := fun k => emendateref27_Small.j1 k n es) (eb.succ (fun k => by rw [emendateref27_Small.j1]; rfl)) (fun k => by rw [emendateref27_Small.j0, if_neg (by decide)])
      refine ⟨b, h3.mp (fun k => by rw [emendateref27_Small.f, if_neg h1, decide_eq_false h2]), hb.trans ⟨fun h => SmallP.of n es (by omega) (by omega) (fun e he => ?_) h.2, fun h => ⟨fun j _ hj => h.ta _ ?_, h.valid⟩⟩⟩
      · obtain ⟨j, hj, e1⟩ := List.mem_iff_getElem.1 he
        have := h.1 j (Nat.zero_le _) hj
        simp only [rd_T54, Int.toNat_natCast, List.getD_eq_getElem?_getD, List.getElem?_eq_getElem hj, Option.getD_some, e1] at this
        exact this
      · simp only [rd_T54, Int.toNat_natCast]
        exact getD_mem _ _ _ hj
theorem SmallP.refOk {n : Int} {es : List S54} (h : SmallP n es) : refOk n es = true := by
  have h1 := h.n1
  have h2 := h.n2
  have h3 := h.len
  refine (refOk_iff n es).2 ⟨⟨by omega, by omega, by omega, fun e he => ?_⟩, h.co⟩
  have h4 := h.ok e he
  have h5 := h.ta e he
  exact ⟨by have := h4.1; omega, fun t ht => by have := h4.2.1 t ht; omega, by omega⟩
theorem loop_Short (vs : List S34) (hl : vs.length ≤ 9223372036854775807) : ∀ m i, i + m = vs.length → ∃ b, Ev (fun k => emendateref30_Short.l0 k vs (i : Int)) b ∧ (b = true ↔ ∀ j : Nat, i ≤ j → j < vs.length → (rd_T34 vs (j : Int)).f1 ≤ 1000)
  | 0, i, hi => by
    refine ⟨true, (Ev.const true).succ (fun k => ?_), ⟨fun _ j h1 h2 => absurd h2 (by omega), fun _ => rfl⟩⟩
    show emendateref30_Short.l0 (k + 1) _ _ = _
    rw [emendateref30_Short.l0, if_neg (by omega)]
  | m + 1, i, hi => by
    by_cases h4 : (rd_T34 vs (i : Int)).f1 > 1000
    · refine ⟨false, (Ev.const false).succ (fun k => ?_), ⟨fun h => (by cases h), fun h => absurd (h i (Nat.le_refl _) (by omega)) (by omega)⟩⟩
      show emendateref30_Short.l0 (k + 1) _ _ = _
      rw [emendateref30_Short.l0, if_pos (by omega), if_pos (by omega), if_pos h4]
    · obtain ⟨b, eb, hb⟩ := loop_Short vs hl m (i + 1) (by omega)
      refine ⟨b, eb.succ (fun k => ?_), hb.trans ⟨fun h j h1 h2 => ?_, fun h j h1 h2 => h j (by omega) h2⟩⟩
      · show emendateref30_Short.l0 (k + 1) _ _ = _
        rw [emendateref30_Short.l0, if_pos (by omega), if_pos (by omega), if_neg h4, w64 i (by omega)]
      · by_cases hj : j = i
        · subst hj; omega
        · exact h j (by omega) h2
/-- A small hypergraph all of whose least values have sizes up to 1000. -/
structure ShortP (n : Int) (es : List S54) : Prop where
  small : SmallP n es
  short : ∀ j : Nat, (j : Int) < n → (rd_T34 (solV n.toNat es) (j : Int)).f1 ≤ 1000
theorem SmallP.solLen {n : Int} {es : List S54} (h : SmallP n es) : (solV n.toNat es).length = n.toNat := (endM_sol h.co h.ok (fun e he => by have := h.ta e he; omega) (by have := h.len; omega)).len
theorem ev_Short (hl : es.length ≤ 9223372036854775807) (ht : ∀ e, e ∈ es → e.f1.length ≤ 9223372036854775807) : ∃ b, Ev (fun k => emendateref30_Short.f k n es) b ∧ (b = true ↔ ShortP n es) := by
  obtain ⟨b, eb, hb⟩ := ev_Small n es hl ht
  cases b with
  | false => exact ⟨false, (Ev.bind (G := fun k t => if t = true then emendateref30_Short.j0 k n es else some false) eb (Ev.const false)).mp (fun k => rfl), ⟨fun h => (by cases h), fun h => hb.2 h.small⟩⟩
  | true =>
    have hs := hb.1 rfl
    have hv := hs.solLen
    have hn := hs.n2
    obtain ⟨c, ec, hc⟩ := loop_Short (solV n.toNat es) (by rw [hv]; omega) (solV n.toNat es).length 0 (by omega)
    have e2 : Ev (fun k => emendateref30_Short.j0 k n es) c := ec.succ (fun k => by
      rw [emendateref30_Short.j0, emendateref29_Solve.f, if_pos hs.refOk]
      rfl)
    refine ⟨c, (Ev.bind (G := fun k t => if t = true then emendateref30_Short.j0 k n es else some false) eb e2).mp (fun k => rfl), hc.trans ⟨fun h => ⟨hs, fun j hj => h j (Nat.zero_le _) (by rw [hv]; omega)⟩, fun h j _ hj => h.short j (by rw [hv] at hj; omega)⟩⟩
theorem ev_fair (hl : es.length ≤ 9223372036854775807) (ht : ∀ e, e ∈ es → e.f1.length ≤ 9223372036854775807) (r : Int) {d1 d2 d3 : S27} (h1 : Fits27 d1) (h2 : Fits27 d2) (h3 : Fits27 d3) :
    ∃ b, Ev (fun k => emendatelaw30_fair.f k n es r d1.f0 d1.f1 d2.f0 d2.f1 d3.f0 d3.f1) b ∧ (b = true → ShortP n es) := by
  obtain ⟨b, eb, hb⟩ := ev_Short n es hl ht
  obtain ⟨z1, e1⟩ := ev_Size h1
  obtain ⟨z2, e2⟩ := ev_Size h2
  obtain ⟨z3, e3⟩ := ev_Size h3
  cases b with
  | false => exact ⟨false, (Ev.bind (G := fun k t => if t = true then _ else some false) eb (Ev.const false)).mp (fun k => rfl), fun h => (by cases h)⟩
  | true =>
    have hs := hb.1 rfl
    suffices h : ∃ b, Ev (fun k => (emendateref30_Size.f k d1.f0 d1.f1).bind fun t242 => (if t242 ≤ 100 then ((emendateref30_Size.f k d2.f0 d2.f1).bind fun t243 => (if t243 ≤ 100 then ((emendateref30_Size.f k d3.f0 d3.f1).bind fun t244 => (some (decide (t244 ≤ 100)))) else (some false))) else (some false))) b by
      obtain ⟨b, h⟩ := h
      exact ⟨b, (Ev.bind (G := fun k t => if t = true then _ else some false) eb h).mp (fun k => rfl), fun _ => hs⟩
    by_cases c1 : z1 ≤ 100
    · by_cases c2 : z2 ≤ 100
      · exact ⟨_, Ev.bind (G := fun k t242 => if t242 ≤ 100 then _ else some false) e1 (Ev.mp (Ev.bind (G := fun k t243 => if t243 ≤ 100 then _ else some false) e2 (Ev.mp (Ev.bind (G := fun k t244 => some (decide (t244 ≤ 100))) e3 (Ev.const _)) (fun k => if_pos c2))) (fun k => if_pos c1))⟩
      · exact ⟨false, Ev.bind (G := fun k t242 => if t242 ≤ 100 then _ else some false) e1 (Ev.mp (Ev.bind (G := fun k t243 => if t243 ≤ 100 then _ else some false) e2 (Ev.mp (Ev.const false) (fun k => if_neg c2))) (fun k => if_pos c1))⟩
    · exact ⟨false, Ev.bind (G := fun k t242 => if t242 ≤ 100 then _ else some false) e1 (Ev.mp (Ev.const false) (fun k => if_neg c1))⟩
end
theorem Ev.join {α β : Type} {f : Nat → Option α} {g : Nat → Option β} {a : α} {b : β} (h : Ev f a) (k : Ev g b) : ∃ K, f K = some a ∧ g K = some b := by
  obtain ⟨K, hK⟩ := h
  obtain ⟨L, hL⟩ := k
  exact ⟨K + L, hK _ (by omega), hL _ (by omega)⟩
end Go.Proofs.Ytamimodkcbbpmaa.Pr
end
section
/- Equal tells whether two derivations are the same; the law TotalOrder as plain Lean. -/
namespace Go.Proofs.Ytamimodkcbbpmaa.Pr
open Go.RowKit Go.Proofs.YtamimodkcbbpmaaW.PrintWords Go.Proofs.YtamimodkcbbpmaaW.PrintLast
set_option linter.unusedVariables false
set_option linter.unusedSimpArgs false
theorem loop_Equal (a b : S27) (hl : a.f1.length = b.f1.length) (hb : a.f1.length ≤ 9223372036854775807)
    (hk : ∀ j, j < a.f1.length → ∃ r, Ev (fun k => emendateref30_Equal.f k (a.f1.getD j z27).f0 (a.f1.getD j z27).f1 (b.f1.getD j z27).f0 (b.f1.getD j z27).f1) r ∧ (r = true ↔ a.f1.getD j z27 = b.f1.getD j z27)) :
    ∀ m i, i + m = a.f1.length → ∃ r, Ev (fun k => emendateref30_Equal.l0 k (i : Int) a.f0 a.f1 b.f0 b.f1) r ∧ (r = true ↔ ∀ j, i ≤ j → j < a.f1.length → a.f1.getD j z27 = b.f1.getD j z27)
  | 0, i, hi => by
    refine ⟨true, (Ev.const true).succ (fun k => ?_), ⟨fun _ j h2 h3 => absurd h3 (by omega), fun _ => rfl⟩⟩
    show emendateref30_Equal.l0 (k + 1) _ _ _ _ _ = _
    rw [emendateref30_Equal.l0, if_neg (by omega)]
  | m + 1, i, hi => by
    obtain ⟨r1, ea, hr1⟩ := hk i (by omega)
    cases r1 with
    | false =>
      refine ⟨false, (Ev.bind (G := fun k t => if t = true then emendateref30_Equal.l0 k ((i + 1 : Nat) : Int) a.f0 a.f1 b.f0 b.f1 else some false) ea (Ev.const false)).succ (fun k => ?_), ⟨fun h => (by cases h), fun h => hr1.2 (h i (Nat.le_refl _) (by omega))⟩⟩
      show emendateref30_Equal.l0 (k + 1) _ _ _ _ _ = _
      rw [emendateref30_Equal.l0, if_pos (by omega), if_pos (by omega), if_pos (by omega), w64 i (by omega)]
      rfl
    | true =>
      obtain ⟨r, ec, hr⟩ := loop_Equal a b hl hb hk m (i + 1) (by omega)
      refine ⟨r, (Ev.bind (G := fun k t => if t = true then emendateref30_Equal.l0 k ((i + 1 : Nat) : Int) a.f0 a.f1 b.f0 b.f1 else some false) ea ec).succ (fun k => ?_), ⟨fun h j h2 h3 => ?_, fun h => hr.2 (fun j h2 h3 => h j (by omega) h3)⟩⟩
      · show emendateref30_Equal.l0 (k + 1) _ _ _ _ _ = _
        rw [emendateref30_Equal.l0, if_pos (by omega), if_pos (by omega), if_pos (by omega), w64 i (by omega)]
        rfl
      · by_cases hj : j = i
        · subst hj; exact hr1.1 rfl
        · exact hr.1 h j (by omega) h3
theorem list_ext_getD (l m : List S27) (hl : l.length = m.length) (h : ∀ j, j < l.length → l.getD j z27 = m.getD j z27) : l = m := by
  refine List.ext_getElem hl (fun i h1 h2 => ?_)
  have := h i h1
  simp only [List.getD_eq_getElem?_getD, List.getElem?_eq_getElem h1, List.getElem?_eq_getElem h2, Option.getD_some] at this
  exact this
/-- What Equal tells. -/
theorem ev_Equal {a : S27} (fa : Fits27 a) : ∀ b, ∃ r, Ev (fun k => emendateref30_Equal.f k a.f0 a.f1 b.f0 b.f1) r ∧ (r = true ↔ a = b) := by
  induction fa with
  | mk a _ hl _ ih =>
    intro b
    by_cases h1 : a.f0 = b.f0
    · by_cases h2 : a.f1.length = b.f1.length
      · obtain ⟨r, ea, hr⟩ := loop_Equal a b h2 hl (fun j hj => ih _ (getD_mem _ _ _ hj) _) a.f1.length 0 (by omega)
        have hne : ((a.f1.length : Int) != (b.f1.length : Int)) = false := by rw [bne_eq_false_iff_eq]; omega
        refine ⟨r, Ev.succ (g := fun k => emendateref30_Equal.j0 k false a.f0 a.f1 b.f0 b.f1) (Ev.succ (g := fun k => emendateref30_Equal.j1 k a.f0 a.f1 b.f0 b.f1) (ea.succ (fun k => ?_)) (fun k => ?_)) (fun k => ?_), hr.trans ⟨fun h => ?_, fun h j _ _ => by rw [h]⟩⟩
        · rw [emendateref30_Equal.j1]; rfl
        · rw [emendateref30_Equal.j0, if_neg (by decide)]
        · rw [emendateref30_Equal.f, if_pos h1, hne]
        · have h3 := list_ext_getD a.f1 b.f1 h2 (fun j hj => h j (Nat.zero_le _) hj)
          obtain ⟨x, xs⟩ := a
          obtain ⟨y, ys⟩ := b
          simp only at h1 h3
          rw [h1, h3]
      · have hne : ((a.f1.length : Int) != (b.f1.length : Int)) = true := by rw [bne_iff_ne]; omega
        refine ⟨false, Ev.succ (g := fun k => emendateref30_Equal.j0 k true a.f0 a.f1 b.f0 b.f1) ((Ev.const false).succ (fun k => ?_)) (fun k => ?_), ⟨fun h => (by cases h), fun h => absurd (by rw [h]) h2⟩⟩
        · rw [emendateref30_Equal.j0, if_pos rfl]
        · rw [emendateref30_Equal.f, if_pos h1, hne]
    · refine ⟨false, Ev.succ (g := fun k => emendateref30_Equal.j0 k true a.f0 a.f1 b.f0 b.f1) ((Ev.const false).succ (fun k => ?_)) (fun k => ?_), ⟨fun h => (by cases h), fun h => absurd (by rw [h]) h1⟩⟩
      · rw [emendateref30_Equal.j0, if_pos rfl]
      · rw [emendateref30_Equal.f, if_neg h1]
/-- The law TotalOrder. -/
theorem lawC_true (n : Int) (l : List S54) (r : Int) (d1 d2 d3 : S27) (hl : l.length ≤ 9223372036854775807) (hf : ∀ e, e ∈ l → Fits54 e) (f1 : Fits27 d1) (f2 : Fits27 d2) (f3 : Fits27 d3) :
    ∃ KK, ∃ bf va vb vc : Bool, emendatelaw30_fair.f KK n l r d1.f0 d1.f1 d2.f0 d2.f1 d3.f0 d3.f1 = some bf ∧
      (bf = true → emendateref30_Valid.f KK n l r d1.f0 d1.f1 = some va) ∧ (bf = true → emendateref30_Valid.f KK n l r d2.f0 d2.f1 = some vb) ∧ (bf = true → emendateref30_Valid.f KK n l r d3.f0 d3.f1 = some vc) ∧
      (bf = true → va = true → vb = true → vc = true → ∃ (p q s t : Int) (eq : Bool), derivation_Compare.f KK n l d1.f0 d1.f1 d2.f0 d2.f1 = some p ∧ derivation_Compare.f KK n l d2.f0 d2.f1 d1.f0 d1.f1 = some q ∧ derivation_Compare.f KK n l d2.f0 d2.f1 d3.f0 d3.f1 = some s ∧ derivation_Compare.f KK n l d1.f0 d1.f1 d3.f0 d3.f1 = some t ∧ emendateref30_Equal.f KK d1.f0 d1.f1 d2.f0 d2.f1 = some eq ∧
        ((p = -1 ∧ q = 1 ∧ eq = false) ∨ (p = 0 ∧ q = 0 ∧ eq = true) ∨ (p = 1 ∧ q = -1 ∧ eq = false)) ∧ (p > 0 ∨ s > 0 ∨ t ≤ 0)) := by
  obtain ⟨bf, ⟨K0, hK0⟩, hb⟩ := ev_fair n l hl (fun e he => (hf e he).len) r f1 f2 f3
  cases bf with
  | false => exact ⟨K0, false, false, false, false, hK0 K0 (Nat.le_refl _), fun h => (by cases h), fun h => (by cases h), fun h => (by cases h), fun h => (by cases h)⟩
  | true =>
    have hs := (hb rfl).small
    have hta : ∀ e, e ∈ l → e.f1.length ≤ 1000000 := fun e he => by have := hs.ta e he; omega
    obtain ⟨va, _, ⟨K1, hK1⟩, hva⟩ := both_Valid n l d1 f1 r
    obtain ⟨vb, _, ⟨K2, hK2⟩, hvb⟩ := both_Valid n l d2 f2 r
    obtain ⟨vc, _, ⟨K3, hK3⟩, hvc⟩ := both_Valid n l d3 f3 r
    by_cases hall : va = true ∧ vb = true ∧ vc = true
    · have v1 := hva.1 hall.1
      have v2 := hvb.1 hall.2.1
      have v3 := hvc.1 hall.2.2
      obtain ⟨K4, hK4⟩ := ev_Compare n l hs.co hta f1 r d2 v1 v2
      obtain ⟨K5, hK5⟩ := ev_Compare n l hs.co hta f2 r d1 v2 v1
      obtain ⟨K6, hK6⟩ := ev_Compare n l hs.co hta f2 r d3 v2 v3
      obtain ⟨K7, hK7⟩ := ev_Compare n l hs.co hta f1 r d3 v1 v3
      obtain ⟨eq, ⟨K8, hK8⟩, heq⟩ := ev_Equal f1 d2
      have o := ord_all (es := l) f1 r d2 v1 v2
      have o1 := o.anti
      have o2 := o.rng
      have o3 := o.zero
      refine ⟨K0 + K1 + K2 + K3 + K4 + K5 + K6 + K7 + K8, true, va, vb, vc, hK0 _ (by omega), fun _ => hK1 _ (by omega), fun _ => hK2 _ (by omega), fun _ => hK3 _ (by omega), fun _ _ _ _ => ⟨_, _, _, _, eq, hK4 _ (by omega), hK5 _ (by omega), hK6 _ (by omega), hK7 _ (by omega), hK8 _ (by omega), ?_, ?_⟩⟩
      · by_cases hz : cmpT l d1 d2 = 0
        · exact Or.inr (Or.inl ⟨hz, by omega, heq.2 (o3.1 hz)⟩)
        · have he : eq = false := Bool.eq_false_iff.2 (fun h => hz (o3.2 (heq.1 h)))
          by_cases hp : cmpT l d1 d2 < 0
          · exact Or.inl ⟨by omega, by omega, he⟩
          · exact Or.inr (Or.inr ⟨by omega, by omega, he⟩)
      · by_cases hp : cmpT l d1 d2 > 0
        · exact Or.inl hp
        · by_cases hq : cmpT l d2 d3 > 0
          · exact Or.inr (Or.inl hq)
          · exact Or.inr (Or.inr (trans_all f1 r d2 d3 f2 f3 v1 v2 v3 (by omega) (by omega)))
    · exact ⟨K0 + K1 + K2 + K3, true, va, vb, vc, hK0 _ (by omega), fun _ => hK1 _ (by omega), fun _ => hK2 _ (by omega), fun _ => hK3 _ (by omega), fun _ ha hb hc => absurd ⟨ha, hb, hc⟩ hall⟩
end Go.Proofs.Ytamimodkcbbpmaa.Pr
end
section
/- The law TotalOrder of chapter 30: walk and plain law joined. -/
namespace Go.Proofs.Ytamimodkcbbpmaa.Pr
open Go.RowKit Go.Proofs.YtamimodkcbbpmaaW.PrintWords Go.Proofs.YtamimodkcbbpmaaW.PrintLast
theorem law30C_calls (n : Int) (A : Option Addr) (c : Nat) (l : List S54) (r : Int) (d1 : S27) (A1 : Option Addr) (k1 : Nat) (d2 : S27) (A2 : Option Addr) (k2 : Nat) (d3 : S27) (A3 : Option Addr) (k3 : Nat) (w : World)
    (hC : Kd.C k54 w A l.length l) (hc : l.length ≤ c) (hf : ∀ e, e ∈ l → Fits54 e) (hC1 : Kd.C k27 w A1 d1.f1.length d1.f1) (hc1 : d1.f1.length ≤ k1) (f1 : Fits27 d1) (hC2 : Kd.C k27 w A2 d2.f1.length d2.f1) (hc2 : d2.f1.length ≤ k2) (f2 : Fits27 d2) (hC3 : Kd.C k27 w A3 d3.f1.length d3.f1) (hc3 : d3.f1.length ≤ k3) (f3 : Fits27 d3) :
    Calls Try.prog 5 #[.agg #[.int .i64 n, .slice A l.length c, .int .i64 r, .int .i64 d1.f0, .slice A1 d1.f1.length k1, .int .i64 d2.f0, .slice A2 d2.f1.length k2, .int .i64 d3.f0, .slice A3 d3.f1.length k3]] w fun e w' => e = .returned (.bool true) ∧ Below w.heap.size w w' := by
  obtain ⟨K, bf, va, vb, vc, h1, h2, h3, h4, h5⟩ := lawC_true n l r d1 d2 d3 hC.2.1 hf f1 f2 f3
  exact lawC_calls K n A c l r d1 A1 k1 d2 A2 k2 d3 A3 k3 w hC hc hC1 hc1 hC2 hc2 hC3 hc3 bf va vb vc h1 h2 h3 h4 h5
end Go.Proofs.Ytamimodkcbbpmaa.Pr
end
