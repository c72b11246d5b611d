/- LJ F54 TV F46 XParse0 XParse F86 F53 XAwake38 TS XEq: a part of the proof of the row of a; no conditions. -/
import Derived.Test.YtamimodkcbbpmaaG3
import Derived.Test.YtamimodkcbbpmaaG7
import Derived.Test.YtamimodkcbbpmaaG2
import Derived.Test.YtamimodkcbbpmaaG6
import Derived.Laws.EntriesVeiled
import Derived.Test.YtamimodkcbbpmaaG5
section
namespace Go.Proofs.Ytamimodkcbbpmaa.Pr
open Go.RowKit Go.Proofs.YtamimodkcbbpmaaW.PrintWords Go.Proofs.YtamimodkcbbpmaaW.PrintLast
set_option linter.unusedVariables false
set_option linter.unusedSimpArgs false
theorem dU.eta' (d : dU) : (⟨d.f0, d.f1⟩ : dU) = d := by cases d; rfl
theorem abt (m : Nat) (P : Nat → dU → Prop) (h : ∀ j, j < m → ∃ d, P j d) : ∃ l : List dU, l.length = m ∧ ∀ j, j < m → P j (l.getD j z27) := by
 induction m with
 | zero => exact ⟨[], rfl, fun j hj => absurd hj (by omega)⟩
 | succ m ih =>
  obtain ⟨l, hl, hP⟩ := ih (fun j hj => h j (by omega));obtain ⟨d, hd⟩ := h m (by omega);refine ⟨l ++ [d], by rw [List.length_append, hl]; rfl, fun j hj => ?_⟩;by_cases hjm : j = m
  ·subst hjm;have e : (l ++ [d]).getD j z27 = d := by simp [List.getD_eq_getElem?_getD, List.getElem?_append, hl]
   rw [e];exact hd
  ·have e : (l ++ [d]).getD j z27 = l.getD j z27 := by
    rw [List.getD_eq_getElem?_getD, List.getElem?_append_left (by omega), List.getD_eq_getElem?_getD]
   rw [e];exact hP j (by omega)
inductive BD (es : List dO) (ed : List Int) : Int → dU → Prop
 | mk (v : Int) (d : dU) (h0 : 0 ≤ v) (h1 : v < (ed.length : Int)) (he : d.f0 = rd ed v) (h2 : 0 ≤ d.f0) (h3 : d.f0 < (es.length : Int)) (hl : d.f1.length = (aj es d.f0).f1.length) (hk : ∀ j, j < d.f1.length → BD es ed ((aj es d.f0).f1.getD j 0) (d.f1.getD j z27)) : BD es ed v d
theorem BD.inv {es : List dO} {ed : List Int} {v : Int} {d : dU} (h : BD es ed v d) : (0 ≤ v ∧ v < (ed.length : Int)) ∧ d.f0 = rd ed v ∧ (0 ≤ d.f0 ∧ d.f0 < (es.length : Int)) ∧ d.f1.length = (aj es d.f0).f1.length ∧ ∀ j, j < d.f1.length → BD es ed ((aj es d.f0).f1.getD j 0) (d.f1.getD j z27) := by
 cases h with
 | mk _ _ h0 h1 he h2 h3 hl hk => exact ⟨⟨h0, h1⟩, he, ⟨h2, h3⟩, hl, hk⟩
structure aBe (n : Int) (es : List dO) : Prop where
 n1 : 1 ≤ n
 n2 : n ≤ 1000
 len : es.length ≤ 1000
 ok : zt n.toNat es
 co : zO es
 ta : ∀ e, e ∈ es → e.f1.length ≤ 100
section
variable {n : Int} {es : List dO}
theorem aBe.UZ (h : aBe n es) : Pe n.toNat es (jy n.toNat es) := Gj h.co h.ok h.ta h.len
theorem aBe.chosen (h : aBe n es) : zP n.toNat es (jy n.toNat es) es.length (xL n.toNat es) := Ez h.co h.ok h.ta h.len
theorem aBe.aeS (h : aBe n es) (k : Nat) (hk : k < es.length) : ∀ v, v ∈ tailV (jy n.toNat es) (aj es (k : Int)).f1 → okV v :=
 nN h.UZ.ok (fun t ht => by rw [h.UZ.len]; exact (jb h.ok (k : Int) (by omega) (by omega)).2.1 t ht)
theorem aBe.valid (h : aBe n es) : jJ n es = true := by
 have h1 := h.n1;have h2 := h.n2;have e : jJ n es = ((decide (1 ≤ n) && decide (n ≤ 1048576)) && es.all (edgeOk n)) := rfl;rw [e, decide_eq_true h1, decide_eq_true (show n ≤ 1048576 by omega), Bool.true_and, Bool.true_and, List.all_eq_true];intro x hx;have h4 := h.ok x hx;have h5 := h.co x hx;unfold edgeOk AB;simp only [Bool.and_eq_true, decide_eq_true_eq, List.all_eq_true];exact ⟨⟨by have := h4.1; omega, h5⟩, fun t ht => by have := h4.2.1 t ht; omega⟩
theorem aBe.solve (h : aBe n es) : kH.f n es = some (jy n.toNat es, xL n.toNat es) := by
 have h1 := h.n1;unfold kH.f;rw [if_pos ((EI n es).2 ⟨by omega, h.n2, h.len, fun e he => ?_⟩)];have h4 := h.ok e he;exact ⟨by have := h4.1; omega, fun t ht => by have := h4.2.1 t ht; omega, h.ta e he⟩
theorem zT (h : aBe n es) (k t : Nat) (hk : k < es.length) (ht : t < n.toNat) (hT : aKR es (jy n.toNat es) k (t : Int)) (hsz : (bJ (jy n.toNat es) (t : Int)).f1 < 1099511627776) :
  (1 ≤ (bJ (jy n.toNat es) (t : Int)).f1 ∧ ∀ j, j < (aj es (k : Int)).f1.length → (bJ (jy n.toNat es) ((aj es (k : Int)).f1.getD j 0)).f0 < 1099511627776 ∧ (bJ (jy n.toNat es) ((aj es (k : Int)).f1.getD j 0)).f1 < (bJ (jy n.toNat es) (t : Int)).f1) ∧
   (bJ (jy n.toNat es) (t : Int)).f0 = (aj es (k : Int)).f2 + Mg (tailV (jy n.toNat es) (aj es (k : Int)).f1) ∧ (bJ (jy n.toNat es) (t : Int)).f1 = 1 + UY (tailV (jy n.toNat es) (aj es (k : Int)).f1) := by
 have TN := h.aeS k hk;have hc := nM h.co k hk;have hfin := hT.2.1;have e := hT.2.2;have hp := zM _ TN;unfold kV at e;rw [si _ _ hc.1 TN] at e;split at e
 ·rw [← e] at hfin;exact absurd hfin (by decide)
 ·rename_i hlt
  have e1 : min (1 + UY (tailV (jy n.toNat es) (aj es (k : Int)).f1)) 1099511627776 = (bJ (jy n.toNat es) (t : Int)).f1 := by rw [← e]
  have e0 : (aj es (k : Int)).f2 + Mg (tailV (jy n.toNat es) (aj es (k : Int)).f1) = (bJ (jy n.toNat es) (t : Int)).f0 := by rw [← e]
  refine ⟨⟨by omega, fun j hj => ?_⟩, e0.symm, by omega⟩;have h1 := Fa _ j (by rw [eY]; exact hj) TN;rw [kM _ _ _ hj] at h1;omega
theorem LH (h : aBe n es) (k : Nat) (hk : k < es.length) (ws : List dK) (hl : ws.length = (aj es (k : Int)).f1.length) (hw : ∀ j, j < ws.length → JC es ((aj es (k : Int)).f1.getD j 0) (ws.getD j z34)) (t : Int) (hh : (aj es (k : Int)).f0 = t)
  (e : aqp (aj es (k : Int)).f2 ws = bJ (jy n.toNat es) t) (hfin : (bJ (jy n.toNat es) t).f0 < 1099511627776) : aKR es (jy n.toNat es) k t := by
 refine ⟨hh, hfin, oV.antisymm ?_ ?_⟩
 ·rw [← e];refine zN _ _ _ (nM h.co k hk).1 (h.aeS k hk) (lN ws z34 (fun j hj => (hw j hj).ok h.co)) (by rw [eY, hl]) (fun j hj => ?_);rw [eY] at hj;rw [kM _ _ _ hj];exact h.UZ.lower h.co h.ok (hw j (by omega))
 ·rw [← hh];exact h.UZ.fix k hk
theorem JC.inv {t : Int} {v : dK} (h : JC es t v) : ∃ (k : Nat) (ws : List dK), k < es.length ∧ (aj es (k : Int)).f0 = t ∧ aqp (aj es (k : Int)).f2 ws = v ∧ ws.length = (aj es (k : Int)).f1.length ∧ ∀ j, j < ws.length → JC es ((aj es (k : Int)).f1.getD j 0) (ws.getD j z34) := by
 cases h with
 | mk k hk vs hl hd => exact ⟨k, vs, hk, rfl, rfl, hl, hd⟩
theorem LJ (h : aBe n es) (t : Nat) (ht : t < n.toNat) (hfin : (bJ (jy n.toNat es) (t : Int)).f0 < 1099511627776) : ∃ k, k < es.length ∧ aKR es (jy n.toNat es) k (t : Int) := by
 rcases h.UZ.att t ht with h1 | h1
 ·rw [h1] at hfin;exact absurd hfin (by decide)
 ·obtain ⟨k, ws, hk, hh, e, hl, hw⟩ := h1.inv;exact ⟨k, hk, LH h k hk ws hl hw _ hh e hfin⟩
theorem BD.ex (h : aBe n es) (B : Int) (hB : B = 1099511627776) : ∀ (s t : Nat), (s : Int) < B → t < n.toNat → (bJ (jy n.toNat es) (t : Int)).f0 < 1099511627776 → (bJ (jy n.toNat es) (t : Int)).f1 ≤ (s : Int) → ∃ d, BD es (xL n.toNat es) (t : Int) d
 | 0, t, hb, ht, hfin, hs => by
  obtain ⟨k, hk, hT⟩ := LJ h t ht hfin;have := (zT h k t hk ht hT (by omega)).1.1;omega
 | s + 1, t, hb, ht, hfin, hs => by
  rcases h.chosen.ch t ht with ⟨_, hno⟩ | ⟨k, hk, hed, hT, _⟩
  ·obtain ⟨k, hk, hT⟩ := LJ h t ht hfin;exact absurd hT (hno k hk)
  ·have zC := jb h.ok (k : Int) (by omega) (by omega);obtain ⟨⟨_, htt⟩, _⟩ := zT h k t hk ht hT (by omega);obtain ⟨l, hl, hP⟩ := abt (aj es (k : Int)).f1.length (fun j d => BD es (xL n.toNat es) ((aj es (k : Int)).f1.getD j 0) d) (fun j hj => by
    have hm := zC.2.1 _ (ib (aj es (k : Int)).f1 j 0 hj);obtain ⟨u, hu⟩ : ∃ u : Nat, (aj es (k : Int)).f1.getD j 0 = (u : Int) := ⟨((aj es (k : Int)).f1.getD j 0).toNat, by omega⟩;have h1 := htt j hj;rw [hu] at hm h1 ⊢;exact BD.ex h B hB s u (by omega) (by omega) h1.1 (by omega))
   have hlen := h.chosen.len;refine ⟨⟨(k : Int), l⟩, BD.mk _ _ (by omega) (by omega) ?_ (show (0 : Int) ≤ (k : Int) by omega) (show (k : Int) < (es.length : Int) by omega) hl (fun j hj => hP j (by rw [← hl]; exact hj))⟩;show (k : Int) = rd (xL n.toNat es) (t : Int);unfold rd;rw [Int.toNat_natCast, hed]
theorem BD.fin (h : aBe n es) {t : Nat} (ht : t < n.toNat) (hfin : (bJ (jy n.toNat es) (t : Int)).f0 < 1099511627776) (hsz : (bJ (jy n.toNat es) (t : Int)).f1 < 1099511627776) : ∃ d, BD es (xL n.toNat es) (t : Int) d := by
 have hok := h.UZ.ok _ (AA (jy n.toNat es) (t : Int) (by omega) (by rw [h.UZ.len]; omega));have := hok.c;exact BD.ex h _ rfl (bJ (jy n.toNat es) (t : Int)).f1.toNat t (by omega) ht hfin (by omega)
theorem BD.top (h : aBe n es) {t : Nat} {d : dU} (hb : BD es (xL n.toNat es) (t : Int) d) : ∃ k : Nat, d.f0 = (k : Int) ∧ k < es.length ∧ t < n.toNat ∧ aKR es (jy n.toNat es) k (t : Int) := by
 obtain ⟨⟨h0, h1⟩, he, ⟨h2, h3⟩, _⟩ := hb.inv;have hlen := h.chosen.len;have ht : t < n.toNat := by omega
 unfold rd at he;rw [Int.toNat_natCast] at he;rcases h.chosen.ch t ht with ⟨e, _⟩ | ⟨k, hk, e, hT, _⟩
 ·rw [e] at he; omega
 ·exact ⟨k, by rw [he, e], hk, ht, hT⟩
end
section
variable (n : Int) (es : List dO)
theorem EK (ed : List Int) (d : dU) (h0 : 0 ≤ d.f0) (h1 : d.f0 < (es.length : Int)) (hs : d.f1.length ≤ 1000000) (hl : d.f1.length = (aj es d.f0).f1.length)
  (hk : ∀ j, j < d.f1.length → Ev (fun k => aV.f k n es ed ((aj es d.f0).f1.getD j 0)) ((d.f1.getD j z27).f0, (d.f1.getD j z27).f1)) :
  ∀ m i, i + m = d.f1.length → Ev (fun k => aV.l0 k ed (aj es d.f0).f1 ((aj es d.f0).f1.length : Int) (i : Int) n es d.f0 (d.f1.take i)) (d.f0, d.f1)
 | 0, i, hi => by
  have hi2 : i = d.f1.length := by omega
  rw [hi2, List.take_length];refine (Ev.const _).succ (fun k => ?_);show aV.l0 (k + 1) _ _ _ _ _ _ _ _ = _;rw [aV.l0, if_neg (by omega)]
 | m + 1, i, hi => by
  have ea := hk i (by omega);have hw := RY i (by omega);have ec := EK ed d h0 h1 hs hl hk m (i + 1) (by omega);rw [ayo z27 d.f1 i (by omega)] at ec;have hal : (d.f1.take i).length < 4398046511104 := by rw [List.length_take]; omega
  have hrd : rd (aj es d.f0).f1 (i : Int) = (aj es d.f0).f1.getD i 0 := rfl;refine (Ev.bind (G := fun k t => if (d.f1.take i).length < 4398046511104 then aV.l0 k ed (aj es d.f0).f1 ((aj es d.f0).f1.length : Int) ((i + 1 : Nat) : Int) n es d.f0 (d.f1.take i ++ [(⟨t.1, t.2⟩ : dU)]) else none) ea (Ev.mp ec (fun k => by rw [if_pos hal, dU.eta']))).succ (fun k => ?_);show aV.l0 (k + 1) _ _ _ _ _ _ _ _ = _;rw [aV.l0, if_pos (by omega), if_pos (by omega), if_pos (by omega), hw, hrd]
theorem Rz (Qn : ∀ e, e ∈ es → e.f1.length ≤ 1000000) {ed : List Int} {v : Int} {d : dU} (h : BD es ed v d) : Ev (fun k => aV.f k n es ed v) (d.f0, d.f1) := by
 induction h with
 | mk v d h0 h1 he h2 h3 hl hk ih =>
  have hs : (aj es d.f0).f1.length ≤ 1000000 := by
   refine Qn _ ?_;simp only [aj];exact ib _ _ _ (by omega)
  have ea := EK n es ed d h2 h3 (by omega) hl ih d.f1.length 0 (by omega);rw [List.take_zero] at ea;refine ea.succ (fun k => ?_);show aV.f (k + 1) _ _ _ _ = _;rw [aV.f, if_pos h0, if_pos h1, ← he, if_pos h2, if_pos h3];rfl
theorem Qo (h : aBe n es) (r : Int) (h0 : 0 ≤ r) (h1 : r < n) {x : Int × List dU × Int} (hx : Ev (fun k => if (bJ (jy n.toNat es) r).f0 ≥ 1099511627776 then some (0, [], 6) else (aV.f k n es (xL n.toNat es) r).bind fun b => some (b.1, b.2, 0)) x) : Ev (fun k => bA.f k n es r) x := by
 have hl := h.UZ.len;have h2 : Ev (fun k => bA.j0 k r n es) x := hx.succ (fun k => by
  rw [bA.j0, h.solve, Option.bind_some, if_pos h0, if_pos (show r < ((jy n.toNat es).length : Int) by omega)])
 exact h2.mp (fun k => by
  unfold bA.f fA.f;rw [h.valid, Option.bind_some, if_pos rfl, if_neg (by omega), if_neg (by omega)])
theorem RA (h : aBe n es) (r : Int) (h0 : 0 ≤ r) (h1 : r < n) (hi : 1099511627776 ≤ (bJ (jy n.toNat es) r).f0) : Ev (fun k => bA.f k n es r) (0, [], 6) :=
 Qo n es h r h0 h1 ((Ev.const _).mp (fun k => if_pos hi))
theorem RB (h : aBe n es) (r : Int) (h0 : 0 ≤ r) (h1 : r < n) (hi : (bJ (jy n.toNat es) r).f0 < 1099511627776) {d : dU} (hb : BD es (xL n.toNat es) r d) : Ev (fun k => bA.f k n es r) (d.f0, d.f1, 0) := by
 refine Qo n es h r h0 h1 ?_;have h2 := Rz n es (fun e he => by have := h.ta e he; omega) hb;exact (Ev.bind (G := fun k b => some (b.1, b.2, 0)) h2 (Ev.const _)).mp (fun k => if_neg (by omega))
end
end Go.Proofs.Ytamimodkcbbpmaa.Pr
end
section
namespace Go.Proofs.Ytamimodkcbbpmaa.Pr
open Go.RowKit Go.Proofs.YtamimodkcbbpmaaW.PrintWords Go.Proofs.YtamimodkcbbpmaaW.PrintLast Go.Proofs.YtamimodkcbbpmaaW.PrintMore Go.Proofs.YtamimodkcbbpmaaXW
attribute [local go_sem] aFh ky lX lY jf jg kz kC
set_option linter.unusedVariables false
set_option linter.unusedSimpArgs false
mutual
def nL.j0 : Nat → List Int → Bool → Int → Int → Int → List (KH) → Option (Bool)
 | 0, _, _, _, _, _, _ => none
 | k + 1, x1, x15, aOi, aOj, aOk, aOl => if x15 = true then (some false) else (nL.j1 k x1 aOi aOj aOk aOl)
def nL.j1 : Nat → List Int → Int → Int → Int → List (KH) → Option (Bool)
 | 0, _, _, _, _, _ => none
 | k + 1, x1, aOi, aOj, aOk, aOl => (H5.f k aOi aOj aOk aOl x1).bind fun aMv => (nL.l0 k aMv 0)
def nL.l0 : Nat → List (dK) → Int → Option (Bool)
 | 0, _, _ => none
 | k + 1, x5, x6 => if x6 < (x5.length : Int) then (if 0 ≤ x6 then (if ((bJ x5 x6).f1) > 1000 then (some false) else (nL.l0 k x5 (wrap64 (x6 + 1)))) else (none)) else (some true)
end
def nL.f (k : Nat) (aR : Int) (iR : Int) (vX : Int) (kv : List (KH)) (l1 : List Int) : Option (Bool) := (rX.f k aR iR vX kv).bind fun aNO => (if aNO = true then ((aqe.f k aR iR vX kv l1).bind fun aKD => (nL.j0 k l1 (!aKD) aR iR vX kv)) else (nL.j0 k l1 true aR iR vX kv))
theorem nL.apw : ∀ k, (∀ y0 y1 y2 y3 y4 y5, dz (nL.j0 k y0 y1 y2 y3 y4 y5) (nL.j0 (k + 1) y0 y1 y2 y3 y4 y5)) ∧ (∀ y0 y1 y2 y3 y4, dz (nL.j1 k y0 y1 y2 y3 y4) (nL.j1 (k + 1) y0 y1 y2 y3 y4)) ∧ (∀ y0 y1, dz (nL.l0 k y0 y1) (nL.l0 (k + 1) y0 y1))
 | 0 => ⟨fun _ _ _ _ _ _ r h => by simp [nL.j0] at h, fun _ _ _ _ _ r h => by simp [nL.j1] at h, fun _ _ r h => by simp [nL.l0] at h⟩
 | k + 1 => by
  obtain ⟨jP, ih1, ih2⟩ := nL.apw k;refine ⟨?_, ?_, ?_⟩;all_goals intros
  all_goals first | unfold nL.j0 | unfold nL.j1 | unfold nL.l0
  all_goals
   repeat' first
   | (with_reducible exact jP _ _ _ _ _ _)
   | (with_reducible exact ih1 _ _ _ _ _)
   | (with_reducible exact ih2 _ _)
   | (with_reducible exact rX.mono _ _ _ _ _)
   | (with_reducible exact aqe.mono _ _ _ _ _ _)
   | (with_reducible exact H5.mono _ _ _ _ _ _)
   | (with_reducible exact dz.refl _)
   | (with_reducible exact dz.none _)
   | (with_reducible refine dz.ite ?_ ?_)
   | (with_reducible refine dz.bind ?_ (fun _ => ?_))
   | exact jP _ _ _ _ _ _
   | exact ih1 _ _ _ _ _
   | exact ih2 _ _
   | exact rX.mono _ _ _ _ _
   | exact aqe.mono _ _ _ _ _ _
   | exact H5.mono _ _ _ _ _ _
   | exact dz.none _
   | refine dz.ite ?_ ?_
   | refine dz.bind ?_ (fun _ => ?_)
theorem nL.mono : ∀ a0 a1 a2 a3 a4 k, dz (nL.f k a0 a1 a2 a3 a4) (nL.f (k + 1) a0 a1 a2 a3 a4) := by
 intro a0 a1 a2 a3 a4 k;obtain ⟨jP, ih1, ih2⟩ := nL.apw k;unfold nL.f;repeat' first
   | (with_reducible exact jP _ _ _ _ _ _)
   | (with_reducible exact ih1 _ _ _ _ _)
   | (with_reducible exact ih2 _ _)
   | (with_reducible exact rX.mono _ _ _ _ _)
   | (with_reducible exact aqe.mono _ _ _ _ _ _)
   | (with_reducible exact H5.mono _ _ _ _ _ _)
   | (with_reducible exact dz.refl _)
   | (with_reducible exact dz.none _)
   | (with_reducible refine dz.ite ?_ ?_)
   | (with_reducible refine dz.bind ?_ (fun _ => ?_))
   | exact jP _ _ _ _ _ _
   | exact ih1 _ _ _ _ _
   | exact ih2 _ _
   | exact rX.mono _ _ _ _ _
   | exact aqe.mono _ _ _ _ _ _
   | exact H5.mono _ _ _ _ _ _
   | exact dz.none _
   | refine dz.ite ?_ ?_
   | refine dz.bind ?_ (fun _ => ?_)
set_option maxHeartbeats 8000000 in
set_option maxRecDepth 100000 in
theorem nL.calls (k : Nat) (aR : Int) (iR : Int) (vX : Int) (aps : Option Addr) (ao4 : Nat) (kv : List (KH)) (A1 : Option Addr) (c1 : Nat) (l1 : List Int) (r : Bool) (w : World) (aqy : Kd.C Md w aps kv.length kv) (aqz : kv.length ≤ ao4) (hr1 : Kd.C (Kd.int .i64) w A1 l1.length l1) (hc1 : l1.length ≤ c1) (h : nL.f k aR iR vX kv l1 = some r) :
  Calls Try.prog 54 #[.agg #[.int .i64 aR, .int .i64 iR, .int .i64 vX, .slice aps kv.length ao4], .slice A1 l1.length c1] w fun e w' => e = .returned (.bool r) ∧ Below w.heap.size w w' := by
 have avx := Try.underlying58;have aqx := aa.mk aqy;have aqH := aa.mk aqz;clear aqy aqz;have HR1 := aa.mk hr1;have EY := aa.mk hc1;clear hr1 hc1;have HB := aa.mk (Below.refl w.heap.size w);have H : ((rX.f k aR iR vX kv).bind fun aNO => (if aNO = true then ((aqe.f k aR iR vX kv l1).bind fun aKD => (nL.j0 k l1 (!aKD) aR iR vX kv)) else (nL.j0 k l1 true aR iR vX kv))) = some r := h;clear h;have Uo := aa.mk H;clear H;go_enter Try.func54, Try.ntmps54
 go_upto_region 1 with (first | ((with_reducible refine bM (N := 2) rfl ?_); refine bG ?hg (N := 2) ?hd (cs := #[.int .i64 aR, .int .i64 iR, .int .i64 vX, .slice aps kv.length ao4]) (t := 58) ?hr ?_; (case hd => rfl); (case hg => rfl); (case hr => first | (go_simp; done) | (go_simp; rfl)); intro aKF hg w4 bR hb; have bP := aa.mk (aM (bO HB) hb); have bQ := aa.mk (bR); have bT := aa.mk ((by rw [hg]; exact (aK (bO HB)) : w.heap.size ≤ aKF)); have di := aa.mk ((by rw [hg]; exact (aK (bO HB)) : w.heap.size ≤ aKF)); clear HB; have HB := bP; have aB6 := bQ; have aWr := bT; have aWs := di; clear bP bQ bT di; clear hb bR hg))
 (try simp only [Act.put, List.setIfInBounds_toArray, List.set_cons_zero, List.set_cons_succ]);go_cut [15] (fun v15 wc => ∃ (kq : Nat) (ayi : Bool), v15 = .bool ayi ∧ aa (nL.j0 kq l1 ayi aR iR vX kv = some r) ∧ aa (kq ≤ k) ∧ aa (wc.heap[aKF]? = some (.cells #[.int .i64 aR, .int .i64 iR, .int .i64 vX, (.slice aps kv.length ao4)] 58 (0, 0))) ∧ aa (Below w.heap.size w wc))
 case first =>
  have H := Uo.out;clear Uo;replace H := Option.bind_eq_some_iff.mp H;obtain ⟨aNO, A50, H⟩ := H;replace H : (if aNO = true then ((aqe.f k aR iR vX kv l1).bind fun aKD => (nL.j0 k l1 (!aKD) aR iR vX kv)) else (nL.j0 k l1 true aR iR vX kv)) = some r := H;have A5 := aa.mk A50;clear A50;by_cases c6 : aNO = true
  ·subst c6;have H1 : ((aqe.f k aR iR vX kv l1).bind fun aKD => (nL.j0 k l1 (!aKD) aR iR vX kv)) = some r := by rw [if_pos rfl] at H; exact H
   clear H;have H := H1;clear H1;replace H := Option.bind_eq_some_iff.mp H;obtain ⟨aKD, A70, H⟩ := H;replace H : (nL.j0 k l1 (!aKD) aR iR vX kv) = some r := H;have A7 := aa.mk A70;clear A70;have H' := aa.mk H;clear H;have nG : w4.cell? ⟨aKF, 0, none⟩ = some (.int .i64 aR) := (ae aB6.out 0).trans rfl;have nH : w4.cell? ⟨aKF, 1, none⟩ = some (.int .i64 iR) := (ae aB6.out 1).trans rfl;have axe : w4.cell? ⟨aKF, 2, none⟩ = some (.int .i64 vX) := (ae aB6.out 2).trans rfl;have axf : w4.cell? ⟨aKF, 3, none⟩ = some (.slice aps kv.length ao4) := (ae aB6.out 3).trans rfl;have nI := ai aB6.out 0;have nJ := ai aB6.out 1;have axg := ai aB6.out 2;have axh := ai aB6.out 3;go_wp2_with (first | ((with_reducible refine dE (f := 57) rfl ?_); refine iB (some 8) rfl rfl Try.func57 (by kernel_rfl) rfl #[.agg #[.int .i64 aR, .int .i64 iR, .int .i64 vX, .slice aps kv.length ao4]] rfl (by (try simp only [List.map_toArray, List.map_cons, List.map_nil]); first | done | rfl | (simp only [List.length_drop, List.length_take]; rfl)) ?_; (with_reducible refine (rX.calls k aR iR vX _ _ kv true _ ?side1 ?side2 A5.out).mono ?_); (case side1 => repeat (first | exact (Kd.bF aqx.out HB.out) | (with_reducible refine Kd.dF ?_ _) | (with_reducible refine Kd.dG ?_ _) | (with_reducible refine Kd.eG ?_))); (case side2 => exact aqH.out); rintro e w9 ⟨rfl, hb⟩; refine ⟨_, rfl, ?_⟩; have bP := aa.mk (aC (bk aB6) hb); have bQ := aa.mk (aM (bO HB) hb); clear aB6; clear HB; have aB6 := bP; have HB := bQ; clear bP bQ; (try clear hb); (try clear hb2); (try clear hk); (try clear hi); have qB : w9.cell? ⟨aKF, 0, none⟩ = some (.int .i64 aR) := (ae aB6.out 0).trans rfl; have qC : w9.cell? ⟨aKF, 1, none⟩ = some (.int .i64 iR) := (ae aB6.out 1).trans rfl; have atD : w9.cell? ⟨aKF, 2, none⟩ = some (.int .i64 vX) := (ae aB6.out 2).trans rfl; have atE : w9.cell? ⟨aKF, 3, none⟩ = some (.slice aps kv.length ao4) := (ae aB6.out 3).trans rfl; have qD := ai aB6.out 0; have qE := ai aB6.out 1; have atF := ai aB6.out 2; have atG := ai aB6.out 3) | (go_at_call 58; (with_reducible refine (aqe.calls k aR iR vX _ _ kv _ _ l1 aKD _ ?side1 ?side2 ?side3 ?side4 A7.out).mono ?_); (case side1 => repeat (first | exact (Kd.bF aqx.out HB.out) | (with_reducible refine Kd.dF ?_ _) | (with_reducible refine Kd.dG ?_ _) | (with_reducible refine Kd.eG ?_))); (case side2 => exact aqH.out); (case side3 => repeat (first | exact (Kd.bF HR1.out HB.out) | (with_reducible refine Kd.dF ?_ _) | (with_reducible refine Kd.dG ?_ _) | (with_reducible refine Kd.eG ?_))); (case side4 => exact EY.out); rintro e Me ⟨rfl, hb⟩; have bP := aa.mk (aC (bk aB6) hb); have bQ := aa.mk (aM (bO HB) hb); clear aB6; clear HB; have aB6 := bP; have HB := bQ; clear bP bQ; (try clear hb); (try clear hb2); (try clear hk); (try clear hi)))
   go_meet
   case rel => exact ⟨_, (!aKD), (by first | rfl | (simp; done) | (simp [*]; done)), H', ⟨by first | omega | exact Nat.le_refl _⟩, ⟨by (with_reducible repeat (first | refine ax ?_ _ | refine az ?_ | refine au ?_ _)); exact aB6.out⟩, ⟨bO HB⟩⟩
  ·replace c6 := Bool.eq_false_iff.mpr c6;subst c6;have H1 : (nL.j0 k l1 true aR iR vX kv) = some r := by rw [if_neg (show ¬ (false = true) by decide)] at H; exact H
   clear H;have H := H1;clear H1;have H' := aa.mk H;clear H;have jK : w4.cell? ⟨aKF, 0, none⟩ = some (.int .i64 aR) := (ae aB6.out 0).trans rfl;have jL : w4.cell? ⟨aKF, 1, none⟩ = some (.int .i64 iR) := (ae aB6.out 1).trans rfl;have aAj : w4.cell? ⟨aKF, 2, none⟩ = some (.int .i64 vX) := (ae aB6.out 2).trans rfl;have aAk : w4.cell? ⟨aKF, 3, none⟩ = some (.slice aps kv.length ao4) := (ae aB6.out 3).trans rfl;have jM := ai aB6.out 0;have jN := ai aB6.out 1;have aAl := ai aB6.out 2;have aAm := ai aB6.out 3;go_wp2_with (first | ((with_reducible refine dE (f := 57) rfl ?_); refine iB (some 8) rfl rfl Try.func57 (by kernel_rfl) rfl #[.agg #[.int .i64 aR, .int .i64 iR, .int .i64 vX, .slice aps kv.length ao4]] rfl (by (try simp only [List.map_toArray, List.map_cons, List.map_nil]); first | done | rfl | (simp only [List.length_drop, List.length_take]; rfl)) ?_; (with_reducible refine (rX.calls k aR iR vX _ _ kv false _ ?side1 ?side2 A5.out).mono ?_); (case side1 => repeat (first | exact (Kd.bF aqx.out HB.out) | (with_reducible refine Kd.dF ?_ _) | (with_reducible refine Kd.dG ?_ _) | (with_reducible refine Kd.eG ?_))); (case side2 => exact aqH.out); rintro e w13 ⟨rfl, hb⟩; refine ⟨_, rfl, ?_⟩; have bP := aa.mk (aC (bk aB6) hb); have bQ := aa.mk (aM (bO HB) hb); clear aB6; clear HB; have aB6 := bP; have HB := bQ; clear bP bQ; (try clear hb); (try clear hb2); (try clear hk); (try clear hi)))
   go_meet
   case rel => exact ⟨_, (true), (by first | rfl | (simp; done) | (simp [*]; done)), H', ⟨by first | omega | exact Nat.le_refl _⟩, ⟨by (with_reducible repeat (first | refine ax ?_ _ | refine az ?_ | refine au ?_ _)); exact aB6.out⟩, ⟨bO HB⟩⟩
 case rest =>
  clear Uo;(try clear c1); (try clear p2); (try clear c5); (try clear c6); (try clear qB); (try clear qC); (try clear atD); (try clear atE); (try clear jK); (try clear jL); (try clear aAj); (try clear aAk); (try clear nG); (try clear nH); (try clear axe); (try clear axf); (try clear qD); (try clear qE); (try clear atF); (try clear atG); (try clear jM); (try clear jN); (try clear aAl); (try clear aAm); (try clear nI); (try clear nJ); (try clear axg); (try clear axh);obtain ⟨kq, ayi, rfl, HA, HJ2, aB6, HB⟩ := hcut
  cases kq with
  | zero => exact absurd HA.out (by simp [nL.j0])
  | succ kj2 =>
   have H := HA.out;clear HA;simp only [nL.j0] at H;have aaS := aa.mk H;clear H;go_upto_if 15 with (fail)
   go_cut [] (fun wc => ∃ (kq : Nat), aa (nL.j1 kq l1 aR iR vX kv = some r) ∧ aa (kq ≤ kj2) ∧ aa (wc.heap[aKF]? = some (.cells #[.int .i64 aR, .int .i64 iR, .int .i64 vX, (.slice aps kv.length ao4)] 58 (0, 0))) ∧ aa (Below w.heap.size w wc))
   case first =>
    have H := aaS.out;clear aaS;by_cases c15 : ayi = true
    ·subst c15;have H1 : (some false) = some r := by rw [if_pos rfl] at H; exact H
     clear H;have H := H1;clear H1;obtain rfl := Option.some.inj H;go_wp2;go_ret;exact ⟨by first | rfl | (simp [aW, aX] <;> rfl) | (simp [*, aW, aX] <;> rfl), bO HB⟩
    ·replace c15 := Bool.eq_false_iff.mpr c15;subst c15;have H1 : (nL.j1 kj2 l1 aR iR vX kv) = some r := by rw [if_neg (show ¬ (false = true) by decide)] at H; exact H
     clear H;have H := H1;clear H1;have H' := aa.mk H;clear H;go_wp2;go_meet
     case rel => exact ⟨_, H', ⟨by have := HJ2.out; first | omega | exact Nat.le_refl _⟩, ⟨by (with_reducible repeat (first | refine ax ?_ _ | refine az ?_ | refine au ?_ _)); exact aB6.out⟩, ⟨bO HB⟩⟩
   case rest =>
    clear aaS;(try clear c1); (try clear p2); (try clear c5); (try clear c6); (try clear c15); (try clear qB); (try clear qC); (try clear atD); (try clear atE); (try clear jK); (try clear jL); (try clear aAj); (try clear aAk); (try clear nG); (try clear nH); (try clear axe); (try clear axf); (try clear qD); (try clear qE); (try clear atF); (try clear atG); (try clear jM); (try clear jN); (try clear aAl); (try clear aAm); (try clear nI); (try clear nJ); (try clear axg); (try clear axh); (try clear p2);obtain ⟨kq, HA, Uf, aB6, HB⟩ := hcut
    cases kq with
    | zero => exact absurd HA.out (by simp [nL.j1])
    | succ kj13 =>
     have H := HA.out;clear HA;simp only [nL.j1] at H;replace H := Option.bind_eq_some_iff.mp H;obtain ⟨aMv, aFl, H⟩ := H;replace H : (nL.l0 kj13 aMv 0) = some r := H;have A16 := aa.mk aFl;clear aFl;have H' := aa.mk H;clear H;have Qj : wc.cell? ⟨aKF, 0, none⟩ = some (.int .i64 aR) := (ae aB6.out 0).trans rfl;have Qk : wc.cell? ⟨aKF, 1, none⟩ = some (.int .i64 iR) := (ae aB6.out 1).trans rfl;have azI : wc.cell? ⟨aKF, 2, none⟩ = some (.int .i64 vX) := (ae aB6.out 2).trans rfl;have azJ : wc.cell? ⟨aKF, 3, none⟩ = some (.slice aps kv.length ao4) := (ae aB6.out 3).trans rfl;have Ql := ai aB6.out 0;have Qm := ai aB6.out 1;have azK := ai aB6.out 2;have azL := ai aB6.out 3;go_wp2_with (first | ((with_reducible refine dE (f := 50) rfl ?_); refine iB (some 18) rfl rfl Try.func50 (by kernel_rfl) rfl #[.agg #[.int .i64 aR, .int .i64 iR, .int .i64 vX, .slice aps kv.length ao4], .slice A1 l1.length c1] rfl (by (try simp only [List.map_toArray, List.map_cons, List.map_nil]); first | done | rfl | (simp only [List.length_drop, List.length_take]; rfl)) ?_; (with_reducible refine (H5.calls kj13 aR iR vX _ _ kv _ _ l1 aMv _ ?side1 ?side2 ?side3 ?side4 A16.out).mono ?_); (case side1 => repeat (first | exact (Kd.bF aqx.out HB.out) | (with_reducible refine Kd.dF ?_ _) | (with_reducible refine Kd.dG ?_ _) | (with_reducible refine Kd.eG ?_))); (case side2 => exact aqH.out); (case side3 => repeat (first | exact (Kd.bF HR1.out HB.out) | (with_reducible refine Kd.dF ?_ _) | (with_reducible refine Kd.dG ?_ _) | (with_reducible refine Kd.eG ?_))); (case side4 => exact EY.out); rintro e w18 ⟨aUl, rfl, ho0, hb⟩; refine ⟨_, rfl, ?_⟩; have bP := aa.mk (Kd.iL ho0 (aK (bO HB))); have bQ := aa.mk (aC (bk aB6) hb); have bT := aa.mk (aM (bO HB) hb); clear aB6; clear HB; have aSV := bP; have aB6 := bQ; have HB := bT; clear bP bQ bT; (try clear hb); (try clear hb2); (try clear hk); (try clear hi); (try clear ho0)))
     go_loopg [6] kj13 (fun kq v6 w' => ∃ (aMj : Int), v6 = .int .i64 aMj ∧ aa (nL.l0 kq aMv aMj = some r) ∧ aa (kq ≤ kj13) ∧ aa (Kd.R xA 34 w' w.heap.size (fun _ => True) aUl aMv) ∧ aa (w'.heap[aKF]? = some (.cells #[.int .i64 aR, .int .i64 iR, .int .i64 vX, (.slice aps kv.length ao4)] 58 (0, 0))) ∧ aa (Below w.heap.size w w'))
     case atStart => exact ⟨(0), (by first | rfl | (simp; done) | (simp [*]; done)), H', ⟨Nat.le_refl _⟩, ⟨by (with_reducible repeat (first | apply Kd.ay5 | apply Kd.eu | apply Kd.aaH)); exact aSV.out⟩, ⟨by (with_reducible repeat (first | refine ax ?_ _ | refine az ?_ | refine au ?_ _)); exact aB6.out⟩, ⟨bO HB⟩⟩
     case round =>
      clear H';(try clear c1); (try clear p2); (try clear c5); (try clear c6); (try clear c15); (try clear qB); (try clear qC); (try clear atD); (try clear atE); (try clear jK); (try clear jL); (try clear aAj); (try clear aAk); (try clear Qj); (try clear Qk); (try clear azI); (try clear azJ); (try clear nG); (try clear nH); (try clear axe); (try clear axf); (try clear qD); (try clear qE); (try clear atF); (try clear atG); (try clear jM); (try clear jN); (try clear aAl); (try clear aAm); (try clear Ql); (try clear Qm); (try clear azK); (try clear azL); (try clear nI); (try clear nJ); (try clear axg); (try clear axh); (try clear p2);obtain ⟨aMj, rfl, HA, xO, sw, aB6, HB⟩ := hrel
      cases gk with
      | zero => exact absurd HA.out (by simp [nL.l0])
      | succ k3 =>
       have H := HA.out;clear HA;simp only [nL.l0] at H;by_cases c19 : aMj < (aMv.length : Int)
       ·rw [if_pos c19] at H;have yh : decide (aMj < (aMv.length : Int)) = true := decide_eq_true c19;clear c19;by_cases c20 : 0 ≤ aMj
        ·rw [if_pos c20] at H;have alk : decide (0 ≤ aMj) = true := decide_eq_true c20;clear c20;by_cases c21 : ((bJ aMv aMj).f1) > 1000
         ·rw [if_pos c21] at H;have alm : decide (1000 < ((bJ aMv aMj).f1)) = true := decide_eq_true c21;clear c21;obtain rfl := Option.some.inj H;obtain ⟨aUE, aUF, aQE⟩ := Kd.fQ sw.out;subst aQE;have aPd : 0 ≤ (aMj : Int) := of_decide_eq_true (by first | (with_reducible assumption) | assumption);have aPe : aMj < (aMv.length : Int) := of_decide_eq_true (by first | (with_reducible assumption) | assumption);obtain ⟨aSW, aRH, aP3, aP6⟩ := aRX (Kd.dD sw.out).2.2 aMj aPd aPe
          cases aRH;replace aPd := eq_true aPd;replace aPe := eq_true aPe;go_wp2;go_ret;exact ⟨by first | rfl | (simp [aW, aX] <;> rfl) | (simp [*, aW, aX] <;> rfl), bO HB⟩
         ·rw [if_neg c21] at H;have alm : decide (1000 < ((bJ aMv aMj).f1)) = false := decide_eq_false c21;clear c21;have H' := aa.mk H;clear H;obtain ⟨ajE, ajF, ae6⟩ := Kd.fQ sw.out;subst ae6;have aPd : 0 ≤ (aMj : Int) := of_decide_eq_true (by first | (with_reducible assumption) | assumption);have aPe : aMj < (aMv.length : Int) := of_decide_eq_true (by first | (with_reducible assumption) | assumption);obtain ⟨aSW, aRH, aP3, aP6⟩ := aRX (Kd.dD sw.out).2.2 aMj aPd aPe
          cases aRH;replace aPd := eq_true aPd;replace aPe := eq_true aPe;go_wp2;go_roundg k3
          case measure => have := HJ2.out; have := Uf.out; have := xO.out; omega
          case rel => exact ⟨(wrap64 (aMj + 1)), (by first | rfl | (simp; done) | (simp [*]; done)), H', ⟨by have := HJ2.out; have := Uf.out; have := xO.out; omega⟩, ⟨by (with_reducible repeat (first | apply Kd.ay5 | apply Kd.eu | apply Kd.aaH)); exact sw.out⟩, ⟨by (with_reducible repeat (first | refine ax ?_ _ | refine az ?_ | refine au ?_ _)); exact aB6.out⟩, ⟨bO HB⟩⟩
        ·rw [if_neg c20] at H;exact absurd H (by simp)
       ·rw [if_neg c19] at H;have yh : decide (aMj < (aMv.length : Int)) = false := decide_eq_false c19;clear c19;obtain rfl := Option.some.inj H;obtain ⟨Xi, Xj, Uw⟩ := Kd.fQ sw.out;subst Uw;go_wp2;go_ret;exact ⟨by first | rfl | (simp [aW, aX] <;> rfl) | (simp [*, aW, aX] <;> rfl), bO HB⟩
end Go.Proofs.Ytamimodkcbbpmaa.Pr
end
section
namespace Go.Proofs.Ytamimodkcbbpmaa.Pr
open Go.RowKit Go.Proofs.YtamimodkcbbpmaaW.PrintWords Go.Proofs.YtamimodkcbbpmaaW.PrintLast
set_option linter.unusedVariables false
set_option linter.unusedSimpArgs false
section
variable {T N : Int} {rs : List KH} {ins : List Int}
theorem aqN.mid (h : aqN T N rs ins) : aBe N (aqo rs ins) := ⟨h.n1, by have := h.n2; omega, by have := h.len; rw [atI]; omega, h.zt, h.zO, fun e he => by have := atJ e he; omega⟩
end
section
variable (T N S : Int) (rs : List KH) (ins : List Int)
theorem aOr (vs : List dK) (hl : vs.length ≤ 9223372036854775807) : ∀ m i, i + m = vs.length → ∃ b, Ev (fun k => nL.l0 k vs (i : Int)) b ∧ (b = true → ∀ j : Nat, i ≤ j → j < vs.length → (bJ vs (j : Int)).f1 ≤ 1000)
 | 0, i, hi => by
  refine ⟨true, (Ev.const true).succ (fun k => ?_), fun _ j h1 h2 => absurd h2 (by omega)⟩;show nL.l0 (k + 1) _ _ = _;rw [nL.l0, if_neg (by omega)]
 | m + 1, i, hi => by
  by_cases h4 : (bJ vs (i : Int)).f1 > 1000
  ·refine ⟨false, (Ev.const false).succ (fun k => ?_), fun h => (by cases h)⟩;show nL.l0 (k + 1) _ _ = _;rw [nL.l0, if_pos (by omega), if_pos (by omega), if_pos h4]
  ·obtain ⟨b, eb, hb⟩ := aOr vs hl m (i + 1) (by omega);refine ⟨b, eb.succ (fun k => ?_), fun h j h1 h2 => ?_⟩
   ·show nL.l0 (k + 1) _ _ = _;rw [nL.l0, if_pos (by omega), if_pos (by omega), if_neg h4, RY i (by omega)]
   ·by_cases hj : j = i
    ·subst hj; omega
    ·exact hb h j (by omega) h2
theorem aRQ (hi : ins.length ≤ 9223372036854775807) (h1 : rs.length ≤ 60) (h2 : N ≤ 60) : ∃ b, Ev (fun k => nL.f k T N S rs ins) b ∧ (b = true → ar9 T N S rs ins = true ∧ ∀ j : Nat, (j : Int) < N → (bJ (jy N.toNat (aqo rs ins)) (j : Int)).f1 ≤ 1000) := by
 have hv := aBy T N S rs (by omega);have hp := ayu T N S rs ins hi;have bad : Ev (fun k => nL.j0 k ins true T N S rs) false := (Ev.const _).succ (fun k => by rw [nL.j0, if_pos rfl])
 cases hn : arD T N S rs with
 | false =>
  rw [hn] at hv;exact ⟨false, Ev.mp (Ev.bind (G := fun k aNO => if aNO = true then ((aqe.f k T N S rs ins).bind fun aKD => (nL.j0 k ins (!aKD) T N S rs)) else (nL.j0 k ins true T N S rs)) hv (bad.mp (fun k => rfl))) (fun k => by rw [nL.f]), fun h => (by cases h)⟩
 | true =>
  rw [hn] at hv;have wrap : ∀ b, Ev (fun k => nL.j0 k ins (!arS T ins) T N S rs) b → Ev (fun k => nL.f k T N S rs ins) b := fun b hx =>
   Ev.mp (Ev.bind (G := fun k aNO => if aNO = true then ((aqe.f k T N S rs ins).bind fun aKD => (nL.j0 k ins (!aKD) T N S rs)) else (nL.j0 k ins true T N S rs)) hv (Ev.mp (Ev.bind (G := fun k aKD => nL.j0 k ins (!aKD) T N S rs) hp hx) (fun k => if_pos rfl))) (fun k => by rw [nL.f])
  cases hpo : arS T ins with
  | false => exact ⟨false, wrap _ (by rw [hpo]; exact bad), fun h => (by cases h)⟩
  | true =>
   have hb : ar9 T N S rs ins = true := by unfold ar9; rw [hn, hpo]; rfl
   have hN := aqN.of hb h1 h2;have hvv : ar0 T N S rs ins = jy N.toNat (aqo rs ins) := by unfold ar0; rw [if_pos hb]
   have hlen := hN.mid.UZ.len;have hn1 := hN.n1;have e1 := axi (T := T) (S := S) (ins := ins) hi h1 h2;rw [hvv] at e1;obtain ⟨b, e2, hb2⟩ := aOr (jy N.toNat (aqo rs ins)) (by omega) (jy N.toNat (aqo rs ins)).length 0 (by omega);have e3 : Ev (fun k => nL.j1 k ins T N S rs) b := (Ev.bind (G := fun k aMv => nL.l0 k aMv 0) e1 e2).succ (fun k => by rw [nL.j1]);refine ⟨b, wrap b (by rw [hpo]; exact e3.succ (fun k => by rw [nL.j0]; rfl)), fun h => ⟨hb, fun j hj => hb2 h j (Nat.zero_le _) (by omega)⟩⟩
end
end Go.Proofs.Ytamimodkcbbpmaa.Pr
end
section
namespace Go.Proofs.Ytamimodkcbbpmaa.Pr
open Go.RowKit Go.Proofs.YtamimodkcbbpmaaW.PrintWords Go.Proofs.YtamimodkcbbpmaaW.PrintLast Go.Proofs.YtamimodkcbbpmaaW.PrintMore Go.Proofs.YtamimodkcbbpmaaXW
attribute [local go_sem] aFh ky lX lY jf jg kz kC
set_option linter.unusedVariables false
set_option linter.unusedSimpArgs false
def aqb.f (aR : Int) (iR : Int) (vX : Int) (kv : List (KH)) (l1 : List Int) : Option (Bool) := if (kv.length : Int) ≤ 60 then (if iR ≤ 60 then (some (decide ((l1.length : Int) ≤ 30))) else (some false)) else (some false)
set_option maxHeartbeats 8000000 in
set_option maxRecDepth 100000 in
theorem aqb.calls (aR : Int) (iR : Int) (vX : Int) (aps : Option Addr) (ao4 : Nat) (kv : List (KH)) (A1 : Option Addr) (c1 : Nat) (l1 : List Int) (r : Bool) (w : World) (aqy : Kd.C Md w aps kv.length kv) (aqz : kv.length ≤ ao4) (hr1 : Kd.C (Kd.int .i64) w A1 l1.length l1) (hc1 : l1.length ≤ c1) (h : aqb.f aR iR vX kv l1 = some r) :
  Calls Try.prog 46 #[.agg #[.int .i64 aR, .int .i64 iR, .int .i64 vX, .slice aps kv.length ao4], .slice A1 l1.length c1] w fun e w' => e = .returned (.bool r) ∧ Below w.heap.size w w' := by
 have avx := Try.underlying58;have aqx := aa.mk aqy;have aqH := aa.mk aqz;clear aqy aqz;have HR1 := aa.mk hr1;have EY := aa.mk hc1;clear hr1 hc1;have HB := aa.mk (Below.refl w.heap.size w);have H : (if (kv.length : Int) ≤ 60 then (if iR ≤ 60 then (some (decide ((l1.length : Int) ≤ 30))) else (some false)) else (some false)) = some r := h;clear h;by_cases c3 : (kv.length : Int) ≤ 60
 ·rw [if_pos c3] at H;have Tn : decide ((kv.length : Int) ≤ 60) = true := decide_eq_true c3;have aL0 : decide (kv.length ≤ 60) = true := decide_eq_true (by omega);clear c3;by_cases c4 : iR ≤ 60
  ·rw [if_pos c4] at H;have nu : decide (iR ≤ 60) = true := decide_eq_true c4;clear c4;obtain rfl := Option.some.inj H;go_enter Try.func46, Try.ntmps46
   go_wp2_with (first | ((with_reducible refine bM (N := 2) rfl ?_); (try (refine gG (by rfl) ?_; dsimp only)); refine bG ?hg (N := 2) ?hd (cs := #[.int .i64 aR, .int .i64 iR, .int .i64 vX, .slice aps kv.length ao4]) (t := 58) ?hr ?_; (case hd => rfl); (case hg => rfl); (case hr => first | (go_simp; done) | (go_simp; rfl)); intro aqO hg w5 bR hb; have bP := aa.mk (aM (bO HB) hb); have bQ := aa.mk (bR); have bT := aa.mk ((by rw [hg]; exact (aK (bO HB)) : w.heap.size ≤ aqO)); have di := aa.mk ((by rw [hg]; exact (aK (bO HB)) : w.heap.size ≤ aqO)); clear HB; have HB := bP; have aqC := bQ; have aAQ := bT; have aAR := di; clear bP bQ bT di; clear hb bR hg; have qa : w5.cell? ⟨aqO, 0, none⟩ = some (.int .i64 aR) := (ae aqC.out 0).trans rfl; have qb : w5.cell? ⟨aqO, 1, none⟩ = some (.int .i64 iR) := (ae aqC.out 1).trans rfl; have ave : w5.cell? ⟨aqO, 2, none⟩ = some (.int .i64 vX) := (ae aqC.out 2).trans rfl; have avf : w5.cell? ⟨aqO, 3, none⟩ = some (.slice aps kv.length ao4) := (ae aqC.out 3).trans rfl; have qc := ai aqC.out 0; have qd := ai aqC.out 1; have avg := ai aqC.out 2; have avh := ai aqC.out 3))
   go_ret;exact ⟨by first | rfl | (simp [aW, aX] <;> rfl) | (simp [*, aW, aX] <;> rfl), bO HB⟩
  ·rw [if_neg c4] at H;have nu : decide (iR ≤ 60) = false := decide_eq_false c4;clear c4;obtain rfl := Option.some.inj H;go_enter Try.func46, Try.ntmps46
   go_wp2_with (first | ((with_reducible refine bM (N := 2) rfl ?_); (try (refine gG (by rfl) ?_; dsimp only)); refine bG ?hg (N := 2) ?hd (cs := #[.int .i64 aR, .int .i64 iR, .int .i64 vX, .slice aps kv.length ao4]) (t := 58) ?hr ?_; (case hd => rfl); (case hg => rfl); (case hr => first | (go_simp; done) | (go_simp; rfl)); intro aqO hg w7 bR hb; have bP := aa.mk (aM (bO HB) hb); have bQ := aa.mk (bR); have bT := aa.mk ((by rw [hg]; exact (aK (bO HB)) : w.heap.size ≤ aqO)); have di := aa.mk ((by rw [hg]; exact (aK (bO HB)) : w.heap.size ≤ aqO)); clear HB; have HB := bP; have aqC := bQ; have aAQ := bT; have aAR := di; clear bP bQ bT di; clear hb bR hg; have nG : w7.cell? ⟨aqO, 0, none⟩ = some (.int .i64 aR) := (ae aqC.out 0).trans rfl; have nH : w7.cell? ⟨aqO, 1, none⟩ = some (.int .i64 iR) := (ae aqC.out 1).trans rfl; have axe : w7.cell? ⟨aqO, 2, none⟩ = some (.int .i64 vX) := (ae aqC.out 2).trans rfl; have axf : w7.cell? ⟨aqO, 3, none⟩ = some (.slice aps kv.length ao4) := (ae aqC.out 3).trans rfl; have nI := ai aqC.out 0; have nJ := ai aqC.out 1; have axg := ai aqC.out 2; have axh := ai aqC.out 3))
   go_ret;exact ⟨by first | rfl | (simp [aW, aX] <;> rfl) | (simp [*, aW, aX] <;> rfl), bO HB⟩
 ·rw [if_neg c3] at H;have Tn : decide ((kv.length : Int) ≤ 60) = false := decide_eq_false c3;have aL0 : decide (kv.length ≤ 60) = false := decide_eq_false (by omega);clear c3;obtain rfl := Option.some.inj H;go_enter Try.func46, Try.ntmps46
  go_wp2_with (first | ((with_reducible refine bM (N := 2) rfl ?_); (try (refine gG (by rfl) ?_; dsimp only)); refine bG ?hg (N := 2) ?hd (cs := #[.int .i64 aR, .int .i64 iR, .int .i64 vX, .slice aps kv.length ao4]) (t := 58) ?hr ?_; (case hd => rfl); (case hg => rfl); (case hr => first | (go_simp; done) | (go_simp; rfl)); intro aqO hg w9 bR hb; have bP := aa.mk (aM (bO HB) hb); have bQ := aa.mk (bR); have bT := aa.mk ((by rw [hg]; exact (aK (bO HB)) : w.heap.size ≤ aqO)); have di := aa.mk ((by rw [hg]; exact (aK (bO HB)) : w.heap.size ≤ aqO)); clear HB; have HB := bP; have aqC := bQ; have aAQ := bT; have aAR := di; clear bP bQ bT di; clear hb bR hg; have qB : w9.cell? ⟨aqO, 0, none⟩ = some (.int .i64 aR) := (ae aqC.out 0).trans rfl; have qC : w9.cell? ⟨aqO, 1, none⟩ = some (.int .i64 iR) := (ae aqC.out 1).trans rfl; have atD : w9.cell? ⟨aqO, 2, none⟩ = some (.int .i64 vX) := (ae aqC.out 2).trans rfl; have atE : w9.cell? ⟨aqO, 3, none⟩ = some (.slice aps kv.length ao4) := (ae aqC.out 3).trans rfl; have qD := ai aqC.out 0; have qE := ai aqC.out 1; have atF := ai aqC.out 2; have atG := ai aqC.out 3))
  go_ret;exact ⟨by first | rfl | (simp [aW, aX] <;> rfl) | (simp [*, aW, aX] <;> rfl), bO HB⟩
end Go.Proofs.Ytamimodkcbbpmaa.Pr
end
section
namespace Go.Proofs.Ytamimodkcbbpmaa.Pr
open Go.RowKit Go.Proofs.YtamimodkcbbpmaaW.PrintWords Go.Proofs.YtamimodkcbbpmaaW.PrintLast Go.Proofs.YtamimodkcbbpmaaXW
set_option linter.unusedVariables false
set_option linter.unusedSimpArgs false
mutual
def toP : dU → S64
 | ⟨e, ks⟩ => ⟨e, arE ks⟩
def arE : List dU → List S64
 | [] => []
 | d :: ds => toP d :: arE ds
end
inductive ayz : dU → Prop
 | mk (d : dU) (hl : d.f1.length ≤ 1000000) (hk : ∀ v, v ∈ d.f1 → ayz v) : ayz d
theorem auO : ∀ l : List dU, (arE l).length = l.length
 | [] => rfl
 | d :: l => by
  have ih := auO l;simp only [arE, List.length_cons, ih]
theorem awC (l m : List dU) : arE (l ++ m) = arE l ++ arE m := by
 induction l with
 | nil => rfl
 | cons d l ih =>
  show toP d :: arE (l ++ m) = _;rw [ih];rfl
theorem aBF (d : dU) : toP d = ⟨d.f0, arE d.f1⟩ := by
 obtain ⟨e, ks⟩ := d;rw [toP]
theorem ayA (l : List dU) (i : Nat) (h : i < l.length) : arE (l.take (i + 1)) = arE (l.take i) ++ [⟨(bn l (i : Int)).f0, arE (bn l (i : Int)).f1⟩] := by
 rw [List.take_succ_eq_append_getElem h, awC];congr 1
 show [toP l[i]] = _;rw [aBF];simp only [bn, Int.toNat_natCast, List.getD_eq_getElem?_getD, List.getElem?_eq_getElem h, Option.getD_some]
def R89.T5 : Bool × List (List Nat × List Nat) := (true, [([], []), ([0], [0]), ([], []), ([], []), ([2, 3], [2, 3]), ([4], [4]), ([1, 5, 4], [1, 5]), ([0, 1, 2, 3, 4, 5, 6], []), ([7, 6, 6, 0, 1, 2, 3, 4, 5, 6], [6, 7])])
def R89.B5 : List Nat := [0, 1, 0, 0, 12, 28, 63, 127, 255]
theorem R89.aja : iC .any (opsOf Try.f89 5) = R89.T5 := by kernel_rfl
theorem R89.aeq : fo R89.T5.2 R89.B5 = true := by kernel_rfl
set_option maxRecDepth 100000 in
set_option maxHeartbeats 8000000 in
theorem ayB {d : dU} (hs : ayz d) : ∀ (A1 : Option Addr) (k1 : Nat) (b : Nat) (w : World), Kd.C k27 w A1 d.f1.length d.f1 → d.f1.length ≤ k1 → w.heap[b]? = some (.cells #[.func (.func 89) #[] #[.pointer (some ⟨b, 0, none⟩)]] 105 (0, 0)) →
  Calls Try.prog 89 #[.agg #[.int .i64 d.f0, .slice A1 d.f1.length k1], .pointer (some ⟨b, 0, none⟩)] w fun e w' => ∃ v1 : Value, e = .returned (.agg #[.int .i64 d.f0, v1]) ∧ Kd.R OG 64 w' w.heap.size (fun _ => True) v1 (arE d.f1) ∧ Below w.heap.size w w' := by
 induction hs with
 | mk d hl hk ih =>
 intro A1 k1 b w hC hc hb;obtain ⟨e, ks⟩ := d;simp only at hl hk ih hC hc ⊢;have HR1 := aa.mk hC;have EY := aa.mk hc;have HBX := aa.mk hb;have IH := aa.mk ih;have HL := aa.mk hl;clear hC hc hb ih hk hl;go_enter Try.func89, Try.ntmps89
 go_upto_region 2 with (fail)
 have ER := eX w (.cells #[.int .i64 e, .slice A1 ks.length k1] 27);have hA1 := eX (w.alloc (.cells #[.int .i64 e, .slice A1 ks.length k1] 27)) (.cells #[.int .i64 0, .slice none 0 0] 64);have hA2 := eX ((w.alloc (.cells #[.int .i64 e, .slice A1 ks.length k1] 27)).alloc (.cells #[.int .i64 0, .slice none 0 0] 64)) (.cells #[.int .i64 e, .slice none 0 0] 64);have hs1 : (w.alloc (.cells #[.int .i64 e, .slice A1 ks.length k1] 27)).heap.size = w.heap.size + 1 := (by show (w.heap.push _).size = _; simp);have hs2 : ((w.alloc (.cells #[.int .i64 e, .slice A1 ks.length k1] 27)).alloc (.cells #[.int .i64 0, .slice none 0 0] 64)).heap.size = w.heap.size + 2 := (by show ((w.heap.push _).push _).size = _; simp);have HB := aa.mk (aM (aM ER.1 hA1.1) hA2.1);have BKX := aa.mk (aC HBX.out (aM (aM ER.1 hA1.1) hA2.1));have BKD := aa.mk (aC (aC ER.2 hA1.1) hA2.1);have BKR := aa.mk (aC hA1.2 hA2.1);have BKP := aa.mk hA2.2;have hbl := bE HBX.out;rw [hs1] at BKR;rw [hs2] at BKP;obtain ⟨gD, eD⟩ : ∃ g, g = w.heap.size := ⟨_, rfl⟩;obtain ⟨gR, eR⟩ : ∃ g, g = w.heap.size + 1 := ⟨_, rfl⟩;obtain ⟨gP, eP⟩ : ∃ g, g = w.heap.size + 2 := ⟨_, rfl⟩;have GD := aa.mk (show w.heap.size ≤ gD by omega);have GR := aa.mk (show w.heap.size ≤ gR by omega);have GP := aa.mk (show w.heap.size ≤ gP by omega);have NDP := aa.mk (show gD ≠ gP by omega);have NRP := aa.mk (show gR ≠ gP by omega);have NDR := aa.mk (show gD ≠ gR by omega);have NXP := aa.mk (show b ≠ gP by omega);have NXR := aa.mk (show b ≠ gR by omega);rw [← eP] at BKP ⊢;rw [← eR] at BKR ⊢;rw [← eD] at BKD ⊢;clear eD eR eP hs1 hs2 ER hA1 hA2 hbl;generalize (((w.alloc (.cells #[.int .i64 e, .slice A1 ks.length k1] 27)).alloc (.cells #[.int .i64 0, .slice none 0 0] 64)).alloc (.cells #[.int .i64 e, .slice none 0 0] 64)) = w3 at *;have c0 : w3.cell? ⟨gD, 1, none⟩ = some (.slice A1 ks.length k1) := (ae BKD.out 1).trans rfl;go_wp2_with fail
 go_loopg [13] (ks.length + 1) (fun g v13 w' => ∃ (j : Nat) (u : Value), v13 = .int .i64 j ∧ aa (j ≤ ks.length) ∧ aa (ks.length - j < g) ∧ aa (Kd.R OG 64 w' w.heap.size (fun k_ => k_ ≠ gR ∧ k_ ≠ gP) u (arE (ks.take j))) ∧ aa (w'.heap[b]? = some (.cells #[.func (.func 89) #[] #[.pointer (some ⟨b, 0, none⟩)]] 105 (0, 0))) ∧ aa (w'.heap[gD]? = some (.cells #[.int .i64 e, .slice A1 ks.length k1] 27 (0, 0))) ∧ aa (w'.heap[gR]? = some (.cells #[.int .i64 0, .slice none 0 0] 64 (0, 0))) ∧ aa (w'.heap[gP]? = some (.cells #[.int .i64 e, u] 64 (0, 0))) ∧ aa (Below w.heap.size w w'))
 case atStart => exact ⟨0, .slice none 0 0, by go_num, ⟨by omega⟩, ⟨by omega⟩, ⟨Kd.qf _ _ _ _ _⟩, BKX, BKD, BKR, BKP, HB⟩
 case round =>
  clear BKX BKD BKR BKP HB c0;obtain ⟨j, u, rfl, hj, hg, HO, BKX, BKD, BKR, BKP, HB⟩ := hrel;by_cases hjn : j < ks.length
  ·obtain ⟨ad, A2, c2, hA, d0, d1, hcK, hCK⟩ := nE HR1.out (j : Int) (by omega) (by omega);subst hA;have hmem : bn ks (j : Int) ∈ ks := by
    simp only [bn, Int.toNat_natCast];rw [List.getD_eq_getElem?_getD, List.getElem?_eq_getElem hjn];exact List.getElem_mem _
   have hstep := ayA ks j hjn;replace d0 := ah HB.out d0; replace d1 := ah HB.out d1;obtain ⟨el, zQ⟩ : ∃ e, bn ks (j : Int) = e := ⟨_, rfl⟩;rw [zQ] at d0 d1 hcK hCK hmem hstep;have IHK := aa.mk (IH.out el hmem);simp only [Int.toNat_natCast] at d0 d1;obtain ⟨y, hy⟩ : ∃ y, arE (ks.take j) = y := ⟨_, rfl⟩;have HYL : aa (y.length ≤ 1000000) := ⟨by rw [← hy, auO, List.length_take]; have := HL.out; omega⟩;rw [hy] at hstep HO;obtain ⟨y2, hy2⟩ : ∃ y2, y2 = y ++ [(⟨el.f0, arE el.f1⟩ : S64)] := ⟨_, rfl⟩;rw [← hy2] at hstep;have NY := aa.mk hy2;have HST := aa.mk hstep;have HCK := aa.mk (Kd.bF hCK HB.out);clear zQ hmem hstep hCK hy hy2;go_upto_region 5 with (fail)
   have EB := eX wr (.cells #[.int .i64 el.f0, .slice A2 el.f1.length c2] 27);obtain ⟨gK, eK⟩ : ∃ g, g = wr.heap.size := ⟨_, rfl⟩;have hdr := dM (Below.refl (wr.alloc (.cells #[.int .i64 el.f0, .slice A2 el.f1.length c2] 27)).heap.size (wr.alloc (.cells #[.int .i64 el.f0, .slice A2 el.f1.length c2] 27)));have hst := aM EB.1 hdr;have mD := aa.mk (aC BKD.out hst);have mR := aa.mk (aC BKR.out hst);have mP := aa.mk (aC BKP.out hst);have mX := aa.mk (aC BKX.out hst);have BKK := aa.mk (aC EB.2 hdr);have mO := aa.mk (Kd.aaH (Kd.ay5 HO.out (.cells #[.int .i64 el.f0, .slice A2 el.f1.length c2] 27)));have mC := aa.mk (Kd.bF HCK.out hst);have mB := aa.mk (aM HB.out hst);have GK := aa.mk (show w.heap.size ≤ gK by have := HB.out.size; omega);rw [← eK] at BKK ⊢;clear BKD BKR BKP BKX HO HCK HB d0 d1 EB hdr hst eK;have BKD := mD; have BKR := mR; have BKP := mP; have BKX := mX; have HO := mO; have HCK := mC; have HB := mB;clear mD mR mP mX mO mC mB;generalize (wr.alloc (.cells #[.int .i64 el.f0, .slice A2 el.f1.length c2] 27)) = w5 at *;refine fu (n := 9) (S := fun w' => w'.cell? ⟨gP, 0, none⟩ = some (.int .i64 e) ∧ w'.cell? ⟨gP, 1, none⟩ = some (u) ∧ w'.cell? ⟨b, 0, none⟩ = some (.func (.func 89) #[] #[.pointer (some ⟨b, 0, none⟩)]) ∧ w'.cell? ⟨gK, 0, none⟩ = some (.int .i64 el.f0) ∧ w'.cell? ⟨gK, 1, none⟩ = some (.slice A2 el.f1.length c2)) (ds := [8]) #[false, false, false, false, false, false, false, false, false] (by kernel_rfl) rfl rfl ⟨(ae BKP.out 0).trans rfl, (ae BKP.out 1).trans rfl, (ae BKX.out 0).trans rfl, (ae BKK.out 0).trans rfl, (ae BKK.out 1).trans rfl⟩ (fun hHeld => ?_);refine dw R89.aja R89.aeq (fun dA ji => ?_);refine oq (fuel := 8) [(0, 17)] #[true, false, false, false, false, false, false, false, false] (jT dA.out _ _ _ (by kernel_rfl)) rfl (fun _ _ _ _ _ h => h) (a' := ?_) ?_ ?_;rotate_left
   ·iterate 1
     refine gI (v := ?_) (a1 := ?_) rfl rfl (Or.inl ⟨by rfl, ?_⟩) ?_ ?_;rotate_left 2
     ·intro w';go_simp;with_reducible rfl
     ·simp only [Act.put, List.setIfInBounds_toArray, List.set_cons_zero, List.set_cons_succ, bH, bI];rfl
    exact iD
   refine fG (fuel := 5) [(1, 18), (2, 19), (3, 20)] #[true, true, true, true, false, false, false, false, false] (df dA.out ji.out _ _ _ (by kernel_rfl)) rfl (fun _ _ _ _ _ h => h) hHeld (a' := ?_) ?_ ?_;rotate_left
   ·iterate 3
     refine bC (v := ?_) (a1 := ?_) rfl rfl (Or.inl ⟨by rfl, ?_⟩) ?_ ?_;rotate_left 2
     ·rintro w' ⟨s0, s1, s2, s3, s4⟩;go_simp;with_reducible rfl
     ·simp only [Act.put, List.setIfInBounds_toArray, List.set_cons_zero, List.set_cons_succ, bH, bI];rfl
    exact chain_nil
   refine fT (i := 4) (N := some 21) #[true, true, true, true, true, false, false, false, false] rfl rfl (dn dA.out (by kernel_rfl)) (by decide) (fun K hK => ?_);refine call_ 89 #[.agg #[.int .i64 el.f0, .slice A2 el.f1.length c2], .pointer (some ⟨b, 0, none⟩)] (by rfl) rfl ?_ ?_
   ·have zQ := kJ Try.func89 (by kernel_rfl) rfl #[.agg #[.int .i64 el.f0, .slice A2 el.f1.length c2], .pointer (some ⟨b, 0, none⟩)] w5.drew;unfold execOp;simp [resolve, Deferred.ofValue, invoke, Act.eval, zQ]
   refine (IHK.out A2 c2 b w5.drew HCK.out hcK BKX.out).mono ?_;rintro x1 w1 ⟨v157, rfl, ho0, hb⟩;refine ⟨_, rfl, ?_⟩;have bP := aa.mk (Kd.zX HO.out (Kd.FI ho0) hb);have bQ := aa.mk (Kd.iL (Kd.xU (Kd.xU (Kd.I8 ho0 (Kd.xK HO.out)) (bk BKR)) (bk BKP)) (aK (bO HB)));have mD := aa.mk (aC (bk BKD) hb);have mR := aa.mk (aC (bk BKR) hb);have mP := aa.mk (aC (bk BKP) hb);have mX := aa.mk (aC (bk BKX) hb);have mK := aa.mk (aC (bk BKK) hb);have mB := aa.mk (aM (bO HB) hb);clear HO BKD BKR BKP BKX BKK HB HCK;have HO := bP; have HO1 := bQ; have BKD := mD; have BKR := mR; have BKP := mP; have BKX := mX; have BKK := mK; have HB := mB;clear bP bQ mD mR mP mX mK mB hb ho0;obtain ⟨Ao, co, eo⟩ := Kd.fQ HO1.out;subst eo;refine hK.out _ _ ⟨(ae BKP.out 0).trans rfl, (ae BKP.out 1).trans rfl, (ae BKX.out 0).trans rfl, (ae BKK.out 0).trans rfl, (ae BKK.out 1).trans rfl⟩ (fun hHeld => ?_);clear hK K;refine bS (a' := ?_) ?_ ?_;rotate_left
   ·show Act.put _ (some 21) _ = _;simp only [Act.put, List.setIfInBounds_toArray, List.set_cons_zero, List.set_cons_succ, bH, bI];rfl
   refine fT (i := 5) (N := some 22) #[true, true, true, true, true, true, false, false, false] rfl rfl (dn dA.out (by kernel_rfl)) (by decide) (fun K hK => ?_);refine pY (w1 := ?_) (v := ?_) (by rfl) rfl ?_ ?_;rotate_left 2
   ·go_simp;constructor
    ·rfl
    ·rfl
   refine hK.out _ _ ⟨(ae (au BKP.out _) 0).trans rfl, (ae (au BKP.out _) 1).trans rfl, (ae (au BKX.out _) 0).trans rfl, (ae (au BKK.out _) 0).trans rfl, (ae (au BKK.out _) 1).trans rfl⟩ (fun hHeld => ?_);clear hK K;refine bS (a' := ?_) ?_ ?_;rotate_left
   ·show Act.put _ (some 22) _ = _;simp only [Act.put, List.setIfInBounds_toArray, List.set_cons_zero, List.set_cons_succ, bH, bI];rfl
   refine fT (i := 6) (N := some 23) #[true, true, true, true, true, true, true, false, false] rfl rfl (dn dA.out (by kernel_rfl)) (by decide) (fun K hK => ?_);refine Kd.oL OG (w0 := w) w.heap.size (by rfl) (.tmp 18) (.tmp 22) 62 64 (.agg #[(.int .i64 0), (.slice none 0 0)]) 32 rfl Try.underlying62 ah0 rfl (by decide) (by omega) u y (⟨el.f0, arE el.f1⟩ : S64) [.int .i64 el.f0, .slice Ao (arE el.f1).length co] (fun k_ => k_ ≠ gR ∧ k_ ≠ gP) (fun k_ => ((fun k_ => k_ ≠ gR ∧ k_ ≠ gP)) k_ ∧ some k_ ≠ (u : Value).ownBlock) rfl rfl ?aP (fun _ hk => hk) ?aF ?aO ?aB ?aS ?aL ?_;(case aP => exact afB _ _ _ (⟨el.f0, arE el.f1⟩ : S64) (Kd.bB (HO1.out) (fun k_ hk => ⟨⟨hk.1.2, hk.2⟩, hk.1.1.2⟩)));(case aB => exact (bO HB));(case aF => exact (fun k_ hk => ⟨Kd.Dg (bk BKR) k_ hk, Kd.Dg (bk BKP) k_ hk⟩));(case aO => exact (by (with_reducible repeat (first | apply Kd.ay5 | apply Kd.eu | apply Kd.aaH)); exact Kd.bB HO.out (fun _ hk => ⟨hk.1.1, hk.1.2⟩)));(case aS => exact (aK (bO HB)));(case aL => have := HYL.out; omega);intro v160 w2 ho hb hg hat;rw [← NY.out] at ho;have mD := aa.mk (bX (bk BKD) hg (Kd.aqP HO.out BKD.out (by decide)));have mR := aa.mk (bX (bk BKR) hg (Kd.FJ HO.out (fun _ hk => hk.1.1)));have mP := aa.mk (bX (bk BKP) hg (Kd.FJ HO.out (fun _ hk => hk.1.2)));have mX := aa.mk (bX (bk BKX) hg (Kd.aqP HO.out BKX.out (by decide)));have mK := aa.mk (bX (bk BKK) hg (Kd.aqP HO.out BKK.out (by decide)));have mB := aa.mk hb;have HO2 := aa.mk ho;clear HO HO1 BKD BKR BKP BKX BKK HB ho hb hg hat;have BKD := mD; have BKR := mR; have BKP := mP; have BKX := mX; have BKK := mK; have HB := mB;clear mD mR mP mX mK mB;obtain ⟨Ao2, co2, eo2⟩ := Kd.fQ HO2.out;subst eo2;refine hK.out _ _ ⟨(ae BKP.out 0).trans rfl, (ae BKP.out 1).trans rfl, (ae BKX.out 0).trans rfl, (ae BKK.out 0).trans rfl, (ae BKK.out 1).trans rfl⟩ (fun hHeld => ?_);clear hK K;refine bS (a' := ?_) ?_ ?_;rotate_left
   ·show Act.put _ (some 23) _ = _;simp only [Act.put, List.setIfInBounds_toArray, List.set_cons_zero, List.set_cons_succ, bH, bI];rfl
   refine oq (fuel := 1) [(7, 24)] #[true, true, true, true, true, true, true, true, false] (jT dA.out _ _ _ (by kernel_rfl)) rfl (fun _ _ _ _ _ h => h) (a' := ?_) ?_ ?_;rotate_left
   ·iterate 1
     refine gI (v := ?_) (a1 := ?_) rfl rfl (Or.inl ⟨by rfl, ?_⟩) ?_ ?_;rotate_left 2
     ·intro w';go_simp;with_reducible rfl
     ·simp only [Act.put, List.setIfInBounds_toArray, List.set_cons_zero, List.set_cons_succ, bH, bI];rfl
    exact iD
   refine El (i := 8) (N := none) #[true, true, true, true, true, true, true, true, true] rfl rfl (dn dA.out (by kernel_rfl)) (by decide) (fun K hK => ?_);have hs := (ae BKP.out 1).trans rfl;have apn : w2.cell? ⟨gP, 1, none⟩ = some (u) := hs;clear hs;have amv := ai BKP.out 1;have q0 := NDP.out; have q1 := NRP.out; have q2 := NXP.out; have q3 := NDP.out.symm; have q4 := NRP.out.symm; have q5 := NXP.out.symm;refine rV (w1 := ?_) (by rfl) rfl ?_ ?_;rotate_left
   ·go_simp;rfl
   refine hK.out _ _ ?_;clear hK K;refine gH (dV dA.out (by kernel_rfl)) ?_;go_wp2_with fail
   go_roundg (ks.length - j)
   case measure => have := hg.out; omega
   have hL := HL.out;have hw : wrap64 ((j : Int) + 1) = ((j + 1 : Nat) : Int) := by unfold wrap64; omega
   case rel => exact ⟨j + 1, .slice Ao2 y2.length co2, by rw [hw], ⟨by omega⟩, ⟨by omega⟩, ⟨by rw [HST.out]; exact Kd.bB (Kd.jS (p := ⟨gP, 1, none⟩) (Kd.bB HO2.out (fun k_ hk => (⟨hk, hk.2⟩ : _ ∧ k_ ≠ gP))) (fun _ hk => hk.2) (.slice Ao2 y2.length co2)) (fun _ hk => ⟨hk.1.1, hk.1.2⟩)⟩, ⟨bD BKX.out NXP.out _⟩, ⟨bD BKD.out NDP.out _⟩, ⟨bD BKR.out NRP.out _⟩, ⟨bL (cs := #[.int .i64 e, u]) BKP.out 1 _ rfl⟩, ⟨QE HB.out GP.out⟩⟩
  ·obtain rfl : j = ks.length := by have := hj.out; omega
   have hjj : ¬ ((ks.length : Int) < (ks.length : Int)) := by omega
   rw [List.take_length] at HO;obtain ⟨Ao, co, eo⟩ := Kd.fQ HO.out;subst eo;have q0 := NRP.out; have q1 := NRP.out.symm;have t0 : wr.cell? ⟨gP, 0, none⟩ = some (.int .i64 e) := (ae BKP.out 0).trans rfl;have t1 : wr.cell? ⟨gP, 1, none⟩ = some (.slice Ao (arE ks).length co) := (ae BKP.out 1).trans rfl;have t2 : wr.cell? ⟨gR, 0, none⟩ = some (.int .i64 0) := (ae BKR.out 0).trans rfl;have t3 : wr.cell? ⟨gR, 1, none⟩ = some (.slice none 0 0) := (ae BKR.out 1).trans rfl;have f0 := ai BKR.out 0;have f1 := ai BKR.out 1;go_wp2_with fail
   refine bodyPost_ret (results_cell_row rfl _ _ gR 64 #[.int .i64 e, .slice Ao (arE ks).length co] (0, 0) _ rfl (by refine bL (cs := #[.int .i64 e, .slice none 0 0]) ?_ 1 _ rfl; refine bL (cs := #[.int .i64 0, .slice none 0 0]) ?_ 0 _ rfl; exact BKR.out) Try.underlying64 rfl (by kernel_rfl)) rfl ?_;exact ⟨_, rfl, Kd.bB (Kd.jS (p := ⟨gR, 1, none⟩) (Kd.jS (p := ⟨gR, 0, none⟩) (Kd.bB HO.out (fun k_ hk => (⟨hk, hk.1⟩ : _ ∧ k_ ≠ gR))) (fun _ hk => hk.2) (.int .i64 e)) (fun _ hk => hk.2) (.slice Ao (arE ks).length co)) (fun _ hk => trivial), QE (QE HB.out GR.out) GR.out⟩
mutual
def smT : dU → Bool
 | ⟨_, ks⟩ => decide (ks.length ≤ 1000000) && axj ks
def axj : List dU → Bool
 | [] => true
 | d :: ds => smT d && axj ds
end
mutual
theorem ayj : ∀ d, smT d = true → ayz d
 | ⟨e, ks⟩ => by
  rw [smT, Bool.and_eq_true, decide_eq_true_eq];rintro ⟨h1, h2⟩;exact ayz.mk ⟨e, ks⟩ h1 (awD ks h2)
theorem awD : ∀ ks, axj ks = true → ∀ v, v ∈ ks → ayz v
 | [] => fun _ v hv => by cases hv
 | d :: ds => by
  rw [axj, Bool.and_eq_true];rintro ⟨h1, h2⟩ v hv;have k1 := ayj d h1;have k2 := awD ds h2;rcases List.mem_cons.1 hv with e | hv
  ·rw [e]; exact k1
  ·exact k2 v hv
end
theorem ay8 : ∀ l : List dU, (∀ v, v ∈ l → smT v = true) → axj l = true
 | [], _ => by rw [axj]
 | d :: l, h => by rw [axj, h d (List.mem_cons_self ..), ay8 l (fun v hv => h v (List.mem_cons_of_mem _ hv))]; rfl
def apm.j (k : Nat) (T N S : Int) (rs : List KH) (ins : List Int) (h : Int) : Option (Int × (List S64) × Int) :=
 (Be.f k T N S rs ins).bind fun g => (bA.f k g.1 g.2 h).bind fun b => if b.2.2 = 0 then (if smT ⟨b.1, b.2.1⟩ = true then some (b.1, arE b.2.1, 0) else none) else some (0, ([] : List S64), b.2.2)
def apm.f (k : Nat) (T N S : Int) (rs : List KH) (ins : List Int) (h : Int) : Option (Int × (List S64) × Int) :=
 (an2.f k T N S rs ins).bind fun v => (aqQ.f k T N S rs ins).bind fun ok => if ok = true then (if h < 0 then some (0, ([] : List S64), 2) else (if h ≥ N then some (0, ([] : List S64), 2) else (if h < (v.length : Int) then (if (bJ v h).f0 ≥ 1099511627776 then some (0, ([] : List S64), 6) else (if (bJ v h).f1 > 1000 then some (0, ([] : List S64), 11) else apm.j k T N S rs ins h)) else none))) else some (0, ([] : List S64), 1)
theorem apm.mono : ∀ a0 a1 a2 a3 a4 a5 k, dz (apm.f k a0 a1 a2 a3 a4 a5) (apm.f (k + 1) a0 a1 a2 a3 a4 a5) := by
 intro a0 a1 a2 a3 a4 a5 k;unfold apm.f apm.j;repeat' first
   | (with_reducible exact Be.mono _ _ _ _ _ _)
   | (with_reducible exact aqQ.mono _ _ _ _ _ _)
   | (with_reducible exact an2.mono _ _ _ _ _ _)
   | (with_reducible exact bA.mono _ _ _ _)
   | (with_reducible exact dz.refl _)
   | (with_reducible exact dz.none _)
   | (with_reducible refine dz.ite ?_ ?_)
   | (with_reducible refine dz.bind ?_ (fun _ => ?_))
set_option maxRecDepth 100000 in
set_option maxHeartbeats 8000000 in
theorem apm.calls (k : Nat) (T N S : Int) (A : Option Addr) (c : Nat) (rs : List KH) (AI : Option Addr) (ci : Nat) (ins : List Int) (h : Int) (r1 : Int) (r2 : List S64) (r3 : Int) (w : World) (hC : Kd.C Md w A rs.length rs) (hc : rs.length ≤ c) (hCI : Kd.C (Kd.int .i64) w AI ins.length ins) (hci : ins.length ≤ ci) (hf : apm.f k T N S rs ins h = some (r1, r2, r3)) :
  Calls Try.prog 51 #[.agg #[.int .i64 T, .int .i64 N, .int .i64 S, .slice A rs.length c], .slice AI ins.length ci, .int .i64 h] w fun e w' => ∃ EF : Value, e = .returned (.tuple #[.agg #[.int .i64 r1, EF], .int .i64 r3]) ∧ Kd.R OG 64 w' w.heap.size (fun _ => True) EF r2 ∧ Below w.heap.size w w' := by
 have Hm := Try.underlying27;have hu64 := Try.underlying64;have aOC := Try.underlying105;have HC := aa.mk hC;have HCI := aa.mk hCI;clear hC hCI;unfold apm.f at hf;obtain ⟨v, hv, hf⟩ := Option.bind_eq_some_iff.1 hf;obtain ⟨ok, ho, hf⟩ := Option.bind_eq_some_iff.1 hf;have HV := aa.mk hv;have HO := aa.mk ho;have HF := aa.mk hf;clear hv ho hf;have hmf : ∀ (fn : Fn) (first cap : Array Value) (w : World), (Instr.makeFunc fn first cap).run Try.prog w = .ok (.func fn first cap) w := fun _ _ _ _ => rfl
 go_enter Try.func51, Try.ntmps51
 go_upto_region 1 with (fail)
 have ER := eX w (.cells #[.int .i64 T, .int .i64 N, .int .i64 S, .slice A rs.length c] 58);have hA1 := eX (w.alloc (.cells #[.int .i64 T, .int .i64 N, .int .i64 S, .slice A rs.length c] 58)) (.cells #[.int .i64 0, .slice none 0 0] 64);have hs1 : (w.alloc (.cells #[.int .i64 T, .int .i64 N, .int .i64 S, .slice A rs.length c] 58)).heap.size = w.heap.size + 1 := (by show (w.heap.push _).size = _; simp);have Dt := aa.mk (aM ER.1 hA1.1);have H1 := aa.mk (aC ER.2 hA1.1);have H2 := aa.mk hA1.2;rw [hs1] at H2;obtain ⟨gB, eB⟩ : ∃ g, g = w.heap.size := ⟨_, rfl⟩;obtain ⟨gR, eR⟩ : ∃ g, g = w.heap.size + 1 := ⟨_, rfl⟩;have GR := aa.mk (show w.heap.size ≤ gR by omega);rw [← eR] at H2 ⊢;rw [← eB] at H1 ⊢;clear eB eR hs1 ER hA1;generalize ((w.alloc (.cells #[.int .i64 T, .int .i64 N, .int .i64 S, .slice A rs.length c] 58)).alloc (.cells #[.int .i64 0, .slice none 0 0] 64)) = w1 at *;have Gy : aa (∀ w', Below w1.heap.size w1 w' → w'.cell? ⟨gB, 0, none⟩ = some (.int .i64 T) ∧ w'.cell? ⟨gB, 1, none⟩ = some (.int .i64 N) ∧ w'.cell? ⟨gB, 2, none⟩ = some (.int .i64 S) ∧ w'.cell? ⟨gB, 3, none⟩ = some (.slice A rs.length c) ∧ w'.cell? ⟨gR, 0, none⟩ = some (.int .i64 0) ∧ w'.cell? ⟨gR, 1, none⟩ = some (.slice none 0 0) ∧ w'.frozen? ⟨gR, 0, none⟩ = false ∧ w'.frozen? ⟨gR, 1, none⟩ = false) := ⟨fun w' h => ⟨(ae (aC H1.out h) 0).trans rfl, (ae (aC H1.out h) 1).trans rfl, (ae (aC H1.out h) 2).trans rfl, (ae (aC H1.out h) 3).trans rfl, (ae (aC H2.out h) 0).trans rfl, (ae (aC H2.out h) 1).trans rfl, ai (aC H2.out h) 0, ai (aC H2.out h) 1⟩⟩;obtain ⟨c0, c1, c2, c3, d0, d1, f0, f1⟩ := Gy.out w1 (Below.refl _ _)
 cases ok with
 | false =>
  have HF1 := HF.out;rw [if_neg (by decide)] at HF1;injection HF1 with e1
  injection e1 with e1 e2
  injection e2 with e2 e3
  subst e1 e2 e3;go_wp2_with (first | (go_at_call 49; refine (an2.calls k T N S A c rs AI ci ins v w1 (Kd.bF HC.out Dt.out) hc (Kd.bF HCI.out Dt.out) hci HV.out).mono ?_; rintro x w2 ⟨vv, rfl, hR, hB⟩; obtain ⟨Av, cv, rfl, hcv, hCv⟩ := Kd.oK hR; have Mf := aa.mk (aM Dt.out hB); have UW := aa.mk hCv; have HB2 := aa.mk hB; clear hB c0 c1 c2 c3 d0 d1 f0 f1 hR hCv; obtain ⟨c0, c1, c2, c3, d0, d1, f0, f1⟩ := Gy.out w2 HB2.out) | (go_at_call 87; refine (aqQ.calls k T N S A c rs AI ci ins false w2 (Kd.bF HC.out Mf.out) hc (Kd.bF HCI.out Mf.out) hci HO.out).mono ?_; rintro x w3 ⟨rfl, hB⟩; have HQ3 := aa.mk (aM Mf.out hB); have HB3 := aa.mk (aM HB2.out hB); have awE := aa.mk (Kd.bF UW.out hB); clear hB c0 c1 c2 c3 d0 d1 f0 f1; obtain ⟨c0, c1, c2, c3, d0, d1, f0, f1⟩ := Gy.out w3 HB3.out))
  refine bodyPost_ret (jr rfl _ _ gR 64 #[.int .i64 0, .slice none 0 0] (0, 0) _ rfl (by refine bL (cs := #[.int .i64 0, .slice none 0 0]) ?_ 1 _ rfl; refine bL (cs := #[.int .i64 0, .slice none 0 0]) ?_ 0 _ rfl; exact aC H2.out HB3.out) Try.underlying64 rfl (by kernel_rfl)) rfl ?_;exact ⟨_, rfl, Kd.qf _ _ _ _ _, QE (QE HQ3.out GR.out) GR.out⟩
 | true =>
  have HF1 := HF.out;rw [if_pos rfl] at HF1;by_cases g1 : h < 0
  ·rw [if_pos g1] at HF1;injection HF1 with e1
   injection e1 with e1 e2
   injection e2 with e2 e3
   subst e1 e2 e3;go_wp2_with (first | (go_at_call 49; refine (an2.calls k T N S A c rs AI ci ins v w1 (Kd.bF HC.out Dt.out) hc (Kd.bF HCI.out Dt.out) hci HV.out).mono ?_; rintro x w2 ⟨vv, rfl, hR, hB⟩; obtain ⟨Av, cv, rfl, hcv, hCv⟩ := Kd.oK hR; have Mf := aa.mk (aM Dt.out hB); have UW := aa.mk hCv; have HB2 := aa.mk hB; clear hB c0 c1 c2 c3 d0 d1 f0 f1 hR hCv; obtain ⟨c0, c1, c2, c3, d0, d1, f0, f1⟩ := Gy.out w2 HB2.out) | (go_at_call 87; refine (aqQ.calls k T N S A c rs AI ci ins true w2 (Kd.bF HC.out Mf.out) hc (Kd.bF HCI.out Mf.out) hci HO.out).mono ?_; rintro x w3 ⟨rfl, hB⟩; have HQ3 := aa.mk (aM Mf.out hB); have HB3 := aa.mk (aM HB2.out hB); have awE := aa.mk (Kd.bF UW.out hB); clear hB c0 c1 c2 c3 d0 d1 f0 f1; obtain ⟨c0, c1, c2, c3, d0, d1, f0, f1⟩ := Gy.out w3 HB3.out))
   refine bodyPost_ret (jr rfl _ _ gR 64 #[.int .i64 0, .slice none 0 0] (0, 0) _ rfl (by refine bL (cs := #[.int .i64 0, .slice none 0 0]) ?_ 1 _ rfl; refine bL (cs := #[.int .i64 0, .slice none 0 0]) ?_ 0 _ rfl; exact aC H2.out HB3.out) Try.underlying64 rfl (by kernel_rfl)) rfl ?_;exact ⟨_, rfl, Kd.qf _ _ _ _ _, QE (QE HQ3.out GR.out) GR.out⟩
  ·rw [if_neg g1] at HF1;by_cases g2 : h ≥ N
   ·rw [if_pos g2] at HF1;injection HF1 with e1
    injection e1 with e1 e2
    injection e2 with e2 e3
    subst e1 e2 e3;go_wp2_with (first | (go_at_call 49; refine (an2.calls k T N S A c rs AI ci ins v w1 (Kd.bF HC.out Dt.out) hc (Kd.bF HCI.out Dt.out) hci HV.out).mono ?_; rintro x w2 ⟨vv, rfl, hR, hB⟩; obtain ⟨Av, cv, rfl, hcv, hCv⟩ := Kd.oK hR; have Mf := aa.mk (aM Dt.out hB); have UW := aa.mk hCv; have HB2 := aa.mk hB; clear hB c0 c1 c2 c3 d0 d1 f0 f1 hR hCv; obtain ⟨c0, c1, c2, c3, d0, d1, f0, f1⟩ := Gy.out w2 HB2.out) | (go_at_call 87; refine (aqQ.calls k T N S A c rs AI ci ins true w2 (Kd.bF HC.out Mf.out) hc (Kd.bF HCI.out Mf.out) hci HO.out).mono ?_; rintro x w3 ⟨rfl, hB⟩; have HQ3 := aa.mk (aM Mf.out hB); have HB3 := aa.mk (aM HB2.out hB); have awE := aa.mk (Kd.bF UW.out hB); clear hB c0 c1 c2 c3 d0 d1 f0 f1; obtain ⟨c0, c1, c2, c3, d0, d1, f0, f1⟩ := Gy.out w3 HB3.out))
    refine bodyPost_ret (jr rfl _ _ gR 64 #[.int .i64 0, .slice none 0 0] (0, 0) _ rfl (by refine bL (cs := #[.int .i64 0, .slice none 0 0]) ?_ 1 _ rfl; refine bL (cs := #[.int .i64 0, .slice none 0 0]) ?_ 0 _ rfl; exact aC H2.out HB3.out) Try.underlying64 rfl (by kernel_rfl)) rfl ?_;exact ⟨_, rfl, Kd.qf _ _ _ _ _, QE (QE HQ3.out GR.out) GR.out⟩
   ·rw [if_neg g2] at HF1;by_cases g3 : h < (v.length : Int)
    ·rw [if_pos g3] at HF1;have g1' : 0 ≤ h := by omega
     by_cases g4 : (bJ v h).f0 ≥ 1099511627776
     ·rw [if_pos g4] at HF1;injection HF1 with e1
      injection e1 with e1 e2
      injection e2 with e2 e3
      subst e1 e2 e3;go_wp2_with (first | (go_at_call 49; refine (an2.calls k T N S A c rs AI ci ins v w1 (Kd.bF HC.out Dt.out) hc (Kd.bF HCI.out Dt.out) hci HV.out).mono ?_; rintro x w2 ⟨vv, rfl, hR, hB⟩; obtain ⟨Av, cv, rfl, hcv, hCv⟩ := Kd.oK hR; have Mf := aa.mk (aM Dt.out hB); have UW := aa.mk hCv; have HB2 := aa.mk hB; clear hB c0 c1 c2 c3 d0 d1 f0 f1 hR hCv; obtain ⟨c0, c1, c2, c3, d0, d1, f0, f1⟩ := Gy.out w2 HB2.out) | (go_at_call 87; refine (aqQ.calls k T N S A c rs AI ci ins true w2 (Kd.bF HC.out Mf.out) hc (Kd.bF HCI.out Mf.out) hci HO.out).mono ?_; rintro x w3 ⟨rfl, hB⟩; have HQ3 := aa.mk (aM Mf.out hB); have HB3 := aa.mk (aM HB2.out hB); have awE := aa.mk (Kd.bF UW.out hB); clear hB c0 c1 c2 c3 d0 d1 f0 f1; obtain ⟨c0, c1, c2, c3, d0, d1, f0, f1⟩ := Gy.out w3 HB3.out; obtain ⟨ad, eA, t0, t1⟩ := aRX awE.out h g1' g3; subst eA))
      refine bodyPost_ret (jr rfl _ _ gR 64 #[.int .i64 0, .slice none 0 0] (0, 0) _ rfl (by refine bL (cs := #[.int .i64 0, .slice none 0 0]) ?_ 1 _ rfl; refine bL (cs := #[.int .i64 0, .slice none 0 0]) ?_ 0 _ rfl; exact aC H2.out HB3.out) Try.underlying64 rfl (by kernel_rfl)) rfl ?_;exact ⟨_, rfl, Kd.qf _ _ _ _ _, QE (QE HQ3.out GR.out) GR.out⟩
     ·rw [if_neg g4] at HF1;by_cases g5 : (bJ v h).f1 > 1000
      ·rw [if_pos g5] at HF1;injection HF1 with e1
       injection e1 with e1 e2
       injection e2 with e2 e3
       subst e1 e2 e3;go_wp2_with (first | (go_at_call 49; refine (an2.calls k T N S A c rs AI ci ins v w1 (Kd.bF HC.out Dt.out) hc (Kd.bF HCI.out Dt.out) hci HV.out).mono ?_; rintro x w2 ⟨vv, rfl, hR, hB⟩; obtain ⟨Av, cv, rfl, hcv, hCv⟩ := Kd.oK hR; have Mf := aa.mk (aM Dt.out hB); have UW := aa.mk hCv; have HB2 := aa.mk hB; clear hB c0 c1 c2 c3 d0 d1 f0 f1 hR hCv; obtain ⟨c0, c1, c2, c3, d0, d1, f0, f1⟩ := Gy.out w2 HB2.out) | (go_at_call 87; refine (aqQ.calls k T N S A c rs AI ci ins true w2 (Kd.bF HC.out Mf.out) hc (Kd.bF HCI.out Mf.out) hci HO.out).mono ?_; rintro x w3 ⟨rfl, hB⟩; have HQ3 := aa.mk (aM Mf.out hB); have HB3 := aa.mk (aM HB2.out hB); have awE := aa.mk (Kd.bF UW.out hB); clear hB c0 c1 c2 c3 d0 d1 f0 f1; obtain ⟨c0, c1, c2, c3, d0, d1, f0, f1⟩ := Gy.out w3 HB3.out; obtain ⟨ad, eA, t0, t1⟩ := aRX awE.out h g1' g3; subst eA))
       refine bodyPost_ret (jr rfl _ _ gR 64 #[.int .i64 0, .slice none 0 0] (0, 0) _ rfl (by refine bL (cs := #[.int .i64 0, .slice none 0 0]) ?_ 1 _ rfl; refine bL (cs := #[.int .i64 0, .slice none 0 0]) ?_ 0 _ rfl; exact aC H2.out HB3.out) Try.underlying64 rfl (by kernel_rfl)) rfl ?_;exact ⟨_, rfl, Kd.qf _ _ _ _ _, QE (QE HQ3.out GR.out) GR.out⟩
      ·rw [if_neg g5] at HF1;unfold apm.j at HF1;obtain ⟨⟨gn, ge⟩, hG, HF1⟩ := Option.bind_eq_some_iff.1 HF1;obtain ⟨⟨b0, b1, b2⟩, hBE, HF1⟩ := Option.bind_eq_some_iff.1 HF1;have HG := aa.mk hG;have HBE := aa.mk hBE;have HE := aa.mk HF1;clear hG hBE HF1 HF;go_upto_region 11 with (first | (go_at_call 49; refine (an2.calls k T N S A c rs AI ci ins v w1 (Kd.bF HC.out Dt.out) hc (Kd.bF HCI.out Dt.out) hci HV.out).mono ?_; rintro x w2 ⟨vv, rfl, hR, hB⟩; obtain ⟨Av, cv, rfl, hcv, hCv⟩ := Kd.oK hR; have Mf := aa.mk (aM Dt.out hB); have UW := aa.mk hCv; have HB2 := aa.mk hB; clear hB c0 c1 c2 c3 d0 d1 f0 f1 hR hCv; obtain ⟨c0, c1, c2, c3, d0, d1, f0, f1⟩ := Gy.out w2 HB2.out) | (go_at_call 87; refine (aqQ.calls k T N S A c rs AI ci ins true w2 (Kd.bF HC.out Mf.out) hc (Kd.bF HCI.out Mf.out) hci HO.out).mono ?_; rintro x w3 ⟨rfl, hB⟩; have HQ3 := aa.mk (aM Mf.out hB); have HB3 := aa.mk (aM HB2.out hB); have awE := aa.mk (Kd.bF UW.out hB); clear hB c0 c1 c2 c3 d0 d1 f0 f1; obtain ⟨c0, c1, c2, c3, d0, d1, f0, f1⟩ := Gy.out w3 HB3.out; obtain ⟨ad, eA, t0, t1⟩ := aRX awE.out h g1' g3; subst eA) | (go_at_call 88; refine (Be.calls k T N S A c rs AI ci ins gn ge w3 (Kd.bF HC.out HQ3.out) hc (Kd.bF HCI.out HQ3.out) hci HG.out).mono ?_; rintro x w4 ⟨v4, rfl, hR, hB⟩; obtain ⟨Ag, cg, rfl, hcg, hCg⟩ := Kd.azd hR; have HQ4 := aa.mk (aM HQ3.out hB); have HCG := aa.mk hCg; have Ju := aa.mk (aM HB3.out hB); clear hB hR hCg t0 t1 c0 c1 c2 c3 d0 d1 f0 f1; obtain ⟨c0, c1, c2, c3, d0, d1, f0, f1⟩ := Gy.out w4 Ju.out) | (go_at_call 36; refine (bA.calls k gn Ag cg ge h b0 b1 b2 w4 HCG.out hcg HBE.out).mono ?_; rintro x w5 ⟨v5, rfl, hR, hB⟩; obtain ⟨Ad, cd, rfl, hcd, hCd⟩ := Kd.oK hR; have HQ5 := aa.mk (aM HQ4.out hB); have HCD := aa.mk hCd; have vY := aa.mk (aM Ju.out hB); clear hB hR hCd c0 c1 c2 c3 d0 d1 f0 f1; obtain ⟨c0, c1, c2, c3, d0, d1, f0, f1⟩ := Gy.out w5 vY.out))
       have hA := eX w5 (.cells #[.int .i64 b0, .slice Ad b1.length cd] 27);have HQ6 := aa.mk (aM HQ5.out hA.1);have Gp := aa.mk (aM vY.out hA.1);have aL6 := aa.mk (Kd.bF HCD.out hA.1);have HD := aa.mk hA.2;obtain ⟨gD, eD⟩ : ∃ g, g = w5.heap.size := ⟨_, rfl⟩;have GD := aa.mk (show w.heap.size ≤ gD by have := HQ5.out.size; omega);rw [← eD] at HD ⊢;clear eD hA HCD c0 c1 c2 c3 d0 d1 f0 f1;generalize (w5.alloc (.cells #[.int .i64 b0, .slice Ad b1.length cd] 27)) = w6 at *;obtain ⟨c0, c1, c2, c3, d0, d1, f0, f1⟩ := Gy.out w6 Gp.out;by_cases hb2 : b2 = 0
       ·subst hb2;have HE1 := HE.out;rw [if_pos rfl] at HE1;by_cases hsm : smT ⟨b0, b1⟩ = true
        ·rw [if_pos hsm] at HE1;injection HE1 with e1
         injection e1 with e1 e2
         injection e2 with e2 e3
         subst e1 e2 e3;go_upto_region 14 with (fail)
         have hA := eX w6 (.cells #[.nilFunc] 105);obtain ⟨gF, eF⟩ : ∃ g, g = w6.heap.size := ⟨_, rfl⟩;have hX := hA.2;have hA1 := hA.1;rw [← eF] at hX ⊢;clear hA;generalize (w6.alloc (.cells #[.nilFunc] 105)) = wa at *;have y0 : wa.cell? ⟨gF, 0, none⟩ = some .nilFunc := (ae hX 0).trans rfl;have y1 := ai hX 0;have HST := aa.mk (QE (g := gF) (j := 0) (v := .func (.func 89) #[] #[.pointer (some ⟨gF, 0, none⟩)]) hA1 (Nat.le_of_eq eF.symm));have HX7 := aa.mk (bL (cs := #[.nilFunc]) hX 0 (.func (.func 89) #[] #[.pointer (some ⟨gF, 0, none⟩)]) rfl);clear hX hA1 eF;go_upto_region 15 with (fail)
         clear y0 y1;generalize (wa.setCell ⟨gF, 0, none⟩ (.func (.func 89) #[] #[.pointer (some ⟨gF, 0, none⟩)])) = w7 at *;have HQ7 := aa.mk (aM HQ6.out HST.out);have Co := aa.mk (aM Gp.out HST.out);have aL7 := aa.mk (Kd.bF aL6.out HST.out);have HD7 := aa.mk (aC HD.out HST.out);clear HST c0 c1 c2 c3 d0 d1 f0 f1;obtain ⟨c0, c1, c2, c3, d0, d1, f0, f1⟩ := Gy.out w7 Co.out;have u0 : w7.cell? ⟨gF, 0, none⟩ = some (.func (.func 89) #[] #[.pointer (some ⟨gF, 0, none⟩)]) := (ae HX7.out 0).trans rfl;have u1 : w7.cell? ⟨gD, 0, none⟩ = some (.int .i64 b0) := (ae HD7.out 0).trans rfl;have u2 : w7.cell? ⟨gD, 1, none⟩ = some (.slice Ad b1.length cd) := (ae HD7.out 1).trans rfl;have aL8 := aa.mk (ayB (ayj ⟨b0, b1⟩ hsm) Ad cd gF w7 aL7.out hcd HX7.out);go_wp2_with (first | (go_at_call 89; refine aL8.out.mono ?_; rintro x w8 ⟨v8, rfl, hR, hB⟩; obtain ⟨Ap, cp, eP8⟩ := Kd.fQ hR; subst eP8; have HQ8 := aa.mk (aM HQ7.out hB); have HB8 := aa.mk (aM Co.out hB); have HR8 := aa.mk (Kd.iL (Kd.bB (ok' := fun k_ => k_ ≠ gR) (Kd.jI hR) (fun k_ hk he => by have := hk.2.1; have := bE (aC H2.out Co.out); omega)) HQ7.out.size); clear u0 u1 u2 hB hR c0 c1 c2 c3 d0 d1 f0 f1; obtain ⟨c0, c1, c2, c3, d0, d1, f0, f1⟩ := Gy.out w8 HB8.out))
         refine bodyPost_ret (jr rfl _ _ gR 64 #[.int .i64 b0, .slice Ap (arE b1).length cp] (0, 0) _ rfl (by refine bL (cs := #[.int .i64 b0, .slice none 0 0]) ?_ 1 _ rfl; refine bL (cs := #[.int .i64 0, .slice none 0 0]) ?_ 0 _ rfl; exact aC H2.out HB8.out) Try.underlying64 rfl (by kernel_rfl)) rfl ?_;exact ⟨_, rfl, Kd.bB (Kd.jS (p := ⟨gR, 1, none⟩) (Kd.jS (p := ⟨gR, 0, none⟩) (Kd.bB HR8.out (fun k_ hk => (⟨hk, hk⟩ : _ ∧ k_ ≠ gR))) (fun _ hk => hk.2) (.int .i64 b0)) (fun _ hk => hk.2) (.slice Ap (arE b1).length cp)) (fun _ hk => trivial), QE (QE HQ8.out GR.out) GR.out⟩
        ·rw [if_neg hsm] at HE1
         cases HE1
       ·have HE1 := HE.out;rw [if_neg hb2] at HE1;injection HE1 with e1
        injection e1 with e1 e2
        injection e2 with e2 e3
        subst e1 e2 e3;go_wp2_with fail
        refine bodyPost_ret (jr rfl _ _ gR 64 #[.int .i64 0, .slice none 0 0] (0, 0) _ rfl (by refine bL (cs := #[.int .i64 0, .slice none 0 0]) ?_ 1 _ rfl; refine bL (cs := #[.int .i64 0, .slice none 0 0]) ?_ 0 _ rfl; exact aC H2.out Gp.out) Try.underlying64 rfl (by kernel_rfl)) rfl ?_;exact ⟨_, rfl, Kd.qf _ _ _ _ _, QE (QE HQ6.out GR.out) GR.out⟩
    ·rw [if_neg g3] at HF1
     cases HF1
end Go.Proofs.Ytamimodkcbbpmaa.Pr
end
section
namespace Go.Proofs.Ytamimodkcbbpmaa.Pr
open Go.RowKit Go.Proofs.YtamimodkcbbpmaaW.PrintWords Go.Proofs.YtamimodkcbbpmaaW.PrintLast Go.Proofs.YtamimodkcbbpmaaW.PrintMore Go.Proofs.YtamimodkcbbpmaaXW
attribute [local go_sem] aFh ky lX lY jf jg kz kC
set_option linter.unusedVariables false
set_option linter.unusedSimpArgs false
def aqu.f  : Option (Int × Int × Int × (List (KH)) × List Int) := some (1, 2, 0, (([(⟨4, 0, 1, 1, 2, 0⟩ : KH), (⟨2, 1, 0, 0, 0, 0⟩ : KH), (⟨1, 1, 0, 0, 5, 0⟩ : KH)] : List (KH))), (([4] : List Int)))
set_option maxHeartbeats 8000000 in
set_option maxRecDepth 100000 in
theorem aqu.calls  (r1 : Int) (r2 : Int) (r3 : Int) (r4 : List (KH)) (r5 : List Int) (w : World) (h : aqu.f  = some (r1, r2, r3, r4, r5)) :
  Calls Try.prog 86 #[] w fun e w' => ∃ v3_ v4_ : Value, e = .returned (.tuple #[.agg #[.int .i64 r1, .int .i64 r2, .int .i64 r3, v3_], v4_]) ∧ Kd.R Md 75 w' w.heap.size (fun _ => True) v3_ r4 ∧ Kd.R (Kd.int .i64) 3 w' w.heap.size (fun _ => True) v4_ r5 ∧ Below w.heap.size w w' := by
 have avx := Try.underlying58;have azj := Try.underlying75;have HB := aa.mk (Below.refl w.heap.size w);have H : (some (1, 2, 0, (([(⟨4, 0, 1, 1, 2, 0⟩ : KH), (⟨2, 1, 0, 0, 0, 0⟩ : KH), (⟨1, 1, 0, 0, 5, 0⟩ : KH)] : List (KH))), (([4] : List Int)))) = some (r1, r2, r3, r4, r5) := h;clear h;obtain ⟨ay9, awF⟩ : ∃ y_ : List (KH), y_ = (([(⟨4, 0, 1, 1, 2, 0⟩ : KH), (⟨2, 1, 0, 0, 0, 0⟩ : KH), (⟨1, 1, 0, 0, 5, 0⟩ : KH)] : List (KH))) := ⟨_, rfl⟩;replace H : (some (1, 2, 0, ay9, (([4] : List Int)))) = some (r1, r2, r3, r4, r5) := by first | (rw [awF]; with_reducible exact H) | (have Gn := (Option.bind_some _ _).symm.trans H; rw [awF]; with_reducible exact Gn) | (have Gn := (Option.bind_some _ _).symm.trans H; with_reducible exact Gn) | with_reducible exact H | (rw [awF]; exact H) | exact H
 have aAU := aa.mk awF;clear awF;obtain ⟨aL9, awV⟩ : ∃ y_ : List Int, y_ = (([4] : List Int)) := ⟨_, rfl⟩;replace H : (some (1, 2, 0, ay9, aL9)) = some (r1, r2, r3, r4, r5) := by first | (rw [awV]; with_reducible exact H) | (have Gn := (Option.bind_some _ _).symm.trans H; rw [awV]; with_reducible exact Gn) | (have Gn := (Option.bind_some _ _).symm.trans H; with_reducible exact Gn) | with_reducible exact H | (rw [awV]; exact H) | exact H
 have aAV := aa.mk awV;clear awV;simp only [Option.some.injEq, Prod.mk.injEq] at H;obtain ⟨rfl, rfl, rfl, rfl, rfl⟩ := H;go_enter Try.func86, Try.ntmps86
 go_wp2_with (first | ((with_reducible refine bM (N := 0) rfl ?_); refine bG ?hg (N := 0) ?hd (cs := #[.int .i64 0, .int .i64 0, .int .i64 0, .slice none 0 0]) (t := 58) ?hr ?_; (case hd => rfl); (case hg => rfl); (case hr => first | (go_simp; done) | (go_simp; rfl)); intro arV hg w1 bR hb; have bP := aa.mk (aM (bO HB) hb); have bQ := aa.mk (bR); have bT := aa.mk ((by rw [hg]; exact (aK (bO HB)) : w.heap.size ≤ arV)); have di := aa.mk ((by rw [hg]; exact (aK (bO HB)) : w.heap.size ≤ arV)); clear HB; have HB := bP; have arC := bQ; have aOI := bT; have aOJ := di; clear bP bQ bT di; clear hb bR hg) | ((with_reducible refine bM (N := 5) rfl ?_); refine Kd.Si Md _ 75 ?hg (N := 5) ?hd (xs := ([(⟨4, 0, 1, 1, 2, 0⟩ : KH), (⟨2, 1, 0, 0, 0, 0⟩ : KH), (⟨1, 1, 0, 0, 5, 0⟩ : KH)] : List (KH))) (inner := [.int .i64 4, .int .i64 0, .int .i64 1, .int .i64 1, .int .i64 2, .int .i64 0, .int .i64 2, .int .i64 1, .int .i64 0, .int .i64 0, .int .i64 0, .int .i64 0, .int .i64 1, .int .i64 1, .int .i64 0, .int .i64 0, .int .i64 5, .int .i64 0]) (ok := fun _ => True) (lV := fun _ => True) ?hr ?hp (fun _ hk => hk) trivial (Below.refl _ _) (Nat.le_refl _) (by simp) ?_; (case hd => rfl); (case hg => rfl); (case hr => first | (go_simp; done) | (go_simp; rfl)); (case hp => exact (fJ.c6 (show Kd.M Md _ _ _ (⟨4, 0, 1, 1, 2, 0⟩ : KH) [.int .i64 4, .int .i64 0, .int .i64 1, .int .i64 1, .int .i64 2, .int .i64 0] from (afw _ _ _ (⟨4, 0, 1, 1, 2, 0⟩ : KH) )) (fJ.c6 (show Kd.M Md _ _ _ (⟨2, 1, 0, 0, 0, 0⟩ : KH) [.int .i64 2, .int .i64 1, .int .i64 0, .int .i64 0, .int .i64 0, .int .i64 0] from (afw _ _ _ (⟨2, 1, 0, 0, 0, 0⟩ : KH) )) (fJ.c6 (show Kd.M Md _ _ _ (⟨1, 1, 0, 0, 5, 0⟩ : KH) [.int .i64 1, .int .i64 1, .int .i64 0, .int .i64 0, .int .i64 5, .int .i64 0] from (afw _ _ _ (⟨1, 1, 0, 0, 5, 0⟩ : KH) )) (fJ.none _ _))))); intro aQZ w2 ho3 hb hg_ UT; clear hg_ UT; (first | rw [← aAU.out] at ho3 | (simp only [Int.reduceToNat] at ho3; rw [← aAU.out] at ho3)); have bP := aa.mk (Kd.iL ho3 (aK (bO HB))); have bQ := aa.mk (aC (bk arC) hb); have bT := aa.mk (aM (bO HB) hb); clear arC; clear HB; have awW := bP; have arC := bQ; have HB := bT; clear bP bQ bT; clear hb ho3; obtain ⟨Ao4, co4, eo4⟩ := Kd.fQ awW.out; subst eo4) | ((with_reducible refine bM (N := 7) rfl ?_); refine Kd.Si (Kd.int .i64) _ 3 ?hg (N := 7) ?hd (xs := ([4] : List Int)) (inner := [.int .i64 4]) (ok := fun _ => True) (lV := fun _ => True) ?hr ?hp (fun _ hk => hk) trivial (Below.refl _ _) (Nat.le_refl _) (by simp) ?_; (case hd => rfl); (case hg => rfl); (case hr => first | (go_simp; done) | (go_simp; rfl)); (case hp => exact (fJ.one (show Kd.M (Kd.int .i64) _ _ _ 4 [.int .i64 4] from rfl) (fJ.none _ _))); intro aQ1 w5 ho6 hb hg_ UT; clear hg_ UT; (first | rw [← aAV.out] at ho6 | (simp only [Int.reduceToNat] at ho6; rw [← aAV.out] at ho6)); have bP := aa.mk (Kd.bu (by (with_reducible repeat (first | apply Kd.ay5 | apply Kd.eu | apply Kd.aaH)); exact awW.out) hb); have bQ := aa.mk (Kd.iL ho6 (aK (bO HB))); have bT := aa.mk (aC (bk arC) hb); have di := aa.mk (aM (bO HB) hb); clear awW; clear arC; clear HB; have awW := bP; have aFz := bQ; have arC := bT; have HB := di; clear bP bQ bT di; clear hb ho6; have ML : w5.cell? ⟨arV, 0, none⟩ = some (.int .i64 0) := (ae arC.out 0).trans rfl; have MM : w5.cell? ⟨arV, 1, none⟩ = some (.int .i64 0) := (ae arC.out 1).trans rfl; have arO : w5.cell? ⟨arV, 2, none⟩ = some (.int .i64 0) := (ae arC.out 2).trans rfl; have arP : w5.cell? ⟨arV, 3, none⟩ = some (.slice none 0 0) := (ae arC.out 3).trans rfl; have MN := ai arC.out 0; have MO := ai arC.out 1; have arQ := ai arC.out 2; have arR := ai arC.out 3))
 refine bodyPost_ret (jr rfl _ _ arV 58 #[.int .i64 1, .int .i64 2, .int .i64 0, .slice Ao4 ay9.length co4] (0, 0) _ rfl (by (with_reducible repeat (first | refine ax ?_ _ | refine az ?_ | refine au ?_ _)); refine bL (cs := #[.int .i64 1, .int .i64 2, .int .i64 0, .slice none 0 0]) ?_ 3 _ rfl; (with_reducible repeat (first | refine ax ?_ _ | refine az ?_ | refine au ?_ _)); refine bL (cs := #[.int .i64 1, .int .i64 2, .int .i64 0, .slice none 0 0]) ?_ 2 _ rfl; (with_reducible repeat (first | refine ax ?_ _ | refine az ?_ | refine au ?_ _)); refine bL (cs := #[.int .i64 1, .int .i64 0, .int .i64 0, .slice none 0 0]) ?_ 1 _ rfl; (with_reducible repeat (first | refine ax ?_ _ | refine az ?_ | refine au ?_ _)); refine bL (cs := #[.int .i64 0, .int .i64 0, .int .i64 0, .slice none 0 0]) ?_ 0 _ rfl; (with_reducible repeat (first | refine ax ?_ _ | refine az ?_ | refine au ?_ _)); exact arC.out) Try.underlying58 rfl (by kernel_rfl)) rfl ?_;exact ⟨_, _, by first | rfl | (simp [aW, aX] <;> rfl) | (simp [*, aW, aX] <;> rfl), by (with_reducible repeat (first | apply Kd.ay5 | apply Kd.eu | apply Kd.aaH)); exact Kd.bB (Kd.jS (p := ⟨arV, 3, none⟩) (Kd.jS (p := ⟨arV, 2, none⟩) (Kd.jS (p := ⟨arV, 1, none⟩) (Kd.jS (p := ⟨arV, 0, none⟩) (Kd.zV awW.out arC.out (by decide)) (fun _ hk => hk.2) (.int .i64 1)) (fun _ hk => hk.2) (.int .i64 2)) (fun _ hk => hk.2) (.int .i64 0)) (fun _ hk => hk.2) (.slice Ao4 ay9.length co4)) (fun _ hk => trivial), by (with_reducible repeat (first | apply Kd.ay5 | apply Kd.eu | apply Kd.aaH)); exact Kd.bB (Kd.jS (p := ⟨arV, 3, none⟩) (Kd.jS (p := ⟨arV, 2, none⟩) (Kd.jS (p := ⟨arV, 1, none⟩) (Kd.jS (p := ⟨arV, 0, none⟩) (Kd.zV aFz.out arC.out (by decide)) (fun _ hk => hk.2) (.int .i64 1)) (fun _ hk => hk.2) (.int .i64 2)) (fun _ hk => hk.2) (.int .i64 0)) (fun _ hk => hk.2) (.slice Ao4 ay9.length co4)) (fun _ hk => trivial), bO HB⟩
mutual
def Ae.j0 : Nat → Bool → Int → List (S64) → Int → List (S64) → Option (Bool)
 | 0, _, _, _, _, _ => none
 | k + 1, x19, auo, ar1, aup, ar8 => if x19 = true then (some false) else (Ae.j1 k auo ar1 aup ar8)
def Ae.j1 : Nat → Int → List (S64) → Int → List (S64) → Option (Bool)
 | 0, _, _, _, _ => none
 | k + 1, auo, ar1, aup, ar8 => Ae.l0 k 0 auo ar1 aup ar8
def Ae.l0 : Nat → Int → Int → List (S64) → Int → List (S64) → Option (Bool)
 | 0, _, _, _, _, _ => none
 | k + 1, x5, auo, ar1, aup, ar8 => if x5 < (ar1.length : Int) then (if 0 ≤ x5 then (if x5 < (ar8.length : Int) then ((Ae.f k ((FW ar1 x5).f0) ((FW ar1 x5).f1) ((FW ar8 x5).f0) ((FW ar8 x5).f1)).bind fun aAs => (if aAs = true then (Ae.l0 k (wrap64 (x5 + 1)) auo ar1 aup ar8) else (some false))) else (none)) else (none)) else (some true)
def Ae.f : Nat → Int → List (S64) → Int → List (S64) → Option (Bool)
 | 0, _, _, _, _ => none
 | k + 1, aR, aH, cK, cz => if aR = cK then (Ae.j0 k ((aH.length : Int) != (cz.length : Int)) aR aH cK cz) else (Ae.j0 k true aR aH cK cz)
end
theorem Ae.apw : ∀ k, (∀ y0 y1 y2 y3, dz (Ae.f k y0 y1 y2 y3) (Ae.f (k + 1) y0 y1 y2 y3)) ∧ (∀ y0 y1 y2 y3 y4, dz (Ae.j0 k y0 y1 y2 y3 y4) (Ae.j0 (k + 1) y0 y1 y2 y3 y4)) ∧ (∀ y0 y1 y2 y3, dz (Ae.j1 k y0 y1 y2 y3) (Ae.j1 (k + 1) y0 y1 y2 y3)) ∧ (∀ y0 y1 y2 y3 y4, dz (Ae.l0 k y0 y1 y2 y3 y4) (Ae.l0 (k + 1) y0 y1 y2 y3 y4))
 | 0 => ⟨fun _ _ _ _ r h => by simp [Ae.f] at h, fun _ _ _ _ _ r h => by simp [Ae.j0] at h, fun _ _ _ _ r h => by simp [Ae.j1] at h, fun _ _ _ _ _ r h => by simp [Ae.l0] at h⟩
 | k + 1 => by
  obtain ⟨jP, ih1, ih2, ih3⟩ := Ae.apw k;refine ⟨?_, ?_, ?_, ?_⟩;all_goals intros
  all_goals first | unfold Ae.f | unfold Ae.j0 | unfold Ae.j1 | unfold Ae.l0
  all_goals
   repeat' first
   | (with_reducible exact jP _ _ _ _)
   | (with_reducible exact ih1 _ _ _ _ _)
   | (with_reducible exact ih2 _ _ _ _)
   | (with_reducible exact ih3 _ _ _ _ _)
   | (with_reducible exact dz.refl _)
   | (with_reducible exact dz.none _)
   | (with_reducible refine dz.ite ?_ ?_)
   | (with_reducible refine dz.bind ?_ (fun _ => ?_))
   | exact jP _ _ _ _
   | exact ih1 _ _ _ _ _
   | exact ih2 _ _ _ _
   | exact ih3 _ _ _ _ _
   | exact dz.none _
   | refine dz.ite ?_ ?_
   | refine dz.bind ?_ (fun _ => ?_)
theorem Ae.mono : ∀ a0 a1 a2 a3 k, dz (Ae.f k a0 a1 a2 a3) (Ae.f (k + 1) a0 a1 a2 a3) := by
 intro a0 a1 a2 a3 k;obtain ⟨jP, ih1, ih2, ih3⟩ := Ae.apw k;exact jP a0 a1 a2 a3
def Ae.T6 : Bool × List (List Nat × List Nat) := (true, [([], []), ([0], [0]), ([], []), ([1, 2], [1, 2]), ([3], [3]), ([], []), ([5], [5]), ([], []), ([6, 7], [6, 7]), ([8], [8]), ([4, 9], [4, 9]), ([10], [10])])
def Ae.B6 : List Nat := [0, 1, 0, 7, 15, 0, 32, 0, 224, 480, 1023, 2047]
theorem Ae.Jt : iC .any (opsOf Try.f53 6) = Ae.T6 := by kernel_rfl
theorem Ae.axs : fo Ae.T6.2 Ae.B6 = true := by kernel_rfl
set_option maxHeartbeats 8000000 in
set_option maxRecDepth 100000 in
theorem Ae.calls (k : Nat) : ∀ (aR : Int) (bW : Option Addr) (bN : Nat) (aH : List (S64)) (cK : Int) (av3 : Option Addr) (lJ : Nat) (cz : List (S64)) (r : Bool) (w : World) (fw : Kd.C OG w bW aH.length aH) (fC : aH.length ≤ bN) (yz : Kd.C OG w av3 cz.length cz) (yA : cz.length ≤ lJ) (h : Ae.f k aR aH cK cz = some r),
  Calls Try.prog 53 #[.agg #[.int .i64 aR, .slice bW aH.length bN], .agg #[.int .i64 cK, .slice av3 cz.length lJ]] w fun e w' => e = .returned (.bool r) ∧ Below w.heap.size w w' := by
 induction k using Nat.strongRecOn with
 | _ k ih =>
 intro aR bW bN aH cK av3 lJ cz r w fw fC yz yA h
 cases k with
 | zero => exact absurd h (by simp [Ae.f])
 | succ k =>
 simp only [Ae.f] at h;have hu64 := Try.underlying64;have arT := aa.mk fw;have fP := aa.mk fC;clear fw fC;have ED := aa.mk yz;have TZ := aa.mk yA;clear yz yA;have HB := aa.mk (Below.refl w.heap.size w);have H : (if aR = cK then (Ae.j0 k ((aH.length : Int) != (cz.length : Int)) aR aH cK cz) else (Ae.j0 k true aR aH cK cz)) = some r := h;clear h;have Uo := aa.mk H;clear H;go_enter Try.func53, Try.ntmps53
 go_upto_region 1 with (first | ((with_reducible refine bM (N := 2) rfl ?_); (try (refine gG (by rfl) ?_; dsimp only)); refine bG ?hg (N := 2) ?hd (cs := #[.int .i64 aR, .slice bW aH.length bN]) (t := 64) ?hr ?_; (case hd => rfl); (case hg => rfl); (case hr => first | (go_simp; done) | (go_simp; rfl)); intro aqF hg w4 bR hb; have bP := aa.mk (aM (bO HB) hb); have bQ := aa.mk (bR); have bT := aa.mk ((by rw [hg]; exact (aK (bO HB)) : w.heap.size ≤ aqF)); have di := aa.mk ((by rw [hg]; exact (aK (bO HB)) : w.heap.size ≤ aqF)); clear HB; have HB := bP; have apy := bQ; have aOK := bT; have aOL := di; clear bP bQ bT di; clear hb bR hg) | ((with_reducible refine bM (N := 3) rfl ?_); (try (refine gG (by rfl) ?_; dsimp only)); refine bG ?hg (N := 3) ?hd (cs := #[.int .i64 cK, .slice av3 cz.length lJ]) (t := 64) ?hr ?_; (case hd => rfl); (case hg => rfl); (case hr => first | (go_simp; done) | (go_simp; rfl)); intro arW hg w5 bR hb; have bP := aa.mk (aC (bk apy) hb); have bQ := aa.mk (aM (bO HB) hb); have bT := aa.mk (bR); have di := aa.mk ((by rw [hg]; exact (aK (bO HB)) : w.heap.size ≤ arW)); have n4_ := aa.mk ((by rw [hg]; exact (aK (bO HB)) : w.heap.size ≤ arW)); have n5_ := aa.mk ((by rw [hg]; exact Nat.ne_of_lt (bE (bk apy)) : aqF ≠ arW)); have iG := aa.mk ((by rw [hg]; exact Nat.ne_of_gt (bE (bk apy)) : arW ≠ aqF)); clear apy; clear HB; have apy := bP; have HB := bQ; have aqi := bT; have aOM := di; have aON := n4_; have asc := n5_; have ase := iG; clear bP bQ bT di n4_ n5_ iG; clear hb bR hg))
 (try simp only [Act.put, List.setIfInBounds_toArray, List.set_cons_zero, List.set_cons_succ]);go_cut [19] (fun v19 wc => ∃ (kq : Nat) (Qr : Bool), v19 = .bool Qr ∧ aa (Ae.j0 kq Qr aR aH cK cz = some r) ∧ aa (kq ≤ k) ∧ aa (wc.heap[aqF]? = some (.cells #[.int .i64 aR, (.slice bW aH.length bN)] 64 (0, 0))) ∧ aa (wc.heap[arW]? = some (.cells #[.int .i64 cK, (.slice av3 cz.length lJ)] 64 (0, 0))) ∧ aa (Below w.heap.size w wc))
 case first =>
  have H := Uo.out;clear Uo;by_cases c6 : aR = cK
  ·rw [if_pos c6] at H;have Dy : (aR == cK) = true := beq_iff_eq.mpr c6;have XA : (aR != cK) = false := bne_eq_false_iff_eq.mpr c6;clear c6
   (first | rw [Dy] | (simp only [bH, bI]; rw [Dy]) | skip)
   have H' := aa.mk H;clear H;have aaL := asc.out;have aaM := ase.out;have nG : w5.cell? ⟨aqF, 0, none⟩ = some (.int .i64 aR) := (ae apy.out 0).trans rfl;have nH : w5.cell? ⟨aqF, 1, none⟩ = some (.slice bW aH.length bN) := (ae apy.out 1).trans rfl;have nI := ai apy.out 0;have nJ := ai apy.out 1;have nP : w5.cell? ⟨arW, 0, none⟩ = some (.int .i64 cK) := (ae aqi.out 0).trans rfl;have nQ : w5.cell? ⟨arW, 1, none⟩ = some (.slice av3 cz.length lJ) := (ae aqi.out 1).trans rfl;have nR := ai aqi.out 0;have nS := ai aqi.out 1;go_wp2;go_meet
   case rel => exact ⟨_, (((aH.length : Int) != (cz.length : Int))), (by first | rfl | (simp; done) | (simp [*]; done)), H', ⟨by first | omega | exact Nat.le_refl _⟩, ⟨by (with_reducible repeat (first | refine ax ?_ _ | refine az ?_ | refine au ?_ _)); exact apy.out⟩, ⟨by (with_reducible repeat (first | refine ax ?_ _ | refine az ?_ | refine au ?_ _)); exact aqi.out⟩, ⟨bO HB⟩⟩
  ·rw [if_neg c6] at H;have Dy : (aR == cK) = false := beq_eq_false_iff_ne.mpr c6;have XA : (aR != cK) = true := bne_iff_ne.mpr c6
   (first | rw [Dy] | (simp only [bH, bI]; rw [Dy]) | skip)
   have H' := aa.mk H;clear H;have adr := asc.out;have ads := ase.out;have oW : w5.cell? ⟨aqF, 0, none⟩ = some (.int .i64 aR) := (ae apy.out 0).trans rfl;have oZ : w5.cell? ⟨aqF, 1, none⟩ = some (.slice bW aH.length bN) := (ae apy.out 1).trans rfl;have o5 := ai apy.out 0;have o6 := ai apy.out 1;have jK : w5.cell? ⟨arW, 0, none⟩ = some (.int .i64 cK) := (ae aqi.out 0).trans rfl;have jL : w5.cell? ⟨arW, 1, none⟩ = some (.slice av3 cz.length lJ) := (ae aqi.out 1).trans rfl;have jM := ai aqi.out 0;have jN := ai aqi.out 1;go_wp2;go_meet
   case rel => exact ⟨_, (true), (by first | rfl | (simp; done) | (simp [*]; done)), H', ⟨by first | omega | exact Nat.le_refl _⟩, ⟨by (with_reducible repeat (first | refine ax ?_ _ | refine az ?_ | refine au ?_ _)); exact apy.out⟩, ⟨by (with_reducible repeat (first | refine ax ?_ _ | refine az ?_ | refine au ?_ _)); exact aqi.out⟩, ⟨bO HB⟩⟩
 case rest =>
  clear Uo;(try clear c1); (try clear p2); (try clear c5); (try clear c6); (try clear Dy); (try clear XA); (try clear c7); (try clear c10); (try clear oW); (try clear oZ); (try clear jK); (try clear jL); (try clear nG); (try clear nH); (try clear nP); (try clear nQ); (try clear o5); (try clear o6); (try clear jM); (try clear jN); (try clear nI); (try clear nJ); (try clear nR); (try clear nS);obtain ⟨kq, Qr, rfl, HA, HJ2, apy, aqi, HB⟩ := hcut
  cases kq with
  | zero => exact absurd HA.out (by simp [Ae.j0])
  | succ kj2 =>
   have H := HA.out;clear HA;simp only [Ae.j0] at H;have Gt := aa.mk H;clear H;go_upto_if 19 with (fail)
   go_cut [] (fun wc => ∃ (kq : Nat), aa (Ae.j1 kq aR aH cK cz = some r) ∧ aa (kq ≤ kj2) ∧ aa (wc.heap[aqF]? = some (.cells #[.int .i64 aR, (.slice bW aH.length bN)] 64 (0, 0))) ∧ aa (wc.heap[arW]? = some (.cells #[.int .i64 cK, (.slice av3 cz.length lJ)] 64 (0, 0))) ∧ aa (Below w.heap.size w wc))
   case first =>
    have H := Gt.out;clear Gt;by_cases c14 : Qr = true
    ·subst c14;have H1 : (some false) = some r := by rw [if_pos rfl] at H; exact H
     clear H;have H := H1;clear H1;obtain rfl := Option.some.inj H;go_wp2;go_ret;exact ⟨by first | rfl | (simp [aW, aX] <;> rfl) | (simp [*, aW, aX] <;> rfl), bO HB⟩
    ·replace c14 := Bool.eq_false_iff.mpr c14;subst c14;have H1 : (Ae.j1 kj2 aR aH cK cz) = some r := by rw [if_neg (show ¬ (false = true) by decide)] at H; exact H
     clear H;have H := H1;clear H1;have H' := aa.mk H;clear H;go_wp2;go_meet
     case rel => exact ⟨_, H', ⟨by have := HJ2.out; first | omega | exact Nat.le_refl _⟩, ⟨by (with_reducible repeat (first | refine ax ?_ _ | refine az ?_ | refine au ?_ _)); exact apy.out⟩, ⟨by (with_reducible repeat (first | refine ax ?_ _ | refine az ?_ | refine au ?_ _)); exact aqi.out⟩, ⟨bO HB⟩⟩
   case rest =>
    clear Gt;(try clear c1); (try clear p2); (try clear c5); (try clear c6); (try clear Dy); (try clear XA); (try clear c7); (try clear c10); (try clear c14); (try clear oW); (try clear oZ); (try clear jK); (try clear jL); (try clear nG); (try clear nH); (try clear nP); (try clear nQ); (try clear o5); (try clear o6); (try clear jM); (try clear jN); (try clear nI); (try clear nJ); (try clear nR); (try clear nS); (try clear p2);obtain ⟨kq, HA, Bp, apy, aqi, HB⟩ := hcut
    cases kq with
    | zero => exact absurd HA.out (by simp [Ae.j1])
    | succ kj12 =>
     have H := HA.out;clear HA;simp only [Ae.j1] at H;have H' := aa.mk H;clear H;go_wp2;go_loopg [5] kj12 (fun kq v5 w' => ∃ (gT : Int), v5 = .int .i64 gT ∧ aa (Ae.l0 kq gT aR aH cK cz = some r) ∧ aa (kq ≤ kj12) ∧ aa (w'.heap[aqF]? = some (.cells #[.int .i64 aR, (.slice bW aH.length bN)] 64 (0, 0))) ∧ aa (w'.heap[arW]? = some (.cells #[.int .i64 cK, (.slice av3 cz.length lJ)] 64 (0, 0))) ∧ aa (Below w.heap.size w w'))
     case atStart => exact ⟨(0), (by first | rfl | (simp; done) | (simp [*]; done)), H', ⟨Nat.le_refl _⟩, ⟨by (with_reducible repeat (first | refine ax ?_ _ | refine az ?_ | refine au ?_ _)); exact apy.out⟩, ⟨by (with_reducible repeat (first | refine ax ?_ _ | refine az ?_ | refine au ?_ _)); exact aqi.out⟩, ⟨bO HB⟩⟩
     case round =>
      clear H';(try clear c1); (try clear p2); (try clear c5); (try clear c6); (try clear Dy); (try clear XA); (try clear c7); (try clear c10); (try clear c14); (try clear oW); (try clear oZ); (try clear jK); (try clear jL); (try clear nG); (try clear nH); (try clear nP); (try clear nQ); (try clear o5); (try clear o6); (try clear jM); (try clear jN); (try clear nI); (try clear nJ); (try clear nR); (try clear nS); (try clear p2);obtain ⟨gT, rfl, HA, xO, apy, aqi, HB⟩ := hrel
      cases gk with
      | zero => exact absurd HA.out (by simp [Ae.l0])
      | succ k3 =>
       have H := HA.out;clear HA;simp only [Ae.l0] at H;by_cases c15 : gT < (aH.length : Int)
       ·rw [if_pos c15] at H;have tF : decide (gT < (aH.length : Int)) = true := decide_eq_true c15;clear c15;by_cases c16 : 0 ≤ gT
        ·rw [if_pos c16] at H;have EC : decide (0 ≤ gT) = true := decide_eq_true c16;clear c16;by_cases c17 : gT < (cz.length : Int)
         ·rw [if_pos c17] at H;have Zc : decide (gT < (cz.length : Int)) = true := decide_eq_true c17;clear c17;replace H := Option.bind_eq_some_iff.mp H;obtain ⟨aAs, UM, H⟩ := H;replace H : (if aAs = true then (Ae.l0 k3 (wrap64 (gT + 1)) aR aH cK cz) else (some false)) = some r := H;have A18 := aa.mk UM;clear UM;by_cases c19 : aAs = true
          ·subst c19;have H1 : (Ae.l0 k3 (wrap64 (gT + 1)) aR aH cK cz) = some r := by rw [if_pos rfl] at H; exact H
           clear H;have H := H1;clear H1;have H' := aa.mk H;clear H;have OQ := asc.out;have OT := ase.out;have qi : wr.cell? ⟨aqF, 0, none⟩ = some (.int .i64 aR) := (ae apy.out 0).trans rfl;have qj : wr.cell? ⟨aqF, 1, none⟩ = some (.slice bW aH.length bN) := (ae apy.out 1).trans rfl;have ql := ai apy.out 0;have qm := ai apy.out 1;try go_wp2
           have bP := aa.mk (az apy.out);have bQ := aa.mk (az aqi.out);have bT := aa.mk (fK HB.out);clear apy aqi HB;have apy := bP;have aqi := bQ;have HB := bT;clear bP bQ bT;have axk : 0 ≤ (gT : Int) := of_decide_eq_true (by first | (with_reducible assumption) | assumption);have axl : gT < (aH.length : Int) := of_decide_eq_true (by first | (with_reducible assumption) | assumption);obtain ⟨auq, avo, avp, aBG, arI, arJ, aur, aus⟩ := ah8 arT.out gT axk axl;have aut := arJ;have auu := arI
           cases aBG;replace arI := ah HB.out arI;replace arJ := ah HB.out arJ;have auv := aa.mk aus;have av4 := aa.mk aur;clear aus aur;replace axk := eq_true axk;replace axl := eq_true axl;have axm : 0 ≤ (gT : Int) := of_decide_eq_true (by first | (with_reducible assumption) | assumption);have axn : gT < (cz.length : Int) := of_decide_eq_true (by first | (with_reducible assumption) | assumption);obtain ⟨auw, avq, avr, aBH, arK, arL, auy, auz⟩ := ah8 ED.out gT axm axn;have auA := arL;have auB := arK
           cases aBH;replace arK := ah HB.out arK;replace arL := ah HB.out arL;have auC := aa.mk auz;have av5 := aa.mk auy;clear auz auy;replace axm := eq_true axm;replace axn := eq_true axn;refine fu (n := 12) (S := fun w' => w'.cell? ⟨aqF, 0, none⟩ = some (.int .i64 aR) ∧ w'.cell? ⟨aqF, 1, none⟩ = some (.slice (some auq) aH.length bN) ∧ w'.cell? ⟨arW, 0, none⟩ = some (.int .i64 cK) ∧ w'.cell? ⟨arW, 1, none⟩ = some (.slice (some auw) cz.length lJ) ∧ w'.cell? (auq.add ((gT).toNat * 2)) = some (.int .i64 ((FW aH gT).f0)) ∧ w'.cell? ⟨(auq.add ((gT).toNat * 2)).block, (auq.add ((gT).toNat * 2)).off + 1, none⟩ = some (.slice avo ((FW aH gT).f1).length avp) ∧ w'.cell? (auw.add ((gT).toNat * 2)) = some (.int .i64 ((FW cz gT).f0)) ∧ w'.cell? ⟨(auw.add ((gT).toNat * 2)).block, (auw.add ((gT).toNat * 2)).off + 1, none⟩ = some (.slice avq ((FW cz gT).f1).length avr)) (ds := []) #[false, false, false, false, false, false, false, false, false, false, false, false] (by kernel_rfl) rfl rfl ⟨(ae apy.out 0).trans rfl, (ae apy.out 1).trans rfl, (ae aqi.out 0).trans rfl, (ae aqi.out 1).trans rfl, (ah HB.out auu), (ah HB.out aut), (ah HB.out auB), (ah HB.out auA)⟩ (fun hHeld => ?_); refine dw Ae.Jt Ae.axs (fun dA ji => ?_);generalize wr.drew = w22 at apy aqi HB auv auC arI arJ arK arL hHeld ⊢;refine fG (fuel := 2) [(0, 27), (2, 29), (5, 32), (7, 34), (1, 28), (3, 30), (4, 31), (6, 33), (8, 35), (9, 36)] #[true, true, true, true, true, true, true, true, true, true, false, false] (df dA.out ji.out _ _ _ (by kernel_rfl)) rfl (fun _ _ _ _ _ h => h) hHeld (a' := ?_) ?_ ?_;rotate_left
           ·iterate 10
             refine bC (v := ?_) (a1 := ?_) rfl rfl (Or.inl ⟨by rfl, ?_⟩) ?_ ?_;rotate_left 2
             ·rintro w' ⟨s0, s1, s2, s3, s4, s5, s6, s7⟩;go_simp;with_reducible rfl
             ·simp only [Act.put, List.setIfInBounds_toArray, List.set_cons_zero, List.set_cons_succ, bH, bI];rfl
            exact chain_nil
           refine fT (i := 10) (N := some 37) #[true, true, true, true, true, true, true, true, true, true, true, false] rfl rfl (dn dA.out (by kernel_rfl)) (by decide) (fun K hK => ?_);refine uC Try.func53 (by kernel_rfl) rfl #[.agg #[.int .i64 ((FW aH gT).f0), .slice avo ((FW aH gT).f1).length avp], .agg #[.int .i64 ((FW cz gT).f0), .slice avq ((FW cz gT).f1).length avr]] (by rfl) rfl rfl (by (try simp only [List.map_toArray, List.map_cons, List.map_nil]); first | done | rfl | (simp only [List.length_drop, List.length_take]; rfl)) ?_;with_reducible refine (ih k3 (by have := HJ2.out; have := Bp.out; have := xO.out; omega) ((FW aH gT).f0) _ _ ((FW aH gT).f1) ((FW cz gT).f0) _ _ ((FW cz gT).f1) true _ ?side1 ?side2 ?side3 ?side4 A18.out).mono ?_
           (case side1 => repeat (first | exact (Kd.bF auv.out HB.out) | (with_reducible refine Kd.dF ?_ _) | (with_reducible refine Kd.dG ?_ _) | (with_reducible refine Kd.eG ?_)));(case side2 => exact av4.out);(case side3 => repeat (first | exact (Kd.bF auC.out HB.out) | (with_reducible refine Kd.dF ?_ _) | (with_reducible refine Kd.dG ?_ _) | (with_reducible refine Kd.eG ?_)));(case side4 => exact av5.out);rintro e YJ ⟨rfl, hb⟩;refine ⟨_, rfl, ?_⟩;have bP := aa.mk (aC (bk apy) hb);have bQ := aa.mk (aC (bk aqi) hb);have bT := aa.mk (aM (bO HB) hb);clear apy aqi HB;have apy := bP;have aqi := bQ;have HB := bT;clear bP bQ bT;(try clear hb);(try clear hb2);(try clear hk);(try clear hi);refine hK.out _ _ ⟨(ae apy.out 0).trans rfl, (ae apy.out 1).trans rfl, (ae aqi.out 0).trans rfl, (ae aqi.out 1).trans rfl, (ah HB.out auu), (ah HB.out aut), (ah HB.out auB), (ah HB.out auA)⟩ (fun hHeld => ?_);clear hK K;refine bS (a' := ?_) ?_ ?_;rotate_left
           ·show Act.put _ (some 37) _ = _;simp only [Act.put, List.setIfInBounds_toArray, List.set_cons_zero, List.set_cons_succ, bH, bI];rfl
           refine arz (i := 11) (N := some 38) (v := ?_) (a' := ?_) #[true, true, true, true, true, true, true, true, true, true, true, true] rfl rfl (ku dA.out (by kernel_rfl)) (fun _ _ _ h => h) (Or.inl ⟨by rfl, ?_⟩) ?_ ?_;rotate_left
           ·intro w';go_simp;with_reducible rfl
           rotate_left
           ·simp only [Act.put, List.setIfInBounds_toArray, List.set_cons_zero, List.set_cons_succ, bH, bI];rfl
           refine gH (dV dA.out (by kernel_rfl)) ?_;try go_wp2
           go_roundg k3
           case measure => have := HJ2.out; have := Bp.out; have := xO.out; omega
           case rel => exact ⟨(wrap64 (gT + 1)), (by first | rfl | (simp; done) | (simp [*]; done)), H', ⟨by have := HJ2.out; have := Bp.out; have := xO.out; omega⟩, ⟨by (with_reducible repeat (first | refine ax ?_ _ | refine az ?_ | refine au ?_ _)); exact apy.out⟩, ⟨by (with_reducible repeat (first | refine ax ?_ _ | refine az ?_ | refine au ?_ _)); exact aqi.out⟩, ⟨bO HB⟩⟩
          ·replace c19 := Bool.eq_false_iff.mpr c19;subst c19;have H1 : (some false) = some r := by rw [if_neg (show ¬ (false = true) by decide)] at H; exact H
           clear H;have H := H1;clear H1;obtain rfl := Option.some.inj H;have Zn := asc.out;have Zo := ase.out;have yP : wr.cell? ⟨aqF, 0, none⟩ = some (.int .i64 aR) := (ae apy.out 0).trans rfl;have yQ : wr.cell? ⟨aqF, 1, none⟩ = some (.slice bW aH.length bN) := (ae apy.out 1).trans rfl;have yR := ai apy.out 0;have yS := ai apy.out 1;try go_wp2
           have bP := aa.mk (az apy.out);have bQ := aa.mk (az aqi.out);have bT := aa.mk (fK HB.out);clear apy aqi HB;have apy := bP;have aqi := bQ;have HB := bT;clear bP bQ bT;have axk : 0 ≤ (gT : Int) := of_decide_eq_true (by first | (with_reducible assumption) | assumption);have axl : gT < (aH.length : Int) := of_decide_eq_true (by first | (with_reducible assumption) | assumption);obtain ⟨auq, avo, avp, aBG, arI, arJ, aur, aus⟩ := ah8 arT.out gT axk axl;have aut := arJ;have auu := arI
           cases aBG;replace arI := ah HB.out arI;replace arJ := ah HB.out arJ;have auv := aa.mk aus;have av4 := aa.mk aur;clear aus aur;replace axk := eq_true axk;replace axl := eq_true axl;have axm : 0 ≤ (gT : Int) := of_decide_eq_true (by first | (with_reducible assumption) | assumption);have axn : gT < (cz.length : Int) := of_decide_eq_true (by first | (with_reducible assumption) | assumption);obtain ⟨auw, avq, avr, aBH, arK, arL, auy, auz⟩ := ah8 ED.out gT axm axn;have auA := arL;have auB := arK
           cases aBH;replace arK := ah HB.out arK;replace arL := ah HB.out arL;have auC := aa.mk auz;have av5 := aa.mk auy;clear auz auy;replace axm := eq_true axm;replace axn := eq_true axn;refine fu (n := 12) (S := fun w' => w'.cell? ⟨aqF, 0, none⟩ = some (.int .i64 aR) ∧ w'.cell? ⟨aqF, 1, none⟩ = some (.slice (some auq) aH.length bN) ∧ w'.cell? ⟨arW, 0, none⟩ = some (.int .i64 cK) ∧ w'.cell? ⟨arW, 1, none⟩ = some (.slice (some auw) cz.length lJ) ∧ w'.cell? (auq.add ((gT).toNat * 2)) = some (.int .i64 ((FW aH gT).f0)) ∧ w'.cell? ⟨(auq.add ((gT).toNat * 2)).block, (auq.add ((gT).toNat * 2)).off + 1, none⟩ = some (.slice avo ((FW aH gT).f1).length avp) ∧ w'.cell? (auw.add ((gT).toNat * 2)) = some (.int .i64 ((FW cz gT).f0)) ∧ w'.cell? ⟨(auw.add ((gT).toNat * 2)).block, (auw.add ((gT).toNat * 2)).off + 1, none⟩ = some (.slice avq ((FW cz gT).f1).length avr)) (ds := []) #[false, false, false, false, false, false, false, false, false, false, false, false] (by kernel_rfl) rfl rfl ⟨(ae apy.out 0).trans rfl, (ae apy.out 1).trans rfl, (ae aqi.out 0).trans rfl, (ae aqi.out 1).trans rfl, (ah HB.out auu), (ah HB.out aut), (ah HB.out auB), (ah HB.out auA)⟩ (fun hHeld => ?_); refine dw Ae.Jt Ae.axs (fun dA ji => ?_);generalize wr.drew = w26 at apy aqi HB auv auC arI arJ arK arL hHeld ⊢;refine fG (fuel := 2) [(0, 27), (2, 29), (5, 32), (7, 34), (1, 28), (3, 30), (4, 31), (6, 33), (8, 35), (9, 36)] #[true, true, true, true, true, true, true, true, true, true, false, false] (df dA.out ji.out _ _ _ (by kernel_rfl)) rfl (fun _ _ _ _ _ h => h) hHeld (a' := ?_) ?_ ?_;rotate_left
           ·iterate 10
             refine bC (v := ?_) (a1 := ?_) rfl rfl (Or.inl ⟨by rfl, ?_⟩) ?_ ?_;rotate_left 2
             ·rintro w' ⟨s0, s1, s2, s3, s4, s5, s6, s7⟩;go_simp;with_reducible rfl
             ·simp only [Act.put, List.setIfInBounds_toArray, List.set_cons_zero, List.set_cons_succ, bH, bI];rfl
            exact chain_nil
           refine fT (i := 10) (N := some 37) #[true, true, true, true, true, true, true, true, true, true, true, false] rfl rfl (dn dA.out (by kernel_rfl)) (by decide) (fun K hK => ?_);refine uC Try.func53 (by kernel_rfl) rfl #[.agg #[.int .i64 ((FW aH gT).f0), .slice avo ((FW aH gT).f1).length avp], .agg #[.int .i64 ((FW cz gT).f0), .slice avq ((FW cz gT).f1).length avr]] (by rfl) rfl rfl (by (try simp only [List.map_toArray, List.map_cons, List.map_nil]); first | done | rfl | (simp only [List.length_drop, List.length_take]; rfl)) ?_;with_reducible refine (ih k3 (by have := HJ2.out; have := Bp.out; have := xO.out; omega) ((FW aH gT).f0) _ _ ((FW aH gT).f1) ((FW cz gT).f0) _ _ ((FW cz gT).f1) false _ ?side1 ?side2 ?side3 ?side4 A18.out).mono ?_
           (case side1 => repeat (first | exact (Kd.bF auv.out HB.out) | (with_reducible refine Kd.dF ?_ _) | (with_reducible refine Kd.dG ?_ _) | (with_reducible refine Kd.eG ?_)));(case side2 => exact av4.out);(case side3 => repeat (first | exact (Kd.bF auC.out HB.out) | (with_reducible refine Kd.dF ?_ _) | (with_reducible refine Kd.dG ?_ _) | (with_reducible refine Kd.eG ?_)));(case side4 => exact av5.out);rintro e V7 ⟨rfl, hb⟩;refine ⟨_, rfl, ?_⟩;have bP := aa.mk (aC (bk apy) hb);have bQ := aa.mk (aC (bk aqi) hb);have bT := aa.mk (aM (bO HB) hb);clear apy aqi HB;have apy := bP;have aqi := bQ;have HB := bT;clear bP bQ bT;(try clear hb);(try clear hb2);(try clear hk);(try clear hi);refine hK.out _ _ ⟨(ae apy.out 0).trans rfl, (ae apy.out 1).trans rfl, (ae aqi.out 0).trans rfl, (ae aqi.out 1).trans rfl, (ah HB.out auu), (ah HB.out aut), (ah HB.out auB), (ah HB.out auA)⟩ (fun hHeld => ?_);clear hK K;refine bS (a' := ?_) ?_ ?_;rotate_left
           ·show Act.put _ (some 37) _ = _;simp only [Act.put, List.setIfInBounds_toArray, List.set_cons_zero, List.set_cons_succ, bH, bI];rfl
           refine arz (i := 11) (N := some 38) (v := ?_) (a' := ?_) #[true, true, true, true, true, true, true, true, true, true, true, true] rfl rfl (ku dA.out (by kernel_rfl)) (fun _ _ _ h => h) (Or.inl ⟨by rfl, ?_⟩) ?_ ?_;rotate_left
           ·intro w';go_simp;with_reducible rfl
           rotate_left
           ·simp only [Act.put, List.setIfInBounds_toArray, List.set_cons_zero, List.set_cons_succ, bH, bI];rfl
           refine gH (dV dA.out (by kernel_rfl)) ?_;try go_wp2
           go_ret;exact ⟨by first | rfl | (simp [aW, aX] <;> rfl) | (simp [*, aW, aX] <;> rfl), bO HB⟩
         ·rw [if_neg c17] at H;exact absurd H (by simp)
        ·rw [if_neg c16] at H;exact absurd H (by simp)
       ·rw [if_neg c15] at H;have tF : decide (gT < (aH.length : Int)) = false := decide_eq_false c15;clear c15;obtain rfl := Option.some.inj H;have YL := asc.out;have YM := ase.out;have tK : wr.cell? ⟨aqF, 0, none⟩ = some (.int .i64 aR) := (ae apy.out 0).trans rfl;have tL : wr.cell? ⟨aqF, 1, none⟩ = some (.slice bW aH.length bN) := (ae apy.out 1).trans rfl;have tN := ai apy.out 0;have tO := ai apy.out 1;go_wp2;go_ret;exact ⟨by first | rfl | (simp [aW, aX] <;> rfl) | (simp [*, aW, aX] <;> rfl), bO HB⟩
end Go.Proofs.Ytamimodkcbbpmaa.Pr
end
section
namespace Go.Proofs.Ytamimodkcbbpmaa.Pr
open Go.RowKit Go.Proofs.YtamimodkcbbpmaaW.PrintWords Go.Proofs.YtamimodkcbbpmaaW.PrintLast Go.Proofs.YtamimodkcbbpmaaXW
set_option linter.unusedVariables false
set_option linter.unusedSimpArgs false
def exR : List KH := [⟨4, 0, 1, 1, 2, 0⟩, ⟨2, 1, 0, 0, 0, 0⟩, ⟨1, 1, 0, 0, 5, 0⟩]
def exI : List Int := [4]
abbrev exV : List dK := [⟨10, 3⟩, ⟨4, 1⟩]
abbrev exK : List S64 := [⟨1, []⟩, ⟨1, []⟩]
theorem aBI : aqu.f = some (1, 2, 0, exR, exI) := by kernel_rfl
theorem aAu : apm.f 40 1 2 0 exR exI 0 = some (0, exK, 0) := by kernel_rfl
theorem aAv : apm.f 40 1 2 0 exR exI 2 = some (0, [], 2) := by kernel_rfl
theorem aBJ : an2.f 40 1 2 0 exR exI = some exV := by kernel_rfl
theorem aAw : vz.f 40 exV exV = some true := by kernel_rfl
theorem aAx : Ae.f 40 0 exK 0 exK = some true := by kernel_rfl
theorem av6 {w : World} {b : Nat} {x y : Int} (h : w.heap[b]? = some (.cells #[.int .i64 x, .slice none 0 0, .int .i64 y, .slice none 0 0] 64 (0, 0))) : Kd.C OG w (some ⟨b, 0, none⟩) 2 [⟨x, []⟩, ⟨y, []⟩] := by
  have hnil : Kd.C OG w none 0 [] := ⟨rfl, by decide, fun h => absurd h (by decide)⟩
  refine ⟨rfl, by decide, fun _ => ⟨_, rfl, fun j p hj => ?_⟩⟩
  match j, hj with
  | 0, hj =>
    obtain rfl : (⟨x, []⟩ : S64) = p := by simpa using hj
    refine ⟨[.int .i64 x, .slice none 0 0], rfl, Z7 w ⟨x, []⟩ (Nat.le_refl _) hnil, fun i u hi => ?_⟩
    match i, hi with
    | 0, hi => obtain rfl : Value.int .i64 x = u := by simpa using hi
               show w.cell? ⟨b, 0, none⟩ = _
               rw [ae h 0]; rfl
    | 1, hi => obtain rfl : Value.slice none 0 0 = u := by simpa using hi
               show w.cell? ⟨b, 1, none⟩ = _
               rw [ae h 1]; rfl
    | i + 2, hi => simp at hi
  | 1, hj =>
    obtain rfl : (⟨y, []⟩ : S64) = p := by simpa using hj
    refine ⟨[.int .i64 y, .slice none 0 0], rfl, Z7 w ⟨y, []⟩ (Nat.le_refl _) hnil, fun i u hi => ?_⟩
    match i, hi with
    | 0, hi => obtain rfl : Value.int .i64 y = u := by simpa using hi
               show w.cell? ⟨b, 2, none⟩ = _
               rw [ae h 2]; rfl
    | 1, hi => obtain rfl : Value.slice none 0 0 = u := by simpa using hi
               show w.cell? ⟨b, 3, none⟩ = _
               rw [ae h 3]; rfl
    | i + 2, hi => simp at hi
  | j + 2, hj => simp at hj
theorem axo {w : World} {b : Nat} {x y z u : Int} (h : w.heap[b]? = some (.cells #[.int .i64 x, .int .i64 y, .int .i64 z, .int .i64 u] 34 (0, 0))) : Kd.C xA w (some ⟨b, 0, none⟩) 2 [⟨x, y⟩, ⟨z, u⟩] := by
  refine ⟨rfl, by decide, fun _ => ⟨_, rfl, fun j p hj => ?_⟩⟩
  match j, hj with
  | 0, hj =>
    obtain rfl : (⟨x, y⟩ : dK) = p := by simpa using hj
    refine ⟨[.int .i64 x, .int .i64 y], rfl, SQ w ⟨x, y⟩, fun i v hi => ?_⟩
    match i, hi with
    | 0, hi => obtain rfl : Value.int .i64 x = v := by simpa using hi
               show w.cell? ⟨b, 0, none⟩ = _
               rw [ae h 0]; rfl
    | 1, hi => obtain rfl : Value.int .i64 y = v := by simpa using hi
               show w.cell? ⟨b, 1, none⟩ = _
               rw [ae h 1]; rfl
    | i + 2, hi => simp at hi
  | 1, hj =>
    obtain rfl : (⟨z, u⟩ : dK) = p := by simpa using hj
    refine ⟨[.int .i64 z, .int .i64 u], rfl, SQ w ⟨z, u⟩, fun i v hi => ?_⟩
    match i, hi with
    | 0, hi => obtain rfl : Value.int .i64 z = v := by simpa using hi
               show w.cell? ⟨b, 2, none⟩ = _
               rw [ae h 2]; rfl
    | 1, hi => obtain rfl : Value.int .i64 u = v := by simpa using hi
               show w.cell? ⟨b, 3, none⟩ = _
               rw [ae h 3]; rfl
    | i + 2, hi => simp at hi
  | j + 2, hj => simp at hj
set_option maxRecDepth 100000 in
set_option maxHeartbeats 8000000 in
theorem avE (w : World) : Calls Try.prog 47 #[] w fun e w' => e = .returned (.bool true) ∧ Below w.heap.size w w' := by
 have avx := Try.underlying58;have hu64 := Try.underlying64;have QT := Try.underlying34;go_enter Try.func47, Try.ntmps47
 go_upto_region 2 with (first | (go_at_call 86; refine (aqu.calls 1 2 0 exR exI w aBI).mono ?_; rintro x w1 ⟨v3, v4, rfl, hR, hI, hB⟩; obtain ⟨A, c, rfl, hc, hC⟩ := Kd.oK hR; obtain ⟨AI, ci, rfl, hci, hCI⟩ := Kd.oK hI; have HC := aa.mk hC; have HCI := aa.mk hCI; have HB := aa.mk hB; clear hR hI hB hC hCI))
 have hA := eX w1 (.cells #[.int .i64 1, .int .i64 2, .int .i64 0, .slice A exR.length c] 58);have HB2 := aa.mk (aM HB.out hA.1);have Uc := aa.mk (Kd.bF HC.out hA.1);have HI2 := aa.mk (Kd.bF HCI.out hA.1);have Y1 := aa.mk hA.2;obtain ⟨g1, e1⟩ : ∃ g, g = w1.heap.size := ⟨_, rfl⟩;rw [← e1] at Y1 ⊢;clear e1 hA HB HC HCI;generalize (w1.alloc (.cells #[.int .i64 1, .int .i64 2, .int .i64 0, .slice A exR.length c] 58)) = w2 at *;have c0 : w2.cell? ⟨g1, 0, none⟩ = some (.int .i64 1) := (ae Y1.out 0).trans rfl;have c1 : w2.cell? ⟨g1, 1, none⟩ = some (.int .i64 2) := (ae Y1.out 1).trans rfl;have c2 : w2.cell? ⟨g1, 2, none⟩ = some (.int .i64 0) := (ae Y1.out 2).trans rfl;have c3 : w2.cell? ⟨g1, 3, none⟩ = some (.slice A exR.length c) := (ae Y1.out 3).trans rfl;go_upto_region 3 with (first | (go_at_call 51; refine (apm.calls 40 1 2 0 A c exR AI ci exI 0 0 exK 0 w2 Uc.out hc HI2.out hci aAu).mono ?_; rintro x w3 ⟨v3, rfl, hR, hB⟩; obtain ⟨Ap, cp, rfl, hcp, hCp⟩ := Kd.oK hR; have HCp := aa.mk hCp; have HB3 := aa.mk hB; clear hR hB hCp))
 have hA := eX w3 (.cells #[.int .i64 0, .slice Ap exK.length cp] 64);have hst := aM HB3.out hA.1;have Ju := aa.mk (aM HB2.out hst);have IK := aa.mk (Kd.bF Uc.out hst);have HI4 := aa.mk (Kd.bF HI2.out hst);have HP4 := aa.mk (Kd.bF HCp.out hA.1);have H14 := aa.mk (aC Y1.out hst);have H34 := aa.mk hA.2;obtain ⟨g3, e3⟩ : ∃ g, g = w3.heap.size := ⟨_, rfl⟩;rw [← e3] at H34 ⊢;clear e3 hA hst HB2 Uc HI2 HCp Y1 HB3 c0 c1 c2 c3;generalize (w3.alloc (.cells #[.int .i64 0, .slice Ap exK.length cp] 64)) = w4 at *;have c0 : w4.cell? ⟨g1, 0, none⟩ = some (.int .i64 1) := (ae H14.out 0).trans rfl;have c1 : w4.cell? ⟨g1, 1, none⟩ = some (.int .i64 2) := (ae H14.out 1).trans rfl;have c2 : w4.cell? ⟨g1, 2, none⟩ = some (.int .i64 0) := (ae H14.out 2).trans rfl;have c3 : w4.cell? ⟨g1, 3, none⟩ = some (.slice A exR.length c) := (ae H14.out 3).trans rfl;go_upto_region 4 with (first | (go_at_call 51; refine (apm.calls 40 1 2 0 A c exR AI ci exI 2 0 [] 2 w4 IK.out hc HI4.out hci aAv).mono ?_; rintro x w5 ⟨v3, rfl, hR, hB⟩; obtain ⟨Aq, cq, rfl, hcq, hCq⟩ := Kd.oK hR; have vY := aa.mk hB; clear hR hB hCq))
 have hA := eX w5 (.cells #[.int .i64 0, .slice Aq ([] : List S64).length cq] 64);have hst := aM vY.out hA.1;have Gp := aa.mk (aM Ju.out hst);have VT := aa.mk (Kd.bF IK.out hst);have HI6 := aa.mk (Kd.bF HI4.out hst);have HP6 := aa.mk (Kd.bF HP4.out hst);have H16 := aa.mk (aC H14.out hst);have H36 := aa.mk (aC H34.out hst);clear hA hst Ju IK HI4 HP4 H14 H34 vY c0 c1 c2 c3;simp only [List.length_nil] at *;generalize (w5.alloc (.cells #[.int .i64 0, .slice Aq 0 cq] 64)) = w6 at *;have Gy : aa (∀ w', Below w6.heap.size w6 w' → w'.cell? ⟨g1, 0, none⟩ = some (.int .i64 1) ∧ w'.cell? ⟨g1, 1, none⟩ = some (.int .i64 2) ∧ w'.cell? ⟨g1, 2, none⟩ = some (.int .i64 0) ∧ w'.cell? ⟨g1, 3, none⟩ = some (.slice A exR.length c) ∧ w'.cell? ⟨g3, 0, none⟩ = some (.int .i64 0) ∧ w'.cell? ⟨g3, 1, none⟩ = some (.slice Ap exK.length cp)) := ⟨fun w' h => ⟨(ae (aC H16.out h) 0).trans rfl, (ae (aC H16.out h) 1).trans rfl, (ae (aC H16.out h) 2).trans rfl, (ae (aC H16.out h) 3).trans rfl, (ae (aC H36.out h) 0).trans rfl, (ae (aC H36.out h) 1).trans rfl⟩⟩;obtain ⟨c0, c1, c2, c3, c4, c5⟩ := Gy.out w6 (Below.refl _ _);go_wp2_with (first | (go_at_call 49; refine (an2.calls 40 1 2 0 A c exR AI ci exI exV w6 VT.out hc HI6.out hci aBJ).mono ?_; rintro x w7 ⟨v7, rfl, hR, hB⟩; obtain ⟨Av, cv, rfl, hcv, hCv⟩ := Kd.oK hR; have UW := aa.mk hCv; have Co := aa.mk hB; clear hR hB hCv c0 c1 c2 c3 c4 c5; obtain ⟨c0, c1, c2, c3, c4, c5⟩ := Gy.out w7 Co.out) | (go_at_call 48; have hA := eX w7 (.cells #[.int .i64 10, .int .i64 3, .int .i64 4, .int .i64 1] 34); refine (vz.calls 40 Av cv exV (some ⟨w7.heap.size, 0, none⟩) 2 exV true (w7.alloc (.cells #[.int .i64 10, .int .i64 3, .int .i64 4, .int .i64 1] 34)) (Kd.bF UW.out hA.1) hcv (axo hA.2) (Nat.le_refl _) aAw).mono ?_; rintro x w8 ⟨rfl, hD⟩; have hB := hD.below; have hb := aM Co.out (aM hA.1 hB); have HB8 := aa.mk hb; clear hA hB hD hb c0 c1 c2 c3 c4 c5; obtain ⟨c0, c1, c2, c3, c4, c5⟩ := Gy.out w8 HB8.out) | (go_at_call 53; have hA := eX w8 (.cells #[.int .i64 1, .slice none 0 0, .int .i64 1, .slice none 0 0] 64); refine (Ae.calls 40 0 Ap cp exK 0 (some ⟨w8.heap.size, 0, none⟩) 2 exK true (w8.alloc (.cells #[.int .i64 1, .slice none 0 0, .int .i64 1, .slice none 0 0] 64)) (Kd.bF (Kd.bF HP6.out HB8.out) hA.1) hcp (av6 hA.2) (Nat.le_refl _) aAx).mono ?_; rintro x w9 ⟨rfl, hB⟩; have hb := aM HB8.out (aM hA.1 hB); have HB9 := aa.mk hb; clear hA hB hb c0 c1 c2 c3 c4 c5))
 go_ret;exact ⟨rfl, aM Gp.out HB9.out⟩
def apq.f : Option Bool := some true
theorem apq.calls (r : Bool) (w : World) (h : apq.f = some r) : Calls Try.prog 47 #[] w fun e w' => e = .returned (.bool r) ∧ Below w.heap.size w w' := by
 injection h with h
 subst h;exact avE w
end Go.Proofs.Ytamimodkcbbpmaa.Pr
end
section
namespace Go.Proofs.Ytamimodkcbbpmaa.Pr
open Go.RowKit Go.Proofs.YtamimodkcbbpmaaW.PrintWords Go.Proofs.YtamimodkcbbpmaaW.PrintLast
set_option linter.unusedVariables false
set_option linter.unusedSimpArgs false
theorem aAz (T N S : Int) (rs : List KH) (ins : List Int) : ∃ b, aqb.f T N S rs ins = some b ∧ (b = true → rs.length ≤ 60 ∧ N ≤ 60 ∧ ins.length ≤ 30) := by
 unfold aqb.f;by_cases h1 : (rs.length : Int) ≤ 60
 ·by_cases h2 : N ≤ 60
  ·exact ⟨_, by rw [if_pos h1, if_pos h2], fun h => ⟨by omega, h2, by have := of_decide_eq_true h; omega⟩⟩
  ·exact ⟨false, by rw [if_pos h1, if_neg h2], fun h => (by cases h)⟩
 ·exact ⟨false, by rw [if_neg h1], fun h => (by cases h)⟩
end Go.Proofs.Ytamimodkcbbpmaa.Pr
end
section
namespace Go.Proofs.Ytamimodkcbbpmaa.Pr
open Go.RowKit Go.Proofs.YtamimodkcbbpmaaW.PrintWords Go.Proofs.YtamimodkcbbpmaaW.PrintLast
theorem aLR (a b c d : Int) (w : World) : (if a = b then (if c = d then Result.ok (Next.value (Value.bool true)) w else Result.ok (Next.value (Value.bool false)) w) else Result.ok (Next.value (Value.bool false)) w) = Result.ok (Next.value (Value.bool (a == b && (c == d)))) w := by
 by_cases h1 : a = b
 ·by_cases h2 : c = d
  ·rw [if_pos h1, if_pos h2, h1, h2]; simp
  ·rw [if_pos h1, if_neg h2, beq_eq_false_iff_ne.2 h2, Bool.and_false]
 ·rw [if_neg h1, beq_eq_false_iff_ne.2 h1, Bool.false_and]
end Go.Proofs.Ytamimodkcbbpmaa.Pr
end
