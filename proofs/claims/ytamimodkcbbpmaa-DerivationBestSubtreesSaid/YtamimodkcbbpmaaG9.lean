/- PG QF: a part of the proof of the row of a; no conditions. -/
import Derived.Test.YtamimodkcbbpmaaG6
import Derived.Test.YtamimodkcbbpmaaG7
import Derived.Test.YtamimodkcbbpmaaG8
section
namespace Go.Proofs.Ytamimodkcbbpmaa.Pr
open Go.RowKit Go.Proofs.YtamimodkcbbpmaaW.PrintWords Go.Proofs.YtamimodkcbbpmaaW.PrintLast
set_option linter.unusedVariables false
set_option linter.unusedSimpArgs false
theorem agW : Ev (fun k => aY.f k 0 []) 1 := by
 have h1 : Ev (fun k => aY.l0 k 1 0 0 []) 1 := (Ev.const 1).succ (fun k => by rw [aY.l0, if_neg (by decide)]);exact h1.succ (fun k => by rw [aY.f])
section
variable (n : Int) (es : List dO)
theorem adp (h : mQ n es) {v : Int} {d : dU} (hb : BD es (xL n.toNat es) v d) (hv : VD es v d) (hfin : ∀ j, j < d.f1.length → (bJ (jy n.toNat es) ((aj es d.f0).f1.getD j 0)).f0 < 1099511627776) :
  ∀ m i, i + m = d.f1.length → Ev (fun k => aag.l0 k (i : Int) n es d.f0 d.f1) true
 | 0, i, hi => (Ev.const true).succ (fun k => by
   show aag.l0 (k + 1) _ _ _ _ _ = _;rw [aag.l0, if_neg (by omega)])
 | m + 1, i, hi => by
  have ih := adp h hb hv hfin m (i + 1) (by omega);obtain ⟨_, _, ⟨h0, h1⟩, hl, hk⟩ := hb.inv;have hlen := h.small.len;have Qn : (aj es d.f0).f1.length ≤ 4 := by
   refine h.small.ta _ ?_;simp only [aj];exact ib _ _ _ (by omega)
  have hbk := hk i (by omega);have hvk := hv.inv.2.2.2.2 i (by omega);have hfk := hfin i (by omega);obtain ⟨⟨t0, t1⟩, _⟩ := hbk.inv;have hel := h.chosen.len;have eB := RB n es h.small _ t0 (by omega) hfk hbk;obtain ⟨q, eE, hq⟩ := LQ (hvk.fits h.small) (d.f1.getD i z27);obtain rfl : q = true := hq.2 rfl;have e5 : Ev (fun k => aag.j5 k (i : Int) n es d.f0 d.f1) true := by
   refine (Ev.bind (G := fun k afg => if afg.2.2 = 0 then (if (i : Int) < (d.f1.length : Int) then ((aI.f k afg.1 afg.2.1 ((bn d.f1 (i : Int)).f0) ((bn d.f1 (i : Int)).f1)).bind fun afK => (if afK = true then (aag.l0 k (wrap64 ((i : Int) + 1)) n es d.f0 d.f1) else (some false))) else (none)) else (some false)) eB ((Ev.bind (G := fun k afK => if afK = true then (aag.l0 k (wrap64 ((i : Int) + 1)) n es d.f0 d.f1) else (some false)) eE (ih.mp (fun k => by rw [RY i (by omega)]; rfl))).mp (fun k => by rw [if_pos rfl, if_pos (by omega)]; rfl))).succ (fun k => ?_);rw [aag.j5, if_pos h0, if_pos h1, if_pos (by omega), if_pos (by omega)];rfl
  refine e5.succ (fun k => ?_);show aag.l0 (k + 1) _ _ _ _ _ = _;rw [aag.l0, if_pos (by omega)]
variable (hl : es.length ≤ 9223372036854775807) (ht : ∀ e, e ∈ es → e.f1.length ≤ 9223372036854775807)
include hl ht
theorem agX (r : Int) : Ev (fun k => aag.f k n es r) true := by
 obtain ⟨b, hsh, hbs⟩ := LA n es hl ht;have main : Ev (fun k => aag.j0 k r n es) true := by
  cases b with
  | false => exact (Ev.bind (G := fun k afL => if afL = true then (aag.j1 k r n es) else some true) hsh (Ev.const true)).succ (fun k => by rw [aag.j0])
  | true =>
   have hS := hbs.1 rfl;have h30 := hS.small.n2;have hj : Ev (fun k => aag.j1 k r n es) true := by
    have bad : ∀ e : Int, e ≠ 0 → Ev (fun k => bA.f k n es r) (0, [], e) → Ev (fun k => aag.j1 k r n es) true := by
     intro e he hB;refine (Ev.bind (G := fun k acd => if acd.2.2 = 0 then (aag.j2 k r n es acd.1 acd.2.1) else ((aY.f k acd.1 acd.2.1).bind fun aeK => some (aeK == 1))) hB ((Ev.bind (G := fun k aeK => some (aeK == 1)) agW (Ev.mp (Ev.const true) (fun k => rfl))).mp (fun k => if_neg he))).succ (fun k => ?_);rw [aag.j1]
    by_cases h0 : r < 0 ∨ n ≤ r
    ·exact bad 2 (by decide) (NQ n es hS.small.valid r h0)
    ·by_cases hi : 1099511627776 ≤ (bJ (jy n.toNat es) r).f0
     ·exact bad 6 (by decide) (RA n es hS.small r (by omega) (by omega) hi)
     ·obtain ⟨t, rfl⟩ : ∃ t : Nat, r = (t : Int) := ⟨r.toNat, by omega⟩;have hfin : (bJ (jy n.toNat es) (t : Int)).f0 < 1099511627776 := by omega
      obtain ⟨d, bd, vd, aoE⟩ := BD.fin hS (t := t) (by omega) hfin;have eB := RB n es hS.small _ (by omega) (by omega) hfin bd;obtain ⟨q, _, eV, hq⟩ := zR n es d (vd.fits hS.small) (t : Int);obtain rfl : q = true := hq.2 vd;have hk2 : ∀ j, j < d.f1.length → (bJ (jy n.toNat es) ((aj es d.f0).f1.getD j 0)).f0 < 1099511627776 := by
       intro j hj;have h1 := vd.UC hS.small.co (by rw [aoE]; exact hfin) j hj;have h2 := hS.UZ.lower hS.small.co hS.small.ok ((vd.inv.2.2.2.2 j hj).der hS.small.co);unfold oV at h2;omega
      have e3 : Ev (fun k => aag.j3 k n es d.f0 d.f1) true := (adp n es hS bd vd hk2 d.f1.length 0 (by omega)).succ (fun k => by rw [aag.j3]; rfl);have e2 : Ev (fun k => aag.j2 k (t : Int) n es d.f0 d.f1) true := (Ev.bind (G := fun k af0 => if af0 = true then (aag.j3 k n es d.f0 d.f1) else some false) eV (e3.mp (fun k => if_pos rfl))).succ (fun k => by rw [aag.j2]);refine (Ev.bind (G := fun k acd => if acd.2.2 = 0 then (aag.j2 k (t : Int) n es acd.1 acd.2.1) else ((aY.f k acd.1 acd.2.1).bind fun aeK => some (aeK == 1))) eB (e2.mp (fun k => if_pos rfl))).succ (fun k => ?_);rw [aag.j1]
   exact (Ev.bind (G := fun k afL => if afL = true then (aag.j1 k r n es) else some true) hsh (hj.mp (fun k => if_pos rfl))).succ (fun k => by rw [aag.j0])
 exact main.mp (fun k => by unfold aag.f ig.f; rfl)
end
end Go.Proofs.Ytamimodkcbbpmaa.Pr
end
section
namespace Go.Proofs.Ytamimodkcbbpmaa.Pr
open Go.RowKit Go.Proofs.YtamimodkcbbpmaaW.PrintWords Go.Proofs.YtamimodkcbbpmaaW.PrintLast
theorem afP (n : Int) (A : Option Addr) (c : Nat) (l : List dO) (r : Int) (w : World) (hC : Kd.C sJ w A l.length l) (hc : l.length ≤ c) (hf : ∀ e, e ∈ l → Dl e) :
  Calls Try.prog 11 #[.agg #[.int .i64 n, .slice A l.length c], .int .i64 r] w fun e w' => e = .returned (.bool true) ∧ Below w.heap.size w w' := by
 obtain ⟨K, hK⟩ := (agX n l hC.2.1 (fun e he => (hf e he).len) r).ex;exact aag.calls K n A c l r true w hC hc hK
end Go.Proofs.Ytamimodkcbbpmaa.Pr
end
