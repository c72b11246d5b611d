/- Pr0 ZA ZC ZB XW XQ F75 F100 XM XA XB XC XD XE XF XG: a part of the proof of the row of a; no conditions. -/
import Derived.Test.YtamimodkcbbpmaaProg
import Derived.Below
import Derived.Deep.Draws
import Derived.Deep.AppendLies
import Derived.Maps.AppendAt
import Derived.OwnWalk
import Derived.Laws.BytesArg
import Derived.Laws.MakeOwn
import Derived.Laws.OwnMore
import Derived.Deep.OwnRows
import Derived.Tactics
import Derived.Lib.ConvBytes
import Derived.Laws.Slices
import Derived.WalkKit
import Derived.KernelRfl
import Derived.RowKit3
import Derived.Deep.LoopGhost
import Derived.Deep.QuietTactic
import Derived.BigQuiet
import Derived.WideLaws
import Derived.Deep.DeepCutAuto
import Derived.Deep.CutBlock
import Derived.Deep.RegionHeld3
import Derived.Laws.Rows
import Derived.Lib.AppendStr
import Derived.ArgAppend
import Derived.Laws.IdiomCopy
import Derived.OrdersHeld
import Derived.Laws.BitsLemmas
import Derived.RowKit
import Derived.Test.YtamimodkcbbpmaaG1
import Derived.Deep.Slices
import Derived.OpenShut
import Derived.WideShapes
import Derived.Test.YtamimodkcbbpmaaRows
import Derived.ProofKit
import Derived.SizedLaws
import Derived.MapKept
import Derived.ChangeMaps4
import Derived.BigRegion
section
namespace Go.Proofs.Ytamimodkcbbpmaa.Pr
open Go.RowKit Go.Proofs.YtamimodkcbbpmaaW.PrintWords Go.Proofs.YtamimodkcbbpmaaW.PrintLast Go.Proofs.YtamimodkcbbpmaaW.PrintMore
attribute [local go_sem] aFh ky lX lY jf jg kz kC
set_option linter.unusedVariables false
set_option linter.unusedSimpArgs false
def acx : Option Int → Value
 | none => .nilIface
 | some c => .iface 0 (.int .i64 c)
theorem aW : acx none = .nilIface := rfl
theorem aX (c : Int) : acx (some c) = .iface 0 (.int .i64 c) := rfl
theorem info3 : (Try.prog.info? 3).map (fun i => (i.zero, i.size, i.bytes)) = some (some (.int .i64 0), 1, 8) := by kernel_rfl
theorem acy : (Try.prog.info? 4).map (fun i => (i.zero, i.size, i.bytes)) = some (some (.bool false), 1, 1) := by kernel_rfl
theorem SI : (Try.prog.info? 27).map (fun i => (i.zero, i.size, i.bytes)) = some (some (.agg #[(.int .i64 0), (.slice none 0 0)]), 2, 32) := by kernel_rfl
theorem FP : (Try.prog.info? 34).map (fun i => (i.zero, i.size, i.bytes)) = some (some (.agg #[(.int .i64 0), (.int .i64 0)]), 2, 16) := by kernel_rfl
theorem ZT : (Try.prog.info? 44).map (fun i => (i.zero, i.size, i.bytes)) = some (some (.slice none 0 0), 1, 24) := by kernel_rfl
theorem ahZ : (Try.prog.info? 54).map (fun i => (i.zero, i.size, i.bytes)) = some (some (.agg #[(.int .i64 0), (.slice none 0 0), (.int .i64 0), (.int .i64 0), (.int .i64 0)]), 5, 56) := by kernel_rfl
theorem ah0 : (Try.prog.info? 64).map (fun i => (i.zero, i.size, i.bytes)) = some (some (.agg #[(.int .i64 0), (.slice none 0 0)]), 2, 32) := by kernel_rfl
theorem ah1 : (Try.prog.info? 75).map (fun i => (i.zero, i.size, i.bytes)) = some (some (.agg #[(.int .i64 0), (.int .i64 0), (.int .i64 0), (.int .i64 0), (.int .i64 0), (.int .i64 0)]), 6, 48) := by kernel_rfl
theorem Vj : (Try.prog.info? 139).map (fun i => (i.zero, i.size, i.bytes)) = some (some (.agg #[(.int .i64 0), (.int .i64 0), (.int .i64 0), (.int .i64 0), (.int .i64 0)]), 5, 40) := by kernel_rfl
def OB (xs : List (List Int)) (i : Int) : (List Int) := xs.getD i.toNat ([] : List Int)
theorem aj7 {w : World} {A : Option Addr} {n : Nat} {xs : List (List Int)} (h : Kd.C (Kd.slice 3 (Kd.int .i64)) w A n xs) (i : Int) (h0 : 0 ≤ i) (h1 : i < n) : ∃ ad A0 c0, A = some ad ∧ w.cell? (ad.add i.toNat) = some (.slice A0 (OB xs i).length c0) ∧ (OB xs i).length ≤ c0 ∧ (Kd.int .i64).C w A0 (OB xs i).length (OB xs i) := by
 obtain ⟨ad, c, e, _, hK, hc0⟩ := Kd.rU h ([] : List Int) i h0 h1;have hc : ∀ j u, c[j]? = some u → w.cell? (ad.add (i.toNat * 1 + j)) = some u := hc0;obtain ⟨A0, c0, rfl, l0, g0⟩ := hK;exact ⟨ad, A0, c0, e, by have hq := hc 0 _ rfl; rwa [Nat.mul_one, Nat.add_zero] at hq, l0, g0⟩
structure zq where
 f0 : Int
 f1 : Int
def z52 : zq := ⟨(0 : Int), (0 : Int)⟩
def ZU : Kd zq := Kd.RN (Kd.pair (Kd.int .i64) (Kd.int .i64)) (fun x : zq => (x.f0, x.f1))
theorem KR {w : World} {x : zq} {cs : List Value} (h : ZU.K w x cs) : cs = [.int .i64 x.f0, .int .i64 x.f1] := by
 obtain ⟨_, _, rfl, rfl, rfl⟩ := h;exact rfl
theorem QN {w : World} {base : Nat} {ok : Nat → Prop} {x : zq} {cs : List Value} (h : ZU.M w base ok x cs) : cs = [.int .i64 x.f0, .int .i64 x.f1] := by
 obtain ⟨_, _, rfl, rfl, rfl⟩ := h;exact rfl
theorem SK (w : World) (x : zq)  : ZU.K w x [.int .i64 x.f0, .int .i64 x.f1] := ⟨[.int .i64 x.f0], [.int .i64 x.f1], rfl, rfl, rfl⟩
theorem Vk (w : World) (base : Nat) (ok : Nat → Prop) (x : zq)  : ZU.M w base ok x [.int .i64 x.f0, .int .i64 x.f1] := ⟨[.int .i64 x.f0], [.int .i64 x.f1], rfl, rfl, rfl⟩
theorem afq (W : World) (ok : Nat → Prop) (x : zq) : Kd.FK ZU W ok x [.int .i64 x.f0, .int .i64 x.f1] := fun W2 _ => SK W2 x
def SL (xs : List zq) (i : Int) : zq := xs.getD i.toNat z52
theorem ah2 {w : World} {A : Option Addr} {n : Nat} {xs : List zq} (h : Kd.C ZU w A n xs) (i : Int) (h0 : 0 ≤ i) (h1 : i < n) : ∃ ad , A = some ad ∧ w.cell? (ad.add (i.toNat * 2)) = some (.int .i64 (SL xs i).f0) ∧ w.cell? ⟨(ad.add (i.toNat * 2)).block, (ad.add (i.toNat * 2)).off + 1, none⟩ = some (.int .i64 (SL xs i).f1) := by
 obtain ⟨ad, c, e, _, hK, hc0⟩ := Kd.rU h z52 i h0 h1;have hc : ∀ j u, c[j]? = some u → w.cell? (ad.add (i.toNat * 2 + j)) = some u := hc0;obtain rfl := KR hK;exact ⟨ad, e, hc 0 _ rfl, by rw [← fq _ _ 1 (by omega)]; exact hc 1 _ rfl⟩
structure dO where
 f0 : Int
 f1 : (List Int)
 f2 : Int
 f3 : zq
def z54 : dO := ⟨(0 : Int), ([] : List Int), (0 : Int), z52⟩
def sJ : Kd dO := Kd.RN (Kd.pair (Kd.int .i64) (Kd.pair (Kd.slice 3 (Kd.int .i64)) (Kd.pair (Kd.int .i64) ZU))) (fun x : dO => (x.f0, x.f1, x.f2, x.f3))
theorem FQ {w : World} {x : dO} {cs : List Value} (h : sJ.K w x cs) : ∃ A1 c1, cs = [.int .i64 x.f0, .slice A1 x.f1.length c1, .int .i64 x.f2, .int .i64 x.f3.f0, .int .i64 x.f3.f1] ∧ x.f1.length ≤ c1 ∧ (Kd.int .i64).C w A1 x.f1.length x.f1 := by
 obtain ⟨_, _, rfl, rfl, ⟨_, _, rfl, ⟨A1, c1, rfl, l1, g1⟩, ⟨_, _, rfl, rfl, s3⟩⟩⟩ := h;obtain rfl := KR s3;exact ⟨A1, c1, rfl, l1, g1⟩
theorem abL {w : World} {base : Nat} {ok : Nat → Prop} {x : dO} {cs : List Value} (h : sJ.M w base ok x cs) : ∃ v1, cs = [.int .i64 x.f0, v1, .int .i64 x.f2, .int .i64 x.f3.f0, .int .i64 x.f3.f1] ∧ (Kd.int .i64).R 3 w base ok v1 x.f1 := by
 obtain ⟨_, _, rfl, rfl, ⟨_, _, rfl, ⟨v1, rfl, g1⟩, ⟨_, _, rfl, rfl, s3⟩⟩⟩ := h;obtain rfl := QN s3;exact ⟨v1, rfl, g1⟩
theorem SN (w : World) (x : dO) {A1 : Option Addr} {c1 : Nat} (l1 : x.f1.length ≤ c1) (g1 : (Kd.int .i64).C w A1 x.f1.length x.f1) : sJ.K w x [.int .i64 x.f0, .slice A1 x.f1.length c1, .int .i64 x.f2, .int .i64 x.f3.f0, .int .i64 x.f3.f1] := ⟨[.int .i64 x.f0], [.slice A1 x.f1.length c1, .int .i64 x.f2, .int .i64 x.f3.f0, .int .i64 x.f3.f1], rfl, rfl, ⟨[.slice A1 x.f1.length c1], [.int .i64 x.f2, .int .i64 x.f3.f0, .int .i64 x.f3.f1], rfl, ⟨A1, c1, rfl, l1, g1⟩, ⟨[.int .i64 x.f2], [.int .i64 x.f3.f0, .int .i64 x.f3.f1], rfl, rfl, (SK w x.f3 )⟩⟩⟩
theorem afr (w : World) (base : Nat) (ok : Nat → Prop) (x : dO) {v1 : Value} (g1 : (Kd.int .i64).R 3 w base ok v1 x.f1) : sJ.M w base ok x [.int .i64 x.f0, v1, .int .i64 x.f2, .int .i64 x.f3.f0, .int .i64 x.f3.f1] := ⟨[.int .i64 x.f0], [v1, .int .i64 x.f2, .int .i64 x.f3.f0, .int .i64 x.f3.f1], rfl, rfl, ⟨[v1], [.int .i64 x.f2, .int .i64 x.f3.f0, .int .i64 x.f3.f1], rfl, ⟨v1, rfl, g1⟩, ⟨[.int .i64 x.f2], [.int .i64 x.f3.f0, .int .i64 x.f3.f1], rfl, rfl, (Vk w base ok x.f3 )⟩⟩⟩
theorem abM {W : World} {ok : Nat → Prop} {x : dO} {cs : List Value} (h : Kd.FK sJ W ok x cs) : ∃ A1 c1, cs = [.int .i64 x.f0, .slice A1 x.f1.length c1, .int .i64 x.f2, .int .i64 x.f3.f0, .int .i64 x.f3.f1] ∧ x.f1.length ≤ c1 ∧ Kd.F (Kd.int .i64) W ok A1 x.f1.length x.f1 := by
 obtain ⟨A1, c1, rfl, l1, _⟩ := FQ (Kd.xX h);exact ⟨A1, c1, rfl, l1, (fun W' hW => by obtain ⟨ZV, ZW, he, l1_, ZX⟩ := FQ (h W' hW); injection (Option.some.inj (show some (Value.slice A1 x.f1.length c1) = some (Value.slice ZV x.f1.length ZW) from congrArg (fun l => l[1]?) he)) with Vl _ _; rw [Vl]; exact ZX)⟩
theorem Jf (W : World) (ok : Nat → Prop) (x : dO) {A1 : Option Addr} {c1 : Nat} (l1 : x.f1.length ≤ c1) (g1 : Kd.F (Kd.int .i64) W ok A1 x.f1.length x.f1) : Kd.FK sJ W ok x [.int .i64 x.f0, .slice A1 x.f1.length c1, .int .i64 x.f2, .int .i64 x.f3.f0, .int .i64 x.f3.f1] := fun W2 hW => SN W2 x l1 (g1 W2 hW)
def aj (xs : List dO) (i : Int) : dO := xs.getD i.toNat z54
theorem kK {w : World} {A : Option Addr} {n : Nat} {xs : List dO} (h : Kd.C sJ w A n xs) (i : Int) (h0 : 0 ≤ i) (h1 : i < n) : ∃ ad A1 c1, A = some ad ∧ w.cell? (ad.add (i.toNat * 5)) = some (.int .i64 (aj xs i).f0) ∧ w.cell? ⟨(ad.add (i.toNat * 5)).block, (ad.add (i.toNat * 5)).off + 1, none⟩ = some (.slice A1 (aj xs i).f1.length c1) ∧ w.cell? ⟨(ad.add (i.toNat * 5)).block, (ad.add (i.toNat * 5)).off + 2, none⟩ = some (.int .i64 (aj xs i).f2) ∧ w.cell? ⟨(ad.add (i.toNat * 5)).block, (ad.add (i.toNat * 5)).off + 3, none⟩ = some (.int .i64 (aj xs i).f3.f0) ∧ w.cell? ⟨(ad.add (i.toNat * 5)).block, (ad.add (i.toNat * 5)).off + 4, none⟩ = some (.int .i64 (aj xs i).f3.f1) ∧ (aj xs i).f1.length ≤ c1 ∧ (Kd.int .i64).C w A1 (aj xs i).f1.length (aj xs i).f1 := by
 obtain ⟨ad, c, e, _, hK, hc0⟩ := Kd.rU h z54 i h0 h1;have hc : ∀ j u, c[j]? = some u → w.cell? (ad.add (i.toNat * 5 + j)) = some u := hc0;obtain ⟨A1, c1, rfl, l1, g1⟩ := FQ hK;exact ⟨ad, A1, c1, e, hc 0 _ rfl, by rw [← fq _ _ 1 (by omega)]; exact hc 1 _ rfl, by rw [← fq _ _ 2 (by omega)]; exact hc 2 _ rfl, by rw [← fq _ _ 3 (by omega)]; exact hc 3 _ rfl, by rw [← fq _ _ 4 (by omega)]; exact hc 4 _ rfl, l1, g1⟩
structure dU where
 f0 : Int
 f1 : (List dU)
def z27 : dU := ⟨(0 : Int), ([] : List dU)⟩
def F27 (d : Kd dU) : Kd dU := Kd.RN (Kd.pair (Kd.int .i64) (Kd.slice 27 d)) (fun x : dU => (x.f0, x.f1))
theorem Jg : Kd.vG F27 := Kd.KL _ (Kd.Hz (Kd.FC _) (Kd.FD 27 Kd.Ol))
theorem acz : Kd.Sub F27 [27] := Kd.Om _ (Kd.KM (Kd.sub_const _ (by decide)) (Kd.ajW 27 (by decide) Kd.Sc))
theorem ZY : ∀ n, (Kd.upto F27 2 [27] n).sz = 2 := Kd.Oo (fun _ => rfl)
def k27 : Kd dU := Kd.fix F27 2 [27] ZY (Kd.Mr acz)
theorem Ac {w : World} {x : dU} {cs : List Value} (h : k27.K w x cs) : ∃ A1 c1, cs = [.int .i64 x.f0, .slice A1 x.f1.length c1] ∧ x.f1.length ≤ c1 ∧ k27.C w A1 x.f1.length x.f1 := by
 obtain ⟨n, h⟩ := h
 cases n with
 | zero => exact h.elim
 | succ n =>
  obtain ⟨_, _, rfl, rfl, ⟨A1, c1, rfl, l1, g1⟩⟩ := h;exact ⟨A1, c1, rfl, l1, Kd.XQ g1⟩
theorem abN {w : World} {base : Nat} {ok : Nat → Prop} {x : dU} {cs : List Value} (h : k27.M w base ok x cs) : ∃ v1, cs = [.int .i64 x.f0, v1] ∧ k27.R 27 w base ok v1 x.f1 := by
 obtain ⟨n, h⟩ := h
 cases n with
 | zero => exact h.elim
 | succ n =>
  obtain ⟨_, _, rfl, rfl, ⟨v1, rfl, g1⟩⟩ := h;exact ⟨v1, rfl, Kd.XR g1⟩
theorem Jh (w : World) (x : dU) {A1 : Option Addr} {c1 : Nat} (l1 : x.f1.length ≤ c1) (g1 : k27.C w A1 x.f1.length x.f1) : k27.K w x [.int .i64 x.f0, .slice A1 x.f1.length c1] := by
 obtain ⟨n1, q1⟩ := Kd.FH Jg g1;have r1 := Kd.Ic Jg ZY (show n1 ≤ n1 by omega) q1;exact ⟨n1 + 1, ⟨[.int .i64 x.f0], [.slice A1 x.f1.length c1], rfl, rfl, ⟨A1, c1, rfl, l1, r1⟩⟩⟩
theorem OC (w : World) (base : Nat) (ok : Nat → Prop) (x : dU) {v1 : Value} (g1 : k27.R 27 w base ok v1 x.f1) : k27.M w base ok x [.int .i64 x.f0, v1] := by
 obtain ⟨n1, q1⟩ := Kd.FE Jg g1;have r1 := Kd.Ib Jg ZY (show n1 ≤ n1 by omega) q1;exact ⟨n1 + 1, ⟨[.int .i64 x.f0], [v1], rfl, rfl, ⟨v1, rfl, r1⟩⟩⟩
theorem abO {W : World} {ok : Nat → Prop} {x : dU} {cs : List Value} (h : Kd.FK k27 W ok x cs) : ∃ A1 c1, cs = [.int .i64 x.f0, .slice A1 x.f1.length c1] ∧ x.f1.length ≤ c1 ∧ Kd.F k27 W ok A1 x.f1.length x.f1 := by
 obtain ⟨A1, c1, rfl, l1, _⟩ := Ac (Kd.xX h);exact ⟨A1, c1, rfl, l1, (fun W' hW => by obtain ⟨ZV, ZW, he, l1_, ZX⟩ := Ac (h W' hW); injection (Option.some.inj (show some (Value.slice A1 x.f1.length c1) = some (Value.slice ZV x.f1.length ZW) from congrArg (fun l => l[1]?) he)) with Vl _ _; rw [Vl]; exact ZX)⟩
theorem afs (W : World) (ok : Nat → Prop) (x : dU) {A1 : Option Addr} {c1 : Nat} (l1 : x.f1.length ≤ c1) (g1 : Kd.F k27 W ok A1 x.f1.length x.f1) : Kd.FK k27 W ok x [.int .i64 x.f0, .slice A1 x.f1.length c1] := fun W2 hW => Jh W2 x l1 (g1 W2 hW)
def bn (xs : List dU) (i : Int) : dU := xs.getD i.toNat z27
theorem nE {w : World} {A : Option Addr} {n : Nat} {xs : List dU} (h : Kd.C k27 w A n xs) (i : Int) (h0 : 0 ≤ i) (h1 : i < n) : ∃ ad A1 c1, A = some ad ∧ w.cell? (ad.add (i.toNat * 2)) = some (.int .i64 (bn xs i).f0) ∧ w.cell? ⟨(ad.add (i.toNat * 2)).block, (ad.add (i.toNat * 2)).off + 1, none⟩ = some (.slice A1 (bn xs i).f1.length c1) ∧ (bn xs i).f1.length ≤ c1 ∧ k27.C w A1 (bn xs i).f1.length (bn xs i).f1 := by
 obtain ⟨ad, c, e, _, hK, hc0⟩ := Kd.rU h z27 i h0 h1;have hc : ∀ j u, c[j]? = some u → w.cell? (ad.add (i.toNat * 2 + j)) = some u := hc0;obtain ⟨A1, c1, rfl, l1, g1⟩ := Ac hK;exact ⟨ad, A1, c1, e, hc 0 _ rfl, by rw [← fq _ _ 1 (by omega)]; exact hc 1 _ rfl, l1, g1⟩
structure dK where
 f0 : Int
 f1 : Int
def z34 : dK := ⟨(0 : Int), (0 : Int)⟩
def xA : Kd dK := Kd.RN (Kd.pair (Kd.int .i64) (Kd.int .i64)) (fun x : dK => (x.f0, x.f1))
theorem KS {w : World} {x : dK} {cs : List Value} (h : xA.K w x cs) : cs = [.int .i64 x.f0, .int .i64 x.f1] := by
 obtain ⟨_, _, rfl, rfl, rfl⟩ := h;exact rfl
theorem QO {w : World} {base : Nat} {ok : Nat → Prop} {x : dK} {cs : List Value} (h : xA.M w base ok x cs) : cs = [.int .i64 x.f0, .int .i64 x.f1] := by
 obtain ⟨_, _, rfl, rfl, rfl⟩ := h;exact rfl
theorem SQ (w : World) (x : dK)  : xA.K w x [.int .i64 x.f0, .int .i64 x.f1] := ⟨[.int .i64 x.f0], [.int .i64 x.f1], rfl, rfl, rfl⟩
theorem vL (w : World) (base : Nat) (ok : Nat → Prop) (x : dK)  : xA.M w base ok x [.int .i64 x.f0, .int .i64 x.f1] := ⟨[.int .i64 x.f0], [.int .i64 x.f1], rfl, rfl, rfl⟩
theorem aft (W : World) (ok : Nat → Prop) (x : dK) : Kd.FK xA W ok x [.int .i64 x.f0, .int .i64 x.f1] := fun W2 _ => SQ W2 x
def bJ (xs : List dK) (i : Int) : dK := xs.getD i.toNat z34
theorem aRX {w : World} {A : Option Addr} {n : Nat} {xs : List dK} (h : Kd.C xA w A n xs) (i : Int) (h0 : 0 ≤ i) (h1 : i < n) : ∃ ad , A = some ad ∧ w.cell? (ad.add (i.toNat * 2)) = some (.int .i64 (bJ xs i).f0) ∧ w.cell? ⟨(ad.add (i.toNat * 2)).block, (ad.add (i.toNat * 2)).off + 1, none⟩ = some (.int .i64 (bJ xs i).f1) := by
 obtain ⟨ad, c, e, _, hK, hc0⟩ := Kd.rU h z34 i h0 h1;have hc : ∀ j u, c[j]? = some u → w.cell? (ad.add (i.toNat * 2 + j)) = some u := hc0;obtain rfl := KS hK;exact ⟨ad, e, hc 0 _ rfl, by rw [← fq _ _ 1 (by omega)]; exact hc 1 _ rfl⟩
def OD (xs : List (List dO)) (i : Int) : (List dO) := xs.getD i.toNat ([] : List dO)
theorem aj8 {w : World} {A : Option Addr} {n : Nat} {xs : List (List dO)} (h : Kd.C (Kd.slice 54 sJ) w A n xs) (i : Int) (h0 : 0 ≤ i) (h1 : i < n) : ∃ ad A0 c0, A = some ad ∧ w.cell? (ad.add i.toNat) = some (.slice A0 (OD xs i).length c0) ∧ (OD xs i).length ≤ c0 ∧ sJ.C w A0 (OD xs i).length (OD xs i) := by
 obtain ⟨ad, c, e, _, hK, hc0⟩ := Kd.rU h ([] : List dO) i h0 h1;have hc : ∀ j u, c[j]? = some u → w.cell? (ad.add (i.toNat * 1 + j)) = some u := hc0;obtain ⟨A0, c0, rfl, l0, g0⟩ := hK;exact ⟨ad, A0, c0, e, by have hq := hc 0 _ rfl; rwa [Nat.mul_one, Nat.add_zero] at hq, l0, g0⟩
structure RP where
 f0 : Int
 f1 : (List dO)
def z24 : RP := ⟨(0 : Int), ([] : List dO)⟩
def k24 : Kd RP := Kd.RN (Kd.pair (Kd.int .i64) (Kd.slice 54 sJ)) (fun x : RP => (x.f0, x.f1))
theorem FR {w : World} {x : RP} {cs : List Value} (h : k24.K w x cs) : ∃ A1 c1, cs = [.int .i64 x.f0, .slice A1 x.f1.length c1] ∧ x.f1.length ≤ c1 ∧ sJ.C w A1 x.f1.length x.f1 := by
 obtain ⟨_, _, rfl, rfl, ⟨A1, c1, rfl, l1, g1⟩⟩ := h;exact ⟨A1, c1, rfl, l1, g1⟩
theorem abP {w : World} {base : Nat} {ok : Nat → Prop} {x : RP} {cs : List Value} (h : k24.M w base ok x cs) : ∃ v1, cs = [.int .i64 x.f0, v1] ∧ sJ.R 54 w base ok v1 x.f1 := by
 obtain ⟨_, _, rfl, rfl, ⟨v1, rfl, g1⟩⟩ := h;exact ⟨v1, rfl, g1⟩
theorem ZZ (w : World) (x : RP) {A1 : Option Addr} {c1 : Nat} (l1 : x.f1.length ≤ c1) (g1 : sJ.C w A1 x.f1.length x.f1) : k24.K w x [.int .i64 x.f0, .slice A1 x.f1.length c1] := ⟨[.int .i64 x.f0], [.slice A1 x.f1.length c1], rfl, rfl, ⟨A1, c1, rfl, l1, g1⟩⟩
theorem afu (w : World) (base : Nat) (ok : Nat → Prop) (x : RP) {v1 : Value} (g1 : sJ.R 54 w base ok v1 x.f1) : k24.M w base ok x [.int .i64 x.f0, v1] := ⟨[.int .i64 x.f0], [v1], rfl, rfl, ⟨v1, rfl, g1⟩⟩
theorem abQ {W : World} {ok : Nat → Prop} {x : RP} {cs : List Value} (h : Kd.FK k24 W ok x cs) : ∃ A1 c1, cs = [.int .i64 x.f0, .slice A1 x.f1.length c1] ∧ x.f1.length ≤ c1 ∧ Kd.F sJ W ok A1 x.f1.length x.f1 := by
 obtain ⟨A1, c1, rfl, l1, _⟩ := FR (Kd.xX h);exact ⟨A1, c1, rfl, l1, (fun W' hW => by obtain ⟨ZV, ZW, he, l1_, ZX⟩ := FR (h W' hW); injection (Option.some.inj (show some (Value.slice A1 x.f1.length c1) = some (Value.slice ZV x.f1.length ZW) from congrArg (fun l => l[1]?) he)) with Vl _ _; rw [Vl]; exact ZX)⟩
theorem afv (W : World) (ok : Nat → Prop) (x : RP) {A1 : Option Addr} {c1 : Nat} (l1 : x.f1.length ≤ c1) (g1 : Kd.F sJ W ok A1 x.f1.length x.f1) : Kd.FK k24 W ok x [.int .i64 x.f0, .slice A1 x.f1.length c1] := fun W2 hW => ZZ W2 x l1 (g1 W2 hW)
def FT (xs : List RP) (i : Int) : RP := xs.getD i.toNat z24
theorem ah4 {w : World} {A : Option Addr} {n : Nat} {xs : List RP} (h : Kd.C k24 w A n xs) (i : Int) (h0 : 0 ≤ i) (h1 : i < n) : ∃ ad A1 c1, A = some ad ∧ w.cell? (ad.add (i.toNat * 2)) = some (.int .i64 (FT xs i).f0) ∧ w.cell? ⟨(ad.add (i.toNat * 2)).block, (ad.add (i.toNat * 2)).off + 1, none⟩ = some (.slice A1 (FT xs i).f1.length c1) ∧ (FT xs i).f1.length ≤ c1 ∧ sJ.C w A1 (FT xs i).f1.length (FT xs i).f1 := by
 obtain ⟨ad, c, e, _, hK, hc0⟩ := Kd.rU h z24 i h0 h1;have hc : ∀ j u, c[j]? = some u → w.cell? (ad.add (i.toNat * 2 + j)) = some u := hc0;obtain ⟨A1, c1, rfl, l1, g1⟩ := FR hK;exact ⟨ad, A1, c1, e, hc 0 _ rfl, by rw [← fq _ _ 1 (by omega)]; exact hc 1 _ rfl, l1, g1⟩
def OE (xs : List (List dK)) (i : Int) : (List dK) := xs.getD i.toNat ([] : List dK)
theorem aj9 {w : World} {A : Option Addr} {n : Nat} {xs : List (List dK)} (h : Kd.C (Kd.slice 34 xA) w A n xs) (i : Int) (h0 : 0 ≤ i) (h1 : i < n) : ∃ ad A0 c0, A = some ad ∧ w.cell? (ad.add i.toNat) = some (.slice A0 (OE xs i).length c0) ∧ (OE xs i).length ≤ c0 ∧ xA.C w A0 (OE xs i).length (OE xs i) := by
 obtain ⟨ad, c, e, _, hK, hc0⟩ := Kd.rU h ([] : List dK) i h0 h1;have hc : ∀ j u, c[j]? = some u → w.cell? (ad.add (i.toNat * 1 + j)) = some u := hc0;obtain ⟨A0, c0, rfl, l0, g0⟩ := hK;exact ⟨ad, A0, c0, e, by have hq := hc 0 _ rfl; rwa [Nat.mul_one, Nat.add_zero] at hq, l0, g0⟩
structure KH where
 f0 : Int
 f1 : Int
 f2 : Int
 f3 : Int
 f4 : Int
 f5 : Int
def z75 : KH := ⟨(0 : Int), (0 : Int), (0 : Int), (0 : Int), (0 : Int), (0 : Int)⟩
def Md : Kd KH := Kd.RN (Kd.pair (Kd.int .i64) (Kd.pair (Kd.int .i64) (Kd.pair (Kd.int .i64) (Kd.pair (Kd.int .i64) (Kd.pair (Kd.int .i64) (Kd.int .i64)))))) (fun x : KH => (x.f0, x.f1, x.f2, x.f3, x.f4, x.f5))
theorem SV {w : World} {x : KH} {cs : List Value} (h : Md.K w x cs) : cs = [.int .i64 x.f0, .int .i64 x.f1, .int .i64 x.f2, .int .i64 x.f3, .int .i64 x.f4, .int .i64 x.f5] := by
 obtain ⟨_, _, rfl, rfl, ⟨_, _, rfl, rfl, ⟨_, _, rfl, rfl, ⟨_, _, rfl, rfl, ⟨_, _, rfl, rfl, rfl⟩⟩⟩⟩⟩ := h;exact rfl
theorem abR {w : World} {base : Nat} {ok : Nat → Prop} {x : KH} {cs : List Value} (h : Md.M w base ok x cs) : cs = [.int .i64 x.f0, .int .i64 x.f1, .int .i64 x.f2, .int .i64 x.f3, .int .i64 x.f4, .int .i64 x.f5] := by
 obtain ⟨_, _, rfl, rfl, ⟨_, _, rfl, rfl, ⟨_, _, rfl, rfl, ⟨_, _, rfl, rfl, ⟨_, _, rfl, rfl, rfl⟩⟩⟩⟩⟩ := h;exact rfl
theorem Z0 (w : World) (x : KH)  : Md.K w x [.int .i64 x.f0, .int .i64 x.f1, .int .i64 x.f2, .int .i64 x.f3, .int .i64 x.f4, .int .i64 x.f5] := ⟨[.int .i64 x.f0], [.int .i64 x.f1, .int .i64 x.f2, .int .i64 x.f3, .int .i64 x.f4, .int .i64 x.f5], rfl, rfl, ⟨[.int .i64 x.f1], [.int .i64 x.f2, .int .i64 x.f3, .int .i64 x.f4, .int .i64 x.f5], rfl, rfl, ⟨[.int .i64 x.f2], [.int .i64 x.f3, .int .i64 x.f4, .int .i64 x.f5], rfl, rfl, ⟨[.int .i64 x.f3], [.int .i64 x.f4, .int .i64 x.f5], rfl, rfl, ⟨[.int .i64 x.f4], [.int .i64 x.f5], rfl, rfl, rfl⟩⟩⟩⟩⟩
theorem afw (w : World) (base : Nat) (ok : Nat → Prop) (x : KH)  : Md.M w base ok x [.int .i64 x.f0, .int .i64 x.f1, .int .i64 x.f2, .int .i64 x.f3, .int .i64 x.f4, .int .i64 x.f5] := ⟨[.int .i64 x.f0], [.int .i64 x.f1, .int .i64 x.f2, .int .i64 x.f3, .int .i64 x.f4, .int .i64 x.f5], rfl, rfl, ⟨[.int .i64 x.f1], [.int .i64 x.f2, .int .i64 x.f3, .int .i64 x.f4, .int .i64 x.f5], rfl, rfl, ⟨[.int .i64 x.f2], [.int .i64 x.f3, .int .i64 x.f4, .int .i64 x.f5], rfl, rfl, ⟨[.int .i64 x.f3], [.int .i64 x.f4, .int .i64 x.f5], rfl, rfl, ⟨[.int .i64 x.f4], [.int .i64 x.f5], rfl, rfl, rfl⟩⟩⟩⟩⟩
theorem afx (W : World) (ok : Nat → Prop) (x : KH) : Kd.FK Md W ok x [.int .i64 x.f0, .int .i64 x.f1, .int .i64 x.f2, .int .i64 x.f3, .int .i64 x.f4, .int .i64 x.f5] := fun W2 _ => Z0 W2 x
def Dj (xs : List KH) (i : Int) : KH := xs.getD i.toNat z75
theorem ah5 {w : World} {A : Option Addr} {n : Nat} {xs : List KH} (h : Kd.C Md w A n xs) (i : Int) (h0 : 0 ≤ i) (h1 : i < n) : ∃ ad , A = some ad ∧ w.cell? (ad.add (i.toNat * 6)) = some (.int .i64 (Dj xs i).f0) ∧ w.cell? ⟨(ad.add (i.toNat * 6)).block, (ad.add (i.toNat * 6)).off + 1, none⟩ = some (.int .i64 (Dj xs i).f1) ∧ w.cell? ⟨(ad.add (i.toNat * 6)).block, (ad.add (i.toNat * 6)).off + 2, none⟩ = some (.int .i64 (Dj xs i).f2) ∧ w.cell? ⟨(ad.add (i.toNat * 6)).block, (ad.add (i.toNat * 6)).off + 3, none⟩ = some (.int .i64 (Dj xs i).f3) ∧ w.cell? ⟨(ad.add (i.toNat * 6)).block, (ad.add (i.toNat * 6)).off + 4, none⟩ = some (.int .i64 (Dj xs i).f4) ∧ w.cell? ⟨(ad.add (i.toNat * 6)).block, (ad.add (i.toNat * 6)).off + 5, none⟩ = some (.int .i64 (Dj xs i).f5) := by
 obtain ⟨ad, c, e, _, hK, hc0⟩ := Kd.rU h z75 i h0 h1;have hc : ∀ j u, c[j]? = some u → w.cell? (ad.add (i.toNat * 6 + j)) = some u := hc0;obtain rfl := SV hK;exact ⟨ad, e, hc 0 _ rfl, by rw [← fq _ _ 1 (by omega)]; exact hc 1 _ rfl, by rw [← fq _ _ 2 (by omega)]; exact hc 2 _ rfl, by rw [← fq _ _ 3 (by omega)]; exact hc 3 _ rfl, by rw [← fq _ _ 4 (by omega)]; exact hc 4 _ rfl, by rw [← fq _ _ 5 (by omega)]; exact hc 5 _ rfl⟩
def Ji (xs : List (List KH)) (i : Int) : (List KH) := xs.getD i.toNat ([] : List KH)
theorem ah6 {w : World} {A : Option Addr} {n : Nat} {xs : List (List KH)} (h : Kd.C (Kd.slice 75 Md) w A n xs) (i : Int) (h0 : 0 ≤ i) (h1 : i < n) : ∃ ad A0 c0, A = some ad ∧ w.cell? (ad.add i.toNat) = some (.slice A0 (Ji xs i).length c0) ∧ (Ji xs i).length ≤ c0 ∧ Md.C w A0 (Ji xs i).length (Ji xs i) := by
 obtain ⟨ad, c, e, _, hK, hc0⟩ := Kd.rU h ([] : List KH) i h0 h1;have hc : ∀ j u, c[j]? = some u → w.cell? (ad.add (i.toNat * 1 + j)) = some u := hc0;obtain ⟨A0, c0, rfl, l0, g0⟩ := hK;exact ⟨ad, A0, c0, e, by have hq := hc 0 _ rfl; rwa [Nat.mul_one, Nat.add_zero] at hq, l0, g0⟩
structure RQ where
 f0 : Int
 f1 : Int
 f2 : Int
 f3 : (List KH)
def z58 : RQ := ⟨(0 : Int), (0 : Int), (0 : Int), ([] : List KH)⟩
def Z4 : Kd RQ := Kd.RN (Kd.pair (Kd.int .i64) (Kd.pair (Kd.int .i64) (Kd.pair (Kd.int .i64) (Kd.slice 75 Md)))) (fun x : RQ => (x.f0, x.f1, x.f2, x.f3))
theorem FU {w : World} {x : RQ} {cs : List Value} (h : Z4.K w x cs) : ∃ A3 c3, cs = [.int .i64 x.f0, .int .i64 x.f1, .int .i64 x.f2, .slice A3 x.f3.length c3] ∧ x.f3.length ≤ c3 ∧ Md.C w A3 x.f3.length x.f3 := by
 obtain ⟨_, _, rfl, rfl, ⟨_, _, rfl, rfl, ⟨_, _, rfl, rfl, ⟨A3, c3, rfl, l3, g3⟩⟩⟩⟩ := h;exact ⟨A3, c3, rfl, l3, g3⟩
theorem abS {w : World} {base : Nat} {ok : Nat → Prop} {x : RQ} {cs : List Value} (h : Z4.M w base ok x cs) : ∃ v3, cs = [.int .i64 x.f0, .int .i64 x.f1, .int .i64 x.f2, v3] ∧ Md.R 75 w base ok v3 x.f3 := by
 obtain ⟨_, _, rfl, rfl, ⟨_, _, rfl, rfl, ⟨_, _, rfl, rfl, ⟨v3, rfl, g3⟩⟩⟩⟩ := h;exact ⟨v3, rfl, g3⟩
theorem Z5 (w : World) (x : RQ) {A3 : Option Addr} {c3 : Nat} (l3 : x.f3.length ≤ c3) (g3 : Md.C w A3 x.f3.length x.f3) : Z4.K w x [.int .i64 x.f0, .int .i64 x.f1, .int .i64 x.f2, .slice A3 x.f3.length c3] := ⟨[.int .i64 x.f0], [.int .i64 x.f1, .int .i64 x.f2, .slice A3 x.f3.length c3], rfl, rfl, ⟨[.int .i64 x.f1], [.int .i64 x.f2, .slice A3 x.f3.length c3], rfl, rfl, ⟨[.int .i64 x.f2], [.slice A3 x.f3.length c3], rfl, rfl, ⟨A3, c3, rfl, l3, g3⟩⟩⟩⟩
theorem afy (w : World) (base : Nat) (ok : Nat → Prop) (x : RQ) {v3 : Value} (g3 : Md.R 75 w base ok v3 x.f3) : Z4.M w base ok x [.int .i64 x.f0, .int .i64 x.f1, .int .i64 x.f2, v3] := ⟨[.int .i64 x.f0], [.int .i64 x.f1, .int .i64 x.f2, v3], rfl, rfl, ⟨[.int .i64 x.f1], [.int .i64 x.f2, v3], rfl, rfl, ⟨[.int .i64 x.f2], [v3], rfl, rfl, ⟨v3, rfl, g3⟩⟩⟩⟩
theorem abT {W : World} {ok : Nat → Prop} {x : RQ} {cs : List Value} (h : Kd.FK Z4 W ok x cs) : ∃ A3 c3, cs = [.int .i64 x.f0, .int .i64 x.f1, .int .i64 x.f2, .slice A3 x.f3.length c3] ∧ x.f3.length ≤ c3 ∧ Kd.F Md W ok A3 x.f3.length x.f3 := by
 obtain ⟨A3, c3, rfl, l3, _⟩ := FU (Kd.xX h);exact ⟨A3, c3, rfl, l3, (fun W' hW => by obtain ⟨A3_, c3_, he, l3_, g3_⟩ := FU (h W' hW); injection (Option.some.inj (show some (Value.slice A3 x.f3.length c3) = some (Value.slice A3_ x.f3.length c3_) from congrArg (fun l => l[3]?) he)) with Vl _ _; rw [Vl]; exact g3_)⟩
theorem afz (W : World) (ok : Nat → Prop) (x : RQ) {A3 : Option Addr} {c3 : Nat} (l3 : x.f3.length ≤ c3) (g3 : Kd.F Md W ok A3 x.f3.length x.f3) : Kd.FK Z4 W ok x [.int .i64 x.f0, .int .i64 x.f1, .int .i64 x.f2, .slice A3 x.f3.length c3] := fun W2 hW => Z5 W2 x l3 (g3 W2 hW)
def zI (xs : List RQ) (i : Int) : RQ := xs.getD i.toNat z58
theorem ah7 {w : World} {A : Option Addr} {n : Nat} {xs : List RQ} (h : Kd.C Z4 w A n xs) (i : Int) (h0 : 0 ≤ i) (h1 : i < n) : ∃ ad A3 c3, A = some ad ∧ w.cell? (ad.add (i.toNat * 4)) = some (.int .i64 (zI xs i).f0) ∧ w.cell? ⟨(ad.add (i.toNat * 4)).block, (ad.add (i.toNat * 4)).off + 1, none⟩ = some (.int .i64 (zI xs i).f1) ∧ w.cell? ⟨(ad.add (i.toNat * 4)).block, (ad.add (i.toNat * 4)).off + 2, none⟩ = some (.int .i64 (zI xs i).f2) ∧ w.cell? ⟨(ad.add (i.toNat * 4)).block, (ad.add (i.toNat * 4)).off + 3, none⟩ = some (.slice A3 (zI xs i).f3.length c3) ∧ (zI xs i).f3.length ≤ c3 ∧ Md.C w A3 (zI xs i).f3.length (zI xs i).f3 := by
 obtain ⟨ad, c, e, _, hK, hc0⟩ := Kd.rU h z58 i h0 h1;have hc : ∀ j u, c[j]? = some u → w.cell? (ad.add (i.toNat * 4 + j)) = some u := hc0;obtain ⟨A3, c3, rfl, l3, g3⟩ := FU hK;exact ⟨ad, A3, c3, e, hc 0 _ rfl, by rw [← fq _ _ 1 (by omega)]; exact hc 1 _ rfl, by rw [← fq _ _ 2 (by omega)]; exact hc 2 _ rfl, by rw [← fq _ _ 3 (by omega)]; exact hc 3 _ rfl, l3, g3⟩
structure S64 where
 f0 : Int
 f1 : (List S64)
def z64 : S64 := ⟨(0 : Int), ([] : List S64)⟩
def F64 (d : Kd S64) : Kd S64 := Kd.RN (Kd.pair (Kd.int .i64) (Kd.slice 64 d)) (fun x : S64 => (x.f0, x.f1))
theorem Jj : Kd.vG F64 := Kd.KL _ (Kd.Hz (Kd.FC _) (Kd.FD 64 Kd.Ol))
theorem acA : Kd.Sub F64 [64] := Kd.Om _ (Kd.KM (Kd.sub_const _ (by decide)) (Kd.ajW 64 (by decide) Kd.Sc))
theorem Z6 : ∀ n, (Kd.upto F64 2 [64] n).sz = 2 := Kd.Oo (fun _ => rfl)
def OG : Kd S64 := Kd.fix F64 2 [64] Z6 (Kd.Mr acA)
theorem FV {w : World} {x : S64} {cs : List Value} (h : OG.K w x cs) : ∃ A1 c1, cs = [.int .i64 x.f0, .slice A1 x.f1.length c1] ∧ x.f1.length ≤ c1 ∧ OG.C w A1 x.f1.length x.f1 := by
 obtain ⟨n, h⟩ := h
 cases n with
 | zero => exact h.elim
 | succ n =>
  obtain ⟨_, _, rfl, rfl, ⟨A1, c1, rfl, l1, g1⟩⟩ := h;exact ⟨A1, c1, rfl, l1, Kd.XQ g1⟩
theorem abU {w : World} {base : Nat} {ok : Nat → Prop} {x : S64} {cs : List Value} (h : OG.M w base ok x cs) : ∃ v1, cs = [.int .i64 x.f0, v1] ∧ OG.R 64 w base ok v1 x.f1 := by
 obtain ⟨n, h⟩ := h
 cases n with
 | zero => exact h.elim
 | succ n =>
  obtain ⟨_, _, rfl, rfl, ⟨v1, rfl, g1⟩⟩ := h;exact ⟨v1, rfl, Kd.XR g1⟩
theorem Z7 (w : World) (x : S64) {A1 : Option Addr} {c1 : Nat} (l1 : x.f1.length ≤ c1) (g1 : OG.C w A1 x.f1.length x.f1) : OG.K w x [.int .i64 x.f0, .slice A1 x.f1.length c1] := by
 obtain ⟨n1, q1⟩ := Kd.FH Jj g1;have r1 := Kd.Ic Jj Z6 (show n1 ≤ n1 by omega) q1;exact ⟨n1 + 1, ⟨[.int .i64 x.f0], [.slice A1 x.f1.length c1], rfl, rfl, ⟨A1, c1, rfl, l1, r1⟩⟩⟩
theorem afB (w : World) (base : Nat) (ok : Nat → Prop) (x : S64) {v1 : Value} (g1 : OG.R 64 w base ok v1 x.f1) : OG.M w base ok x [.int .i64 x.f0, v1] := by
 obtain ⟨n1, q1⟩ := Kd.FE Jj g1;have r1 := Kd.Ib Jj Z6 (show n1 ≤ n1 by omega) q1;exact ⟨n1 + 1, ⟨[.int .i64 x.f0], [v1], rfl, rfl, ⟨v1, rfl, r1⟩⟩⟩
theorem abV {W : World} {ok : Nat → Prop} {x : S64} {cs : List Value} (h : Kd.FK OG W ok x cs) : ∃ A1 c1, cs = [.int .i64 x.f0, .slice A1 x.f1.length c1] ∧ x.f1.length ≤ c1 ∧ Kd.F OG W ok A1 x.f1.length x.f1 := by
 obtain ⟨A1, c1, rfl, l1, _⟩ := FV (Kd.xX h);exact ⟨A1, c1, rfl, l1, (fun W' hW => by obtain ⟨ZV, ZW, he, l1_, ZX⟩ := FV (h W' hW); injection (Option.some.inj (show some (Value.slice A1 x.f1.length c1) = some (Value.slice ZV x.f1.length ZW) from congrArg (fun l => l[1]?) he)) with Vl _ _; rw [Vl]; exact ZX)⟩
theorem afC (W : World) (ok : Nat → Prop) (x : S64) {A1 : Option Addr} {c1 : Nat} (l1 : x.f1.length ≤ c1) (g1 : Kd.F OG W ok A1 x.f1.length x.f1) : Kd.FK OG W ok x [.int .i64 x.f0, .slice A1 x.f1.length c1] := fun W2 hW => Z7 W2 x l1 (g1 W2 hW)
def FW (xs : List S64) (i : Int) : S64 := xs.getD i.toNat z64
theorem ah8 {w : World} {A : Option Addr} {n : Nat} {xs : List S64} (h : Kd.C OG w A n xs) (i : Int) (h0 : 0 ≤ i) (h1 : i < n) : ∃ ad A1 c1, A = some ad ∧ w.cell? (ad.add (i.toNat * 2)) = some (.int .i64 (FW xs i).f0) ∧ w.cell? ⟨(ad.add (i.toNat * 2)).block, (ad.add (i.toNat * 2)).off + 1, none⟩ = some (.slice A1 (FW xs i).f1.length c1) ∧ (FW xs i).f1.length ≤ c1 ∧ OG.C w A1 (FW xs i).f1.length (FW xs i).f1 := by
 obtain ⟨ad, c, e, _, hK, hc0⟩ := Kd.rU h z64 i h0 h1;have hc : ∀ j u, c[j]? = some u → w.cell? (ad.add (i.toNat * 2 + j)) = some u := hc0;obtain ⟨A1, c1, rfl, l1, g1⟩ := FV hK;exact ⟨ad, A1, c1, e, hc 0 _ rfl, by rw [← fq _ _ 1 (by omega)]; exact hc 1 _ rfl, l1, g1⟩
structure uo where
 f0 : Int
 f1 : dK
def z124 : uo := ⟨(0 : Int), z34⟩
def MC : Kd uo := Kd.RN (Kd.pair (Kd.int .i64) xA) (fun x : uo => (x.f0, x.f1))
theorem Ik {w : World} {x : uo} {cs : List Value} (h : MC.K w x cs) : cs = [.int .i64 x.f0, .int .i64 x.f1.f0, .int .i64 x.f1.f1] := by
 obtain ⟨_, _, rfl, rfl, s1⟩ := h;obtain rfl := KS s1;exact rfl
theorem ME {w : World} {base : Nat} {ok : Nat → Prop} {x : uo} {cs : List Value} (h : MC.M w base ok x cs) : cs = [.int .i64 x.f0, .int .i64 x.f1.f0, .int .i64 x.f1.f1] := by
 obtain ⟨_, _, rfl, rfl, s1⟩ := h;obtain rfl := QO s1;exact rfl
theorem OH (w : World) (x : uo)  : MC.K w x [.int .i64 x.f0, .int .i64 x.f1.f0, .int .i64 x.f1.f1] := ⟨[.int .i64 x.f0], [.int .i64 x.f1.f0, .int .i64 x.f1.f1], rfl, rfl, (SQ w x.f1 )⟩
theorem SX (w : World) (base : Nat) (ok : Nat → Prop) (x : uo)  : MC.M w base ok x [.int .i64 x.f0, .int .i64 x.f1.f0, .int .i64 x.f1.f1] := ⟨[.int .i64 x.f0], [.int .i64 x.f1.f0, .int .i64 x.f1.f1], rfl, rfl, (vL w base ok x.f1 )⟩
theorem acB (W : World) (ok : Nat → Prop) (x : uo) : Kd.FK MC W ok x [.int .i64 x.f0, .int .i64 x.f1.f0, .int .i64 x.f1.f1] := fun W2 _ => OH W2 x
def Jk (xs : List uo) (i : Int) : uo := xs.getD i.toNat z124
theorem afD {w : World} {A : Option Addr} {n : Nat} {xs : List uo} (h : Kd.C MC w A n xs) (i : Int) (h0 : 0 ≤ i) (h1 : i < n) : ∃ ad , A = some ad ∧ w.cell? (ad.add (i.toNat * 3)) = some (.int .i64 (Jk xs i).f0) ∧ w.cell? ⟨(ad.add (i.toNat * 3)).block, (ad.add (i.toNat * 3)).off + 1, none⟩ = some (.int .i64 (Jk xs i).f1.f0) ∧ w.cell? ⟨(ad.add (i.toNat * 3)).block, (ad.add (i.toNat * 3)).off + 2, none⟩ = some (.int .i64 (Jk xs i).f1.f1) := by
 obtain ⟨ad, c, e, _, hK, hc0⟩ := Kd.rU h z124 i h0 h1;have hc : ∀ j u, c[j]? = some u → w.cell? (ad.add (i.toNat * 3 + j)) = some u := hc0;obtain rfl := Ik hK;exact ⟨ad, e, hc 0 _ rfl, by rw [← fq _ _ 1 (by omega)]; exact hc 1 _ rfl, by rw [← fq _ _ 2 (by omega)]; exact hc 2 _ rfl⟩
structure dP where
 f0 : uo
 f1 : Int
 f2 : Int
def z139 : dP := ⟨z124, (0 : Int), (0 : Int)⟩
def yc : Kd dP := Kd.RN (Kd.pair MC (Kd.pair (Kd.int .i64) (Kd.int .i64))) (fun x : dP => (x.f0, x.f1, x.f2))
theorem QP {w : World} {x : dP} {cs : List Value} (h : yc.K w x cs) : cs = [.int .i64 x.f0.f0, .int .i64 x.f0.f1.f0, .int .i64 x.f0.f1.f1, .int .i64 x.f1, .int .i64 x.f2] := by
 obtain ⟨_, _, rfl, s0, ⟨_, _, rfl, rfl, rfl⟩⟩ := h;obtain rfl := Ik s0;exact rfl
theorem Z8 {w : World} {base : Nat} {ok : Nat → Prop} {x : dP} {cs : List Value} (h : yc.M w base ok x cs) : cs = [.int .i64 x.f0.f0, .int .i64 x.f0.f1.f0, .int .i64 x.f0.f1.f1, .int .i64 x.f1, .int .i64 x.f2] := by
 obtain ⟨_, _, rfl, s0, ⟨_, _, rfl, rfl, rfl⟩⟩ := h;obtain rfl := ME s0;exact rfl
theorem Vm (w : World) (x : dP)  : yc.K w x [.int .i64 x.f0.f0, .int .i64 x.f0.f1.f0, .int .i64 x.f0.f1.f1, .int .i64 x.f1, .int .i64 x.f2] := ⟨[.int .i64 x.f0.f0, .int .i64 x.f0.f1.f0, .int .i64 x.f0.f1.f1], [.int .i64 x.f1, .int .i64 x.f2], rfl, (OH w x.f0 ), ⟨[.int .i64 x.f1], [.int .i64 x.f2], rfl, rfl, rfl⟩⟩
theorem KT (w : World) (base : Nat) (ok : Nat → Prop) (x : dP)  : yc.M w base ok x [.int .i64 x.f0.f0, .int .i64 x.f0.f1.f0, .int .i64 x.f0.f1.f1, .int .i64 x.f1, .int .i64 x.f2] := ⟨[.int .i64 x.f0.f0, .int .i64 x.f0.f1.f0, .int .i64 x.f0.f1.f1], [.int .i64 x.f1, .int .i64 x.f2], rfl, (SX w base ok x.f0 ), ⟨[.int .i64 x.f1], [.int .i64 x.f2], rfl, rfl, rfl⟩⟩
theorem acC (W : World) (ok : Nat → Prop) (x : dP) : Kd.FK yc W ok x [.int .i64 x.f0.f0, .int .i64 x.f0.f1.f0, .int .i64 x.f0.f1.f1, .int .i64 x.f1, .int .i64 x.f2] := fun W2 _ => Vm W2 x
def eO (xs : List dP) (i : Int) : dP := xs.getD i.toNat z139
theorem Jl {w : World} {A : Option Addr} {n : Nat} {xs : List dP} (h : Kd.C yc w A n xs) (i : Int) (h0 : 0 ≤ i) (h1 : i < n) : ∃ ad , A = some ad ∧ w.cell? (ad.add (i.toNat * 5)) = some (.int .i64 (eO xs i).f0.f0) ∧ w.cell? ⟨(ad.add (i.toNat * 5)).block, (ad.add (i.toNat * 5)).off + 1, none⟩ = some (.int .i64 (eO xs i).f0.f1.f0) ∧ w.cell? ⟨(ad.add (i.toNat * 5)).block, (ad.add (i.toNat * 5)).off + 2, none⟩ = some (.int .i64 (eO xs i).f0.f1.f1) ∧ w.cell? ⟨(ad.add (i.toNat * 5)).block, (ad.add (i.toNat * 5)).off + 3, none⟩ = some (.int .i64 (eO xs i).f1) ∧ w.cell? ⟨(ad.add (i.toNat * 5)).block, (ad.add (i.toNat * 5)).off + 4, none⟩ = some (.int .i64 (eO xs i).f2) := by
 obtain ⟨ad, c, e, _, hK, hc0⟩ := Kd.rU h z139 i h0 h1;have hc : ∀ j u, c[j]? = some u → w.cell? (ad.add (i.toNat * 5 + j)) = some u := hc0;obtain rfl := QP hK;exact ⟨ad, e, hc 0 _ rfl, by rw [← fq _ _ 1 (by omega)]; exact hc 1 _ rfl, by rw [← fq _ _ 2 (by omega)]; exact hc 2 _ rfl, by rw [← fq _ _ 3 (by omega)]; exact hc 3 _ rfl, by rw [← fq _ _ 4 (by omega)]; exact hc 4 _ rfl⟩
end Go.Proofs.Ytamimodkcbbpmaa.Pr
end
section
namespace Go.Proofs.Ytamimodkcbbpmaa.Pr
open Go.RowKit Go.Proofs.YtamimodkcbbpmaaW.PrintWords Go.Proofs.YtamimodkcbbpmaaW.PrintLast
set_option linter.unusedVariables false
set_option linter.unusedSimpArgs false
theorem Z9 {α : Type} {l : List α} (h : l.length = 2) : ∃ a b, l = [a, b] := by
 match l, h with
 | [a, b], _ => exact ⟨a, b, rfl⟩
theorem ah9 {α : Type} {l : List α} (h : l.length = 5) : ∃ a b c d e, l = [a, b, c, d, e] := by
 match l, h with
 | [a, b, c, d, e], _ => exact ⟨a, b, c, d, e, rfl⟩
section
variable {H : Type} {enc : TypeId × Value → H} {P : Program} {w : World} {sp : Nat → Bool} {held : Bool}
theorem vM {t : TypeId} {fs : Array Field} (ht : P.underlying t = some (.struct fs)) {fuel : Nat} {cs : List Value} {x : DataW H × List MemPlace} (h : DataW.trod enc P w 0 sp held fuel t cs = some x) :
  ∃ n, fuel = n + 1 ∧ cs.length = P.cellsOf t ∧ ∀ (i : Nat) (f : Field), fs[i]? = some f → ∃ y, DataW.trod enc P w 0 sp held n f.type ((cs.drop f.offset).take (P.cellsOf f.type)) = some y := by
 obtain ⟨xs, n, rfl, rfl, hl, hx, hf⟩ := DataW.trod_struct ht h;refine ⟨n, rfl, hl, fun i f hi => ?_⟩;have hlt : i < xs.length := by
  rw [hx];rcases Nat.lt_or_ge i fs.size with h1 | h1
  ·exact h1
  ·rw [Array.getElem?_eq_none h1] at hi; cases hi
 exact ⟨xs[i], by rw [hf i f hi, List.getElem?_eq_getElem hlt]⟩
theorem Dk {α : Type} (d : Kd α) (z : α) {t e : TypeId} (ht : P.underlying t = some (.slice e)) (hc : P.cellsOf e = d.sz) (Q : α → Prop) {fuel : Nat} {cs : List Value} {x : DataW H × List MemPlace} (h : DataW.trod enc P w 0 sp held fuel t cs = some x)
  (hel : ∀ (n : Nat) (cs : List Value) (x : DataW H × List MemPlace), n < fuel → DataW.trod enc P w 0 sp held n e cs = some x → cs.length = d.sz → ∃ v, d.K w v cs ∧ Q v) :
  ∃ (A : Option Addr) (c : Nat) (xs : List α), cs = [.slice A xs.length c] ∧ xs.length ≤ c ∧ xs.length ≤ 9223372036854775807 ∧ Kd.C d w A xs.length xs ∧ ∀ v, v ∈ xs → Q v := by
 rcases DataW.trod_slice ht h with ⟨rfl, _⟩ | ⟨a, len, cap, elems, rest, n, rfl, rfl, rfl, _, hl, hm, hlen, aia, _, _⟩
 ·exact ⟨none, 0, [], rfl, Nat.le_refl _, Nat.zero_le _, ⟨rfl, Nat.zero_le _, fun h => absurd h (by simp)⟩, fun v hv => by cases hv⟩
 ·have hmax : maxLen = 9223372036854775807 := rfl;haveI : Inhabited α := ⟨z⟩
  obtain ⟨V, hV⟩ := Go.Deep.choose_lt (α := α) (n := len) (p := fun i v => ∃ cs', cs'.length = d.sz ∧ d.K w v cs' ∧ Q v ∧ ∀ j u, cs'[j]? = some u → w.cell? (a.add (i * d.sz + j)) = some u) (fun i hi => by
   have h1 := aia i hi;rw [List.getElem?_eq_getElem (by omega)] at h1;obtain ⟨cs', h2, h3⟩ := Option.bind_eq_some_iff.1 h1;obtain ⟨_, h4, h5⟩ := World.cells?_some h2;rw [hc] at h4 h5;obtain ⟨v, hv, hq⟩ := hel n cs' _ (Nat.lt_succ_self n) h3 h4;refine ⟨v, cs', h4, hv, hq, fun j u hj => ?_⟩;have hjl : j < d.sz := by
    rcases Nat.lt_or_ge j cs'.length with h6 | h6
    ·omega
    ·rw [List.getElem?_eq_none h6] at hj; cases hj
   rw [← add_add, h5 j hjl];exact hj)
  have hxl : ((List.range len).map V).length = len := by simp
  refine ⟨some a, cap, (List.range len).map V, by rw [hxl], by rw [hxl]; exact hl, by rw [hxl]; omega, ⟨rfl, by rw [hxl]; omega, fun _ => ⟨a, rfl, fun j p hj => ?_⟩⟩, fun v hv => ?_⟩
  ·have hjl : j < len := by
    rcases Nat.lt_or_ge j len with h6 | h6
    ·exact h6
    ·rw [List.getElem?_eq_none (by rw [hxl]; exact h6)] at hj; cases hj
   rw [List.getElem?_map, List.getElem?_range hjl] at hj;injection hj with hj
   subst hj;obtain ⟨cs', h4, hv, _, h5⟩ := hV j hjl;exact ⟨cs', h4, hv, h5⟩
  ·obtain ⟨i, hi, rfl⟩ := List.mem_map.1 hv;obtain ⟨cs', _, _, hq, _⟩ := hV i (List.mem_range.1 hi);exact hq
end
section
variable {H : Type} {enc : TypeId × Value → H} {w : World} {sp : Nat → Bool} {held : Bool}
theorem mU {n : Nat} {cs : List Value} {x : DataW H × List MemPlace} (h : DataW.trod enc Try.prog w 0 sp held n 3 cs = some x) : ∃ v : Int, cs = [.int .i64 v] ∧ (-9223372036854775808 ≤ v ∧ v ≤ 9223372036854775807) := by
 obtain ⟨v, rfl, _, hw⟩ := DataW.trod_int Try.underlying3 h;refine ⟨v, rfl, ?_⟩;simp [Lit.wf, IntKind.min, IntKind.max, IntKind.signed, IntKind.bits] at hw
 omega
theorem Vn {n : Nat} {cs : List Value} {x : DataW H × List MemPlace} (h : DataW.trod enc Try.prog w 0 sp held n 44 cs = some x) :
  ∃ (A : Option Addr) (c : Nat) (xs : List Int), cs = [.slice A xs.length c] ∧ xs.length ≤ c ∧ xs.length ≤ 9223372036854775807 ∧ Kd.C (Kd.int .i64) w A xs.length xs ∧ ∀ v, v ∈ xs → (-9223372036854775808 ≤ v ∧ v ≤ 9223372036854775807) :=
 Dk (Kd.int .i64) 0 Try.underlying44 (by kernel_rfl) (fun v => -9223372036854775808 ≤ v ∧ v ≤ 9223372036854775807) h (fun n cs x _ h2 _ => by
  obtain ⟨v, rfl, hv⟩ := mU h2;exact ⟨v, rfl, hv⟩)
structure Dl (e : dO) : Prop where
 len : e.f1.length ≤ 9223372036854775807
 f0 : -9223372036854775808 ≤ e.f0 ∧ e.f0 ≤ 9223372036854775807
 f2 : -9223372036854775808 ≤ e.f2 ∧ e.f2 ≤ 9223372036854775807
 f1 : ∀ v, v ∈ e.f1 → (-9223372036854775808 ≤ v ∧ v ≤ 9223372036854775807)
set_option maxRecDepth 100000 in
theorem Vo {n : Nat} {cs : List Value} {x : DataW H × List MemPlace} (h : DataW.trod enc Try.prog w 0 sp held n 54 cs = some x) : ∃ e : dO, sJ.K w e cs ∧ Dl e := by
 obtain ⟨m, rfl, hl, hf⟩ := vM Try.underlying54 h;obtain ⟨c0, c1, c2, c3, c4, rfl⟩ := ah9 (hl.trans (by kernel_rfl));clear hl;obtain ⟨y0, h0⟩ := hf 0 _ rfl;replace h0 : DataW.trod enc Try.prog w 0 sp held m 3 (([c0, c1, c2, c3, c4].drop 0).take (Try.prog.cellsOf 3)) = some y0 := h0;obtain ⟨y1, h1⟩ := hf 1 _ rfl;replace h1 : DataW.trod enc Try.prog w 0 sp held m 44 (([c0, c1, c2, c3, c4].drop 1).take (Try.prog.cellsOf 44)) = some y1 := h1;obtain ⟨y2, h2⟩ := hf 2 _ rfl;replace h2 : DataW.trod enc Try.prog w 0 sp held m 3 (([c0, c1, c2, c3, c4].drop 2).take (Try.prog.cellsOf 3)) = some y2 := h2;obtain ⟨y3, h3⟩ := hf 3 _ rfl;replace h3 : DataW.trod enc Try.prog w 0 sp held m 52 (([c0, c1, c2, c3, c4].drop 3).take (Try.prog.cellsOf 52)) = some y3 := h3;rw [show Try.prog.cellsOf 3 = 1 by kernel_rfl] at h0 h2;rw [show Try.prog.cellsOf 44 = 1 by kernel_rfl] at h1;rw [show Try.prog.cellsOf 52 = 2 by kernel_rfl] at h3;obtain ⟨v0, e0, b0⟩ := mU h0;obtain ⟨v2, e2, b2⟩ := mU h2;obtain ⟨A, c, xs, e1, hc, hx, hC, hQ⟩ := Vn h1;obtain ⟨v3, v4, e34⟩ : ∃ v3 v4 : Int, [c3, c4] = [.int .i64 v3, .int .i64 v4] := by
  replace h3 : DataW.trod enc Try.prog w 0 sp held m 52 [c3, c4] = some y3 := h3;clear h0 h1 h2 hf;obtain ⟨xs3, m3, rfl, _, _, hx3, hf3⟩ := DataW.trod_array Try.underlying52 h3;obtain ⟨z0, z1, rfl⟩ := Z9 hx3;have h30 := hf3 0 (by decide);have h31 := hf3 1 (by decide);obtain ⟨n1, hn1⟩ : ∃ n1, n1 = Try.prog.cellsOf 3 := ⟨_, rfl⟩;rw [← hn1] at h30 h31;obtain rfl : n1 = 1 := hn1.trans (by kernel_rfl);clear hf3 h3 hn1;obtain ⟨v3, e3, _⟩ := mU (x := z0) h30;obtain ⟨v4, e4, _⟩ := mU (x := z1) h31;have q3 : c3 = .int .i64 v3 := by simpa using e3
  have q4 : c4 = .int .i64 v4 := by simpa using e4
  exact ⟨v3, v4, by rw [q3, q4]⟩
 have q0 : c0 = .int .i64 v0 := by simpa using e0
 have q1 : c1 = .slice A xs.length c := by simpa using e1
 have q2 : c2 = .int .i64 v2 := by simpa using e2
 have q34 := e34;injection q34 with q3 q34
 injection q34 with q4 _
 subst q0 q1 q2 q3 q4;exact ⟨⟨v0, xs, v2, ⟨v3, v4⟩⟩, SN w ⟨v0, xs, v2, ⟨v3, v4⟩⟩ hc hC, ⟨hx, b0, b2, hQ⟩⟩
theorem Vp {n : Nat} {cs : List Value} {x : DataW H × List MemPlace} (h : DataW.trod enc Try.prog w 0 sp held n 22 cs = some x) :
  ∃ (A : Option Addr) (c : Nat) (xs : List dO), cs = [.slice A xs.length c] ∧ xs.length ≤ c ∧ xs.length ≤ 9223372036854775807 ∧ Kd.C sJ w A xs.length xs ∧ ∀ v, v ∈ xs → Dl v :=
 Dk sJ ⟨0, [], 0, ⟨0, 0⟩⟩ Try.underlying22 (by kernel_rfl) Dl h (fun n cs x _ h2 _ => Vo h2)
inductive fO : dU → Prop
 | mk (d : dU) (hf : -9223372036854775808 ≤ d.f0 ∧ d.f0 ≤ 9223372036854775807) (hl : d.f1.length ≤ 9223372036854775807) (hk : ∀ v, v ∈ d.f1 → fO v) : fO d
theorem Vq : ∀ (n : Nat) {cs : List Value} {x : DataW H × List MemPlace}, DataW.trod enc Try.prog w 0 sp held n 27 cs = some x → ∃ d : dU, k27.K w d cs ∧ fO d := by
 intro n;induction n using Nat.strongRecOn with
 | ind n ih =>
  intro cs x h;obtain ⟨m, rfl, hl, hf⟩ := vM Try.underlying27 h;obtain ⟨c0, c1, rfl⟩ := Z9 (hl.trans (by kernel_rfl));clear hl;obtain ⟨y0, h0⟩ := hf 0 _ rfl;replace h0 : DataW.trod enc Try.prog w 0 sp held m 3 (([c0, c1].drop 0).take (Try.prog.cellsOf 3)) = some y0 := h0;obtain ⟨y1, h1⟩ := hf 1 _ rfl;replace h1 : DataW.trod enc Try.prog w 0 sp held m 25 (([c0, c1].drop 1).take (Try.prog.cellsOf 25)) = some y1 := h1;rw [show Try.prog.cellsOf 3 = 1 by kernel_rfl] at h0;rw [show Try.prog.cellsOf 25 = 1 by kernel_rfl] at h1;obtain ⟨v0, e0, b0⟩ := mU h0;obtain ⟨A, c, xs, e1, hc, hx, hC, hQ⟩ := Dk k27 z27 Try.underlying25 (by kernel_rfl) fO h1 (fun n2 cs x hn h2 _ => ih n2 (by omega) h2);have q0 : c0 = .int .i64 v0 := by simpa using e0
  have q1 : c1 = .slice A xs.length c := by simpa using e1
  subst q0 q1;exact ⟨⟨v0, xs⟩, Jh w ⟨v0, xs⟩ hc hC, fO.mk _ b0 hx hQ⟩
theorem aic {α : Type} {l : List α} (h : l.length = 9) : ∃ a b c d e f g i j, l = [a, b, c, d, e, f, g, i, j] := by
 match l, h with
 | [a, b, c, d, e, f, g, i, j], _ => exact ⟨a, b, c, d, e, f, g, i, j, rfl⟩
structure acD (w : World) (n : Int) (A : Option Addr) (c : Nat) (l : List dO) : Prop where
 n : -9223372036854775808 ≤ n ∧ n ≤ 9223372036854775807
 c : l.length ≤ c
 C : Kd.C sJ w A l.length l
 f : ∀ v, v ∈ l → Dl v
theorem OI {n : Nat} {cs : List Value} {x : DataW H × List MemPlace} (h : DataW.trod enc Try.prog w 0 sp held n 24 cs = some x) : ∃ (v : Int) (A : Option Addr) (c : Nat) (l : List dO), cs = [.int .i64 v, .slice A l.length c] ∧ acD w v A c l := by
 obtain ⟨m, rfl, hl, hf⟩ := vM Try.underlying24 h;obtain ⟨c0, c1, rfl⟩ := Z9 (hl.trans (by kernel_rfl));clear hl;obtain ⟨y0, h0⟩ := hf 0 _ rfl;replace h0 : DataW.trod enc Try.prog w 0 sp held m 3 (([c0, c1].drop 0).take (Try.prog.cellsOf 3)) = some y0 := h0;obtain ⟨y1, h1⟩ := hf 1 _ rfl;replace h1 : DataW.trod enc Try.prog w 0 sp held m 22 (([c0, c1].drop 1).take (Try.prog.cellsOf 22)) = some y1 := h1;rw [show Try.prog.cellsOf 3 = 1 by kernel_rfl] at h0;rw [show Try.prog.cellsOf 22 = 1 by kernel_rfl] at h1;obtain ⟨v0, e0, b0⟩ := mU h0;obtain ⟨A, c, xs, e1, hc, hx, hC, hQ⟩ := Vp h1;have q0 : c0 = .int .i64 v0 := by simpa using e0
 have q1 : c1 = .slice A xs.length c := by simpa using e1
 subst q0 q1;exact ⟨v0, A, c, xs, rfl, ⟨b0, hc, hC, hQ⟩⟩
structure Vr (w : World) (A : Option Addr) (c : Nat) (d : dU) : Prop where
 c : d.f1.length ≤ c
 C : Kd.C k27 w A d.f1.length d.f1
 f : fO d
theorem Jm {n : Nat} {cs : List Value} {x : DataW H × List MemPlace} (h : DataW.trod enc Try.prog w 0 sp held n 27 cs = some x) : ∃ (d : dU) (A : Option Addr) (c : Nat), cs = [.int .i64 d.f0, .slice A d.f1.length c] ∧ Vr w A c d := by
 obtain ⟨d, hK, hF⟩ := Vq n h;obtain ⟨A, c, rfl, hc, hC⟩ := Ac hK;exact ⟨d, A, c, rfl, hc, hC, hF⟩
set_option maxRecDepth 100000 in
theorem afE {n : Nat} {cs : List Value} {x : DataW H × List MemPlace} (h : DataW.trod enc Try.prog w 0 sp held n 29 cs = some x) :
  ∃ (v : Int) (A : Option Addr) (c : Nat) (l : List dO) (r : Int) (d1 : dU) (A1 : Option Addr) (k1 : Nat) (d2 : dU) (A2 : Option Addr) (k2 : Nat) (d3 : dU) (A3 : Option Addr) (k3 : Nat),
   cs = [.int .i64 v, .slice A l.length c, .int .i64 r, .int .i64 d1.f0, .slice A1 d1.f1.length k1, .int .i64 d2.f0, .slice A2 d2.f1.length k2, .int .i64 d3.f0, .slice A3 d3.f1.length k3] ∧ acD w v A c l ∧ (-9223372036854775808 ≤ r ∧ r ≤ 9223372036854775807) ∧ Vr w A1 k1 d1 ∧ Vr w A2 k2 d2 ∧ Vr w A3 k3 d3 := by
 obtain ⟨m, rfl, hl, hf⟩ := vM Try.underlying29 h;obtain ⟨c0, c1, c2, c3, c4, c5, c6, c7, c8, rfl⟩ := aic (hl.trans (by kernel_rfl));clear hl;obtain ⟨y0, h0⟩ := hf 0 _ rfl;replace h0 : DataW.trod enc Try.prog w 0 sp held m 24 (([c0, c1, c2, c3, c4, c5, c6, c7, c8].drop 0).take (Try.prog.cellsOf 24)) = some y0 := h0;obtain ⟨y1, h1⟩ := hf 1 _ rfl;replace h1 : DataW.trod enc Try.prog w 0 sp held m 3 (([c0, c1, c2, c3, c4, c5, c6, c7, c8].drop 2).take (Try.prog.cellsOf 3)) = some y1 := h1;obtain ⟨y2, h2⟩ := hf 2 _ rfl;replace h2 : DataW.trod enc Try.prog w 0 sp held m 27 (([c0, c1, c2, c3, c4, c5, c6, c7, c8].drop 3).take (Try.prog.cellsOf 27)) = some y2 := h2;obtain ⟨y3, h3⟩ := hf 3 _ rfl;replace h3 : DataW.trod enc Try.prog w 0 sp held m 27 (([c0, c1, c2, c3, c4, c5, c6, c7, c8].drop 5).take (Try.prog.cellsOf 27)) = some y3 := h3;obtain ⟨y4, h4⟩ := hf 4 _ rfl;replace h4 : DataW.trod enc Try.prog w 0 sp held m 27 (([c0, c1, c2, c3, c4, c5, c6, c7, c8].drop 7).take (Try.prog.cellsOf 27)) = some y4 := h4;clear hf h;rw [show Try.prog.cellsOf 24 = 2 by kernel_rfl] at h0;rw [show Try.prog.cellsOf 3 = 1 by kernel_rfl] at h1;rw [show Try.prog.cellsOf 27 = 2 by kernel_rfl] at h2 h3 h4;obtain ⟨v, A, c, l, e0, i0⟩ := OI (cs := [c0, c1]) h0;obtain ⟨r, e1, b1⟩ := mU (cs := [c2]) h1;obtain ⟨d1, A1, k1, e2, i1⟩ := Jm (cs := [c3, c4]) h2;obtain ⟨d2, A2, k2, e3, i2⟩ := Jm (cs := [c5, c6]) h3;obtain ⟨d3, A3, k3, e4, i3⟩ := Jm (cs := [c7, c8]) h4;injection e0 with q0 e0
 injection e0 with q1 _
 injection e1 with q2 _
 injection e2 with q3 e2
 injection e2 with q4 _
 injection e3 with q5 e3
 injection e3 with q6 _
 injection e4 with q7 e4
 injection e4 with q8 _
 subst q0 q1 q2 q3 q4 q5 q6 q7 q8;exact ⟨v, A, c, l, r, d1, A1, k1, d2, A2, k2, d3, A3, k3, rfl, i0, b1, i1, i2, i3⟩
end
theorem aKH {α : Type} {l : List α} (h : l.length = 6) : ∃ a b c d e f, l = [a, b, c, d, e, f] := by
 match l, h with
 | [a, b, c, d, e, f], _ => exact ⟨a, b, c, d, e, f, rfl⟩
theorem aKI {α : Type} {l : List α} (h : l.length = 4) : ∃ a b c d, l = [a, b, c, d] := by
 match l, h with
 | [a, b, c, d], _ => exact ⟨a, b, c, d, rfl⟩
section
variable {H : Type} {enc : TypeId × Value → H} {w : World} {sp : Nat → Bool} {held : Bool}
abbrev au6 (v : Int) : Prop := -9223372036854775808 ≤ v ∧ v ≤ 9223372036854775807
set_option maxRecDepth 100000 in
theorem aze {n : Nat} {cs : List Value} {x : DataW H × List MemPlace} (h : DataW.trod enc Try.prog w 0 sp held n 75 cs = some x) : ∃ r : KH, Md.K w r cs ∧ ((au6 r.f0 ∧ au6 r.f1) ∧ (au6 r.f2 ∧ au6 r.f3) ∧ au6 r.f4 ∧ au6 r.f5) := by
 obtain ⟨m, rfl, hl, hf⟩ := vM Try.underlying75 h;obtain ⟨c0, c1, c2, c3, c4, c5, rfl⟩ := aKH (hl.trans (by kernel_rfl));clear hl;obtain ⟨y0, h0⟩ := hf 0 _ rfl;replace h0 : DataW.trod enc Try.prog w 0 sp held m 3 (([c0, c1, c2, c3, c4, c5].drop 0).take (Try.prog.cellsOf 3)) = some y0 := h0;obtain ⟨y1, h1⟩ := hf 1 _ rfl;replace h1 : DataW.trod enc Try.prog w 0 sp held m 3 (([c0, c1, c2, c3, c4, c5].drop 1).take (Try.prog.cellsOf 3)) = some y1 := h1;obtain ⟨y2, h2⟩ := hf 2 _ rfl;replace h2 : DataW.trod enc Try.prog w 0 sp held m 3 (([c0, c1, c2, c3, c4, c5].drop 2).take (Try.prog.cellsOf 3)) = some y2 := h2;obtain ⟨y3, h3⟩ := hf 3 _ rfl;replace h3 : DataW.trod enc Try.prog w 0 sp held m 3 (([c0, c1, c2, c3, c4, c5].drop 3).take (Try.prog.cellsOf 3)) = some y3 := h3;obtain ⟨y4, h4⟩ := hf 4 _ rfl;replace h4 : DataW.trod enc Try.prog w 0 sp held m 3 (([c0, c1, c2, c3, c4, c5].drop 4).take (Try.prog.cellsOf 3)) = some y4 := h4;obtain ⟨y5, h5⟩ := hf 5 _ rfl;replace h5 : DataW.trod enc Try.prog w 0 sp held m 3 (([c0, c1, c2, c3, c4, c5].drop 5).take (Try.prog.cellsOf 3)) = some y5 := h5;rw [show Try.prog.cellsOf 3 = 1 by kernel_rfl] at h0 h1 h2 h3 h4 h5;obtain ⟨v0, e0, b0⟩ := mU h0;obtain ⟨v1, e1, b1⟩ := mU h1;obtain ⟨v2, e2, b2⟩ := mU h2;obtain ⟨v3, e3, b3⟩ := mU h3;obtain ⟨v4, e4, b4⟩ := mU h4;obtain ⟨v5, e5, b5⟩ := mU h5;have q0 : c0 = .int .i64 v0 := by simpa using e0
 have q1 : c1 = .int .i64 v1 := by simpa using e1
 have q2 : c2 = .int .i64 v2 := by simpa using e2
 have q3 : c3 = .int .i64 v3 := by simpa using e3
 have q4 : c4 = .int .i64 v4 := by simpa using e4
 have q5 : c5 = .int .i64 v5 := by simpa using e5
 subst q0 q1 q2 q3 q4 q5;exact ⟨⟨v0, v1, v2, v3, v4, v5⟩, Z0 w ⟨v0, v1, v2, v3, v4, v5⟩, ⟨b0, b1⟩, ⟨b2, b3⟩, b4, b5⟩
theorem azf {n : Nat} {cs : List Value} {x : DataW H × List MemPlace} (h : DataW.trod enc Try.prog w 0 sp held n 56 cs = some x) :
  ∃ (A : Option Addr) (c : Nat) (xs : List KH), cs = [.slice A xs.length c] ∧ xs.length ≤ c ∧ xs.length ≤ 9223372036854775807 ∧ Kd.C Md w A xs.length xs ∧ ∀ v, v ∈ xs → True :=
 Dk Md z75 Try.underlying56 (by kernel_rfl) (fun _ => True) h (fun n cs x _ h2 _ => by
  obtain ⟨r, hr, _⟩ := aze h2;exact ⟨r, hr, trivial⟩)
structure aCh (w : World) (A : Option Addr) (c : Nat) (l : List KH) : Prop where
 c : l.length ≤ c
 ll : l.length ≤ 9223372036854775807
 C : Kd.C Md w A l.length l
set_option maxRecDepth 100000 in
theorem azg {n : Nat} {cs : List Value} {x : DataW H × List MemPlace} (h : DataW.trod enc Try.prog w 0 sp held n 58 cs = some x) : ∃ (T N S : Int) (A : Option Addr) (c : Nat) (l : List KH), cs = [.int .i64 T, .int .i64 N, .int .i64 S, .slice A l.length c] ∧ aCh w A c l := by
 obtain ⟨m, rfl, hl, hf⟩ := vM Try.underlying58 h;obtain ⟨c0, c1, c2, c3, rfl⟩ := aKI (hl.trans (by kernel_rfl));clear hl;obtain ⟨y0, h0⟩ := hf 0 _ rfl;replace h0 : DataW.trod enc Try.prog w 0 sp held m 3 (([c0, c1, c2, c3].drop 0).take (Try.prog.cellsOf 3)) = some y0 := h0;obtain ⟨y1, h1⟩ := hf 1 _ rfl;replace h1 : DataW.trod enc Try.prog w 0 sp held m 3 (([c0, c1, c2, c3].drop 1).take (Try.prog.cellsOf 3)) = some y1 := h1;obtain ⟨y2, h2⟩ := hf 2 _ rfl;replace h2 : DataW.trod enc Try.prog w 0 sp held m 3 (([c0, c1, c2, c3].drop 2).take (Try.prog.cellsOf 3)) = some y2 := h2;obtain ⟨y3, h3⟩ := hf 3 _ rfl;replace h3 : DataW.trod enc Try.prog w 0 sp held m 56 (([c0, c1, c2, c3].drop 3).take (Try.prog.cellsOf 56)) = some y3 := h3;rw [show Try.prog.cellsOf 3 = 1 by kernel_rfl] at h0 h1 h2;rw [show Try.prog.cellsOf 56 = 1 by kernel_rfl] at h3;obtain ⟨v0, e0, b0⟩ := mU h0;obtain ⟨v1, e1, b1⟩ := mU h1;obtain ⟨v2, e2, b2⟩ := mU h2;obtain ⟨A, c, xs, e3, hc, hx, hC, _⟩ := azf h3;have q0 : c0 = .int .i64 v0 := by simpa using e0
 have q1 : c1 = .int .i64 v1 := by simpa using e1
 have q2 : c2 = .int .i64 v2 := by simpa using e2
 have q3 : c3 = .slice A xs.length c := by simpa using e3
 subst q0 q1 q2 q3;exact ⟨v0, v1, v2, A, c, xs, rfl, ⟨hc, hx, hC⟩⟩
structure aCi (w : World) (A : Option Addr) (c : Nat) (l : List Int) : Prop where
 c : l.length ≤ c
 ll : l.length ≤ 9223372036854775807
 C : Kd.C (Kd.int .i64) w A l.length l
 f : ∀ v, v ∈ l → au6 v
theorem azh {n : Nat} {cs : List Value} {x : DataW H × List MemPlace} (h : DataW.trod enc Try.prog w 0 sp held n 44 cs = some x) : ∃ (A : Option Addr) (c : Nat) (l : List Int), cs = [.slice A l.length c] ∧ aCi w A c l := by
 obtain ⟨A, c, xs, e3, hc, hx, hC, hf⟩ := Vn h;exact ⟨A, c, xs, e3, hc, hx, hC, hf⟩
inductive auE : S64 → Prop
 | mk (d : S64) (hf : -9223372036854775808 ≤ d.f0 ∧ d.f0 ≤ 9223372036854775807) (hl : d.f1.length ≤ 9223372036854775807) (hk : ∀ v, v ∈ d.f1 → auE v) : auE d
theorem azi : ∀ (n : Nat) {cs : List Value} {x : DataW H × List MemPlace}, DataW.trod enc Try.prog w 0 sp held n 64 cs = some x → ∃ d : S64, OG.K w d cs ∧ auE d := by
 intro n;induction n using Nat.strongRecOn with
 | ind n ih =>
  intro cs x h;obtain ⟨m, rfl, hl, hf⟩ := vM Try.underlying64 h;obtain ⟨c0, c1, rfl⟩ := Z9 (hl.trans (by kernel_rfl));clear hl;obtain ⟨y0, h0⟩ := hf 0 _ rfl;replace h0 : DataW.trod enc Try.prog w 0 sp held m 3 (([c0, c1].drop 0).take (Try.prog.cellsOf 3)) = some y0 := h0;obtain ⟨y1, h1⟩ := hf 1 _ rfl;replace h1 : DataW.trod enc Try.prog w 0 sp held m 62 (([c0, c1].drop 1).take (Try.prog.cellsOf 62)) = some y1 := h1;rw [show Try.prog.cellsOf 3 = 1 by kernel_rfl] at h0;rw [show Try.prog.cellsOf 62 = 1 by kernel_rfl] at h1;obtain ⟨v0, e0, b0⟩ := mU h0;obtain ⟨A, c, xs, e1, hc, hx, hC, hQ⟩ := Dk OG z64 Try.underlying62 (by kernel_rfl) auE h1 (fun n2 cs x hn h2 _ => ih n2 (by omega) h2);have q0 : c0 = .int .i64 v0 := by simpa using e0
  have q1 : c1 = .slice A xs.length c := by simpa using e1
  subst q0 q1;exact ⟨⟨v0, xs⟩, Z7 w ⟨v0, xs⟩ hc hC, auE.mk _ b0 hx hQ⟩
structure In64 (w : World) (A : Option Addr) (c : Nat) (d : S64) : Prop where
 c : d.f1.length ≤ c
 C : Kd.C OG w A d.f1.length d.f1
 f : auE d
theorem aFD {n : Nat} {cs : List Value} {x : DataW H × List MemPlace} (h : DataW.trod enc Try.prog w 0 sp held n 64 cs = some x) : ∃ (d : S64) (A : Option Addr) (c : Nat), cs = [.int .i64 d.f0, .slice A d.f1.length c] ∧ In64 w A c d := by
 obtain ⟨d, hK, hF⟩ := azi n h;obtain ⟨A, c, rfl, hc, hC⟩ := FV hK;exact ⟨d, A, c, rfl, hc, hC, hF⟩
end
end Go.Proofs.Ytamimodkcbbpmaa.Pr
end
section
namespace Go.Proofs.Ytamimodkcbbpmaa.Pr
open Go Go.ChangeShapes Go.WideShapes Go.ChangeAt Go.RowKit
set_option maxRecDepth 1000000
theorem aid {a b : Bool} (h : a = true) (k : b = true) : (a && b) = true := by rw [h, k]; rfl
theorem zJ : ∃ r, behindMainWord (wordsSigns Try.prog.initOrder.toList) = "cut".toList :: r := by
 have h : Try.prog.initOrder.toList = _ := String.toList_ofList;rw [h];exact ⟨_, rfl⟩
theorem Vs (P : Program) (r : List (List Char)) (h : behindMainWord (wordsSigns P.initOrder.toList) = "cut".toList :: r) : P.make = some .cut := by
 unfold Program.make;rw [h];rfl
theorem Il (r : List (List Char)) : stripLifts liftWords ("cut".toList :: r) = ([], "cut".toList :: r) := by kernel_rfl
theorem SY (P : Program) (r : List (List Char)) (h : behindMainWord (wordsSigns P.initOrder.toList) = "cut".toList :: r) : P.liftsFinal = false := by
 unfold Program.liftsFinal Program.headLifts;rw [h, Il];rfl
theorem S9 (P : Program) (r : List (List Char)) (h : behindMainWord (wordsSigns P.initOrder.toList) = "cut".toList :: r) (h1 : P.laysLater = false) (h2 : P.bearsReflect = false) (h3 : P.doorRows = []) : P.mayEnter = true := by
 have h4 : P.doorFits [] = true := by
  unfold Program.doorFits;rw [h3];rfl
 unfold Program.mayEnter;rw [h];simp only [Il, h1, h2, h4];rfl
theorem QR : Try.prog.make = some .cut := by
 obtain ⟨r, h⟩ := zJ;exact Vs _ r h
theorem MG : Try.prog.liftsFinal = false := by
 obtain ⟨r, h⟩ := zJ;exact SY _ r h
theorem MH : Try.prog.laysLater = false := by kernel_rfl
theorem Jn : Try.prog.bearsReflect = false := by kernel_rfl
theorem MI : Try.prog.doorRows = [] := by kernel_rfl
theorem MJ : Try.prog.mayEnter = true := by
 obtain ⟨r, h⟩ := zJ;exact S9 _ r h MH Jn MI
theorem MK : Try.prog.stopsHeard = true := by kernel_rfl
end Go.Proofs.Ytamimodkcbbpmaa.Pr
end
section
namespace Go.Proofs.YtamimodkcbbpmaaXW
open Go.RowKit Go.Proofs.YtamimodkcbbpmaaW.PrintWords Go.Proofs.YtamimodkcbbpmaaW.PrintLast
def En (P : Program) (ops : Array Oper) (S : World → Prop) : List (Nat × Tmp) → Act → Act → Prop
 | [], a, a' => a = a'
 | i :: is, a, a' => ∃ (oi : Oper) (v : Value) (a1 : Act), ops[i.1]? = some oi ∧ oi.dst = some i.2 ∧ YieldsIf P ops S oi v a ∧ a.put (some i.2) v = a1 ∧ En P ops S is a1 a'
theorem chain_nil {P : Program} {ops : Array Oper} {S : World → Prop} {a : Act} : En P ops S [] a a := rfl
theorem bC {P : Program} {ops : Array Oper} {S : World → Prop} {i : Nat} {t : Tmp} {is : List (Nat × Tmp)} {a a' : Act} {oi : Oper} {v : Value} {a1 : Act} (hi : ops[i]? = some oi) (hN : oi.dst = some t) (hy : YieldsIf P ops S oi v a) (ha : a.put (some t) v = a1) (h : En P ops S is a1 a') :
  En P ops S ((i, t) :: is) a a' := ⟨oi, v, a1, hi, hN, hy, ha, h⟩
theorem jQ {P : Program} {ops : Array Oper} {S : World → Prop} {i : Nat} {t : Tmp} {is : List (Nat × Tmp)} {a a' : Act} {oi : Oper} {a1 : Act} (hi : ops[i]? = some oi) (hN : oi.dst = some t) (hw : Region.wanted oi (yielded ops a.tmps) = false) (ha : a.put (some t) undef = a1) (h : En P ops S is a1 a') :
  En P ops S ((i, t) :: is) a a' := ⟨oi, undef, a1, hi, hN, Or.inr ⟨hw, rfl⟩, ha, h⟩
def Eo (md : Region.Mode) (ops : Array Oper) (ds : List Nat) : List (Nat × Tmp) → Array Bool → Array Bool → Bool
 | [], l, l' => l == l'
 | i :: is, l, l' => takeB md ops ds l (l.setIfInBounds i.1 true) i.1 && Eo md ops ds is (l.setIfInBounds i.1 true) l'
section
variable {P : Program} {md : Region.Mode} {ops : Array Oper} {Q : Exit → Act → World → Prop} {S : World → Prop} {ds : List Nat}
theorem KU (hQ : ∀ c a t v w, Q (.panic c) (Act.put a (some t) v) w → Q (.panic c) a w) {w : World} (hS : S w) {fuel : Nat} {l' : Array Bool} {a' : Act} (h : bZ P md ops Q S ds fuel l' a' w) :
  ∀ (is : List (Nat × Tmp)) (l : Array Bool) (a : Act), Eo md ops ds is l l' = true → En P ops S is a a' → bZ P md ops Q S ds (fuel + is.length) l a w
 | [], l, a, hb, hc => by
  simp only [Eo, beq_iff_eq] at hb;subst hb;subst hc;exact h
 | i :: is, l, a, hb, hc => by
  simp only [Eo, Bool.and_eq_true] at hb;obtain ⟨oi, v, a1, hi, hN, hy, rfl, hc⟩ := hc;have := KU hQ hS h is (l.setIfInBounds i.1 true) (a.put (some i.2) v) hb.2 hc;exact Eg (fuel := fuel + is.length) _ hi hN hb.1 (fun c a w => by rw [hN]; exact hQ c a _ _ w) hy hS rfl this
theorem fG {w : World} {n fuel : Nat} {l : Array Bool} {a a' : Act} (is : List (Nat × Tmp)) (l' : Array Bool) (hb : Eo md ops ds is l l' = true) (hn : (fuel + is.length == n) = true)
  (hQ : ∀ c a t v w, Q (.panic c) (Act.put a (some t) v) w → Q (.panic c) a w) (hS : S w) (hc : En P ops S is a a') (h : bZ P md ops Q S ds fuel l' a' w) : bZ P md ops Q S ds n l a w := by
 rw [beq_iff_eq] at hn;subst hn;exact KU hQ hS h is l a hb hc
def OJ (T : Bool × List (List Nat × List Nat)) (B : List Nat) (ds : List Nat) : List (Nat × Tmp) → List Bool → List Bool → Bool
 | [], l, l' => l == l'
 | i :: is, l, l' => Sv T B ds l (l.set i.1 true) i.1 && OJ T B ds is (l.set i.1 true) l'
theorem df {T : Bool × List (List Nat × List Nat)} {B : List Nat} (hT : iC md ops = T) (hB : fo T.2 B = true) : ∀ (is : List (Nat × Tmp)) (l l' : Array Bool), OJ T B ds is l.toList l'.toList = true → Eo md ops ds is l l' = true
 | [], l, l', h => by
  simp only [OJ, beq_iff_eq] at h;simp only [Eo, beq_iff_eq];exact Array.ext' h
 | i :: is, l, l', h => by
  simp only [OJ, Bool.and_eq_true] at h;simp only [Eo, Bool.and_eq_true];have e : l.toList.set i.1 true = (l.setIfInBounds i.1 true).toList := by simp
  rw [e] at h;exact ⟨uD hT hB h.1, df hT hB is _ _ h.2⟩
def Dm (P : Program) (ops : Array Oper) : List (Nat × Tmp) → Act → Act → Prop
 | [], a, a' => a = a'
 | i :: is, a, a' => ∃ (oi : Oper) (v : Value) (a1 : Act), ops[i.1]? = some oi ∧ oi.dst = some i.2 ∧ Yields P ops oi v a ∧ a.put (some i.2) v = a1 ∧ Dm P ops is a1 a'
theorem iD {a : Act} : Dm P ops [] a a := rfl
theorem gI {i : Nat} {t : Tmp} {is : List (Nat × Tmp)} {a a' : Act} {oi : Oper} {v : Value} {a1 : Act} (hi : ops[i]? = some oi) (hN : oi.dst = some t) (hy : Yields P ops oi v a) (ha : a.put (some t) v = a1) (h : Dm P ops is a1 a') :
  Dm P ops ((i, t) :: is) a a' := ⟨oi, v, a1, hi, hN, hy, ha, h⟩
def Ep (md : Region.Mode) (ops : Array Oper) : List (Nat × Tmp) → Array Bool → Array Bool → Bool
 | [], l, l' => l == l'
 | i :: is, l, l' => Sr md ops l (l.setIfInBounds i.1 true) i.1 && Ep md ops is (l.setIfInBounds i.1 true) l'
theorem Im (hQ : ∀ c a t v w, Q (.panic c) (Act.put a (some t) v) w → Q (.panic c) a w) {w : World} {fuel : Nat} {l' : Array Bool} {a' : Act} (h : bZ P md ops Q S ds fuel l' a' w) :
  ∀ (is : List (Nat × Tmp)) (l : Array Bool) (a : Act), Ep md ops is l l' = true → Dm P ops is a a' → bZ P md ops Q S ds (fuel + is.length) l a w
 | [], l, a, hb, hc => by
  simp only [Ep, beq_iff_eq] at hb;subst hb;subst hc;exact h
 | i :: is, l, a, hb, hc => by
  simp only [Ep, Bool.and_eq_true] at hb;obtain ⟨oi, v, a1, hi, hN, hy, rfl, hc⟩ := hc;have := Im hQ h is (l.setIfInBounds i.1 true) (a.put (some i.2) v) hb.2 hc;exact arz (fuel := fuel + is.length) _ hi hN hb.1 (fun c a w => by rw [hN]; exact hQ c a _ _ w) hy rfl this
theorem oq {w : World} {n fuel : Nat} {l : Array Bool} {a a' : Act} (is : List (Nat × Tmp)) (l' : Array Bool) (hb : Ep md ops is l l' = true) (hn : (fuel + is.length == n) = true)
  (hQ : ∀ c a t v w, Q (.panic c) (Act.put a (some t) v) w → Q (.panic c) a w) (hc : Dm P ops is a a') (h : bZ P md ops Q S ds fuel l' a' w) : bZ P md ops Q S ds n l a w := by
 rw [beq_iff_eq] at hn;subst hn;exact Im hQ h is l a hb hc
def Jo (T : Bool × List (List Nat × List Nat)) : List (Nat × Tmp) → List Bool → List Bool → Bool
 | [], l, l' => l == l'
 | i :: is, l, l' => ZE T l (l.set i.1 true) i.1 && Jo T is (l.set i.1 true) l'
theorem jT {T : Bool × List (List Nat × List Nat)} (hT : iC md ops = T) : ∀ (is : List (Nat × Tmp)) (l l' : Array Bool), Jo T is l.toList l'.toList = true → Ep md ops is l l' = true
 | [], l, l', h => by
  simp only [Jo, beq_iff_eq] at h;simp only [Ep, beq_iff_eq];exact Array.ext' h
 | i :: is, l, l', h => by
  simp only [Jo, Bool.and_eq_true] at h;simp only [Ep, Bool.and_eq_true];have e : l.toList.set i.1 true = (l.setIfInBounds i.1 true).toList := by simp
  rw [e] at h;exact ⟨ku hT h.1, jT hT is _ _ h.2⟩
end
end Go.Proofs.YtamimodkcbbpmaaXW
end
section
namespace Go.Proofs.Ytamimodkcbbpmaa.Pr
open Go.RowKit Go.Proofs.YtamimodkcbbpmaaW.PrintWords Go.Proofs.YtamimodkcbbpmaaW.PrintLast Go.Proofs.YtamimodkcbbpmaaXW
theorem bO {a w w' : World} (h : aa (Below a.heap.size a w)) (k : Below a.heap.size a w → Below a.heap.size a w' := by
  intro h_;repeat (first | (with_reducible first | exact h_ | apply dY | apply nz | apply fK | refine QE ?_ (aa.out (by assumption))) | exact h_)) : Below a.heap.size a w' := k h.out
theorem bk {w w' : World} {g : Nat} {o : Obj} (h : aa (w.heap[g]? = some o)) (k : w.heap[g]? = some o → w'.heap[g]? = some o := by
  intro h_;(with_reducible repeat (first | refine ax ?_ _ | refine az ?_ | refine au ?_ _));exact h_) : w'.heap[g]? = some o := k h.out
end Go.Proofs.Ytamimodkcbbpmaa.Pr
end
section
namespace Go.Proofs.Ytamimodkcbbpmaa.Pr
open Go.RowKit Go.Proofs.YtamimodkcbbpmaaW.PrintWords Go.Proofs.YtamimodkcbbpmaaW.PrintLast Go.Proofs.YtamimodkcbbpmaaW.PrintMore Go.Proofs.YtamimodkcbbpmaaXW
attribute [local go_sem] aFh ky lX lY jf jg kz kC
set_option linter.unusedVariables false
set_option linter.unusedSimpArgs false
def bU.l0 : Nat → List (dK) → Int → Int → Int → Int → Option (Int × Int)
 | 0, _, _, _, _, _ => none
 | k + 1, Ta, x12, XX, Jp, OL => if XX < x12 then (if 0 ≤ XX then (if XX < (Ta.length : Int) then (bU.l0 k Ta x12 (wrap64 (XX + 1)) (mn (wrap64 (Jp + ((bJ Ta XX).f0))) 1099511627776) (mn (wrap64 (OL + ((bJ Ta XX).f1))) 1099511627776)) else (none)) else (none)) else (if Jp = 1099511627776 then (some (1099511627776, 0)) else (some (Jp, OL)))
def bU.f (k : Nat) (a0 : Int) (l1 : List (dK)) : Option (Int × Int) := bU.l0 k l1 (l1.length : Int) 0 (mn a0 1099511627776) 1
theorem bU.apw : ∀ k, (∀ y0 y1 y2 y3 y4, dz (bU.l0 k y0 y1 y2 y3 y4) (bU.l0 (k + 1) y0 y1 y2 y3 y4))
 | 0 => fun _ _ _ _ _ r h => by simp [bU.l0] at h
 | k + 1 => by
  have jP := bU.apw k
  ·intro y0 y1 y2 y3 y4;unfold bU.l0;repeat' first
   | (with_reducible exact jP _ _ _ _ _)
   | (with_reducible exact dz.refl _)
   | (with_reducible exact dz.none _)
   | (with_reducible refine dz.ite ?_ ?_)
   | (with_reducible refine dz.bind ?_ (fun _ => ?_))
   | exact jP _ _ _ _ _
   | exact dz.none _
   | refine dz.ite ?_ ?_
   | refine dz.bind ?_ (fun _ => ?_)
theorem bU.mono : ∀ a0 a1 k, dz (bU.f k a0 a1) (bU.f (k + 1) a0 a1) := by
 intro a0 a1 k;have jP := bU.apw k;unfold bU.f;repeat' first
   | (with_reducible exact jP _ _ _ _ _)
   | (with_reducible exact dz.refl _)
   | (with_reducible exact dz.none _)
   | (with_reducible refine dz.ite ?_ ?_)
   | (with_reducible refine dz.bind ?_ (fun _ => ?_))
   | exact jP _ _ _ _ _
   | exact dz.none _
   | refine dz.ite ?_ ?_
   | refine dz.bind ?_ (fun _ => ?_)
set_option maxHeartbeats 8000000 in
set_option maxRecDepth 100000 in
theorem bU.calls (k : Nat) (a0 : Int) (A1 : Option Addr) (c1 : Nat) (l1 : List (dK)) (r1 : Int) (r2 : Int) (w : World) (hr1 : Kd.C xA w A1 l1.length l1) (hc1 : l1.length ≤ c1) (h : bU.f k a0 l1 = some (r1, r2)) :
  Calls Try.prog 75 #[.int .i64 a0, .slice A1 l1.length c1] w fun e w' => e = .returned (.agg #[.int .i64 r1, .int .i64 r2]) ∧ Below w.heap.size w w' := by
 have QT := Try.underlying34;have HR1 := aa.mk hr1;have EY := aa.mk hc1;clear hr1 hc1;have HB := aa.mk (Below.refl w.heap.size w);have H : (bU.l0 k l1 (l1.length : Int) 0 (mn a0 1099511627776) 1) = some (r1, r2) := h;clear h;obtain ⟨ji3, QU⟩ : ∃ j_ : Int, (mn a0 1099511627776) = j_ := ⟨_, rfl⟩;replace H : (bU.l0 k l1 (l1.length : Int) 0 ji3 1) = some (r1, r2) := by first | (rw [QU] at H; exact H) | (simp only [QU] at H ⊢; exact H)
 (try (have aka : ji3 ≤ 1099511627776 := by (rw [← QU]; unfold mn; (repeat' split) <;> omega)));(try (have akb : ji3 ≤ 64 := by omega));have akc : (if 1099511627776 < a0 then 1099511627776 else a0) = ji3 := QU;have H' := aa.mk H;clear H;go_enter Try.func75, Try.ntmps75
 go_wp2_with (first | ((with_reducible refine bM (N := 4) rfl ?_); refine bG ?hg (N := 4) ?hd (cs := #[.int .i64 0, .int .i64 0]) (t := 34) ?hr ?_; (case hd => rfl); (case hg => rfl); (case hr => first | (go_simp; done) | (go_simp; rfl)); intro uE hg w4 bR hb; have bP := aa.mk (aM (bO HB) hb); have bQ := aa.mk (bR); have bT := aa.mk ((by rw [hg]; exact (aK (bO HB)) : w.heap.size ≤ uE)); have di := aa.mk ((by rw [hg]; exact (aK (bO HB)) : w.heap.size ≤ uE)); clear HB; have HB := bP; have lK := bQ; have akd := bT; have ake := di; clear bP bQ bT di; clear hb bR hg) | ((with_reducible refine bM (N := 5) rfl ?_); refine bG ?hg (N := 5) ?hd (cs := #[.int .i64 0, .int .i64 0]) (t := 34) ?hr ?_; (case hd => rfl); (case hg => rfl); (case hr => first | (go_simp; done) | (go_simp; rfl)); intro rW hg w5 bR hb; have bP := aa.mk (aC (bk lK) hb); have bQ := aa.mk (aM (bO HB) hb); have bT := aa.mk (bR); have di := aa.mk ((by rw [hg]; exact (aK (bO HB)) : w.heap.size ≤ rW)); have n4_ := aa.mk ((by rw [hg]; exact (aK (bO HB)) : w.heap.size ≤ rW)); have n5_ := aa.mk ((by rw [hg]; exact Nat.ne_of_lt (bE (bk lK)) : uE ≠ rW)); have iG := aa.mk ((by rw [hg]; exact Nat.ne_of_gt (bE (bk lK)) : rW ≠ uE)); clear lK; clear HB; have lK := bP; have HB := bQ; have lG := bT; have akf := di; have akg := n4_; have mW := n5_; have yK := iG; clear bP bQ bT di n4_ n5_ iG; clear hb bR hg; have aaa := yK.out; have aab := mW.out; have ML : w5.cell? ⟨rW, 0, none⟩ = some (.int .i64 0) := (ae lG.out 0).trans rfl; have MM : w5.cell? ⟨rW, 1, none⟩ = some (.int .i64 0) := (ae lG.out 1).trans rfl; have MN := ai lG.out 0; have MO := ai lG.out 1))
 go_loopg [13] k (fun kq v13 w' => ∃ (jY : Int) (gJ : Int) (jh : Int), v13 = .int .i64 jY ∧ aa (bU.l0 kq l1 (l1.length : Int) jY gJ jh = some (r1, r2)) ∧ aa (kq ≤ k) ∧ aa (w'.heap[uE]? = some (.cells #[.int .i64 0, .int .i64 0] 34 (0, 0))) ∧ aa (w'.heap[rW]? = some (.cells #[.int .i64 gJ, .int .i64 jh] 34 (0, 0))) ∧ aa (Below w.heap.size w w'))
 case atStart => exact ⟨(0), (ji3), (1), (by first | rfl | (simp; done) | (simp [*]; done)), H', ⟨Nat.le_refl _⟩, ⟨by (with_reducible repeat (first | refine ax ?_ _ | refine az ?_ | refine au ?_ _)); refine bD ?_ mW.out _; (with_reducible repeat (first | refine ax ?_ _ | refine az ?_ | refine au ?_ _)); refine bD ?_ mW.out _; (with_reducible repeat (first | refine ax ?_ _ | refine az ?_ | refine au ?_ _)); exact lK.out⟩, ⟨by (with_reducible repeat (first | refine ax ?_ _ | refine az ?_ | refine au ?_ _)); refine bL (cs := #[.int .i64 ji3, .int .i64 0]) ?_ 1 _ rfl; (with_reducible repeat (first | refine ax ?_ _ | refine az ?_ | refine au ?_ _)); refine bL (cs := #[.int .i64 0, .int .i64 0]) ?_ 0 _ rfl; (with_reducible repeat (first | refine ax ?_ _ | refine az ?_ | refine au ?_ _)); exact lG.out⟩, ⟨bO HB⟩⟩
 case round =>
  clear H';(try clear c1); (try clear p2); (try clear c6); (try clear c7); (try clear ML); (try clear MM); (try clear MN); (try clear MO);obtain ⟨jY, gJ, jh, rfl, HA, yf, lK, lG, HB⟩ := hrel
  cases gk with
  | zero => exact absurd HA.out (by simp [bU.l0])
  | succ k1 =>
   have H := HA.out;clear HA;simp only [bU.l0] at H;by_cases c8 : jY < (l1.length : Int)
   ·rw [if_pos c8] at H;have Hd : decide (jY < (l1.length : Int)) = true := decide_eq_true c8;clear c8;by_cases c9 : 0 ≤ jY
    ·rw [if_pos c9] at H;have yg : decide (0 ≤ jY) = true := decide_eq_true c9;clear c9;by_cases c10 : jY < (l1.length : Int)
     ·rw [if_pos c10] at H;have XY : decide (jY < (l1.length : Int)) = true := decide_eq_true c10;clear c10;obtain ⟨Tc, Td⟩ : ∃ j_ : Int, (mn (wrap64 (gJ + ((bJ l1 jY).f0))) 1099511627776) = j_ := ⟨_, rfl⟩;replace H : (bU.l0 k1 l1 (l1.length : Int) (wrap64 (jY + 1)) Tc (mn (wrap64 (jh + ((bJ l1 jY).f1))) 1099511627776)) = some (r1, r2) := by first | (rw [Td] at H; exact H) | (simp only [Td] at H ⊢; exact H)
      have aie : (if 1099511627776 < (wrap64 (gJ + ((bJ l1 jY).f0))) then 1099511627776 else (wrap64 (gJ + ((bJ l1 jY).f0)))) = Tc := Td;obtain ⟨aac, Te⟩ : ∃ j_ : Int, (mn (wrap64 (jh + ((bJ l1 jY).f1))) 1099511627776) = j_ := ⟨_, rfl⟩;replace H : (bU.l0 k1 l1 (l1.length : Int) (wrap64 (jY + 1)) Tc aac) = some (r1, r2) := by first | (rw [Te] at H; exact H) | (simp only [Te] at H ⊢; exact H)
      have aif : (if 1099511627776 < (wrap64 (jh + ((bJ l1 jY).f1))) then 1099511627776 else (wrap64 (jh + ((bJ l1 jY).f1)))) = aac := Te;have H' := aa.mk H;clear H;have aad : 0 ≤ (jY : Int) := of_decide_eq_true (by first | (with_reducible assumption) | assumption);have aae : jY < (l1.length : Int) := of_decide_eq_true (by first | (with_reducible assumption) | assumption);obtain ⟨akh, aih, OM, OO⟩ := aRX HR1.out jY aad aae
      cases aih;replace OM := ah HB.out OM;replace OO := ah HB.out OO;replace aad := eq_true aad;replace aae := eq_true aae;go_wp2_with (first | ((with_reducible refine bM (N := 7) rfl ?_); refine bG ?hg (N := 7) ?hd (cs := #[.int .i64 0, .int .i64 0]) (t := 34) ?hr ?_; (case hd => rfl); (case hg => rfl); (case hr => first | (go_simp; done) | (go_simp; rfl)); intro Er hg w13 bR hb; have bP := aa.mk (aC (bk lK) hb); have bQ := aa.mk (aC (bk lG) hb); have bT := aa.mk (aM (bO HB) hb); have di := aa.mk (bR); have n4_ := aa.mk ((by rw [hg]; exact (aK (bO HB)) : w.heap.size ≤ Er)); have n5_ := aa.mk ((by rw [hg]; exact (aK (bO HB)) : w.heap.size ≤ Er)); have iG := aa.mk ((by rw [hg]; exact Nat.ne_of_lt (bE (bk lK)) : uE ≠ Er)); have sQ := aa.mk ((by rw [hg]; exact Nat.ne_of_gt (bE (bk lK)) : Er ≠ uE)); have xB := aa.mk ((by rw [hg]; exact Nat.ne_of_lt (bE (bk lG)) : rW ≠ Er)); have xC := aa.mk ((by rw [hg]; exact Nat.ne_of_gt (bE (bk lG)) : Er ≠ rW)); clear lK; clear lG; clear HB; have lK := bP; have lG := bQ; have HB := bT; have OP := di; have aki := n4_; have akj := n5_; have Dn := iG; have QV := sQ; have Dp := xB; have QW := xC; clear bP bQ bT di n4_ n5_ iG sQ xB xC; clear hb bR hg; have Tf := QV.out; have Tg := Dn.out; have Ti := QW.out; have Tj := Dp.out; have yL : w13.cell? ⟨Er, 0, none⟩ = some (.int .i64 0) := (ae OP.out 0).trans rfl; have yM : w13.cell? ⟨Er, 1, none⟩ = some (.int .i64 0) := (ae OP.out 1).trans rfl; have yN := ai OP.out 0; have yO := ai OP.out 1; have FX := yK.out; have FY := mW.out; have lZ : w13.cell? ⟨rW, 0, none⟩ = some (.int .i64 gJ) := (ae lG.out 0).trans rfl; have l5 : w13.cell? ⟨rW, 1, none⟩ = some (.int .i64 jh) := (ae lG.out 1).trans rfl; have l6 := ai lG.out 0; have l7 := ai lG.out 1))
      go_roundg k1
      case measure => have := yf.out; omega
      case rel => exact ⟨(wrap64 (jY + 1)), (Tc), (aac), (by first | rfl | (simp; done) | (simp [*]; done)), H', ⟨by have := yf.out; omega⟩, ⟨by (with_reducible repeat (first | refine ax ?_ _ | refine az ?_ | refine au ?_ _)); refine bD ?_ mW.out _; (with_reducible repeat (first | refine ax ?_ _ | refine az ?_ | refine au ?_ _)); refine bD ?_ mW.out _; (with_reducible repeat (first | refine ax ?_ _ | refine az ?_ | refine au ?_ _)); refine bD ?_ Dn.out _; (with_reducible repeat (first | refine ax ?_ _ | refine az ?_ | refine au ?_ _)); refine bD ?_ Dn.out _; (with_reducible repeat (first | refine ax ?_ _ | refine az ?_ | refine au ?_ _)); exact lK.out⟩, ⟨by (with_reducible repeat (first | refine ax ?_ _ | refine az ?_ | refine au ?_ _)); refine bL (cs := #[.int .i64 Tc, .int .i64 jh]) ?_ 1 _ rfl; (with_reducible repeat (first | refine ax ?_ _ | refine az ?_ | refine au ?_ _)); refine bL (cs := #[.int .i64 gJ, .int .i64 jh]) ?_ 0 _ rfl; (with_reducible repeat (first | refine ax ?_ _ | refine az ?_ | refine au ?_ _)); refine bD ?_ Dp.out _; (with_reducible repeat (first | refine ax ?_ _ | refine az ?_ | refine au ?_ _)); refine bD ?_ Dp.out _; (with_reducible repeat (first | refine ax ?_ _ | refine az ?_ | refine au ?_ _)); exact lG.out⟩, ⟨bO HB⟩⟩
     ·rw [if_neg c10] at H;exact absurd H (by simp)
    ·rw [if_neg c9] at H;exact absurd H (by simp)
   ·rw [if_neg c8] at H;have Hd : decide (jY < (l1.length : Int)) = false := decide_eq_false c8;clear c8;by_cases c19 : gJ = 1099511627776
    ·rw [if_pos c19] at H;have yh : (gJ == 1099511627776) = true := beq_iff_eq.mpr c19;have acE : (gJ != 1099511627776) = false := bne_eq_false_iff_eq.mpr c19;clear c19;simp only [Option.some.injEq, Prod.mk.injEq] at H;obtain ⟨rfl, rfl⟩ := H;have OQ := yK.out;have OT := mW.out;have qi : wr.cell? ⟨rW, 0, none⟩ = some (.int .i64 gJ) := (ae lG.out 0).trans rfl;have qj : wr.cell? ⟨rW, 1, none⟩ = some (.int .i64 jh) := (ae lG.out 1).trans rfl;have ql := ai lG.out 0;have qm := ai lG.out 1;have OU : wr.cell? ⟨uE, 0, none⟩ = some (.int .i64 0) := (ae lK.out 0).trans rfl;have OV : wr.cell? ⟨uE, 1, none⟩ = some (.int .i64 0) := (ae lK.out 1).trans rfl;have OW := ai lK.out 0;have OX := ai lK.out 1;go_wp2;refine bodyPost_ret (results_cell_row rfl _ _ uE 34 #[.int .i64 1099511627776, .int .i64 0] (0, 0) _ rfl (by (with_reducible repeat (first | refine ax ?_ _ | refine az ?_ | refine au ?_ _)); refine bL (cs := #[.int .i64 1099511627776, .int .i64 0]) ?_ 1 _ rfl; (with_reducible repeat (first | refine ax ?_ _ | refine az ?_ | refine au ?_ _)); refine bL (cs := #[.int .i64 0, .int .i64 0]) ?_ 0 _ rfl; (with_reducible repeat (first | refine ax ?_ _ | refine az ?_ | refine au ?_ _)); exact lK.out) Try.underlying34 rfl (by kernel_rfl)) rfl ?_;exact ⟨by first | rfl | (simp [aW, aX] <;> rfl) | (simp only [← QU]; first | rfl | (simp [aW, aX] <;> rfl)) | (simp [*, aW, aX] <;> rfl), bO HB⟩
    ·rw [if_neg c19] at H;have yh : (gJ == 1099511627776) = false := beq_eq_false_iff_ne.mpr c19;have acE : (gJ != 1099511627776) = true := bne_iff_ne.mpr c19;simp only [Option.some.injEq, Prod.mk.injEq] at H;obtain ⟨rfl, rfl⟩ := H;have Tk := yK.out;have Tm := mW.out;have oN : wr.cell? ⟨rW, 0, none⟩ = some (.int .i64 gJ) := (ae lG.out 0).trans rfl;have oO : wr.cell? ⟨rW, 1, none⟩ = some (.int .i64 jh) := (ae lG.out 1).trans rfl;have oP := ai lG.out 0;have oQ := ai lG.out 1;have yP : wr.cell? ⟨uE, 0, none⟩ = some (.int .i64 0) := (ae lK.out 0).trans rfl;have yQ : wr.cell? ⟨uE, 1, none⟩ = some (.int .i64 0) := (ae lK.out 1).trans rfl;have yR := ai lK.out 0;have yS := ai lK.out 1;go_wp2;refine bodyPost_ret (results_cell_row rfl _ _ uE 34 #[.int .i64 gJ, .int .i64 jh] (0, 0) _ rfl (by (with_reducible repeat (first | refine ax ?_ _ | refine az ?_ | refine au ?_ _)); refine bL (cs := #[.int .i64 gJ, .int .i64 0]) ?_ 1 _ rfl; (with_reducible repeat (first | refine ax ?_ _ | refine az ?_ | refine au ?_ _)); refine bL (cs := #[.int .i64 0, .int .i64 0]) ?_ 0 _ rfl; (with_reducible repeat (first | refine ax ?_ _ | refine az ?_ | refine au ?_ _)); exact lK.out) Try.underlying34 rfl (by kernel_rfl)) rfl ?_;exact ⟨by first | rfl | (simp [aW, aX] <;> rfl) | (simp only [← QU]; first | rfl | (simp [aW, aX] <;> rfl)) | (simp [*, aW, aX] <;> rfl), bO HB⟩
def gm.f (aR : Int) (iR : Int) (cK : Int) (iT : Int) : Option (Bool) := if aR < cK then (some true) else (if aR = cK then (some (decide (iR < iT))) else (some false))
set_option maxHeartbeats 8000000 in
set_option maxRecDepth 100000 in
theorem gm.calls (aR : Int) (iR : Int) (cK : Int) (iT : Int) (r : Bool) (w : World) (h : gm.f aR iR cK iT = some r) :
  Calls Try.prog 100 #[.agg #[.int .i64 aR, .int .i64 iR], .agg #[.int .i64 cK, .int .i64 iT]] w fun e w' => e = .returned (.bool r) ∧ Below w.heap.size w w' := by
 have QT := Try.underlying34;have HB := aa.mk (Below.refl w.heap.size w);have H : (if aR < cK then (some true) else (if aR = cK then (some (decide (iR < iT))) else (some false))) = some r := h;clear h;by_cases c3 : aR < cK
 ·rw [if_pos c3] at H;have Tn : decide (aR < cK) = true := decide_eq_true c3;clear c3;obtain rfl := Option.some.inj H;go_enter Try.func100, Try.ntmps100
  go_wp2_with (first | ((with_reducible refine bM (N := 2) rfl ?_); refine bG ?hg (N := 2) ?hd (cs := #[.int .i64 aR, .int .i64 iR]) (t := 34) ?hr ?_; (case hd => rfl); (case hg => rfl); (case hr => first | (go_simp; done) | (go_simp; rfl)); intro aqG hg w4 bR hb; have bP := aa.mk (aM (bO HB) hb); have bQ := aa.mk (bR); have bT := aa.mk ((by rw [hg]; exact (aK (bO HB)) : w.heap.size ≤ aqG)); have di := aa.mk ((by rw [hg]; exact (aK (bO HB)) : w.heap.size ≤ aqG)); clear HB; have HB := bP; have jU := bQ; have XZ := bT; have X0 := di; clear bP bQ bT di; clear hb bR hg) | ((with_reducible refine bM (N := 3) rfl ?_); refine bG ?hg (N := 3) ?hd (cs := #[.int .i64 cK, .int .i64 iT]) (t := 34) ?hr ?_; (case hd => rfl); (case hg => rfl); (case hr => first | (go_simp; done) | (go_simp; rfl)); intro mY hg w5 bR hb; have bP := aa.mk (aC (bk jU) hb); have bQ := aa.mk (aM (bO HB) hb); have bT := aa.mk (bR); have di := aa.mk ((by rw [hg]; exact (aK (bO HB)) : w.heap.size ≤ mY)); have n4_ := aa.mk ((by rw [hg]; exact (aK (bO HB)) : w.heap.size ≤ mY)); have n5_ := aa.mk ((by rw [hg]; exact Nat.ne_of_lt (bE (bk jU)) : aqG ≠ mY)); have iG := aa.mk ((by rw [hg]; exact Nat.ne_of_gt (bE (bk jU)) : mY ≠ aqG)); clear jU; clear HB; have jU := bP; have HB := bQ; have sS := bT; have X3 := di; have X4 := n4_; have uF := n5_; have uG := iG; clear bP bQ bT di n4_ n5_ iG; clear hb bR hg; have aaa := uF.out; have aab := uG.out; have ML : w5.cell? ⟨aqG, 0, none⟩ = some (.int .i64 aR) := (ae jU.out 0).trans rfl; have MM : w5.cell? ⟨aqG, 1, none⟩ = some (.int .i64 iR) := (ae jU.out 1).trans rfl; have MN := ai jU.out 0; have MO := ai jU.out 1; have nG : w5.cell? ⟨mY, 0, none⟩ = some (.int .i64 cK) := (ae sS.out 0).trans rfl; have nH : w5.cell? ⟨mY, 1, none⟩ = some (.int .i64 iT) := (ae sS.out 1).trans rfl; have nI := ai sS.out 0; have nJ := ai sS.out 1))
  go_ret;exact ⟨by first | rfl | (simp [aW, aX] <;> rfl) | (simp [*, aW, aX] <;> rfl), bO HB⟩
 ·rw [if_neg c3] at H;have Tn : decide (aR < cK) = false := decide_eq_false c3;clear c3;by_cases c9 : aR = cK
  ·rw [if_pos c9] at H;have yg : (aR == cK) = true := beq_iff_eq.mpr c9;have aaf : (aR != cK) = false := bne_eq_false_iff_eq.mpr c9;clear c9;obtain rfl := Option.some.inj H;go_enter Try.func100, Try.ntmps100
   go_wp2_with (first | ((with_reducible refine bM (N := 2) rfl ?_); refine bG ?hg (N := 2) ?hd (cs := #[.int .i64 aR, .int .i64 iR]) (t := 34) ?hr ?_; (case hd => rfl); (case hg => rfl); (case hr => first | (go_simp; done) | (go_simp; rfl)); intro aqG hg Io bR hb; have bP := aa.mk (aM (bO HB) hb); have bQ := aa.mk (bR); have bT := aa.mk ((by rw [hg]; exact (aK (bO HB)) : w.heap.size ≤ aqG)); have di := aa.mk ((by rw [hg]; exact (aK (bO HB)) : w.heap.size ≤ aqG)); clear HB; have HB := bP; have jU := bQ; have XZ := bT; have X0 := di; clear bP bQ bT di; clear hb bR hg) | ((with_reducible refine bM (N := 3) rfl ?_); refine bG ?hg (N := 3) ?hd (cs := #[.int .i64 cK, .int .i64 iT]) (t := 34) ?hr ?_; (case hd => rfl); (case hg => rfl); (case hr => first | (go_simp; done) | (go_simp; rfl)); intro mY hg Me bR hb; have bP := aa.mk (aC (bk jU) hb); have bQ := aa.mk (aM (bO HB) hb); have bT := aa.mk (bR); have di := aa.mk ((by rw [hg]; exact (aK (bO HB)) : w.heap.size ≤ mY)); have n4_ := aa.mk ((by rw [hg]; exact (aK (bO HB)) : w.heap.size ≤ mY)); have n5_ := aa.mk ((by rw [hg]; exact Nat.ne_of_lt (bE (bk jU)) : aqG ≠ mY)); have iG := aa.mk ((by rw [hg]; exact Nat.ne_of_gt (bE (bk jU)) : mY ≠ aqG)); clear jU; clear HB; have jU := bP; have HB := bQ; have sS := bT; have X3 := di; have X4 := n4_; have uF := n5_; have uG := iG; clear bP bQ bT di n4_ n5_ iG; clear hb bR hg; have Tp := uF.out; have Tq := uG.out; have yT : Me.cell? ⟨aqG, 0, none⟩ = some (.int .i64 aR) := (ae jU.out 0).trans rfl; have yU : Me.cell? ⟨aqG, 1, none⟩ = some (.int .i64 iR) := (ae jU.out 1).trans rfl; have yV := ai jU.out 0; have yX := ai jU.out 1; have Vt : Me.cell? ⟨mY, 0, none⟩ = some (.int .i64 cK) := (ae sS.out 0).trans rfl; have Vu : Me.cell? ⟨mY, 1, none⟩ = some (.int .i64 iT) := (ae sS.out 1).trans rfl; have Vv := ai sS.out 0; have Vw := ai sS.out 1))
   go_ret;exact ⟨by first | rfl | (simp [aW, aX] <;> rfl) | (simp [*, aW, aX] <;> rfl), bO HB⟩
  ·rw [if_neg c9] at H;have yg : (aR == cK) = false := beq_eq_false_iff_ne.mpr c9;have aaf : (aR != cK) = true := bne_iff_ne.mpr c9;obtain rfl := Option.some.inj H;go_enter Try.func100, Try.ntmps100
   go_wp2_with (first | ((with_reducible refine bM (N := 2) rfl ?_); refine bG ?hg (N := 2) ?hd (cs := #[.int .i64 aR, .int .i64 iR]) (t := 34) ?hr ?_; (case hd => rfl); (case hg => rfl); (case hr => first | (go_simp; done) | (go_simp; rfl)); intro aqG hg w15 bR hb; have bP := aa.mk (aM (bO HB) hb); have bQ := aa.mk (bR); have bT := aa.mk ((by rw [hg]; exact (aK (bO HB)) : w.heap.size ≤ aqG)); have di := aa.mk ((by rw [hg]; exact (aK (bO HB)) : w.heap.size ≤ aqG)); clear HB; have HB := bP; have jU := bQ; have XZ := bT; have X0 := di; clear bP bQ bT di; clear hb bR hg) | ((with_reducible refine bM (N := 3) rfl ?_); refine bG ?hg (N := 3) ?hd (cs := #[.int .i64 cK, .int .i64 iT]) (t := 34) ?hr ?_; (case hd => rfl); (case hg => rfl); (case hr => first | (go_simp; done) | (go_simp; rfl)); intro mY hg w16 bR hb; have bP := aa.mk (aC (bk jU) hb); have bQ := aa.mk (aM (bO HB) hb); have bT := aa.mk (bR); have di := aa.mk ((by rw [hg]; exact (aK (bO HB)) : w.heap.size ≤ mY)); have n4_ := aa.mk ((by rw [hg]; exact (aK (bO HB)) : w.heap.size ≤ mY)); have n5_ := aa.mk ((by rw [hg]; exact Nat.ne_of_lt (bE (bk jU)) : aqG ≠ mY)); have iG := aa.mk ((by rw [hg]; exact Nat.ne_of_gt (bE (bk jU)) : mY ≠ aqG)); clear jU; clear HB; have jU := bP; have HB := bQ; have sS := bT; have X3 := di; have X4 := n4_; have uF := n5_; have uG := iG; clear bP bQ bT di n4_ n5_ iG; clear hb bR hg; have FX := uF.out; have FY := uG.out; have lZ : w16.cell? ⟨aqG, 0, none⟩ = some (.int .i64 aR) := (ae jU.out 0).trans rfl; have l5 : w16.cell? ⟨aqG, 1, none⟩ = some (.int .i64 iR) := (ae jU.out 1).trans rfl; have l6 := ai jU.out 0; have l7 := ai jU.out 1; have qo : w16.cell? ⟨mY, 0, none⟩ = some (.int .i64 cK) := (ae sS.out 0).trans rfl; have qp : w16.cell? ⟨mY, 1, none⟩ = some (.int .i64 iT) := (ae sS.out 1).trans rfl; have qw := ai sS.out 0; have qx := ai sS.out 1))
   go_ret;exact ⟨by first | rfl | (simp [aW, aX] <;> rfl) | (simp [*, aW, aX] <;> rfl), bO HB⟩
end Go.Proofs.Ytamimodkcbbpmaa.Pr
end
section
namespace Go.Proofs.YtamimodkcbbpmaaXM
open Go.MapKept Go.ChangeMaps
def aqd (es : Array MapEntry) : Prop := ∀ e ∈ es.toList, IsKey (.int .i64) e.key
theorem X5 : aqd #[] := fun e h => by simp at h
theorem jR (n : Int) : IsKey (.int .i64) (.int .i64 n) := rfl
section
variable {w : World} {b : Nat} {es : Array MapEntry} {clock : Nat}
theorem aiY (h : aqd es) (n : Int) (v : Value) (c : Nat) : aqd (es.push ⟨.int .i64 n, v, c⟩) := by
 intro e he;simp only [Array.toList_push, List.mem_append, List.mem_singleton] at he;rcases he with he | rfl
 ·exact h e he
 ·exact jR n
theorem rZ (h : aqd es) (i : Nat) (f : MapEntry → MapEntry) (hf : ∀ e, es[i]? = some e → (f e).key = e.key) : aqd (es.modify i f) := isKey_modify h i f hf
theorem He (h : aqd es) (i : Nat) : aqd (es.eraseIdxIfInBounds i) := by
 intro e he;refine h e ?_;have hs : (es.eraseIdxIfInBounds i).toList.Sublist es.toList := by
  unfold Array.eraseIdxIfInBounds;split
  ·simp only [Array.toList_eraseIdx]; exact List.eraseIdx_sublist _ _
  ·exact List.Sublist.refl _
 exact hs.subset he
theorem oU (hb : w.heap[b]? = some (.map es clock)) (o : Obj) : (setBlock w b o).heap[b]? = some o := (MapKept.heap_set hb).1
set_option maxRecDepth 100000 in
theorem Hf (hb : w.heap[b]? = some (.map es clock)) (hk : aqd es) (n : Int) (v : Value) :
  ∃ es1 c1, (Instr.mapUpdate 132 (.map (some b)) (.int .i64 n) v).run Try.prog w = .ok () (setBlock w b (.map es1 c1)) ∧ aqd es1 := by
 have ht := Try.underlying132;have h3 := Try.underlying3;rcases findNow_spec (jR n) es.toList 0 hk with ⟨h1, h2⟩ | ⟨j, e0, h1, h2, hkey⟩
 ·exact ⟨_, _, by simp [Instr.mapUpdate, run_underlying ht, MapKept.run_getObj_map hb, run_checkKey h3 (jR n), run_findKey h3 h1, MapKept.run_setObj_map _ hb, Result.andThen, setBlock]; rfl, aiY hk n v clock⟩
 ·have hj : es[j]? = some e0 := by simpa using h2
  refine ⟨es.modify j (fun e => { e with key := .int .i64 n, val := v }), clock, ?_, rZ hk j _ (fun e he => by rw [hj] at he; injection he with he; subst he; exact hkey.symm)⟩;simp [Instr.mapUpdate, run_underlying ht, MapKept.run_getObj_map hb, run_checkKey h3 (jR n), run_findKey h3 h1, hj, hkey, run_keyThatStays (jR n), MapKept.run_setObj_map _ hb, Result.andThen, setBlock]
set_option maxRecDepth 100000 in
theorem MP (hb : w.heap[b]? = some (.map es clock)) (hk : aqd es) (n : Int) (ty : TypeId) :
  ∃ es1 c1, (Builtin.delete_ #[132, 3] ty #[.map (some b), .int .i64 n]).run Try.prog w = .ok (.tuple #[]) (setBlock w b (.map es1 c1)) ∧ aqd es1 := by
 have ht := Try.underlying132;have h3 := Try.underlying3;rcases findNow_spec (jR n) es.toList 0 hk with ⟨h1, h2⟩ | ⟨j, e0, h1, h2, hkey⟩
 ·exact ⟨_, _, by simp [Builtin.delete_, run_underlying ht, MapKept.run_getObj_map hb, run_checkKey h3 (jR n), run_findKey h3 h1, MapKept.run_setObj_map _ hb, Result.andThen, setBlock]; rfl, hk⟩
 ·exact ⟨es.eraseIdxIfInBounds j, clock, by simp [Builtin.delete_, run_underlying ht, MapKept.run_getObj_map hb, run_checkKey h3 (jR n), run_findKey h3 h1, MapKept.run_setObj_map _ hb, Result.andThen, setBlock], He hk j⟩
def uH (es : Array MapEntry) (st : Nat) : Prop := ∃ i, es.findIdx? (fun e => ((e.born : Nat) : Int) == ((st : Nat) : Int)) = some i
theorem xD {es : Array MapEntry} {e : MapEntry} (h : e ∈ es.toList) : uH es e.born := by
 unfold uH
 cases hf : es.findIdx? (fun x => ((x.born : Nat) : Int) == ((e.born : Nat) : Int)) with
 | some i => exact ⟨i, rfl⟩
 | none =>
  rw [Array.findIdx?_eq_none_iff] at hf;have := hf e (by simpa using h);simp at this
set_option maxRecDepth 100000 in
theorem Jq (hb : w.heap[b]? = some (.map es clock)) (hk : aqd es) (n : Int) :
  ∃ v st es1 c1, (Instr.mapEntry 132 (.map (some b)) (.int .i64 n)).run Try.prog w = .ok (.tuple #[v, goInt (st : Nat)]) (setBlock w b (.map es1 c1)) ∧ aqd es1 ∧ uH es1 st := by
 have ht := Try.underlying132;have h3 := Try.underlying3;have hz : ∀ u : World, (zeroValue 3).run Try.prog u = .ok (.int .i64 0) u := fun u => by kernel_rfl
 rcases findNow_spec (jR n) es.toList 0 hk with ⟨h1, h2⟩ | ⟨j, e0, h1, h2, hkey⟩
 ·exact ⟨.int .i64 0, clock, es.push ⟨.int .i64 n, .int .i64 0, clock⟩, clock + 1, by simp [Instr.mapEntry, run_underlying ht, MapKept.run_getObj_map hb, run_checkKey h3 (jR n), run_findKey h3 h1, hz, MapKept.run_setObj_map _ hb, Result.andThen, setBlock], aiY hk n _ clock,
   xD (e := ⟨.int .i64 n, .int .i64 0, clock⟩) (by simp)⟩
 ·have hj : es[j]? = some e0 := by simpa using h2
  refine ⟨e0.val, e0.born, es.modify j (fun e => { e with key := .int .i64 n }), clock, ?_, rZ hk j _ (fun e he => by rw [hj] at he; injection he with he; subst he; exact hkey.symm), ?_⟩
  ·simp [Instr.mapEntry, run_underlying ht, MapKept.run_getObj_map hb, run_checkKey h3 (jR n), run_findKey h3 h1, hj, hkey, run_keyThatStays (jR n), MapKept.run_setObj_map _ hb, Result.andThen, setBlock]
  ·refine xD (e := { e0 with key := .int .i64 n }) ?_;have : (es.modify j (fun e => { e with key := .int .i64 n }))[j]? = some { e0 with key := .int .i64 n } := by rw [Array.getElem?_modify]; simp [hj]
   exact Array.mem_toList_iff.2 (Array.mem_of_getElem? this)
theorem FZ (hb : w.heap[b]? = some (.map es clock)) (hk : aqd es) {st : Nat} (hs : uH es st) (v : Value) :
  ∃ es1 c1, (Instr.entryStore 132 (.map (some b)) (goInt (st : Nat)) v).run Try.prog w = .ok () (setBlock w b (.map es1 c1)) ∧ aqd es1 := by
 obtain ⟨i, hi⟩ := hs;exact ⟨es.modify i (fun e => { e with val := v }), clock, by simp [Instr.entryStore, MapKept.run_getObj_map hb, asInt, asIntOf, goInt, hi, MapKept.run_setObj_map _ hb, Result.andThen, setBlock], rZ hk i _ (fun e _ => rfl)⟩
structure MF (b : Nat) (W W1 : World) : Prop where
 os : W1.os = W.os
 tape : W1.tape = W.tape
 output : W1.output = W.output
 size : W1.heap.size = W.heap.size
 block : ∀ k, k ≠ b → W1.heap[k]? = W.heap[k]?
theorem sU (hb : w.heap[b]? = some (.map es clock)) (o : Obj) : MF b w (setBlock w b o) := ⟨rfl, rfl, rfl, by simp [setBlock], (MapKept.heap_set hb).2⟩
theorem MF.cell {W W1 : World} (h : MF b W W1) (hb : W.heap[b]? = some (.map es clock)) {a : Addr} {v : Value} (hc : W.cell? a = some v) : W1.cell? a = some v := by
 have hne : a.block ≠ b := by
  rintro rfl;simp [World.cell?, hb] at hc
 rw [← hc];simp [World.cell?, h.block _ hne]
theorem MF.blk {W W1 : World} (h : MF b W W1) (hb : W.heap[b]? = some (.map es clock)) {k : Nat} {cs : Array Value} {t : TypeId} {fr : Nat × Nat} (hk : W.heap[k]? = some (.cells cs t fr)) : W1.heap[k]? = some (.cells cs t fr) := by
 have hne : k ≠ b := by
  rintro rfl;rw [hb] at hk
  cases hk
 rw [← hk];exact h.block _ hne
theorem KV (hb : w.heap[b]? = some (.map es clock)) (hk : aqd es) (n : Int) (v : Value) :
  ∃ W1 es1 c1, (Instr.mapUpdate 132 (.map (some b)) (.int .i64 n) v).run Try.prog w = .ok () W1 ∧ W1.heap[b]? = some (.map es1 c1) ∧ aqd es1 ∧ MF b w W1 := by
 obtain ⟨es1, c1, h1, h2⟩ := Hf hb hk n v;exact ⟨_, es1, c1, h1, oU hb _, h2, sU hb _⟩
theorem Tt (hb : w.heap[b]? = some (.map es clock)) (hk : aqd es) (n : Int) (ty : TypeId) :
  ∃ W1 es1 c1, (Builtin.delete_ #[132, 3] ty #[.map (some b), .int .i64 n]).run Try.prog w = .ok (.tuple #[]) W1 ∧ W1.heap[b]? = some (.map es1 c1) ∧ aqd es1 ∧ MF b w W1 := by
 obtain ⟨es1, c1, h1, h2⟩ := MP hb hk n ty;exact ⟨_, es1, c1, h1, oU hb _, h2, sU hb _⟩
theorem F3 (hb : w.heap[b]? = some (.map es clock)) (hk : aqd es) (n : Int) :
  ∃ W1 v st es1 c1, (Instr.mapEntry 132 (.map (some b)) (.int .i64 n)).run Try.prog w = .ok (.tuple #[v, goInt (st : Nat)]) W1 ∧ W1.heap[b]? = some (.map es1 c1) ∧ aqd es1 ∧ uH es1 st ∧ MF b w W1 := by
 obtain ⟨v, st, es1, c1, h1, h2, h3⟩ := Jq hb hk n;exact ⟨_, v, st, es1, c1, h1, oU hb _, h2, h3, sU hb _⟩
theorem Af (hb : w.heap[b]? = some (.map es clock)) (hk : aqd es) {st : Nat} (hs : uH es st) (v : Value) :
  ∃ W1 es1 c1, (Instr.entryStore 132 (.map (some b)) (goInt (st : Nat)) v).run Try.prog w = .ok () W1 ∧ W1.heap[b]? = some (.map es1 c1) ∧ aqd es1 ∧ MF b w W1 := by
 obtain ⟨es1, c1, h1, h2⟩ := FZ hb hk hs v;exact ⟨_, es1, c1, h1, oU hb _, h2, sU hb _⟩
end
end Go.Proofs.YtamimodkcbbpmaaXM
end
section
namespace Go.Proofs.Ytamimodkcbbpmaa.Pr
open Go.RowKit Go.Proofs.YtamimodkcbbpmaaW.PrintWords Go.Proofs.YtamimodkcbbpmaaW.PrintLast Go.Proofs.YtamimodkcbbpmaaXW
set_option linter.unusedVariables false
set_option linter.unusedSimpArgs false
def pW (a b : dK) : Bool := decide (a.f0 < b.f0) || (decide (a.f0 = b.f0) && decide (a.f1 < b.f1))
theorem uq (a b : dK) : gm.f a.f0 a.f1 b.f0 b.f1 = some (pW a b) := by
 unfold gm.f pW;by_cases h1 : a.f0 < b.f0
 ·simp [h1]
 ·by_cases h2 : a.f0 = b.f0
  ·simp [h2]
  ·simp [h1, h2]
theorem Dq (a b : dK) (w : World) :
  Calls Try.prog 100 #[.agg #[.int .i64 a.f0, .int .i64 a.f1], .agg #[.int .i64 b.f0, .int .i64 b.f1]] w fun e w' => e = .returned (.bool (pW a b)) ∧ Below w.heap.size w w' :=
 gm.calls _ _ _ _ _ w (uq a b)
theorem zK (a b : uo) (w : World) :
  Calls Try.prog 103 #[.agg #[.int .i64 a.f0, .int .i64 a.f1.f0, .int .i64 a.f1.f1], .agg #[.int .i64 b.f0, .int .i64 b.f1.f0, .int .i64 b.f1.f1]] w fun e w' => e = .returned (.bool (pW a.f1 b.f1)) ∧ Below w.heap.size w w' := by
 go_enter Try.func103, Try.ntmps103
 go_wp2_with fail
 refine (Dq a.f1 b.f1 _).mono ?_;rintro e w1 ⟨rfl, hb⟩;go_wp2;go_ret;exact ⟨rfl, ((((Below.refl _ _).alloc (Nat.le_refl _) _).alloc (by simp) _).trans (hb.mono (by simp; omega)))⟩
theorem ma {w : World} {a : Addr} {v : Value} (h : w.cell? a = some v) : ∀ o, (w.alloc o).cell? a = some v := fun o => ah (dY (Below.refl _ _) o) h
theorem EP {w : World} {a : Addr} {v : Value} (h : w.cell? a = some v) : ∀ o o2, ((w.alloc o).alloc o2).cell? a = some v := fun o o2 => ma (ma h o) o2
theorem at0 (w : World) (A B : Obj) : (((w.alloc A).alloc B).drew).heap[w.heap.size]? = some A := by
 show ((w.heap.push A).push B)[w.heap.size]? = _;rw [Array.getElem?_push, Array.getElem?_push];simp
theorem Ah (w : World) (A B : Obj) : (((w.alloc A).alloc B).drew).heap[w.heap.size + 1]? = some B := by
 show ((w.heap.push A).push B)[w.heap.size + 1]? = _;rw [Array.getElem?_push];simp
theorem yY (w : World) (A B : Obj) : Below w.heap.size w (((w.alloc A).alloc B).drew) := (((Below.refl _ _).alloc (Nat.le_refl _) _).alloc (by simp) _).drew
theorem uu {w w1 : World} (h : Below w.drew.heap.size w.drew w1) : Below w.heap.size w w1 := ⟨h.os, h.tape, h.output, h.size, h.block⟩
abbrev uI : Value := .func (.func 103) #[] #[]
open Go.Proofs.YtamimodkcbbpmaaXM (aqd)
def QS (base : Nat) (w : World) (q : Nat) (es : List dP) (nx ck : Int) : Prop :=
 ∃ (v : Value) (bm : Nat) (qy : Array MapEntry) (mc : Nat),
  w.heap[q]? = some (.cells #[uI, v, .map (some bm), .int .i64 nx, .int .i64 ck] 135 (0, 0)) ∧ base ≤ q ∧
  Kd.R yc 139 w base (fun _ => True) v es ∧ w.heap[bm]? = some (.map qy mc) ∧ base ≤ bm ∧ aqd qy
def KW (a b : dP) : Bool := pW a.f0.f1 b.f0.f1 || (!pW b.f0.f1 a.f0.f1 && decide (a.f2 < b.f2))
def vN.T2 : Bool × List (List Nat × List Nat) := (true, [([], []), ([0], [0]), ([1], [1]), ([2], [2]), ([], []), ([4], [4]), ([], []), ([6], [6]), ([3, 5, 7], [3, 5, 7])])
def vN.B2 : List Nat := [0, 1, 3, 7, 0, 16, 0, 64, 255]
theorem vN.alp : iC .any (opsOf Try.f117 2) = vN.T2 := by kernel_rfl
theorem vN.Es : fo vN.T2.2 vN.B2 = true := by kernel_rfl
def vN.T4 : Bool × List (List Nat × List Nat) := (true, [([], []), ([0], [0]), ([1], [1]), ([2], [2]), ([], []), ([4], [4]), ([], []), ([6], [6]), ([3, 5, 7], [3, 5, 7]), ([8], [8]), ([9, 8], [9]), ([10], [10]), ([11, 10], [10, 11]), ([10], [10]), ([13, 10], [10, 13]), ([12, 14, 10], [10, 12, 14]), ([10, 15], [10, 15]), ([16, 10, 0, 1, 2, 3, 4, 5, 6, 7, 8, 9, 10, 11, 12, 13, 14, 15, 16], [16])])
def vN.B4 : List Nat := [0, 1, 3, 7, 0, 16, 0, 64, 255, 511, 1023, 2047, 4095, 2047, 10239, 32767, 65535, 131071]
theorem vN.Vx : iC .any (opsOf Try.f117 4) = vN.T4 := by kernel_rfl
theorem vN.OY : fo vN.T4.2 vN.B4 = true := by kernel_rfl
set_option maxRecDepth 100000 in
set_option maxHeartbeats 8000000 in
theorem qz (base q : Nat) (es : List dP) (nx ck i j : Int) (w : World) (h : QS base w q es nx ck) (hi0 : 0 ≤ i) (hi : i < (es.length : Int)) (hj0 : 0 ≤ j) (hj : j < (es.length : Int)) :
  Calls Try.prog 117 #[.pointer (some ⟨q, 0, none⟩), .int .i64 i, .int .i64 j] w fun e w' => e = .returned (.bool (KW (eO es i) (eO es j))) ∧ Below w.heap.size w w' := by
 obtain ⟨v, bm, qy, mc, hq, hbq, hR, hm, EZ, hk⟩ := h;obtain ⟨A, c, rfl, hl, hC⟩ := Kd.oK hR;obtain ⟨ad, rfl, c0, c1, c2, c3, c4⟩ := Jl hC i hi0 hi;obtain ⟨ad2, e2, d0, d1, d2, d3, d4⟩ := Jl hC j hj0 hj;obtain rfl : ad = ad2 := by injection e2
 have q0 : w.cell? ⟨q, 0, none⟩ = some uI := (ae hq 0).trans rfl;have q1 : w.cell? ⟨q, 1, none⟩ = some (.slice (some ad) es.length c) := (ae hq 1).trans rfl;clear e2 hq hbq hR hm EZ hk hl hC;have q01 := ma q0; have q02 := EP q0; have q11 := ma q1; have q12 := EP q1;generalize eO es i = x at *;generalize eO es j = y at *;have c01 := ma c0; have c02 := EP c0; have c11 := ma c1; have c12 := EP c1; have c21 := ma c2; have vO := EP c2; have c31 := ma c3; have c32 := EP c3; have c41 := ma c4; have OZ := EP c4;have d01 := ma d0; have d02 := EP d0; have d11 := ma d1; have d12 := EP d1; have d21 := ma d2; have d22 := EP d2; have d31 := ma d3; have d32 := EP d3; have d41 := ma d4; have d42 := EP d4;go_enter Try.func117, Try.ntmps117
 go_upto_region 1 with (fail)
 go_cut [7, 8] (fun v7 v8 wc => ∃ a b : Nat, v7 = .pointer (some ⟨a, 0, none⟩) ∧ v8 = .pointer (some ⟨b, 0, none⟩) ∧
  aa (wc.heap[a]? = some (.cells #[.int .i64 x.f0.f0, .int .i64 x.f0.f1.f0, .int .i64 x.f0.f1.f1, .int .i64 x.f1, .int .i64 x.f2] 139 (0, 0))) ∧
  aa (wc.heap[b]? = some (.cells #[.int .i64 y.f0.f0, .int .i64 y.f0.f1.f0, .int .i64 y.f0.f1.f1, .int .i64 y.f1, .int .i64 y.f2] 139 (0, 0))) ∧
  aa (Below w.heap.size w wc))
 case first =>
  go_region
  all_goals
   go_wp2_with fail
   go_meet
   first
    | exact ⟨_, _, rfl, rfl, ⟨at0 _ _ _⟩, ⟨Ah _ _ _⟩, ⟨yY _ _ _⟩⟩
    | exact ⟨_, _, rfl, rfl, ⟨Ah _ _ _⟩, ⟨at0 _ _ _⟩, ⟨yY _ _ _⟩⟩
 case rest =>
  obtain ⟨a, b, rfl, rfl, ha, hb, hB⟩ := hcut;obtain ⟨wA, rfl⟩ : ∃ wA, wA = wc := ⟨_, rfl⟩;clear q01 q02 q11 q12 c01 c02 c11 c12 c21 vO c31 c32 c41 OZ d01 d02 d11 d12 d21 d22 d31 d32 d41 d42 c0 c1 c2 c3 c4 d0 d1 d2 d3 d4;have q0c := ah hB.out q0;have a0 : wA.cell? ⟨a, 0, none⟩ = some (.int .i64 x.f0.f0) := (ae ha.out 0).trans rfl;have a1 : wA.cell? ⟨a, 1, none⟩ = some (.int .i64 x.f0.f1.f0) := (ae ha.out 1).trans rfl;have a2 : wA.cell? ⟨a, 2, none⟩ = some (.int .i64 x.f0.f1.f1) := (ae ha.out 2).trans rfl;have b0 : wA.cell? ⟨b, 0, none⟩ = some (.int .i64 y.f0.f0) := (ae hb.out 0).trans rfl;have b1 : wA.cell? ⟨b, 1, none⟩ = some (.int .i64 y.f0.f1.f0) := (ae hb.out 1).trans rfl;have b2 : wA.cell? ⟨b, 2, none⟩ = some (.int .i64 y.f0.f1.f1) := (ae hb.out 2).trans rfl;go_upto_region 2 with (fail)
  go_cut [31] (fun v31 wd => v31 = .bool (pW x.f0.f1 y.f0.f1) ∧ aa (Below wA.heap.size wA wd))
  case first =>
   refine fu (n := 9) (S := fun w' => w'.cell? ⟨q, 0, none⟩ = some uI ∧ w'.cell? ⟨a, 0, none⟩ = some (.int .i64 x.f0.f0) ∧ w'.cell? ⟨a, 1, none⟩ = some (.int .i64 x.f0.f1.f0) ∧ w'.cell? ⟨a, 2, none⟩ = some (.int .i64 x.f0.f1.f1) ∧ w'.cell? ⟨b, 0, none⟩ = some (.int .i64 y.f0.f0) ∧ w'.cell? ⟨b, 1, none⟩ = some (.int .i64 y.f0.f1.f0) ∧ w'.cell? ⟨b, 2, none⟩ = some (.int .i64 y.f0.f1.f1)) (ds := []) #[false, false, false, false, false, false, false, false, false] (by kernel_rfl) rfl rfl ⟨q0c, a0, a1, a2, b0, b1, b2⟩ (fun hHeld => ?_);refine dw vN.alp vN.Es (fun dA ji => ?_);refine fG (fuel := 1) [(0, 23), (1, 24), (2, 25), (3, 26), (4, 27), (5, 28), (6, 29), (7, 30)] #[true, true, true, true, true, true, true, true, false] (df dA.out ji.out _ _ _ (by kernel_rfl)) rfl (fun _ _ _ _ _ h => h) hHeld (a' := ?_) ?_ ?_;rotate_left
   ·iterate 8
     refine bC (v := ?_) (a1 := ?_) rfl rfl (Or.inl ⟨by rfl, ?_⟩) ?_ ?_;rotate_left 2
     ·rintro w' ⟨s0, s1, s2, s3, s4, s5, s6⟩;go_simp;with_reducible rfl
     ·simp only [Act.put, List.setIfInBounds_toArray, List.set_cons_zero, List.set_cons_succ, bH, bI];rfl
    exact chain_nil
   refine fT (i := 8) (N := some 31) #[true, true, true, true, true, true, true, true, true] rfl rfl (dn dA.out (by kernel_rfl)) (by decide) (fun K hK => ?_);refine call_ 103 #[.agg #[.int .i64 x.f0.f0, .int .i64 x.f0.f1.f0, .int .i64 x.f0.f1.f1], .agg #[.int .i64 y.f0.f0, .int .i64 y.f0.f1.f0, .int .i64 y.f0.f1.f1]] (by rfl) rfl ?_ ?_
   ·have he := kJ Try.func103 (by kernel_rfl) rfl #[.agg #[.int .i64 x.f0.f0, .int .i64 x.f0.f1.f0, .int .i64 x.f0.f1.f1], .agg #[.int .i64 y.f0.f0, .int .i64 y.f0.f1.f0, .int .i64 y.f0.f1.f1]] wA.drew;unfold execOp;simp [resolve, Deferred.ofValue, invoke, Act.eval, he]
   refine (zK x.f0 y.f0 _).mono ?_;rintro e w1 ⟨rfl, hb⟩;refine ⟨_, rfl, ?_⟩;refine hK.out _ _ ⟨ah hb q0c, ah hb a0, ah hb a1, ah hb a2, ah hb b0, ah hb b1, ah hb b2⟩ (fun hHeld => ?_);clear hK K;refine bS (a' := ?_) ?_ ?_;rotate_left
   ·show Act.put _ (some 31) _ = _;simp only [Act.put, List.setIfInBounds_toArray, List.set_cons_zero, List.set_cons_succ, bH, bI];rfl
   refine gH (dV dA.out (by kernel_rfl)) ?_;go_wp2_with fail
   go_meet
   exact ⟨rfl, ⟨uu hb⟩⟩
  case rest =>
   obtain ⟨rfl, hD⟩ := hcut;have hBD : aa (Below w.heap.size w wc) := ⟨aM hB.out hD.out⟩;have ha2 := aa.mk (aC ha.out hD.out);have hb2 := aa.mk (aC hb.out hD.out);have q0d := ah hBD.out q0;clear q0 q1 q0c a0 a1 a2 b0 b1 b2 ha hb hB hD;by_cases hl : pW x.f0.f1 y.f0.f1 = true
   ·rw [hl];go_wp2;go_ret;exact ⟨by simp [KW, hl], hBD.out⟩
   ·have hl' : pW x.f0.f1 y.f0.f1 = false := by simpa using hl
    clear hl;rw [hl'];have a0 : wc.cell? ⟨a, 0, none⟩ = some (.int .i64 x.f0.f0) := (ae ha2.out 0).trans rfl;have a1 : wc.cell? ⟨a, 1, none⟩ = some (.int .i64 x.f0.f1.f0) := (ae ha2.out 1).trans rfl;have a2 : wc.cell? ⟨a, 2, none⟩ = some (.int .i64 x.f0.f1.f1) := (ae ha2.out 2).trans rfl;have a4 : wc.cell? ⟨a, 4, none⟩ = some (.int .i64 x.f2) := (ae ha2.out 4).trans rfl;have b0 : wc.cell? ⟨b, 0, none⟩ = some (.int .i64 y.f0.f0) := (ae hb2.out 0).trans rfl;have b1 : wc.cell? ⟨b, 1, none⟩ = some (.int .i64 y.f0.f1.f0) := (ae hb2.out 1).trans rfl;have b2 : wc.cell? ⟨b, 2, none⟩ = some (.int .i64 y.f0.f1.f1) := (ae hb2.out 2).trans rfl;have b4 : wc.cell? ⟨b, 4, none⟩ = some (.int .i64 y.f2) := (ae hb2.out 4).trans rfl;clear ha2 hb2;go_upto_region 4 with (fail)
    obtain ⟨wB, rfl⟩ : ∃ wB, wB = wc := ⟨_, rfl⟩;go_cut [6] (fun v6 wd => v6 = .bool (KW x y) ∧ aa (Below wB.heap.size wB wd))
    case first =>
     cases hl2 : pW y.f0.f1 x.f0.f1 with
     | true =>
      refine fu (n := 18) (S := fun w' => w'.cell? ⟨q, 0, none⟩ = some uI ∧ w'.cell? ⟨a, 0, none⟩ = some (.int .i64 x.f0.f0) ∧ w'.cell? ⟨a, 1, none⟩ = some (.int .i64 x.f0.f1.f0) ∧ w'.cell? ⟨a, 2, none⟩ = some (.int .i64 x.f0.f1.f1) ∧ w'.cell? ⟨b, 0, none⟩ = some (.int .i64 y.f0.f0) ∧ w'.cell? ⟨b, 1, none⟩ = some (.int .i64 y.f0.f1.f0) ∧ w'.cell? ⟨b, 2, none⟩ = some (.int .i64 y.f0.f1.f1) ∧ w'.cell? ⟨a, 4, none⟩ = some (.int .i64 x.f2) ∧ w'.cell? ⟨b, 4, none⟩ = some (.int .i64 y.f2)) (ds := []) #[false, false, false, false, false, false, false, false, false, false, false, false, false, false, false, false, false, false] (by kernel_rfl) rfl rfl ⟨q0d, a0, a1, a2, b0, b1, b2, a4, b4⟩ (fun hHeld => ?_);refine dw vN.Vx vN.OY (fun dA ji => ?_);refine fG (fuel := 10) [(0, 32), (1, 33), (2, 34), (3, 35), (4, 36), (5, 37), (6, 38), (7, 39)] #[true, true, true, true, true, true, true, true, false, false, false, false, false, false, false, false, false, false] (df dA.out ji.out _ _ _ (by kernel_rfl)) rfl (fun _ _ _ _ _ h => h) hHeld (a' := ?_) ?_ ?_;rotate_left
      ·iterate 8
        refine bC (v := ?_) (a1 := ?_) rfl rfl (Or.inl ⟨by rfl, ?_⟩) ?_ ?_;rotate_left 2
        ·rintro w' ⟨s0, s1, s2, s3, s4, s5, s6, s7, s8⟩;go_simp;with_reducible rfl
        ·simp only [Act.put, List.setIfInBounds_toArray, List.set_cons_zero, List.set_cons_succ, bH, bI];rfl
       exact chain_nil
      refine fT (i := 8) (N := some 40) #[true, true, true, true, true, true, true, true, true, false, false, false, false, false, false, false, false, false] rfl rfl (dn dA.out (by kernel_rfl)) (by decide) (fun K hK => ?_);refine call_ 103 #[.agg #[.int .i64 y.f0.f0, .int .i64 y.f0.f1.f0, .int .i64 y.f0.f1.f1], .agg #[.int .i64 x.f0.f0, .int .i64 x.f0.f1.f0, .int .i64 x.f0.f1.f1]] (by rfl) rfl ?_ ?_
      ·have he := kJ Try.func103 (by kernel_rfl) rfl #[.agg #[.int .i64 y.f0.f0, .int .i64 y.f0.f1.f0, .int .i64 y.f0.f1.f1], .agg #[.int .i64 x.f0.f0, .int .i64 x.f0.f1.f0, .int .i64 x.f0.f1.f1]] wB.drew;unfold execOp;simp [resolve, Deferred.ofValue, invoke, Act.eval, he]
      refine (zK y.f0 x.f0 _).mono ?_;rintro e w1 ⟨rfl, hb⟩;refine ⟨_, rfl, ?_⟩;refine hK.out _ _ ⟨ah hb q0d, ah hb a0, ah hb a1, ah hb a2, ah hb b0, ah hb b1, ah hb b2, ah hb a4, ah hb b4⟩ (fun hHeld => ?_);clear hK K;rw [hl2];refine bS (a' := ?_) ?_ ?_;rotate_left
      ·show Act.put _ (some 40) _ = _;simp only [Act.put, List.setIfInBounds_toArray, List.set_cons_zero, List.set_cons_succ, bH, bI];rfl
      refine fG (fuel := 0) [(9, 41), (10, 42), (11, 43), (12, 44), (13, 45), (14, 46), (15, 47), (16, 48), (17, 6)] #[true, true, true, true, true, true, true, true, true, true, true, true, true, true, true, true, true, true] (df dA.out ji.out _ _ _ (by kernel_rfl)) rfl (fun _ _ _ _ _ h => h) hHeld (a' := ?_) ?_ ?_;rotate_left
      ·iterate 2
        refine bC (v := ?_) (a1 := ?_) rfl rfl (Or.inl ⟨by rfl, ?_⟩) ?_ ?_;rotate_left 2
        ·rintro w' ⟨s0, s1, s2, s3, s4, s5, s6, s7, s8⟩;go_simp;with_reducible rfl
        ·simp only [Act.put, List.setIfInBounds_toArray, List.set_cons_zero, List.set_cons_succ, bH, bI];rfl
       iterate 5
        refine jQ (a1 := ?_) rfl rfl (by rfl) ?_ ?_;rotate_left
        ·simp only [Act.put, List.setIfInBounds_toArray, List.set_cons_zero, List.set_cons_succ];rfl
       iterate 2
        refine bC (v := ?_) (a1 := ?_) rfl rfl (Or.inl ⟨by rfl, ?_⟩) ?_ ?_;rotate_left 2
        ·rintro w' ⟨s0, s1, s2, s3, s4, s5, s6, s7, s8⟩;go_simp;with_reducible rfl
        ·simp only [Act.put, List.setIfInBounds_toArray, List.set_cons_zero, List.set_cons_succ, bH, bI];rfl
       exact chain_nil
      refine gH (dV dA.out (by kernel_rfl)) ?_;go_wp2_with fail
      go_meet
      exact ⟨by simp [KW, hl', hl2], ⟨uu hb⟩⟩
     | false =>
      refine fu (n := 18) (S := fun w' => w'.cell? ⟨q, 0, none⟩ = some uI ∧ w'.cell? ⟨a, 0, none⟩ = some (.int .i64 x.f0.f0) ∧ w'.cell? ⟨a, 1, none⟩ = some (.int .i64 x.f0.f1.f0) ∧ w'.cell? ⟨a, 2, none⟩ = some (.int .i64 x.f0.f1.f1) ∧ w'.cell? ⟨b, 0, none⟩ = some (.int .i64 y.f0.f0) ∧ w'.cell? ⟨b, 1, none⟩ = some (.int .i64 y.f0.f1.f0) ∧ w'.cell? ⟨b, 2, none⟩ = some (.int .i64 y.f0.f1.f1) ∧ w'.cell? ⟨a, 4, none⟩ = some (.int .i64 x.f2) ∧ w'.cell? ⟨b, 4, none⟩ = some (.int .i64 y.f2)) (ds := []) #[false, false, false, false, false, false, false, false, false, false, false, false, false, false, false, false, false, false] (by kernel_rfl) rfl rfl ⟨q0d, a0, a1, a2, b0, b1, b2, a4, b4⟩ (fun hHeld => ?_);refine dw vN.Vx vN.OY (fun dA ji => ?_);refine fG (fuel := 10) [(0, 32), (1, 33), (2, 34), (3, 35), (4, 36), (5, 37), (6, 38), (7, 39)] #[true, true, true, true, true, true, true, true, false, false, false, false, false, false, false, false, false, false] (df dA.out ji.out _ _ _ (by kernel_rfl)) rfl (fun _ _ _ _ _ h => h) hHeld (a' := ?_) ?_ ?_;rotate_left
      ·iterate 8
        refine bC (v := ?_) (a1 := ?_) rfl rfl (Or.inl ⟨by rfl, ?_⟩) ?_ ?_;rotate_left 2
        ·rintro w' ⟨s0, s1, s2, s3, s4, s5, s6, s7, s8⟩;go_simp;with_reducible rfl
        ·simp only [Act.put, List.setIfInBounds_toArray, List.set_cons_zero, List.set_cons_succ, bH, bI];rfl
       exact chain_nil
      refine fT (i := 8) (N := some 40) #[true, true, true, true, true, true, true, true, true, false, false, false, false, false, false, false, false, false] rfl rfl (dn dA.out (by kernel_rfl)) (by decide) (fun K hK => ?_);refine call_ 103 #[.agg #[.int .i64 y.f0.f0, .int .i64 y.f0.f1.f0, .int .i64 y.f0.f1.f1], .agg #[.int .i64 x.f0.f0, .int .i64 x.f0.f1.f0, .int .i64 x.f0.f1.f1]] (by rfl) rfl ?_ ?_
      ·have he := kJ Try.func103 (by kernel_rfl) rfl #[.agg #[.int .i64 y.f0.f0, .int .i64 y.f0.f1.f0, .int .i64 y.f0.f1.f1], .agg #[.int .i64 x.f0.f0, .int .i64 x.f0.f1.f0, .int .i64 x.f0.f1.f1]] wB.drew;unfold execOp;simp [resolve, Deferred.ofValue, invoke, Act.eval, he]
      refine (zK y.f0 x.f0 _).mono ?_;rintro e w1 ⟨rfl, hb⟩;refine ⟨_, rfl, ?_⟩;refine hK.out _ _ ⟨ah hb q0d, ah hb a0, ah hb a1, ah hb a2, ah hb b0, ah hb b1, ah hb b2, ah hb a4, ah hb b4⟩ (fun hHeld => ?_);clear hK K;rw [hl2];refine bS (a' := ?_) ?_ ?_;rotate_left
      ·show Act.put _ (some 40) _ = _;simp only [Act.put, List.setIfInBounds_toArray, List.set_cons_zero, List.set_cons_succ, bH, bI];rfl
      refine fG (fuel := 0) [(9, 41), (10, 42), (11, 43), (12, 44), (13, 45), (14, 46), (15, 47), (16, 48), (17, 6)] #[true, true, true, true, true, true, true, true, true, true, true, true, true, true, true, true, true, true] (df dA.out ji.out _ _ _ (by kernel_rfl)) rfl (fun _ _ _ _ _ h => h) hHeld (a' := ?_) ?_ ?_;rotate_left
      ·iterate 9
        refine bC (v := ?_) (a1 := ?_) rfl rfl (Or.inl ⟨by rfl, ?_⟩) ?_ ?_;rotate_left 2
        ·rintro w' ⟨s0, s1, s2, s3, s4, s5, s6, s7, s8⟩;go_simp;with_reducible rfl
        ·simp only [Act.put, List.setIfInBounds_toArray, List.set_cons_zero, List.set_cons_succ, bH, bI];rfl
       exact chain_nil
      refine gH (dV dA.out (by kernel_rfl)) ?_;go_wp2_with fail
      go_meet
      exact ⟨by simp [KW, hl', hl2], ⟨uu hb⟩⟩
    case rest =>
     obtain ⟨rfl, hD⟩ := hcut;go_wp2;go_ret;exact ⟨rfl, aM hBD.out hD.out⟩
end Go.Proofs.Ytamimodkcbbpmaa.Pr
end
section
namespace Go.Proofs.Ytamimodkcbbpmaa.Pr
open Go.RowKit Go.Proofs.YtamimodkcbbpmaaW.PrintWords Go.Proofs.YtamimodkcbbpmaaW.PrintLast Go.Proofs.YtamimodkcbbpmaaXW Go.Proofs.YtamimodkcbbpmaaXM
set_option linter.unusedVariables false
set_option linter.unusedSimpArgs false
structure vP (base : Nat) (w w' : World) : Prop where
 below : Below base w w'
 keep : ∀ (k : Nat) cs t fr, w.heap[k]? = some (.cells cs t fr) → t ≠ 135 → t ≠ 139 → w'.heap[k]? = some (.cells cs t fr)
theorem vP.refl (base : Nat) (w : World) : vP base w w := ⟨Below.refl _ _, fun _ _ _ _ h _ _ => h⟩
theorem vP.trans {base : Nat} {a b c : World} (h : vP base a b) (k : vP base b c) : vP base a c := ⟨h.below.trans k.below, fun i cs t fr hi h1 h2 => k.keep i cs t fr (h.keep i cs t fr hi h1 h2) h1 h2⟩
theorem vP.of_below {base : Nat} {a b : World} (h : Below a.heap.size a b) (hb : base ≤ a.heap.size) : vP base a b := ⟨h.mono hb, fun k cs t fr hk _ _ => aC hk h⟩
theorem vP.drew {base : Nat} {a b : World} (h : vP base a b) : vP base a b.drew := ⟨h.below.drew, h.keep⟩
theorem vP.Ai {base : Nat} {a b : World} (h : vP base a.drew b) : vP base a b := ⟨⟨h.below.os, h.below.tape, h.below.output, h.below.size, h.below.block⟩, h.keep⟩
def F4 (w : World) (q : Nat) : Option Nat := match w.heap[q]? with
 | some (.cells cs _ _) => (cs[1]?).bind Value.ownBlock
 | _ => none
theorem Aj {w : World} {q : Nat} {cs : Array Value} {t : TypeId} {fr : Nat × Nat} {v : Value} (h : w.heap[q]? = some (.cells cs t fr)) (hv : cs[1]? = some v) : F4 w q = v.ownBlock := by simp [F4, h, hv]
structure QF (base q : Nat) (w w' : World) : Prop where
 f0 : vP base w w'
 row : F4 w' q = F4 w q
 rows : ∀ (k : Nat) cs fr, w.heap[k]? = some (.cells cs 139 fr) → some k ≠ F4 w q → w'.heap[k]? = some (.cells cs 139 fr)
theorem QF.refl (base q : Nat) (w : World) : QF base q w w := ⟨vP.refl _ _, rfl, fun _ _ _ h _ => h⟩
theorem QF.trans {base q : Nat} {a b c : World} (h : QF base q a b) (k : QF base q b c) : QF base q a c := ⟨h.f0.trans k.f0, k.row.trans h.row, fun i cs fr hi hn => k.rows i cs fr (h.rows i cs fr hi hn) (by rw [h.row]; exact hn)⟩
theorem QF.of_below {base q : Nat} {a b : World} (h : Below a.heap.size a b) (hb : base ≤ a.heap.size) (hq : q < a.heap.size) : QF base q a b := ⟨vP.of_below h hb, by simp [F4, h.block q hq], fun k cs fr hk _ => aC hk h⟩
theorem QF.Ai {base q : Nat} {a b : World} (h : QF base q a.drew b) : QF base q a b := ⟨h.f0.Ai, h.row, h.rows⟩
theorem QF.drew {base q : Nat} {a b : World} (h : QF base q a b) : QF base q a b.drew := ⟨h.f0.drew, h.row, h.rows⟩
theorem Tu {base b : Nat} {w W1 : World} {es : Array MapEntry} {c : Nat} (h : MF b w W1) (hb : w.heap[b]? = some (.map es c)) (hbase : base ≤ b) : vP base w W1 :=
 ⟨⟨h.os, h.tape, h.output, Nat.le_of_eq h.size.symm, fun k hk => h.block k (by omega)⟩, fun k cs t fr hk _ _ => h.blk hb hk⟩
theorem Jr {base b q : Nat} {w W1 : World} {es : Array MapEntry} {c : Nat} (h : MF b w W1) (hb : w.heap[b]? = some (.map es c)) (hbase : base ≤ b) (hq : q ≠ b) : QF base q w W1 :=
 ⟨Tu h hb hbase, by simp [F4, h.block q hq], fun k cs fr hk _ => h.blk hb hk⟩
theorem Dr {base b : Nat} {w W1 : World} {es : Array MapEntry} {c : Nat} {v : Value} {xs : List dP} (h : MF b w W1) (hb : w.heap[b]? = some (.map es c)) (hR : Kd.R yc 139 w base (fun _ => True) v xs) : Kd.R yc 139 W1 base (fun _ => True) v xs := by
 refine Kd.bB (Kd.xQ (Kd.jI hR) (fun k hk => ?_)) (fun _ _ => trivial);obtain ⟨_, _, _, t, _, cells, hc⟩ := hk;exact h.block _ (by rintro rfl; rw [hb] at hc; cases hc)
section
variable {W : World} {base g n cap : Nat} {es : List dP}
theorem uJ (h : Kd.R yc 139 W base (fun _ => True) (.slice (some ⟨g, 0, none⟩) n cap) es) (i : Int) (h0 : 0 ≤ i) (h1 : i < (es.length : Int)) :
  W.cell? ⟨g, i.toNat * 5, none⟩ = some (.int .i64 (eO es i).f0.f0) ∧ W.cell? ⟨g, i.toNat * 5 + 1, none⟩ = some (.int .i64 (eO es i).f0.f1.f0) ∧ W.cell? ⟨g, i.toNat * 5 + 2, none⟩ = some (.int .i64 (eO es i).f0.f1.f1) ∧
   W.cell? ⟨g, i.toNat * 5 + 3, none⟩ = some (.int .i64 (eO es i).f1) ∧ W.cell? ⟨g, i.toNat * 5 + 4, none⟩ = some (.int .i64 (eO es i).f2) := by
 obtain ⟨hn, hc, hC⟩ := Kd.dD h;obtain ⟨ad, e, c0, c1, c2, c3, c4⟩ := Jl hC i h0 h1;obtain rfl : (⟨g, 0, none⟩ : Addr) = ad := by injection e
 rw [add_plain] at c0 c1 c2 c3 c4;exact ⟨c0, c1, c2, c3, c4⟩
set_option maxRecDepth 100000 in
theorem Ip (h : Kd.R yc 139 W base (fun _ => True) (.slice (some ⟨g, 0, none⟩) n cap) es) (i : Int) (h0 : 0 ≤ i) (h1 : i < (es.length : Int)) (x : dP) :
  ∃ W1, (Instr.storeAt 139 (.pointer (some ⟨g, i.toNat * 5, none⟩)) (.agg #[.int .i64 x.f0.f0, .int .i64 x.f0.f1.f0, .int .i64 x.f0.f1.f1, .int .i64 x.f1, .int .i64 x.f2])).run Try.prog W = .ok () W1 ∧ Kd.R yc 139 W1 base (fun _ => True) (.slice (some ⟨g, 0, none⟩) n cap) (es.set i.toNat x) ∧ W.grownBy W1 (some g) := by
 obtain ⟨hn, hnc, hC⟩ := Kd.dD h;have h1' : i < (n : Int) := by omega
 obtain ⟨c, hcl, hM, hcc, hfz⟩ := Kd.Df h z139 i h0 h1';have hs : yc.sz = 5 := rfl;rw [hs] at hcl;have hseg := Kd.Sm (d := yc) h i h0 h1' (c := c) (jv := [.int .i64 x.f0.f0, .int .i64 x.f0.f1.f0, .int .i64 x.f0.f1.f1, .int .i64 x.f1, .int .i64 x.f2]) (j := 0) (by rw [hcl]; rfl) (by simpa [hs] using hcc) (by simp [hs]) (x' := x) (lV := fun k => True ∧ k ≠ g) (by
  have e : c.drop 5 = [] := List.drop_eq_nil_of_le (by omega);simpa [e] using KT W base (fun k => True ∧ k ≠ g) x) (fun k hk => hk)
 refine ⟨_, ?_, hseg.1, hseg.2⟩;obtain ⟨_, inner, hown, hr⟩ := h;rcases hown.2 with ⟨hv, _⟩ | ⟨g', cap', cur, hv, hb, hh, hnc', hcm, hcs, _⟩
 ·cases hv
 injection hv with ha _ hc'
 injection ha with ha
 injection ha with hg'
 subst hg'; subst hc';refine G8 139 _ _ hh rfl (by kernel_rfl) ?_ (by simp [Value.oneCell']);have h2 : i.toNat * 5 + 5 ≤ n * 5 := by omega
 have h3 : n * 5 ≤ cap * 5 := Nat.mul_le_mul_right _ hnc;rw [hs] at hcs;simp [hs]
 omega
end
def nK (es : List dP) (i j : Int) : List dP := (es.set i.toNat (eO es j)).set j.toNat (eO es i)
def yj.T0 : Bool × List (List Nat × List Nat) := (true, [([], []), ([0], [0]), ([1], [1]), ([2], [2]), ([], []), ([], []), ([5], [5]), ([6], [6]), ([7], [7]), ([], []), ([], []), ([10], [10]), ([11], [11]), ([12], [12]), ([], []), ([13, 14], [13, 14]), ([15], [15]), ([], []), ([17], [17]), ([18], [18]), ([19], [19]), ([], []), ([20, 21], [20, 21]), ([22], [22]), ([3, 4, 0, 1, 2, 3, 4, 8, 10, 11, 12, 13, 14, 15, 16, 20, 23], [3, 4]), ([24, 16, 0, 1, 2, 3, 4, 8, 10, 11, 12, 13, 14, 15, 16, 20, 23], [16, 24]), ([8, 9, 0, 1, 2, 3, 4, 5, 6, 7, 8, 9, 10, 11, 12, 13, 14, 15, 16, 17, 18, 19, 20, 21, 22, 23, 24, 25], [8, 9]), ([26, 23, 25, 0, 1, 2, 3, 4, 5, 6, 7, 8, 9, 10, 11, 12, 13, 14, 15, 16, 17, 18, 19, 20, 21, 22, 23, 24, 25], [23, 26])])
def yj.B0 : List Nat := [0, 1, 3, 7, 0, 0, 32, 96, 224, 0, 0, 1024, 3072, 7168, 0, 31744, 64512, 0, 131072, 393216, 917504, 0, 4063232, 8257536, 16776703, 33553919, 67108863, 134217727]
theorem yj.aij : iC .any (opsOf Try.f111 0) = yj.T0 := by kernel_rfl
theorem yj.acF : fo yj.T0.2 yj.B0 = true := by kernel_rfl
def yj.T1 : Bool × List (List Nat × List Nat) := (true, [([], []), ([0], [0]), ([1], [1]), ([2], [2]), ([], []), ([4], [4]), ([5], [5]), ([6], [6]), ([], []), ([7, 8], [7, 8]), ([9], [9]), ([10], [10]), ([], []), ([12], [12]), ([13], [13]), ([14], [14]), ([], []), ([16], [16]), ([17], [17]), ([18], [18]), ([], []), ([19, 20], [19, 20]), ([21], [21]), ([22], [22]), ([], []), ([], []), ([3, 11, 15, 19, 23], [3, 11]), ([26], [26]), ([3, 27, 24, 26, 0, 1, 2, 3, 4, 5, 6, 7, 8, 9, 10, 11, 15, 19, 23, 24, 26], [3, 24, 27]), ([15, 23, 28, 0, 1, 2, 3, 4, 5, 6, 7, 8, 9, 10, 11, 15, 19, 23, 24, 26, 27, 28], [15, 23]), ([29], [29]), ([15, 30, 25, 29, 0, 1, 2, 3, 4, 5, 6, 7, 8, 9, 10, 11, 12, 13, 14, 15, 16, 17, 18, 19, 20, 21, 22, 23, 24, 25, 26, 27, 28, 29], [15, 25, 30])])
def yj.B1 : List Nat := [0, 1, 3, 7, 0, 16, 48, 112, 0, 496, 1008, 2032, 0, 4096, 12288, 28672, 0, 65536, 196608, 458752, 0, 2031616, 4128768, 8323072, 0, 0, 16777215, 83886079, 234881023, 503316479, 1040187391, 2147483647]
theorem yj.Al : iC .any (opsOf Try.f111 1) = yj.T1 := by kernel_rfl
theorem yj.sV : fo yj.T1.2 yj.B1 = true := by kernel_rfl
set_option maxRecDepth 100000 in
set_option maxHeartbeats 8000000 in
theorem vQ (base q : Nat) (es : List dP) (nx ck i j : Int) (w : World) (h : QS base w q es nx ck) (hi0 : 0 ≤ i) (hi : i < (es.length : Int)) (hj0 : 0 ≤ j) (hj : j < (es.length : Int)) :
  Calls Try.prog 111 #[.pointer (some ⟨q, 0, none⟩), .int .i64 i, .int .i64 j] w fun e w' => e = .returned (.tuple #[]) ∧ QS base w' q (nK es i j) nx ck ∧ QF base q w w' := by
 obtain ⟨v, bm, qy, mc, hq, hbq, hR, hm, EZ, hk⟩ := h;obtain ⟨g, cap, rfl, hbg, hgl, cells, hgc⟩ := Kd.Ms hR (by omega);have q1 : w.cell? ⟨q, 1, none⟩ = some (.slice (some ⟨g, 0, none⟩) es.length cap) := (ae hq 1).trans rfl;obtain ⟨c0, c1, c2, c3, c4⟩ := uJ hR i hi0 hi;obtain ⟨d0, d1, d2, d3, d4⟩ := uJ hR j hj0 hj;have hRd := Kd.aaH hR;have hsw : nK es i j = (es.set i.toNat (eO es j)).set j.toNat (eO es i) := rfl;generalize eO es i = x at *;generalize eO es j = y at *;have Hsw := aa.mk hsw;clear hsw;go_enter Try.func111, Try.ntmps111
 go_upto_region 0 with (fail)
 refine fu (n := 28) (S := fun w' => w'.cell? ⟨q, 1, none⟩ = some (.slice (some ⟨g, 0, none⟩) es.length cap) ∧ w'.cell? ⟨g, i.toNat * 5, none⟩ = some (.int .i64 x.f0.f0) ∧ w'.cell? ⟨g, i.toNat * 5 + 1, none⟩ = some (.int .i64 x.f0.f1.f0) ∧ w'.cell? ⟨g, i.toNat * 5 + 2, none⟩ = some (.int .i64 x.f0.f1.f1) ∧ w'.cell? ⟨g, i.toNat * 5 + 3, none⟩ = some (.int .i64 x.f1) ∧ w'.cell? ⟨g, i.toNat * 5 + 4, none⟩ = some (.int .i64 x.f2) ∧ w'.cell? ⟨g, j.toNat * 5, none⟩ = some (.int .i64 y.f0.f0) ∧ w'.cell? ⟨g, j.toNat * 5 + 1, none⟩ = some (.int .i64 y.f0.f1.f0) ∧ w'.cell? ⟨g, j.toNat * 5 + 2, none⟩ = some (.int .i64 y.f0.f1.f1) ∧ w'.cell? ⟨g, j.toNat * 5 + 3, none⟩ = some (.int .i64 y.f1) ∧ w'.cell? ⟨g, j.toNat * 5 + 4, none⟩ = some (.int .i64 y.f2)) (ds := [25, 27]) #[false, false, false, false, false, false, false, false, false, false, false, false, false, false, false, false, false, false, false, false, false, false, false, false, false, false, false, false] (by kernel_rfl) rfl rfl ⟨q1, c0, c1, c2, c3, c4, d0, d1, d2, d3, d4⟩ (fun hHeld => ?_);refine dw yj.aij yj.acF (fun dA ji => ?_);refine oq (fuel := 12) [(0, 6), (1, 7), (2, 8), (4, 10), (5, 11), (6, 12), (7, 13), (9, 15), (10, 16), (11, 17), (12, 18), (14, 20), (17, 23), (18, 24), (19, 25), (21, 27)] #[true, true, true, false, true, true, true, true, false, true, true, true, true, false, true, false, false, true, true, true, false, true, false, false, false, false, false, false] (jT dA.out _ _ _ (by kernel_rfl)) rfl (fun _ _ _ _ _ h => h) (a' := ?_) ?_ ?_;rotate_left
 ·iterate 16
   refine gI (v := ?_) (a1 := ?_) rfl rfl (Or.inl ⟨by rfl, ?_⟩) ?_ ?_;rotate_left 2
   ·intro w';go_simp;with_reducible rfl
   ·simp only [Act.put, List.setIfInBounds_toArray, List.set_cons_zero, List.set_cons_succ, bH, bI];rfl
  exact iD
 refine fG (fuel := 8) [(3, 9), (8, 14), (13, 19), (20, 26)] #[true, true, true, true, true, true, true, true, true, true, true, true, true, true, true, false, false, true, true, true, true, true, false, false, false, false, false, false] (df dA.out ji.out _ _ _ (by kernel_rfl)) rfl (fun _ _ _ _ _ h => h) hHeld (a' := ?_) ?_ ?_;rotate_left
 ·iterate 4
   refine bC (v := ?_) (a1 := ?_) rfl rfl (Or.inl ⟨by rfl, ?_⟩) ?_ ?_;rotate_left 2
   ·rintro w' ⟨s0, s1, s2, s3, s4, s5, s6, s7, s8, s9, s10⟩;go_simp;with_reducible rfl
   ·simp only [Act.put, List.setIfInBounds_toArray, List.set_cons_zero, List.set_cons_succ, bH, bI];rfl
  exact chain_nil
 refine oq (fuel := 6) [(15, 21), (22, 28)] #[true, true, true, true, true, true, true, true, true, true, true, true, true, true, true, true, false, true, true, true, true, true, true, false, false, false, false, false] (jT dA.out _ _ _ (by kernel_rfl)) rfl (fun _ _ _ _ _ h => h) (a' := ?_) ?_ ?_;rotate_left
 ·iterate 2
   refine gI (v := ?_) (a1 := ?_) rfl rfl (Or.inl ⟨by rfl, ?_⟩) ?_ ?_;rotate_left 2
   ·intro w';go_simp;with_reducible rfl
   ·simp only [Act.put, List.setIfInBounds_toArray, List.set_cons_zero, List.set_cons_succ, bH, bI];rfl
  exact iD
 refine fG (fuel := 4) [(16, 22), (23, 29)] #[true, true, true, true, true, true, true, true, true, true, true, true, true, true, true, true, true, true, true, true, true, true, true, true, false, false, false, false] (df dA.out ji.out _ _ _ (by kernel_rfl)) rfl (fun _ _ _ _ _ h => h) hHeld (a' := ?_) ?_ ?_;rotate_left
 ·iterate 2
   refine bC (v := ?_) (a1 := ?_) rfl rfl (Or.inl ⟨by rfl, ?_⟩) ?_ ?_;rotate_left 2
   ·rintro w' ⟨s0, s1, s2, s3, s4, s5, s6, s7, s8, s9, s10⟩;go_simp;with_reducible rfl
   ·simp only [Act.put, List.setIfInBounds_toArray, List.set_cons_zero, List.set_cons_succ, bH, bI];rfl
  exact chain_nil
 refine oq (fuel := 3) [(24, 30)] #[true, true, true, true, true, true, true, true, true, true, true, true, true, true, true, true, true, true, true, true, true, true, true, true, true, false, false, false] (jT dA.out _ _ _ (by kernel_rfl)) rfl (fun _ _ _ _ _ h => h) (a' := ?_) ?_ ?_;rotate_left
 ·iterate 1
   refine gI (v := ?_) (a1 := ?_) rfl rfl (Or.inl ⟨by rfl, ?_⟩) ?_ ?_;rotate_left 2
   ·intro w';go_simp;with_reducible rfl
   ·simp only [Act.put, List.setIfInBounds_toArray, List.set_cons_zero, List.set_cons_succ, bH, bI];rfl
  exact iD
 refine El (i := 25) (N := none) #[true, true, true, true, true, true, true, true, true, true, true, true, true, true, true, true, true, true, true, true, true, true, true, true, true, true, false, false] rfl rfl (dn dA.out (by kernel_rfl)) (by decide) (fun K hK => ?_);obtain ⟨W1, X6, hR1, xE⟩ := Ip hRd i hi0 hi y;refine rV (w1 := W1) (by rfl) rfl ?_ ?_
 ·unfold execOp;simp [Act.eval, X6]
 refine hK.out _ _ ?_;clear hK K;refine oq (fuel := 1) [(26, 31)] #[true, true, true, true, true, true, true, true, true, true, true, true, true, true, true, true, true, true, true, true, true, true, true, true, true, true, true, false] (jT dA.out _ _ _ (by kernel_rfl)) rfl (fun _ _ _ _ _ h => h) (a' := ?_) ?_ ?_;rotate_left
 ·iterate 1
   refine gI (v := ?_) (a1 := ?_) rfl rfl (Or.inl ⟨by rfl, ?_⟩) ?_ ?_;rotate_left 2
   ·intro w';go_simp;with_reducible rfl
   ·simp only [Act.put, List.setIfInBounds_toArray, List.set_cons_zero, List.set_cons_succ, bH, bI];rfl
  exact iD
 refine El (i := 27) (N := none) #[true, true, true, true, true, true, true, true, true, true, true, true, true, true, true, true, true, true, true, true, true, true, true, true, true, true, true, true] rfl rfl (dn dA.out (by kernel_rfl)) (by decide) (fun K hK => ?_);obtain ⟨W2, X7, hR2, zy⟩ := Ip hR1 j hj0 (by simpa using hj) x;refine rV (w1 := W2) (by rfl) rfl ?_ ?_
 ·unfold execOp;simp [Act.eval, X7]
 refine hK.out _ _ ?_;clear hK K;refine gH (dV dA.out (by kernel_rfl)) ?_;have hq2 : W2.heap[q]? = some (.cells #[uI, .slice (some ⟨g, 0, none⟩) es.length cap, .map (some bm), .int .i64 nx, .int .i64 ck] 135 (0, 0)) :=
  bX (bX (az hq) xE (Kd.aqP hRd (az hq) (by decide))) zy (Kd.aqP hR1 (bX (az hq) xE (Kd.aqP hRd (az hq) (by decide))) (by decide))
 have hne : some bm ≠ (some g : Option Nat) := by rintro e; injection e with e; subst e; rw [hm] at hgc; cases hgc
 have hmb : W2.drew.heap[bm]? = some (.map qy mc) := az (bX (bX (az hm) xE hne) zy hne);have hF2 : aa (QF base q w W2) := by
  have hrow : F4 w q = some g := Aj hq rfl;refine ⟨⟨vP.Ai ⟨⟨zy.os.trans xE.os, zy.tape.trans xE.tape, zy.output.trans xE.output, Nat.le_trans xE.size zy.size, fun k hk => ?_⟩, fun k cs t fr h1 _ h3 => ?_⟩, (Aj hq2 rfl).trans hrow.symm, fun k cs fr h1 hn => bX (bX (az h1) xE (by rw [hrow] at hn; exact hn)) zy (by rw [hrow] at hn; exact hn)⟩⟩
  ·have hkw : k < w.drew.heap.size := Nat.lt_of_lt_of_le hk (Nat.le_trans hbg (Nat.le_of_lt hgl));exact (zy.block k (Nat.lt_of_lt_of_le hkw xE.size) (fun e => by injection e with e; omega)).trans (xE.block k hkw (fun e => by injection e with e; omega))
  ·have hk : some k ≠ (some g : Option Nat) := by rintro e; injection e with e; subst e; rw [show w.drew.heap = w.heap from rfl, hgc] at h1; injection h1 with h1; injection h1 with _ h1; exact h3 h1.symm
   exact bX (bX h1 xE hk) zy hk
 have hRs := aa.mk (show Kd.R yc 139 W2 base (fun _ => True) (.slice (some ⟨g, 0, none⟩) es.length cap) (nK es i j) from by rw [Hsw.out]; exact hR2);have hlen : (nK es i j).length = es.length := by rw [Hsw.out]; simp
 have ex := (uJ hRs.out i hi0 (by rw [hlen]; exact hi)).2.2.2.1;have ey := (uJ hRs.out j hj0 (by rw [hlen]; exact hj)).2.2.2.1;generalize (eO (nK es i j) i).f1 = hx at ex;generalize (eO (nK es i j) j).f1 = hy at ey;have q1b : W2.cell? ⟨q, 1, none⟩ = some (.slice (some ⟨g, 0, none⟩) es.length cap) := (ae hq2 1).trans rfl;have q2b : W2.cell? ⟨q, 2, none⟩ = some (.map (some bm)) := (ae hq2 2).trans rfl;have Hq2 := aa.mk hq2;have Vy : q ≠ bm := by rintro rfl; rw [hq] at hm; cases hm
 clear hq2 hR1 hR2 xE zy hRd c0 c1 c2 c3 c4 d0 d1 d2 d3 d4 q1 hq hR hm X6 X7 Hsw hlen hgc hgl hne;go_upto_region 1 with (fail)
 refine fu (n := 32) (S := fun w' => w'.cell? ⟨q, 1, none⟩ = some (.slice (some ⟨g, 0, none⟩) es.length cap) ∧ w'.cell? ⟨q, 2, none⟩ = some (.map (some bm)) ∧ w'.cell? ⟨g, i.toNat * 5 + 3, none⟩ = some (.int .i64 hx) ∧ w'.cell? ⟨g, j.toNat * 5 + 3, none⟩ = some (.int .i64 hy)) (ds := []) #[false, false, false, false, false, false, false, false, false, false, false, false, false, false, false, false, false, false, false, false, false, false, false, false, false, false, false, false, false, false, false, false] (by kernel_rfl) rfl rfl ⟨q1b, q2b, ex, ey⟩ (fun hHeld => ?_);refine dw yj.Al yj.sV (fun dA ji => ?_);refine fG (fuel := 6) [(0, 32), (1, 33), (2, 34), (3, 35), (4, 36), (5, 37), (6, 38), (7, 39), (8, 40), (9, 41), (10, 42), (11, 43), (12, 44), (13, 45), (14, 46), (15, 47), (16, 48), (17, 49), (18, 50), (19, 51), (20, 52), (21, 53), (22, 54), (23, 55), (24, 56), (25, 57)] #[true, true, true, true, true, true, true, true, true, true, true, true, true, true, true, true, true, true, true, true, true, true, true, true, true, true, false, false, false, false, false, false] (df dA.out ji.out _ _ _ (by kernel_rfl)) rfl (fun _ _ _ _ _ h => h) hHeld (a' := ?_) ?_ ?_;rotate_left
 ·iterate 26
   refine bC (v := ?_) (a1 := ?_) rfl rfl (Or.inl ⟨by rfl, ?_⟩) ?_ ?_;rotate_left 2
   ·rintro w' ⟨s0, s1, s2, s3⟩;go_simp;with_reducible rfl
   ·simp only [Act.put, List.setIfInBounds_toArray, List.set_cons_zero, List.set_cons_succ, bH, bI];rfl
  exact chain_nil
 refine fT (i := 26) (N := some 58) #[true, true, true, true, true, true, true, true, true, true, true, true, true, true, true, true, true, true, true, true, true, true, true, true, true, true, true, false, false, false, false, false] rfl rfl (dn dA.out (by kernel_rfl)) (by decide) (fun K hK => ?_);obtain ⟨W3, mv, st, esA, cA, hme, X8, hkA, hsA, hfA⟩ := F3 hmb hk hx;refine pY (w1 := W3) (v := .tuple #[mv, goInt (st : Nat)]) (by rfl) rfl ?_ ?_
 ·unfold execOp;simp [Act.eval, hme]
 refine hK.out _ _ ⟨hfA.cell hmb hHeld.1, hfA.cell hmb hHeld.2.1, hfA.cell hmb hHeld.2.2.1, hfA.cell hmb hHeld.2.2.2⟩ (fun hHeld => ?_);clear hK K;refine bS (a' := ?_) ?_ ?_;rotate_left
 ·show Act.put _ (some 58) _ = _;simp only [Act.put, List.setIfInBounds_toArray, List.set_cons_zero, List.set_cons_succ, bH, bI];rfl
 refine fG (fuel := 4) [(27, 59)] #[true, true, true, true, true, true, true, true, true, true, true, true, true, true, true, true, true, true, true, true, true, true, true, true, true, true, true, true, false, false, false, false] (df dA.out ji.out _ _ _ (by kernel_rfl)) rfl (fun _ _ _ _ _ h => h) hHeld (a' := ?_) ?_ ?_;rotate_left
 ·iterate 1
   refine bC (v := ?_) (a1 := ?_) rfl rfl (Or.inl ⟨by rfl, ?_⟩) ?_ ?_;rotate_left 2
   ·rintro w' ⟨s0, s1, s2, s3⟩;go_simp;with_reducible rfl
   ·simp only [Act.put, List.setIfInBounds_toArray, List.set_cons_zero, List.set_cons_succ, bH, bI];rfl
  exact chain_nil
 refine fT (i := 28) (N := none) #[true, true, true, true, true, true, true, true, true, true, true, true, true, true, true, true, true, true, true, true, true, true, true, true, true, true, true, true, true, false, false, false] rfl rfl (dn dA.out (by kernel_rfl)) (by decide) (fun K hK => ?_);obtain ⟨W4, esB, cB, hes, X9, hkB, hfB⟩ := Af X8 hkA hsA (.int .i64 i);refine rV (w1 := W4) (by rfl) rfl ?_ ?_
 ·have aah : (Instr.entryStore 132 (.map (some bm)) (.int .i64 (st : Nat)) (.int .i64 i)).run Try.prog _ = .ok () W4 := hes;unfold execOp;simp [Act.eval, aah]
 refine hK.out _ _ ⟨hfB.cell X8 hHeld.1, hfB.cell X8 hHeld.2.1, hfB.cell X8 hHeld.2.2.1, hfB.cell X8 hHeld.2.2.2⟩ (fun hHeld => ?_);clear hK K;refine fT (i := 29) (N := some 60) #[true, true, true, true, true, true, true, true, true, true, true, true, true, true, true, true, true, true, true, true, true, true, true, true, true, true, true, true, true, true, false, false] rfl rfl (dn dA.out (by kernel_rfl)) (by decide) (fun K hK => ?_);obtain ⟨W5, mv, st, esC, cC, hme, Ya, hkC, hsC, hfC⟩ := F3 X9 hkB hy;refine pY (w1 := W5) (v := .tuple #[mv, goInt (st : Nat)]) (by rfl) rfl ?_ ?_
 ·unfold execOp;simp [Act.eval, hme]
 refine hK.out _ _ ⟨hfC.cell X9 hHeld.1, hfC.cell X9 hHeld.2.1, hfC.cell X9 hHeld.2.2.1, hfC.cell X9 hHeld.2.2.2⟩ (fun hHeld => ?_);clear hK K;refine bS (a' := ?_) ?_ ?_;rotate_left
 ·show Act.put _ (some 60) _ = _;simp only [Act.put, List.setIfInBounds_toArray, List.set_cons_zero, List.set_cons_succ, bH, bI];rfl
 refine fG (fuel := 1) [(30, 61)] #[true, true, true, true, true, true, true, true, true, true, true, true, true, true, true, true, true, true, true, true, true, true, true, true, true, true, true, true, true, true, true, false] (df dA.out ji.out _ _ _ (by kernel_rfl)) rfl (fun _ _ _ _ _ h => h) hHeld (a' := ?_) ?_ ?_;rotate_left
 ·iterate 1
   refine bC (v := ?_) (a1 := ?_) rfl rfl (Or.inl ⟨by rfl, ?_⟩) ?_ ?_;rotate_left 2
   ·rintro w' ⟨s0, s1, s2, s3⟩;go_simp;with_reducible rfl
   ·simp only [Act.put, List.setIfInBounds_toArray, List.set_cons_zero, List.set_cons_succ, bH, bI];rfl
  exact chain_nil
 refine fT (i := 31) (N := none) #[true, true, true, true, true, true, true, true, true, true, true, true, true, true, true, true, true, true, true, true, true, true, true, true, true, true, true, true, true, true, true, true] rfl rfl (dn dA.out (by kernel_rfl)) (by decide) (fun K hK => ?_);obtain ⟨W6, esD, cD, hes, hmD, hkD, hfD⟩ := Af Ya hkC hsC (.int .i64 j);refine rV (w1 := W6) (by rfl) rfl ?_ ?_
 ·have aah : (Instr.entryStore 132 (.map (some bm)) (.int .i64 (st : Nat)) (.int .i64 j)).run Try.prog _ = .ok () W6 := hes;unfold execOp;simp [Act.eval, aah]
 refine hK.out _ _ ⟨hfD.cell Ya hHeld.1, hfD.cell Ya hHeld.2.1, hfD.cell Ya hHeld.2.2.1, hfD.cell Ya hHeld.2.2.2⟩ (fun hHeld => ?_);clear hK K;refine gH (dV dA.out (by kernel_rfl)) ?_;go_end0
 have hqA := hfA.blk hmb (az Hq2.out);have hqD := hfD.blk Ya (hfC.blk X9 (hfB.blk X8 hqA));have hRA := Dr hfA hmb (Kd.aaH hRs.out);have hRD := Dr hfD Ya (Dr hfC X9 (Dr hfB X8 hRA));refine ⟨rfl, ⟨_, bm, esD, cD, hqD, hbq, hRD, hmD, EZ, hkD⟩, ?_⟩;exact (((hF2.out.drew.trans (Jr hfA hmb EZ Vy)).trans (Jr hfB X8 EZ Vy)).trans (Jr hfC X9 EZ Vy)).trans (Jr hfD Ya EZ Vy)
theorem dh (es : List dP) (i j : Int) : (nK es i j).length = es.length := by simp [nK]
def Hg : Nat → List dP → Nat → List dP
 | 0, es, _ => es
 | _ + 1, es, 0 => es
 | k + 1, es, m + 1 => if KW (eO es ((m : Int) + 1)) (eO es ((m : Int) / 2)) = true then Hg k (nK es ((m : Int) + 1) ((m : Int) / 2)) (m / 2) else es
theorem lL {base q : Nat} {w w' : World} {es : List dP} {nx ck : Int} (h : QS base w q es nx ck) (hb : Below w.heap.size w w') : QS base w' q es nx ck := by
 obtain ⟨v, bm, qy, mc, hq, hbq, hR, hm, EZ, hk⟩ := h;exact ⟨v, bm, qy, mc, aC hq hb, hbq, Kd.bu hR hb, aC hm hb, EZ, hk⟩
theorem vR {base q : Nat} {w : World} {es : List dP} {nx ck : Int} (h : QS base w q es nx ck) : base ≤ w.heap.size := by
 obtain ⟨v, bm, qy, mc, hq, hbq, hR, hm, EZ, hk⟩ := h;have := bE hq;omega
theorem O0 {base q : Nat} {w : World} {es : List dP} {nx ck : Int} (h : QS base w q es nx ck) : q < w.heap.size := by
 obtain ⟨v, bm, qy, mc, hq, hbq, hR, hm, EZ, hk⟩ := h;exact bE hq
theorem amf {base q : Nat} {w : World} {es : List dP} {nx ck : Int} (h : QS base w q es nx ck) : QS base w.drew q es nx ck := by
 obtain ⟨v, bm, qy, mc, hq, hbq, hR, hm, EZ, hk⟩ := h;exact ⟨v, bm, qy, mc, hq, hbq, Kd.aaH hR, hm, EZ, hk⟩
set_option maxHeartbeats 2000000 in
theorem Tv (base q : Nat) (es : List dP) (nx ck : Int) (k0 : Nat) (w : World) (h : QS base w q es nx ck) (hk0 : k0 < es.length) (hsz : es.length ≤ 1000000) :
  Calls Try.prog 116 #[.pointer (some ⟨q, 0, none⟩), .int .i64 (k0 : Nat)] w fun e w' => e = .returned (.tuple #[]) ∧ QS base w' q (Hg (k0 + 1) es k0) nx ck ∧ QF base q w w' := by
 go_enter Try.func116, Try.ntmps116
 go_wp2_with fail
 go_loopg [1] (k0 + 1) (fun g v1 wr => ∃ (k : Nat) (es' : List dP), v1 = .int .i64 k ∧ aa (k < es'.length) ∧ aa (es'.length = es.length) ∧ aa (QS base wr q es' nx ck) ∧ aa (QF base q w wr) ∧ aa (k < g) ∧ aa (Hg g es' k = Hg (k0 + 1) es k0))
 case atStart => exact ⟨k0, es, rfl, ⟨hk0⟩, ⟨rfl⟩, ⟨h⟩, ⟨QF.refl _ _ _⟩, ⟨by omega⟩, ⟨rfl⟩⟩
 case round =>
  obtain ⟨k, es', rfl, hk, hl, HQ, HF, hg, HE⟩ := hrel;clear h hk0;have hk1 : k ≤ 1000000 := by have := hk.out; have := hl.out; omega
  cases k with
  | zero =>
   go_wp2;go_end0
   have e : Hg gk es' 0 = es' := by cases gk <;> rfl
   exact ⟨rfl, by rw [← HE.out, e]; exact HQ.out, HF.out⟩
  | succ m =>
   obtain ⟨g, rfl⟩ : ∃ g, gk = g + 1 := ⟨gk - 1, by have := hg.out; omega⟩;have hm1 : (m : Int) + 1 < (es'.length : Int) := by have := hk.out; omega
   cases hbf : KW (eO es' ((m : Int) + 1)) (eO es' ((m : Int) / 2)) with
   | false =>
    go_wp2_with (first | (go_at_call 117; refine (qz base q es' nx ck _ _ _ HQ.out (by omega) (by omega) (by omega) (by omega)).mono ?_; rintro e w1 ⟨rfl, hb1⟩))
    go_end0
    have e : Hg (g + 1) es' (m + 1) = es' := by simp [Hg, hbf]
    exact ⟨rfl, by rw [← HE.out, e]; exact lL HQ.out hb1, HF.out.trans (QF.of_below hb1 (vR HQ.out) (O0 HQ.out))⟩
   | true =>
    go_wp2_with (first | (go_at_call 117; refine (qz base q es' nx ck _ _ _ HQ.out (by omega) (by omega) (by omega) (by omega)).mono ?_; rintro e w1 ⟨rfl, hb1⟩) | (go_at_call 111; refine (vQ base q es' nx ck _ _ _ (lL HQ.out hb1) (by omega) (by omega) (by omega) (by omega)).mono ?_; rintro e w2 ⟨rfl, Yb, hF2⟩; have Mf := aa.mk Yb; have HF2 := aa.mk hF2; clear Yb hF2))
    go_roundg g
    case measure => omega
    case rel =>
     have e : Hg (g + 1) es' (m + 1) = Hg g (nK es' ((m : Int) + 1) ((m : Int) / 2)) (m / 2) := by simp [Hg, hbf]
     exact ⟨m / 2, nK es' ((m : Int) + 1) ((m : Int) / 2), by go_num, ⟨by rw [dh]; have := hk.out; omega⟩, ⟨by rw [dh]; exact hl.out⟩, Mf, ⟨(HF.out.trans (QF.of_below hb1 (vR HQ.out) (O0 HQ.out))).trans HF2.out⟩, ⟨by have := hg.out; omega⟩, ⟨by rw [← e]; exact HE.out⟩⟩
def pM (es : List dP) (i : Nat) : Nat → Nat
 | 0 => i
 | t + 1 => if 2 * i + 1 + t < es.length ∧ KW (eO es ((2 * i + 1 + t : Nat) : Int)) (eO es ((pM es i t : Nat) : Int)) = true then 2 * i + 1 + t else pM es i t
def mZ : Nat → List dP → Nat → List dP
 | 0, es, _ => es
 | k + 1, es, i => if pM es i 2 = i then es else mZ k (nK es (i : Nat) ((pM es i 2 : Nat) : Int)) (pM es i 2)
theorem Am (es : List dP) (i : Nat) (hi : i < es.length) : ∀ t, pM es i t < es.length ∧ i ≤ pM es i t
 | 0 => ⟨hi, Nat.le_refl _⟩
 | t + 1 => by
  have ih := Am es i hi t;simp only [pM];split
  ·rename_i h; exact ⟨h.1, by omega⟩
  ·exact ih
theorem rA (es : List dP) (i t : Nat) : pM es i (t + 1) = if 2 * i + 1 + t < es.length ∧ KW (eO es ((2 * i + 1 + t : Nat) : Int)) (eO es ((pM es i t : Nat) : Int)) = true then 2 * i + 1 + t else pM es i t := rfl
theorem Tw (es : List dP) (i t : Nat) (ht : t ≤ 2) (h : ¬ (2 * i + 1 + t < es.length) ∨ t = 2) : pM es i 2 = pM es i t := by
 rcases h with h | rfl
 ·rcases Nat.lt_or_ge t 1 with h1 | h1
  ·obtain rfl : t = 0 := by omega
   rw [rA, if_neg (fun h2 => by omega), rA, if_neg (fun h2 => by omega)]
  ·rcases Nat.lt_or_ge t 2 with h3 | h3
   ·obtain rfl : t = 1 := by omega
    rw [rA, if_neg (fun h2 => by omega)]
   ·obtain rfl : t = 2 := by omega
    rfl
 ·rfl
theorem MQ {base q : Nat} {w : World} {es : List dP} {nx ck : Int} (h : QS base w q es nx ck) : ∃ A c, w.cell? ⟨q, 1, none⟩ = some (.slice A es.length c) := by
 obtain ⟨v, bm, qy, mc, hq, hbq, hR, hm, EZ, hk⟩ := h;obtain ⟨A, c, rfl, hl, hC⟩ := Kd.oK hR;exact ⟨A, c, (ae hq 1).trans rfl⟩
set_option maxHeartbeats 4000000 in
theorem down_calls (base q : Nat) (es : List dP) (nx ck : Int) (k0 : Nat) (w : World) (h : QS base w q es nx ck) (hk0 : k0 < es.length) (hsz : es.length ≤ 1000000) :
  Calls Try.prog 112 #[.pointer (some ⟨q, 0, none⟩), .int .i64 (k0 : Nat)] w fun e w' => e = .returned (.tuple #[]) ∧ QS base w' q (mZ (es.length - k0) es k0) nx ck ∧ QF base q w w' := by
 go_enter Try.func112, Try.ntmps112
 go_wp2_with fail
 go_loopg [1] (es.length - k0) (fun g v1 wr => ∃ (k : Nat) (es' : List dP), v1 = .int .i64 k ∧ aa (k < es'.length) ∧ aa (es'.length = es.length) ∧ aa (QS base wr q es' nx ck) ∧ aa (QF base q w wr) ∧ aa (es.length - k ≤ g) ∧ aa (mZ g es' k = mZ (es.length - k0) es k0))
 case atStart => exact ⟨k0, es, rfl, ⟨hk0⟩, ⟨rfl⟩, ⟨h⟩, ⟨QF.refl _ _ _⟩, ⟨by omega⟩, ⟨rfl⟩⟩
 case round =>
  obtain ⟨k, es', rfl, hk, hl, HQ, HF, hg, HE⟩ := hrel;clear h hk0;have hk1 : k ≤ 1000000 := by have := hk.out; have := hl.out; omega
  obtain ⟨wO, rfl⟩ : ∃ wO : World, wO = wr := ⟨_, rfl⟩;obtain ⟨gO, rfl⟩ : ∃ gO : Nat, gO = gk := ⟨_, rfl⟩;go_wp2_with fail
  go_loopg [4, 5] 3 (fun g v4 v5 wr => ∃ (t kk : Nat), v4 = .int .i64 ((pM es' k t : Nat) : Int) ∧ v5 = .int .i64 (kk : Nat) ∧ aa (kk = 2 * k + 1 + t) ∧ aa (t ≤ 2) ∧ aa (3 - t ≤ g) ∧ aa (Below wO.heap.size wO wr))
  case atStart => exact ⟨0, 2 * k + 1, rfl, by go_num, ⟨rfl⟩, ⟨by omega⟩, ⟨by omega⟩, ⟨Below.refl _ _⟩⟩
  case round =>
   obtain ⟨t, kk, rfl, rfl, hkk, ht, hg2, HB⟩ := hrel;have Dt := aa.mk (lL HQ.out HB.out);have hlt := Am es' k hk.out t;have aop : kk ≤ 2000003 := by have := hkk.out; have := ht.out; omega
   obtain ⟨A, c, hq1⟩ := MQ Dt.out;have hnext := rA es' k t;rw [show 2 * k + 1 + t = kk from hkk.out.symm] at hnext;have hend := Tw es' k t ht.out;rw [show 2 * k + 1 + t = kk from hkk.out.symm] at hend;obtain ⟨L, hL⟩ : ∃ L, pM es' k t = L := ⟨_, rfl⟩;rw [hL] at hlt hnext hend;rw [hL];have HN := aa.mk hnext;have HEN := aa.mk hend;have HL := aa.mk hL;clear hnext hend hL;obtain ⟨hL1, hL2⟩ := hlt;have hkl := hk.out;by_cases hgo : kk ≤ 2 * k + 2 ∧ kk < es'.length
   ·obtain ⟨ht2, hkn⟩ := hgo;have Vz : (kk : Int) ≤ 2 * (k : Int) + 2 := by omega
    have htt : t ≤ 1 := by have := hkk.out; omega
    cases hbf : KW (eO es' ((kk : Nat) : Int)) (eO es' ((L : Nat) : Int)) with
    | true =>
     go_wp2_with (first | (go_at_call 117; refine (qz base q es' nx ck _ _ _ Dt.out (by omega) (by omega) (by omega) (by omega)).mono ?_; rintro e w1 ⟨rfl, hb1⟩))
     go_roundg (2 - t)
     case measure => have := hg2.out; omega
     case rel => exact ⟨t + 1, kk + 1, by rw [HN.out, if_pos ⟨hkn, hbf⟩], by go_num, ⟨by have := hkk.out; omega⟩, ⟨by omega⟩, ⟨by omega⟩, ⟨aM HB.out hb1⟩⟩
    | false =>
     go_wp2_with (first | (go_at_call 117; refine (qz base q es' nx ck _ _ _ Dt.out (by omega) (by omega) (by omega) (by omega)).mono ?_; rintro e w1 ⟨rfl, hb1⟩))
     go_roundg (2 - t)
     case measure => have := hg2.out; omega
     case rel => exact ⟨t + 1, kk + 1, by rw [HN.out, if_neg (fun h => by rw [hbf] at h; exact absurd h.2 (by decide))], by go_num, ⟨by have := hkk.out; omega⟩, ⟨by omega⟩, ⟨by omega⟩, ⟨aM HB.out hb1⟩⟩
   ·have hLL : pM es' k 2 = L := HEN.out (by have := hkk.out; have := ht.out; omega);have HLL := aa.mk hLL;clear hLL;have hF1 := aa.mk (HF.out.trans (QF.of_below HB.out (vR HQ.out) (O0 HQ.out)));have hgk : ∃ g0, gO = g0 + 1 := ⟨gO - 1, by have := hg.out; have := hl.out; omega⟩;obtain ⟨g0, rfl⟩ := hgk;have hdn : mZ (g0 + 1) es' k = if L = k then es' else mZ g0 (nK es' (k : Nat) ((L : Nat) : Int)) L := by rw [← HLL.out]; rfl
    have HDN := aa.mk hdn;clear hdn;by_cases hLk : L = k
    ·have hLk' : ((L : Int) == (k : Int)) = true := by simp [hLk]
     have HLk := aa.mk hLk;clear hLk;have fin : mZ (g0 + 1) es' k = es' := by rw [HDN.out, if_pos HLk.out]
     have FIN := aa.mk fin;clear fin;by_cases ht2 : kk ≤ 2 * k + 2
     ·have Vz : (kk : Int) ≤ 2 * (k : Int) + 2 := by omega
      have hkn : ¬ (kk : Int) < (es'.length : Int) := by have : ¬ kk < es'.length := fun h => hgo ⟨ht2, h⟩; omega
      clear hgo;go_wp2;refine bodyPost_ret (results_none (by rfl) _ _ _) rfl ?_;exact ⟨rfl, by rw [← HE.out, FIN.out]; exact Dt.out, hF1.out⟩
     ·have Vz : ¬ (kk : Int) ≤ 2 * (k : Int) + 2 := by omega
      clear hgo;go_wp2;refine bodyPost_ret (results_none (by rfl) _ _ _) rfl ?_;exact ⟨rfl, by rw [← HE.out, FIN.out]; exact Dt.out, hF1.out⟩
    ·have hLk' : ((L : Int) == (k : Int)) = false := by simp; omega
     have HLk := aa.mk hLk;clear hLk;have fin : mZ (g0 + 1) es' k = mZ g0 (nK es' (k : Nat) ((L : Nat) : Int)) L := by rw [HDN.out, if_neg HLk.out]
     have FIN := aa.mk fin;clear fin;by_cases ht2 : kk ≤ 2 * k + 2
     ·have Vz : (kk : Int) ≤ 2 * (k : Int) + 2 := by omega
      have hkn : ¬ (kk : Int) < (es'.length : Int) := by have : ¬ kk < es'.length := fun h => hgo ⟨ht2, h⟩; omega
      clear hgo;go_wp2_with (first | (go_at_call 111; refine (vQ base q es' nx ck _ _ _ Dt.out (by omega) (by omega) (by omega) (by omega)).mono ?_; rintro e w2 ⟨rfl, Yb, hF2⟩; have Mf := aa.mk Yb; have HF2 := aa.mk hF2; clear Yb hF2))
      go_roundg g0
      case measure => omega
      case rel => exact ⟨L, nK es' (k : Nat) ((L : Nat) : Int), rfl, ⟨by rw [dh]; exact hL1⟩, ⟨by rw [dh]; exact hl.out⟩, Mf, ⟨hF1.out.trans HF2.out⟩, ⟨by have := hg.out; have := HLk.out; omega⟩, ⟨by rw [← FIN.out]; exact HE.out⟩⟩
     ·have Vz : ¬ (kk : Int) ≤ 2 * (k : Int) + 2 := by omega
      clear hgo;go_wp2_with (first | (go_at_call 111; refine (vQ base q es' nx ck _ _ _ Dt.out (by omega) (by omega) (by omega) (by omega)).mono ?_; rintro e w2 ⟨rfl, Yb, hF2⟩; have Mf := aa.mk Yb; have HF2 := aa.mk hF2; clear Yb hF2))
      go_roundg g0
      case measure => omega
      case rel => exact ⟨L, nK es' (k : Nat) ((L : Nat) : Int), rfl, ⟨by rw [dh]; exact hL1⟩, ⟨by rw [dh]; exact hl.out⟩, Mf, ⟨hF1.out.trans HF2.out⟩, ⟨by have := hg.out; have := HLk.out; omega⟩, ⟨by rw [← FIN.out]; exact HE.out⟩⟩
theorem QX (w : World) : Calls Try.prog 102 #[uI] w fun e w' => e = .returned (.pointer (some ⟨w.heap.size + 1, 0, none⟩)) ∧
  w'.heap[w.heap.size + 1]? = some (.cells #[uI, .slice none 0 0, .map (some w.heap.size), .int .i64 0, .int .i64 0] 135 (0, 0)) ∧ w'.heap[w.heap.size]? = some (.map #[] 0) ∧ Below w.heap.size w w' := by
 have hmm := @run_makeMap Try.prog;go_enter Try.func102, Try.ntmps102
 go_wp2;go_ret;exact ⟨rfl, Ah w _ _, at0 w _ _, ⟨rfl, rfl, rfl, (yY w _ _).size, (yY w _ _).block⟩⟩
def pO.T1 : Bool × List (List Nat × List Nat) := (true, [([], []), ([0], [0]), ([1], [1]), ([2], [2]), ([], []), ([4], [4]), ([5], [5]), ([6], [6]), ([7], [7]), ([3, 0, 1, 2, 3], [3]), ([8, 9, 0, 1, 2, 3, 4, 5, 6, 7, 8, 9], [8])])
def pO.B1 : List Nat := [0, 1, 3, 7, 0, 16, 48, 112, 240, 15, 1023]
theorem pO.Al : iC .any (opsOf Try.f110 1) = pO.T1 := by kernel_rfl
theorem pO.sV : fo pO.T1.2 pO.B1 = true := by kernel_rfl
def pO.T2 : Bool × List (List Nat × List Nat) := (true, [([], []), ([], []), ([1], [1]), ([2], [2]), ([3], [3]), ([], []), ([], []), ([], []), ([7], [7]), ([8], [8]), ([9], [9]), ([5, 6, 10], [5, 6, 10]), ([11], [11]), ([4, 12], [4, 12]), ([0, 0, 1, 2, 3, 4, 5, 6, 7, 8, 9, 10, 11, 12, 13], [0]), ([14, 0, 1, 2, 3, 4, 5, 6, 7, 8, 9, 10, 11, 12, 13], [14]), ([15, 13, 13, 0, 1, 2, 3, 4, 5, 6, 7, 8, 9, 10, 11, 12, 13], [13, 15])])
def pO.B2 : List Nat := [0, 0, 2, 6, 14, 0, 0, 0, 128, 384, 896, 2016, 4064, 8190, 16383, 32767, 65535]
theorem pO.alp : iC .any (opsOf Try.f110 2) = pO.T2 := by kernel_rfl
theorem pO.Es : fo pO.T2.2 pO.B2 = true := by kernel_rfl
def pO.T4 : Bool × List (List Nat × List Nat) := (true, [([], []), ([], []), ([], []), ([2], [2]), ([3], [3]), ([4], [4]), ([5], [5]), ([], []), ([7], [7]), ([8], [8]), ([9], [9]), ([10], [10]), ([0, 0, 2, 3, 4, 5, 6, 10], [0]), ([12, 0, 2, 3, 4, 5, 6, 10], [12]), ([13, 6, 0, 2, 3, 4, 5, 6, 10], [6, 13]), ([1, 0, 1, 2, 3, 4, 5, 6, 7, 8, 9, 10, 11, 12, 13, 14], [1]), ([15, 0, 1, 2, 3, 4, 5, 6, 7, 8, 9, 10, 11, 12, 13, 14], [15]), ([16, 11, 14, 0, 1, 2, 3, 4, 5, 6, 7, 8, 9, 10, 11, 12, 13, 14], [11, 16])])
def pO.B4 : List Nat := [0, 0, 0, 4, 12, 28, 60, 0, 128, 384, 896, 1920, 2045, 6141, 14333, 32767, 65535, 131071]
theorem pO.Vx : iC .any (opsOf Try.f110 4) = pO.T4 := by kernel_rfl
theorem pO.OY : fo pO.T4.2 pO.B4 = true := by kernel_rfl
set_option maxRecDepth 100000 in
set_option maxHeartbeats 8000000 in
theorem MR (base q : Nat) (es : List dP) (nx ck : Int) (c : uo) (w : World) (h : QS base w q es nx ck) (hsz : es.length < 1000000) :
  Calls Try.prog 110 #[.pointer (some ⟨q, 0, none⟩), .agg #[.int .i64 c.f0, .int .i64 c.f1.f0, .int .i64 c.f1.f1]] w fun e w' => e = .returned (.int .i64 nx) ∧
   QS base w' q (Hg (es.length + 1) (es ++ [⟨c, nx, ck⟩]) es.length) (wrap64 (nx + 1)) (wrap64 (ck + 1)) ∧ vP base w w' := by
 go_enter Try.func110, Try.ntmps110
 go_wp2_with fail
 have acJ := vR h;have hB0 : Below w.heap.size w (w.alloc (.cells #[.int .i64 c.f0, .int .i64 c.f1.f0, .int .i64 c.f1.f1] 124)) := dY (Below.refl _ _) _;have HQ0 := aa.mk (lL h hB0);have hbx0 : (w.alloc (.cells #[.int .i64 c.f0, .int .i64 c.f1.f0, .int .i64 c.f1.f1] 124)).heap[w.heap.size]? = some (.cells #[.int .i64 c.f0, .int .i64 c.f1.f0, .int .i64 c.f1.f1] 124 (0, 0)) := heap_alloc_new w _;have HB0 := aa.mk hB0;have HX0 := aa.mk hbx0;clear hB0 hbx0 h;generalize hwA : w.alloc (.cells #[.int .i64 c.f0, .int .i64 c.f1.f0, .int .i64 c.f1.f1] 124) = wA at HQ0 HB0 HX0 ⊢;clear hwA;obtain ⟨v, bm, qy, mc, hq, hbq, hR, hm, EZ, hk⟩ := HQ0.out;obtain ⟨A, cap, rfl, hl, hC⟩ := Kd.oK hR;have q1 : wA.cell? ⟨q, 1, none⟩ = some (.slice A es.length cap) := (ae hq 1).trans rfl;have q3 : wA.cell? ⟨q, 3, none⟩ = some (.int .i64 nx) := (ae hq 3).trans rfl;go_upto_region 1 with (fail)
 refine fu (n := 11) (S := fun w' => w'.cell? ⟨q, 3, none⟩ = some (.int .i64 nx) ∧ w'.cell? ⟨q, 1, none⟩ = some (.slice A es.length cap)) (ds := []) #[false, false, false, false, false, false, false, false, false, false, false] (by kernel_rfl) rfl rfl ⟨q3, q1⟩ (fun hHeld => ?_);refine dw pO.Al pO.sV (fun dA ji => ?_);refine fG (fuel := 0) [(0, 7), (1, 8), (2, 9), (3, 10), (4, 11), (5, 12), (6, 13), (7, 14), (8, 15), (9, 5), (10, 6)] #[true, true, true, true, true, true, true, true, true, true, true] (df dA.out ji.out _ _ _ (by kernel_rfl)) rfl (fun _ _ _ _ _ h => h) hHeld (a' := ?_) ?_ ?_;rotate_left
 ·iterate 11
   refine bC (v := ?_) (a1 := ?_) rfl rfl (Or.inl ⟨by rfl, ?_⟩) ?_ ?_;rotate_left 2
   ·rintro w' ⟨s0, s1⟩;go_simp;with_reducible rfl
   ·simp only [Act.put, List.setIfInBounds_toArray, List.set_cons_zero, List.set_cons_succ, bH, bI];rfl
  exact chain_nil
 refine gH (dV dA.out (by kernel_rfl)) ?_;clear q1 q3;generalize Tx : wA.drew = wP;have acK : wP.heap[q]? = some (.cells #[uI, .slice A es.length cap, .map (some bm), .int .i64 nx, .int .i64 ck] 135 (0, 0)) := by rw [← Tx]; exact hq
 have acL : Kd.R yc 139 wP base (fun _ => True) (.slice A es.length cap) es := by rw [← Tx]; exact Kd.aaH hR
 have acM : wP.heap[bm]? = some (.map qy mc) := by rw [← Tx]; exact hm
 have Yc : wP.heap[w.heap.size]? = some (.cells #[.int .i64 c.f0, .int .i64 c.f1.f0, .int .i64 c.f1.f1] 124 (0, 0)) := by rw [← Tx]; exact HX0.out
 have VA : Below w.heap.size w wP := by rw [← Tx]; exact dM HB0.out
 clear Tx hq hR hm hC HQ0 HX0 HB0 hHeld;have hqp : wP.drew.heap[q]? = some (.cells #[uI, .slice A es.length cap, .map (some bm), .int .i64 nx, .int .i64 ck] 135 (0, 0)) := acK;have hRp := Kd.aaH acL;have QY : wP.drew.heap[w.heap.size]? = some (.cells #[.int .i64 c.f0, .int .i64 c.f1.f0, .int .i64 c.f1.f1] 124 (0, 0)) := Yc;have hBp : Below base w wP.drew := (dM VA).mono acJ;have hbs : base ≤ wP.drew.heap.size := Nat.le_trans acJ VA.size;have hmp : wP.drew.heap[bm]? = some (.map qy mc) := acM;have q1 : wP.drew.cell? ⟨q, 1, none⟩ = some (.slice A es.length cap) := (ae hqp 1).trans rfl;have q4 : wP.drew.cell? ⟨q, 4, none⟩ = some (.int .i64 ck) := (ae hqp 4).trans rfl;have b0 : wP.drew.cell? ⟨w.heap.size, 0, none⟩ = some (.int .i64 c.f0) := (ae QY 0).trans rfl;have b1 : wP.drew.cell? ⟨w.heap.size, 1, none⟩ = some (.int .i64 c.f1.f0) := (ae QY 1).trans rfl;have b2 : wP.drew.cell? ⟨w.heap.size, 2, none⟩ = some (.int .i64 c.f1.f1) := (ae QY 2).trans rfl;go_upto_region 2 with (fail)
 refine fu (n := 17) (S := fun w' => w'.cell? ⟨q, 1, none⟩ = some (.slice A es.length cap) ∧ w'.cell? ⟨q, 4, none⟩ = some (.int .i64 ck) ∧ w'.cell? ⟨w.heap.size, 0, none⟩ = some (.int .i64 c.f0) ∧ w'.cell? ⟨w.heap.size, 1, none⟩ = some (.int .i64 c.f1.f0) ∧ w'.cell? ⟨w.heap.size, 2, none⟩ = some (.int .i64 c.f1.f1)) (ds := [16]) #[false, false, false, false, false, false, false, false, false, false, false, false, false, false, false, false, false] (by kernel_rfl) rfl rfl ⟨q1, q4, b0, b1, b2⟩ (fun hHeld => ?_);refine dw pO.alp pO.Es (fun dA ji => ?_);refine oq (fuel := 9) [(0, 16), (1, 17), (2, 18), (3, 19), (6, 22), (7, 23), (8, 24), (9, 25)] #[true, true, true, true, false, false, true, true, true, true, false, false, false, false, false, false, false] (jT dA.out _ _ _ (by kernel_rfl)) rfl (fun _ _ _ _ _ h => h) (a' := ?_) ?_ ?_;rotate_left
 ·iterate 8
   refine gI (v := ?_) (a1 := ?_) rfl rfl (Or.inl ⟨by rfl, ?_⟩) ?_ ?_;rotate_left 2
   ·intro w';go_simp;with_reducible rfl
   ·simp only [Act.put, List.setIfInBounds_toArray, List.set_cons_zero, List.set_cons_succ, bH, bI];rfl
  exact iD
 refine fG (fuel := 6) [(4, 20), (5, 21), (10, 26)] #[true, true, true, true, true, true, true, true, true, true, true, false, false, false, false, false, false] (df dA.out ji.out _ _ _ (by kernel_rfl)) rfl (fun _ _ _ _ _ h => h) hHeld (a' := ?_) ?_ ?_;rotate_left
 ·iterate 3
   refine bC (v := ?_) (a1 := ?_) rfl rfl (Or.inl ⟨by rfl, ?_⟩) ?_ ?_;rotate_left 2
   ·rintro w' ⟨s0, s1, s2, s3, s4⟩;go_simp;with_reducible rfl
   ·simp only [Act.put, List.setIfInBounds_toArray, List.set_cons_zero, List.set_cons_succ, bH, bI];rfl
  exact chain_nil
 refine oq (fuel := 5) [(11, 27)] #[true, true, true, true, true, true, true, true, true, true, true, true, false, false, false, false, false] (jT dA.out _ _ _ (by kernel_rfl)) rfl (fun _ _ _ _ _ h => h) (a' := ?_) ?_ ?_;rotate_left
 ·iterate 1
   refine gI (v := ?_) (a1 := ?_) rfl rfl (Or.inl ⟨by rfl, ?_⟩) ?_ ?_;rotate_left 2
   ·intro w';go_simp;with_reducible rfl
   ·simp only [Act.put, List.setIfInBounds_toArray, List.set_cons_zero, List.set_cons_succ, bH, bI];rfl
  exact iD
 refine fT (i := 12) (N := some 28) #[true, true, true, true, true, true, true, true, true, true, true, true, true, false, false, false, false] rfl rfl (dn dA.out (by kernel_rfl)) (by decide) (fun K hK => ?_);refine pY (w1 := wP.drew.alloc (.cells #[.int .i64 c.f0, .int .i64 c.f1.f0, .int .i64 c.f1.f1, .int .i64 nx, .int .i64 ck] 139)) (v := .slice (some ⟨wP.heap.size, 0, none⟩) 1 1) (by rfl) rfl ?_ ?_
 ·first | (go_simp; done) | (go_simp; rfl)
 refine hK.out _ _ ⟨ma hHeld.1 _, ma hHeld.2.1 _, ma hHeld.2.2.1 _, ma hHeld.2.2.2.1 _, ma hHeld.2.2.2.2 _⟩ (fun hHeld => ?_);clear hK K;refine bS (a' := ?_) ?_ ?_;rotate_left
 ·show Act.put _ (some 28) _ = _;simp only [Act.put, List.setIfInBounds_toArray, List.set_cons_zero, List.set_cons_succ, bH, bI];rfl
 refine fT (i := 13) (N := some 29) #[true, true, true, true, true, true, true, true, true, true, true, true, true, true, false, false, false] rfl rfl (dn dA.out (by kernel_rfl)) (by decide) (fun K hK => ?_);refine Kd.oL yc (w0 := w) (W := wP.drew) base (by rfl) (.tmp 20) (.tmp 28) 133 139 (.agg #[.int .i64 0, .int .i64 0, .int .i64 0, .int .i64 0, .int .i64 0]) 40 rfl Try.underlying133 Vj rfl (by decide) (by omega) (.slice A es.length cap) es (⟨c, nx, ck⟩ : dP) [.int .i64 c.f0, .int .i64 c.f1.f0, .int .i64 c.f1.f1, .int .i64 nx, .int .i64 ck] (fun _ => True) (fun _ => False) rfl rfl (KT _ _ _ ⟨c, nx, ck⟩) (fun _ hk => hk.elim) (fun _ _ => trivial) hRp hBp hbs (by omega) ?_;intro v1 w2 hR2 hB2 hg2 hat;obtain ⟨A1, F5, rfl⟩ := Kd.fQ hR2;have hne : some q ≠ (Value.slice A es.length cap).ownBlock := Kd.aqP hRp hqp (by decide);have acO : some w.heap.size ≠ (Value.slice A es.length cap).ownBlock := Kd.aqP hRp QY (by decide);have hq2 := bX hqp hg2 hne;have VB := bX QY hg2 acO;refine hK.out _ _ ⟨(ae hq2 1).trans rfl, (ae hq2 4).trans rfl, (ae VB 0).trans rfl, (ae VB 1).trans rfl, (ae VB 2).trans rfl⟩ (fun hHeld => ?_);clear hK K;refine bS (a' := ?_) ?_ ?_;rotate_left
 ·show Act.put _ (some 29) _ = _;simp only [Act.put, List.setIfInBounds_toArray, List.set_cons_zero, List.set_cons_succ, bH, bI];rfl
 refine oq (fuel := 1) [(14, 30), (15, 31)] #[true, true, true, true, true, true, true, true, true, true, true, true, true, true, true, true, false] (jT dA.out _ _ _ (by kernel_rfl)) rfl (fun _ _ _ _ _ h => h) (a' := ?_) ?_ ?_;rotate_left
 ·iterate 2
   refine gI (v := ?_) (a1 := ?_) rfl rfl (Or.inl ⟨by rfl, ?_⟩) ?_ ?_;rotate_left 2
   ·intro w';go_simp;with_reducible rfl
   ·simp only [Act.put, List.setIfInBounds_toArray, List.set_cons_zero, List.set_cons_succ, bH, bI];rfl
  exact iD
 refine El (i := 16) (N := none) #[true, true, true, true, true, true, true, true, true, true, true, true, true, true, true, true, true] rfl rfl (dn dA.out (by kernel_rfl)) (by decide) (fun K hK => ?_);have hc1 : w2.cell? ⟨q, 1, none⟩ = some (.slice A es.length cap) := (ae hq2 1).trans rfl;have hf1 := ai hq2 1;refine rV (w1 := w2.setCell ⟨q, 1, none⟩ (.slice A1 (es ++ [(⟨c, nx, ck⟩ : dP)]).length F5)) (by rfl) rfl ?_ ?_
 ·first | (go_simp; done) | (go_simp; rfl)
 refine hK.out _ _ ?_;clear hK K;refine gH (dV dA.out (by kernel_rfl)) ?_;have hm2 : w2.heap[bm]? = some (.map qy mc) := bX hmp hg2 (by
  intro e;obtain ⟨cells, hc⟩ := Kd.lW hRp bm e.symm;rw [hmp] at hc
  cases hc)
 have hq3 : (w2.setCell ⟨q, 1, none⟩ (.slice A1 (es ++ [(⟨c, nx, ck⟩ : dP)]).length F5)).heap[q]? = some (.cells #[uI, .slice A1 (es ++ [(⟨c, nx, ck⟩ : dP)]).length F5, .map (some bm), .int .i64 nx, .int .i64 ck] 135 (0, 0)) := by simpa using gL hq2 1 (.slice A1 (es ++ [(⟨c, nx, ck⟩ : dP)]).length F5)
 have hR3 := Kd.Ej hR2 hq2 (by decide) 1 (.slice A1 (es ++ [(⟨c, nx, ck⟩ : dP)]).length F5);have acP : q ≠ bm := by rintro rfl; rw [hq2] at hm2; cases hm2
 have hm3 : (w2.setCell ⟨q, 1, none⟩ (.slice A1 (es ++ [(⟨c, nx, ck⟩ : dP)]).length F5)).heap[bm]? = some (.map qy mc) := (Below.heap_setCell w2 ⟨q, 1, none⟩ (.slice A1 (es ++ [(⟨c, nx, ck⟩ : dP)]).length F5) bm (fun e => acP e.symm)).trans hm2;have hF3 : aa (vP base w (w2.setCell ⟨q, 1, none⟩ (.slice A1 (es ++ [(⟨c, nx, ck⟩ : dP)]).length F5))) := by
  refine ⟨⟨hB2.setCell hbq _, fun k cs t fr h1 h2 h3 => ?_⟩⟩;have hk1 : wP.drew.heap[k]? = some (.cells cs t fr) := aC (w := w) (w1 := wP.drew) h1 (dM VA);have hk2 : w2.heap[k]? = some (.cells cs t fr) := bX hk1 hg2 (by
   intro e;obtain ⟨cells, hc⟩ := Kd.lW hRp k e.symm;rw [hk1] at hc;injection hc with hc
   injection hc with _ hc
   exact h3 hc)
  rw [Below.heap_setCell w2 ⟨q, 1, none⟩ (.slice A1 (es ++ [(⟨c, nx, ck⟩ : dP)]).length F5) k (by
   rintro rfl;rw [hq2] at hk2;injection hk2 with hk2
   injection hk2 with _ hk2
   exact h2 hk2.symm)]
  exact hk2
 generalize hw3 : w2.setCell ⟨q, 1, none⟩ (.slice A1 (es ++ [(⟨c, nx, ck⟩ : dP)]).length F5) = w3 at hq3 hR3 hm3 hF3 ⊢;obtain ⟨w4, es4, c4, hmu, QZ, hk4, hf4⟩ := KV hm3 hk nx (.int .i64 (es.length : Nat));have q23 : w3.cell? ⟨q, 2, none⟩ = some (.map (some bm)) := (ae hq3 2).trans rfl;have hq4 := hf4.blk hm3 hq3;have Yd := aa.mk (Dr hf4 hm3 hR3);have VC := aa.mk (hF3.out.trans (Tu hf4 hm3 EZ));have q34 : w4.cell? ⟨q, 3, none⟩ = some (.int .i64 nx) := (ae hq4 3).trans rfl;have q44 : w4.cell? ⟨q, 4, none⟩ = some (.int .i64 ck) := (ae hq4 4).trans rfl;have f34 := ai hq4 3;have f44 := ai hq4 4;have VE := aa.mk hq4;have Hm4 := aa.mk QZ;clear hw3 hq3 hR3 hm3 hF3 hR2 hq2 VB hm2 hg2 hB2 hat hne acO q1 q4 b0 b1 b2 hqp hRp QY hBp hbs hmp acK acL acM Yc VA hq4 QZ hf4 hc1 hf1 acP hk;go_upto_region 4 with (fail)
 refine fu (n := 18) (S := fun w' => w'.cell? ⟨q, 3, none⟩ = some (.int .i64 nx) ∧ w'.cell? ⟨q, 4, none⟩ = some (.int .i64 ck)) (ds := [14, 17]) #[false, false, false, false, false, false, false, false, false, false, false, false, false, false, false, false, false, false] (by kernel_rfl) rfl rfl ⟨q34, q44⟩ (fun hHeld => ?_);refine dw pO.Vx pO.OY (fun dA ji => ?_);refine oq (fuel := 10) [(0, 38), (1, 39), (2, 40), (3, 41), (4, 42), (7, 45), (8, 46), (9, 47)] #[true, true, true, true, true, false, false, true, true, true, false, false, false, false, false, false, false, false] (jT dA.out _ _ _ (by kernel_rfl)) rfl (fun _ _ _ _ _ h => h) (a' := ?_) ?_ ?_;rotate_left
 ·iterate 8
   refine gI (v := ?_) (a1 := ?_) rfl rfl (Or.inl ⟨by rfl, ?_⟩) ?_ ?_;rotate_left 2
   ·intro w';go_simp;with_reducible rfl
   ·simp only [Act.put, List.setIfInBounds_toArray, List.set_cons_zero, List.set_cons_succ, bH, bI];rfl
  exact iD
 refine fG (fuel := 8) [(5, 43), (10, 48)] #[true, true, true, true, true, true, false, true, true, true, true, false, false, false, false, false, false, false] (df dA.out ji.out _ _ _ (by kernel_rfl)) rfl (fun _ _ _ _ _ h => h) hHeld (a' := ?_) ?_ ?_;rotate_left
 ·iterate 2
   refine bC (v := ?_) (a1 := ?_) rfl rfl (Or.inl ⟨by rfl, ?_⟩) ?_ ?_;rotate_left 2
   ·rintro w' ⟨s0, s1⟩;go_simp;with_reducible rfl
   ·simp only [Act.put, List.setIfInBounds_toArray, List.set_cons_zero, List.set_cons_succ, bH, bI];rfl
  exact chain_nil
 refine oq (fuel := 4) [(6, 44), (11, 49), (12, 50), (13, 51)] #[true, true, true, true, true, true, true, true, true, true, true, true, true, true, false, false, false, false] (jT dA.out _ _ _ (by kernel_rfl)) rfl (fun _ _ _ _ _ h => h) (a' := ?_) ?_ ?_;rotate_left
 ·iterate 4
   refine gI (v := ?_) (a1 := ?_) rfl rfl (Or.inl ⟨by rfl, ?_⟩) ?_ ?_;rotate_left 2
   ·intro w';go_simp;with_reducible rfl
   ·simp only [Act.put, List.setIfInBounds_toArray, List.set_cons_zero, List.set_cons_succ, bH, bI];rfl
  exact iD
 refine El (i := 14) (N := none) #[true, true, true, true, true, true, true, true, true, true, true, true, true, true, true, false, false, false] rfl rfl (dn dA.out (by kernel_rfl)) (by decide) (fun K hK => ?_);refine rV (w1 := w4.drew.setCell ⟨q, 3, none⟩ (.int .i64 (wrap64 (nx + 1)))) (by rfl) rfl ?_ ?_
 ·first | (go_simp; done) | (go_simp; rfl)
 refine hK.out _ _ ?_;clear hK K;refine oq (fuel := 1) [(15, 52), (16, 53)] #[true, true, true, true, true, true, true, true, true, true, true, true, true, true, true, true, true, false] (jT dA.out _ _ _ (by kernel_rfl)) rfl (fun _ _ _ _ _ h => h) (a' := ?_) ?_ ?_;rotate_left
 ·iterate 2
   refine gI (v := ?_) (a1 := ?_) rfl rfl (Or.inl ⟨by rfl, ?_⟩) ?_ ?_;rotate_left 2
   ·intro w';go_simp;with_reducible rfl
   ·simp only [Act.put, List.setIfInBounds_toArray, List.set_cons_zero, List.set_cons_succ, bH, bI];rfl
  exact iD
 refine El (i := 17) (N := none) #[true, true, true, true, true, true, true, true, true, true, true, true, true, true, true, true, true, true] rfl rfl (dn dA.out (by kernel_rfl)) (by decide) (fun K hK => ?_);refine rV (w1 := (w4.drew.setCell ⟨q, 3, none⟩ (.int .i64 (wrap64 (nx + 1)))).setCell ⟨q, 4, none⟩ (.int .i64 (wrap64 (ck + 1)))) (by rfl) rfl ?_ ?_
 ·first | (go_simp; done) | (go_simp; rfl)
 refine hK.out _ _ ?_;clear hK K;refine gH (dV dA.out (by kernel_rfl)) ?_;have Ye : ((w4.drew.setCell ⟨q, 3, none⟩ (.int .i64 (wrap64 (nx + 1)))).setCell ⟨q, 4, none⟩ (.int .i64 (wrap64 (ck + 1)))).heap[q]? = some (.cells #[uI, .slice A1 (es ++ [(⟨c, nx, ck⟩ : dP)]).length F5, .map (some bm), .int .i64 (wrap64 (nx + 1)), .int .i64 (wrap64 (ck + 1))] 135 (0, 0)) := by
  have h1 := gL (w := w4.drew) VE.out 3 (.int .i64 (wrap64 (nx + 1)));have h2 := gL h1 4 (.int .i64 (wrap64 (ck + 1)));simpa using h2
 have O3 := Kd.Ej (Kd.Ej (Kd.aaH Yd.out) (w := w4.drew) VE.out (by decide) 3 (.int .i64 (wrap64 (nx + 1)))) (gL (w := w4.drew) VE.out 3 (.int .i64 (wrap64 (nx + 1)))) (by decide) 4 (.int .i64 (wrap64 (ck + 1)));have hne5 : bm ≠ q := by rintro rfl; have h := Hm4.out; rw [VE.out] at h; cases h
 have Yf : ((w4.drew.setCell ⟨q, 3, none⟩ (.int .i64 (wrap64 (nx + 1)))).setCell ⟨q, 4, none⟩ (.int .i64 (wrap64 (ck + 1)))).heap[bm]? = some (.map es4 c4) :=
  (Below.heap_setCell _ _ _ _ hne5).trans ((Below.heap_setCell _ _ _ _ hne5).trans Hm4.out)
 have Js : vP base w ((w4.drew.setCell ⟨q, 3, none⟩ (.int .i64 (wrap64 (nx + 1)))).setCell ⟨q, 4, none⟩ (.int .i64 (wrap64 (ck + 1)))) := by
  refine ⟨((VC.out.below.drew).setCell hbq _).setCell hbq _, fun k cs t fr h1 h2 h3 => ?_⟩;have hk := VC.out.keep k cs t fr h1 h2 h3;have hkq : k ≠ q := by rintro rfl; rw [VE.out] at hk; injection hk with hk; injection hk with _ hk; exact h2 hk.symm
  exact (Below.heap_setCell _ _ _ _ hkq).trans ((Below.heap_setCell _ _ _ _ hkq).trans hk)
 have HQ5 : aa (QS base ((w4.drew.setCell ⟨q, 3, none⟩ (.int .i64 (wrap64 (nx + 1)))).setCell ⟨q, 4, none⟩ (.int .i64 (wrap64 (ck + 1)))) q (es ++ [(⟨c, nx, ck⟩ : dP)]) (wrap64 (nx + 1)) (wrap64 (ck + 1))) := ⟨⟨_, bm, es4, c4, Ye, hbq, O3, Yf, EZ, hk4⟩⟩;have Yg := aa.mk Js;clear Ye O3 Yf Js hne5 VC Yd VE Hm4 hmu q34 q44 f34 f44 q23 hk4;generalize ((w4.drew.setCell ⟨q, 3, none⟩ (.int .i64 (wrap64 (nx + 1)))).setCell ⟨q, 4, none⟩ (.int .i64 (wrap64 (ck + 1)))) = w5 at HQ5 Yg ⊢;go_wp2_with (first | (go_at_call 116; refine (Tv base q _ _ _ es.length _ HQ5.out (by simp) (by simp; omega)).mono ?_; rintro e w6 ⟨rfl, hQ6, hF6⟩; have HQ6 := aa.mk hQ6; have HF6 := aa.mk hF6; clear hQ6 hF6))
 go_ret;exact ⟨rfl, HQ6.out, Yg.out.trans HF6.out.f0⟩
set_option maxHeartbeats 4000000 in
theorem MU (base q : Nat) (nx ck : Int) (w : World) (h : QS base w q [] nx ck) :
  Calls Try.prog 112 #[.pointer (some ⟨q, 0, none⟩), .int .i64 0] w fun e w' => e = .returned (.tuple #[]) ∧ QS base w' q [] nx ck ∧ QF base q w w' := by
 go_enter Try.func112, Try.ntmps112
 go_wp2_with fail
 go_loopg [1] 1 (fun g v1 wr => v1 = .int .i64 0 ∧ aa (QS base wr q [] nx ck) ∧ aa (QF base q w wr))
 case atStart => exact ⟨rfl, ⟨h⟩, ⟨QF.refl _ _ _⟩⟩
 case round =>
  obtain ⟨rfl, HQ, HF⟩ := hrel;clear h;obtain ⟨wO, rfl⟩ : ∃ wO : World, wO = wr := ⟨_, rfl⟩;obtain ⟨gO, rfl⟩ : ∃ gO : Nat, gO = gk := ⟨_, rfl⟩;go_wp2_with fail
  go_loopg [4, 5] 1 (fun g v4 v5 wr => v4 = .int .i64 0 ∧ v5 = .int .i64 1 ∧ aa (Below wO.heap.size wO wr))
  case atStart => exact ⟨rfl, by go_num, ⟨Below.refl _ _⟩⟩
  case round =>
   obtain ⟨rfl, rfl, HB⟩ := hrel;have Dt := aa.mk (lL HQ.out HB.out);obtain ⟨A, c, hq1⟩ := MQ Dt.out;have hF1 := aa.mk (HF.out.trans (QF.of_below HB.out (vR HQ.out) (O0 HQ.out)));go_wp2;refine bodyPost_ret (results_none (by rfl) _ _ _) rfl ?_;exact ⟨rfl, Dt.out, hF1.out⟩
def r9 (es : List dP) : List dP := mZ (es.length - 1) ((nK es 0 ((es.length - 1 : Nat) : Int)).take (es.length - 1)) 0
theorem Ty (base q : Nat) (es : List dP) (nx ck : Int) (w : World) (h : QS base w q es nx ck) (hsz : es.length ≤ 1000000) :
  Calls Try.prog 112 #[.pointer (some ⟨q, 0, none⟩), .int .i64 0] w fun e w' => e = .returned (.tuple #[]) ∧ QS base w' q (mZ es.length es 0) nx ck ∧ QF base q w w' := by
 cases es with
 | nil => exact MU base q nx ck w h
 | cons e es => exact down_calls base q (e :: es) nx ck 0 w h (by simp) hsz
theorem Du {base q k j t : Nat} {w : World} {es : List dP} {nx ck : Int} {cs : Array Value} (h : QS base w q es nx ck) (hk : w.heap[k]? = some (.cells cs t (0, 0))) (h1 : t ≠ 135) (h2 : t ≠ 139) (u : Value) : QS base (w.setCell ⟨k, j, none⟩ u) q es nx ck := by
 obtain ⟨v, bm, qy, mc, hq, hbq, hR, hm, EZ, hks⟩ := h;have e1 : q ≠ k := by rintro rfl; rw [hq] at hk; injection hk with hk; injection hk with _ hk; exact h1 hk.symm
 have e2 : bm ≠ k := by rintro rfl; rw [hm] at hk; cases hk
 exact ⟨v, bm, qy, mc, (Below.heap_setCell w ⟨k, j, none⟩ u q e1).trans hq, hbq, Kd.Ej hR hk (fun x hx => by intro e; have hx' : x ∈ [139] := hx; rw [List.mem_singleton] at hx'; exact h2 (e.symm.trans hx')) j u, (Below.heap_setCell w ⟨k, j, none⟩ u bm e2).trans hm, EZ, hks⟩
theorem vP.set {base k j : Nat} {w w1 : World} (h : vP base w w1) (hk : w.heap.size ≤ k) (hb : base ≤ w.heap.size) (u : Value) : vP base w (w1.setCell ⟨k, j, none⟩ u) :=
 ⟨h.below.setCell (Nat.le_trans hb hk) u, fun i cs t fr h1 h2 h3 => (Below.heap_setCell w1 ⟨k, j, none⟩ u i (by have := bE h1; simp; omega)).trans (h.keep i cs t fr h1 h2 h3)⟩
theorem size_alloc (w : World) (o : Obj) : (w.alloc o).heap.size = w.heap.size + 1 := by show (w.heap.push o).size = _; simp
set_option maxHeartbeats 4000000 in
theorem pop_empty (base q : Nat) (nx ck : Int) (w : World) (h : QS base w q [] nx ck) :
  Calls Try.prog 105 #[.pointer (some ⟨q, 0, none⟩)] w fun e w' => e = .returned (.tuple #[.agg #[.int .i64 0, .int .i64 0, .int .i64 0], .bool false]) ∧ QS base w' q [] nx ck ∧ vP base w w' := by
 go_enter Try.func105, Try.ntmps105
 have hB0 : Below w.heap.size w (w.alloc (.cells #[.int .i64 0, .int .i64 0, .int .i64 0] 124)) := dY (Below.refl _ _) _;go_upto_region 1 with (fail)
 have Dt := aa.mk (lL h hB0);have hx1 := heap_alloc_new w (.cells #[.int .i64 0, .int .i64 0, .int .i64 0] 124);obtain ⟨A, c, hq1⟩ := MQ Dt.out;have HB := aa.mk hB0;have hbs := vR h;clear hB0 h;generalize w.alloc (.cells #[.int .i64 0, .int .i64 0, .int .i64 0] 124) = wA at *;have hx2 : ∀ o, (wA.alloc o).heap[w.heap.size]? = some (.cells #[.int .i64 0, .int .i64 0, .int .i64 0] 124 (0, 0)) := fun o => aC hx1 (dY (Below.refl _ _) o)
 have x0 : ∀ o, (wA.alloc o).cell? ⟨w.heap.size, 0, none⟩ = some (.int .i64 0) := fun o => (ae (hx2 o) 0).trans rfl
 have x1 : ∀ o, (wA.alloc o).cell? ⟨w.heap.size, 1, none⟩ = some (.int .i64 0) := fun o => (ae (hx2 o) 1).trans rfl
 have x2 : ∀ o, (wA.alloc o).cell? ⟨w.heap.size, 2, none⟩ = some (.int .i64 0) := fun o => (ae (hx2 o) 2).trans rfl
 have f0 : ∀ o, (wA.alloc o).frozen? ⟨w.heap.size, 0, none⟩ = false := fun o => ai (hx2 o) 0
 have f1 : ∀ o, (wA.alloc o).frozen? ⟨w.heap.size, 1, none⟩ = false := fun o => ai (hx2 o) 1
 have f2 : ∀ o, (wA.alloc o).frozen? ⟨w.heap.size, 2, none⟩ = false := fun o => ai (hx2 o) 2
 have HX2 := aa.mk hx2;clear hx2 hx1;go_wp2;have h3 := gL (gL (gL (HX2.out (.cells #[.int .i64 0, .int .i64 0, .int .i64 0] 124)) 0 (.int .i64 0)) 1 (.int .i64 0)) 2 (.int .i64 0);refine bodyPost_ret (jr rfl _ _ w.heap.size 124 #[.int .i64 0, .int .i64 0, .int .i64 0] (0, 0) _ rfl (by simpa using h3) Try.underlying124 rfl (by kernel_rfl)) rfl ?_;refine ⟨rfl, ?_, ?_⟩
 ·have h0 := HX2.out (.cells #[.int .i64 0, .int .i64 0, .int .i64 0] 124);exact Du (Du (Du (lL Dt.out (dY (Below.refl _ _) _)) h0 (by decide) (by decide) _) (gL h0 0 _) (by decide) (by decide) _) (gL (gL h0 0 _) 1 _) (by decide) (by decide) _
 ·exact (((vP.of_below (dY HB.out _) hbs).set (Nat.le_refl _) hbs _).set (Nat.le_refl _) hbs _).set (Nat.le_refl _) hbs _
def yl.T3 : Bool × List (List Nat × List Nat) := (true, [([], []), ([0], [0]), ([1], [1]), ([2], [2]), ([3], [3]), ([4], [4]), ([], []), ([6], [6]), ([7], [7]), ([8], [8]), ([9], [9]), ([10], [10]), ([], []), ([12, 5, 0, 1, 2, 3, 4, 5, 12], [5, 12]), ([11, 13, 0, 1, 2, 3, 4, 5, 6, 7, 8, 9, 10, 11, 12, 13], [11])])
def yl.B3 : List Nat := [0, 1, 3, 7, 15, 31, 0, 64, 192, 448, 960, 1984, 0, 4159, 16383]
theorem yl.aal : iC .any (opsOf Try.f105 3) = yl.T3 := by kernel_rfl
theorem yl.Tz : fo yl.T3.2 yl.B3 = true := by kernel_rfl
def yl.T6 : Bool × List (List Nat × List Nat) := (true, [([], []), ([0], [0]), ([1], [1]), ([2], [2]), ([], []), ([4], [4]), ([3, 5], [3, 5])])
def yl.B6 : List Nat := [0, 1, 3, 7, 0, 16, 63]
theorem yl.Jt : iC .any (opsOf Try.f105 6) = yl.T6 := by kernel_rfl
theorem yl.axs : fo yl.T6.2 yl.B6 = true := by kernel_rfl
set_option maxRecDepth 100000 in
set_option maxHeartbeats 8000000 in
theorem TA (base q : Nat) (e0 : dP) (es : List dP) (nx ck : Int) (w : World) (h : QS base w q (e0 :: es) nx ck) (hsz : es.length < 1000000) :
  Calls Try.prog 105 #[.pointer (some ⟨q, 0, none⟩)] w fun e w' => e = .returned (.tuple #[.agg #[.int .i64 e0.f0.f0, .int .i64 e0.f0.f1.f0, .int .i64 e0.f0.f1.f1], .bool true]) ∧
   QS base w' q (r9 (e0 :: es)) nx ck ∧ vP base w w' := by
 go_enter Try.func105, Try.ntmps105
 have hB0 : Below w.heap.size w (w.alloc (.cells #[.int .i64 0, .int .i64 0, .int .i64 0] 124)) := dY (Below.refl _ _) _;go_upto_region 1 with (fail)
 have Dt := aa.mk (lL h hB0);have HX1 := aa.mk (heap_alloc_new w (.cells #[.int .i64 0, .int .i64 0, .int .i64 0] 124));have HB1 := aa.mk hB0;have hbs := vR h;clear hB0 h;generalize w.alloc (.cells #[.int .i64 0, .int .i64 0, .int .i64 0] 124) = wA at *;obtain ⟨v, bm, qy, mc, hq, hbq, hR, hm, EZ, hk⟩ := Dt.out;obtain ⟨g, cap, rfl, hbg, hgl, cells, hgc⟩ := Kd.Ms hR (by simp);have hlen : ((e0 :: es).length) = es.length + 1 := rfl;rw [hlen] at hq hR;have q1 : wA.cell? ⟨q, 1, none⟩ = some (.slice (some ⟨g, 0, none⟩) (es.length + 1) cap) := (ae hq 1).trans rfl;have hne0 : (((es.length + 1 : Nat) : Int) == 0) = false := by simp; omega
 obtain ⟨c0, c1, c2, c3, c4⟩ := uJ hR 0 (by omega) (by simp only [List.length_cons]; omega);rw [show eO (e0 :: es) 0 = e0 from rfl] at c0 c1 c2 c3 c4;simp only [Int.toNat_zero, Nat.zero_mul, Nat.zero_add] at c0 c1 c2 c3 c4;go_upto_region 3 with (fail)
 refine fu (n := 15) (S := fun w' => w'.cell? ⟨q, 1, none⟩ = some (.slice (some ⟨g, 0, none⟩) (es.length + 1) cap) ∧ w'.cell? ⟨g, 0, none⟩ = some (.int .i64 e0.f0.f0) ∧ w'.cell? ⟨g, 1, none⟩ = some (.int .i64 e0.f0.f1.f0) ∧ w'.cell? ⟨g, 2, none⟩ = some (.int .i64 e0.f0.f1.f1) ∧ w'.cell? ⟨g, 3, none⟩ = some (.int .i64 e0.f1) ∧ w'.cell? ⟨g, 4, none⟩ = some (.int .i64 e0.f2)) (ds := []) #[false, false, false, false, false, false, false, false, false, false, false, false, false, false, false] (by kernel_rfl) rfl rfl ⟨q1, c0, c1, c2, c3, c4⟩ (fun hHeld => ?_);refine dw yl.aal yl.Tz (fun dA ji => ?_);refine fG (fuel := 3) [(0, 15), (1, 16), (2, 17), (3, 18), (4, 19), (5, 20), (6, 21), (7, 22), (8, 23), (9, 24), (10, 25), (11, 26)] #[true, true, true, true, true, true, true, true, true, true, true, true, false, false, false] (df dA.out ji.out _ _ _ (by kernel_rfl)) rfl (fun _ _ _ _ _ h => h) hHeld (a' := ?_) ?_ ?_;rotate_left
 ·iterate 12
   refine bC (v := ?_) (a1 := ?_) rfl rfl (Or.inl ⟨by rfl, ?_⟩) ?_ ?_;rotate_left 2
   ·rintro w' ⟨s0, s1, s2, s3, s4, s5⟩;go_simp;with_reducible rfl
   ·simp only [Act.put, List.setIfInBounds_toArray, List.set_cons_zero, List.set_cons_succ, bH, bI];rfl
  exact chain_nil
 refine fT (i := 12) (N := some 4) #[true, true, true, true, true, true, true, true, true, true, true, true, true, false, false] rfl rfl (dn dA.out (by kernel_rfl)) (by decide) (fun K hK => ?_);refine pY (w1 := wA.drew.alloc (.cells #[.int .i64 0, .int .i64 0, .int .i64 0, .int .i64 0, .int .i64 0] 139)) (v := .pointer (some ⟨wA.heap.size, 0, none⟩)) (by rfl) rfl ?_ ?_
 ·first | (go_simp; done) | (go_simp; rfl)
 refine hK.out _ _ ⟨ma hHeld.1 _, ma hHeld.2.1 _, ma hHeld.2.2.1 _, ma hHeld.2.2.2.1 _, ma hHeld.2.2.2.2.1 _, ma hHeld.2.2.2.2.2 _⟩ (fun hHeld => ?_);clear hK K;refine bS (a' := ?_) ?_ ?_;rotate_left
 ·show Act.put _ (some 4) _ = _;simp only [Act.put, List.setIfInBounds_toArray, List.set_cons_zero, List.set_cons_succ, bH, bI];rfl
 refine fT (i := 13) (N := none) #[true, true, true, true, true, true, true, true, true, true, true, true, true, true, false] rfl rfl (dn dA.out (by kernel_rfl)) (by decide) (fun K hK => ?_);refine rV (w1 := wA.drew.alloc (.cells #[.int .i64 e0.f0.f0, .int .i64 e0.f0.f1.f0, .int .i64 e0.f0.f1.f1, .int .i64 e0.f1, .int .i64 e0.f2] 139)) (by rfl) rfl ?_ ?_
 ·first | (go_simp; done) | (go_simp; rfl)
 refine hK.out _ _ ⟨ma q1 _, ma c0 _, ma c1 _, ma c2 _, ma c3 _, ma c4 _⟩ (fun hHeld => ?_);clear hK K;refine fG (fuel := 0) [(14, 5)] #[true, true, true, true, true, true, true, true, true, true, true, true, true, true, true] (df dA.out ji.out _ _ _ (by kernel_rfl)) rfl (fun _ _ _ _ _ h => h) hHeld (a' := ?_) ?_ ?_;rotate_left
 ·iterate 1
   refine bC (v := ?_) (a1 := ?_) rfl rfl (Or.inl ⟨by rfl, ?_⟩) ?_ ?_;rotate_left 2
   ·rintro w' ⟨s0, s1, s2, s3, s4, s5⟩;go_simp;with_reducible rfl
   ·simp only [Act.put, List.setIfInBounds_toArray, List.set_cons_zero, List.set_cons_succ, bH, bI];rfl
  exact chain_nil
 refine gH (dV dA.out (by kernel_rfl)) ?_;have HQB := aa.mk (lL (amf Dt.out) (dY (Below.refl _ _) (.cells #[.int .i64 e0.f0.f0, .int .i64 e0.f0.f1.f0, .int .i64 e0.f0.f1.f1, .int .i64 e0.f1, .int .i64 e0.f2] 139)));have HbB : aa ((wA.drew.alloc (.cells #[.int .i64 e0.f0.f0, .int .i64 e0.f0.f1.f0, .int .i64 e0.f0.f1.f1, .int .i64 e0.f1, .int .i64 e0.f2] 139)).heap[wA.heap.size]? = some (.cells #[.int .i64 e0.f0.f0, .int .i64 e0.f0.f1.f0, .int .i64 e0.f0.f1.f1, .int .i64 e0.f1, .int .i64 e0.f2] 139 (0, 0))) := ⟨heap_alloc_new wA.drew _⟩;have HXB := aa.mk (aC (w := wA.drew) HX1.out (dY (Below.refl _ _) (.cells #[.int .i64 e0.f0.f0, .int .i64 e0.f0.f1.f0, .int .i64 e0.f0.f1.f1, .int .i64 e0.f1, .int .i64 e0.f2] 139)));have HFB := aa.mk (vP.of_below (dY (dM HB1.out) (.cells #[.int .i64 e0.f0.f0, .int .i64 e0.f0.f1.f0, .int .i64 e0.f0.f1.f1, .int .i64 e0.f1, .int .i64 e0.f2] 139)) hbs);have hrB : F4 (wA.drew.alloc (.cells #[.int .i64 e0.f0.f0, .int .i64 e0.f0.f1.f0, .int .i64 e0.f0.f1.f1, .int .i64 e0.f1, .int .i64 e0.f2] 139)) q = some g := Aj (aC (w := wA.drew) hq (dY (Below.refl _ _) _)) rfl;have HnB : aa (some wA.heap.size ≠ F4 (wA.drew.alloc (.cells #[.int .i64 e0.f0.f0, .int .i64 e0.f0.f1.f0, .int .i64 e0.f0.f1.f1, .int .i64 e0.f1, .int .i64 e0.f2] 139)) q) := ⟨by rw [hrB]; intro e; injection e with e; omega⟩;have hws : w.heap.size < wA.heap.size := bE HX1.out;clear Dt HX1 HB1 hq hR hm hk hgc hHeld q1 c0 c1 c2 c3 c4 hrB hbg hgl hne0;generalize (wA.drew.alloc (.cells #[.int .i64 e0.f0.f0, .int .i64 e0.f0.f1.f0, .int .i64 e0.f0.f1.f1, .int .i64 e0.f1, .int .i64 e0.f2] 139)) = wB at *;generalize wA.heap.size = b at *;have hwr : wrap64 (es.length : Int) = (es.length : Int) := by unfold wrap64; omega
 rw [hwr];go_wp2_with (first | (go_at_call 111; refine (vQ base q (e0 :: es) nx ck 0 (es.length : Int) wB HQB.out (by omega) (by simp only [List.length_cons]; omega) (by omega) (by simp only [List.length_cons]; omega)).mono ?_; rintro e w4 ⟨rfl, hQ4, VC⟩; obtain ⟨v4, bm4, acQ, mc4, hq4, aow, Yd, QZ, acR, hk4⟩ := hQ4; obtain ⟨g4, cap4, rfl, aox, aoy, aiq, air⟩ := Kd.Ms Yd (by rw [dh]; simp only [List.length_cons]; omega); rw [dh, hlen] at hq4 Yd; have q41 : w4.cell? ⟨q, 1, none⟩ = some (.slice (some ⟨g4, 0, none⟩) (es.length + 1) cap4) := (ae hq4 1).trans rfl; have hcap : es.length + 1 ≤ cap4 := (Kd.dD Yd).2.1; have q4f := ai hq4 1; have Ju := aa.mk (VC.rows _ _ _ HbB.out HnB.out); have HX4 := aa.mk (VC.f0.keep _ _ _ _ HXB.out (by decide) (by decide)); have HNB : some b ≠ (Value.slice (some ⟨g4, 0, none⟩) es.length cap4).ownBlock := fun e => HnB.out (e.trans ((Aj hq4 rfl).symm.trans VC.row)); have HF4 := aa.mk (HFB.out.trans VC.f0); have HQ4 := aa.mk hq4; have HR4 := aa.mk Yd; have HM4 := aa.mk QZ; have HK4 := aa.mk hk4; clear hq4 Yd VC QZ hk4 HQB HbB HXB HFB HnB air))
 have hx4 := HX4.out;have hb4 := Ju.out;have hq4 := HQ4.out;have QZ := HM4.out;have acS : b ≠ q := Fx hb4 hq4 (by decide);have acT : w.heap.size ≠ q := Fx hx4 hq4 (by decide);have acU : bm4 ≠ q := by rintro rfl; rw [hq4] at QZ; cases QZ
 have O3 := aa.mk (Kd.Ej (Kd.ZA HR4.out (m := es.length) (by rw [dh]; simp only [List.length_cons]; omega)) hq4 (by decide) 1 (.slice (some ⟨g4, 0, none⟩) es.length cap4));have Ye := gL hq4 1 (.slice (some ⟨g4, 0, none⟩) es.length cap4);have hb5 := (Below.heap_setCell w4 ⟨q, 1, none⟩ (.slice (some ⟨g4, 0, none⟩) es.length cap4) b acS).trans hb4;have hx5 := (Below.heap_setCell w4 ⟨q, 1, none⟩ (.slice (some ⟨g4, 0, none⟩) es.length cap4) w.heap.size acT).trans hx4;have Yf := (Below.heap_setCell w4 ⟨q, 1, none⟩ (.slice (some ⟨g4, 0, none⟩) es.length cap4) bm4 acU).trans QZ;have Js : vP base w (w4.setCell ⟨q, 1, none⟩ (.slice (some ⟨g4, 0, none⟩) es.length cap4)) := by
  refine ⟨HF4.out.below.setCell hbq _, fun k cs t fr h1 h2 h3 => ?_⟩;have hk := HF4.out.keep k cs t fr h1 h2 h3;have hkq : k ≠ q := by rintro rfl; rw [hq4] at hk; injection hk with hk; injection hk with _ hk; exact h2 hk.symm
  exact (Below.heap_setCell _ _ _ _ hkq).trans hk
 have Yg := aa.mk Js;clear hq4 QZ hx4 hb4 Ju HX4 HF4 HQ4 HR4 HM4 Js q41 q4f acS acT acU;generalize (w4.setCell ⟨q, 1, none⟩ (.slice (some ⟨g4, 0, none⟩) es.length cap4)) = w5 at *;have aap : w5.heap[q]? = some (.cells #[uI, .slice (some ⟨g4, 0, none⟩) es.length cap4, .map (some bm4), .int .i64 nx, .int .i64 ck] 135 (0, 0)) := by simpa using Ye
 clear Ye;have q26 : w5.drew.cell? ⟨q, 2, none⟩ = some (.map (some bm4)) := by show w5.cell? ⟨q, 2, none⟩ = _; rw [ae aap 2]; rfl
 have b16 : w5.drew.cell? ⟨b, 3, none⟩ = some (.int .i64 e0.f1) := by show w5.cell? ⟨b, 3, none⟩ = _; rw [ae hb5 3]; rfl
 have hmD : w5.drew.heap[bm4]? = some (.map acQ mc4) := Yf;obtain ⟨W6, es6, c6, hdel, hm6, hk6, Yh⟩ := Tt hmD HK4.out e0.f1 0;have hq6 := Yh.blk hmD (show w5.drew.heap[q]? = _ from aap);have hb6 := Yh.blk hmD (show w5.drew.heap[b]? = _ from hb5);have hx6 := Yh.blk hmD (show w5.drew.heap[w.heap.size]? = _ from hx5);have HR6 := aa.mk (Dr Yh hmD (Kd.aaH O3.out));have HF6 := aa.mk (Yg.out.drew.trans (Tu Yh hmD acR));have HQ6 : aa (QS base W6 q ((nK (e0 :: es) 0 (es.length : Int)).take es.length) nx ck) := ⟨⟨_, bm4, es6, c6, hq6, hbq, HR6.out, hm6, acR, hk6⟩⟩;have hnr : some b ≠ (Value.slice (some ⟨g4, 0, none⟩) es.length cap4).ownBlock := HNB;have Hb6 := aa.mk hb6;have Hx6 := aa.mk hx6;go_upto_region 6 with (fail)
 refine fu (n := 7) (S := fun w' => w'.cell? ⟨q, 2, none⟩ = some (.map (some bm4)) ∧ w'.cell? ⟨b, 3, none⟩ = some (.int .i64 e0.f1)) (ds := []) #[false, false, false, false, false, false, false] (by kernel_rfl) rfl rfl ⟨q26, b16⟩ (fun hHeld => ?_);refine dw yl.Jt yl.axs (fun dA ji => ?_);refine fG (fuel := 1) [(0, 39), (1, 40), (2, 41), (3, 42), (4, 43), (5, 44)] #[true, true, true, true, true, true, false] (df dA.out ji.out _ _ _ (by kernel_rfl)) rfl (fun _ _ _ _ _ h => h) hHeld (a' := ?_) ?_ ?_;rotate_left
 ·iterate 6
   refine bC (v := ?_) (a1 := ?_) rfl rfl (Or.inl ⟨by rfl, ?_⟩) ?_ ?_;rotate_left 2
   ·rintro w' ⟨s0, s1⟩;go_simp;with_reducible rfl
   ·simp only [Act.put, List.setIfInBounds_toArray, List.set_cons_zero, List.set_cons_succ, bH, bI];rfl
  exact chain_nil
 refine fT (i := 6) (N := none) #[true, true, true, true, true, true, true] rfl rfl (dn dA.out (by kernel_rfl)) (by decide) (fun K hK => ?_);refine pY (w1 := W6) (v := .tuple #[]) (by rfl) rfl ?_ ?_
 ·unfold execOp;simp [resolve, invoke, Go.builtin, Act.eval, hdel]
 refine hK.out _ _ ⟨Yh.cell hmD hHeld.1, Yh.cell hmD hHeld.2⟩ (fun hHeld => ?_);clear hK K;refine gH (dV dA.out (by kernel_rfl)) ?_;have hr6 := Aj hq6 rfl;have Hr6 : aa (some b ≠ F4 W6 q) := ⟨by rw [hr6]; exact hnr⟩;clear aap hb5 hx5 Yf O3 Yg hq6 hb6 hx6 hm6 hk6 Yh HR6 hnr HNB q26 b16 hmD hdel hr6 HK4 hHeld;have hlt : ((nK (e0 :: es) 0 (es.length : Int)).take es.length).length = es.length := by rw [List.length_take, dh]; simp only [List.length_cons]; omega
 go_wp2_with (first | (go_at_call 112; refine (Ty base q _ nx ck W6 HQ6.out (by omega)).mono ?_; rintro e w7 ⟨rfl, hQ7, hF7⟩; have HQ7 := aa.mk hQ7; have Yi := aa.mk (HF6.out.trans hF7.f0); have ak := hF7.rows _ _ _ Hb6.out Hr6.out; have hx7 := hF7.f0.keep _ _ _ _ Hx6.out (by decide) (by decide); have aoC : b ≠ w.heap.size := Fx ak hx7 (by decide); have b0 : w7.cell? ⟨b, 0, none⟩ = some (.int .i64 e0.f0.f0) := (ae ak 0).trans rfl; have b1 : w7.cell? ⟨b, 1, none⟩ = some (.int .i64 e0.f0.f1.f0) := (ae ak 1).trans rfl; have b2 : w7.cell? ⟨b, 2, none⟩ = some (.int .i64 e0.f0.f1.f1) := (ae ak 2).trans rfl; have x0 : w7.cell? ⟨w.heap.size, 0, none⟩ = some (.int .i64 0) := (ae hx7 0).trans rfl; have x1 : w7.cell? ⟨w.heap.size, 1, none⟩ = some (.int .i64 0) := (ae hx7 1).trans rfl; have x2 : w7.cell? ⟨w.heap.size, 2, none⟩ = some (.int .i64 0) := (ae hx7 2).trans rfl; have f0 := ai hx7 0; have f1 := ai hx7 1; have f2 := ai hx7 2; have HX7 := aa.mk hx7; clear hQ7 hF7 ak hx7 HQ6 HF6 Hb6 Hx6 Hr6))
 have h3 := gL (gL (gL HX7.out 0 (.int .i64 e0.f0.f0)) 1 (.int .i64 e0.f0.f1.f0)) 2 (.int .i64 e0.f0.f1.f1);refine bodyPost_ret (jr rfl _ _ w.heap.size 124 #[.int .i64 e0.f0.f0, .int .i64 e0.f0.f1.f0, .int .i64 e0.f0.f1.f1] (0, 0) _ rfl (by simpa using h3) Try.underlying124 rfl (by kernel_rfl)) rfl ?_;refine ⟨rfl, ?_, ?_⟩
 ·have h := HQ7.out;rw [hlt] at h;exact Du (Du (Du h HX7.out (by decide) (by decide) _) (gL HX7.out 0 _) (by decide) (by decide) _) (gL (gL HX7.out 0 _) 1 _) (by decide) (by decide) _
 ·exact ((Yi.out.set (Nat.le_refl _) hbs _).set (Nat.le_refl _) hbs _).set (Nat.le_refl _) hbs _
def xG (a b : dK) : dK := ⟨mn (wrap64 (a.f0 + b.f0)) 1099511627776, mn (wrap64 (a.f1 + b.f1)) 1099511627776⟩
def TB (a : dK) : dK := if a.f0 = 1099511627776 then ⟨1099511627776, 0⟩ else a
def aqp (cost : Int) (l : List dK) : dK := TB (l.foldl xG ⟨mn cost 1099511627776, 1⟩)
theorem uK (l : List dK) : ∀ (k i : Nat) (a : dK), i ≤ l.length → l.length < i + k → l.length ≤ 1000000 → bU.l0 k l (l.length : Int) (i : Int) a.f0 a.f1 = some ((TB ((l.drop i).foldl xG a)).f0, (TB ((l.drop i).foldl xG a)).f1)
 | 0, i, a, h1, h2, _ => by omega
 | k + 1, i, a, h1, h2, h3 => by
  unfold bU.l0;by_cases h : i < l.length
  ·rw [if_pos (by omega), if_pos (by omega), if_pos (by omega)];have hw : wrap64 ((i : Int) + 1) = ((i + 1 : Nat) : Int) := by unfold wrap64; omega
   have hd : l.drop i = bJ l (i : Int) :: l.drop (i + 1) := by
    rw [List.drop_eq_getElem_cons h];simp [bJ, List.getD_eq_getElem?_getD, List.getElem?_eq_getElem h]
   rw [hw, hd, List.foldl_cons];exact uK l k (i + 1) (xG a (bJ l (i : Int))) (by omega) (by omega) h3
  ·have hi : i = l.length := by omega
   subst hi;rw [if_neg (by omega), List.drop_length, List.foldl_nil];unfold TB;split <;> rfl
theorem uL (cost : Int) (l : List dK) (h : l.length ≤ 1000000) : bU.f (l.length + 1) cost l = some ((aqp cost l).f0, (aqp cost l).f1) := by
 have := uK l (l.length + 1) 0 ⟨mn cost 1099511627776, 1⟩ (by omega) (by omega) h;simpa [bU.f, aqp] using this
section
variable {W w1 : World} {base g n cap : Nat} {ok : Nat → Prop}
theorem at1 {xs : List dK} (h : Kd.R xA 34 W base ok (.slice (some ⟨g, 0, none⟩) n cap) xs) (i : Int) (h0 : 0 ≤ i) (h1 : i < n) (x : dK) :
  Kd.R xA 34 ((W.setCell ⟨g, i.toNat * 2, none⟩ (.int .i64 x.f0)).setCell ⟨g, i.toNat * 2 + 1, none⟩ (.int .i64 x.f1)) base ok (.slice (some ⟨g, 0, none⟩) n cap) (xs.set i.toNat x) ∧
   W.grownBy ((W.setCell ⟨g, i.toNat * 2, none⟩ (.int .i64 x.f0)).setCell ⟨g, i.toNat * 2 + 1, none⟩ (.int .i64 x.f1)) (some g) := by
 obtain ⟨c, hcl, hM, hcc, hfz⟩ := Kd.Df h z34 i h0 h1;have hs : xA.sz = 2 := rfl;rw [hs] at hcl;exact Kd.Sm (d := xA) h i h0 h1 (c := c) (jv := [.int .i64 x.f0, .int .i64 x.f1]) (j := 0) (by rw [hcl]; rfl) (by simpa [hs] using hcc) (by simp [hs]) (x' := x) (lV := fun k => ok k ∧ k ≠ g) (by
  have e : c.drop 2 = [] := List.drop_eq_nil_of_le (by omega);simpa [e] using vL W base (fun k => ok k ∧ k ≠ g) x) (fun k hk => hk)
theorem ng {xs : List dK} (h : Kd.R xA 34 W base ok (.slice (some ⟨g, 0, none⟩) n cap) xs) (i : Int) (h0 : 0 ≤ i) (h1 : i < n) :
  W.cell? ⟨g, i.toNat * 2, none⟩ = some (.int .i64 (bJ xs i).f0) ∧ W.cell? ⟨g, i.toNat * 2 + 1, none⟩ = some (.int .i64 (bJ xs i).f1) ∧ W.frozen? ⟨g, i.toNat * 2, none⟩ = false ∧ W.frozen? ⟨g, i.toNat * 2 + 1, none⟩ = false := by
 obtain ⟨hn, hc, hC⟩ := Kd.dD h;obtain ⟨ad, e, c0, c1⟩ := aRX hC i h0 (by omega);obtain rfl : (⟨g, 0, none⟩ : Addr) = ad := by injection e
 rw [add_plain] at c0 c1;obtain ⟨c, hcl, hM, hcc, hfz⟩ := Kd.Df h z34 i h0 h1;exact ⟨c0, c1, hfz 0, hfz 1⟩
end
theorem sW {α : Type} {d : Kd α} {e base b : Nat} {w : World} {ok : Nat → Prop} {v : Value} {xs : List α} (h : d.R e w base ok v xs) (hb : v.ownBlock = some b) : ∃ cap, v = .slice (some ⟨b, 0, none⟩) xs.length cap := by
 obtain ⟨_, inner, ho, hr⟩ := h;rcases ho.2 with ⟨rfl, _⟩ | ⟨g, cap, cur, rfl, _⟩
 ·simp [Value.ownBlock] at hb
 ·obtain rfl : g = b := by simpa [Value.ownBlock] using hb
  exact ⟨cap, rfl⟩
def tailV (vs : List dK) (l : List Int) : List dK := l.map (bJ vs)
theorem Jv {k : IntKind} {w : World} {A : Option Addr} {n : Nat} {xs : List Int} (h : Kd.C (Kd.int k) w A n xs) (i : Nat) (hi : i < n) : ∃ ad, A = some ad ∧ w.cell? (ad.add i) = some (.int k (xs.getD i 0)) := by
 obtain ⟨ad, c, e, _, hK, hc0⟩ := Kd.rU h 0 (i : Int) (by omega) (by omega);obtain rfl : c = [.int k (xs.getD i 0)] := hK;refine ⟨ad, e, ?_⟩;have := hc0 0 _ rfl;simpa [Kd.int, Kd.scalar] using this
def zz (vs : List dK) (l : List Int) (i : Nat) : List dK := tailV vs (l.take i) ++ List.replicate (l.length - i) z34
theorem Q3 (vs : List dK) (l : List Int) (i : Nat) (hi : i < l.length) : (zz vs l i).set i (bJ vs (l.getD i 0)) = zz vs l (i + 1) := by
 unfold zz tailV;have h1 : (List.map (bJ vs) (l.take i)).length = i := by rw [List.length_map, List.length_take]; omega
 rw [List.set_append_right _ _ (by omega), h1, Nat.sub_self, show l.length - i = (l.length - (i + 1)) + 1 by omega, List.replicate_succ, List.set_cons_zero, List.take_succ_eq_append_getElem hi, List.map_append];simp [List.getD_eq_getElem?_getD, List.getElem?_eq_getElem hi]
theorem Q4 (vs : List dK) (l : List Int) : zz vs l l.length = tailV vs l := by simp [zz]
theorem MV (vs : List dK) (l : List Int) : zz vs l 0 = List.replicate l.length z34 := by simp [zz, tailV]
theorem VF (vs : List dK) (l : List Int) (i : Nat) (hi : i ≤ l.length) : (zz vs l i).length = l.length := by simp [zz, tailV]; omega
set_option maxRecDepth 100000 in
set_option maxHeartbeats 8000000 in
theorem zA (s : Nat) (vs : List dK) (Av : Option Addr) (cv : Nat) (e : dO) (A1 : Option Addr) (c1 : Nat) (w : World) (hs : w.cell? ⟨s, 2, none⟩ = some (.slice Av vs.length cv)) (hv : Kd.C xA w Av vs.length vs)
  (Da : Kd.C (Kd.int .i64) w A1 e.f1.length e.f1) (hr : ∀ t, t ∈ e.f1 → 0 ≤ t ∧ t < (vs.length : Int)) (hl : e.f1.length ≤ 1000000) :
  Calls Try.prog 107 #[.pointer (some ⟨s, 0, none⟩), .agg #[.int .i64 e.f0, .slice A1 e.f1.length c1, .int .i64 e.f2, .int .i64 e.f3.f0, .int .i64 e.f3.f1]] w fun x w' =>
   x = .returned (.agg #[.int .i64 (aqp e.f2 (tailV vs e.f1)).f0, .int .i64 (aqp e.f2 (tailV vs e.f1)).f1]) ∧ Below w.heap.size w w' := by
 go_enter Try.func107, Try.ntmps107
 go_upto_region 1 with (fail)
 have hB0 : Below w.heap.size w ((w.alloc (.cells #[.int .i64 e.f0, .slice A1 e.f1.length c1, .int .i64 e.f2, .int .i64 e.f3.f0, .int .i64 e.f3.f1] 54)).alloc (.cells #[.int .i64 0, .int .i64 0] 34)) := dY (dY (Below.refl _ _) _) _;have hb0 := at0 w (.cells #[.int .i64 e.f0, .slice A1 e.f1.length c1, .int .i64 e.f2, .int .i64 e.f3.f0, .int .i64 e.f3.f1] 54) (.cells #[.int .i64 0, .int .i64 0] 34);have hx0 := Ah w (.cells #[.int .i64 e.f0, .slice A1 e.f1.length c1, .int .i64 e.f2, .int .i64 e.f3.f0, .int .i64 e.f3.f1] 54) (.cells #[.int .i64 0, .int .i64 0] 34);have hb1 : ((w.alloc (.cells #[.int .i64 e.f0, .slice A1 e.f1.length c1, .int .i64 e.f2, .int .i64 e.f3.f0, .int .i64 e.f3.f1] 54)).alloc (.cells #[.int .i64 0, .int .i64 0] 34)).heap[w.heap.size]? = some (.cells #[.int .i64 e.f0, .slice A1 e.f1.length c1, .int .i64 e.f2, .int .i64 e.f3.f0, .int .i64 e.f3.f1] 54 (0, 0)) := hb0;have hx1 : ((w.alloc (.cells #[.int .i64 e.f0, .slice A1 e.f1.length c1, .int .i64 e.f2, .int .i64 e.f3.f0, .int .i64 e.f3.f1] 54)).alloc (.cells #[.int .i64 0, .int .i64 0] 34)).heap[w.heap.size + 1]? = some (.cells #[.int .i64 0, .int .i64 0] 34 (0, 0)) := hx0;clear hb0 hx0;generalize ((w.alloc (.cells #[.int .i64 e.f0, .slice A1 e.f1.length c1, .int .i64 e.f2, .int .i64 e.f3.f0, .int .i64 e.f3.f1] 54)).alloc (.cells #[.int .i64 0, .int .i64 0] 34)) = wA at *;have HB := aa.mk hB0;have HV := aa.mk hv;have HC := aa.mk Da;have HR := aa.mk hr;have aoD := bE hx1;have Hb := aa.mk hb1;have Hx := aa.mk hx1;have HS := aa.mk hs;have b1 : wA.cell? ⟨w.heap.size, 1, none⟩ = some (.slice A1 e.f1.length c1) := (ae hb1 1).trans rfl;clear hB0 hb1 hx1 hv Da hr hs;go_upto_region 2 with (first | ((with_reducible refine bM (N := 11) rfl ?_); refine Kd.I7 xA w.heap.size 34 rfl (N := 11) rfl 43 _ _ rfl (e.f1.length : Int) rfl rfl Try.underlying43 (.agg #[.int .i64 0, .int .i64 0]) 16 FP rfl (by decide) (by omega) z34 (ok := fun _ => True) (lV := fun _ => True) (vL _ _ _ z34) (fun _ hk => hk) trivial (by omega) (by omega) HB.out HB.out.size ?_; intro v1 w2 hR2 hB2 hg2 acX; rw [Int.toNat_natCast] at hR2; obtain ⟨bl, hbl, hlb⟩ := acX; obtain ⟨cl, rfl⟩ := sW hR2 hbl; rw [List.length_replicate] at hR2; have HR2 := aa.mk hR2; have HB2 := aa.mk hB2; have Hb2 := aa.mk (bX Hb.out hg2 (by simp)); have Hx2 := aa.mk (bX Hx.out hg2 (by simp)); clear hR2 hB2 hg2 hbl b1 Hb Hx))
 have hwA : w.heap.size ≤ wA.heap.size := HB.out.size;clear HB;have b1 : w2.cell? ⟨w.heap.size, 1, none⟩ = some (.slice A1 e.f1.length c1) := (ae Hb2.out 1).trans rfl;rw [← MV vs e.f1] at HR2;obtain ⟨wO, rfl⟩ : ∃ wO : World, wO = w2 := ⟨_, rfl⟩;go_wp2_with fail
 go_loopg [15] (e.f1.length + 1) (fun g v15 wr => ∃ i : Nat, v15 = .int .i64 i ∧ aa (i ≤ e.f1.length) ∧ aa (e.f1.length - i < g) ∧ aa (Kd.R xA 34 wr w.heap.size (fun _ => True) (.slice (some ⟨bl, 0, none⟩) e.f1.length cl) (zz vs e.f1 i)) ∧ aa (Below w.heap.size w wr) ∧
  aa (wr.heap[w.heap.size]? = some (.cells #[.int .i64 e.f0, .slice A1 e.f1.length c1, .int .i64 e.f2, .int .i64 e.f3.f0, .int .i64 e.f3.f1] 54 (0, 0))) ∧ aa (wr.heap[w.heap.size + 1]? = some (.cells #[.int .i64 0, .int .i64 0] 34 (0, 0))))
 case atStart => exact ⟨0, by go_num, ⟨by omega⟩, ⟨by omega⟩, HR2, HB2, Hb2, Hx2⟩
 case round =>
  obtain ⟨i, rfl, hi, hg, HRi, HBi, Hbi, Hxi⟩ := hrel;clear b1 HR2 HB2 Hb2 Hx2;have hi1 : i ≤ 1000000 := by have := hi.out; omega
  by_cases hin : i < e.f1.length
  ·obtain ⟨ad, rfl, ht⟩ := Jv (Kd.bF HC.out HBi.out) i hin;have htr : 0 ≤ e.f1.getD i 0 ∧ e.f1.getD i 0 < (vs.length : Int) := HR.out _ (by rw [List.getD_eq_getElem?_getD, List.getElem?_eq_getElem hin]; exact List.getElem_mem _);have hfl := Q3 vs e.f1 i hin;generalize e.f1.getD i 0 = t at *;obtain ⟨ht0, ht1⟩ := htr;obtain ⟨av, rfl, v0, v1⟩ := aRX (Kd.bF HV.out HBi.out) t ht0 ht1;have s2 := ah HBi.out HS.out;have hcs := ng HRi.out (i : Int) (by omega) (by omega);have hst := at1 HRi.out (i : Int) (by omega) (by omega) (bJ vs t);simp only [Int.toNat_natCast] at hcs hst;rw [hfl] at hst;obtain ⟨l0, l1, f0, f1⟩ := hcs;have HST := aa.mk hst.1;have HSG := aa.mk hst.2;have hbl : w.heap.size ≤ bl := by omega
   clear hst hfl;go_wp2_with fail
   go_roundg (e.f1.length - i)
   case measure => have := hg.out; omega
   case rel => exact ⟨i + 1, by go_num, ⟨by omega⟩, ⟨by omega⟩, HST, ⟨(HBi.out.setCell hbl _).setCell hbl _⟩, ⟨bX Hbi.out HSG.out (by intro h; injection h with h; omega)⟩, ⟨bX Hxi.out HSG.out (by intro h; injection h with h; omega)⟩⟩
  ·obtain rfl : i = e.f1.length := by have := hi.out; omega
   have hRe := HRi.out;rw [Q4] at hRe;have hlt : (tailV vs e.f1).length = e.f1.length := by simp [tailV]
   have HCe := aa.mk (Kd.dD hRe).2.2;have b2 : wr.cell? ⟨w.heap.size, 2, none⟩ = some (.int .i64 e.f2) := (ae Hbi.out 2).trans rfl;have hcl : (tailV vs e.f1).length ≤ cl := (Kd.dD hRe).1 ▸ (Kd.dD hRe).2.1;have hxi := Hxi.out;have hin' : ¬ ((e.f1.length : Int) < (e.f1.length : Int)) := by omega
   go_wp2_with (first | (go_at_call 75; rw [← hlt]; refine (bU.calls _ _ _ _ _ _ _ _ HCe.out hcl (uL e.f2 (tailV vs e.f1) (by omega))).mono ?_; rintro x w4 ⟨rfl, hB4⟩; have hx4 := aC hxi hB4; have x0 : w4.cell? ⟨w.heap.size + 1, 0, none⟩ = some (.int .i64 0) := (ae hx4 0).trans rfl; have x1 : w4.cell? ⟨w.heap.size + 1, 1, none⟩ = some (.int .i64 0) := (ae hx4 1).trans rfl; have f0 := ai hx4 0; have f1 := ai hx4 1; have HX4 := aa.mk hx4; have Ju := aa.mk hB4; clear hx4 hB4))
   have h3 := gL (gL HX4.out 0 (.int .i64 (aqp e.f2 (tailV vs e.f1)).f0)) 1 (.int .i64 (aqp e.f2 (tailV vs e.f1)).f1);refine bodyPost_ret (results_cell_row rfl _ _ (w.heap.size + 1) 34 #[.int .i64 (aqp e.f2 (tailV vs e.f1)).f0, .int .i64 (aqp e.f2 (tailV vs e.f1)).f1] (0, 0) _ rfl (by simpa using h3) Try.underlying34 rfl (by kernel_rfl)) rfl ?_;exact ⟨rfl, ((aM HBi.out Ju.out).setCell (Nat.le_succ _) _).setCell (Nat.le_succ _) _⟩
end Go.Proofs.Ytamimodkcbbpmaa.Pr
end
