/- Pr0 ZA ZB XW XQ F80 F75 F100 XM XA XB XC XD XE: a part of the proof of the row of DerivationValidMatchesReference; no conditions. -/
import Derived.Test.YtamimodkcbbpmaaProg
import Derived.Below
import Derived.Deep.Draws
import Derived.Deep.AppendLies
import Derived.Maps.AppendAt
import Derived.OwnWalk
import Derived.Laws.BytesArg
import Derived.Laws.MakeOwn
import Derived.Laws.OwnMore
import Derived.Deep.OwnRows
import Derived.Tactics
import Derived.Lib.ConvBytes
import Derived.Laws.Slices
import Derived.WalkKit
import Derived.KernelRfl
import Derived.RowKit3
import Derived.Deep.LoopGhost
import Derived.Deep.QuietTactic
import Derived.BigQuiet
import Derived.WideLaws
import Derived.Deep.DeepCutAuto
import Derived.Deep.CutBlock
import Derived.Deep.RegionHeld3
import Derived.Laws.Rows
import Derived.Lib.AppendStr
import Derived.ArgAppend
import Derived.Laws.IdiomCopy
import Derived.OrdersHeld
import Derived.Laws.BitsLemmas
import Derived.RowKit
import Derived.Test.YtamimodkcbbpmaaG1
import Derived.Deep.Slices
import Derived.OpenShut
import Derived.WideShapes
import Derived.Test.YtamimodkcbbpmaaRows
import Derived.ProofKit
import Derived.SizedLaws
import Derived.MapKept
import Derived.ChangeMaps4
import Derived.BigRegion
section
/- Printed by a program of this session (a turned print of the kit's) out of the translation: each Go function as a Lean function, and the proof that the machine's call answers what it says. Lean checks it. -/
namespace Go.Proofs.Ytamimodkcbbpmaa.Pr
open Go.RowKit Go.Proofs.YtamimodkcbbpmaaW.PrintWords Go.Proofs.YtamimodkcbbpmaaW.PrintLast Go.Proofs.YtamimodkcbbpmaaW.PrintMore
attribute [local go_sem] max2_int min2_int max_two min_two max_three min_three max_four min_four   -- for this text's walks alone
set_option linter.unusedVariables false
set_option linter.unusedSimpArgs false



def errW : Option Int → Value
  | none => .nilIface
  | some c => .iface 0 (.int .i64 c)
theorem errW_none : errW none = .nilIface := rfl
theorem errW_some (c : Int) : errW (some c) = .iface 0 (.int .i64 c) := rfl

theorem info3 : (Try.prog.info? 3).map (fun i => (i.zero, i.size, i.bytes)) = some (some (.int .i64 0), 1, 8) := by kernel_rfl
theorem info4 : (Try.prog.info? 4).map (fun i => (i.zero, i.size, i.bytes)) = some (some (.bool false), 1, 1) := by kernel_rfl
theorem info27 : (Try.prog.info? 27).map (fun i => (i.zero, i.size, i.bytes)) = some (some (.agg #[(.int .i64 0), (.slice none 0 0)]), 2, 32) := by kernel_rfl
theorem info34 : (Try.prog.info? 34).map (fun i => (i.zero, i.size, i.bytes)) = some (some (.agg #[(.int .i64 0), (.int .i64 0)]), 2, 16) := by kernel_rfl
theorem info44 : (Try.prog.info? 44).map (fun i => (i.zero, i.size, i.bytes)) = some (some (.slice none 0 0), 1, 24) := by kernel_rfl
theorem info54 : (Try.prog.info? 54).map (fun i => (i.zero, i.size, i.bytes)) = some (some (.agg #[(.int .i64 0), (.slice none 0 0), (.int .i64 0), (.int .i64 0), (.int .i64 0)]), 5, 56) := by kernel_rfl
theorem info64 : (Try.prog.info? 64).map (fun i => (i.zero, i.size, i.bytes)) = some (some (.agg #[(.int .i64 0), (.slice none 0 0)]), 2, 32) := by kernel_rfl
theorem info75 : (Try.prog.info? 75).map (fun i => (i.zero, i.size, i.bytes)) = some (some (.agg #[(.int .i64 0), (.int .i64 0), (.int .i64 0), (.int .i64 0), (.int .i64 0), (.int .i64 0)]), 6, 48) := by kernel_rfl
theorem info139 : (Try.prog.info? 139).map (fun i => (i.zero, i.size, i.bytes)) = some (some (.agg #[(.int .i64 0), (.int .i64 0), (.int .i64 0), (.int .i64 0), (.int .i64 0)]), 5, 40) := by kernel_rfl
-- the values' own types
def rd_L1 (xs : List (List Int)) (i : Int) : (List Int) := xs.getD i.toNat ([] : List Int)
theorem at_L1 {w : World} {A : Option Addr} {n : Nat} {xs : List (List Int)} (h : Kd.C (Kd.slice 3 (Kd.int .i64)) w A n xs) (i : Int) (h0 : 0 ≤ i) (h1 : i < n) : ∃ ad A0 c0, A = some ad ∧ w.cell? (ad.add i.toNat) = some (.slice A0 (rd_L1 xs i).length c0) ∧ (rd_L1 xs i).length ≤ c0 ∧ (Kd.int .i64).C w A0 (rd_L1 xs i).length (rd_L1 xs i) := by
  obtain ⟨ad, c, e, _, hK, hc0⟩ := Kd.C_get h ([] : List Int) i h0 h1
  have hc : ∀ j u, c[j]? = some u → w.cell? (ad.add (i.toNat * 1 + j)) = some u := hc0
  obtain ⟨A0, c0, rfl, l0, g0⟩ := hK
  exact ⟨ad, A0, c0, e, by have hq := hc 0 _ rfl; rwa [Nat.mul_one, Nat.add_zero] at hq, l0, g0⟩

/-! #### struct type 52 -/
structure S52 where
  f0 : Int
  f1 : Int
def z52 : S52 := ⟨(0 : Int), (0 : Int)⟩
def k52 : Kd S52 := Kd.iso (Kd.pair (Kd.int .i64) (Kd.int .i64)) (fun x : S52 => (x.f0, x.f1))
theorem k52_open {w : World} {x : S52} {cs : List Value} (h : k52.K w x cs) : cs = [.int .i64 x.f0, .int .i64 x.f1] := by
  obtain ⟨_, _, rfl, rfl, rfl⟩ := h
  exact rfl
theorem k52_openM {w : World} {base : Nat} {ok : Nat → Prop} {x : S52} {cs : List Value} (h : k52.M w base ok x cs) : cs = [.int .i64 x.f0, .int .i64 x.f1] := by
  obtain ⟨_, _, rfl, rfl, rfl⟩ := h
  exact rfl
theorem k52_mk (w : World) (x : S52)  : k52.K w x [.int .i64 x.f0, .int .i64 x.f1] := ⟨[.int .i64 x.f0], [.int .i64 x.f1], rfl, rfl, rfl⟩
theorem k52_mkM (w : World) (base : Nat) (ok : Nat → Prop) (x : S52)  : k52.M w base ok x [.int .i64 x.f0, .int .i64 x.f1] := ⟨[.int .i64 x.f0], [.int .i64 x.f1], rfl, rfl, rfl⟩
theorem k52_mkF (W : World) (ok : Nat → Prop) (x : S52) : Kd.FK k52 W ok x [.int .i64 x.f0, .int .i64 x.f1] := fun W2 _ => k52_mk W2 x
def rd_T52 (xs : List S52) (i : Int) : S52 := xs.getD i.toNat z52
theorem at_T52 {w : World} {A : Option Addr} {n : Nat} {xs : List S52} (h : Kd.C k52 w A n xs) (i : Int) (h0 : 0 ≤ i) (h1 : i < n) : ∃ ad , A = some ad ∧ w.cell? (ad.add (i.toNat * 2)) = some (.int .i64 (rd_T52 xs i).f0) ∧ w.cell? ⟨(ad.add (i.toNat * 2)).block, (ad.add (i.toNat * 2)).off + 1, none⟩ = some (.int .i64 (rd_T52 xs i).f1) := by
  obtain ⟨ad, c, e, _, hK, hc0⟩ := Kd.C_get h z52 i h0 h1
  have hc : ∀ j u, c[j]? = some u → w.cell? (ad.add (i.toNat * 2 + j)) = some u := hc0
  obtain rfl := k52_open hK
  exact ⟨ad, e, hc 0 _ rfl, by rw [← add_field _ _ 1 (by omega)]; exact hc 1 _ rfl⟩

/-! #### struct type 54 -/
structure S54 where
  f0 : Int
  f1 : (List Int)
  f2 : Int
  f3 : S52
def z54 : S54 := ⟨(0 : Int), ([] : List Int), (0 : Int), z52⟩
def k54 : Kd S54 := Kd.iso (Kd.pair (Kd.int .i64) (Kd.pair (Kd.slice 3 (Kd.int .i64)) (Kd.pair (Kd.int .i64) k52))) (fun x : S54 => (x.f0, x.f1, x.f2, x.f3))
theorem k54_open {w : World} {x : S54} {cs : List Value} (h : k54.K w x cs) : ∃ A1 c1, cs = [.int .i64 x.f0, .slice A1 x.f1.length c1, .int .i64 x.f2, .int .i64 x.f3.f0, .int .i64 x.f3.f1] ∧ x.f1.length ≤ c1 ∧ (Kd.int .i64).C w A1 x.f1.length x.f1 := by
  obtain ⟨_, _, rfl, rfl, ⟨_, _, rfl, ⟨A1, c1, rfl, l1, g1⟩, ⟨_, _, rfl, rfl, s3⟩⟩⟩ := h
  obtain rfl := k52_open s3
  exact ⟨A1, c1, rfl, l1, g1⟩
theorem k54_openM {w : World} {base : Nat} {ok : Nat → Prop} {x : S54} {cs : List Value} (h : k54.M w base ok x cs) : ∃ v1, cs = [.int .i64 x.f0, v1, .int .i64 x.f2, .int .i64 x.f3.f0, .int .i64 x.f3.f1] ∧ (Kd.int .i64).R 3 w base ok v1 x.f1 := by
  obtain ⟨_, _, rfl, rfl, ⟨_, _, rfl, ⟨v1, rfl, g1⟩, ⟨_, _, rfl, rfl, s3⟩⟩⟩ := h
  obtain rfl := k52_openM s3
  exact ⟨v1, rfl, g1⟩
theorem k54_mk (w : World) (x : S54) {A1 : Option Addr} {c1 : Nat} (l1 : x.f1.length ≤ c1) (g1 : (Kd.int .i64).C w A1 x.f1.length x.f1) : k54.K w x [.int .i64 x.f0, .slice A1 x.f1.length c1, .int .i64 x.f2, .int .i64 x.f3.f0, .int .i64 x.f3.f1] := ⟨[.int .i64 x.f0], [.slice A1 x.f1.length c1, .int .i64 x.f2, .int .i64 x.f3.f0, .int .i64 x.f3.f1], rfl, rfl, ⟨[.slice A1 x.f1.length c1], [.int .i64 x.f2, .int .i64 x.f3.f0, .int .i64 x.f3.f1], rfl, ⟨A1, c1, rfl, l1, g1⟩, ⟨[.int .i64 x.f2], [.int .i64 x.f3.f0, .int .i64 x.f3.f1], rfl, rfl, (k52_mk w x.f3 )⟩⟩⟩
theorem k54_mkM (w : World) (base : Nat) (ok : Nat → Prop) (x : S54) {v1 : Value} (g1 : (Kd.int .i64).R 3 w base ok v1 x.f1) : k54.M w base ok x [.int .i64 x.f0, v1, .int .i64 x.f2, .int .i64 x.f3.f0, .int .i64 x.f3.f1] := ⟨[.int .i64 x.f0], [v1, .int .i64 x.f2, .int .i64 x.f3.f0, .int .i64 x.f3.f1], rfl, rfl, ⟨[v1], [.int .i64 x.f2, .int .i64 x.f3.f0, .int .i64 x.f3.f1], rfl, ⟨v1, rfl, g1⟩, ⟨[.int .i64 x.f2], [.int .i64 x.f3.f0, .int .i64 x.f3.f1], rfl, rfl, (k52_mkM w base ok x.f3 )⟩⟩⟩
theorem k54_openF {W : World} {ok : Nat → Prop} {x : S54} {cs : List Value} (h : Kd.FK k54 W ok x cs) : ∃ A1 c1, cs = [.int .i64 x.f0, .slice A1 x.f1.length c1, .int .i64 x.f2, .int .i64 x.f3.f0, .int .i64 x.f3.f1] ∧ x.f1.length ≤ c1 ∧ Kd.F (Kd.int .i64) W ok A1 x.f1.length x.f1 := by
  obtain ⟨A1, c1, rfl, l1, _⟩ := k54_open (Kd.FK_now h)
  exact ⟨A1, c1, rfl, l1, (fun W' hW => by obtain ⟨A1_, c1_, he, l1_, g1_⟩ := k54_open (h W' hW); injection (Option.some.inj (show some (Value.slice A1 x.f1.length c1) = some (Value.slice A1_ x.f1.length c1_) from congrArg (fun l => l[1]?) he)) with ha_ _ _; rw [ha_]; exact g1_)⟩
theorem k54_mkF (W : World) (ok : Nat → Prop) (x : S54) {A1 : Option Addr} {c1 : Nat} (l1 : x.f1.length ≤ c1) (g1 : Kd.F (Kd.int .i64) W ok A1 x.f1.length x.f1) : Kd.FK k54 W ok x [.int .i64 x.f0, .slice A1 x.f1.length c1, .int .i64 x.f2, .int .i64 x.f3.f0, .int .i64 x.f3.f1] := fun W2 hW => k54_mk W2 x l1 (g1 W2 hW)
def rd_T54 (xs : List S54) (i : Int) : S54 := xs.getD i.toNat z54
theorem at_T54 {w : World} {A : Option Addr} {n : Nat} {xs : List S54} (h : Kd.C k54 w A n xs) (i : Int) (h0 : 0 ≤ i) (h1 : i < n) : ∃ ad A1 c1, A = some ad ∧ w.cell? (ad.add (i.toNat * 5)) = some (.int .i64 (rd_T54 xs i).f0) ∧ w.cell? ⟨(ad.add (i.toNat * 5)).block, (ad.add (i.toNat * 5)).off + 1, none⟩ = some (.slice A1 (rd_T54 xs i).f1.length c1) ∧ w.cell? ⟨(ad.add (i.toNat * 5)).block, (ad.add (i.toNat * 5)).off + 2, none⟩ = some (.int .i64 (rd_T54 xs i).f2) ∧ w.cell? ⟨(ad.add (i.toNat * 5)).block, (ad.add (i.toNat * 5)).off + 3, none⟩ = some (.int .i64 (rd_T54 xs i).f3.f0) ∧ w.cell? ⟨(ad.add (i.toNat * 5)).block, (ad.add (i.toNat * 5)).off + 4, none⟩ = some (.int .i64 (rd_T54 xs i).f3.f1) ∧ (rd_T54 xs i).f1.length ≤ c1 ∧ (Kd.int .i64).C w A1 (rd_T54 xs i).f1.length (rd_T54 xs i).f1 := by
  obtain ⟨ad, c, e, _, hK, hc0⟩ := Kd.C_get h z54 i h0 h1
  have hc : ∀ j u, c[j]? = some u → w.cell? (ad.add (i.toNat * 5 + j)) = some u := hc0
  obtain ⟨A1, c1, rfl, l1, g1⟩ := k54_open hK
  exact ⟨ad, A1, c1, e, hc 0 _ rfl, by rw [← add_field _ _ 1 (by omega)]; exact hc 1 _ rfl, by rw [← add_field _ _ 2 (by omega)]; exact hc 2 _ rfl, by rw [← add_field _ _ 3 (by omega)]; exact hc 3 _ rfl, by rw [← add_field _ _ 4 (by omega)]; exact hc 4 _ rfl, l1, g1⟩

/-! #### struct type 27, nested in itself -/
structure S27 where
  f0 : Int
  f1 : (List S27)
def z27 : S27 := ⟨(0 : Int), ([] : List S27)⟩
def F27 (d : Kd S27) : Kd S27 := Kd.iso (Kd.pair (Kd.int .i64) (Kd.slice 27 d)) (fun x : S27 => (x.f0, x.f1))
theorem mono27 : Kd.Mono F27 := Kd.mono_iso _ (Kd.mono_pair (Kd.mono_const _) (Kd.mono_slice 27 Kd.mono_id))
theorem sub27 : Kd.Sub F27 [27] := Kd.sub_iso _ (Kd.sub_pair (Kd.sub_const _ (by decide)) (Kd.sub_slice 27 (by decide) Kd.sub_id))
theorem sz27 : ∀ n, (Kd.upto F27 2 [27] n).sz = 2 := Kd.upto_sz (fun _ => rfl)
def k27 : Kd S27 := Kd.fix F27 2 [27] sz27 (Kd.upto_E sub27)
theorem k27_open {w : World} {x : S27} {cs : List Value} (h : k27.K w x cs) : ∃ A1 c1, cs = [.int .i64 x.f0, .slice A1 x.f1.length c1] ∧ x.f1.length ≤ c1 ∧ k27.C w A1 x.f1.length x.f1 := by
  obtain ⟨n, h⟩ := h
  cases n with
  | zero => exact h.elim
  | succ n =>
    obtain ⟨_, _, rfl, rfl, ⟨A1, c1, rfl, l1, g1⟩⟩ := h
    exact ⟨A1, c1, rfl, l1, Kd.fix_C g1⟩
theorem k27_openM {w : World} {base : Nat} {ok : Nat → Prop} {x : S27} {cs : List Value} (h : k27.M w base ok x cs) : ∃ v1, cs = [.int .i64 x.f0, v1] ∧ k27.R 27 w base ok v1 x.f1 := by
  obtain ⟨n, h⟩ := h
  cases n with
  | zero => exact h.elim
  | succ n =>
    obtain ⟨_, _, rfl, rfl, ⟨v1, rfl, g1⟩⟩ := h
    exact ⟨v1, rfl, Kd.fix_R g1⟩
theorem k27_mk (w : World) (x : S27) {A1 : Option Addr} {c1 : Nat} (l1 : x.f1.length ≤ c1) (g1 : k27.C w A1 x.f1.length x.f1) : k27.K w x [.int .i64 x.f0, .slice A1 x.f1.length c1] := by
  obtain ⟨n1, q1⟩ := Kd.fix_C_back mono27 g1
  have r1 := Kd.upto_C_le mono27 sz27 (show n1 ≤ n1 by omega) q1
  exact ⟨n1 + 1, ⟨[.int .i64 x.f0], [.slice A1 x.f1.length c1], rfl, rfl, ⟨A1, c1, rfl, l1, r1⟩⟩⟩
theorem k27_mkM (w : World) (base : Nat) (ok : Nat → Prop) (x : S27) {v1 : Value} (g1 : k27.R 27 w base ok v1 x.f1) : k27.M w base ok x [.int .i64 x.f0, v1] := by
  obtain ⟨n1, q1⟩ := Kd.fix_R_back mono27 g1
  have r1 := Kd.upto_R_le mono27 sz27 (show n1 ≤ n1 by omega) q1
  exact ⟨n1 + 1, ⟨[.int .i64 x.f0], [v1], rfl, rfl, ⟨v1, rfl, r1⟩⟩⟩
theorem k27_openF {W : World} {ok : Nat → Prop} {x : S27} {cs : List Value} (h : Kd.FK k27 W ok x cs) : ∃ A1 c1, cs = [.int .i64 x.f0, .slice A1 x.f1.length c1] ∧ x.f1.length ≤ c1 ∧ Kd.F k27 W ok A1 x.f1.length x.f1 := by
  obtain ⟨A1, c1, rfl, l1, _⟩ := k27_open (Kd.FK_now h)
  exact ⟨A1, c1, rfl, l1, (fun W' hW => by obtain ⟨A1_, c1_, he, l1_, g1_⟩ := k27_open (h W' hW); injection (Option.some.inj (show some (Value.slice A1 x.f1.length c1) = some (Value.slice A1_ x.f1.length c1_) from congrArg (fun l => l[1]?) he)) with ha_ _ _; rw [ha_]; exact g1_)⟩
theorem k27_mkF (W : World) (ok : Nat → Prop) (x : S27) {A1 : Option Addr} {c1 : Nat} (l1 : x.f1.length ≤ c1) (g1 : Kd.F k27 W ok A1 x.f1.length x.f1) : Kd.FK k27 W ok x [.int .i64 x.f0, .slice A1 x.f1.length c1] := fun W2 hW => k27_mk W2 x l1 (g1 W2 hW)
def rd_T27 (xs : List S27) (i : Int) : S27 := xs.getD i.toNat z27
theorem at_T27 {w : World} {A : Option Addr} {n : Nat} {xs : List S27} (h : Kd.C k27 w A n xs) (i : Int) (h0 : 0 ≤ i) (h1 : i < n) : ∃ ad A1 c1, A = some ad ∧ w.cell? (ad.add (i.toNat * 2)) = some (.int .i64 (rd_T27 xs i).f0) ∧ w.cell? ⟨(ad.add (i.toNat * 2)).block, (ad.add (i.toNat * 2)).off + 1, none⟩ = some (.slice A1 (rd_T27 xs i).f1.length c1) ∧ (rd_T27 xs i).f1.length ≤ c1 ∧ k27.C w A1 (rd_T27 xs i).f1.length (rd_T27 xs i).f1 := by
  obtain ⟨ad, c, e, _, hK, hc0⟩ := Kd.C_get h z27 i h0 h1
  have hc : ∀ j u, c[j]? = some u → w.cell? (ad.add (i.toNat * 2 + j)) = some u := hc0
  obtain ⟨A1, c1, rfl, l1, g1⟩ := k27_open hK
  exact ⟨ad, A1, c1, e, hc 0 _ rfl, by rw [← add_field _ _ 1 (by omega)]; exact hc 1 _ rfl, l1, g1⟩

/-! #### struct type 34 -/
structure S34 where
  f0 : Int
  f1 : Int
def z34 : S34 := ⟨(0 : Int), (0 : Int)⟩
def k34 : Kd S34 := Kd.iso (Kd.pair (Kd.int .i64) (Kd.int .i64)) (fun x : S34 => (x.f0, x.f1))
theorem k34_open {w : World} {x : S34} {cs : List Value} (h : k34.K w x cs) : cs = [.int .i64 x.f0, .int .i64 x.f1] := by
  obtain ⟨_, _, rfl, rfl, rfl⟩ := h
  exact rfl
theorem k34_openM {w : World} {base : Nat} {ok : Nat → Prop} {x : S34} {cs : List Value} (h : k34.M w base ok x cs) : cs = [.int .i64 x.f0, .int .i64 x.f1] := by
  obtain ⟨_, _, rfl, rfl, rfl⟩ := h
  exact rfl
theorem k34_mk (w : World) (x : S34)  : k34.K w x [.int .i64 x.f0, .int .i64 x.f1] := ⟨[.int .i64 x.f0], [.int .i64 x.f1], rfl, rfl, rfl⟩
theorem k34_mkM (w : World) (base : Nat) (ok : Nat → Prop) (x : S34)  : k34.M w base ok x [.int .i64 x.f0, .int .i64 x.f1] := ⟨[.int .i64 x.f0], [.int .i64 x.f1], rfl, rfl, rfl⟩
theorem k34_mkF (W : World) (ok : Nat → Prop) (x : S34) : Kd.FK k34 W ok x [.int .i64 x.f0, .int .i64 x.f1] := fun W2 _ => k34_mk W2 x
def rd_T34 (xs : List S34) (i : Int) : S34 := xs.getD i.toNat z34
theorem at_T34 {w : World} {A : Option Addr} {n : Nat} {xs : List S34} (h : Kd.C k34 w A n xs) (i : Int) (h0 : 0 ≤ i) (h1 : i < n) : ∃ ad , A = some ad ∧ w.cell? (ad.add (i.toNat * 2)) = some (.int .i64 (rd_T34 xs i).f0) ∧ w.cell? ⟨(ad.add (i.toNat * 2)).block, (ad.add (i.toNat * 2)).off + 1, none⟩ = some (.int .i64 (rd_T34 xs i).f1) := by
  obtain ⟨ad, c, e, _, hK, hc0⟩ := Kd.C_get h z34 i h0 h1
  have hc : ∀ j u, c[j]? = some u → w.cell? (ad.add (i.toNat * 2 + j)) = some u := hc0
  obtain rfl := k34_open hK
  exact ⟨ad, e, hc 0 _ rfl, by rw [← add_field _ _ 1 (by omega)]; exact hc 1 _ rfl⟩

def rd_L6 (xs : List (List S54)) (i : Int) : (List S54) := xs.getD i.toNat ([] : List S54)
theorem at_L6 {w : World} {A : Option Addr} {n : Nat} {xs : List (List S54)} (h : Kd.C (Kd.slice 54 k54) w A n xs) (i : Int) (h0 : 0 ≤ i) (h1 : i < n) : ∃ ad A0 c0, A = some ad ∧ w.cell? (ad.add i.toNat) = some (.slice A0 (rd_L6 xs i).length c0) ∧ (rd_L6 xs i).length ≤ c0 ∧ k54.C w A0 (rd_L6 xs i).length (rd_L6 xs i) := by
  obtain ⟨ad, c, e, _, hK, hc0⟩ := Kd.C_get h ([] : List S54) i h0 h1
  have hc : ∀ j u, c[j]? = some u → w.cell? (ad.add (i.toNat * 1 + j)) = some u := hc0
  obtain ⟨A0, c0, rfl, l0, g0⟩ := hK
  exact ⟨ad, A0, c0, e, by have hq := hc 0 _ rfl; rwa [Nat.mul_one, Nat.add_zero] at hq, l0, g0⟩

/-! #### struct type 24 -/
structure S24 where
  f0 : Int
  f1 : (List S54)
def z24 : S24 := ⟨(0 : Int), ([] : List S54)⟩
def k24 : Kd S24 := Kd.iso (Kd.pair (Kd.int .i64) (Kd.slice 54 k54)) (fun x : S24 => (x.f0, x.f1))
theorem k24_open {w : World} {x : S24} {cs : List Value} (h : k24.K w x cs) : ∃ A1 c1, cs = [.int .i64 x.f0, .slice A1 x.f1.length c1] ∧ x.f1.length ≤ c1 ∧ k54.C w A1 x.f1.length x.f1 := by
  obtain ⟨_, _, rfl, rfl, ⟨A1, c1, rfl, l1, g1⟩⟩ := h
  exact ⟨A1, c1, rfl, l1, g1⟩
theorem k24_openM {w : World} {base : Nat} {ok : Nat → Prop} {x : S24} {cs : List Value} (h : k24.M w base ok x cs) : ∃ v1, cs = [.int .i64 x.f0, v1] ∧ k54.R 54 w base ok v1 x.f1 := by
  obtain ⟨_, _, rfl, rfl, ⟨v1, rfl, g1⟩⟩ := h
  exact ⟨v1, rfl, g1⟩
theorem k24_mk (w : World) (x : S24) {A1 : Option Addr} {c1 : Nat} (l1 : x.f1.length ≤ c1) (g1 : k54.C w A1 x.f1.length x.f1) : k24.K w x [.int .i64 x.f0, .slice A1 x.f1.length c1] := ⟨[.int .i64 x.f0], [.slice A1 x.f1.length c1], rfl, rfl, ⟨A1, c1, rfl, l1, g1⟩⟩
theorem k24_mkM (w : World) (base : Nat) (ok : Nat → Prop) (x : S24) {v1 : Value} (g1 : k54.R 54 w base ok v1 x.f1) : k24.M w base ok x [.int .i64 x.f0, v1] := ⟨[.int .i64 x.f0], [v1], rfl, rfl, ⟨v1, rfl, g1⟩⟩
theorem k24_openF {W : World} {ok : Nat → Prop} {x : S24} {cs : List Value} (h : Kd.FK k24 W ok x cs) : ∃ A1 c1, cs = [.int .i64 x.f0, .slice A1 x.f1.length c1] ∧ x.f1.length ≤ c1 ∧ Kd.F k54 W ok A1 x.f1.length x.f1 := by
  obtain ⟨A1, c1, rfl, l1, _⟩ := k24_open (Kd.FK_now h)
  exact ⟨A1, c1, rfl, l1, (fun W' hW => by obtain ⟨A1_, c1_, he, l1_, g1_⟩ := k24_open (h W' hW); injection (Option.some.inj (show some (Value.slice A1 x.f1.length c1) = some (Value.slice A1_ x.f1.length c1_) from congrArg (fun l => l[1]?) he)) with ha_ _ _; rw [ha_]; exact g1_)⟩
theorem k24_mkF (W : World) (ok : Nat → Prop) (x : S24) {A1 : Option Addr} {c1 : Nat} (l1 : x.f1.length ≤ c1) (g1 : Kd.F k54 W ok A1 x.f1.length x.f1) : Kd.FK k24 W ok x [.int .i64 x.f0, .slice A1 x.f1.length c1] := fun W2 hW => k24_mk W2 x l1 (g1 W2 hW)
def rd_T24 (xs : List S24) (i : Int) : S24 := xs.getD i.toNat z24
theorem at_T24 {w : World} {A : Option Addr} {n : Nat} {xs : List S24} (h : Kd.C k24 w A n xs) (i : Int) (h0 : 0 ≤ i) (h1 : i < n) : ∃ ad A1 c1, A = some ad ∧ w.cell? (ad.add (i.toNat * 2)) = some (.int .i64 (rd_T24 xs i).f0) ∧ w.cell? ⟨(ad.add (i.toNat * 2)).block, (ad.add (i.toNat * 2)).off + 1, none⟩ = some (.slice A1 (rd_T24 xs i).f1.length c1) ∧ (rd_T24 xs i).f1.length ≤ c1 ∧ k54.C w A1 (rd_T24 xs i).f1.length (rd_T24 xs i).f1 := by
  obtain ⟨ad, c, e, _, hK, hc0⟩ := Kd.C_get h z24 i h0 h1
  have hc : ∀ j u, c[j]? = some u → w.cell? (ad.add (i.toNat * 2 + j)) = some u := hc0
  obtain ⟨A1, c1, rfl, l1, g1⟩ := k24_open hK
  exact ⟨ad, A1, c1, e, hc 0 _ rfl, by rw [← add_field _ _ 1 (by omega)]; exact hc 1 _ rfl, l1, g1⟩

def rd_L9 (xs : List (List S34)) (i : Int) : (List S34) := xs.getD i.toNat ([] : List S34)
theorem at_L9 {w : World} {A : Option Addr} {n : Nat} {xs : List (List S34)} (h : Kd.C (Kd.slice 34 k34) w A n xs) (i : Int) (h0 : 0 ≤ i) (h1 : i < n) : ∃ ad A0 c0, A = some ad ∧ w.cell? (ad.add i.toNat) = some (.slice A0 (rd_L9 xs i).length c0) ∧ (rd_L9 xs i).length ≤ c0 ∧ k34.C w A0 (rd_L9 xs i).length (rd_L9 xs i) := by
  obtain ⟨ad, c, e, _, hK, hc0⟩ := Kd.C_get h ([] : List S34) i h0 h1
  have hc : ∀ j u, c[j]? = some u → w.cell? (ad.add (i.toNat * 1 + j)) = some u := hc0
  obtain ⟨A0, c0, rfl, l0, g0⟩ := hK
  exact ⟨ad, A0, c0, e, by have hq := hc 0 _ rfl; rwa [Nat.mul_one, Nat.add_zero] at hq, l0, g0⟩

/-! #### struct type 75 -/
structure S75 where
  f0 : Int
  f1 : Int
  f2 : Int
  f3 : Int
  f4 : Int
  f5 : Int
def z75 : S75 := ⟨(0 : Int), (0 : Int), (0 : Int), (0 : Int), (0 : Int), (0 : Int)⟩
def k75 : Kd S75 := Kd.iso (Kd.pair (Kd.int .i64) (Kd.pair (Kd.int .i64) (Kd.pair (Kd.int .i64) (Kd.pair (Kd.int .i64) (Kd.pair (Kd.int .i64) (Kd.int .i64)))))) (fun x : S75 => (x.f0, x.f1, x.f2, x.f3, x.f4, x.f5))
theorem k75_open {w : World} {x : S75} {cs : List Value} (h : k75.K w x cs) : cs = [.int .i64 x.f0, .int .i64 x.f1, .int .i64 x.f2, .int .i64 x.f3, .int .i64 x.f4, .int .i64 x.f5] := by
  obtain ⟨_, _, rfl, rfl, ⟨_, _, rfl, rfl, ⟨_, _, rfl, rfl, ⟨_, _, rfl, rfl, ⟨_, _, rfl, rfl, rfl⟩⟩⟩⟩⟩ := h
  exact rfl
theorem k75_openM {w : World} {base : Nat} {ok : Nat → Prop} {x : S75} {cs : List Value} (h : k75.M w base ok x cs) : cs = [.int .i64 x.f0, .int .i64 x.f1, .int .i64 x.f2, .int .i64 x.f3, .int .i64 x.f4, .int .i64 x.f5] := by
  obtain ⟨_, _, rfl, rfl, ⟨_, _, rfl, rfl, ⟨_, _, rfl, rfl, ⟨_, _, rfl, rfl, ⟨_, _, rfl, rfl, rfl⟩⟩⟩⟩⟩ := h
  exact rfl
theorem k75_mk (w : World) (x : S75)  : k75.K w x [.int .i64 x.f0, .int .i64 x.f1, .int .i64 x.f2, .int .i64 x.f3, .int .i64 x.f4, .int .i64 x.f5] := ⟨[.int .i64 x.f0], [.int .i64 x.f1, .int .i64 x.f2, .int .i64 x.f3, .int .i64 x.f4, .int .i64 x.f5], rfl, rfl, ⟨[.int .i64 x.f1], [.int .i64 x.f2, .int .i64 x.f3, .int .i64 x.f4, .int .i64 x.f5], rfl, rfl, ⟨[.int .i64 x.f2], [.int .i64 x.f3, .int .i64 x.f4, .int .i64 x.f5], rfl, rfl, ⟨[.int .i64 x.f3], [.int .i64 x.f4, .int .i64 x.f5], rfl, rfl, ⟨[.int .i64 x.f4], [.int .i64 x.f5], rfl, rfl, rfl⟩⟩⟩⟩⟩
theorem k75_mkM (w : World) (base : Nat) (ok : Nat → Prop) (x : S75)  : k75.M w base ok x [.int .i64 x.f0, .int .i64 x.f1, .int .i64 x.f2, .int .i64 x.f3, .int .i64 x.f4, .int .i64 x.f5] := ⟨[.int .i64 x.f0], [.int .i64 x.f1, .int .i64 x.f2, .int .i64 x.f3, .int .i64 x.f4, .int .i64 x.f5], rfl, rfl, ⟨[.int .i64 x.f1], [.int .i64 x.f2, .int .i64 x.f3, .int .i64 x.f4, .int .i64 x.f5], rfl, rfl, ⟨[.int .i64 x.f2], [.int .i64 x.f3, .int .i64 x.f4, .int .i64 x.f5], rfl, rfl, ⟨[.int .i64 x.f3], [.int .i64 x.f4, .int .i64 x.f5], rfl, rfl, ⟨[.int .i64 x.f4], [.int .i64 x.f5], rfl, rfl, rfl⟩⟩⟩⟩⟩
theorem k75_mkF (W : World) (ok : Nat → Prop) (x : S75) : Kd.FK k75 W ok x [.int .i64 x.f0, .int .i64 x.f1, .int .i64 x.f2, .int .i64 x.f3, .int .i64 x.f4, .int .i64 x.f5] := fun W2 _ => k75_mk W2 x
def rd_T75 (xs : List S75) (i : Int) : S75 := xs.getD i.toNat z75
theorem at_T75 {w : World} {A : Option Addr} {n : Nat} {xs : List S75} (h : Kd.C k75 w A n xs) (i : Int) (h0 : 0 ≤ i) (h1 : i < n) : ∃ ad , A = some ad ∧ w.cell? (ad.add (i.toNat * 6)) = some (.int .i64 (rd_T75 xs i).f0) ∧ w.cell? ⟨(ad.add (i.toNat * 6)).block, (ad.add (i.toNat * 6)).off + 1, none⟩ = some (.int .i64 (rd_T75 xs i).f1) ∧ w.cell? ⟨(ad.add (i.toNat * 6)).block, (ad.add (i.toNat * 6)).off + 2, none⟩ = some (.int .i64 (rd_T75 xs i).f2) ∧ w.cell? ⟨(ad.add (i.toNat * 6)).block, (ad.add (i.toNat * 6)).off + 3, none⟩ = some (.int .i64 (rd_T75 xs i).f3) ∧ w.cell? ⟨(ad.add (i.toNat * 6)).block, (ad.add (i.toNat * 6)).off + 4, none⟩ = some (.int .i64 (rd_T75 xs i).f4) ∧ w.cell? ⟨(ad.add (i.toNat * 6)).block, (ad.add (i.toNat * 6)).off + 5, none⟩ = some (.int .i64 (rd_T75 xs i).f5) := by
  obtain ⟨ad, c, e, _, hK, hc0⟩ := Kd.C_get h z75 i h0 h1
  have hc : ∀ j u, c[j]? = some u → w.cell? (ad.add (i.toNat * 6 + j)) = some u := hc0
  obtain rfl := k75_open hK
  exact ⟨ad, e, hc 0 _ rfl, by rw [← add_field _ _ 1 (by omega)]; exact hc 1 _ rfl, by rw [← add_field _ _ 2 (by omega)]; exact hc 2 _ rfl, by rw [← add_field _ _ 3 (by omega)]; exact hc 3 _ rfl, by rw [← add_field _ _ 4 (by omega)]; exact hc 4 _ rfl, by rw [← add_field _ _ 5 (by omega)]; exact hc 5 _ rfl⟩

def rd_L11 (xs : List (List S75)) (i : Int) : (List S75) := xs.getD i.toNat ([] : List S75)
theorem at_L11 {w : World} {A : Option Addr} {n : Nat} {xs : List (List S75)} (h : Kd.C (Kd.slice 75 k75) w A n xs) (i : Int) (h0 : 0 ≤ i) (h1 : i < n) : ∃ ad A0 c0, A = some ad ∧ w.cell? (ad.add i.toNat) = some (.slice A0 (rd_L11 xs i).length c0) ∧ (rd_L11 xs i).length ≤ c0 ∧ k75.C w A0 (rd_L11 xs i).length (rd_L11 xs i) := by
  obtain ⟨ad, c, e, _, hK, hc0⟩ := Kd.C_get h ([] : List S75) i h0 h1
  have hc : ∀ j u, c[j]? = some u → w.cell? (ad.add (i.toNat * 1 + j)) = some u := hc0
  obtain ⟨A0, c0, rfl, l0, g0⟩ := hK
  exact ⟨ad, A0, c0, e, by have hq := hc 0 _ rfl; rwa [Nat.mul_one, Nat.add_zero] at hq, l0, g0⟩

/-! #### struct type 58 -/
structure S58 where
  f0 : Int
  f1 : Int
  f2 : Int
  f3 : (List S75)
def z58 : S58 := ⟨(0 : Int), (0 : Int), (0 : Int), ([] : List S75)⟩
def k58 : Kd S58 := Kd.iso (Kd.pair (Kd.int .i64) (Kd.pair (Kd.int .i64) (Kd.pair (Kd.int .i64) (Kd.slice 75 k75)))) (fun x : S58 => (x.f0, x.f1, x.f2, x.f3))
theorem k58_open {w : World} {x : S58} {cs : List Value} (h : k58.K w x cs) : ∃ A3 c3, cs = [.int .i64 x.f0, .int .i64 x.f1, .int .i64 x.f2, .slice A3 x.f3.length c3] ∧ x.f3.length ≤ c3 ∧ k75.C w A3 x.f3.length x.f3 := by
  obtain ⟨_, _, rfl, rfl, ⟨_, _, rfl, rfl, ⟨_, _, rfl, rfl, ⟨A3, c3, rfl, l3, g3⟩⟩⟩⟩ := h
  exact ⟨A3, c3, rfl, l3, g3⟩
theorem k58_openM {w : World} {base : Nat} {ok : Nat → Prop} {x : S58} {cs : List Value} (h : k58.M w base ok x cs) : ∃ v3, cs = [.int .i64 x.f0, .int .i64 x.f1, .int .i64 x.f2, v3] ∧ k75.R 75 w base ok v3 x.f3 := by
  obtain ⟨_, _, rfl, rfl, ⟨_, _, rfl, rfl, ⟨_, _, rfl, rfl, ⟨v3, rfl, g3⟩⟩⟩⟩ := h
  exact ⟨v3, rfl, g3⟩
theorem k58_mk (w : World) (x : S58) {A3 : Option Addr} {c3 : Nat} (l3 : x.f3.length ≤ c3) (g3 : k75.C w A3 x.f3.length x.f3) : k58.K w x [.int .i64 x.f0, .int .i64 x.f1, .int .i64 x.f2, .slice A3 x.f3.length c3] := ⟨[.int .i64 x.f0], [.int .i64 x.f1, .int .i64 x.f2, .slice A3 x.f3.length c3], rfl, rfl, ⟨[.int .i64 x.f1], [.int .i64 x.f2, .slice A3 x.f3.length c3], rfl, rfl, ⟨[.int .i64 x.f2], [.slice A3 x.f3.length c3], rfl, rfl, ⟨A3, c3, rfl, l3, g3⟩⟩⟩⟩
theorem k58_mkM (w : World) (base : Nat) (ok : Nat → Prop) (x : S58) {v3 : Value} (g3 : k75.R 75 w base ok v3 x.f3) : k58.M w base ok x [.int .i64 x.f0, .int .i64 x.f1, .int .i64 x.f2, v3] := ⟨[.int .i64 x.f0], [.int .i64 x.f1, .int .i64 x.f2, v3], rfl, rfl, ⟨[.int .i64 x.f1], [.int .i64 x.f2, v3], rfl, rfl, ⟨[.int .i64 x.f2], [v3], rfl, rfl, ⟨v3, rfl, g3⟩⟩⟩⟩
theorem k58_openF {W : World} {ok : Nat → Prop} {x : S58} {cs : List Value} (h : Kd.FK k58 W ok x cs) : ∃ A3 c3, cs = [.int .i64 x.f0, .int .i64 x.f1, .int .i64 x.f2, .slice A3 x.f3.length c3] ∧ x.f3.length ≤ c3 ∧ Kd.F k75 W ok A3 x.f3.length x.f3 := by
  obtain ⟨A3, c3, rfl, l3, _⟩ := k58_open (Kd.FK_now h)
  exact ⟨A3, c3, rfl, l3, (fun W' hW => by obtain ⟨A3_, c3_, he, l3_, g3_⟩ := k58_open (h W' hW); injection (Option.some.inj (show some (Value.slice A3 x.f3.length c3) = some (Value.slice A3_ x.f3.length c3_) from congrArg (fun l => l[3]?) he)) with ha_ _ _; rw [ha_]; exact g3_)⟩
theorem k58_mkF (W : World) (ok : Nat → Prop) (x : S58) {A3 : Option Addr} {c3 : Nat} (l3 : x.f3.length ≤ c3) (g3 : Kd.F k75 W ok A3 x.f3.length x.f3) : Kd.FK k58 W ok x [.int .i64 x.f0, .int .i64 x.f1, .int .i64 x.f2, .slice A3 x.f3.length c3] := fun W2 hW => k58_mk W2 x l3 (g3 W2 hW)
def rd_T58 (xs : List S58) (i : Int) : S58 := xs.getD i.toNat z58
theorem at_T58 {w : World} {A : Option Addr} {n : Nat} {xs : List S58} (h : Kd.C k58 w A n xs) (i : Int) (h0 : 0 ≤ i) (h1 : i < n) : ∃ ad A3 c3, A = some ad ∧ w.cell? (ad.add (i.toNat * 4)) = some (.int .i64 (rd_T58 xs i).f0) ∧ w.cell? ⟨(ad.add (i.toNat * 4)).block, (ad.add (i.toNat * 4)).off + 1, none⟩ = some (.int .i64 (rd_T58 xs i).f1) ∧ w.cell? ⟨(ad.add (i.toNat * 4)).block, (ad.add (i.toNat * 4)).off + 2, none⟩ = some (.int .i64 (rd_T58 xs i).f2) ∧ w.cell? ⟨(ad.add (i.toNat * 4)).block, (ad.add (i.toNat * 4)).off + 3, none⟩ = some (.slice A3 (rd_T58 xs i).f3.length c3) ∧ (rd_T58 xs i).f3.length ≤ c3 ∧ k75.C w A3 (rd_T58 xs i).f3.length (rd_T58 xs i).f3 := by
  obtain ⟨ad, c, e, _, hK, hc0⟩ := Kd.C_get h z58 i h0 h1
  have hc : ∀ j u, c[j]? = some u → w.cell? (ad.add (i.toNat * 4 + j)) = some u := hc0
  obtain ⟨A3, c3, rfl, l3, g3⟩ := k58_open hK
  exact ⟨ad, A3, c3, e, hc 0 _ rfl, by rw [← add_field _ _ 1 (by omega)]; exact hc 1 _ rfl, by rw [← add_field _ _ 2 (by omega)]; exact hc 2 _ rfl, by rw [← add_field _ _ 3 (by omega)]; exact hc 3 _ rfl, l3, g3⟩

/-! #### struct type 64, nested in itself -/
structure S64 where
  f0 : Int
  f1 : (List S64)
def z64 : S64 := ⟨(0 : Int), ([] : List S64)⟩
def F64 (d : Kd S64) : Kd S64 := Kd.iso (Kd.pair (Kd.int .i64) (Kd.slice 64 d)) (fun x : S64 => (x.f0, x.f1))
theorem mono64 : Kd.Mono F64 := Kd.mono_iso _ (Kd.mono_pair (Kd.mono_const _) (Kd.mono_slice 64 Kd.mono_id))
theorem sub64 : Kd.Sub F64 [64] := Kd.sub_iso _ (Kd.sub_pair (Kd.sub_const _ (by decide)) (Kd.sub_slice 64 (by decide) Kd.sub_id))
theorem sz64 : ∀ n, (Kd.upto F64 2 [64] n).sz = 2 := Kd.upto_sz (fun _ => rfl)
def k64 : Kd S64 := Kd.fix F64 2 [64] sz64 (Kd.upto_E sub64)
theorem k64_open {w : World} {x : S64} {cs : List Value} (h : k64.K w x cs) : ∃ A1 c1, cs = [.int .i64 x.f0, .slice A1 x.f1.length c1] ∧ x.f1.length ≤ c1 ∧ k64.C w A1 x.f1.length x.f1 := by
  obtain ⟨n, h⟩ := h
  cases n with
  | zero => exact h.elim
  | succ n =>
    obtain ⟨_, _, rfl, rfl, ⟨A1, c1, rfl, l1, g1⟩⟩ := h
    exact ⟨A1, c1, rfl, l1, Kd.fix_C g1⟩
theorem k64_openM {w : World} {base : Nat} {ok : Nat → Prop} {x : S64} {cs : List Value} (h : k64.M w base ok x cs) : ∃ v1, cs = [.int .i64 x.f0, v1] ∧ k64.R 64 w base ok v1 x.f1 := by
  obtain ⟨n, h⟩ := h
  cases n with
  | zero => exact h.elim
  | succ n =>
    obtain ⟨_, _, rfl, rfl, ⟨v1, rfl, g1⟩⟩ := h
    exact ⟨v1, rfl, Kd.fix_R g1⟩
theorem k64_mk (w : World) (x : S64) {A1 : Option Addr} {c1 : Nat} (l1 : x.f1.length ≤ c1) (g1 : k64.C w A1 x.f1.length x.f1) : k64.K w x [.int .i64 x.f0, .slice A1 x.f1.length c1] := by
  obtain ⟨n1, q1⟩ := Kd.fix_C_back mono64 g1
  have r1 := Kd.upto_C_le mono64 sz64 (show n1 ≤ n1 by omega) q1
  exact ⟨n1 + 1, ⟨[.int .i64 x.f0], [.slice A1 x.f1.length c1], rfl, rfl, ⟨A1, c1, rfl, l1, r1⟩⟩⟩
theorem k64_mkM (w : World) (base : Nat) (ok : Nat → Prop) (x : S64) {v1 : Value} (g1 : k64.R 64 w base ok v1 x.f1) : k64.M w base ok x [.int .i64 x.f0, v1] := by
  obtain ⟨n1, q1⟩ := Kd.fix_R_back mono64 g1
  have r1 := Kd.upto_R_le mono64 sz64 (show n1 ≤ n1 by omega) q1
  exact ⟨n1 + 1, ⟨[.int .i64 x.f0], [v1], rfl, rfl, ⟨v1, rfl, r1⟩⟩⟩
theorem k64_openF {W : World} {ok : Nat → Prop} {x : S64} {cs : List Value} (h : Kd.FK k64 W ok x cs) : ∃ A1 c1, cs = [.int .i64 x.f0, .slice A1 x.f1.length c1] ∧ x.f1.length ≤ c1 ∧ Kd.F k64 W ok A1 x.f1.length x.f1 := by
  obtain ⟨A1, c1, rfl, l1, _⟩ := k64_open (Kd.FK_now h)
  exact ⟨A1, c1, rfl, l1, (fun W' hW => by obtain ⟨A1_, c1_, he, l1_, g1_⟩ := k64_open (h W' hW); injection (Option.some.inj (show some (Value.slice A1 x.f1.length c1) = some (Value.slice A1_ x.f1.length c1_) from congrArg (fun l => l[1]?) he)) with ha_ _ _; rw [ha_]; exact g1_)⟩
theorem k64_mkF (W : World) (ok : Nat → Prop) (x : S64) {A1 : Option Addr} {c1 : Nat} (l1 : x.f1.length ≤ c1) (g1 : Kd.F k64 W ok A1 x.f1.length x.f1) : Kd.FK k64 W ok x [.int .i64 x.f0, .slice A1 x.f1.length c1] := fun W2 hW => k64_mk W2 x l1 (g1 W2 hW)
def rd_T64 (xs : List S64) (i : Int) : S64 := xs.getD i.toNat z64
theorem at_T64 {w : World} {A : Option Addr} {n : Nat} {xs : List S64} (h : Kd.C k64 w A n xs) (i : Int) (h0 : 0 ≤ i) (h1 : i < n) : ∃ ad A1 c1, A = some ad ∧ w.cell? (ad.add (i.toNat * 2)) = some (.int .i64 (rd_T64 xs i).f0) ∧ w.cell? ⟨(ad.add (i.toNat * 2)).block, (ad.add (i.toNat * 2)).off + 1, none⟩ = some (.slice A1 (rd_T64 xs i).f1.length c1) ∧ (rd_T64 xs i).f1.length ≤ c1 ∧ k64.C w A1 (rd_T64 xs i).f1.length (rd_T64 xs i).f1 := by
  obtain ⟨ad, c, e, _, hK, hc0⟩ := Kd.C_get h z64 i h0 h1
  have hc : ∀ j u, c[j]? = some u → w.cell? (ad.add (i.toNat * 2 + j)) = some u := hc0
  obtain ⟨A1, c1, rfl, l1, g1⟩ := k64_open hK
  exact ⟨ad, A1, c1, e, hc 0 _ rfl, by rw [← add_field _ _ 1 (by omega)]; exact hc 1 _ rfl, l1, g1⟩

/-! #### struct type 124 -/
structure S124 where
  f0 : Int
  f1 : S34
def z124 : S124 := ⟨(0 : Int), z34⟩
def k124 : Kd S124 := Kd.iso (Kd.pair (Kd.int .i64) k34) (fun x : S124 => (x.f0, x.f1))
theorem k124_open {w : World} {x : S124} {cs : List Value} (h : k124.K w x cs) : cs = [.int .i64 x.f0, .int .i64 x.f1.f0, .int .i64 x.f1.f1] := by
  obtain ⟨_, _, rfl, rfl, s1⟩ := h
  obtain rfl := k34_open s1
  exact rfl
theorem k124_openM {w : World} {base : Nat} {ok : Nat → Prop} {x : S124} {cs : List Value} (h : k124.M w base ok x cs) : cs = [.int .i64 x.f0, .int .i64 x.f1.f0, .int .i64 x.f1.f1] := by
  obtain ⟨_, _, rfl, rfl, s1⟩ := h
  obtain rfl := k34_openM s1
  exact rfl
theorem k124_mk (w : World) (x : S124)  : k124.K w x [.int .i64 x.f0, .int .i64 x.f1.f0, .int .i64 x.f1.f1] := ⟨[.int .i64 x.f0], [.int .i64 x.f1.f0, .int .i64 x.f1.f1], rfl, rfl, (k34_mk w x.f1 )⟩
theorem k124_mkM (w : World) (base : Nat) (ok : Nat → Prop) (x : S124)  : k124.M w base ok x [.int .i64 x.f0, .int .i64 x.f1.f0, .int .i64 x.f1.f1] := ⟨[.int .i64 x.f0], [.int .i64 x.f1.f0, .int .i64 x.f1.f1], rfl, rfl, (k34_mkM w base ok x.f1 )⟩
theorem k124_mkF (W : World) (ok : Nat → Prop) (x : S124) : Kd.FK k124 W ok x [.int .i64 x.f0, .int .i64 x.f1.f0, .int .i64 x.f1.f1] := fun W2 _ => k124_mk W2 x
def rd_T124 (xs : List S124) (i : Int) : S124 := xs.getD i.toNat z124
theorem at_T124 {w : World} {A : Option Addr} {n : Nat} {xs : List S124} (h : Kd.C k124 w A n xs) (i : Int) (h0 : 0 ≤ i) (h1 : i < n) : ∃ ad , A = some ad ∧ w.cell? (ad.add (i.toNat * 3)) = some (.int .i64 (rd_T124 xs i).f0) ∧ w.cell? ⟨(ad.add (i.toNat * 3)).block, (ad.add (i.toNat * 3)).off + 1, none⟩ = some (.int .i64 (rd_T124 xs i).f1.f0) ∧ w.cell? ⟨(ad.add (i.toNat * 3)).block, (ad.add (i.toNat * 3)).off + 2, none⟩ = some (.int .i64 (rd_T124 xs i).f1.f1) := by
  obtain ⟨ad, c, e, _, hK, hc0⟩ := Kd.C_get h z124 i h0 h1
  have hc : ∀ j u, c[j]? = some u → w.cell? (ad.add (i.toNat * 3 + j)) = some u := hc0
  obtain rfl := k124_open hK
  exact ⟨ad, e, hc 0 _ rfl, by rw [← add_field _ _ 1 (by omega)]; exact hc 1 _ rfl, by rw [← add_field _ _ 2 (by omega)]; exact hc 2 _ rfl⟩

/-! #### struct type 139 -/
structure S139 where
  f0 : S124
  f1 : Int
  f2 : Int
def z139 : S139 := ⟨z124, (0 : Int), (0 : Int)⟩
def k139 : Kd S139 := Kd.iso (Kd.pair k124 (Kd.pair (Kd.int .i64) (Kd.int .i64))) (fun x : S139 => (x.f0, x.f1, x.f2))
theorem k139_open {w : World} {x : S139} {cs : List Value} (h : k139.K w x cs) : cs = [.int .i64 x.f0.f0, .int .i64 x.f0.f1.f0, .int .i64 x.f0.f1.f1, .int .i64 x.f1, .int .i64 x.f2] := by
  obtain ⟨_, _, rfl, s0, ⟨_, _, rfl, rfl, rfl⟩⟩ := h
  obtain rfl := k124_open s0
  exact rfl
theorem k139_openM {w : World} {base : Nat} {ok : Nat → Prop} {x : S139} {cs : List Value} (h : k139.M w base ok x cs) : cs = [.int .i64 x.f0.f0, .int .i64 x.f0.f1.f0, .int .i64 x.f0.f1.f1, .int .i64 x.f1, .int .i64 x.f2] := by
  obtain ⟨_, _, rfl, s0, ⟨_, _, rfl, rfl, rfl⟩⟩ := h
  obtain rfl := k124_openM s0
  exact rfl
theorem k139_mk (w : World) (x : S139)  : k139.K w x [.int .i64 x.f0.f0, .int .i64 x.f0.f1.f0, .int .i64 x.f0.f1.f1, .int .i64 x.f1, .int .i64 x.f2] := ⟨[.int .i64 x.f0.f0, .int .i64 x.f0.f1.f0, .int .i64 x.f0.f1.f1], [.int .i64 x.f1, .int .i64 x.f2], rfl, (k124_mk w x.f0 ), ⟨[.int .i64 x.f1], [.int .i64 x.f2], rfl, rfl, rfl⟩⟩
theorem k139_mkM (w : World) (base : Nat) (ok : Nat → Prop) (x : S139)  : k139.M w base ok x [.int .i64 x.f0.f0, .int .i64 x.f0.f1.f0, .int .i64 x.f0.f1.f1, .int .i64 x.f1, .int .i64 x.f2] := ⟨[.int .i64 x.f0.f0, .int .i64 x.f0.f1.f0, .int .i64 x.f0.f1.f1], [.int .i64 x.f1, .int .i64 x.f2], rfl, (k124_mkM w base ok x.f0 ), ⟨[.int .i64 x.f1], [.int .i64 x.f2], rfl, rfl, rfl⟩⟩
theorem k139_mkF (W : World) (ok : Nat → Prop) (x : S139) : Kd.FK k139 W ok x [.int .i64 x.f0.f0, .int .i64 x.f0.f1.f0, .int .i64 x.f0.f1.f1, .int .i64 x.f1, .int .i64 x.f2] := fun W2 _ => k139_mk W2 x
def rd_T139 (xs : List S139) (i : Int) : S139 := xs.getD i.toNat z139
theorem at_T139 {w : World} {A : Option Addr} {n : Nat} {xs : List S139} (h : Kd.C k139 w A n xs) (i : Int) (h0 : 0 ≤ i) (h1 : i < n) : ∃ ad , A = some ad ∧ w.cell? (ad.add (i.toNat * 5)) = some (.int .i64 (rd_T139 xs i).f0.f0) ∧ w.cell? ⟨(ad.add (i.toNat * 5)).block, (ad.add (i.toNat * 5)).off + 1, none⟩ = some (.int .i64 (rd_T139 xs i).f0.f1.f0) ∧ w.cell? ⟨(ad.add (i.toNat * 5)).block, (ad.add (i.toNat * 5)).off + 2, none⟩ = some (.int .i64 (rd_T139 xs i).f0.f1.f1) ∧ w.cell? ⟨(ad.add (i.toNat * 5)).block, (ad.add (i.toNat * 5)).off + 3, none⟩ = some (.int .i64 (rd_T139 xs i).f1) ∧ w.cell? ⟨(ad.add (i.toNat * 5)).block, (ad.add (i.toNat * 5)).off + 4, none⟩ = some (.int .i64 (rd_T139 xs i).f2) := by
  obtain ⟨ad, c, e, _, hK, hc0⟩ := Kd.C_get h z139 i h0 h1
  have hc : ∀ j u, c[j]? = some u → w.cell? (ad.add (i.toNat * 5 + j)) = some u := hc0
  obtain rfl := k139_open hK
  exact ⟨ad, e, hc 0 _ rfl, by rw [← add_field _ _ 1 (by omega)]; exact hc 1 _ rfl, by rw [← add_field _ _ 2 (by omega)]; exact hc 2 _ rfl, by rw [← add_field _ _ 3 (by omega)]; exact hc 3 _ rfl, by rw [← add_field _ _ 4 (by omega)]; exact hc 4 _ rfl⟩

end Go.Proofs.Ytamimodkcbbpmaa.Pr
end
section
/- The arguments as data: what the reading of a hypergraph and of a derivation says about memory. -/
namespace Go.Proofs.Ytamimodkcbbpmaa.Pr
open Go.RowKit Go.Proofs.YtamimodkcbbpmaaW.PrintWords Go.Proofs.YtamimodkcbbpmaaW.PrintLast
set_option linter.unusedVariables false
set_option linter.unusedSimpArgs false
theorem len2 {α : Type} {l : List α} (h : l.length = 2) : ∃ a b, l = [a, b] := by
  match l, h with
  | [a, b], _ => exact ⟨a, b, rfl⟩
theorem len5 {α : Type} {l : List α} (h : l.length = 5) : ∃ a b c d e, l = [a, b, c, d, e] := by
  match l, h with
  | [a, b, c, d, e], _ => exact ⟨a, b, c, d, e, rfl⟩
section
variable {H : Type} {enc : TypeId × Value → H} {P : Program} {w : World} {sp : Nat → Bool} {held : Bool}

/-- A struct's fields. -/
theorem trod_field {t : TypeId} {fs : Array Field} (ht : P.underlying t = some (.struct fs)) {fuel : Nat} {cs : List Value} {x : DataW H × List MemPlace} (h : DataW.trod enc P w 0 sp held fuel t cs = some x) :
    ∃ n, fuel = n + 1 ∧ cs.length = P.cellsOf t ∧ ∀ (i : Nat) (f : Field), fs[i]? = some f → ∃ y, DataW.trod enc P w 0 sp held n f.type ((cs.drop f.offset).take (P.cellsOf f.type)) = some y := by
  obtain ⟨xs, n, rfl, rfl, hl, hx, hf⟩ := DataW.trod_struct ht h
  refine ⟨n, rfl, hl, fun i f hi => ?_⟩
  have hlt : i < xs.length := by
    rw [hx]
    rcases Nat.lt_or_ge i fs.size with h1 | h1
    · exact h1
    · rw [Array.getElem?_eq_none h1] at hi; cases hi
  exact ⟨xs[i], by rw [hf i f hi, List.getElem?_eq_getElem hlt]⟩
/-- A row of elements that are told by d. -/
theorem trod_rows {α : Type} (d : Kd α) (z : α) {t e : TypeId} (ht : P.underlying t = some (.slice e)) (hc : P.cellsOf e = d.sz) (Q : α → Prop) {fuel : Nat} {cs : List Value} {x : DataW H × List MemPlace} (h : DataW.trod enc P w 0 sp held fuel t cs = some x)
    (hel : ∀ (n : Nat) (cs : List Value) (x : DataW H × List MemPlace), n < fuel → DataW.trod enc P w 0 sp held n e cs = some x → cs.length = d.sz → ∃ v, d.K w v cs ∧ Q v) :
    ∃ (A : Option Addr) (c : Nat) (xs : List α), cs = [.slice A xs.length c] ∧ xs.length ≤ c ∧ xs.length ≤ 9223372036854775807 ∧ Kd.C d w A xs.length xs ∧ ∀ v, v ∈ xs → Q v := by
  rcases DataW.trod_slice ht h with ⟨rfl, _⟩ | ⟨a, len, cap, elems, rest, n, rfl, rfl, rfl, _, hl, hm, hlen, hel2, _, _⟩
  · exact ⟨none, 0, [], rfl, Nat.le_refl _, Nat.zero_le _, ⟨rfl, Nat.zero_le _, fun h => absurd h (by simp)⟩, fun v hv => by cases hv⟩
  · have hmax : maxLen = 9223372036854775807 := rfl
    haveI : Inhabited α := ⟨z⟩
    obtain ⟨V, hV⟩ := Go.Deep.choose_lt (α := α) (n := len) (p := fun i v => ∃ cs', cs'.length = d.sz ∧ d.K w v cs' ∧ Q v ∧ ∀ j u, cs'[j]? = some u → w.cell? (a.add (i * d.sz + j)) = some u) (fun i hi => by
      have h1 := hel2 i hi
      rw [List.getElem?_eq_getElem (by omega)] at h1
      obtain ⟨cs', h2, h3⟩ := Option.bind_eq_some_iff.1 h1
      obtain ⟨_, h4, h5⟩ := World.cells?_some h2
      rw [hc] at h4 h5
      obtain ⟨v, hv, hq⟩ := hel n cs' _ (Nat.lt_succ_self n) h3 h4
      refine ⟨v, cs', h4, hv, hq, fun j u hj => ?_⟩
      have hjl : j < d.sz := by
        rcases Nat.lt_or_ge j cs'.length with h6 | h6
        · omega
        · rw [List.getElem?_eq_none h6] at hj; cases hj
      rw [← add_add, h5 j hjl]
      exact hj)
    have hxl : ((List.range len).map V).length = len := by simp
    refine ⟨some a, cap, (List.range len).map V, by rw [hxl], by rw [hxl]; exact hl, by rw [hxl]; omega, ⟨rfl, by rw [hxl]; omega, fun _ => ⟨a, rfl, fun j p hj => ?_⟩⟩, fun v hv => ?_⟩
    · have hjl : j < len := by
        rcases Nat.lt_or_ge j len with h6 | h6
        · exact h6
        · rw [List.getElem?_eq_none (by rw [hxl]; exact h6)] at hj; cases hj
      rw [List.getElem?_map, List.getElem?_range hjl] at hj
      injection hj with hj
      subst hj
      obtain ⟨cs', h4, hv, _, h5⟩ := hV j hjl
      exact ⟨cs', h4, hv, h5⟩
    · obtain ⟨i, hi, rfl⟩ := List.mem_map.1 hv
      obtain ⟨cs', _, _, hq, _⟩ := hV i (List.mem_range.1 hi)
      exact hq
end
section
variable {H : Type} {enc : TypeId × Value → H} {w : World} {sp : Nat → Bool} {held : Bool}
/-- What a row of numbers is made of. -/
theorem trod_int3 {n : Nat} {cs : List Value} {x : DataW H × List MemPlace} (h : DataW.trod enc Try.prog w 0 sp held n 3 cs = some x) : ∃ v : Int, cs = [.int .i64 v] ∧ (-9223372036854775808 ≤ v ∧ v ≤ 9223372036854775807) := by
  obtain ⟨v, rfl, _, hw⟩ := DataW.trod_int Try.underlying3 h
  refine ⟨v, rfl, ?_⟩
  simp [Lit.wf, IntKind.min, IntKind.max, IntKind.signed, IntKind.bits] at hw
  omega
theorem trod_44 {n : Nat} {cs : List Value} {x : DataW H × List MemPlace} (h : DataW.trod enc Try.prog w 0 sp held n 44 cs = some x) :
    ∃ (A : Option Addr) (c : Nat) (xs : List Int), cs = [.slice A xs.length c] ∧ xs.length ≤ c ∧ xs.length ≤ 9223372036854775807 ∧ Kd.C (Kd.int .i64) w A xs.length xs ∧ ∀ v, v ∈ xs → (-9223372036854775808 ≤ v ∧ v ≤ 9223372036854775807) :=
  trod_rows (Kd.int .i64) 0 Try.underlying44 (by kernel_rfl) (fun v => -9223372036854775808 ≤ v ∧ v ≤ 9223372036854775807) h (fun n cs x _ h2 _ => by
    obtain ⟨v, rfl, hv⟩ := trod_int3 h2
    exact ⟨v, rfl, hv⟩)
/-- The bounds of a hyperedge. -/
structure Fits54 (e : S54) : Prop where
  len : e.f1.length ≤ 9223372036854775807
  f0 : -9223372036854775808 ≤ e.f0 ∧ e.f0 ≤ 9223372036854775807
  f2 : -9223372036854775808 ≤ e.f2 ∧ e.f2 ≤ 9223372036854775807
  f1 : ∀ v, v ∈ e.f1 → (-9223372036854775808 ≤ v ∧ v ≤ 9223372036854775807)
set_option maxRecDepth 100000 in
theorem trod_54 {n : Nat} {cs : List Value} {x : DataW H × List MemPlace} (h : DataW.trod enc Try.prog w 0 sp held n 54 cs = some x) : ∃ e : S54, k54.K w e cs ∧ Fits54 e := by
  obtain ⟨m, rfl, hl, hf⟩ := trod_field Try.underlying54 h
  obtain ⟨c0, c1, c2, c3, c4, rfl⟩ := len5 (hl.trans (by kernel_rfl))
  clear hl
  obtain ⟨y0, h0⟩ := hf 0 _ rfl
  replace h0 : DataW.trod enc Try.prog w 0 sp held m 3 (([c0, c1, c2, c3, c4].drop 0).take (Try.prog.cellsOf 3)) = some y0 := h0
  obtain ⟨y1, h1⟩ := hf 1 _ rfl
  replace h1 : DataW.trod enc Try.prog w 0 sp held m 44 (([c0, c1, c2, c3, c4].drop 1).take (Try.prog.cellsOf 44)) = some y1 := h1
  obtain ⟨y2, h2⟩ := hf 2 _ rfl
  replace h2 : DataW.trod enc Try.prog w 0 sp held m 3 (([c0, c1, c2, c3, c4].drop 2).take (Try.prog.cellsOf 3)) = some y2 := h2
  obtain ⟨y3, h3⟩ := hf 3 _ rfl
  replace h3 : DataW.trod enc Try.prog w 0 sp held m 52 (([c0, c1, c2, c3, c4].drop 3).take (Try.prog.cellsOf 52)) = some y3 := h3
  rw [show Try.prog.cellsOf 3 = 1 by kernel_rfl] at h0 h2
  rw [show Try.prog.cellsOf 44 = 1 by kernel_rfl] at h1
  rw [show Try.prog.cellsOf 52 = 2 by kernel_rfl] at h3
  obtain ⟨v0, e0, b0⟩ := trod_int3 h0
  obtain ⟨v2, e2, b2⟩ := trod_int3 h2
  obtain ⟨A, c, xs, e1, hc, hx, hC, hQ⟩ := trod_44 h1
  obtain ⟨v3, v4, e34⟩ : ∃ v3 v4 : Int, [c3, c4] = [.int .i64 v3, .int .i64 v4] := by
    replace h3 : DataW.trod enc Try.prog w 0 sp held m 52 [c3, c4] = some y3 := h3
    clear h0 h1 h2 hf
    obtain ⟨xs3, m3, rfl, _, _, hx3, hf3⟩ := DataW.trod_array Try.underlying52 h3
    obtain ⟨z0, z1, rfl⟩ := len2 hx3
    have h30 := hf3 0 (by decide)
    have h31 := hf3 1 (by decide)
    obtain ⟨n1, hn1⟩ : ∃ n1, n1 = Try.prog.cellsOf 3 := ⟨_, rfl⟩
    rw [← hn1] at h30 h31
    obtain rfl : n1 = 1 := hn1.trans (by kernel_rfl)
    clear hf3 h3 hn1
    obtain ⟨v3, e3, _⟩ := trod_int3 (x := z0) h30
    obtain ⟨v4, e4, _⟩ := trod_int3 (x := z1) h31
    have q3 : c3 = .int .i64 v3 := by simpa using e3
    have q4 : c4 = .int .i64 v4 := by simpa using e4
    exact ⟨v3, v4, by rw [q3, q4]⟩
  have q0 : c0 = .int .i64 v0 := by simpa using e0
  have q1 : c1 = .slice A xs.length c := by simpa using e1
  have q2 : c2 = .int .i64 v2 := by simpa using e2
  have q34 := e34
  injection q34 with q3 q34
  injection q34 with q4 _
  subst q0 q1 q2 q3 q4
  exact ⟨⟨v0, xs, v2, ⟨v3, v4⟩⟩, k54_mk w ⟨v0, xs, v2, ⟨v3, v4⟩⟩ hc hC, ⟨hx, b0, b2, hQ⟩⟩
theorem trod_22 {n : Nat} {cs : List Value} {x : DataW H × List MemPlace} (h : DataW.trod enc Try.prog w 0 sp held n 22 cs = some x) :
    ∃ (A : Option Addr) (c : Nat) (xs : List S54), cs = [.slice A xs.length c] ∧ xs.length ≤ c ∧ xs.length ≤ 9223372036854775807 ∧ Kd.C k54 w A xs.length xs ∧ ∀ v, v ∈ xs → Fits54 v :=
  trod_rows k54 ⟨0, [], 0, ⟨0, 0⟩⟩ Try.underlying22 (by kernel_rfl) Fits54 h (fun n cs x _ h2 _ => trod_54 h2)
/-- The bounds of a derivation. -/
inductive Fits27 : S27 → Prop
  | mk (d : S27) (hf : -9223372036854775808 ≤ d.f0 ∧ d.f0 ≤ 9223372036854775807) (hl : d.f1.length ≤ 9223372036854775807) (hk : ∀ v, v ∈ d.f1 → Fits27 v) : Fits27 d
theorem trod_27 : ∀ (n : Nat) {cs : List Value} {x : DataW H × List MemPlace}, DataW.trod enc Try.prog w 0 sp held n 27 cs = some x → ∃ d : S27, k27.K w d cs ∧ Fits27 d := by
  intro n
  induction n using Nat.strongRecOn with
  | ind n ih =>
    intro cs x h
    obtain ⟨m, rfl, hl, hf⟩ := trod_field Try.underlying27 h
    obtain ⟨c0, c1, rfl⟩ := len2 (hl.trans (by kernel_rfl))
    clear hl
    obtain ⟨y0, h0⟩ := hf 0 _ rfl
    replace h0 : DataW.trod enc Try.prog w 0 sp held m 3 (([c0, c1].drop 0).take (Try.prog.cellsOf 3)) = some y0 := h0
    obtain ⟨y1, h1⟩ := hf 1 _ rfl
    replace h1 : DataW.trod enc Try.prog w 0 sp held m 25 (([c0, c1].drop 1).take (Try.prog.cellsOf 25)) = some y1 := h1
    rw [show Try.prog.cellsOf 3 = 1 by kernel_rfl] at h0
    rw [show Try.prog.cellsOf 25 = 1 by kernel_rfl] at h1
    obtain ⟨v0, e0, b0⟩ := trod_int3 h0
    obtain ⟨A, c, xs, e1, hc, hx, hC, hQ⟩ := trod_rows k27 z27 Try.underlying25 (by kernel_rfl) Fits27 h1 (fun n2 cs x hn h2 _ => ih n2 (by omega) h2)
    have q0 : c0 = .int .i64 v0 := by simpa using e0
    have q1 : c1 = .slice A xs.length c := by simpa using e1
    subst q0 q1
    exact ⟨⟨v0, xs⟩, k27_mk w ⟨v0, xs⟩ hc hC, Fits27.mk _ b0 hx hQ⟩
theorem len9 {α : Type} {l : List α} (h : l.length = 9) : ∃ a b c d e f g i j, l = [a, b, c, d, e, f, g, i, j] := by
  match l, h with
  | [a, b, c, d, e, f, g, i, j], _ => exact ⟨a, b, c, d, e, f, g, i, j, rfl⟩
/-- A hypergraph in memory. -/
structure In24 (w : World) (n : Int) (A : Option Addr) (c : Nat) (l : List S54) : Prop where
  n : -9223372036854775808 ≤ n ∧ n ≤ 9223372036854775807
  c : l.length ≤ c
  C : Kd.C k54 w A l.length l
  f : ∀ v, v ∈ l → Fits54 v
theorem open_24 {n : Nat} {cs : List Value} {x : DataW H × List MemPlace} (h : DataW.trod enc Try.prog w 0 sp held n 24 cs = some x) : ∃ (v : Int) (A : Option Addr) (c : Nat) (l : List S54), cs = [.int .i64 v, .slice A l.length c] ∧ In24 w v A c l := by
  obtain ⟨m, rfl, hl, hf⟩ := trod_field Try.underlying24 h
  obtain ⟨c0, c1, rfl⟩ := len2 (hl.trans (by kernel_rfl))
  clear hl
  obtain ⟨y0, h0⟩ := hf 0 _ rfl
  replace h0 : DataW.trod enc Try.prog w 0 sp held m 3 (([c0, c1].drop 0).take (Try.prog.cellsOf 3)) = some y0 := h0
  obtain ⟨y1, h1⟩ := hf 1 _ rfl
  replace h1 : DataW.trod enc Try.prog w 0 sp held m 22 (([c0, c1].drop 1).take (Try.prog.cellsOf 22)) = some y1 := h1
  rw [show Try.prog.cellsOf 3 = 1 by kernel_rfl] at h0
  rw [show Try.prog.cellsOf 22 = 1 by kernel_rfl] at h1
  obtain ⟨v0, e0, b0⟩ := trod_int3 h0
  obtain ⟨A, c, xs, e1, hc, hx, hC, hQ⟩ := trod_22 h1
  have q0 : c0 = .int .i64 v0 := by simpa using e0
  have q1 : c1 = .slice A xs.length c := by simpa using e1
  subst q0 q1
  exact ⟨v0, A, c, xs, rfl, ⟨b0, hc, hC, hQ⟩⟩
/-- A derivation in memory. -/
structure In27 (w : World) (A : Option Addr) (c : Nat) (d : S27) : Prop where
  c : d.f1.length ≤ c
  C : Kd.C k27 w A d.f1.length d.f1
  f : Fits27 d
theorem open_27 {n : Nat} {cs : List Value} {x : DataW H × List MemPlace} (h : DataW.trod enc Try.prog w 0 sp held n 27 cs = some x) : ∃ (d : S27) (A : Option Addr) (c : Nat), cs = [.int .i64 d.f0, .slice A d.f1.length c] ∧ In27 w A c d := by
  obtain ⟨d, hK, hF⟩ := trod_27 n h
  obtain ⟨A, c, rfl, hc, hC⟩ := k27_open hK
  exact ⟨d, A, c, rfl, hc, hC, hF⟩
set_option maxRecDepth 100000 in
theorem open_29 {n : Nat} {cs : List Value} {x : DataW H × List MemPlace} (h : DataW.trod enc Try.prog w 0 sp held n 29 cs = some x) :
    ∃ (v : Int) (A : Option Addr) (c : Nat) (l : List S54) (r : Int) (d1 : S27) (A1 : Option Addr) (k1 : Nat) (d2 : S27) (A2 : Option Addr) (k2 : Nat) (d3 : S27) (A3 : Option Addr) (k3 : Nat),
      cs = [.int .i64 v, .slice A l.length c, .int .i64 r, .int .i64 d1.f0, .slice A1 d1.f1.length k1, .int .i64 d2.f0, .slice A2 d2.f1.length k2, .int .i64 d3.f0, .slice A3 d3.f1.length k3] ∧ In24 w v A c l ∧ (-9223372036854775808 ≤ r ∧ r ≤ 9223372036854775807) ∧ In27 w A1 k1 d1 ∧ In27 w A2 k2 d2 ∧ In27 w A3 k3 d3 := by
  obtain ⟨m, rfl, hl, hf⟩ := trod_field Try.underlying29 h
  obtain ⟨c0, c1, c2, c3, c4, c5, c6, c7, c8, rfl⟩ := len9 (hl.trans (by kernel_rfl))
  clear hl
  obtain ⟨y0, h0⟩ := hf 0 _ rfl
  replace h0 : DataW.trod enc Try.prog w 0 sp held m 24 (([c0, c1, c2, c3, c4, c5, c6, c7, c8].drop 0).take (Try.prog.cellsOf 24)) = some y0 := h0
  obtain ⟨y1, h1⟩ := hf 1 _ rfl
  replace h1 : DataW.trod enc Try.prog w 0 sp held m 3 (([c0, c1, c2, c3, c4, c5, c6, c7, c8].drop 2).take (Try.prog.cellsOf 3)) = some y1 := h1
  obtain ⟨y2, h2⟩ := hf 2 _ rfl
  replace h2 : DataW.trod enc Try.prog w 0 sp held m 27 (([c0, c1, c2, c3, c4, c5, c6, c7, c8].drop 3).take (Try.prog.cellsOf 27)) = some y2 := h2
  obtain ⟨y3, h3⟩ := hf 3 _ rfl
  replace h3 : DataW.trod enc Try.prog w 0 sp held m 27 (([c0, c1, c2, c3, c4, c5, c6, c7, c8].drop 5).take (Try.prog.cellsOf 27)) = some y3 := h3
  obtain ⟨y4, h4⟩ := hf 4 _ rfl
  replace h4 : DataW.trod enc Try.prog w 0 sp held m 27 (([c0, c1, c2, c3, c4, c5, c6, c7, c8].drop 7).take (Try.prog.cellsOf 27)) = some y4 := h4
  clear hf h
  rw [show Try.prog.cellsOf 24 = 2 by kernel_rfl] at h0
  rw [show Try.prog.cellsOf 3 = 1 by kernel_rfl] at h1
  rw [show Try.prog.cellsOf 27 = 2 by kernel_rfl] at h2 h3 h4
  obtain ⟨v, A, c, l, e0, i0⟩ := open_24 (cs := [c0, c1]) h0
  obtain ⟨r, e1, b1⟩ := trod_int3 (cs := [c2]) h1
  obtain ⟨d1, A1, k1, e2, i1⟩ := open_27 (cs := [c3, c4]) h2
  obtain ⟨d2, A2, k2, e3, i2⟩ := open_27 (cs := [c5, c6]) h3
  obtain ⟨d3, A3, k3, e4, i3⟩ := open_27 (cs := [c7, c8]) h4
  injection e0 with q0 e0
  injection e0 with q1 _
  injection e1 with q2 _
  injection e2 with q3 e2
  injection e2 with q4 _
  injection e3 with q5 e3
  injection e3 with q6 _
  injection e4 with q7 e4
  injection e4 with q8 _
  subst q0 q1 q2 q3 q4 q5 q6 q7 q8
  exact ⟨v, A, c, l, r, d1, A1, k1, d2, A2, k2, d3, A3, k3, rfl, i0, b1, i1, i2, i3⟩
end
end Go.Proofs.Ytamimodkcbbpmaa.Pr
end
section
/- What the rows ask of the program itself, shown without reckoning the long list of its roots. -/
namespace Go.Proofs.Ytamimodkcbbpmaa.Pr
open Go Go.ChangeShapes Go.WideShapes Go.ChangeAt Go.RowKit
set_option maxRecDepth 1000000
theorem and2 {a b : Bool} (h : a = true) (k : b = true) : (a && b) = true := by rw [h, k]; rfl
theorem prog_words : ∃ r, behindMainWord (wordsSigns Try.prog.initOrder.toList) = "cut".toList :: r := by
  have h : Try.prog.initOrder.toList = _ := String.toList_ofList
  rw [h]
  exact ⟨_, rfl⟩
theorem make_of (P : Program) (r : List (List Char)) (h : behindMainWord (wordsSigns P.initOrder.toList) = "cut".toList :: r) : P.make = some .cut := by
  unfold Program.make
  rw [h]
  rfl
theorem strip_cut (r : List (List Char)) : stripLifts liftWords ("cut".toList :: r) = ([], "cut".toList :: r) := by kernel_rfl
theorem lifts_of (P : Program) (r : List (List Char)) (h : behindMainWord (wordsSigns P.initOrder.toList) = "cut".toList :: r) : P.liftsFinal = false := by
  unfold Program.liftsFinal Program.headLifts
  rw [h, strip_cut]
  rfl
theorem enter_of (P : Program) (r : List (List Char)) (h : behindMainWord (wordsSigns P.initOrder.toList) = "cut".toList :: r) (h1 : P.laysLater = false) (h2 : P.bearsReflect = false) (h3 : P.doorRows = []) : P.mayEnter = true := by
  have h4 : P.doorFits [] = true := by
    unfold Program.doorFits
    rw [h3]
    rfl
  unfold Program.mayEnter
  rw [h]
  simp only [strip_cut, h1, h2, h4]
  rfl
theorem prog_make : Try.prog.make = some .cut := by
  obtain ⟨r, h⟩ := prog_words
  exact make_of _ r h
theorem prog_lifts : Try.prog.liftsFinal = false := by
  obtain ⟨r, h⟩ := prog_words
  exact lifts_of _ r h
theorem prog_later : Try.prog.laysLater = false := by kernel_rfl
theorem prog_reflect : Try.prog.bearsReflect = false := by kernel_rfl
theorem prog_doors : Try.prog.doorRows = [] := by kernel_rfl
theorem prog_enter : Try.prog.mayEnter = true := by
  obtain ⟨r, h⟩ := prog_words
  exact enter_of _ r h prog_later prog_reflect prog_doors
theorem prog_heard : Try.prog.stopsHeard = true := by kernel_rfl
end Go.Proofs.Ytamimodkcbbpmaa.Pr
end
section
/- Words of this session's own: the quiet operations of a region that draws its order, all of them at once. -/
namespace Go.Proofs.YtamimodkcbbpmaaXW
open Go.RowKit Go.Proofs.YtamimodkcbbpmaaW.PrintWords Go.Proofs.YtamimodkcbbpmaaW.PrintLast

/-- The operations of the list (each with its slot), one behind the other: each yields a value where S holds, and fills its slot. -/
def Chain (P : Program) (ops : Array Oper) (S : World → Prop) : List (Nat × Tmp) → Act → Act → Prop
  | [], a, a' => a = a'
  | i :: is, a, a' => ∃ (oi : Oper) (v : Value) (a1 : Act), ops[i.1]? = some oi ∧ oi.dst = some i.2 ∧ YieldsIf P ops S oi v a ∧ a.put (some i.2) v = a1 ∧ Chain P ops S is a1 a'
theorem chain_nil {P : Program} {ops : Array Oper} {S : World → Prop} {a : Act} : Chain P ops S [] a a := rfl
theorem chain_cons {P : Program} {ops : Array Oper} {S : World → Prop} {i : Nat} {t : Tmp} {is : List (Nat × Tmp)} {a a' : Act} {oi : Oper} {v : Value} {a1 : Act} (hi : ops[i]? = some oi) (hN : oi.dst = some t) (hy : YieldsIf P ops S oi v a) (ha : a.put (some t) v = a1) (h : Chain P ops S is a1 a') :
    Chain P ops S ((i, t) :: is) a a' := ⟨oi, v, a1, hi, hN, hy, ha, h⟩
/-- An operation that its guard leaves out. -/
theorem chain_off {P : Program} {ops : Array Oper} {S : World → Prop} {i : Nat} {t : Tmp} {is : List (Nat × Tmp)} {a a' : Act} {oi : Oper} {a1 : Act} (hi : ops[i]? = some oi) (hN : oi.dst = some t) (hw : Region.wanted oi (yielded ops a.tmps) = false) (ha : a.put (some t) undef = a1) (h : Chain P ops S is a1 a') :
    Chain P ops S ((i, t) :: is) a a' := ⟨oi, undef, a1, hi, hN, Or.inr ⟨hw, rfl⟩, ha, h⟩

def bulkB (md : Region.Mode) (ops : Array Oper) (ds : List Nat) : List (Nat × Tmp) → Array Bool → Array Bool → Bool
  | [], l, l' => l == l'
  | i :: is, l, l' => takeB md ops ds l (l.setIfInBounds i.1 true) i.1 && bulkB md ops ds is (l.setIfInBounds i.1 true) l'

section
variable {P : Program} {md : Region.Mode} {ops : Array Oper} {Q : Exit → Act → World → Prop} {S : World → Prop} {ds : List Nat}
theorem bulk_aux (hQ : ∀ c a t v w, Q (.panic c) (Act.put a (some t) v) w → Q (.panic c) a w) {w : World} (hS : S w) {fuel : Nat} {l' : Array Bool} {a' : Act} (h : wpAnyLast P md ops Q S ds fuel l' a' w) :
    ∀ (is : List (Nat × Tmp)) (l : Array Bool) (a : Act), bulkB md ops ds is l l' = true → Chain P ops S is a a' → wpAnyLast P md ops Q S ds (fuel + is.length) l a w
  | [], l, a, hb, hc => by
    simp only [bulkB, beq_iff_eq] at hb
    subst hb
    subst hc
    exact h
  | i :: is, l, a, hb, hc => by
    simp only [bulkB, Bool.and_eq_true] at hb
    obtain ⟨oi, v, a1, hi, hN, hy, rfl, hc⟩ := hc
    have := bulk_aux hQ hS h is (l.setIfInBounds i.1 true) (a.put (some i.2) v) hb.2 hc
    exact take_ (fuel := fuel + is.length) _ hi hN hb.1 (fun c a w => by rw [hN]; exact hQ c a _ _ w) hy hS rfl this
/-- The quiet operations of the list, in one step. -/
theorem bulk_ {w : World} {n fuel : Nat} {l : Array Bool} {a a' : Act} (is : List (Nat × Tmp)) (l' : Array Bool) (hb : bulkB md ops ds is l l' = true) (hn : (fuel + is.length == n) = true)
    (hQ : ∀ c a t v w, Q (.panic c) (Act.put a (some t) v) w → Q (.panic c) a w) (hS : S w) (hc : Chain P ops S is a a') (h : wpAnyLast P md ops Q S ds fuel l' a' w) : wpAnyLast P md ops Q S ds n l a w := by
  rw [beq_iff_eq] at hn
  subst hn
  exact bulk_aux hQ hS h is l a hb hc
/-- The same by the region's table. -/
def bulkW (T : Bool × List (List Nat × List Nat)) (B : List Nat) (ds : List Nat) : List (Nat × Tmp) → List Bool → List Bool → Bool
  | [], l, l' => l == l'
  | i :: is, l, l' => takeW T B ds l (l.set i.1 true) i.1 && bulkW T B ds is (l.set i.1 true) l'
theorem bulkB_of {T : Bool × List (List Nat × List Nat)} {B : List Nat} (hT : rtab md ops = T) (hB : waitsOk T.2 B = true) : ∀ (is : List (Nat × Tmp)) (l l' : Array Bool), bulkW T B ds is l.toList l'.toList = true → bulkB md ops ds is l l' = true
  | [], l, l', h => by
    simp only [bulkW, beq_iff_eq] at h
    simp only [bulkB, beq_iff_eq]
    exact Array.ext' h
  | i :: is, l, l', h => by
    simp only [bulkW, Bool.and_eq_true] at h
    simp only [bulkB, Bool.and_eq_true]
    have e : l.toList.set i.1 true = (l.setIfInBounds i.1 true).toList := by simp
    rw [e] at h
    exact ⟨take_ofW hT hB h.1, bulkB_of hT hB is _ _ h.2⟩

/-! The same for operations that yield in every world, behind stores too. -/
def ChainP (P : Program) (ops : Array Oper) : List (Nat × Tmp) → Act → Act → Prop
  | [], a, a' => a = a'
  | i :: is, a, a' => ∃ (oi : Oper) (v : Value) (a1 : Act), ops[i.1]? = some oi ∧ oi.dst = some i.2 ∧ Yields P ops oi v a ∧ a.put (some i.2) v = a1 ∧ ChainP P ops is a1 a'
theorem chainP_nil {a : Act} : ChainP P ops [] a a := rfl
theorem chainP_cons {i : Nat} {t : Tmp} {is : List (Nat × Tmp)} {a a' : Act} {oi : Oper} {v : Value} {a1 : Act} (hi : ops[i]? = some oi) (hN : oi.dst = some t) (hy : Yields P ops oi v a) (ha : a.put (some t) v = a1) (h : ChainP P ops is a1 a') :
    ChainP P ops ((i, t) :: is) a a' := ⟨oi, v, a1, hi, hN, hy, ha, h⟩
def bulkP (md : Region.Mode) (ops : Array Oper) : List (Nat × Tmp) → Array Bool → Array Bool → Bool
  | [], l, l' => l == l'
  | i :: is, l, l' => anyB md ops l (l.setIfInBounds i.1 true) i.1 && bulkP md ops is (l.setIfInBounds i.1 true) l'
theorem bulkP_aux (hQ : ∀ c a t v w, Q (.panic c) (Act.put a (some t) v) w → Q (.panic c) a w) {w : World} {fuel : Nat} {l' : Array Bool} {a' : Act} (h : wpAnyLast P md ops Q S ds fuel l' a' w) :
    ∀ (is : List (Nat × Tmp)) (l : Array Bool) (a : Act), bulkP md ops is l l' = true → ChainP P ops is a a' → wpAnyLast P md ops Q S ds (fuel + is.length) l a w
  | [], l, a, hb, hc => by
    simp only [bulkP, beq_iff_eq] at hb
    subst hb
    subst hc
    exact h
  | i :: is, l, a, hb, hc => by
    simp only [bulkP, Bool.and_eq_true] at hb
    obtain ⟨oi, v, a1, hi, hN, hy, rfl, hc⟩ := hc
    have := bulkP_aux hQ h is (l.setIfInBounds i.1 true) (a.put (some i.2) v) hb.2 hc
    exact pure_ (fuel := fuel + is.length) _ hi hN hb.1 (fun c a w => by rw [hN]; exact hQ c a _ _ w) hy rfl this
theorem bulkP_ {w : World} {n fuel : Nat} {l : Array Bool} {a a' : Act} (is : List (Nat × Tmp)) (l' : Array Bool) (hb : bulkP md ops is l l' = true) (hn : (fuel + is.length == n) = true)
    (hQ : ∀ c a t v w, Q (.panic c) (Act.put a (some t) v) w → Q (.panic c) a w) (hc : ChainP P ops is a a') (h : wpAnyLast P md ops Q S ds fuel l' a' w) : wpAnyLast P md ops Q S ds n l a w := by
  rw [beq_iff_eq] at hn
  subst hn
  exact bulkP_aux hQ h is l a hb hc
def bulkPW (T : Bool × List (List Nat × List Nat)) : List (Nat × Tmp) → List Bool → List Bool → Bool
  | [], l, l' => l == l'
  | i :: is, l, l' => anyT T l (l.set i.1 true) i.1 && bulkPW T is (l.set i.1 true) l'
theorem bulkP_of {T : Bool × List (List Nat × List Nat)} (hT : rtab md ops = T) : ∀ (is : List (Nat × Tmp)) (l l' : Array Bool), bulkPW T is l.toList l'.toList = true → bulkP md ops is l l' = true
  | [], l, l', h => by
    simp only [bulkPW, beq_iff_eq] at h
    simp only [bulkP, beq_iff_eq]
    exact Array.ext' h
  | i :: is, l, l', h => by
    simp only [bulkPW, Bool.and_eq_true] at h
    simp only [bulkP, Bool.and_eq_true]
    have e : l.toList.set i.1 true = (l.setIfInBounds i.1 true).toList := by simp
    rw [e] at h
    exact ⟨any_of hT h.1, bulkP_of hT is _ _ h.2⟩
end
end Go.Proofs.YtamimodkcbbpmaaXW
end
section
/- Two words for the shortened texts: a frame, a block, seen from a later world. -/
namespace Go.Proofs.Ytamimodkcbbpmaa.Pr
open Go.RowKit Go.Proofs.YtamimodkcbbpmaaW.PrintWords Go.Proofs.YtamimodkcbbpmaaW.PrintLast Go.Proofs.YtamimodkcbbpmaaXW
theorem bel {a w w' : World} (h : Aside0 (Below a.heap.size a w)) (k : Below a.heap.size a w → Below a.heap.size a w' := by
    intro h_
    repeat (first | (with_reducible first | exact h_ | apply below_alloc | apply pw_below_drewN | apply below_drew1 | refine below_set ?_ (Aside0.out (by assumption))) | exact h_)) : Below a.heap.size a w' := k h.out
theorem bk {w w' : World} {g : Nat} {o : Obj} (h : Aside0 (w.heap[g]? = some o)) (k : w.heap[g]? = some o → w'.heap[g]? = some o := by
    intro h_
    (with_reducible repeat (first | refine blk_drewN ?_ _ | refine blk_drew ?_ | refine blk_alloc ?_ _))
    exact h_) : w'.heap[g]? = some o := k h.out
end Go.Proofs.Ytamimodkcbbpmaa.Pr
end
section
/- Printed by a program of this session (a turned print of the kit's) out of the translation: each Go function as a Lean function, and the proof that the machine's call answers what it says. Lean checks it. -/
namespace Go.Proofs.Ytamimodkcbbpmaa.Pr
open Go.RowKit Go.Proofs.YtamimodkcbbpmaaW.PrintWords Go.Proofs.YtamimodkcbbpmaaW.PrintLast Go.Proofs.YtamimodkcbbpmaaW.PrintMore Go.Proofs.YtamimodkcbbpmaaXW
attribute [local go_sem] max2_int min2_int max_two min_two max_three min_three max_four min_four   -- for this text's walks alone
set_option linter.unusedVariables false
set_option linter.unusedSimpArgs false

/-! ### derivation_follow: function 80 -/
mutual
def derivation_follow.l0 : Nat → List Int → List Int → Int → Int → Int → List (S54) → Int → List (S27) → Option (Int × (List (S27)))
  | 0, _, _, _, _, _, _, _, _ => none
  | k + 1, x1, x21, x22, x23, x150000, x150001, x153000, x153001 => if x23 < x22 then (if 0 ≤ x23 then (if x23 < (x21.length : Int) then ((derivation_follow.f k x150000 x150001 x1 (rd x21 x23)).bind fun bt155 => (if x153001.length < 4398046511104 then (derivation_follow.l0 k x1 x21 x22 (wrap64 (x23 + 1)) x150000 x150001 x153000 (x153001 ++ [(⟨bt155.1, bt155.2⟩ : S27)])) else (none))) else (none)) else (none)) else (some (x153000, x153001))
def derivation_follow.f : Nat → Int → List (S54) → List Int → Int → Option (Int × (List (S27)))
  | 0, _, _, _, _ => none
  | k + 1, a0_0, l0_1, l1, a2 => if 0 ≤ a2 then (if a2 < (l1.length : Int) then (if 0 ≤ (rd l1 a2) then (if (rd l1 a2) < (l0_1.length : Int) then (derivation_follow.l0 k l1 ((rd_T54 l0_1 (rd l1 a2)).f1) (((rd_T54 l0_1 (rd l1 a2)).f1).length : Int) 0 a0_0 l0_1 (rd l1 a2) ([] : List (S27))) else (none)) else (none)) else (none)) else (none)
end
theorem derivation_follow.mono_l : ∀ k, (∀ y0 y1 y2 y3, LeO (derivation_follow.f k y0 y1 y2 y3) (derivation_follow.f (k + 1) y0 y1 y2 y3)) ∧ (∀ y0 y1 y2 y3 y4 y5 y6 y7, LeO (derivation_follow.l0 k y0 y1 y2 y3 y4 y5 y6 y7) (derivation_follow.l0 (k + 1) y0 y1 y2 y3 y4 y5 y6 y7))
  | 0 => ⟨fun _ _ _ _ r h => by simp [derivation_follow.f] at h, fun _ _ _ _ _ _ _ _ r h => by simp [derivation_follow.l0] at h⟩
  | k + 1 => by
    obtain ⟨ih0, ih1⟩ := derivation_follow.mono_l k
    refine ⟨?_, ?_⟩
    all_goals intros
    all_goals first | unfold derivation_follow.f | unfold derivation_follow.l0
    all_goals
      repeat' first
      | (with_reducible exact ih0 _ _ _ _)
      | (with_reducible exact ih1 _ _ _ _ _ _ _ _)
      | (with_reducible exact LeO.refl _)
      | (with_reducible exact LeO.none _)
      | (with_reducible refine LeO.ite ?_ ?_)
      | (with_reducible refine LeO.bind ?_ (fun _ => ?_))
      | exact ih0 _ _ _ _
      | exact ih1 _ _ _ _ _ _ _ _
      | exact LeO.none _
      | refine LeO.ite ?_ ?_
      | refine LeO.bind ?_ (fun _ => ?_)
theorem derivation_follow.mono : ∀ a0 a1 a2 a3 k, LeO (derivation_follow.f k a0 a1 a2 a3) (derivation_follow.f (k + 1) a0 a1 a2 a3) := by
  intro a0 a1 a2 a3 k
  obtain ⟨ih0, ih1⟩ := derivation_follow.mono_l k
  exact ih0 a0 a1 a2 a3
def derivation_follow.T5 : Bool × List (List Nat × List Nat) := (true, [([], []), ([0], [0]), ([], []), ([], []), ([], []), ([2, 3, 4], [2, 3, 4]), ([5], [5]), ([1, 6, 5], [1, 6]), ([0, 1, 2, 3, 4, 5, 6, 7], []), ([8, 7, 7, 0, 1, 2, 3, 4, 5, 6, 7], [7, 8])])
def derivation_follow.B5 : List Nat := [0, 1, 0, 0, 0, 28, 60, 127, 255, 511]
theorem derivation_follow.tab5 : rtab .any (opsOf Try.f80 5) = derivation_follow.T5 := by kernel_rfl
theorem derivation_follow.bits5 : waitsOk derivation_follow.T5.2 derivation_follow.B5 = true := by kernel_rfl
set_option maxHeartbeats 8000000 in
set_option maxRecDepth 100000 in
theorem derivation_follow.calls (k : Nat) : ∀ (a0_0 : Int) (A0_1 : Option Addr) (c0_1 : Nat) (l0_1 : List (S54)) (A1 : Option Addr) (c1 : Nat) (l1 : List Int) (a2 : Int) (r1 : Int) (r2 : List (S27)) (w : World) (hr0_1 : Kd.C k54 w A0_1 l0_1.length l0_1) (hc0_1 : l0_1.length ≤ c0_1) (hr1 : Kd.C (Kd.int .i64) w A1 l1.length l1) (hc1 : l1.length ≤ c1) (h : derivation_follow.f k a0_0 l0_1 l1 a2 = some (r1, r2)),
    Calls Try.prog 80 #[.agg #[.int .i64 a0_0, .slice A0_1 l0_1.length c0_1], .slice A1 l1.length c1, .int .i64 a2] w fun e w' => ∃ v1_ : Value, e = .returned (.agg #[.int .i64 r1, v1_]) ∧ Kd.R k27 27 w' w.heap.size (fun _ => True) v1_ r2 ∧ Below w.heap.size w w' := by
  induction k using Nat.strongRecOn with
  | _ k ih =>
  intro a0_0 A0_1 c0_1 l0_1 A1 c1 l1 a2 r1 r2 w hr0_1 hc0_1 hr1 hc1 h
  cases k with
  | zero => exact absurd h (by simp [derivation_follow.f])
  | succ k =>
  simp only [derivation_follow.f] at h
  have hu24 := Try.underlying24
  have hu27 := Try.underlying27
  have HR0_1 := Aside0.mk hr0_1
  have HC0_1 := Aside0.mk hc0_1
  clear hr0_1 hc0_1
  have HR1 := Aside0.mk hr1
  have HC1 := Aside0.mk hc1
  clear hr1 hc1
  have HB := Aside0.mk (Below.refl w.heap.size w)
  have H : (if 0 ≤ a2 then (if a2 < (l1.length : Int) then (if 0 ≤ (rd l1 a2) then (if (rd l1 a2) < (l0_1.length : Int) then (derivation_follow.l0 k l1 ((rd_T54 l0_1 (rd l1 a2)).f1) (((rd_T54 l0_1 (rd l1 a2)).f1).length : Int) 0 a0_0 l0_1 (rd l1 a2) ([] : List (S27))) else (none)) else (none)) else (none)) else (none)) = some (r1, r2) := h
  clear h
  by_cases c4 : 0 ≤ a2
  · rw [if_pos c4] at H
    have c4b0 : decide (0 ≤ a2) = true := decide_eq_true c4
    clear c4
    by_cases c5 : a2 < (l1.length : Int)
    · rw [if_pos c5] at H
      have c5b0 : decide (a2 < (l1.length : Int)) = true := decide_eq_true c5
      clear c5
      by_cases c6 : 0 ≤ (rd l1 a2)
      · rw [if_pos c6] at H
        have c6b0 : decide (0 ≤ (rd l1 a2)) = true := decide_eq_true c6
        clear c6
        by_cases c7 : (rd l1 a2) < (l0_1.length : Int)
        · rw [if_pos c7] at H
          have c7b0 : decide ((rd l1 a2) < (l0_1.length : Int)) = true := decide_eq_true c7
          clear c7
          have H' := Aside0.mk H
          clear H
          go_enter Try.func80, Try.ntmps80
          go_wp2_with (first | ((with_reducible refine gate_dst (N := 3) rfl ?_); refine box_event ?hg (N := 3) ?hd (cs := #[.int .i64 a0_0, .slice A0_1 l0_1.length c0_1]) (t := 24) ?hr ?_; (case hd => rfl); (case hg => rfl); (case hr => first | (go_simp; done) | (go_simp; rfl)); intro gb149 hg w8 hbox hb; have n0_ := Aside0.mk (below_step (bel HB) hb); have n1_ := Aside0.mk (hbox); have n2_ := Aside0.mk ((by rw [hg]; exact (below_size (bel HB)) : w.heap.size ≤ gb149)); have n3_ := Aside0.mk ((by rw [hg]; exact (below_size (bel HB)) : w.heap.size ≤ gb149)); clear HB; have HB := n0_; have BK149 := n1_; have GW149 := n2_; have GE149 := n3_; clear n0_ n1_ n2_ n3_; clear hb hbox hg) | ((with_reducible refine gate_dst (N := 6) rfl ?_); refine box_event ?hg (N := 6) ?hd (cs := #[.int .i64 0, .slice none 0 0]) (t := 27) ?hr ?_; (case hd => rfl); (case hg => rfl); (case hr => first | (go_simp; done) | (go_simp; rfl)); intro gb150 hg w9 hbox hb; have n0_ := Aside0.mk (blk_below (bk BK149) hb); have n1_ := Aside0.mk (below_step (bel HB) hb); have n2_ := Aside0.mk (hbox); have n3_ := Aside0.mk ((by rw [hg]; exact (below_size (bel HB)) : w.heap.size ≤ gb150)); have n4_ := Aside0.mk ((by rw [hg]; exact (below_size (bel HB)) : w.heap.size ≤ gb150)); have n5_ := Aside0.mk ((by rw [hg]; exact Nat.ne_of_lt (blk_lt (bk BK149)) : gb149 ≠ gb150)); have n6_ := Aside0.mk ((by rw [hg]; exact Nat.ne_of_gt (blk_lt (bk BK149)) : gb150 ≠ gb149)); clear BK149; clear HB; have BK149 := n0_; have HB := n1_; have BK150 := n2_; have GW150 := n3_; have GE150 := n4_; have NB149_150 := n5_; have NB150_149 := n6_; clear n0_ n1_ n2_ n3_ n4_ n5_ n6_; clear hb hbox hg; have p151 : 0 ≤ (a2 : Int) := of_decide_eq_true (by first | (with_reducible assumption) | assumption); have q151 : a2 < (l1.length : Int) := of_decide_eq_true (by first | (with_reducible assumption) | assumption); obtain ⟨ad151, e151, hx151_0⟩ := Kd.at_int HR1.out a2 p151 q151; cases e151; replace hx151_0 := (HB.out.cell (World.block_lt_of_cell? w _ hx151_0)).trans hx151_0; replace p151 := eq_true p151; replace q151 := eq_true q151) | ((with_reducible refine gate_dst (N := 7) rfl ?_); refine box_event ?hg (N := 7) ?hd (cs := #[.int .i64 0, .slice none 0 0]) (t := 27) ?hr ?_; (case hd => rfl); (case hg => rfl); (case hr => first | (go_simp; done) | (go_simp; rfl)); intro gb152 hg w10 hbox hb; have n0_ := Aside0.mk (blk_below (bk BK149) hb); have n1_ := Aside0.mk (blk_below (bk BK150) hb); have n2_ := Aside0.mk (below_step (bel HB) hb); have n3_ := Aside0.mk (hbox); have n4_ := Aside0.mk ((by rw [hg]; exact (below_size (bel HB)) : w.heap.size ≤ gb152)); have n5_ := Aside0.mk ((by rw [hg]; exact (below_size (bel HB)) : w.heap.size ≤ gb152)); have n6_ := Aside0.mk ((by rw [hg]; exact Nat.ne_of_lt (blk_lt (bk BK149)) : gb149 ≠ gb152)); have n7_ := Aside0.mk ((by rw [hg]; exact Nat.ne_of_gt (blk_lt (bk BK149)) : gb152 ≠ gb149)); have n8_ := Aside0.mk ((by rw [hg]; exact Nat.ne_of_lt (blk_lt (bk BK150)) : gb150 ≠ gb152)); have n9_ := Aside0.mk ((by rw [hg]; exact Nat.ne_of_gt (blk_lt (bk BK150)) : gb152 ≠ gb150)); clear BK149; clear BK150; clear HB; have BK149 := n0_; have BK150 := n1_; have HB := n2_; have BK152 := n3_; have GW152 := n4_; have GE152 := n5_; have NB149_152 := n6_; have NB152_149 := n7_; have NB150_152 := n8_; have NB152_150 := n9_; clear n0_ n1_ n2_ n3_ n4_ n5_ n6_ n7_ n8_ n9_; clear hb hbox hg; have hnb11 := NB152_149.out; have hnc11 := NB149_152.out; have hnb12 := NB152_150.out; have hnc12 := NB150_152.out; have hcz13_0 : w10.cell? ⟨gb152, 0, none⟩ = some (.int .i64 0) := (blk_cell BK152.out 0).trans rfl; have hcz13_1 : w10.cell? ⟨gb152, 1, none⟩ = some (.slice none 0 0) := (blk_cell BK152.out 1).trans rfl; have hfz13_0 := blk_frozen BK152.out 0; have hfz13_1 := blk_frozen BK152.out 1; have hnb14 := NB149_150.out; have hnc14 := NB150_149.out; have hcz15_0 : w10.cell? ⟨gb149, 0, none⟩ = some (.int .i64 a0_0) := (blk_cell BK149.out 0).trans rfl; have hcz15_1 : w10.cell? ⟨gb149, 1, none⟩ = some (.slice A0_1 l0_1.length c0_1) := (blk_cell BK149.out 1).trans rfl; have hfz15_0 := blk_frozen BK149.out 0; have hfz15_1 := blk_frozen BK149.out 1; have p153 : 0 ≤ ((rd l1 a2) : Int) := of_decide_eq_true (by first | (with_reducible assumption) | assumption); have q153 : (rd l1 a2) < (l0_1.length : Int) := of_decide_eq_true (by first | (with_reducible assumption) | assumption); obtain ⟨ad153, A153_1, c153_1, e153, hx153_0, hx153_1, hx153_2, hx153_3, hx153_4, hl153_1, hi153_1⟩ := at_T54 HR0_1.out (rd l1 a2) p153 q153; cases e153; have hn153_0 : ad153.block ≠ gb152 := Nat.ne_of_lt (Nat.lt_of_lt_of_le (by have := World.block_lt_of_cell? _ _ hx153_0; first | rwa [add_block] at this | exact this) GW152.out); have hn153_1 : ad153.block ≠ gb152 := Nat.ne_of_lt (Nat.lt_of_lt_of_le (by have := World.block_lt_of_cell? _ _ hx153_0; first | rwa [add_block] at this | exact this) GW152.out); replace hx153_0 := (HB.out.cell (World.block_lt_of_cell? w _ hx153_0)).trans hx153_0; replace hx153_1 := (HB.out.cell (World.block_lt_of_cell? w _ hx153_1)).trans hx153_1; replace hx153_2 := (HB.out.cell (World.block_lt_of_cell? w _ hx153_2)).trans hx153_2; replace hx153_3 := (HB.out.cell (World.block_lt_of_cell? w _ hx153_3)).trans hx153_3; replace hx153_4 := (HB.out.cell (World.block_lt_of_cell? w _ hx153_4)).trans hx153_4; have HR153_1 := Aside0.mk hi153_1; have HC153_1 := Aside0.mk hl153_1; clear hi153_1 hl153_1; replace hx153_0 := (cell_far (p := ⟨gb152, 0, none⟩) (by first | (rw [add_block]; exact hn153_0) | (show (Addr.add _ _).block ≠ _; rw [add_block]; exact hn153_0) | exact hn153_0) (.int .i64 (rd l1 a2))).trans hx153_0; replace hx153_1 := (cell_far (p := ⟨gb152, 0, none⟩) (by first | (rw [add_block]; exact hn153_0) | (show (Addr.add _ _).block ≠ _; rw [add_block]; exact hn153_0) | exact hn153_0) (.int .i64 (rd l1 a2))).trans hx153_1; replace hx153_2 := (cell_far (p := ⟨gb152, 0, none⟩) (by first | (rw [add_block]; exact hn153_0) | (show (Addr.add _ _).block ≠ _; rw [add_block]; exact hn153_0) | exact hn153_0) (.int .i64 (rd l1 a2))).trans hx153_2; replace hx153_3 := (cell_far (p := ⟨gb152, 0, none⟩) (by first | (rw [add_block]; exact hn153_0) | (show (Addr.add _ _).block ≠ _; rw [add_block]; exact hn153_0) | exact hn153_0) (.int .i64 (rd l1 a2))).trans hx153_3; replace hx153_4 := (cell_far (p := ⟨gb152, 0, none⟩) (by first | (rw [add_block]; exact hn153_0) | (show (Addr.add _ _).block ≠ _; rw [add_block]; exact hn153_0) | exact hn153_0) (.int .i64 (rd l1 a2))).trans hx153_4; replace hx153_0 := (cell_far (p := ⟨gb152, 1, none⟩) (by first | (rw [add_block]; exact hn153_1) | (show (Addr.add _ _).block ≠ _; rw [add_block]; exact hn153_1) | exact hn153_1) (.slice none 0 0)).trans hx153_0; replace hx153_1 := (cell_far (p := ⟨gb152, 1, none⟩) (by first | (rw [add_block]; exact hn153_1) | (show (Addr.add _ _).block ≠ _; rw [add_block]; exact hn153_1) | exact hn153_1) (.slice none 0 0)).trans hx153_1; replace hx153_2 := (cell_far (p := ⟨gb152, 1, none⟩) (by first | (rw [add_block]; exact hn153_1) | (show (Addr.add _ _).block ≠ _; rw [add_block]; exact hn153_1) | exact hn153_1) (.slice none 0 0)).trans hx153_2; replace hx153_3 := (cell_far (p := ⟨gb152, 1, none⟩) (by first | (rw [add_block]; exact hn153_1) | (show (Addr.add _ _).block ≠ _; rw [add_block]; exact hn153_1) | exact hn153_1) (.slice none 0 0)).trans hx153_3; replace hx153_4 := (cell_far (p := ⟨gb152, 1, none⟩) (by first | (rw [add_block]; exact hn153_1) | (show (Addr.add _ _).block ≠ _; rw [add_block]; exact hn153_1) | exact hn153_1) (.slice none 0 0)).trans hx153_4; clear hn153_0; clear hn153_1; replace p153 := eq_true p153; replace q153 := eq_true q153))
          go_loopg [23] k (fun kq v23 w' => ∃ (x23_1 : Int) (x153001_1 : List (S27)) (u153001 : Value), v23 = .int .i64 x23_1 ∧ Aside0 (derivation_follow.l0 kq l1 ((rd_T54 l0_1 (rd l1 a2)).f1) (((rd_T54 l0_1 (rd l1 a2)).f1).length : Int) x23_1 a0_0 l0_1 (rd l1 a2) x153001_1 = some (r1, r2)) ∧ Aside0 (kq ≤ k) ∧ Aside0 (Kd.R k27 27 w' w.heap.size (fun k_ => k_ ≠ gb150 ∧ k_ ≠ gb152) u153001 x153001_1) ∧ Aside0 (w'.heap[gb149]? = some (.cells #[.int .i64 a0_0, (.slice (some ad153) l0_1.length c0_1)] 24 (0, 0))) ∧ Aside0 (w'.heap[gb150]? = some (.cells #[.int .i64 0, (.slice none 0 0)] 27 (0, 0))) ∧ Aside0 (w'.heap[gb152]? = some (.cells #[.int .i64 (rd l1 a2), u153001] 27 (0, 0))) ∧ Aside0 (Below w.heap.size w w'))
          case atStart => exact ⟨(0), (([] : List (S27))), (.slice none 0 0), (by first | rfl | (simp; done) | (simp [*]; done)), H', ⟨Nat.le_refl _⟩, ⟨by first | exact Kd.R_nil _ _ _ _ _ | exact Kd.N_nil _ _ _ _ _ | exact Kd.V_nil _ _ _ _ _ | exact Kd.Q_nil _ _ _ _ _ | exact Kd.S_nil _ _ _ _ _⟩, ⟨by (with_reducible repeat (first | refine blk_drewN ?_ _ | refine blk_drew ?_ | refine blk_alloc ?_ _)); refine blk_far ?_ NB149_152.out _; (with_reducible repeat (first | refine blk_drewN ?_ _ | refine blk_drew ?_ | refine blk_alloc ?_ _)); refine blk_far ?_ NB149_152.out _; (with_reducible repeat (first | refine blk_drewN ?_ _ | refine blk_drew ?_ | refine blk_alloc ?_ _)); exact BK149.out⟩, ⟨by (with_reducible repeat (first | refine blk_drewN ?_ _ | refine blk_drew ?_ | refine blk_alloc ?_ _)); refine blk_far ?_ NB150_152.out _; (with_reducible repeat (first | refine blk_drewN ?_ _ | refine blk_drew ?_ | refine blk_alloc ?_ _)); refine blk_far ?_ NB150_152.out _; (with_reducible repeat (first | refine blk_drewN ?_ _ | refine blk_drew ?_ | refine blk_alloc ?_ _)); exact BK150.out⟩, ⟨by (with_reducible repeat (first | refine blk_drewN ?_ _ | refine blk_drew ?_ | refine blk_alloc ?_ _)); refine blk_put (cs := #[.int .i64 (rd l1 a2), .slice none 0 0]) ?_ 1 _ rfl; (with_reducible repeat (first | refine blk_drewN ?_ _ | refine blk_drew ?_ | refine blk_alloc ?_ _)); refine blk_put (cs := #[.int .i64 0, .slice none 0 0]) ?_ 0 _ rfl; (with_reducible repeat (first | refine blk_drewN ?_ _ | refine blk_drew ?_ | refine blk_alloc ?_ _)); exact BK152.out⟩, ⟨bel HB⟩⟩
          case round =>
            clear H'
            (try clear c1); (try clear p1); (try clear q1); (try clear hx1); (try clear p2); (try clear c4); (try clear c4b0); (try clear c5); (try clear c5b0); (try clear c6); (try clear c6b0); (try clear c7); (try clear c7b0); (try clear c8); (try clear c11); (try clear c12); (try clear c14); (try clear c15); (try clear p15); (try clear q15); (try clear hx15); (try clear hcz13_0); (try clear hcz13_1); (try clear hcz15_0); (try clear hcz15_1); (try clear hfz13_0); (try clear hfz13_1); (try clear hfz15_0); (try clear hfz15_1); (try clear hx151_0); (try clear hx153_0); (try clear hx153_1); (try clear hx153_2); (try clear hx153_3); (try clear hx153_4); (try clear p151); (try clear p153); (try clear q151); (try clear q153)
            obtain ⟨x23_1, x153001_1, u153001, rfl, HA, HK1, HO_153001, BK149, BK150, BK152, HB⟩ := hrel
            cases gk with
            | zero => exact absurd HA.out (by simp [derivation_follow.l0])
            | succ k1 =>
              have H := HA.out
              clear HA
              simp only [derivation_follow.l0] at H
              by_cases c16 : x23_1 < (((rd_T54 l0_1 (rd l1 a2)).f1).length : Int)
              · rw [if_pos c16] at H
                have c16b0 : decide (x23_1 < (((rd_T54 l0_1 (rd l1 a2)).f1).length : Int)) = true := decide_eq_true c16
                clear c16
                by_cases c17 : 0 ≤ x23_1
                · rw [if_pos c17] at H
                  have c17b0 : decide (0 ≤ x23_1) = true := decide_eq_true c17
                  clear c17
                  by_cases c18 : x23_1 < (((rd_T54 l0_1 (rd l1 a2)).f1).length : Int)
                  · rw [if_pos c18] at H
                    have c18b0 : decide (x23_1 < (((rd_T54 l0_1 (rd l1 a2)).f1).length : Int)) = true := decide_eq_true c18
                    clear c18
                    replace H := Option.bind_eq_some_iff.mp H
                    obtain ⟨⟨t155, t156⟩, A190, H⟩ := H
                    replace H : (if x153001_1.length < 4398046511104 then (derivation_follow.l0 k1 l1 ((rd_T54 l0_1 (rd l1 a2)).f1) (((rd_T54 l0_1 (rd l1 a2)).f1).length : Int) (wrap64 (x23_1 + 1)) a0_0 l0_1 (rd l1 a2) (x153001_1 ++ [(⟨t155, t156⟩ : S27)])) else (none)) = some (r1, r2) := H
                    have A19 := Aside0.mk A190
                    clear A190
                    by_cases c20 : x153001_1.length < 4398046511104
                    · rw [if_pos c20] at H
                      have LMc20 := Aside0.mk c20
                      clear c20
                      obtain ⟨y159, hy159⟩ : ∃ y_ : List (S27), y_ = (x153001_1 ++ [(⟨t155, t156⟩ : S27)]) := ⟨_, rfl⟩
                      replace H : (derivation_follow.l0 k1 l1 ((rd_T54 l0_1 (rd l1 a2)).f1) (((rd_T54 l0_1 (rd l1 a2)).f1).length : Int) (wrap64 (x23_1 + 1)) a0_0 l0_1 (rd l1 a2) y159) = some (r1, r2) := by first | (rw [hy159]; with_reducible exact H) | (have H2_ := (Option.bind_some _ _).symm.trans H; rw [hy159]; with_reducible exact H2_) | (have H2_ := (Option.bind_some _ _).symm.trans H; with_reducible exact H2_) | with_reducible exact H | (rw [hy159]; exact H) | exact H
                      have Ny159 := Aside0.mk hy159
                      clear hy159
                      have H' := Aside0.mk H
                      clear H
                      have p154 : 0 ≤ (x23_1 : Int) := of_decide_eq_true (by first | (with_reducible assumption) | assumption)
                      have q154 : x23_1 < (((rd_T54 l0_1 (rd l1 a2)).f1).length : Int) := of_decide_eq_true (by first | (with_reducible assumption) | assumption)
                      obtain ⟨ad154, e154, hx154_0⟩ := Kd.at_int HR153_1.out x23_1 p154 q154
                      cases e154
                      replace hx154_0 := (HB.out.cell (World.block_lt_of_cell? w _ hx154_0)).trans hx154_0
                      replace p154 := eq_true p154
                      replace q154 := eq_true q154
                      try go_wp2
                      have n0_ := Aside0.mk (Kd.R_drew HO_153001.out)
                      have n1_ := Aside0.mk (blk_drew BK149.out)
                      have n2_ := Aside0.mk (blk_drew BK150.out)
                      have n3_ := Aside0.mk (blk_drew BK152.out)
                      have n4_ := Aside0.mk (below_drew1 HB.out)
                      clear HO_153001
                      clear BK149
                      clear BK150
                      clear BK152
                      clear HB
                      have HO_153001 := n0_
                      have BK149 := n1_
                      have BK150 := n2_
                      have BK152 := n3_
                      have HB := n4_
                      clear n0_ n1_ n2_ n3_ n4_
                      refine start_ (n := 10) (S := fun w' => w'.cell? ⟨gb152, 0, none⟩ = some (.int .i64 (rd l1 a2)) ∧ w'.cell? ⟨gb152, 1, none⟩ = some (u153001) ∧ w'.cell? ⟨gb149, 0, none⟩ = some (.int .i64 a0_0) ∧ w'.cell? ⟨gb149, 1, none⟩ = some (.slice (some ad153) l0_1.length c0_1)) (ds := [9]) #[false, false, false, false, false, false, false, false, false, false] (by kernel_rfl) rfl rfl ⟨(blk_cell BK152.out 0).trans rfl, (blk_cell BK152.out 1).trans rfl, (blk_cell BK149.out 0).trans rfl, (blk_cell BK149.out 1).trans rfl⟩ (fun hHeld => ?_); refine with_tabW derivation_follow.tab5 derivation_follow.bits5 (fun HT_ HW_ => ?_)
                      generalize wr.drew = w21 at HO_153001 BK149 BK150 BK152 HB hHeld ⊢
                      refine pure_ (i := 0) (N := some 27) (v := ?_) (a' := ?_) #[true, false, false, false, false, false, false, false, false, false] rfl rfl (any_of HT_.out (by kernel_rfl)) (fun _ _ _ h => h) (Or.inl ⟨by rfl, ?_⟩) ?_ ?_
                      rotate_left
                      · intro w'
                        go_simp
                        with_reducible rfl
                      rotate_left
                      · simp only [Act.put, List.setIfInBounds_toArray, List.set_cons_zero, List.set_cons_succ, i64_w, i32_w]
                        rfl
                      refine pure_ (i := 3) (N := some 30) (v := ?_) (a' := ?_) #[true, false, false, true, false, false, false, false, false, false] rfl rfl (any_of HT_.out (by kernel_rfl)) (fun _ _ _ h => h) (Or.inl ⟨by rfl, ?_⟩) ?_ ?_
                      rotate_left
                      · intro w'
                        go_simp
                        with_reducible rfl
                      rotate_left
                      · simp only [Act.put, List.setIfInBounds_toArray, List.set_cons_zero, List.set_cons_succ, i64_w, i32_w]
                        rfl
                      refine pure_ (i := 4) (N := some 31) (v := ?_) (a' := ?_) #[true, false, false, true, true, false, false, false, false, false] rfl rfl (any_of HT_.out (by kernel_rfl)) (fun _ _ _ h => h) (Or.inl ⟨by rfl, ?_⟩) ?_ ?_
                      rotate_left
                      · intro w'
                        go_simp
                        with_reducible rfl
                      rotate_left
                      · simp only [Act.put, List.setIfInBounds_toArray, List.set_cons_zero, List.set_cons_succ, i64_w, i32_w]
                        rfl
                      refine take_ (i := 1) (N := some 28) (v := ?_) (a' := ?_) #[true, true, false, true, true, false, false, false, false, false] rfl rfl (take_ofW HT_.out HW_.out (by kernel_rfl)) (fun _ _ _ h => h) (Or.inl ⟨by rfl, ?_⟩) hHeld ?_ ?_
                      rotate_left
                      · rintro w' ⟨s0, s1, s2, s3⟩
                        go_simp
                        with_reducible rfl
                      rotate_left
                      · simp only [Act.put, List.setIfInBounds_toArray, List.set_cons_zero, List.set_cons_succ, i64_w, i32_w]
                        rfl
                      refine take_ (i := 2) (N := some 29) (v := ?_) (a' := ?_) #[true, true, true, true, true, false, false, false, false, false] rfl rfl (take_ofW HT_.out HW_.out (by kernel_rfl)) (fun _ _ _ h => h) (Or.inl ⟨by rfl, ?_⟩) hHeld ?_ ?_
                      rotate_left
                      · rintro w' ⟨s0, s1, s2, s3⟩
                        go_simp
                        with_reducible rfl
                      rotate_left
                      · simp only [Act.put, List.setIfInBounds_toArray, List.set_cons_zero, List.set_cons_succ, i64_w, i32_w]
                        rfl
                      refine one_ (i := 5) (N := some 32) #[true, true, true, true, true, true, false, false, false, false] rfl rfl (one_of HT_.out (by kernel_rfl)) (by decide) (fun K hK => ?_)
                      refine goes_ Try.func80 (by kernel_rfl) rfl #[.agg #[.int .i64 a0_0, .slice (some ad153) l0_1.length c0_1], .slice (some ad151) l1.length c1, .int .i64 (rd ((rd_T54 l0_1 (rd l1 a2)).f1) x23_1)] (by rfl) rfl rfl (by (try simp only [List.map_toArray, List.map_cons, List.map_nil]); first | done | rfl | (simp only [List.length_drop, List.length_take]; rfl)) ?_
                      with_reducible refine (ih k1 (by have := HK1.out; omega) a0_0 _ _ l0_1 _ _ l1 (rd ((rd_T54 l0_1 (rd l1 a2)).f1) x23_1) t155 t156 _ ?side1 ?side2 ?side3 ?side4 A19.out).mono ?_
                      (case side1 => repeat (first | exact (Kd.C_below HR0_1.out HB.out) | (with_reducible refine Kd.C_alloc ?_ _) | (with_reducible refine Kd.C_drewN ?_ _) | (with_reducible refine Kd.C_drew ?_)))
                      (case side2 => exact HC0_1.out)
                      (case side3 => repeat (first | exact (Kd.C_below HR1.out HB.out) | (with_reducible refine Kd.C_alloc ?_ _) | (with_reducible refine Kd.C_drewN ?_ _) | (with_reducible refine Kd.C_drew ?_)))
                      (case side4 => exact HC1.out)
                      rintro e w22 ⟨v157, rfl, ho0, hb⟩
                      refine ⟨_, rfl, ?_⟩
                      have n0_ := Aside0.mk (Kd.R_elder' (by (with_reducible repeat (first | apply Kd.R_alloc | apply Kd.R_drewN | apply Kd.R_drew)); exact HO_153001.out) (Kd.R_base ho0) hb)
                      have n1_ := Aside0.mk (Kd.R_lower (Kd.R_newB (Kd.R_newB (Kd.R_new' ho0 (Kd.R_lt (by (with_reducible repeat (first | apply Kd.R_alloc | apply Kd.R_drewN | apply Kd.R_drew)); exact HO_153001.out))) (bk BK150)) (bk BK152)) (below_size (bel HB)))
                      have n2_ := Aside0.mk (blk_below (bk BK149) hb)
                      have n3_ := Aside0.mk (blk_below (bk BK150) hb)
                      have n4_ := Aside0.mk (blk_below (bk BK152) hb)
                      have n5_ := Aside0.mk (below_step (bel HB) hb)
                      clear HO_153001
                      clear BK149
                      clear BK150
                      clear BK152
                      clear HB
                      have HO_153001 := n0_
                      have HO158 := n1_
                      have BK149 := n2_
                      have BK150 := n3_
                      have BK152 := n4_
                      have HB := n5_
                      clear n0_ n1_ n2_ n3_ n4_ n5_
                      (try clear hb)
                      (try clear hb2)
                      (try clear hk)
                      (try clear hi)
                      (try clear ho0)
                      obtain ⟨Ao24, co24, eo24⟩ := Kd.R_slice HO158.out
                      (first | subst eo24 | (injection eo24 with f1_ f2_ f3_; have f4_ := f1_.symm; have f5_ := f3_.symm; clear f1_ f2_ f3_; subst f4_; subst f5_))
                      refine hK.out _ _ ⟨(blk_cell BK152.out 0).trans rfl, (blk_cell BK152.out 1).trans rfl, (blk_cell BK149.out 0).trans rfl, (blk_cell BK149.out 1).trans rfl⟩ (fun hHeld => ?_)
                      clear hK K
                      refine norm_ (a' := ?_) ?_ ?_
                      rotate_left
                      · show Act.put _ (some 32) _ = _
                        simp only [Act.put, List.setIfInBounds_toArray, List.set_cons_zero, List.set_cons_succ, i64_w, i32_w]
                        rfl
                      refine one_ (i := 6) (N := some 33) #[true, true, true, true, true, true, true, false, false, false] rfl rfl (one_of HT_.out (by kernel_rfl)) (by decide) (fun K hK => ?_)
                      refine value_ (w1 := ?_) (v := ?_) (by rfl) rfl ?_ ?_
                      rotate_left 2
                      · go_simp
                        constructor
                        · rfl
                        · rfl
                      refine hK.out _ _ ⟨(blk_cell (blk_alloc BK152.out _) 0).trans rfl, (blk_cell (blk_alloc BK152.out _) 1).trans rfl, (blk_cell (blk_alloc BK149.out _) 0).trans rfl, (blk_cell (blk_alloc BK149.out _) 1).trans rfl⟩ (fun hHeld => ?_)
                      clear hK K
                      refine norm_ (a' := ?_) ?_ ?_
                      rotate_left
                      · show Act.put _ (some 33) _ = _
                        simp only [Act.put, List.setIfInBounds_toArray, List.set_cons_zero, List.set_cons_succ, i64_w, i32_w]
                        rfl
                      refine one_ (i := 7) (N := some 34) #[true, true, true, true, true, true, true, true, false, false] rfl rfl (one_of HT_.out (by kernel_rfl)) (by decide) (fun K hK => ?_)
                      refine Kd.R_append_step k27 (w0 := w) w.heap.size (by rfl) (.tmp 28) (.tmp 33) 25 27 (.agg #[(.int .i64 0), (.slice none 0 0)]) 32 rfl Try.underlying25 info27 rfl (by decide) (by omega) u153001 x153001_1 (⟨t155, t156⟩ : S27) [.int .i64 t155, .slice Ao24 t156.length co24] (fun k_ => k_ ≠ gb150 ∧ k_ ≠ gb152) (fun k_ => ((fun k_ => k_ ≠ gb150 ∧ k_ ≠ gb152)) k_ ∧ some k_ ≠ (u153001 : Value).ownBlock) rfl rfl ?aP (fun _ hk => hk) ?aF ?aO ?aB ?aS ?aL ?_
                      (case aP => exact k27_mkM _ _ _ (⟨t155, t156⟩ : S27) (Kd.R_mono (HO158.out) (fun k_ hk => ⟨⟨hk.1.2, hk.2⟩, hk.1.1.2⟩)))
                      (case aB => exact (bel HB))
                      (case aF => exact (fun k_ hk => ⟨Kd.freshB (bk BK150) k_ hk, Kd.freshB (bk BK152) k_ hk⟩))
                      (case aO => exact (by (with_reducible repeat (first | apply Kd.R_alloc | apply Kd.R_drewN | apply Kd.R_drew)); exact Kd.R_mono HO_153001.out (fun _ hk => ⟨hk.1.1, hk.1.2⟩)))
                      (case aS => exact (below_size (bel HB)))
                      (case aL => have := LMc20.out; omega)
                      intro v160 w23 ho hb hg hat
                      rw [← Ny159.out] at ho
                      have n0_ := Aside0.mk (blk_grown (bk BK149) hg (Kd.R_ne HO_153001.out BK149.out (by decide)))
                      have n1_ := Aside0.mk (blk_grown (bk BK150) hg (Kd.R_away HO_153001.out (fun _ hk => hk.1.1)))
                      have n2_ := Aside0.mk (blk_grown (bk BK152) hg (Kd.R_away HO_153001.out (fun _ hk => hk.1.2)))
                      have n3_ := Aside0.mk (hb)
                      have n4_ := Aside0.mk (ho)
                      clear BK149
                      clear BK150
                      clear BK152
                      clear HB
                      clear HO_153001
                      clear HO158
                      have BK149 := n0_
                      have BK150 := n1_
                      have BK152 := n2_
                      have HB := n3_
                      have HO161 := n4_
                      clear n0_ n1_ n2_ n3_ n4_
                      clear ho hb hg hat
                      obtain ⟨Ao25, co25, eo25⟩ := Kd.R_slice HO161.out
                      (first | subst eo25 | (injection eo25 with f1_ f2_ f3_; have f4_ := f1_.symm; have f5_ := f3_.symm; clear f1_ f2_ f3_; subst f4_; subst f5_))
                      refine hK.out _ _ ⟨(blk_cell BK152.out 0).trans rfl, (blk_cell BK152.out 1).trans rfl, (blk_cell BK149.out 0).trans rfl, (blk_cell BK149.out 1).trans rfl⟩ (fun hHeld => ?_)
                      clear hK K
                      refine norm_ (a' := ?_) ?_ ?_
                      rotate_left
                      · show Act.put _ (some 34) _ = _
                        simp only [Act.put, List.setIfInBounds_toArray, List.set_cons_zero, List.set_cons_succ, i64_w, i32_w]
                        rfl
                      refine pure_ (i := 8) (N := some 35) (v := ?_) (a' := ?_) #[true, true, true, true, true, true, true, true, true, false] rfl rfl (any_of HT_.out (by kernel_rfl)) (fun _ _ _ h => h) (Or.inl ⟨by rfl, ?_⟩) ?_ ?_
                      rotate_left
                      · intro w'
                        go_simp
                        with_reducible rfl
                      rotate_left
                      · simp only [Act.put, List.setIfInBounds_toArray, List.set_cons_zero, List.set_cons_succ, i64_w, i32_w]
                        rfl
                      refine last_ (i := 9) (N := none) #[true, true, true, true, true, true, true, true, true, true] rfl rfl (one_of HT_.out (by kernel_rfl)) (by decide) (fun K hK => ?_)
                      have hs26 : w23.cell? ⟨gb152, 1, none⟩ = some (u153001) := (blk_cell BK152.out 1).trans rfl
                      have hfs26 := blk_frozen BK152.out 1
                      have hns26_0 := NB149_152.out
                      have hns26_1 := NB150_152.out
                      have hms26_0 := NB152_149.out
                      have hms26_1 := NB152_150.out
                      refine skip_ (w1 := ?_) (by rfl) rfl ?_ ?_
                      rotate_left
                      · go_simp
                        rfl
                      refine hK.out _ _ ?_
                      clear hK K
                      refine done_ (done_of HT_.out (by kernel_rfl)) ?_
                      try go_wp2
                      go_roundg k1
                      case measure => have := HK1.out; omega
                      case rel => exact ⟨(wrap64 (x23_1 + 1)), (y159), (.slice Ao25 y159.length co25), (by first | rfl | (simp; done) | (simp [*]; done)), H', ⟨by have := HK1.out; omega⟩, ⟨by (with_reducible repeat (first | apply Kd.R_alloc | apply Kd.R_drewN | apply Kd.R_drew)); exact Kd.R_mono (Kd.R_far (p := ⟨gb152, 1, none⟩) (Kd.R_mono HO161.out (fun k_ hk => (⟨hk, hk.2⟩ : _ ∧ k_ ≠ gb152))) (fun _ hk => hk.2) (.slice Ao25 y159.length co25)) (fun _ hk => ⟨hk.1.1, hk.1.2⟩)⟩, ⟨by (with_reducible repeat (first | refine blk_drewN ?_ _ | refine blk_drew ?_ | refine blk_alloc ?_ _)); refine blk_far ?_ NB149_152.out _; (with_reducible repeat (first | refine blk_drewN ?_ _ | refine blk_drew ?_ | refine blk_alloc ?_ _)); exact BK149.out⟩, ⟨by (with_reducible repeat (first | refine blk_drewN ?_ _ | refine blk_drew ?_ | refine blk_alloc ?_ _)); refine blk_far ?_ NB150_152.out _; (with_reducible repeat (first | refine blk_drewN ?_ _ | refine blk_drew ?_ | refine blk_alloc ?_ _)); exact BK150.out⟩, ⟨by (with_reducible repeat (first | refine blk_drewN ?_ _ | refine blk_drew ?_ | refine blk_alloc ?_ _)); refine blk_put (cs := #[.int .i64 (rd l1 a2), u153001]) ?_ 1 _ rfl; (with_reducible repeat (first | refine blk_drewN ?_ _ | refine blk_drew ?_ | refine blk_alloc ?_ _)); exact BK152.out⟩, ⟨bel HB⟩⟩
                    · rw [if_neg c20] at H
                      exact absurd H (by simp)
                  · rw [if_neg c18] at H
                    exact absurd H (by simp)
                · rw [if_neg c17] at H
                  exact absurd H (by simp)
              · rw [if_neg c16] at H
                have c16b0 : decide (x23_1 < (((rd_T54 l0_1 (rd l1 a2)).f1).length : Int)) = false := decide_eq_false c16
                clear c16
                simp only [Option.some.injEq, Prod.mk.injEq] at H
                obtain ⟨rfl, rfl⟩ := H
                have hnb27 := NB152_149.out
                have hnc27 := NB149_152.out
                have hnb28 := NB152_150.out
                have hnc28 := NB150_152.out
                have hcz29_0 : wr.cell? ⟨gb152, 0, none⟩ = some (.int .i64 (rd l1 a2)) := (blk_cell BK152.out 0).trans rfl
                have hcz29_1 : wr.cell? ⟨gb152, 1, none⟩ = some (u153001) := (blk_cell BK152.out 1).trans rfl
                have hfz29_0 := blk_frozen BK152.out 0
                have hfz29_1 := blk_frozen BK152.out 1
                have hnb30 := NB150_149.out
                have hnc30 := NB149_150.out
                have hcz31_0 : wr.cell? ⟨gb150, 0, none⟩ = some (.int .i64 0) := (blk_cell BK150.out 0).trans rfl
                have hcz31_1 : wr.cell? ⟨gb150, 1, none⟩ = some (.slice none 0 0) := (blk_cell BK150.out 1).trans rfl
                have hfz31_0 := blk_frozen BK150.out 0
                have hfz31_1 := blk_frozen BK150.out 1
                obtain ⟨Ao32, co32, eo32⟩ := Kd.R_slice HO_153001.out
                subst eo32
                go_wp2
                refine bodyPost_ret (results_cell_row rfl _ _ gb150 27 #[.int .i64 (rd l1 a2), .slice Ao32 x153001_1.length co32] (0, 0) _ rfl (by (with_reducible repeat (first | refine blk_drewN ?_ _ | refine blk_drew ?_ | refine blk_alloc ?_ _)); refine blk_put (cs := #[.int .i64 (rd l1 a2), .slice none 0 0]) ?_ 1 _ rfl; (with_reducible repeat (first | refine blk_drewN ?_ _ | refine blk_drew ?_ | refine blk_alloc ?_ _)); refine blk_put (cs := #[.int .i64 0, .slice none 0 0]) ?_ 0 _ rfl; (with_reducible repeat (first | refine blk_drewN ?_ _ | refine blk_drew ?_ | refine blk_alloc ?_ _)); exact BK150.out) Try.underlying27 rfl (by kernel_rfl)) rfl ?_
                exact ⟨_, by first | rfl | (simp [errW_none, errW_some] <;> rfl) | (simp [*, errW_none, errW_some] <;> rfl), by (with_reducible repeat (first | apply Kd.R_alloc | apply Kd.R_drewN | apply Kd.R_drew)); exact Kd.R_mono (Kd.R_far (p := ⟨gb150, 1, none⟩) (Kd.R_far (p := ⟨gb150, 0, none⟩) (Kd.R_mono HO_153001.out (fun k_ hk => (⟨hk, hk.1⟩ : _ ∧ k_ ≠ gb150))) (fun _ hk => hk.2) (.int .i64 (rd l1 a2))) (fun _ hk => hk.2) (.slice Ao32 x153001_1.length co32)) (fun _ hk => trivial), bel HB⟩
        · rw [if_neg c7] at H
          exact absurd H (by simp)
      · rw [if_neg c6] at H
        exact absurd H (by simp)
    · rw [if_neg c5] at H
      exact absurd H (by simp)
  · rw [if_neg c4] at H
    exact absurd H (by simp)
end Go.Proofs.Ytamimodkcbbpmaa.Pr
end
section
/- Printed by a program of this session (a turned print of the kit's) out of the translation: each Go function as a Lean function, and the proof that the machine's call answers what it says. Lean checks it. -/
namespace Go.Proofs.Ytamimodkcbbpmaa.Pr
open Go.RowKit Go.Proofs.YtamimodkcbbpmaaW.PrintWords Go.Proofs.YtamimodkcbbpmaaW.PrintLast Go.Proofs.YtamimodkcbbpmaaW.PrintMore Go.Proofs.YtamimodkcbbpmaaXW
attribute [local go_sem] max2_int min2_int max_two min_two max_three min_three max_four min_four   -- for this text's walks alone
set_option linter.unusedVariables false
set_option linter.unusedSimpArgs false

/-! ### knuth_Combine: function 75 -/
def knuth_Combine.l0 : Nat → List (S34) → Int → Int → Int → Int → Option (Int × Int)
  | 0, _, _, _, _, _ => none
  | k + 1, x11, x12, x13, x111000, x111001 => if x13 < x12 then (if 0 ≤ x13 then (if x13 < (x11.length : Int) then (knuth_Combine.l0 k x11 x12 (wrap64 (x13 + 1)) (mn (wrap64 (x111000 + ((rd_T34 x11 x13).f0))) 1099511627776) (mn (wrap64 (x111001 + ((rd_T34 x11 x13).f1))) 1099511627776)) else (none)) else (none)) else (if x111000 = 1099511627776 then (some (1099511627776, 0)) else (some (x111000, x111001)))
def knuth_Combine.f (k : Nat) (a0 : Int) (l1 : List (S34)) : Option (Int × Int) := knuth_Combine.l0 k l1 (l1.length : Int) 0 (mn a0 1099511627776) 1
theorem knuth_Combine.mono_l : ∀ k, (∀ y0 y1 y2 y3 y4, LeO (knuth_Combine.l0 k y0 y1 y2 y3 y4) (knuth_Combine.l0 (k + 1) y0 y1 y2 y3 y4))
  | 0 => fun _ _ _ _ _ r h => by simp [knuth_Combine.l0] at h
  | k + 1 => by
    have ih0 := knuth_Combine.mono_l k
    · intro y0 y1 y2 y3 y4
      unfold knuth_Combine.l0
      repeat' first
      | (with_reducible exact ih0 _ _ _ _ _)
      | (with_reducible exact LeO.refl _)
      | (with_reducible exact LeO.none _)
      | (with_reducible refine LeO.ite ?_ ?_)
      | (with_reducible refine LeO.bind ?_ (fun _ => ?_))
      | exact ih0 _ _ _ _ _
      | exact LeO.none _
      | refine LeO.ite ?_ ?_
      | refine LeO.bind ?_ (fun _ => ?_)
theorem knuth_Combine.mono : ∀ a0 a1 k, LeO (knuth_Combine.f k a0 a1) (knuth_Combine.f (k + 1) a0 a1) := by
  intro a0 a1 k
  have ih0 := knuth_Combine.mono_l k
  unfold knuth_Combine.f
  repeat' first
      | (with_reducible exact ih0 _ _ _ _ _)
      | (with_reducible exact LeO.refl _)
      | (with_reducible exact LeO.none _)
      | (with_reducible refine LeO.ite ?_ ?_)
      | (with_reducible refine LeO.bind ?_ (fun _ => ?_))
      | exact ih0 _ _ _ _ _
      | exact LeO.none _
      | refine LeO.ite ?_ ?_
      | refine LeO.bind ?_ (fun _ => ?_)
set_option maxHeartbeats 8000000 in
set_option maxRecDepth 100000 in
theorem knuth_Combine.calls (k : Nat) (a0 : Int) (A1 : Option Addr) (c1 : Nat) (l1 : List (S34)) (r1 : Int) (r2 : Int) (w : World) (hr1 : Kd.C k34 w A1 l1.length l1) (hc1 : l1.length ≤ c1) (h : knuth_Combine.f k a0 l1 = some (r1, r2)) :
    Calls Try.prog 75 #[.int .i64 a0, .slice A1 l1.length c1] w fun e w' => e = .returned (.agg #[.int .i64 r1, .int .i64 r2]) ∧ Below w.heap.size w w' := by
  have hu34 := Try.underlying34
  have HR1 := Aside0.mk hr1
  have HC1 := Aside0.mk hc1
  clear hr1 hc1
  have HB := Aside0.mk (Below.refl w.heap.size w)
  have H : (knuth_Combine.l0 k l1 (l1.length : Int) 0 (mn a0 1099511627776) 1) = some (r1, r2) := h
  clear h
  obtain ⟨ji3, hji3⟩ : ∃ j_ : Int, (mn a0 1099511627776) = j_ := ⟨_, rfl⟩
  replace H : (knuth_Combine.l0 k l1 (l1.length : Int) 0 ji3 1) = some (r1, r2) := by first | (rw [hji3] at H; exact H) | (simp only [hji3] at H ⊢; exact H)
  (try (have hji3h : ji3 ≤ 1099511627776 := by (rw [← hji3]; unfold mn; (repeat' split) <;> omega)))
  (try (have hji3g : ji3 ≤ 64 := by omega))
  have hji3_ : (if 1099511627776 < a0 then 1099511627776 else a0) = ji3 := hji3
  have H' := Aside0.mk H
  clear H
  go_enter Try.func75, Try.ntmps75
  go_wp2_with (first | ((with_reducible refine gate_dst (N := 4) rfl ?_); refine box_event ?hg (N := 4) ?hd (cs := #[.int .i64 0, .int .i64 0]) (t := 34) ?hr ?_; (case hd => rfl); (case hg => rfl); (case hr => first | (go_simp; done) | (go_simp; rfl)); intro gb109 hg w4 hbox hb; have n0_ := Aside0.mk (below_step (bel HB) hb); have n1_ := Aside0.mk (hbox); have n2_ := Aside0.mk ((by rw [hg]; exact (below_size (bel HB)) : w.heap.size ≤ gb109)); have n3_ := Aside0.mk ((by rw [hg]; exact (below_size (bel HB)) : w.heap.size ≤ gb109)); clear HB; have HB := n0_; have BK109 := n1_; have GW109 := n2_; have GE109 := n3_; clear n0_ n1_ n2_ n3_; clear hb hbox hg) | ((with_reducible refine gate_dst (N := 5) rfl ?_); refine box_event ?hg (N := 5) ?hd (cs := #[.int .i64 0, .int .i64 0]) (t := 34) ?hr ?_; (case hd => rfl); (case hg => rfl); (case hr => first | (go_simp; done) | (go_simp; rfl)); intro gb110 hg w5 hbox hb; have n0_ := Aside0.mk (blk_below (bk BK109) hb); have n1_ := Aside0.mk (below_step (bel HB) hb); have n2_ := Aside0.mk (hbox); have n3_ := Aside0.mk ((by rw [hg]; exact (below_size (bel HB)) : w.heap.size ≤ gb110)); have n4_ := Aside0.mk ((by rw [hg]; exact (below_size (bel HB)) : w.heap.size ≤ gb110)); have n5_ := Aside0.mk ((by rw [hg]; exact Nat.ne_of_lt (blk_lt (bk BK109)) : gb109 ≠ gb110)); have n6_ := Aside0.mk ((by rw [hg]; exact Nat.ne_of_gt (blk_lt (bk BK109)) : gb110 ≠ gb109)); clear BK109; clear HB; have BK109 := n0_; have HB := n1_; have BK110 := n2_; have GW110 := n3_; have GE110 := n4_; have NB109_110 := n5_; have NB110_109 := n6_; clear n0_ n1_ n2_ n3_ n4_ n5_ n6_; clear hb hbox hg; have hnb6 := NB110_109.out; have hnc6 := NB109_110.out; have hcz7_0 : w5.cell? ⟨gb110, 0, none⟩ = some (.int .i64 0) := (blk_cell BK110.out 0).trans rfl; have hcz7_1 : w5.cell? ⟨gb110, 1, none⟩ = some (.int .i64 0) := (blk_cell BK110.out 1).trans rfl; have hfz7_0 := blk_frozen BK110.out 0; have hfz7_1 := blk_frozen BK110.out 1))
  go_loopg [13] k (fun kq v13 w' => ∃ (x13_1 : Int) (x111000_1 : Int) (x111001_1 : Int), v13 = .int .i64 x13_1 ∧ Aside0 (knuth_Combine.l0 kq l1 (l1.length : Int) x13_1 x111000_1 x111001_1 = some (r1, r2)) ∧ Aside0 (kq ≤ k) ∧ Aside0 (w'.heap[gb109]? = some (.cells #[.int .i64 0, .int .i64 0] 34 (0, 0))) ∧ Aside0 (w'.heap[gb110]? = some (.cells #[.int .i64 x111000_1, .int .i64 x111001_1] 34 (0, 0))) ∧ Aside0 (Below w.heap.size w w'))
  case atStart => exact ⟨(0), (ji3), (1), (by first | rfl | (simp; done) | (simp [*]; done)), H', ⟨Nat.le_refl _⟩, ⟨by (with_reducible repeat (first | refine blk_drewN ?_ _ | refine blk_drew ?_ | refine blk_alloc ?_ _)); refine blk_far ?_ NB109_110.out _; (with_reducible repeat (first | refine blk_drewN ?_ _ | refine blk_drew ?_ | refine blk_alloc ?_ _)); refine blk_far ?_ NB109_110.out _; (with_reducible repeat (first | refine blk_drewN ?_ _ | refine blk_drew ?_ | refine blk_alloc ?_ _)); exact BK109.out⟩, ⟨by (with_reducible repeat (first | refine blk_drewN ?_ _ | refine blk_drew ?_ | refine blk_alloc ?_ _)); refine blk_put (cs := #[.int .i64 ji3, .int .i64 0]) ?_ 1 _ rfl; (with_reducible repeat (first | refine blk_drewN ?_ _ | refine blk_drew ?_ | refine blk_alloc ?_ _)); refine blk_put (cs := #[.int .i64 0, .int .i64 0]) ?_ 0 _ rfl; (with_reducible repeat (first | refine blk_drewN ?_ _ | refine blk_drew ?_ | refine blk_alloc ?_ _)); exact BK110.out⟩, ⟨bel HB⟩⟩
  case round =>
    clear H'
    (try clear c1); (try clear p2); (try clear c6); (try clear c7); (try clear hcz7_0); (try clear hcz7_1); (try clear hfz7_0); (try clear hfz7_1)
    obtain ⟨x13_1, x111000_1, x111001_1, rfl, HA, HK1, BK109, BK110, HB⟩ := hrel
    cases gk with
    | zero => exact absurd HA.out (by simp [knuth_Combine.l0])
    | succ k1 =>
      have H := HA.out
      clear HA
      simp only [knuth_Combine.l0] at H
      by_cases c8 : x13_1 < (l1.length : Int)
      · rw [if_pos c8] at H
        have c8b0 : decide (x13_1 < (l1.length : Int)) = true := decide_eq_true c8
        clear c8
        by_cases c9 : 0 ≤ x13_1
        · rw [if_pos c9] at H
          have c9b0 : decide (0 ≤ x13_1) = true := decide_eq_true c9
          clear c9
          by_cases c10 : x13_1 < (l1.length : Int)
          · rw [if_pos c10] at H
            have c10b0 : decide (x13_1 < (l1.length : Int)) = true := decide_eq_true c10
            clear c10
            obtain ⟨ji11, hji11⟩ : ∃ j_ : Int, (mn (wrap64 (x111000_1 + ((rd_T34 l1 x13_1).f0))) 1099511627776) = j_ := ⟨_, rfl⟩
            replace H : (knuth_Combine.l0 k1 l1 (l1.length : Int) (wrap64 (x13_1 + 1)) ji11 (mn (wrap64 (x111001_1 + ((rd_T34 l1 x13_1).f1))) 1099511627776)) = some (r1, r2) := by first | (rw [hji11] at H; exact H) | (simp only [hji11] at H ⊢; exact H)
            have hji11_ : (if 1099511627776 < (wrap64 (x111000_1 + ((rd_T34 l1 x13_1).f0))) then 1099511627776 else (wrap64 (x111000_1 + ((rd_T34 l1 x13_1).f0)))) = ji11 := hji11
            obtain ⟨ji12, hji12⟩ : ∃ j_ : Int, (mn (wrap64 (x111001_1 + ((rd_T34 l1 x13_1).f1))) 1099511627776) = j_ := ⟨_, rfl⟩
            replace H : (knuth_Combine.l0 k1 l1 (l1.length : Int) (wrap64 (x13_1 + 1)) ji11 ji12) = some (r1, r2) := by first | (rw [hji12] at H; exact H) | (simp only [hji12] at H ⊢; exact H)
            have hji12_ : (if 1099511627776 < (wrap64 (x111001_1 + ((rd_T34 l1 x13_1).f1))) then 1099511627776 else (wrap64 (x111001_1 + ((rd_T34 l1 x13_1).f1)))) = ji12 := hji12
            have H' := Aside0.mk H
            clear H
            have p111 : 0 ≤ (x13_1 : Int) := of_decide_eq_true (by first | (with_reducible assumption) | assumption)
            have q111 : x13_1 < (l1.length : Int) := of_decide_eq_true (by first | (with_reducible assumption) | assumption)
            obtain ⟨ad111, e111, hx111_0, hx111_1⟩ := at_T34 HR1.out x13_1 p111 q111
            cases e111
            replace hx111_0 := (HB.out.cell (World.block_lt_of_cell? w _ hx111_0)).trans hx111_0
            replace hx111_1 := (HB.out.cell (World.block_lt_of_cell? w _ hx111_1)).trans hx111_1
            replace p111 := eq_true p111
            replace q111 := eq_true q111
            go_wp2_with (first | ((with_reducible refine gate_dst (N := 7) rfl ?_); refine box_event ?hg (N := 7) ?hd (cs := #[.int .i64 0, .int .i64 0]) (t := 34) ?hr ?_; (case hd => rfl); (case hg => rfl); (case hr => first | (go_simp; done) | (go_simp; rfl)); intro gb112 hg w13 hbox hb; have n0_ := Aside0.mk (blk_below (bk BK109) hb); have n1_ := Aside0.mk (blk_below (bk BK110) hb); have n2_ := Aside0.mk (below_step (bel HB) hb); have n3_ := Aside0.mk (hbox); have n4_ := Aside0.mk ((by rw [hg]; exact (below_size (bel HB)) : w.heap.size ≤ gb112)); have n5_ := Aside0.mk ((by rw [hg]; exact (below_size (bel HB)) : w.heap.size ≤ gb112)); have n6_ := Aside0.mk ((by rw [hg]; exact Nat.ne_of_lt (blk_lt (bk BK109)) : gb109 ≠ gb112)); have n7_ := Aside0.mk ((by rw [hg]; exact Nat.ne_of_gt (blk_lt (bk BK109)) : gb112 ≠ gb109)); have n8_ := Aside0.mk ((by rw [hg]; exact Nat.ne_of_lt (blk_lt (bk BK110)) : gb110 ≠ gb112)); have n9_ := Aside0.mk ((by rw [hg]; exact Nat.ne_of_gt (blk_lt (bk BK110)) : gb112 ≠ gb110)); clear BK109; clear BK110; clear HB; have BK109 := n0_; have BK110 := n1_; have HB := n2_; have BK112 := n3_; have GW112 := n4_; have GE112 := n5_; have NB109_112 := n6_; have NB112_109 := n7_; have NB110_112 := n8_; have NB112_110 := n9_; clear n0_ n1_ n2_ n3_ n4_ n5_ n6_ n7_ n8_ n9_; clear hb hbox hg; have hnb14 := NB112_109.out; have hnc14 := NB109_112.out; have hnb15 := NB112_110.out; have hnc15 := NB110_112.out; have hcz16_0 : w13.cell? ⟨gb112, 0, none⟩ = some (.int .i64 0) := (blk_cell BK112.out 0).trans rfl; have hcz16_1 : w13.cell? ⟨gb112, 1, none⟩ = some (.int .i64 0) := (blk_cell BK112.out 1).trans rfl; have hfz16_0 := blk_frozen BK112.out 0; have hfz16_1 := blk_frozen BK112.out 1; have hnb17 := NB110_109.out; have hnc17 := NB109_110.out; have hcz18_0 : w13.cell? ⟨gb110, 0, none⟩ = some (.int .i64 x111000_1) := (blk_cell BK110.out 0).trans rfl; have hcz18_1 : w13.cell? ⟨gb110, 1, none⟩ = some (.int .i64 x111001_1) := (blk_cell BK110.out 1).trans rfl; have hfz18_0 := blk_frozen BK110.out 0; have hfz18_1 := blk_frozen BK110.out 1))
            go_roundg k1
            case measure => have := HK1.out; omega
            case rel => exact ⟨(wrap64 (x13_1 + 1)), (ji11), (ji12), (by first | rfl | (simp; done) | (simp [*]; done)), H', ⟨by have := HK1.out; omega⟩, ⟨by (with_reducible repeat (first | refine blk_drewN ?_ _ | refine blk_drew ?_ | refine blk_alloc ?_ _)); refine blk_far ?_ NB109_110.out _; (with_reducible repeat (first | refine blk_drewN ?_ _ | refine blk_drew ?_ | refine blk_alloc ?_ _)); refine blk_far ?_ NB109_110.out _; (with_reducible repeat (first | refine blk_drewN ?_ _ | refine blk_drew ?_ | refine blk_alloc ?_ _)); refine blk_far ?_ NB109_112.out _; (with_reducible repeat (first | refine blk_drewN ?_ _ | refine blk_drew ?_ | refine blk_alloc ?_ _)); refine blk_far ?_ NB109_112.out _; (with_reducible repeat (first | refine blk_drewN ?_ _ | refine blk_drew ?_ | refine blk_alloc ?_ _)); exact BK109.out⟩, ⟨by (with_reducible repeat (first | refine blk_drewN ?_ _ | refine blk_drew ?_ | refine blk_alloc ?_ _)); refine blk_put (cs := #[.int .i64 ji11, .int .i64 x111001_1]) ?_ 1 _ rfl; (with_reducible repeat (first | refine blk_drewN ?_ _ | refine blk_drew ?_ | refine blk_alloc ?_ _)); refine blk_put (cs := #[.int .i64 x111000_1, .int .i64 x111001_1]) ?_ 0 _ rfl; (with_reducible repeat (first | refine blk_drewN ?_ _ | refine blk_drew ?_ | refine blk_alloc ?_ _)); refine blk_far ?_ NB110_112.out _; (with_reducible repeat (first | refine blk_drewN ?_ _ | refine blk_drew ?_ | refine blk_alloc ?_ _)); refine blk_far ?_ NB110_112.out _; (with_reducible repeat (first | refine blk_drewN ?_ _ | refine blk_drew ?_ | refine blk_alloc ?_ _)); exact BK110.out⟩, ⟨bel HB⟩⟩
          · rw [if_neg c10] at H
            exact absurd H (by simp)
        · rw [if_neg c9] at H
          exact absurd H (by simp)
      · rw [if_neg c8] at H
        have c8b0 : decide (x13_1 < (l1.length : Int)) = false := decide_eq_false c8
        clear c8
        by_cases c19 : x111000_1 = 1099511627776
        · rw [if_pos c19] at H
          have c19b0 : (x111000_1 == 1099511627776) = true := beq_iff_eq.mpr c19
          have c19b1 : (x111000_1 != 1099511627776) = false := bne_eq_false_iff_eq.mpr c19
          clear c19
          simp only [Option.some.injEq, Prod.mk.injEq] at H
          obtain ⟨rfl, rfl⟩ := H
          have hnb20 := NB110_109.out
          have hnc20 := NB109_110.out
          have hcz21_0 : wr.cell? ⟨gb110, 0, none⟩ = some (.int .i64 x111000_1) := (blk_cell BK110.out 0).trans rfl
          have hcz21_1 : wr.cell? ⟨gb110, 1, none⟩ = some (.int .i64 x111001_1) := (blk_cell BK110.out 1).trans rfl
          have hfz21_0 := blk_frozen BK110.out 0
          have hfz21_1 := blk_frozen BK110.out 1
          have hcz22_0 : wr.cell? ⟨gb109, 0, none⟩ = some (.int .i64 0) := (blk_cell BK109.out 0).trans rfl
          have hcz22_1 : wr.cell? ⟨gb109, 1, none⟩ = some (.int .i64 0) := (blk_cell BK109.out 1).trans rfl
          have hfz22_0 := blk_frozen BK109.out 0
          have hfz22_1 := blk_frozen BK109.out 1
          go_wp2
          refine bodyPost_ret (results_cell_row rfl _ _ gb109 34 #[.int .i64 1099511627776, .int .i64 0] (0, 0) _ rfl (by (with_reducible repeat (first | refine blk_drewN ?_ _ | refine blk_drew ?_ | refine blk_alloc ?_ _)); refine blk_put (cs := #[.int .i64 1099511627776, .int .i64 0]) ?_ 1 _ rfl; (with_reducible repeat (first | refine blk_drewN ?_ _ | refine blk_drew ?_ | refine blk_alloc ?_ _)); refine blk_put (cs := #[.int .i64 0, .int .i64 0]) ?_ 0 _ rfl; (with_reducible repeat (first | refine blk_drewN ?_ _ | refine blk_drew ?_ | refine blk_alloc ?_ _)); exact BK109.out) Try.underlying34 rfl (by kernel_rfl)) rfl ?_
          exact ⟨by first | rfl | (simp [errW_none, errW_some] <;> rfl) | (simp only [← hji3]; first | rfl | (simp [errW_none, errW_some] <;> rfl)) | (simp [*, errW_none, errW_some] <;> rfl), bel HB⟩
        · rw [if_neg c19] at H
          have c19b0 : (x111000_1 == 1099511627776) = false := beq_eq_false_iff_ne.mpr c19
          have c19b1 : (x111000_1 != 1099511627776) = true := bne_iff_ne.mpr c19
          simp only [Option.some.injEq, Prod.mk.injEq] at H
          obtain ⟨rfl, rfl⟩ := H
          have hnb23 := NB110_109.out
          have hnc23 := NB109_110.out
          have hcz24_0 : wr.cell? ⟨gb110, 0, none⟩ = some (.int .i64 x111000_1) := (blk_cell BK110.out 0).trans rfl
          have hcz24_1 : wr.cell? ⟨gb110, 1, none⟩ = some (.int .i64 x111001_1) := (blk_cell BK110.out 1).trans rfl
          have hfz24_0 := blk_frozen BK110.out 0
          have hfz24_1 := blk_frozen BK110.out 1
          have hcz25_0 : wr.cell? ⟨gb109, 0, none⟩ = some (.int .i64 0) := (blk_cell BK109.out 0).trans rfl
          have hcz25_1 : wr.cell? ⟨gb109, 1, none⟩ = some (.int .i64 0) := (blk_cell BK109.out 1).trans rfl
          have hfz25_0 := blk_frozen BK109.out 0
          have hfz25_1 := blk_frozen BK109.out 1
          go_wp2
          refine bodyPost_ret (results_cell_row rfl _ _ gb109 34 #[.int .i64 x111000_1, .int .i64 x111001_1] (0, 0) _ rfl (by (with_reducible repeat (first | refine blk_drewN ?_ _ | refine blk_drew ?_ | refine blk_alloc ?_ _)); refine blk_put (cs := #[.int .i64 x111000_1, .int .i64 0]) ?_ 1 _ rfl; (with_reducible repeat (first | refine blk_drewN ?_ _ | refine blk_drew ?_ | refine blk_alloc ?_ _)); refine blk_put (cs := #[.int .i64 0, .int .i64 0]) ?_ 0 _ rfl; (with_reducible repeat (first | refine blk_drewN ?_ _ | refine blk_drew ?_ | refine blk_alloc ?_ _)); exact BK109.out) Try.underlying34 rfl (by kernel_rfl)) rfl ?_
          exact ⟨by first | rfl | (simp [errW_none, errW_some] <;> rfl) | (simp only [← hji3]; first | rfl | (simp [errW_none, errW_some] <;> rfl)) | (simp [*, errW_none, errW_some] <;> rfl), bel HB⟩
end Go.Proofs.Ytamimodkcbbpmaa.Pr
end
section
/- Printed by a program of this session (a turned print of the kit's) out of the translation: each Go function as a Lean function, and the proof that the machine's call answers what it says. Lean checks it. -/
namespace Go.Proofs.Ytamimodkcbbpmaa.Pr
open Go.RowKit Go.Proofs.YtamimodkcbbpmaaW.PrintWords Go.Proofs.YtamimodkcbbpmaaW.PrintLast Go.Proofs.YtamimodkcbbpmaaW.PrintMore Go.Proofs.YtamimodkcbbpmaaXW
attribute [local go_sem] max2_int min2_int max_two min_two max_three min_three max_four min_four   -- for this text's walks alone
set_option linter.unusedVariables false
set_option linter.unusedSimpArgs false

/-! ### knuth_Less: function 100 -/
def knuth_Less.f (a0_0 : Int) (a0_1 : Int) (a1_0 : Int) (a1_1 : Int) : Option (Bool) := if a0_0 < a1_0 then (some true) else (if a0_0 = a1_0 then (some (decide (a0_1 < a1_1))) else (some false))
set_option maxHeartbeats 8000000 in
set_option maxRecDepth 100000 in
theorem knuth_Less.calls (a0_0 : Int) (a0_1 : Int) (a1_0 : Int) (a1_1 : Int) (r : Bool) (w : World) (h : knuth_Less.f a0_0 a0_1 a1_0 a1_1 = some r) :
    Calls Try.prog 100 #[.agg #[.int .i64 a0_0, .int .i64 a0_1], .agg #[.int .i64 a1_0, .int .i64 a1_1]] w fun e w' => e = .returned (.bool r) ∧ Below w.heap.size w w' := by
  have hu34 := Try.underlying34
  have HB := Aside0.mk (Below.refl w.heap.size w)
  have H : (if a0_0 < a1_0 then (some true) else (if a0_0 = a1_0 then (some (decide (a0_1 < a1_1))) else (some false))) = some r := h
  clear h
  by_cases c3 : a0_0 < a1_0
  · rw [if_pos c3] at H
    have c3b0 : decide (a0_0 < a1_0) = true := decide_eq_true c3
    clear c3
    obtain rfl := Option.some.inj H
    go_enter Try.func100, Try.ntmps100
    go_wp2_with (first | ((with_reducible refine gate_dst (N := 2) rfl ?_); refine box_event ?hg (N := 2) ?hd (cs := #[.int .i64 a0_0, .int .i64 a0_1]) (t := 34) ?hr ?_; (case hd => rfl); (case hg => rfl); (case hr => first | (go_simp; done) | (go_simp; rfl)); intro gb126 hg w4 hbox hb; have n0_ := Aside0.mk (below_step (bel HB) hb); have n1_ := Aside0.mk (hbox); have n2_ := Aside0.mk ((by rw [hg]; exact (below_size (bel HB)) : w.heap.size ≤ gb126)); have n3_ := Aside0.mk ((by rw [hg]; exact (below_size (bel HB)) : w.heap.size ≤ gb126)); clear HB; have HB := n0_; have BK126 := n1_; have GW126 := n2_; have GE126 := n3_; clear n0_ n1_ n2_ n3_; clear hb hbox hg) | ((with_reducible refine gate_dst (N := 3) rfl ?_); refine box_event ?hg (N := 3) ?hd (cs := #[.int .i64 a1_0, .int .i64 a1_1]) (t := 34) ?hr ?_; (case hd => rfl); (case hg => rfl); (case hr => first | (go_simp; done) | (go_simp; rfl)); intro gb127 hg w5 hbox hb; have n0_ := Aside0.mk (blk_below (bk BK126) hb); have n1_ := Aside0.mk (below_step (bel HB) hb); have n2_ := Aside0.mk (hbox); have n3_ := Aside0.mk ((by rw [hg]; exact (below_size (bel HB)) : w.heap.size ≤ gb127)); have n4_ := Aside0.mk ((by rw [hg]; exact (below_size (bel HB)) : w.heap.size ≤ gb127)); have n5_ := Aside0.mk ((by rw [hg]; exact Nat.ne_of_lt (blk_lt (bk BK126)) : gb126 ≠ gb127)); have n6_ := Aside0.mk ((by rw [hg]; exact Nat.ne_of_gt (blk_lt (bk BK126)) : gb127 ≠ gb126)); clear BK126; clear HB; have BK126 := n0_; have HB := n1_; have BK127 := n2_; have GW127 := n3_; have GE127 := n4_; have NB126_127 := n5_; have NB127_126 := n6_; clear n0_ n1_ n2_ n3_ n4_ n5_ n6_; clear hb hbox hg; have hnb6 := NB126_127.out; have hnc6 := NB127_126.out; have hcz7_0 : w5.cell? ⟨gb126, 0, none⟩ = some (.int .i64 a0_0) := (blk_cell BK126.out 0).trans rfl; have hcz7_1 : w5.cell? ⟨gb126, 1, none⟩ = some (.int .i64 a0_1) := (blk_cell BK126.out 1).trans rfl; have hfz7_0 := blk_frozen BK126.out 0; have hfz7_1 := blk_frozen BK126.out 1; have hcz8_0 : w5.cell? ⟨gb127, 0, none⟩ = some (.int .i64 a1_0) := (blk_cell BK127.out 0).trans rfl; have hcz8_1 : w5.cell? ⟨gb127, 1, none⟩ = some (.int .i64 a1_1) := (blk_cell BK127.out 1).trans rfl; have hfz8_0 := blk_frozen BK127.out 0; have hfz8_1 := blk_frozen BK127.out 1))
    go_ret
    exact ⟨by first | rfl | (simp [errW_none, errW_some] <;> rfl) | (simp [*, errW_none, errW_some] <;> rfl), bel HB⟩
  · rw [if_neg c3] at H
    have c3b0 : decide (a0_0 < a1_0) = false := decide_eq_false c3
    clear c3
    by_cases c9 : a0_0 = a1_0
    · rw [if_pos c9] at H
      have c9b0 : (a0_0 == a1_0) = true := beq_iff_eq.mpr c9
      have c9b1 : (a0_0 != a1_0) = false := bne_eq_false_iff_eq.mpr c9
      clear c9
      obtain rfl := Option.some.inj H
      go_enter Try.func100, Try.ntmps100
      go_wp2_with (first | ((with_reducible refine gate_dst (N := 2) rfl ?_); refine box_event ?hg (N := 2) ?hd (cs := #[.int .i64 a0_0, .int .i64 a0_1]) (t := 34) ?hr ?_; (case hd => rfl); (case hg => rfl); (case hr => first | (go_simp; done) | (go_simp; rfl)); intro gb126 hg w10 hbox hb; have n0_ := Aside0.mk (below_step (bel HB) hb); have n1_ := Aside0.mk (hbox); have n2_ := Aside0.mk ((by rw [hg]; exact (below_size (bel HB)) : w.heap.size ≤ gb126)); have n3_ := Aside0.mk ((by rw [hg]; exact (below_size (bel HB)) : w.heap.size ≤ gb126)); clear HB; have HB := n0_; have BK126 := n1_; have GW126 := n2_; have GE126 := n3_; clear n0_ n1_ n2_ n3_; clear hb hbox hg) | ((with_reducible refine gate_dst (N := 3) rfl ?_); refine box_event ?hg (N := 3) ?hd (cs := #[.int .i64 a1_0, .int .i64 a1_1]) (t := 34) ?hr ?_; (case hd => rfl); (case hg => rfl); (case hr => first | (go_simp; done) | (go_simp; rfl)); intro gb127 hg w11 hbox hb; have n0_ := Aside0.mk (blk_below (bk BK126) hb); have n1_ := Aside0.mk (below_step (bel HB) hb); have n2_ := Aside0.mk (hbox); have n3_ := Aside0.mk ((by rw [hg]; exact (below_size (bel HB)) : w.heap.size ≤ gb127)); have n4_ := Aside0.mk ((by rw [hg]; exact (below_size (bel HB)) : w.heap.size ≤ gb127)); have n5_ := Aside0.mk ((by rw [hg]; exact Nat.ne_of_lt (blk_lt (bk BK126)) : gb126 ≠ gb127)); have n6_ := Aside0.mk ((by rw [hg]; exact Nat.ne_of_gt (blk_lt (bk BK126)) : gb127 ≠ gb126)); clear BK126; clear HB; have BK126 := n0_; have HB := n1_; have BK127 := n2_; have GW127 := n3_; have GE127 := n4_; have NB126_127 := n5_; have NB127_126 := n6_; clear n0_ n1_ n2_ n3_ n4_ n5_ n6_; clear hb hbox hg; have hnb12 := NB126_127.out; have hnc12 := NB127_126.out; have hcz13_0 : w11.cell? ⟨gb126, 0, none⟩ = some (.int .i64 a0_0) := (blk_cell BK126.out 0).trans rfl; have hcz13_1 : w11.cell? ⟨gb126, 1, none⟩ = some (.int .i64 a0_1) := (blk_cell BK126.out 1).trans rfl; have hfz13_0 := blk_frozen BK126.out 0; have hfz13_1 := blk_frozen BK126.out 1; have hcz14_0 : w11.cell? ⟨gb127, 0, none⟩ = some (.int .i64 a1_0) := (blk_cell BK127.out 0).trans rfl; have hcz14_1 : w11.cell? ⟨gb127, 1, none⟩ = some (.int .i64 a1_1) := (blk_cell BK127.out 1).trans rfl; have hfz14_0 := blk_frozen BK127.out 0; have hfz14_1 := blk_frozen BK127.out 1))
      go_ret
      exact ⟨by first | rfl | (simp [errW_none, errW_some] <;> rfl) | (simp [*, errW_none, errW_some] <;> rfl), bel HB⟩
    · rw [if_neg c9] at H
      have c9b0 : (a0_0 == a1_0) = false := beq_eq_false_iff_ne.mpr c9
      have c9b1 : (a0_0 != a1_0) = true := bne_iff_ne.mpr c9
      obtain rfl := Option.some.inj H
      go_enter Try.func100, Try.ntmps100
      go_wp2_with (first | ((with_reducible refine gate_dst (N := 2) rfl ?_); refine box_event ?hg (N := 2) ?hd (cs := #[.int .i64 a0_0, .int .i64 a0_1]) (t := 34) ?hr ?_; (case hd => rfl); (case hg => rfl); (case hr => first | (go_simp; done) | (go_simp; rfl)); intro gb126 hg w15 hbox hb; have n0_ := Aside0.mk (below_step (bel HB) hb); have n1_ := Aside0.mk (hbox); have n2_ := Aside0.mk ((by rw [hg]; exact (below_size (bel HB)) : w.heap.size ≤ gb126)); have n3_ := Aside0.mk ((by rw [hg]; exact (below_size (bel HB)) : w.heap.size ≤ gb126)); clear HB; have HB := n0_; have BK126 := n1_; have GW126 := n2_; have GE126 := n3_; clear n0_ n1_ n2_ n3_; clear hb hbox hg) | ((with_reducible refine gate_dst (N := 3) rfl ?_); refine box_event ?hg (N := 3) ?hd (cs := #[.int .i64 a1_0, .int .i64 a1_1]) (t := 34) ?hr ?_; (case hd => rfl); (case hg => rfl); (case hr => first | (go_simp; done) | (go_simp; rfl)); intro gb127 hg w16 hbox hb; have n0_ := Aside0.mk (blk_below (bk BK126) hb); have n1_ := Aside0.mk (below_step (bel HB) hb); have n2_ := Aside0.mk (hbox); have n3_ := Aside0.mk ((by rw [hg]; exact (below_size (bel HB)) : w.heap.size ≤ gb127)); have n4_ := Aside0.mk ((by rw [hg]; exact (below_size (bel HB)) : w.heap.size ≤ gb127)); have n5_ := Aside0.mk ((by rw [hg]; exact Nat.ne_of_lt (blk_lt (bk BK126)) : gb126 ≠ gb127)); have n6_ := Aside0.mk ((by rw [hg]; exact Nat.ne_of_gt (blk_lt (bk BK126)) : gb127 ≠ gb126)); clear BK126; clear HB; have BK126 := n0_; have HB := n1_; have BK127 := n2_; have GW127 := n3_; have GE127 := n4_; have NB126_127 := n5_; have NB127_126 := n6_; clear n0_ n1_ n2_ n3_ n4_ n5_ n6_; clear hb hbox hg; have hnb17 := NB126_127.out; have hnc17 := NB127_126.out; have hcz18_0 : w16.cell? ⟨gb126, 0, none⟩ = some (.int .i64 a0_0) := (blk_cell BK126.out 0).trans rfl; have hcz18_1 : w16.cell? ⟨gb126, 1, none⟩ = some (.int .i64 a0_1) := (blk_cell BK126.out 1).trans rfl; have hfz18_0 := blk_frozen BK126.out 0; have hfz18_1 := blk_frozen BK126.out 1; have hcz19_0 : w16.cell? ⟨gb127, 0, none⟩ = some (.int .i64 a1_0) := (blk_cell BK127.out 0).trans rfl; have hcz19_1 : w16.cell? ⟨gb127, 1, none⟩ = some (.int .i64 a1_1) := (blk_cell BK127.out 1).trans rfl; have hfz19_0 := blk_frozen BK127.out 0; have hfz19_1 := blk_frozen BK127.out 1))
      go_ret
      exact ⟨by first | rfl | (simp [errW_none, errW_some] <;> rfl) | (simp [*, errW_none, errW_some] <;> rfl), bel HB⟩
end Go.Proofs.Ytamimodkcbbpmaa.Pr
end
section
/- A map from int to int of which nothing is known but that its keys are whole numbers: what its operations do to it. -/
namespace Go.Proofs.YtamimodkcbbpmaaXM
open Go.MapKept Go.ChangeMaps

def IntKeys (es : Array MapEntry) : Prop := ∀ e ∈ es.toList, IsKey (.int .i64) e.key
theorem intKeys_nil : IntKeys #[] := fun e h => by simp at h
theorem isKey_int (n : Int) : IsKey (.int .i64) (.int .i64 n) := rfl

section
variable {w : World} {b : Nat} {es : Array MapEntry} {clock : Nat}
theorem intKeys_push (h : IntKeys es) (n : Int) (v : Value) (c : Nat) : IntKeys (es.push ⟨.int .i64 n, v, c⟩) := by
  intro e he
  simp only [Array.toList_push, List.mem_append, List.mem_singleton] at he
  rcases he with he | rfl
  · exact h e he
  · exact isKey_int n
theorem intKeys_modify (h : IntKeys es) (i : Nat) (f : MapEntry → MapEntry) (hf : ∀ e, es[i]? = some e → (f e).key = e.key) : IntKeys (es.modify i f) := isKey_modify h i f hf
theorem intKeys_erase (h : IntKeys es) (i : Nat) : IntKeys (es.eraseIdxIfInBounds i) := by
  intro e he
  refine h e ?_
  have hs : (es.eraseIdxIfInBounds i).toList.Sublist es.toList := by
    unfold Array.eraseIdxIfInBounds
    split
    · simp only [Array.toList_eraseIdx]; exact List.eraseIdx_sublist _ _
    · exact List.Sublist.refl _
  exact hs.subset he

theorem heap_setBlock (hb : w.heap[b]? = some (.map es clock)) (o : Obj) : (setBlock w b o).heap[b]? = some o := (MapKept.heap_set hb).1

set_option maxRecDepth 100000 in
theorem mapUpdate_run (hb : w.heap[b]? = some (.map es clock)) (hk : IntKeys es) (n : Int) (v : Value) :
    ∃ es1 c1, (Instr.mapUpdate 132 (.map (some b)) (.int .i64 n) v).run Try.prog w = .ok () (setBlock w b (.map es1 c1)) ∧ IntKeys es1 := by
  have ht := Try.underlying132
  have h3 := Try.underlying3
  rcases findNow_spec (isKey_int n) es.toList 0 hk with ⟨h1, h2⟩ | ⟨j, e0, h1, h2, hkey⟩
  · exact ⟨_, _, by simp [Instr.mapUpdate, run_underlying ht, MapKept.run_getObj_map hb, run_checkKey h3 (isKey_int n), run_findKey h3 h1, MapKept.run_setObj_map _ hb, Result.andThen, setBlock]; rfl, intKeys_push hk n v clock⟩
  · have hj : es[j]? = some e0 := by simpa using h2
    refine ⟨es.modify j (fun e => { e with key := .int .i64 n, val := v }), clock, ?_, intKeys_modify hk j _ (fun e he => by rw [hj] at he; injection he with he; subst he; exact hkey.symm)⟩
    simp [Instr.mapUpdate, run_underlying ht, MapKept.run_getObj_map hb, run_checkKey h3 (isKey_int n), run_findKey h3 h1, hj, hkey, run_keyThatStays (isKey_int n), MapKept.run_setObj_map _ hb, Result.andThen, setBlock]

set_option maxRecDepth 100000 in
theorem delete_run (hb : w.heap[b]? = some (.map es clock)) (hk : IntKeys es) (n : Int) (ty : TypeId) :
    ∃ es1 c1, (Builtin.delete_ #[132, 3] ty #[.map (some b), .int .i64 n]).run Try.prog w = .ok (.tuple #[]) (setBlock w b (.map es1 c1)) ∧ IntKeys es1 := by
  have ht := Try.underlying132
  have h3 := Try.underlying3
  rcases findNow_spec (isKey_int n) es.toList 0 hk with ⟨h1, h2⟩ | ⟨j, e0, h1, h2, hkey⟩
  · exact ⟨_, _, by simp [Builtin.delete_, run_underlying ht, MapKept.run_getObj_map hb, run_checkKey h3 (isKey_int n), run_findKey h3 h1, MapKept.run_setObj_map _ hb, Result.andThen, setBlock]; rfl, hk⟩
  · exact ⟨es.eraseIdxIfInBounds j, clock, by simp [Builtin.delete_, run_underlying ht, MapKept.run_getObj_map hb, run_checkKey h3 (isKey_int n), run_findKey h3 h1, MapKept.run_setObj_map _ hb, Result.andThen, setBlock], intKeys_erase hk j⟩

/-- An entry by its stamp. -/
def HasStamp (es : Array MapEntry) (st : Nat) : Prop := ∃ i, es.findIdx? (fun e => ((e.born : Nat) : Int) == ((st : Nat) : Int)) = some i
theorem hasStamp_of_mem {es : Array MapEntry} {e : MapEntry} (h : e ∈ es.toList) : HasStamp es e.born := by
  unfold HasStamp
  cases hf : es.findIdx? (fun x => ((x.born : Nat) : Int) == ((e.born : Nat) : Int)) with
  | some i => exact ⟨i, rfl⟩
  | none =>
    rw [Array.findIdx?_eq_none_iff] at hf
    have := hf e (by simpa using h)
    simp at this

set_option maxRecDepth 100000 in
theorem mapEntry_run (hb : w.heap[b]? = some (.map es clock)) (hk : IntKeys es) (n : Int) :
    ∃ v st es1 c1, (Instr.mapEntry 132 (.map (some b)) (.int .i64 n)).run Try.prog w = .ok (.tuple #[v, goInt (st : Nat)]) (setBlock w b (.map es1 c1)) ∧ IntKeys es1 ∧ HasStamp es1 st := by
  have ht := Try.underlying132
  have h3 := Try.underlying3
  have hz : ∀ u : World, (zeroValue 3).run Try.prog u = .ok (.int .i64 0) u := fun u => by kernel_rfl
  rcases findNow_spec (isKey_int n) es.toList 0 hk with ⟨h1, h2⟩ | ⟨j, e0, h1, h2, hkey⟩
  · exact ⟨.int .i64 0, clock, es.push ⟨.int .i64 n, .int .i64 0, clock⟩, clock + 1, by simp [Instr.mapEntry, run_underlying ht, MapKept.run_getObj_map hb, run_checkKey h3 (isKey_int n), run_findKey h3 h1, hz, MapKept.run_setObj_map _ hb, Result.andThen, setBlock], intKeys_push hk n _ clock,
      hasStamp_of_mem (e := ⟨.int .i64 n, .int .i64 0, clock⟩) (by simp)⟩
  · have hj : es[j]? = some e0 := by simpa using h2
    refine ⟨e0.val, e0.born, es.modify j (fun e => { e with key := .int .i64 n }), clock, ?_, intKeys_modify hk j _ (fun e he => by rw [hj] at he; injection he with he; subst he; exact hkey.symm), ?_⟩
    · simp [Instr.mapEntry, run_underlying ht, MapKept.run_getObj_map hb, run_checkKey h3 (isKey_int n), run_findKey h3 h1, hj, hkey, run_keyThatStays (isKey_int n), MapKept.run_setObj_map _ hb, Result.andThen, setBlock]
    · refine hasStamp_of_mem (e := { e0 with key := .int .i64 n }) ?_
      have : (es.modify j (fun e => { e with key := .int .i64 n }))[j]? = some { e0 with key := .int .i64 n } := by rw [Array.getElem?_modify]; simp [hj]
      exact Array.mem_toList_iff.2 (Array.mem_of_getElem? this)

theorem entryStore_run (hb : w.heap[b]? = some (.map es clock)) (hk : IntKeys es) {st : Nat} (hs : HasStamp es st) (v : Value) :
    ∃ es1 c1, (Instr.entryStore 132 (.map (some b)) (goInt (st : Nat)) v).run Try.prog w = .ok () (setBlock w b (.map es1 c1)) ∧ IntKeys es1 := by
  obtain ⟨i, hi⟩ := hs
  exact ⟨es.modify i (fun e => { e with val := v }), clock, by simp [Instr.entryStore, MapKept.run_getObj_map hb, asInt, asIntOf, goInt, hi, MapKept.run_setObj_map _ hb, Result.andThen, setBlock], intKeys_modify hk i _ (fun e _ => rfl)⟩

/-- What an operation on the map at block b leaves as it was. -/
structure MF (b : Nat) (W W1 : World) : Prop where
  os : W1.os = W.os
  tape : W1.tape = W.tape
  output : W1.output = W.output
  size : W1.heap.size = W.heap.size
  block : ∀ k, k ≠ b → W1.heap[k]? = W.heap[k]?
theorem mf_setBlock (hb : w.heap[b]? = some (.map es clock)) (o : Obj) : MF b w (setBlock w b o) := ⟨rfl, rfl, rfl, by simp [setBlock], (MapKept.heap_set hb).2⟩
theorem MF.cell {W W1 : World} (h : MF b W W1) (hb : W.heap[b]? = some (.map es clock)) {a : Addr} {v : Value} (hc : W.cell? a = some v) : W1.cell? a = some v := by
  have hne : a.block ≠ b := by
    rintro rfl
    simp [World.cell?, hb] at hc
  rw [← hc]
  simp [World.cell?, h.block _ hne]
theorem MF.blk {W W1 : World} (h : MF b W W1) (hb : W.heap[b]? = some (.map es clock)) {k : Nat} {cs : Array Value} {t : TypeId} {fr : Nat × Nat} (hk : W.heap[k]? = some (.cells cs t fr)) : W1.heap[k]? = some (.cells cs t fr) := by
  have hne : k ≠ b := by
    rintro rfl
    rw [hb] at hk
    cases hk
  rw [← hk]
  exact h.block _ hne
theorem mapUpdate_w (hb : w.heap[b]? = some (.map es clock)) (hk : IntKeys es) (n : Int) (v : Value) :
    ∃ W1 es1 c1, (Instr.mapUpdate 132 (.map (some b)) (.int .i64 n) v).run Try.prog w = .ok () W1 ∧ W1.heap[b]? = some (.map es1 c1) ∧ IntKeys es1 ∧ MF b w W1 := by
  obtain ⟨es1, c1, h1, h2⟩ := mapUpdate_run hb hk n v
  exact ⟨_, es1, c1, h1, heap_setBlock hb _, h2, mf_setBlock hb _⟩
theorem delete_w (hb : w.heap[b]? = some (.map es clock)) (hk : IntKeys es) (n : Int) (ty : TypeId) :
    ∃ W1 es1 c1, (Builtin.delete_ #[132, 3] ty #[.map (some b), .int .i64 n]).run Try.prog w = .ok (.tuple #[]) W1 ∧ W1.heap[b]? = some (.map es1 c1) ∧ IntKeys es1 ∧ MF b w W1 := by
  obtain ⟨es1, c1, h1, h2⟩ := delete_run hb hk n ty
  exact ⟨_, es1, c1, h1, heap_setBlock hb _, h2, mf_setBlock hb _⟩
theorem mapEntry_w (hb : w.heap[b]? = some (.map es clock)) (hk : IntKeys es) (n : Int) :
    ∃ W1 v st es1 c1, (Instr.mapEntry 132 (.map (some b)) (.int .i64 n)).run Try.prog w = .ok (.tuple #[v, goInt (st : Nat)]) W1 ∧ W1.heap[b]? = some (.map es1 c1) ∧ IntKeys es1 ∧ HasStamp es1 st ∧ MF b w W1 := by
  obtain ⟨v, st, es1, c1, h1, h2, h3⟩ := mapEntry_run hb hk n
  exact ⟨_, v, st, es1, c1, h1, heap_setBlock hb _, h2, h3, mf_setBlock hb _⟩
theorem entryStore_w (hb : w.heap[b]? = some (.map es clock)) (hk : IntKeys es) {st : Nat} (hs : HasStamp es st) (v : Value) :
    ∃ W1 es1 c1, (Instr.entryStore 132 (.map (some b)) (goInt (st : Nat)) v).run Try.prog w = .ok () W1 ∧ W1.heap[b]? = some (.map es1 c1) ∧ IntKeys es1 ∧ MF b w W1 := by
  obtain ⟨es1, c1, h1, h2⟩ := entryStore_run hb hk hs v
  exact ⟨_, es1, c1, h1, heap_setBlock hb _, h2, mf_setBlock hb _⟩
end
end Go.Proofs.YtamimodkcbbpmaaXM
end
section
/- The priority queue of package pqueue at Knuth's candidates: what its methods do to the queue in memory. -/
namespace Go.Proofs.Ytamimodkcbbpmaa.Pr
open Go.RowKit Go.Proofs.YtamimodkcbbpmaaW.PrintWords Go.Proofs.YtamimodkcbbpmaaW.PrintLast Go.Proofs.YtamimodkcbbpmaaXW
set_option linter.unusedVariables false
set_option linter.unusedSimpArgs false

def ltV (a b : S34) : Bool := decide (a.f0 < b.f0) || (decide (a.f0 = b.f0) && decide (a.f1 < b.f1))

theorem knuth_Less_eq (a b : S34) : knuth_Less.f a.f0 a.f1 b.f0 b.f1 = some (ltV a b) := by
  unfold knuth_Less.f ltV
  by_cases h1 : a.f0 < b.f0
  · simp [h1]
  · by_cases h2 : a.f0 = b.f0
    · simp [h2]
    · simp [h1, h2]

theorem knuth_Less_calls (a b : S34) (w : World) :
    Calls Try.prog 100 #[.agg #[.int .i64 a.f0, .int .i64 a.f1], .agg #[.int .i64 b.f0, .int .i64 b.f1]] w fun e w' => e = .returned (.bool (ltV a b)) ∧ Below w.heap.size w w' :=
  knuth_Less.calls _ _ _ _ _ w (knuth_Less_eq a b)

theorem less_calls (a b : S124) (w : World) :
    Calls Try.prog 103 #[.agg #[.int .i64 a.f0, .int .i64 a.f1.f0, .int .i64 a.f1.f1], .agg #[.int .i64 b.f0, .int .i64 b.f1.f0, .int .i64 b.f1.f1]] w fun e w' => e = .returned (.bool (ltV a.f1 b.f1)) ∧ Below w.heap.size w w' := by
  go_enter Try.func103, Try.ntmps103
  go_wp2_with fail
  refine (knuth_Less_calls a.f1 b.f1 _).mono ?_
  rintro e w1 ⟨rfl, hb⟩
  go_wp2
  go_ret
  exact ⟨rfl, ((((Below.refl _ _).alloc (Nat.le_refl _) _).alloc (by simp) _).trans (hb.mono (by simp; omega)))⟩

theorem old1 {w : World} {a : Addr} {v : Value} (h : w.cell? a = some v) : ∀ o, (w.alloc o).cell? a = some v := fun o => pw_cell_below (below_alloc (Below.refl _ _) o) h
theorem old2 {w : World} {a : Addr} {v : Value} (h : w.cell? a = some v) : ∀ o o2, ((w.alloc o).alloc o2).cell? a = some v := fun o o2 => old1 (old1 h o) o2
theorem two_new0 (w : World) (A B : Obj) : (((w.alloc A).alloc B).drew).heap[w.heap.size]? = some A := by
  show ((w.heap.push A).push B)[w.heap.size]? = _
  rw [Array.getElem?_push, Array.getElem?_push]
  simp
theorem two_new1 (w : World) (A B : Obj) : (((w.alloc A).alloc B).drew).heap[w.heap.size + 1]? = some B := by
  show ((w.heap.push A).push B)[w.heap.size + 1]? = _
  rw [Array.getElem?_push]
  simp
theorem below_two (w : World) (A B : Obj) : Below w.heap.size w (((w.alloc A).alloc B).drew) := (((Below.refl _ _).alloc (Nat.le_refl _) _).alloc (by simp) _).drew
theorem below_of_drew {w w1 : World} (h : Below w.drew.heap.size w.drew w1) : Below w.heap.size w w1 := ⟨h.os, h.tape, h.output, h.size, h.block⟩

/-- The queue at block q: its entries, its next handle, its clock. -/
abbrev lessV : Value := .func (.func 103) #[] #[]
open Go.Proofs.YtamimodkcbbpmaaXM (IntKeys)
def QS (base : Nat) (w : World) (q : Nat) (es : List S139) (nx ck : Int) : Prop :=
  ∃ (v : Value) (bm : Nat) (ents : Array MapEntry) (mc : Nat),
    w.heap[q]? = some (.cells #[lessV, v, .map (some bm), .int .i64 nx, .int .i64 ck] 135 (0, 0)) ∧ base ≤ q ∧
    Kd.R k139 139 w base (fun _ => True) v es ∧ w.heap[bm]? = some (.map ents mc) ∧ base ≤ bm ∧ IntKeys ents

def bef (a b : S139) : Bool := ltV a.f0.f1 b.f0.f1 || (!ltV b.f0.f1 a.f0.f1 && decide (a.f2 < b.f2))

def R117.T2 : Bool × List (List Nat × List Nat) := (true, [([], []), ([0], [0]), ([1], [1]), ([2], [2]), ([], []), ([4], [4]), ([], []), ([6], [6]), ([3, 5, 7], [3, 5, 7])])
def R117.B2 : List Nat := [0, 1, 3, 7, 0, 16, 0, 64, 255]
theorem R117.tab2 : rtab .any (opsOf Try.f117 2) = R117.T2 := by kernel_rfl
theorem R117.bits2 : waitsOk R117.T2.2 R117.B2 = true := by kernel_rfl
def R117.T4 : Bool × List (List Nat × List Nat) := (true, [([], []), ([0], [0]), ([1], [1]), ([2], [2]), ([], []), ([4], [4]), ([], []), ([6], [6]), ([3, 5, 7], [3, 5, 7]), ([8], [8]), ([9, 8], [9]), ([10], [10]), ([11, 10], [10, 11]), ([10], [10]), ([13, 10], [10, 13]), ([12, 14, 10], [10, 12, 14]), ([10, 15], [10, 15]), ([16, 10, 0, 1, 2, 3, 4, 5, 6, 7, 8, 9, 10, 11, 12, 13, 14, 15, 16], [16])])
def R117.B4 : List Nat := [0, 1, 3, 7, 0, 16, 0, 64, 255, 511, 1023, 2047, 4095, 2047, 10239, 32767, 65535, 131071]
theorem R117.tab4 : rtab .any (opsOf Try.f117 4) = R117.T4 := by kernel_rfl
theorem R117.bits4 : waitsOk R117.T4.2 R117.B4 = true := by kernel_rfl
set_option maxRecDepth 100000 in
set_option maxHeartbeats 8000000 in
theorem before_calls (base q : Nat) (es : List S139) (nx ck i j : Int) (w : World) (h : QS base w q es nx ck) (hi0 : 0 ≤ i) (hi : i < (es.length : Int)) (hj0 : 0 ≤ j) (hj : j < (es.length : Int)) :
    Calls Try.prog 117 #[.pointer (some ⟨q, 0, none⟩), .int .i64 i, .int .i64 j] w fun e w' => e = .returned (.bool (bef (rd_T139 es i) (rd_T139 es j))) ∧ Below w.heap.size w w' := by
  obtain ⟨v, bm, ents, mc, hq, hbq, hR, hm, hbm, hk⟩ := h
  obtain ⟨A, c, rfl, hl, hC⟩ := Kd.R_reads hR
  obtain ⟨ad, rfl, c0, c1, c2, c3, c4⟩ := at_T139 hC i hi0 hi
  obtain ⟨ad2, e2, d0, d1, d2, d3, d4⟩ := at_T139 hC j hj0 hj
  obtain rfl : ad = ad2 := by injection e2
  have q0 : w.cell? ⟨q, 0, none⟩ = some lessV := (blk_cell hq 0).trans rfl
  have q1 : w.cell? ⟨q, 1, none⟩ = some (.slice (some ad) es.length c) := (blk_cell hq 1).trans rfl
  clear e2 hq hbq hR hm hbm hk hl hC
  have q01 := old1 q0; have q02 := old2 q0; have q11 := old1 q1; have q12 := old2 q1
  generalize rd_T139 es i = x at *
  generalize rd_T139 es j = y at *
  have c01 := old1 c0; have c02 := old2 c0; have c11 := old1 c1; have c12 := old2 c1; have c21 := old1 c2; have c22 := old2 c2; have c31 := old1 c3; have c32 := old2 c3; have c41 := old1 c4; have c42 := old2 c4
  have d01 := old1 d0; have d02 := old2 d0; have d11 := old1 d1; have d12 := old2 d1; have d21 := old1 d2; have d22 := old2 d2; have d31 := old1 d3; have d32 := old2 d3; have d41 := old1 d4; have d42 := old2 d4
  go_enter Try.func117, Try.ntmps117
  go_upto_region 1 with (fail)
  go_cut [7, 8] (fun v7 v8 wc => ∃ a b : Nat, v7 = .pointer (some ⟨a, 0, none⟩) ∧ v8 = .pointer (some ⟨b, 0, none⟩) ∧
    Aside0 (wc.heap[a]? = some (.cells #[.int .i64 x.f0.f0, .int .i64 x.f0.f1.f0, .int .i64 x.f0.f1.f1, .int .i64 x.f1, .int .i64 x.f2] 139 (0, 0))) ∧
    Aside0 (wc.heap[b]? = some (.cells #[.int .i64 y.f0.f0, .int .i64 y.f0.f1.f0, .int .i64 y.f0.f1.f1, .int .i64 y.f1, .int .i64 y.f2] 139 (0, 0))) ∧
    Aside0 (Below w.heap.size w wc))
  case first =>
    go_region
    all_goals
      go_wp2_with fail
      go_meet
      first
        | exact ⟨_, _, rfl, rfl, ⟨two_new0 _ _ _⟩, ⟨two_new1 _ _ _⟩, ⟨below_two _ _ _⟩⟩
        | exact ⟨_, _, rfl, rfl, ⟨two_new1 _ _ _⟩, ⟨two_new0 _ _ _⟩, ⟨below_two _ _ _⟩⟩
  case rest =>
    obtain ⟨a, b, rfl, rfl, ha, hb, hB⟩ := hcut
    obtain ⟨wA, rfl⟩ : ∃ wA, wA = wc := ⟨_, rfl⟩
    clear q01 q02 q11 q12 c01 c02 c11 c12 c21 c22 c31 c32 c41 c42 d01 d02 d11 d12 d21 d22 d31 d32 d41 d42 c0 c1 c2 c3 c4 d0 d1 d2 d3 d4
    have q0c := pw_cell_below hB.out q0
    have a0 : wA.cell? ⟨a, 0, none⟩ = some (.int .i64 x.f0.f0) := (blk_cell ha.out 0).trans rfl
    have a1 : wA.cell? ⟨a, 1, none⟩ = some (.int .i64 x.f0.f1.f0) := (blk_cell ha.out 1).trans rfl
    have a2 : wA.cell? ⟨a, 2, none⟩ = some (.int .i64 x.f0.f1.f1) := (blk_cell ha.out 2).trans rfl
    have b0 : wA.cell? ⟨b, 0, none⟩ = some (.int .i64 y.f0.f0) := (blk_cell hb.out 0).trans rfl
    have b1 : wA.cell? ⟨b, 1, none⟩ = some (.int .i64 y.f0.f1.f0) := (blk_cell hb.out 1).trans rfl
    have b2 : wA.cell? ⟨b, 2, none⟩ = some (.int .i64 y.f0.f1.f1) := (blk_cell hb.out 2).trans rfl
    go_upto_region 2 with (fail)
    go_cut [31] (fun v31 wd => v31 = .bool (ltV x.f0.f1 y.f0.f1) ∧ Aside0 (Below wA.heap.size wA wd))
    case first =>
      refine start_ (n := 9) (S := fun w' => w'.cell? ⟨q, 0, none⟩ = some lessV ∧ w'.cell? ⟨a, 0, none⟩ = some (.int .i64 x.f0.f0) ∧ w'.cell? ⟨a, 1, none⟩ = some (.int .i64 x.f0.f1.f0) ∧ w'.cell? ⟨a, 2, none⟩ = some (.int .i64 x.f0.f1.f1) ∧ w'.cell? ⟨b, 0, none⟩ = some (.int .i64 y.f0.f0) ∧ w'.cell? ⟨b, 1, none⟩ = some (.int .i64 y.f0.f1.f0) ∧ w'.cell? ⟨b, 2, none⟩ = some (.int .i64 y.f0.f1.f1)) (ds := []) #[false, false, false, false, false, false, false, false, false] (by kernel_rfl) rfl rfl ⟨q0c, a0, a1, a2, b0, b1, b2⟩ (fun hHeld => ?_)
      refine with_tabW R117.tab2 R117.bits2 (fun HT_ HW_ => ?_)
      refine bulk_ (fuel := 1) [(0, 23), (1, 24), (2, 25), (3, 26), (4, 27), (5, 28), (6, 29), (7, 30)] #[true, true, true, true, true, true, true, true, false] (bulkB_of HT_.out HW_.out _ _ _ (by kernel_rfl)) rfl (fun _ _ _ _ _ h => h) hHeld (a' := ?_) ?_ ?_
      rotate_left
      · iterate 8
          refine chain_cons (v := ?_) (a1 := ?_) rfl rfl (Or.inl ⟨by rfl, ?_⟩) ?_ ?_
          rotate_left 2
          · rintro w' ⟨s0, s1, s2, s3, s4, s5, s6⟩
            go_simp
            with_reducible rfl
          · simp only [Act.put, List.setIfInBounds_toArray, List.set_cons_zero, List.set_cons_succ, i64_w, i32_w]
            rfl
        exact chain_nil
      refine one_ (i := 8) (N := some 31) #[true, true, true, true, true, true, true, true, true] rfl rfl (one_of HT_.out (by kernel_rfl)) (by decide) (fun K hK => ?_)
      refine call_ 103 #[.agg #[.int .i64 x.f0.f0, .int .i64 x.f0.f1.f0, .int .i64 x.f0.f1.f1], .agg #[.int .i64 y.f0.f0, .int .i64 y.f0.f1.f0, .int .i64 y.f0.f1.f1]] (by rfl) rfl ?_ ?_
      · have he := enters_ Try.func103 (by kernel_rfl) rfl #[.agg #[.int .i64 x.f0.f0, .int .i64 x.f0.f1.f0, .int .i64 x.f0.f1.f1], .agg #[.int .i64 y.f0.f0, .int .i64 y.f0.f1.f0, .int .i64 y.f0.f1.f1]] wA.drew
        unfold execOp
        simp [resolve, Deferred.ofValue, invoke, Act.eval, he]
      refine (less_calls x.f0 y.f0 _).mono ?_
      rintro e w1 ⟨rfl, hb⟩
      refine ⟨_, rfl, ?_⟩
      refine hK.out _ _ ⟨pw_cell_below hb q0c, pw_cell_below hb a0, pw_cell_below hb a1, pw_cell_below hb a2, pw_cell_below hb b0, pw_cell_below hb b1, pw_cell_below hb b2⟩ (fun hHeld => ?_)
      clear hK K
      refine norm_ (a' := ?_) ?_ ?_
      rotate_left
      · show Act.put _ (some 31) _ = _
        simp only [Act.put, List.setIfInBounds_toArray, List.set_cons_zero, List.set_cons_succ, i64_w, i32_w]
        rfl
      refine done_ (done_of HT_.out (by kernel_rfl)) ?_
      go_wp2_with fail
      go_meet
      exact ⟨rfl, ⟨below_of_drew hb⟩⟩
    case rest =>
      obtain ⟨rfl, hD⟩ := hcut
      have hBD : Aside0 (Below w.heap.size w wc) := ⟨below_step hB.out hD.out⟩
      have ha2 := Aside0.mk (blk_below ha.out hD.out)
      have hb2 := Aside0.mk (blk_below hb.out hD.out)
      have q0d := pw_cell_below hBD.out q0
      clear q0 q1 q0c a0 a1 a2 b0 b1 b2 ha hb hB hD
      by_cases hl : ltV x.f0.f1 y.f0.f1 = true
      · rw [hl]
        go_wp2
        go_ret
        exact ⟨by simp [bef, hl], hBD.out⟩
      · have hl' : ltV x.f0.f1 y.f0.f1 = false := by simpa using hl
        clear hl
        rw [hl']
        have a0 : wc.cell? ⟨a, 0, none⟩ = some (.int .i64 x.f0.f0) := (blk_cell ha2.out 0).trans rfl
        have a1 : wc.cell? ⟨a, 1, none⟩ = some (.int .i64 x.f0.f1.f0) := (blk_cell ha2.out 1).trans rfl
        have a2 : wc.cell? ⟨a, 2, none⟩ = some (.int .i64 x.f0.f1.f1) := (blk_cell ha2.out 2).trans rfl
        have a4 : wc.cell? ⟨a, 4, none⟩ = some (.int .i64 x.f2) := (blk_cell ha2.out 4).trans rfl
        have b0 : wc.cell? ⟨b, 0, none⟩ = some (.int .i64 y.f0.f0) := (blk_cell hb2.out 0).trans rfl
        have b1 : wc.cell? ⟨b, 1, none⟩ = some (.int .i64 y.f0.f1.f0) := (blk_cell hb2.out 1).trans rfl
        have b2 : wc.cell? ⟨b, 2, none⟩ = some (.int .i64 y.f0.f1.f1) := (blk_cell hb2.out 2).trans rfl
        have b4 : wc.cell? ⟨b, 4, none⟩ = some (.int .i64 y.f2) := (blk_cell hb2.out 4).trans rfl
        clear ha2 hb2
        go_upto_region 4 with (fail)
        obtain ⟨wB, rfl⟩ : ∃ wB, wB = wc := ⟨_, rfl⟩
        go_cut [6] (fun v6 wd => v6 = .bool (bef x y) ∧ Aside0 (Below wB.heap.size wB wd))
        case first =>
          cases hl2 : ltV y.f0.f1 x.f0.f1 with
          | true =>
            refine start_ (n := 18) (S := fun w' => w'.cell? ⟨q, 0, none⟩ = some lessV ∧ w'.cell? ⟨a, 0, none⟩ = some (.int .i64 x.f0.f0) ∧ w'.cell? ⟨a, 1, none⟩ = some (.int .i64 x.f0.f1.f0) ∧ w'.cell? ⟨a, 2, none⟩ = some (.int .i64 x.f0.f1.f1) ∧ w'.cell? ⟨b, 0, none⟩ = some (.int .i64 y.f0.f0) ∧ w'.cell? ⟨b, 1, none⟩ = some (.int .i64 y.f0.f1.f0) ∧ w'.cell? ⟨b, 2, none⟩ = some (.int .i64 y.f0.f1.f1) ∧ w'.cell? ⟨a, 4, none⟩ = some (.int .i64 x.f2) ∧ w'.cell? ⟨b, 4, none⟩ = some (.int .i64 y.f2)) (ds := []) #[false, false, false, false, false, false, false, false, false, false, false, false, false, false, false, false, false, false] (by kernel_rfl) rfl rfl ⟨q0d, a0, a1, a2, b0, b1, b2, a4, b4⟩ (fun hHeld => ?_)
            refine with_tabW R117.tab4 R117.bits4 (fun HT_ HW_ => ?_)
            refine bulk_ (fuel := 10) [(0, 32), (1, 33), (2, 34), (3, 35), (4, 36), (5, 37), (6, 38), (7, 39)] #[true, true, true, true, true, true, true, true, false, false, false, false, false, false, false, false, false, false] (bulkB_of HT_.out HW_.out _ _ _ (by kernel_rfl)) rfl (fun _ _ _ _ _ h => h) hHeld (a' := ?_) ?_ ?_
            rotate_left
            · iterate 8
                refine chain_cons (v := ?_) (a1 := ?_) rfl rfl (Or.inl ⟨by rfl, ?_⟩) ?_ ?_
                rotate_left 2
                · rintro w' ⟨s0, s1, s2, s3, s4, s5, s6, s7, s8⟩
                  go_simp
                  with_reducible rfl
                · simp only [Act.put, List.setIfInBounds_toArray, List.set_cons_zero, List.set_cons_succ, i64_w, i32_w]
                  rfl
              exact chain_nil
            refine one_ (i := 8) (N := some 40) #[true, true, true, true, true, true, true, true, true, false, false, false, false, false, false, false, false, false] rfl rfl (one_of HT_.out (by kernel_rfl)) (by decide) (fun K hK => ?_)
            refine call_ 103 #[.agg #[.int .i64 y.f0.f0, .int .i64 y.f0.f1.f0, .int .i64 y.f0.f1.f1], .agg #[.int .i64 x.f0.f0, .int .i64 x.f0.f1.f0, .int .i64 x.f0.f1.f1]] (by rfl) rfl ?_ ?_
            · have he := enters_ Try.func103 (by kernel_rfl) rfl #[.agg #[.int .i64 y.f0.f0, .int .i64 y.f0.f1.f0, .int .i64 y.f0.f1.f1], .agg #[.int .i64 x.f0.f0, .int .i64 x.f0.f1.f0, .int .i64 x.f0.f1.f1]] wB.drew
              unfold execOp
              simp [resolve, Deferred.ofValue, invoke, Act.eval, he]
            refine (less_calls y.f0 x.f0 _).mono ?_
            rintro e w1 ⟨rfl, hb⟩
            refine ⟨_, rfl, ?_⟩
            refine hK.out _ _ ⟨pw_cell_below hb q0d, pw_cell_below hb a0, pw_cell_below hb a1, pw_cell_below hb a2, pw_cell_below hb b0, pw_cell_below hb b1, pw_cell_below hb b2, pw_cell_below hb a4, pw_cell_below hb b4⟩ (fun hHeld => ?_)
            clear hK K
            rw [hl2]
            refine norm_ (a' := ?_) ?_ ?_
            rotate_left
            · show Act.put _ (some 40) _ = _
              simp only [Act.put, List.setIfInBounds_toArray, List.set_cons_zero, List.set_cons_succ, i64_w, i32_w]
              rfl
            refine bulk_ (fuel := 0) [(9, 41), (10, 42), (11, 43), (12, 44), (13, 45), (14, 46), (15, 47), (16, 48), (17, 6)] #[true, true, true, true, true, true, true, true, true, true, true, true, true, true, true, true, true, true] (bulkB_of HT_.out HW_.out _ _ _ (by kernel_rfl)) rfl (fun _ _ _ _ _ h => h) hHeld (a' := ?_) ?_ ?_
            rotate_left
            · iterate 2
                refine chain_cons (v := ?_) (a1 := ?_) rfl rfl (Or.inl ⟨by rfl, ?_⟩) ?_ ?_
                rotate_left 2
                · rintro w' ⟨s0, s1, s2, s3, s4, s5, s6, s7, s8⟩
                  go_simp
                  with_reducible rfl
                · simp only [Act.put, List.setIfInBounds_toArray, List.set_cons_zero, List.set_cons_succ, i64_w, i32_w]
                  rfl
              iterate 5
                refine chain_off (a1 := ?_) rfl rfl (by rfl) ?_ ?_
                rotate_left
                · simp only [Act.put, List.setIfInBounds_toArray, List.set_cons_zero, List.set_cons_succ]
                  rfl
              iterate 2
                refine chain_cons (v := ?_) (a1 := ?_) rfl rfl (Or.inl ⟨by rfl, ?_⟩) ?_ ?_
                rotate_left 2
                · rintro w' ⟨s0, s1, s2, s3, s4, s5, s6, s7, s8⟩
                  go_simp
                  with_reducible rfl
                · simp only [Act.put, List.setIfInBounds_toArray, List.set_cons_zero, List.set_cons_succ, i64_w, i32_w]
                  rfl
              exact chain_nil
            refine done_ (done_of HT_.out (by kernel_rfl)) ?_
            go_wp2_with fail
            go_meet
            exact ⟨by simp [bef, hl', hl2], ⟨below_of_drew hb⟩⟩
          | false =>
            refine start_ (n := 18) (S := fun w' => w'.cell? ⟨q, 0, none⟩ = some lessV ∧ w'.cell? ⟨a, 0, none⟩ = some (.int .i64 x.f0.f0) ∧ w'.cell? ⟨a, 1, none⟩ = some (.int .i64 x.f0.f1.f0) ∧ w'.cell? ⟨a, 2, none⟩ = some (.int .i64 x.f0.f1.f1) ∧ w'.cell? ⟨b, 0, none⟩ = some (.int .i64 y.f0.f0) ∧ w'.cell? ⟨b, 1, none⟩ = some (.int .i64 y.f0.f1.f0) ∧ w'.cell? ⟨b, 2, none⟩ = some (.int .i64 y.f0.f1.f1) ∧ w'.cell? ⟨a, 4, none⟩ = some (.int .i64 x.f2) ∧ w'.cell? ⟨b, 4, none⟩ = some (.int .i64 y.f2)) (ds := []) #[false, false, false, false, false, false, false, false, false, false, false, false, false, false, false, false, false, false] (by kernel_rfl) rfl rfl ⟨q0d, a0, a1, a2, b0, b1, b2, a4, b4⟩ (fun hHeld => ?_)
            refine with_tabW R117.tab4 R117.bits4 (fun HT_ HW_ => ?_)
            refine bulk_ (fuel := 10) [(0, 32), (1, 33), (2, 34), (3, 35), (4, 36), (5, 37), (6, 38), (7, 39)] #[true, true, true, true, true, true, true, true, false, false, false, false, false, false, false, false, false, false] (bulkB_of HT_.out HW_.out _ _ _ (by kernel_rfl)) rfl (fun _ _ _ _ _ h => h) hHeld (a' := ?_) ?_ ?_
            rotate_left
            · iterate 8
                refine chain_cons (v := ?_) (a1 := ?_) rfl rfl (Or.inl ⟨by rfl, ?_⟩) ?_ ?_
                rotate_left 2
                · rintro w' ⟨s0, s1, s2, s3, s4, s5, s6, s7, s8⟩
                  go_simp
                  with_reducible rfl
                · simp only [Act.put, List.setIfInBounds_toArray, List.set_cons_zero, List.set_cons_succ, i64_w, i32_w]
                  rfl
              exact chain_nil
            refine one_ (i := 8) (N := some 40) #[true, true, true, true, true, true, true, true, true, false, false, false, false, false, false, false, false, false] rfl rfl (one_of HT_.out (by kernel_rfl)) (by decide) (fun K hK => ?_)
            refine call_ 103 #[.agg #[.int .i64 y.f0.f0, .int .i64 y.f0.f1.f0, .int .i64 y.f0.f1.f1], .agg #[.int .i64 x.f0.f0, .int .i64 x.f0.f1.f0, .int .i64 x.f0.f1.f1]] (by rfl) rfl ?_ ?_
            · have he := enters_ Try.func103 (by kernel_rfl) rfl #[.agg #[.int .i64 y.f0.f0, .int .i64 y.f0.f1.f0, .int .i64 y.f0.f1.f1], .agg #[.int .i64 x.f0.f0, .int .i64 x.f0.f1.f0, .int .i64 x.f0.f1.f1]] wB.drew
              unfold execOp
              simp [resolve, Deferred.ofValue, invoke, Act.eval, he]
            refine (less_calls y.f0 x.f0 _).mono ?_
            rintro e w1 ⟨rfl, hb⟩
            refine ⟨_, rfl, ?_⟩
            refine hK.out _ _ ⟨pw_cell_below hb q0d, pw_cell_below hb a0, pw_cell_below hb a1, pw_cell_below hb a2, pw_cell_below hb b0, pw_cell_below hb b1, pw_cell_below hb b2, pw_cell_below hb a4, pw_cell_below hb b4⟩ (fun hHeld => ?_)
            clear hK K
            rw [hl2]
            refine norm_ (a' := ?_) ?_ ?_
            rotate_left
            · show Act.put _ (some 40) _ = _
              simp only [Act.put, List.setIfInBounds_toArray, List.set_cons_zero, List.set_cons_succ, i64_w, i32_w]
              rfl
            refine bulk_ (fuel := 0) [(9, 41), (10, 42), (11, 43), (12, 44), (13, 45), (14, 46), (15, 47), (16, 48), (17, 6)] #[true, true, true, true, true, true, true, true, true, true, true, true, true, true, true, true, true, true] (bulkB_of HT_.out HW_.out _ _ _ (by kernel_rfl)) rfl (fun _ _ _ _ _ h => h) hHeld (a' := ?_) ?_ ?_
            rotate_left
            · iterate 9
                refine chain_cons (v := ?_) (a1 := ?_) rfl rfl (Or.inl ⟨by rfl, ?_⟩) ?_ ?_
                rotate_left 2
                · rintro w' ⟨s0, s1, s2, s3, s4, s5, s6, s7, s8⟩
                  go_simp
                  with_reducible rfl
                · simp only [Act.put, List.setIfInBounds_toArray, List.set_cons_zero, List.set_cons_succ, i64_w, i32_w]
                  rfl
              exact chain_nil
            refine done_ (done_of HT_.out (by kernel_rfl)) ?_
            go_wp2_with fail
            go_meet
            exact ⟨by simp [bef, hl', hl2], ⟨below_of_drew hb⟩⟩
        case rest =>
          obtain ⟨rfl, hD⟩ := hcut
          go_wp2
          go_ret
          exact ⟨rfl, below_step hBD.out hD.out⟩
end Go.Proofs.Ytamimodkcbbpmaa.Pr
end
section
/- The priority queue: what its exchange of two entries does to the queue in memory. -/
namespace Go.Proofs.Ytamimodkcbbpmaa.Pr
open Go.RowKit Go.Proofs.YtamimodkcbbpmaaW.PrintWords Go.Proofs.YtamimodkcbbpmaaW.PrintLast Go.Proofs.YtamimodkcbbpmaaXW Go.Proofs.YtamimodkcbbpmaaXM
set_option linter.unusedVariables false
set_option linter.unusedSimpArgs false

/-- What the queue's methods keep: all below base, and every block that is neither a queue nor a row of entries nor a map. -/
structure QF0 (base : Nat) (w w' : World) : Prop where
  below : Below base w w'
  keep : ∀ (k : Nat) cs t fr, w.heap[k]? = some (.cells cs t fr) → t ≠ 135 → t ≠ 139 → w'.heap[k]? = some (.cells cs t fr)
theorem QF0.refl (base : Nat) (w : World) : QF0 base w w := ⟨Below.refl _ _, fun _ _ _ _ h _ _ => h⟩
theorem QF0.trans {base : Nat} {a b c : World} (h : QF0 base a b) (k : QF0 base b c) : QF0 base a c := ⟨h.below.trans k.below, fun i cs t fr hi h1 h2 => k.keep i cs t fr (h.keep i cs t fr hi h1 h2) h1 h2⟩
theorem QF0.of_below {base : Nat} {a b : World} (h : Below a.heap.size a b) (hb : base ≤ a.heap.size) : QF0 base a b := ⟨h.mono hb, fun k cs t fr hk _ _ => blk_below hk h⟩
theorem QF0.drew {base : Nat} {a b : World} (h : QF0 base a b) : QF0 base a b.drew := ⟨h.below.drew, h.keep⟩
theorem QF0.of_drew {base : Nat} {a b : World} (h : QF0 base a.drew b) : QF0 base a b := ⟨⟨h.below.os, h.below.tape, h.below.output, h.below.size, h.below.block⟩, h.keep⟩
/-- The block of the queue's row. -/
def rowB (w : World) (q : Nat) : Option Nat := match w.heap[q]? with
  | some (.cells cs _ _) => (cs[1]?).bind Value.ownBlock
  | _ => none
theorem rowB_eq {w : World} {q : Nat} {cs : Array Value} {t : TypeId} {fr : Nat × Nat} {v : Value} (h : w.heap[q]? = some (.cells cs t fr)) (hv : cs[1]? = some v) : rowB w q = v.ownBlock := by simp [rowB, h, hv]
/-- What they keep besides, but for Push: where the row lies; every other row. -/
structure QF (base q : Nat) (w w' : World) : Prop where
  f0 : QF0 base w w'
  row : rowB w' q = rowB w q
  rows : ∀ (k : Nat) cs fr, w.heap[k]? = some (.cells cs 139 fr) → some k ≠ rowB w q → w'.heap[k]? = some (.cells cs 139 fr)
theorem QF.refl (base q : Nat) (w : World) : QF base q w w := ⟨QF0.refl _ _, rfl, fun _ _ _ h _ => h⟩
theorem QF.trans {base q : Nat} {a b c : World} (h : QF base q a b) (k : QF base q b c) : QF base q a c := ⟨h.f0.trans k.f0, k.row.trans h.row, fun i cs fr hi hn => k.rows i cs fr (h.rows i cs fr hi hn) (by rw [h.row]; exact hn)⟩
theorem QF.of_below {base q : Nat} {a b : World} (h : Below a.heap.size a b) (hb : base ≤ a.heap.size) (hq : q < a.heap.size) : QF base q a b := ⟨QF0.of_below h hb, by simp [rowB, h.block q hq], fun k cs fr hk _ => blk_below hk h⟩
theorem QF.of_drew {base q : Nat} {a b : World} (h : QF base q a.drew b) : QF base q a b := ⟨h.f0.of_drew, h.row, h.rows⟩
theorem QF.drew {base q : Nat} {a b : World} (h : QF base q a b) : QF base q a b.drew := ⟨h.f0.drew, h.row, h.rows⟩

theorem mf_qf {base b : Nat} {w W1 : World} {es : Array MapEntry} {c : Nat} (h : MF b w W1) (hb : w.heap[b]? = some (.map es c)) (hbase : base ≤ b) : QF0 base w W1 :=
  ⟨⟨h.os, h.tape, h.output, Nat.le_of_eq h.size.symm, fun k hk => h.block k (by omega)⟩, fun k cs t fr hk _ _ => h.blk hb hk⟩
theorem mf_qf' {base b q : Nat} {w W1 : World} {es : Array MapEntry} {c : Nat} (h : MF b w W1) (hb : w.heap[b]? = some (.map es c)) (hbase : base ≤ b) (hq : q ≠ b) : QF base q w W1 :=
  ⟨mf_qf h hb hbase, by simp [rowB, h.block q hq], fun k cs fr hk _ => h.blk hb hk⟩
theorem mf_row {base b : Nat} {w W1 : World} {es : Array MapEntry} {c : Nat} {v : Value} {xs : List S139} (h : MF b w W1) (hb : w.heap[b]? = some (.map es c)) (hR : Kd.R k139 139 w base (fun _ => True) v xs) : Kd.R k139 139 W1 base (fun _ => True) v xs := by
  refine Kd.R_mono (Kd.R_move (Kd.R_bound hR) (fun k hk => ?_)) (fun _ _ => trivial)
  obtain ⟨_, _, _, t, _, cells, hc⟩ := hk
  exact h.block _ (by rintro rfl; rw [hb] at hc; cases hc)

section
variable {W : World} {base g n cap : Nat} {es : List S139}
theorem ent_cells (h : Kd.R k139 139 W base (fun _ => True) (.slice (some ⟨g, 0, none⟩) n cap) es) (i : Int) (h0 : 0 ≤ i) (h1 : i < (es.length : Int)) :
    W.cell? ⟨g, i.toNat * 5, none⟩ = some (.int .i64 (rd_T139 es i).f0.f0) ∧ W.cell? ⟨g, i.toNat * 5 + 1, none⟩ = some (.int .i64 (rd_T139 es i).f0.f1.f0) ∧ W.cell? ⟨g, i.toNat * 5 + 2, none⟩ = some (.int .i64 (rd_T139 es i).f0.f1.f1) ∧
      W.cell? ⟨g, i.toNat * 5 + 3, none⟩ = some (.int .i64 (rd_T139 es i).f1) ∧ W.cell? ⟨g, i.toNat * 5 + 4, none⟩ = some (.int .i64 (rd_T139 es i).f2) := by
  obtain ⟨hn, hc, hC⟩ := Kd.R_reads' h
  obtain ⟨ad, e, c0, c1, c2, c3, c4⟩ := at_T139 hC i h0 h1
  obtain rfl : (⟨g, 0, none⟩ : Addr) = ad := by injection e
  rw [add_plain] at c0 c1 c2 c3 c4
  exact ⟨c0, c1, c2, c3, c4⟩
set_option maxRecDepth 100000 in
theorem ent_store (h : Kd.R k139 139 W base (fun _ => True) (.slice (some ⟨g, 0, none⟩) n cap) es) (i : Int) (h0 : 0 ≤ i) (h1 : i < (es.length : Int)) (x : S139) :
    ∃ W1, (Instr.storeAt 139 (.pointer (some ⟨g, i.toNat * 5, none⟩)) (.agg #[.int .i64 x.f0.f0, .int .i64 x.f0.f1.f0, .int .i64 x.f0.f1.f1, .int .i64 x.f1, .int .i64 x.f2])).run Try.prog W = .ok () W1 ∧ Kd.R k139 139 W1 base (fun _ => True) (.slice (some ⟨g, 0, none⟩) n cap) (es.set i.toNat x) ∧ W.grownBy W1 (some g) := by
  obtain ⟨hn, hnc, hC⟩ := Kd.R_reads' h
  have h1' : i < (n : Int) := by omega
  obtain ⟨c, hcl, hM, hcc, hfz⟩ := Kd.R_elem h z139 i h0 h1'
  have hs : k139.sz = 5 := rfl
  rw [hs] at hcl
  have hseg := Kd.R_seg (d := k139) h i h0 h1' (c := c) (seg := [.int .i64 x.f0.f0, .int .i64 x.f0.f1.f0, .int .i64 x.f0.f1.f1, .int .i64 x.f1, .int .i64 x.f2]) (j := 0) (by rw [hcl]; rfl) (by simpa [hs] using hcc) (by simp [hs]) (x' := x) (okp := fun k => True ∧ k ≠ g) (by
    have e : c.drop 5 = [] := List.drop_eq_nil_of_le (by omega)
    simpa [e] using k139_mkM W base (fun k => True ∧ k ≠ g) x) (fun k hk => hk)
  refine ⟨_, ?_, hseg.1, hseg.2⟩
  obtain ⟨_, inner, hown, hr⟩ := h
  rcases hown.2 with ⟨hv, _⟩ | ⟨g', cap', cur, hv, hb, hh, hnc', hcm, hcs, _⟩
  · cases hv
  injection hv with ha _ hc'
  injection ha with ha
  injection ha with hg'
  subst hg'; subst hc'
  refine run_store_run 139 _ _ hh rfl (by kernel_rfl) ?_ (by simp [Value.oneCell'])
  have h2 : i.toNat * 5 + 5 ≤ n * 5 := by omega
  have h3 : n * 5 ≤ cap * 5 := Nat.mul_le_mul_right _ hnc
  rw [hs] at hcs
  simp [hs]
  omega
end

def swpE (es : List S139) (i j : Int) : List S139 := (es.set i.toNat (rd_T139 es j)).set j.toNat (rd_T139 es i)

def R111.T0 : Bool × List (List Nat × List Nat) := (true, [([], []), ([0], [0]), ([1], [1]), ([2], [2]), ([], []), ([], []), ([5], [5]), ([6], [6]), ([7], [7]), ([], []), ([], []), ([10], [10]), ([11], [11]), ([12], [12]), ([], []), ([13, 14], [13, 14]), ([15], [15]), ([], []), ([17], [17]), ([18], [18]), ([19], [19]), ([], []), ([20, 21], [20, 21]), ([22], [22]), ([3, 4, 0, 1, 2, 3, 4, 8, 10, 11, 12, 13, 14, 15, 16, 20, 23], [3, 4]), ([24, 16, 0, 1, 2, 3, 4, 8, 10, 11, 12, 13, 14, 15, 16, 20, 23], [16, 24]), ([8, 9, 0, 1, 2, 3, 4, 5, 6, 7, 8, 9, 10, 11, 12, 13, 14, 15, 16, 17, 18, 19, 20, 21, 22, 23, 24, 25], [8, 9]), ([26, 23, 25, 0, 1, 2, 3, 4, 5, 6, 7, 8, 9, 10, 11, 12, 13, 14, 15, 16, 17, 18, 19, 20, 21, 22, 23, 24, 25], [23, 26])])
def R111.B0 : List Nat := [0, 1, 3, 7, 0, 0, 32, 96, 224, 0, 0, 1024, 3072, 7168, 0, 31744, 64512, 0, 131072, 393216, 917504, 0, 4063232, 8257536, 16776703, 33553919, 67108863, 134217727]
theorem R111.tab0 : rtab .any (opsOf Try.f111 0) = R111.T0 := by kernel_rfl
theorem R111.bits0 : waitsOk R111.T0.2 R111.B0 = true := by kernel_rfl
def R111.T1 : Bool × List (List Nat × List Nat) := (true, [([], []), ([0], [0]), ([1], [1]), ([2], [2]), ([], []), ([4], [4]), ([5], [5]), ([6], [6]), ([], []), ([7, 8], [7, 8]), ([9], [9]), ([10], [10]), ([], []), ([12], [12]), ([13], [13]), ([14], [14]), ([], []), ([16], [16]), ([17], [17]), ([18], [18]), ([], []), ([19, 20], [19, 20]), ([21], [21]), ([22], [22]), ([], []), ([], []), ([3, 11, 15, 19, 23], [3, 11]), ([26], [26]), ([3, 27, 24, 26, 0, 1, 2, 3, 4, 5, 6, 7, 8, 9, 10, 11, 15, 19, 23, 24, 26], [3, 24, 27]), ([15, 23, 28, 0, 1, 2, 3, 4, 5, 6, 7, 8, 9, 10, 11, 15, 19, 23, 24, 26, 27, 28], [15, 23]), ([29], [29]), ([15, 30, 25, 29, 0, 1, 2, 3, 4, 5, 6, 7, 8, 9, 10, 11, 12, 13, 14, 15, 16, 17, 18, 19, 20, 21, 22, 23, 24, 25, 26, 27, 28, 29], [15, 25, 30])])
def R111.B1 : List Nat := [0, 1, 3, 7, 0, 16, 48, 112, 0, 496, 1008, 2032, 0, 4096, 12288, 28672, 0, 65536, 196608, 458752, 0, 2031616, 4128768, 8323072, 0, 0, 16777215, 83886079, 234881023, 503316479, 1040187391, 2147483647]
theorem R111.tab1 : rtab .any (opsOf Try.f111 1) = R111.T1 := by kernel_rfl
theorem R111.bits1 : waitsOk R111.T1.2 R111.B1 = true := by kernel_rfl
set_option maxRecDepth 100000 in
set_option maxHeartbeats 8000000 in
theorem swap_calls (base q : Nat) (es : List S139) (nx ck i j : Int) (w : World) (h : QS base w q es nx ck) (hi0 : 0 ≤ i) (hi : i < (es.length : Int)) (hj0 : 0 ≤ j) (hj : j < (es.length : Int)) :
    Calls Try.prog 111 #[.pointer (some ⟨q, 0, none⟩), .int .i64 i, .int .i64 j] w fun e w' => e = .returned (.tuple #[]) ∧ QS base w' q (swpE es i j) nx ck ∧ QF base q w w' := by
  obtain ⟨v, bm, ents, mc, hq, hbq, hR, hm, hbm, hk⟩ := h
  obtain ⟨g, cap, rfl, hbg, hgl, cells, hgc⟩ := Kd.R_form hR (by omega)
  have q1 : w.cell? ⟨q, 1, none⟩ = some (.slice (some ⟨g, 0, none⟩) es.length cap) := (blk_cell hq 1).trans rfl
  obtain ⟨c0, c1, c2, c3, c4⟩ := ent_cells hR i hi0 hi
  obtain ⟨d0, d1, d2, d3, d4⟩ := ent_cells hR j hj0 hj
  have hRd := Kd.R_drew hR
  have hsw : swpE es i j = (es.set i.toNat (rd_T139 es j)).set j.toNat (rd_T139 es i) := rfl
  generalize rd_T139 es i = x at *
  generalize rd_T139 es j = y at *
  have Hsw := Aside0.mk hsw
  clear hsw
  go_enter Try.func111, Try.ntmps111
  go_upto_region 0 with (fail)
  refine start_ (n := 28) (S := fun w' => w'.cell? ⟨q, 1, none⟩ = some (.slice (some ⟨g, 0, none⟩) es.length cap) ∧ w'.cell? ⟨g, i.toNat * 5, none⟩ = some (.int .i64 x.f0.f0) ∧ w'.cell? ⟨g, i.toNat * 5 + 1, none⟩ = some (.int .i64 x.f0.f1.f0) ∧ w'.cell? ⟨g, i.toNat * 5 + 2, none⟩ = some (.int .i64 x.f0.f1.f1) ∧ w'.cell? ⟨g, i.toNat * 5 + 3, none⟩ = some (.int .i64 x.f1) ∧ w'.cell? ⟨g, i.toNat * 5 + 4, none⟩ = some (.int .i64 x.f2) ∧ w'.cell? ⟨g, j.toNat * 5, none⟩ = some (.int .i64 y.f0.f0) ∧ w'.cell? ⟨g, j.toNat * 5 + 1, none⟩ = some (.int .i64 y.f0.f1.f0) ∧ w'.cell? ⟨g, j.toNat * 5 + 2, none⟩ = some (.int .i64 y.f0.f1.f1) ∧ w'.cell? ⟨g, j.toNat * 5 + 3, none⟩ = some (.int .i64 y.f1) ∧ w'.cell? ⟨g, j.toNat * 5 + 4, none⟩ = some (.int .i64 y.f2)) (ds := [25, 27]) #[false, false, false, false, false, false, false, false, false, false, false, false, false, false, false, false, false, false, false, false, false, false, false, false, false, false, false, false] (by kernel_rfl) rfl rfl ⟨q1, c0, c1, c2, c3, c4, d0, d1, d2, d3, d4⟩ (fun hHeld => ?_)
  refine with_tabW R111.tab0 R111.bits0 (fun HT_ HW_ => ?_)
  refine bulkP_ (fuel := 12) [(0, 6), (1, 7), (2, 8), (4, 10), (5, 11), (6, 12), (7, 13), (9, 15), (10, 16), (11, 17), (12, 18), (14, 20), (17, 23), (18, 24), (19, 25), (21, 27)] #[true, true, true, false, true, true, true, true, false, true, true, true, true, false, true, false, false, true, true, true, false, true, false, false, false, false, false, false] (bulkP_of HT_.out _ _ _ (by kernel_rfl)) rfl (fun _ _ _ _ _ h => h) (a' := ?_) ?_ ?_
  rotate_left
  · iterate 16
      refine chainP_cons (v := ?_) (a1 := ?_) rfl rfl (Or.inl ⟨by rfl, ?_⟩) ?_ ?_
      rotate_left 2
      · intro w'
        go_simp
        with_reducible rfl
      · simp only [Act.put, List.setIfInBounds_toArray, List.set_cons_zero, List.set_cons_succ, i64_w, i32_w]
        rfl
    exact chainP_nil
  refine bulk_ (fuel := 8) [(3, 9), (8, 14), (13, 19), (20, 26)] #[true, true, true, true, true, true, true, true, true, true, true, true, true, true, true, false, false, true, true, true, true, true, false, false, false, false, false, false] (bulkB_of HT_.out HW_.out _ _ _ (by kernel_rfl)) rfl (fun _ _ _ _ _ h => h) hHeld (a' := ?_) ?_ ?_
  rotate_left
  · iterate 4
      refine chain_cons (v := ?_) (a1 := ?_) rfl rfl (Or.inl ⟨by rfl, ?_⟩) ?_ ?_
      rotate_left 2
      · rintro w' ⟨s0, s1, s2, s3, s4, s5, s6, s7, s8, s9, s10⟩
        go_simp
        with_reducible rfl
      · simp only [Act.put, List.setIfInBounds_toArray, List.set_cons_zero, List.set_cons_succ, i64_w, i32_w]
        rfl
    exact chain_nil
  refine bulkP_ (fuel := 6) [(15, 21), (22, 28)] #[true, true, true, true, true, true, true, true, true, true, true, true, true, true, true, true, false, true, true, true, true, true, true, false, false, false, false, false] (bulkP_of HT_.out _ _ _ (by kernel_rfl)) rfl (fun _ _ _ _ _ h => h) (a' := ?_) ?_ ?_
  rotate_left
  · iterate 2
      refine chainP_cons (v := ?_) (a1 := ?_) rfl rfl (Or.inl ⟨by rfl, ?_⟩) ?_ ?_
      rotate_left 2
      · intro w'
        go_simp
        with_reducible rfl
      · simp only [Act.put, List.setIfInBounds_toArray, List.set_cons_zero, List.set_cons_succ, i64_w, i32_w]
        rfl
    exact chainP_nil
  refine bulk_ (fuel := 4) [(16, 22), (23, 29)] #[true, true, true, true, true, true, true, true, true, true, true, true, true, true, true, true, true, true, true, true, true, true, true, true, false, false, false, false] (bulkB_of HT_.out HW_.out _ _ _ (by kernel_rfl)) rfl (fun _ _ _ _ _ h => h) hHeld (a' := ?_) ?_ ?_
  rotate_left
  · iterate 2
      refine chain_cons (v := ?_) (a1 := ?_) rfl rfl (Or.inl ⟨by rfl, ?_⟩) ?_ ?_
      rotate_left 2
      · rintro w' ⟨s0, s1, s2, s3, s4, s5, s6, s7, s8, s9, s10⟩
        go_simp
        with_reducible rfl
      · simp only [Act.put, List.setIfInBounds_toArray, List.set_cons_zero, List.set_cons_succ, i64_w, i32_w]
        rfl
    exact chain_nil
  refine bulkP_ (fuel := 3) [(24, 30)] #[true, true, true, true, true, true, true, true, true, true, true, true, true, true, true, true, true, true, true, true, true, true, true, true, true, false, false, false] (bulkP_of HT_.out _ _ _ (by kernel_rfl)) rfl (fun _ _ _ _ _ h => h) (a' := ?_) ?_ ?_
  rotate_left
  · iterate 1
      refine chainP_cons (v := ?_) (a1 := ?_) rfl rfl (Or.inl ⟨by rfl, ?_⟩) ?_ ?_
      rotate_left 2
      · intro w'
        go_simp
        with_reducible rfl
      · simp only [Act.put, List.setIfInBounds_toArray, List.set_cons_zero, List.set_cons_succ, i64_w, i32_w]
        rfl
    exact chainP_nil
  refine last_ (i := 25) (N := none) #[true, true, true, true, true, true, true, true, true, true, true, true, true, true, true, true, true, true, true, true, true, true, true, true, true, true, false, false] rfl rfl (one_of HT_.out (by kernel_rfl)) (by decide) (fun K hK => ?_)
  obtain ⟨W1, hstW1, hR1, hghR1⟩ := ent_store hRd i hi0 hi y
  refine skip_ (w1 := W1) (by rfl) rfl ?_ ?_
  · unfold execOp
    simp [Act.eval, hstW1]
  refine hK.out _ _ ?_
  clear hK K
  refine bulkP_ (fuel := 1) [(26, 31)] #[true, true, true, true, true, true, true, true, true, true, true, true, true, true, true, true, true, true, true, true, true, true, true, true, true, true, true, false] (bulkP_of HT_.out _ _ _ (by kernel_rfl)) rfl (fun _ _ _ _ _ h => h) (a' := ?_) ?_ ?_
  rotate_left
  · iterate 1
      refine chainP_cons (v := ?_) (a1 := ?_) rfl rfl (Or.inl ⟨by rfl, ?_⟩) ?_ ?_
      rotate_left 2
      · intro w'
        go_simp
        with_reducible rfl
      · simp only [Act.put, List.setIfInBounds_toArray, List.set_cons_zero, List.set_cons_succ, i64_w, i32_w]
        rfl
    exact chainP_nil
  refine last_ (i := 27) (N := none) #[true, true, true, true, true, true, true, true, true, true, true, true, true, true, true, true, true, true, true, true, true, true, true, true, true, true, true, true] rfl rfl (one_of HT_.out (by kernel_rfl)) (by decide) (fun K hK => ?_)
  obtain ⟨W2, hstW2, hR2, hghR2⟩ := ent_store hR1 j hj0 (by simpa using hj) x
  refine skip_ (w1 := W2) (by rfl) rfl ?_ ?_
  · unfold execOp
    simp [Act.eval, hstW2]
  refine hK.out _ _ ?_
  clear hK K
  refine done_ (done_of HT_.out (by kernel_rfl)) ?_
  have hq2 : W2.heap[q]? = some (.cells #[lessV, .slice (some ⟨g, 0, none⟩) es.length cap, .map (some bm), .int .i64 nx, .int .i64 ck] 135 (0, 0)) :=
    blk_grown (blk_grown (blk_drew hq) hghR1 (Kd.R_ne hRd (blk_drew hq) (by decide))) hghR2 (Kd.R_ne hR1 (blk_grown (blk_drew hq) hghR1 (Kd.R_ne hRd (blk_drew hq) (by decide))) (by decide))
  have hne : some bm ≠ (some g : Option Nat) := by rintro e; injection e with e; subst e; rw [hm] at hgc; cases hgc
  have hmb : W2.drew.heap[bm]? = some (.map ents mc) := blk_drew (blk_grown (blk_grown (blk_drew hm) hghR1 hne) hghR2 hne)
  have hF2 : Aside0 (QF base q w W2) := by
    have hrow : rowB w q = some g := rowB_eq hq rfl
    refine ⟨⟨QF0.of_drew ⟨⟨hghR2.os.trans hghR1.os, hghR2.tape.trans hghR1.tape, hghR2.output.trans hghR1.output, Nat.le_trans hghR1.size hghR2.size, fun k hk => ?_⟩, fun k cs t fr h1 _ h3 => ?_⟩, (rowB_eq hq2 rfl).trans hrow.symm, fun k cs fr h1 hn => blk_grown (blk_grown (blk_drew h1) hghR1 (by rw [hrow] at hn; exact hn)) hghR2 (by rw [hrow] at hn; exact hn)⟩⟩
    · have hkw : k < w.drew.heap.size := Nat.lt_of_lt_of_le hk (Nat.le_trans hbg (Nat.le_of_lt hgl))
      exact (hghR2.block k (Nat.lt_of_lt_of_le hkw hghR1.size) (fun e => by injection e with e; omega)).trans (hghR1.block k hkw (fun e => by injection e with e; omega))
    · have hk : some k ≠ (some g : Option Nat) := by rintro e; injection e with e; subst e; rw [show w.drew.heap = w.heap from rfl, hgc] at h1; injection h1 with h1; injection h1 with _ h1; exact h3 h1.symm
      exact blk_grown (blk_grown h1 hghR1 hk) hghR2 hk
  have hRs := Aside0.mk (show Kd.R k139 139 W2 base (fun _ => True) (.slice (some ⟨g, 0, none⟩) es.length cap) (swpE es i j) from by rw [Hsw.out]; exact hR2)
  have hlen : (swpE es i j).length = es.length := by rw [Hsw.out]; simp
  have ex := (ent_cells hRs.out i hi0 (by rw [hlen]; exact hi)).2.2.2.1
  have ey := (ent_cells hRs.out j hj0 (by rw [hlen]; exact hj)).2.2.2.1
  generalize (rd_T139 (swpE es i j) i).f1 = hx at ex
  generalize (rd_T139 (swpE es i j) j).f1 = hy at ey
  have q1b : W2.cell? ⟨q, 1, none⟩ = some (.slice (some ⟨g, 0, none⟩) es.length cap) := (blk_cell hq2 1).trans rfl
  have q2b : W2.cell? ⟨q, 2, none⟩ = some (.map (some bm)) := (blk_cell hq2 2).trans rfl
  have Hq2 := Aside0.mk hq2
  have hqbm : q ≠ bm := by rintro rfl; rw [hq] at hm; cases hm
  clear hq2 hR1 hR2 hghR1 hghR2 hRd c0 c1 c2 c3 c4 d0 d1 d2 d3 d4 q1 hq hR hm hstW1 hstW2 Hsw hlen hgc hgl hne
  go_upto_region 1 with (fail)
  refine start_ (n := 32) (S := fun w' => w'.cell? ⟨q, 1, none⟩ = some (.slice (some ⟨g, 0, none⟩) es.length cap) ∧ w'.cell? ⟨q, 2, none⟩ = some (.map (some bm)) ∧ w'.cell? ⟨g, i.toNat * 5 + 3, none⟩ = some (.int .i64 hx) ∧ w'.cell? ⟨g, j.toNat * 5 + 3, none⟩ = some (.int .i64 hy)) (ds := []) #[false, false, false, false, false, false, false, false, false, false, false, false, false, false, false, false, false, false, false, false, false, false, false, false, false, false, false, false, false, false, false, false] (by kernel_rfl) rfl rfl ⟨q1b, q2b, ex, ey⟩ (fun hHeld => ?_)
  refine with_tabW R111.tab1 R111.bits1 (fun HT_ HW_ => ?_)
  refine bulk_ (fuel := 6) [(0, 32), (1, 33), (2, 34), (3, 35), (4, 36), (5, 37), (6, 38), (7, 39), (8, 40), (9, 41), (10, 42), (11, 43), (12, 44), (13, 45), (14, 46), (15, 47), (16, 48), (17, 49), (18, 50), (19, 51), (20, 52), (21, 53), (22, 54), (23, 55), (24, 56), (25, 57)] #[true, true, true, true, true, true, true, true, true, true, true, true, true, true, true, true, true, true, true, true, true, true, true, true, true, true, false, false, false, false, false, false] (bulkB_of HT_.out HW_.out _ _ _ (by kernel_rfl)) rfl (fun _ _ _ _ _ h => h) hHeld (a' := ?_) ?_ ?_
  rotate_left
  · iterate 26
      refine chain_cons (v := ?_) (a1 := ?_) rfl rfl (Or.inl ⟨by rfl, ?_⟩) ?_ ?_
      rotate_left 2
      · rintro w' ⟨s0, s1, s2, s3⟩
        go_simp
        with_reducible rfl
      · simp only [Act.put, List.setIfInBounds_toArray, List.set_cons_zero, List.set_cons_succ, i64_w, i32_w]
        rfl
    exact chain_nil
  refine one_ (i := 26) (N := some 58) #[true, true, true, true, true, true, true, true, true, true, true, true, true, true, true, true, true, true, true, true, true, true, true, true, true, true, true, false, false, false, false, false] rfl rfl (one_of HT_.out (by kernel_rfl)) (by decide) (fun K hK => ?_)
  obtain ⟨W3, mv, st, esA, cA, hme, hmA, hkA, hsA, hfA⟩ := mapEntry_w hmb hk hx
  refine value_ (w1 := W3) (v := .tuple #[mv, goInt (st : Nat)]) (by rfl) rfl ?_ ?_
  · unfold execOp
    simp [Act.eval, hme]
  refine hK.out _ _ ⟨hfA.cell hmb hHeld.1, hfA.cell hmb hHeld.2.1, hfA.cell hmb hHeld.2.2.1, hfA.cell hmb hHeld.2.2.2⟩ (fun hHeld => ?_)
  clear hK K
  refine norm_ (a' := ?_) ?_ ?_
  rotate_left
  · show Act.put _ (some 58) _ = _
    simp only [Act.put, List.setIfInBounds_toArray, List.set_cons_zero, List.set_cons_succ, i64_w, i32_w]
    rfl
  refine bulk_ (fuel := 4) [(27, 59)] #[true, true, true, true, true, true, true, true, true, true, true, true, true, true, true, true, true, true, true, true, true, true, true, true, true, true, true, true, false, false, false, false] (bulkB_of HT_.out HW_.out _ _ _ (by kernel_rfl)) rfl (fun _ _ _ _ _ h => h) hHeld (a' := ?_) ?_ ?_
  rotate_left
  · iterate 1
      refine chain_cons (v := ?_) (a1 := ?_) rfl rfl (Or.inl ⟨by rfl, ?_⟩) ?_ ?_
      rotate_left 2
      · rintro w' ⟨s0, s1, s2, s3⟩
        go_simp
        with_reducible rfl
      · simp only [Act.put, List.setIfInBounds_toArray, List.set_cons_zero, List.set_cons_succ, i64_w, i32_w]
        rfl
    exact chain_nil
  refine one_ (i := 28) (N := none) #[true, true, true, true, true, true, true, true, true, true, true, true, true, true, true, true, true, true, true, true, true, true, true, true, true, true, true, true, true, false, false, false] rfl rfl (one_of HT_.out (by kernel_rfl)) (by decide) (fun K hK => ?_)
  obtain ⟨W4, esB, cB, hes, hmB, hkB, hfB⟩ := entryStore_w hmA hkA hsA (.int .i64 i)
  refine skip_ (w1 := W4) (by rfl) rfl ?_ ?_
  · have hes2 : (Instr.entryStore 132 (.map (some bm)) (.int .i64 (st : Nat)) (.int .i64 i)).run Try.prog _ = .ok () W4 := hes
    unfold execOp
    simp [Act.eval, hes2]
  refine hK.out _ _ ⟨hfB.cell hmA hHeld.1, hfB.cell hmA hHeld.2.1, hfB.cell hmA hHeld.2.2.1, hfB.cell hmA hHeld.2.2.2⟩ (fun hHeld => ?_)
  clear hK K
  refine one_ (i := 29) (N := some 60) #[true, true, true, true, true, true, true, true, true, true, true, true, true, true, true, true, true, true, true, true, true, true, true, true, true, true, true, true, true, true, false, false] rfl rfl (one_of HT_.out (by kernel_rfl)) (by decide) (fun K hK => ?_)
  obtain ⟨W5, mv, st, esC, cC, hme, hmC, hkC, hsC, hfC⟩ := mapEntry_w hmB hkB hy
  refine value_ (w1 := W5) (v := .tuple #[mv, goInt (st : Nat)]) (by rfl) rfl ?_ ?_
  · unfold execOp
    simp [Act.eval, hme]
  refine hK.out _ _ ⟨hfC.cell hmB hHeld.1, hfC.cell hmB hHeld.2.1, hfC.cell hmB hHeld.2.2.1, hfC.cell hmB hHeld.2.2.2⟩ (fun hHeld => ?_)
  clear hK K
  refine norm_ (a' := ?_) ?_ ?_
  rotate_left
  · show Act.put _ (some 60) _ = _
    simp only [Act.put, List.setIfInBounds_toArray, List.set_cons_zero, List.set_cons_succ, i64_w, i32_w]
    rfl
  refine bulk_ (fuel := 1) [(30, 61)] #[true, true, true, true, true, true, true, true, true, true, true, true, true, true, true, true, true, true, true, true, true, true, true, true, true, true, true, true, true, true, true, false] (bulkB_of HT_.out HW_.out _ _ _ (by kernel_rfl)) rfl (fun _ _ _ _ _ h => h) hHeld (a' := ?_) ?_ ?_
  rotate_left
  · iterate 1
      refine chain_cons (v := ?_) (a1 := ?_) rfl rfl (Or.inl ⟨by rfl, ?_⟩) ?_ ?_
      rotate_left 2
      · rintro w' ⟨s0, s1, s2, s3⟩
        go_simp
        with_reducible rfl
      · simp only [Act.put, List.setIfInBounds_toArray, List.set_cons_zero, List.set_cons_succ, i64_w, i32_w]
        rfl
    exact chain_nil
  refine one_ (i := 31) (N := none) #[true, true, true, true, true, true, true, true, true, true, true, true, true, true, true, true, true, true, true, true, true, true, true, true, true, true, true, true, true, true, true, true] rfl rfl (one_of HT_.out (by kernel_rfl)) (by decide) (fun K hK => ?_)
  obtain ⟨W6, esD, cD, hes, hmD, hkD, hfD⟩ := entryStore_w hmC hkC hsC (.int .i64 j)
  refine skip_ (w1 := W6) (by rfl) rfl ?_ ?_
  · have hes2 : (Instr.entryStore 132 (.map (some bm)) (.int .i64 (st : Nat)) (.int .i64 j)).run Try.prog _ = .ok () W6 := hes
    unfold execOp
    simp [Act.eval, hes2]
  refine hK.out _ _ ⟨hfD.cell hmC hHeld.1, hfD.cell hmC hHeld.2.1, hfD.cell hmC hHeld.2.2.1, hfD.cell hmC hHeld.2.2.2⟩ (fun hHeld => ?_)
  clear hK K
  refine done_ (done_of HT_.out (by kernel_rfl)) ?_
  go_end0
  have hqA := hfA.blk hmb (blk_drew Hq2.out)
  have hqD := hfD.blk hmC (hfC.blk hmB (hfB.blk hmA hqA))
  have hRA := mf_row hfA hmb (Kd.R_drew hRs.out)
  have hRD := mf_row hfD hmC (mf_row hfC hmB (mf_row hfB hmA hRA))
  refine ⟨rfl, ⟨_, bm, esD, cD, hqD, hbq, hRD, hmD, hbm, hkD⟩, ?_⟩
  exact (((hF2.out.drew.trans (mf_qf' hfA hmb hbm hqbm)).trans (mf_qf' hfB hmA hbm hqbm)).trans (mf_qf' hfC hmB hbm hqbm)).trans (mf_qf' hfD hmC hbm hqbm)
end Go.Proofs.Ytamimodkcbbpmaa.Pr
end
section
/- The priority queue: what moving an entry up or down does to the queue in memory. -/
namespace Go.Proofs.Ytamimodkcbbpmaa.Pr
open Go.RowKit Go.Proofs.YtamimodkcbbpmaaW.PrintWords Go.Proofs.YtamimodkcbbpmaaW.PrintLast Go.Proofs.YtamimodkcbbpmaaXW Go.Proofs.YtamimodkcbbpmaaXM
set_option linter.unusedVariables false
set_option linter.unusedSimpArgs false

theorem swpE_length (es : List S139) (i j : Int) : (swpE es i j).length = es.length := by simp [swpE]

/-- The entry at index i moved towards the root, in at most k steps. -/
def upE : Nat → List S139 → Nat → List S139
  | 0, es, _ => es
  | _ + 1, es, 0 => es
  | k + 1, es, m + 1 => if bef (rd_T139 es ((m : Int) + 1)) (rd_T139 es ((m : Int) / 2)) = true then upE k (swpE es ((m : Int) + 1) ((m : Int) / 2)) (m / 2) else es

theorem qs_below {base q : Nat} {w w' : World} {es : List S139} {nx ck : Int} (h : QS base w q es nx ck) (hb : Below w.heap.size w w') : QS base w' q es nx ck := by
  obtain ⟨v, bm, ents, mc, hq, hbq, hR, hm, hbm, hk⟩ := h
  exact ⟨v, bm, ents, mc, blk_below hq hb, hbq, Kd.R_below hR hb, blk_below hm hb, hbm, hk⟩
theorem qs_base {base q : Nat} {w : World} {es : List S139} {nx ck : Int} (h : QS base w q es nx ck) : base ≤ w.heap.size := by
  obtain ⟨v, bm, ents, mc, hq, hbq, hR, hm, hbm, hk⟩ := h
  have := blk_lt hq
  omega
theorem qs_lt {base q : Nat} {w : World} {es : List S139} {nx ck : Int} (h : QS base w q es nx ck) : q < w.heap.size := by
  obtain ⟨v, bm, ents, mc, hq, hbq, hR, hm, hbm, hk⟩ := h
  exact blk_lt hq
theorem qs_drew {base q : Nat} {w : World} {es : List S139} {nx ck : Int} (h : QS base w q es nx ck) : QS base w.drew q es nx ck := by
  obtain ⟨v, bm, ents, mc, hq, hbq, hR, hm, hbm, hk⟩ := h
  exact ⟨v, bm, ents, mc, hq, hbq, Kd.R_drew hR, hm, hbm, hk⟩

set_option maxHeartbeats 2000000 in
theorem up_calls (base q : Nat) (es : List S139) (nx ck : Int) (k0 : Nat) (w : World) (h : QS base w q es nx ck) (hk0 : k0 < es.length) (hsz : es.length ≤ 1000000) :
    Calls Try.prog 116 #[.pointer (some ⟨q, 0, none⟩), .int .i64 (k0 : Nat)] w fun e w' => e = .returned (.tuple #[]) ∧ QS base w' q (upE (k0 + 1) es k0) nx ck ∧ QF base q w w' := by
  go_enter Try.func116, Try.ntmps116
  go_wp2_with fail
  go_loopg [1] (k0 + 1) (fun g v1 wr => ∃ (k : Nat) (es' : List S139), v1 = .int .i64 k ∧ Aside0 (k < es'.length) ∧ Aside0 (es'.length = es.length) ∧ Aside0 (QS base wr q es' nx ck) ∧ Aside0 (QF base q w wr) ∧ Aside0 (k < g) ∧ Aside0 (upE g es' k = upE (k0 + 1) es k0))
  case atStart => exact ⟨k0, es, rfl, ⟨hk0⟩, ⟨rfl⟩, ⟨h⟩, ⟨QF.refl _ _ _⟩, ⟨by omega⟩, ⟨rfl⟩⟩
  case round =>
    obtain ⟨k, es', rfl, hk, hl, HQ, HF, hg, HE⟩ := hrel
    clear h hk0
    have hk1 : k ≤ 1000000 := by have := hk.out; have := hl.out; omega
    cases k with
    | zero =>
      go_wp2
      go_end0
      have e : upE gk es' 0 = es' := by cases gk <;> rfl
      exact ⟨rfl, by rw [← HE.out, e]; exact HQ.out, HF.out⟩
    | succ m =>
      obtain ⟨g, rfl⟩ : ∃ g, gk = g + 1 := ⟨gk - 1, by have := hg.out; omega⟩
      have hm1 : (m : Int) + 1 < (es'.length : Int) := by have := hk.out; omega
      cases hbf : bef (rd_T139 es' ((m : Int) + 1)) (rd_T139 es' ((m : Int) / 2)) with
      | false =>
        go_wp2_with (first | (go_at_call 117; refine (before_calls base q es' nx ck _ _ _ HQ.out (by omega) (by omega) (by omega) (by omega)).mono ?_; rintro e w1 ⟨rfl, hb1⟩))
        go_end0
        have e : upE (g + 1) es' (m + 1) = es' := by simp [upE, hbf]
        exact ⟨rfl, by rw [← HE.out, e]; exact qs_below HQ.out hb1, HF.out.trans (QF.of_below hb1 (qs_base HQ.out) (qs_lt HQ.out))⟩
      | true =>
        go_wp2_with (first | (go_at_call 117; refine (before_calls base q es' nx ck _ _ _ HQ.out (by omega) (by omega) (by omega) (by omega)).mono ?_; rintro e w1 ⟨rfl, hb1⟩) | (go_at_call 111; refine (swap_calls base q es' nx ck _ _ _ (qs_below HQ.out hb1) (by omega) (by omega) (by omega) (by omega)).mono ?_; rintro e w2 ⟨rfl, hQ2, hF2⟩; have HQ2 := Aside0.mk hQ2; have HF2 := Aside0.mk hF2; clear hQ2 hF2))
        go_roundg g
        case measure => omega
        case rel =>
          have e : upE (g + 1) es' (m + 1) = upE g (swpE es' ((m : Int) + 1) ((m : Int) / 2)) (m / 2) := by simp [upE, hbf]
          exact ⟨m / 2, swpE es' ((m : Int) + 1) ((m : Int) / 2), by go_num, ⟨by rw [swpE_length]; have := hk.out; omega⟩, ⟨by rw [swpE_length]; exact hl.out⟩, HQ2, ⟨(HF.out.trans (QF.of_below hb1 (qs_base HQ.out) (qs_lt HQ.out))).trans HF2.out⟩, ⟨by have := hg.out; omega⟩, ⟨by rw [← e]; exact HE.out⟩⟩
end Go.Proofs.Ytamimodkcbbpmaa.Pr
end
section
/- The priority queue: what moving an entry away from the root does to the queue in memory. -/
namespace Go.Proofs.Ytamimodkcbbpmaa.Pr
open Go.RowKit Go.Proofs.YtamimodkcbbpmaaW.PrintWords Go.Proofs.YtamimodkcbbpmaaW.PrintLast Go.Proofs.YtamimodkcbbpmaaXW Go.Proofs.YtamimodkcbbpmaaXM
set_option linter.unusedVariables false
set_option linter.unusedSimpArgs false

/-- The least of entry i and its first t children. -/
def lstE (es : List S139) (i : Nat) : Nat → Nat
  | 0 => i
  | t + 1 => if 2 * i + 1 + t < es.length ∧ bef (rd_T139 es ((2 * i + 1 + t : Nat) : Int)) (rd_T139 es ((lstE es i t : Nat) : Int)) = true then 2 * i + 1 + t else lstE es i t
def downE : Nat → List S139 → Nat → List S139
  | 0, es, _ => es
  | k + 1, es, i => if lstE es i 2 = i then es else downE k (swpE es (i : Nat) ((lstE es i 2 : Nat) : Int)) (lstE es i 2)

theorem lstE_lt (es : List S139) (i : Nat) (hi : i < es.length) : ∀ t, lstE es i t < es.length ∧ i ≤ lstE es i t
  | 0 => ⟨hi, Nat.le_refl _⟩
  | t + 1 => by
    have ih := lstE_lt es i hi t
    simp only [lstE]
    split
    · rename_i h; exact ⟨h.1, by omega⟩
    · exact ih
theorem lstE_succ (es : List S139) (i t : Nat) : lstE es i (t + 1) = if 2 * i + 1 + t < es.length ∧ bef (rd_T139 es ((2 * i + 1 + t : Nat) : Int)) (rd_T139 es ((lstE es i t : Nat) : Int)) = true then 2 * i + 1 + t else lstE es i t := rfl
theorem lstE_end (es : List S139) (i t : Nat) (ht : t ≤ 2) (h : ¬ (2 * i + 1 + t < es.length) ∨ t = 2) : lstE es i 2 = lstE es i t := by
  rcases h with h | rfl
  · rcases Nat.lt_or_ge t 1 with h1 | h1
    · obtain rfl : t = 0 := by omega
      rw [lstE_succ, if_neg (fun h2 => by omega), lstE_succ, if_neg (fun h2 => by omega)]
    · rcases Nat.lt_or_ge t 2 with h3 | h3
      · obtain rfl : t = 1 := by omega
        rw [lstE_succ, if_neg (fun h2 => by omega)]
      · obtain rfl : t = 2 := by omega
        rfl
  · rfl
theorem qs_len {base q : Nat} {w : World} {es : List S139} {nx ck : Int} (h : QS base w q es nx ck) : ∃ A c, w.cell? ⟨q, 1, none⟩ = some (.slice A es.length c) := by
  obtain ⟨v, bm, ents, mc, hq, hbq, hR, hm, hbm, hk⟩ := h
  obtain ⟨A, c, rfl, hl, hC⟩ := Kd.R_reads hR
  exact ⟨A, c, (blk_cell hq 1).trans rfl⟩

set_option maxHeartbeats 4000000 in
theorem down_calls (base q : Nat) (es : List S139) (nx ck : Int) (k0 : Nat) (w : World) (h : QS base w q es nx ck) (hk0 : k0 < es.length) (hsz : es.length ≤ 1000000) :
    Calls Try.prog 112 #[.pointer (some ⟨q, 0, none⟩), .int .i64 (k0 : Nat)] w fun e w' => e = .returned (.tuple #[]) ∧ QS base w' q (downE (es.length - k0) es k0) nx ck ∧ QF base q w w' := by
  go_enter Try.func112, Try.ntmps112
  go_wp2_with fail
  go_loopg [1] (es.length - k0) (fun g v1 wr => ∃ (k : Nat) (es' : List S139), v1 = .int .i64 k ∧ Aside0 (k < es'.length) ∧ Aside0 (es'.length = es.length) ∧ Aside0 (QS base wr q es' nx ck) ∧ Aside0 (QF base q w wr) ∧ Aside0 (es.length - k ≤ g) ∧ Aside0 (downE g es' k = downE (es.length - k0) es k0))
  case atStart => exact ⟨k0, es, rfl, ⟨hk0⟩, ⟨rfl⟩, ⟨h⟩, ⟨QF.refl _ _ _⟩, ⟨by omega⟩, ⟨rfl⟩⟩
  case round =>
    obtain ⟨k, es', rfl, hk, hl, HQ, HF, hg, HE⟩ := hrel
    clear h hk0
    have hk1 : k ≤ 1000000 := by have := hk.out; have := hl.out; omega
    obtain ⟨wO, rfl⟩ : ∃ wO : World, wO = wr := ⟨_, rfl⟩
    obtain ⟨gO, rfl⟩ : ∃ gO : Nat, gO = gk := ⟨_, rfl⟩
    go_wp2_with fail
    go_loopg [4, 5] 3 (fun g v4 v5 wr => ∃ (t kk : Nat), v4 = .int .i64 ((lstE es' k t : Nat) : Int) ∧ v5 = .int .i64 (kk : Nat) ∧ Aside0 (kk = 2 * k + 1 + t) ∧ Aside0 (t ≤ 2) ∧ Aside0 (3 - t ≤ g) ∧ Aside0 (Below wO.heap.size wO wr))
    case atStart => exact ⟨0, 2 * k + 1, rfl, by go_num, ⟨rfl⟩, ⟨by omega⟩, ⟨by omega⟩, ⟨Below.refl _ _⟩⟩
    case round =>
      obtain ⟨t, kk, rfl, rfl, hkk, ht, hg2, HB⟩ := hrel
      have HQ1 := Aside0.mk (qs_below HQ.out HB.out)
      have hlt := lstE_lt es' k hk.out t
      have hkk1 : kk ≤ 2000003 := by have := hkk.out; have := ht.out; omega
      obtain ⟨A, c, hq1⟩ := qs_len HQ1.out
      have hnext := lstE_succ es' k t
      rw [show 2 * k + 1 + t = kk from hkk.out.symm] at hnext
      have hend := lstE_end es' k t ht.out
      rw [show 2 * k + 1 + t = kk from hkk.out.symm] at hend
      obtain ⟨L, hL⟩ : ∃ L, lstE es' k t = L := ⟨_, rfl⟩
      rw [hL] at hlt hnext hend
      rw [hL]
      have HN := Aside0.mk hnext
      have HEN := Aside0.mk hend
      have HL := Aside0.mk hL
      clear hnext hend hL
      obtain ⟨hL1, hL2⟩ := hlt
      have hkl := hk.out
      by_cases hgo : kk ≤ 2 * k + 2 ∧ kk < es'.length
      · obtain ⟨ht2, hkn⟩ := hgo
        have ht2' : (kk : Int) ≤ 2 * (k : Int) + 2 := by omega
        have htt : t ≤ 1 := by have := hkk.out; omega
        cases hbf : bef (rd_T139 es' ((kk : Nat) : Int)) (rd_T139 es' ((L : Nat) : Int)) with
        | true =>
          go_wp2_with (first | (go_at_call 117; refine (before_calls base q es' nx ck _ _ _ HQ1.out (by omega) (by omega) (by omega) (by omega)).mono ?_; rintro e w1 ⟨rfl, hb1⟩))
          go_roundg (2 - t)
          case measure => have := hg2.out; omega
          case rel => exact ⟨t + 1, kk + 1, by rw [HN.out, if_pos ⟨hkn, hbf⟩], by go_num, ⟨by have := hkk.out; omega⟩, ⟨by omega⟩, ⟨by omega⟩, ⟨below_step HB.out hb1⟩⟩
        | false =>
          go_wp2_with (first | (go_at_call 117; refine (before_calls base q es' nx ck _ _ _ HQ1.out (by omega) (by omega) (by omega) (by omega)).mono ?_; rintro e w1 ⟨rfl, hb1⟩))
          go_roundg (2 - t)
          case measure => have := hg2.out; omega
          case rel => exact ⟨t + 1, kk + 1, by rw [HN.out, if_neg (fun h => by rw [hbf] at h; exact absurd h.2 (by decide))], by go_num, ⟨by have := hkk.out; omega⟩, ⟨by omega⟩, ⟨by omega⟩, ⟨below_step HB.out hb1⟩⟩
      · have hLL : lstE es' k 2 = L := HEN.out (by have := hkk.out; have := ht.out; omega)
        have HLL := Aside0.mk hLL
        clear hLL
        have hF1 := Aside0.mk (HF.out.trans (QF.of_below HB.out (qs_base HQ.out) (qs_lt HQ.out)))
        have hgk : ∃ g0, gO = g0 + 1 := ⟨gO - 1, by have := hg.out; have := hl.out; omega⟩
        obtain ⟨g0, rfl⟩ := hgk
        have hdn : downE (g0 + 1) es' k = if L = k then es' else downE g0 (swpE es' (k : Nat) ((L : Nat) : Int)) L := by rw [← HLL.out]; rfl
        have HDN := Aside0.mk hdn
        clear hdn
        by_cases hLk : L = k
        · have hLk' : ((L : Int) == (k : Int)) = true := by simp [hLk]
          have HLk := Aside0.mk hLk
          clear hLk
          have fin : downE (g0 + 1) es' k = es' := by rw [HDN.out, if_pos HLk.out]
          have FIN := Aside0.mk fin
          clear fin
          by_cases ht2 : kk ≤ 2 * k + 2
          · have ht2' : (kk : Int) ≤ 2 * (k : Int) + 2 := by omega
            have hkn : ¬ (kk : Int) < (es'.length : Int) := by have : ¬ kk < es'.length := fun h => hgo ⟨ht2, h⟩; omega
            clear hgo
            go_wp2
            refine bodyPost_ret (results_none (by rfl) _ _ _) rfl ?_
            exact ⟨rfl, by rw [← HE.out, FIN.out]; exact HQ1.out, hF1.out⟩
          · have ht2' : ¬ (kk : Int) ≤ 2 * (k : Int) + 2 := by omega
            clear hgo
            go_wp2
            refine bodyPost_ret (results_none (by rfl) _ _ _) rfl ?_
            exact ⟨rfl, by rw [← HE.out, FIN.out]; exact HQ1.out, hF1.out⟩
        · have hLk' : ((L : Int) == (k : Int)) = false := by simp; omega
          have HLk := Aside0.mk hLk
          clear hLk
          have fin : downE (g0 + 1) es' k = downE g0 (swpE es' (k : Nat) ((L : Nat) : Int)) L := by rw [HDN.out, if_neg HLk.out]
          have FIN := Aside0.mk fin
          clear fin
          by_cases ht2 : kk ≤ 2 * k + 2
          · have ht2' : (kk : Int) ≤ 2 * (k : Int) + 2 := by omega
            have hkn : ¬ (kk : Int) < (es'.length : Int) := by have : ¬ kk < es'.length := fun h => hgo ⟨ht2, h⟩; omega
            clear hgo
            go_wp2_with (first | (go_at_call 111; refine (swap_calls base q es' nx ck _ _ _ HQ1.out (by omega) (by omega) (by omega) (by omega)).mono ?_; rintro e w2 ⟨rfl, hQ2, hF2⟩; have HQ2 := Aside0.mk hQ2; have HF2 := Aside0.mk hF2; clear hQ2 hF2))
            go_roundg g0
            case measure => omega
            case rel => exact ⟨L, swpE es' (k : Nat) ((L : Nat) : Int), rfl, ⟨by rw [swpE_length]; exact hL1⟩, ⟨by rw [swpE_length]; exact hl.out⟩, HQ2, ⟨hF1.out.trans HF2.out⟩, ⟨by have := hg.out; have := HLk.out; omega⟩, ⟨by rw [← FIN.out]; exact HE.out⟩⟩
          · have ht2' : ¬ (kk : Int) ≤ 2 * (k : Int) + 2 := by omega
            clear hgo
            go_wp2_with (first | (go_at_call 111; refine (swap_calls base q es' nx ck _ _ _ HQ1.out (by omega) (by omega) (by omega) (by omega)).mono ?_; rintro e w2 ⟨rfl, hQ2, hF2⟩; have HQ2 := Aside0.mk hQ2; have HF2 := Aside0.mk hF2; clear hQ2 hF2))
            go_roundg g0
            case measure => omega
            case rel => exact ⟨L, swpE es' (k : Nat) ((L : Nat) : Int), rfl, ⟨by rw [swpE_length]; exact hL1⟩, ⟨by rw [swpE_length]; exact hl.out⟩, HQ2, ⟨hF1.out.trans HF2.out⟩, ⟨by have := hg.out; have := HLk.out; omega⟩, ⟨by rw [← FIN.out]; exact HE.out⟩⟩
end Go.Proofs.Ytamimodkcbbpmaa.Pr
end
section
/- The priority queue: what New makes, and what Push does to the queue in memory. -/
namespace Go.Proofs.Ytamimodkcbbpmaa.Pr
open Go.RowKit Go.Proofs.YtamimodkcbbpmaaW.PrintWords Go.Proofs.YtamimodkcbbpmaaW.PrintLast Go.Proofs.YtamimodkcbbpmaaXW Go.Proofs.YtamimodkcbbpmaaXM
set_option linter.unusedVariables false
set_option linter.unusedSimpArgs false

theorem new_calls (w : World) : Calls Try.prog 102 #[lessV] w fun e w' => e = .returned (.pointer (some ⟨w.heap.size + 1, 0, none⟩)) ∧
    w'.heap[w.heap.size + 1]? = some (.cells #[lessV, .slice none 0 0, .map (some w.heap.size), .int .i64 0, .int .i64 0] 135 (0, 0)) ∧ w'.heap[w.heap.size]? = some (.map #[] 0) ∧ Below w.heap.size w w' := by
  have hmm := @run_makeMap Try.prog
  go_enter Try.func102, Try.ntmps102
  go_wp2
  go_ret
  exact ⟨rfl, two_new1 w _ _, two_new0 w _ _, ⟨rfl, rfl, rfl, (below_two w _ _).size, (below_two w _ _).block⟩⟩

def R110.T1 : Bool × List (List Nat × List Nat) := (true, [([], []), ([0], [0]), ([1], [1]), ([2], [2]), ([], []), ([4], [4]), ([5], [5]), ([6], [6]), ([7], [7]), ([3, 0, 1, 2, 3], [3]), ([8, 9, 0, 1, 2, 3, 4, 5, 6, 7, 8, 9], [8])])
def R110.B1 : List Nat := [0, 1, 3, 7, 0, 16, 48, 112, 240, 15, 1023]
theorem R110.tab1 : rtab .any (opsOf Try.f110 1) = R110.T1 := by kernel_rfl
theorem R110.bits1 : waitsOk R110.T1.2 R110.B1 = true := by kernel_rfl
def R110.T2 : Bool × List (List Nat × List Nat) := (true, [([], []), ([], []), ([1], [1]), ([2], [2]), ([3], [3]), ([], []), ([], []), ([], []), ([7], [7]), ([8], [8]), ([9], [9]), ([5, 6, 10], [5, 6, 10]), ([11], [11]), ([4, 12], [4, 12]), ([0, 0, 1, 2, 3, 4, 5, 6, 7, 8, 9, 10, 11, 12, 13], [0]), ([14, 0, 1, 2, 3, 4, 5, 6, 7, 8, 9, 10, 11, 12, 13], [14]), ([15, 13, 13, 0, 1, 2, 3, 4, 5, 6, 7, 8, 9, 10, 11, 12, 13], [13, 15])])
def R110.B2 : List Nat := [0, 0, 2, 6, 14, 0, 0, 0, 128, 384, 896, 2016, 4064, 8190, 16383, 32767, 65535]
theorem R110.tab2 : rtab .any (opsOf Try.f110 2) = R110.T2 := by kernel_rfl
theorem R110.bits2 : waitsOk R110.T2.2 R110.B2 = true := by kernel_rfl
def R110.T4 : Bool × List (List Nat × List Nat) := (true, [([], []), ([], []), ([], []), ([2], [2]), ([3], [3]), ([4], [4]), ([5], [5]), ([], []), ([7], [7]), ([8], [8]), ([9], [9]), ([10], [10]), ([0, 0, 2, 3, 4, 5, 6, 10], [0]), ([12, 0, 2, 3, 4, 5, 6, 10], [12]), ([13, 6, 0, 2, 3, 4, 5, 6, 10], [6, 13]), ([1, 0, 1, 2, 3, 4, 5, 6, 7, 8, 9, 10, 11, 12, 13, 14], [1]), ([15, 0, 1, 2, 3, 4, 5, 6, 7, 8, 9, 10, 11, 12, 13, 14], [15]), ([16, 11, 14, 0, 1, 2, 3, 4, 5, 6, 7, 8, 9, 10, 11, 12, 13, 14], [11, 16])])
def R110.B4 : List Nat := [0, 0, 0, 4, 12, 28, 60, 0, 128, 384, 896, 1920, 2045, 6141, 14333, 32767, 65535, 131071]
theorem R110.tab4 : rtab .any (opsOf Try.f110 4) = R110.T4 := by kernel_rfl
theorem R110.bits4 : waitsOk R110.T4.2 R110.B4 = true := by kernel_rfl
set_option maxRecDepth 100000 in
set_option maxHeartbeats 8000000 in
theorem push_calls (base q : Nat) (es : List S139) (nx ck : Int) (c : S124) (w : World) (h : QS base w q es nx ck) (hsz : es.length < 1000000) :
    Calls Try.prog 110 #[.pointer (some ⟨q, 0, none⟩), .agg #[.int .i64 c.f0, .int .i64 c.f1.f0, .int .i64 c.f1.f1]] w fun e w' => e = .returned (.int .i64 nx) ∧
      QS base w' q (upE (es.length + 1) (es ++ [⟨c, nx, ck⟩]) es.length) (wrap64 (nx + 1)) (wrap64 (ck + 1)) ∧ QF0 base w w' := by
  go_enter Try.func110, Try.ntmps110
  go_wp2_with fail
  have hbs0 := qs_base h
  have hB0 : Below w.heap.size w (w.alloc (.cells #[.int .i64 c.f0, .int .i64 c.f1.f0, .int .i64 c.f1.f1] 124)) := below_alloc (Below.refl _ _) _
  have HQ0 := Aside0.mk (qs_below h hB0)
  have hbx0 : (w.alloc (.cells #[.int .i64 c.f0, .int .i64 c.f1.f0, .int .i64 c.f1.f1] 124)).heap[w.heap.size]? = some (.cells #[.int .i64 c.f0, .int .i64 c.f1.f0, .int .i64 c.f1.f1] 124 (0, 0)) := heap_alloc_new w _
  have HB0 := Aside0.mk hB0
  have HX0 := Aside0.mk hbx0
  clear hB0 hbx0 h
  generalize hwA : w.alloc (.cells #[.int .i64 c.f0, .int .i64 c.f1.f0, .int .i64 c.f1.f1] 124) = wA at HQ0 HB0 HX0 ⊢
  clear hwA
  obtain ⟨v, bm, ents, mc, hq, hbq, hR, hm, hbm, hk⟩ := HQ0.out
  obtain ⟨A, cap, rfl, hl, hC⟩ := Kd.R_reads hR
  have q1 : wA.cell? ⟨q, 1, none⟩ = some (.slice A es.length cap) := (blk_cell hq 1).trans rfl
  have q3 : wA.cell? ⟨q, 3, none⟩ = some (.int .i64 nx) := (blk_cell hq 3).trans rfl
  go_upto_region 1 with (fail)
  refine start_ (n := 11) (S := fun w' => w'.cell? ⟨q, 3, none⟩ = some (.int .i64 nx) ∧ w'.cell? ⟨q, 1, none⟩ = some (.slice A es.length cap)) (ds := []) #[false, false, false, false, false, false, false, false, false, false, false] (by kernel_rfl) rfl rfl ⟨q3, q1⟩ (fun hHeld => ?_)
  refine with_tabW R110.tab1 R110.bits1 (fun HT_ HW_ => ?_)
  refine bulk_ (fuel := 0) [(0, 7), (1, 8), (2, 9), (3, 10), (4, 11), (5, 12), (6, 13), (7, 14), (8, 15), (9, 5), (10, 6)] #[true, true, true, true, true, true, true, true, true, true, true] (bulkB_of HT_.out HW_.out _ _ _ (by kernel_rfl)) rfl (fun _ _ _ _ _ h => h) hHeld (a' := ?_) ?_ ?_
  rotate_left
  · iterate 11
      refine chain_cons (v := ?_) (a1 := ?_) rfl rfl (Or.inl ⟨by rfl, ?_⟩) ?_ ?_
      rotate_left 2
      · rintro w' ⟨s0, s1⟩
        go_simp
        with_reducible rfl
      · simp only [Act.put, List.setIfInBounds_toArray, List.set_cons_zero, List.set_cons_succ, i64_w, i32_w]
        rfl
    exact chain_nil
  refine done_ (done_of HT_.out (by kernel_rfl)) ?_
  clear q1 q3
  generalize hwP : wA.drew = wP
  have hqp0 : wP.heap[q]? = some (.cells #[lessV, .slice A es.length cap, .map (some bm), .int .i64 nx, .int .i64 ck] 135 (0, 0)) := by rw [← hwP]; exact hq
  have hRp0 : Kd.R k139 139 wP base (fun _ => True) (.slice A es.length cap) es := by rw [← hwP]; exact Kd.R_drew hR
  have hmp0 : wP.heap[bm]? = some (.map ents mc) := by rw [← hwP]; exact hm
  have hbxp0 : wP.heap[w.heap.size]? = some (.cells #[.int .i64 c.f0, .int .i64 c.f1.f0, .int .i64 c.f1.f1] 124 (0, 0)) := by rw [← hwP]; exact HX0.out
  have hBp0 : Below w.heap.size w wP := by rw [← hwP]; exact below_drew HB0.out
  clear hwP hq hR hm hC HQ0 HX0 HB0 hHeld
  have hqp : wP.drew.heap[q]? = some (.cells #[lessV, .slice A es.length cap, .map (some bm), .int .i64 nx, .int .i64 ck] 135 (0, 0)) := hqp0
  have hRp := Kd.R_drew hRp0
  have hbxp : wP.drew.heap[w.heap.size]? = some (.cells #[.int .i64 c.f0, .int .i64 c.f1.f0, .int .i64 c.f1.f1] 124 (0, 0)) := hbxp0
  have hBp : Below base w wP.drew := (below_drew hBp0).mono hbs0
  have hbs : base ≤ wP.drew.heap.size := Nat.le_trans hbs0 hBp0.size
  have hmp : wP.drew.heap[bm]? = some (.map ents mc) := hmp0
  have q1 : wP.drew.cell? ⟨q, 1, none⟩ = some (.slice A es.length cap) := (blk_cell hqp 1).trans rfl
  have q4 : wP.drew.cell? ⟨q, 4, none⟩ = some (.int .i64 ck) := (blk_cell hqp 4).trans rfl
  have b0 : wP.drew.cell? ⟨w.heap.size, 0, none⟩ = some (.int .i64 c.f0) := (blk_cell hbxp 0).trans rfl
  have b1 : wP.drew.cell? ⟨w.heap.size, 1, none⟩ = some (.int .i64 c.f1.f0) := (blk_cell hbxp 1).trans rfl
  have b2 : wP.drew.cell? ⟨w.heap.size, 2, none⟩ = some (.int .i64 c.f1.f1) := (blk_cell hbxp 2).trans rfl
  go_upto_region 2 with (fail)
  refine start_ (n := 17) (S := fun w' => w'.cell? ⟨q, 1, none⟩ = some (.slice A es.length cap) ∧ w'.cell? ⟨q, 4, none⟩ = some (.int .i64 ck) ∧ w'.cell? ⟨w.heap.size, 0, none⟩ = some (.int .i64 c.f0) ∧ w'.cell? ⟨w.heap.size, 1, none⟩ = some (.int .i64 c.f1.f0) ∧ w'.cell? ⟨w.heap.size, 2, none⟩ = some (.int .i64 c.f1.f1)) (ds := [16]) #[false, false, false, false, false, false, false, false, false, false, false, false, false, false, false, false, false] (by kernel_rfl) rfl rfl ⟨q1, q4, b0, b1, b2⟩ (fun hHeld => ?_)
  refine with_tabW R110.tab2 R110.bits2 (fun HT_ HW_ => ?_)
  refine bulkP_ (fuel := 9) [(0, 16), (1, 17), (2, 18), (3, 19), (6, 22), (7, 23), (8, 24), (9, 25)] #[true, true, true, true, false, false, true, true, true, true, false, false, false, false, false, false, false] (bulkP_of HT_.out _ _ _ (by kernel_rfl)) rfl (fun _ _ _ _ _ h => h) (a' := ?_) ?_ ?_
  rotate_left
  · iterate 8
      refine chainP_cons (v := ?_) (a1 := ?_) rfl rfl (Or.inl ⟨by rfl, ?_⟩) ?_ ?_
      rotate_left 2
      · intro w'
        go_simp
        with_reducible rfl
      · simp only [Act.put, List.setIfInBounds_toArray, List.set_cons_zero, List.set_cons_succ, i64_w, i32_w]
        rfl
    exact chainP_nil
  refine bulk_ (fuel := 6) [(4, 20), (5, 21), (10, 26)] #[true, true, true, true, true, true, true, true, true, true, true, false, false, false, false, false, false] (bulkB_of HT_.out HW_.out _ _ _ (by kernel_rfl)) rfl (fun _ _ _ _ _ h => h) hHeld (a' := ?_) ?_ ?_
  rotate_left
  · iterate 3
      refine chain_cons (v := ?_) (a1 := ?_) rfl rfl (Or.inl ⟨by rfl, ?_⟩) ?_ ?_
      rotate_left 2
      · rintro w' ⟨s0, s1, s2, s3, s4⟩
        go_simp
        with_reducible rfl
      · simp only [Act.put, List.setIfInBounds_toArray, List.set_cons_zero, List.set_cons_succ, i64_w, i32_w]
        rfl
    exact chain_nil
  refine bulkP_ (fuel := 5) [(11, 27)] #[true, true, true, true, true, true, true, true, true, true, true, true, false, false, false, false, false] (bulkP_of HT_.out _ _ _ (by kernel_rfl)) rfl (fun _ _ _ _ _ h => h) (a' := ?_) ?_ ?_
  rotate_left
  · iterate 1
      refine chainP_cons (v := ?_) (a1 := ?_) rfl rfl (Or.inl ⟨by rfl, ?_⟩) ?_ ?_
      rotate_left 2
      · intro w'
        go_simp
        with_reducible rfl
      · simp only [Act.put, List.setIfInBounds_toArray, List.set_cons_zero, List.set_cons_succ, i64_w, i32_w]
        rfl
    exact chainP_nil
  refine one_ (i := 12) (N := some 28) #[true, true, true, true, true, true, true, true, true, true, true, true, true, false, false, false, false] rfl rfl (one_of HT_.out (by kernel_rfl)) (by decide) (fun K hK => ?_)
  refine value_ (w1 := wP.drew.alloc (.cells #[.int .i64 c.f0, .int .i64 c.f1.f0, .int .i64 c.f1.f1, .int .i64 nx, .int .i64 ck] 139)) (v := .slice (some ⟨wP.heap.size, 0, none⟩) 1 1) (by rfl) rfl ?_ ?_
  · first | (go_simp; done) | (go_simp; rfl)
  refine hK.out _ _ ⟨old1 hHeld.1 _, old1 hHeld.2.1 _, old1 hHeld.2.2.1 _, old1 hHeld.2.2.2.1 _, old1 hHeld.2.2.2.2 _⟩ (fun hHeld => ?_)
  clear hK K
  refine norm_ (a' := ?_) ?_ ?_
  rotate_left
  · show Act.put _ (some 28) _ = _
    simp only [Act.put, List.setIfInBounds_toArray, List.set_cons_zero, List.set_cons_succ, i64_w, i32_w]
    rfl
  refine one_ (i := 13) (N := some 29) #[true, true, true, true, true, true, true, true, true, true, true, true, true, true, false, false, false] rfl rfl (one_of HT_.out (by kernel_rfl)) (by decide) (fun K hK => ?_)
  refine Kd.R_append_step k139 (w0 := w) (W := wP.drew) base (by rfl) (.tmp 20) (.tmp 28) 133 139 (.agg #[.int .i64 0, .int .i64 0, .int .i64 0, .int .i64 0, .int .i64 0]) 40 rfl Try.underlying133 info139 rfl (by decide) (by omega) (.slice A es.length cap) es (⟨c, nx, ck⟩ : S139) [.int .i64 c.f0, .int .i64 c.f1.f0, .int .i64 c.f1.f1, .int .i64 nx, .int .i64 ck] (fun _ => True) (fun _ => False) rfl rfl (k139_mkM _ _ _ ⟨c, nx, ck⟩) (fun _ hk => hk.elim) (fun _ _ => trivial) hRp hBp hbs (by omega) ?_
  intro v1 w2 hR2 hB2 hg2 hat
  obtain ⟨A1, cap1, rfl⟩ := Kd.R_slice hR2
  have hne : some q ≠ (Value.slice A es.length cap).ownBlock := Kd.R_ne hRp hqp (by decide)
  have hneb : some w.heap.size ≠ (Value.slice A es.length cap).ownBlock := Kd.R_ne hRp hbxp (by decide)
  have hq2 := blk_grown hqp hg2 hne
  have hbx2 := blk_grown hbxp hg2 hneb
  refine hK.out _ _ ⟨(blk_cell hq2 1).trans rfl, (blk_cell hq2 4).trans rfl, (blk_cell hbx2 0).trans rfl, (blk_cell hbx2 1).trans rfl, (blk_cell hbx2 2).trans rfl⟩ (fun hHeld => ?_)
  clear hK K
  refine norm_ (a' := ?_) ?_ ?_
  rotate_left
  · show Act.put _ (some 29) _ = _
    simp only [Act.put, List.setIfInBounds_toArray, List.set_cons_zero, List.set_cons_succ, i64_w, i32_w]
    rfl
  refine bulkP_ (fuel := 1) [(14, 30), (15, 31)] #[true, true, true, true, true, true, true, true, true, true, true, true, true, true, true, true, false] (bulkP_of HT_.out _ _ _ (by kernel_rfl)) rfl (fun _ _ _ _ _ h => h) (a' := ?_) ?_ ?_
  rotate_left
  · iterate 2
      refine chainP_cons (v := ?_) (a1 := ?_) rfl rfl (Or.inl ⟨by rfl, ?_⟩) ?_ ?_
      rotate_left 2
      · intro w'
        go_simp
        with_reducible rfl
      · simp only [Act.put, List.setIfInBounds_toArray, List.set_cons_zero, List.set_cons_succ, i64_w, i32_w]
        rfl
    exact chainP_nil
  refine last_ (i := 16) (N := none) #[true, true, true, true, true, true, true, true, true, true, true, true, true, true, true, true, true] rfl rfl (one_of HT_.out (by kernel_rfl)) (by decide) (fun K hK => ?_)
  have hc1 : w2.cell? ⟨q, 1, none⟩ = some (.slice A es.length cap) := (blk_cell hq2 1).trans rfl
  have hf1 := blk_frozen hq2 1
  refine skip_ (w1 := w2.setCell ⟨q, 1, none⟩ (.slice A1 (es ++ [(⟨c, nx, ck⟩ : S139)]).length cap1)) (by rfl) rfl ?_ ?_
  · first | (go_simp; done) | (go_simp; rfl)
  refine hK.out _ _ ?_
  clear hK K
  refine done_ (done_of HT_.out (by kernel_rfl)) ?_
  have hm2 : w2.heap[bm]? = some (.map ents mc) := blk_grown hmp hg2 (by
    intro e
    obtain ⟨cells, hc⟩ := Kd.R_typed hRp bm e.symm
    rw [hmp] at hc
    cases hc)
  have hq3 : (w2.setCell ⟨q, 1, none⟩ (.slice A1 (es ++ [(⟨c, nx, ck⟩ : S139)]).length cap1)).heap[q]? = some (.cells #[lessV, .slice A1 (es ++ [(⟨c, nx, ck⟩ : S139)]).length cap1, .map (some bm), .int .i64 nx, .int .i64 ck] 135 (0, 0)) := by simpa using blk_set hq2 1 (.slice A1 (es ++ [(⟨c, nx, ck⟩ : S139)]).length cap1)
  have hR3 := Kd.R_set hR2 hq2 (by decide) 1 (.slice A1 (es ++ [(⟨c, nx, ck⟩ : S139)]).length cap1)
  have hne3 : q ≠ bm := by rintro rfl; rw [hq2] at hm2; cases hm2
  have hm3 : (w2.setCell ⟨q, 1, none⟩ (.slice A1 (es ++ [(⟨c, nx, ck⟩ : S139)]).length cap1)).heap[bm]? = some (.map ents mc) := (Below.heap_setCell w2 ⟨q, 1, none⟩ (.slice A1 (es ++ [(⟨c, nx, ck⟩ : S139)]).length cap1) bm (fun e => hne3 e.symm)).trans hm2
  have hF3 : Aside0 (QF0 base w (w2.setCell ⟨q, 1, none⟩ (.slice A1 (es ++ [(⟨c, nx, ck⟩ : S139)]).length cap1))) := by
    refine ⟨⟨hB2.setCell hbq _, fun k cs t fr h1 h2 h3 => ?_⟩⟩
    have hk1 : wP.drew.heap[k]? = some (.cells cs t fr) := blk_below (w := w) (w1 := wP.drew) h1 (below_drew hBp0)
    have hk2 : w2.heap[k]? = some (.cells cs t fr) := blk_grown hk1 hg2 (by
      intro e
      obtain ⟨cells, hc⟩ := Kd.R_typed hRp k e.symm
      rw [hk1] at hc
      injection hc with hc
      injection hc with _ hc
      exact h3 hc)
    rw [Below.heap_setCell w2 ⟨q, 1, none⟩ (.slice A1 (es ++ [(⟨c, nx, ck⟩ : S139)]).length cap1) k (by
      rintro rfl
      rw [hq2] at hk2
      injection hk2 with hk2
      injection hk2 with _ hk2
      exact h2 hk2.symm)]
    exact hk2
  generalize hw3 : w2.setCell ⟨q, 1, none⟩ (.slice A1 (es ++ [(⟨c, nx, ck⟩ : S139)]).length cap1) = w3 at hq3 hR3 hm3 hF3 ⊢
  obtain ⟨w4, es4, c4, hmu, hm4, hk4, hf4⟩ := mapUpdate_w hm3 hk nx (.int .i64 (es.length : Nat))
  have q23 : w3.cell? ⟨q, 2, none⟩ = some (.map (some bm)) := (blk_cell hq3 2).trans rfl
  have hq4 := hf4.blk hm3 hq3
  have hR4 := Aside0.mk (mf_row hf4 hm3 hR3)
  have hF4 := Aside0.mk (hF3.out.trans (mf_qf hf4 hm3 hbm))
  have q34 : w4.cell? ⟨q, 3, none⟩ = some (.int .i64 nx) := (blk_cell hq4 3).trans rfl
  have q44 : w4.cell? ⟨q, 4, none⟩ = some (.int .i64 ck) := (blk_cell hq4 4).trans rfl
  have f34 := blk_frozen hq4 3
  have f44 := blk_frozen hq4 4
  have Hq4 := Aside0.mk hq4
  have Hm4 := Aside0.mk hm4
  clear hw3 hq3 hR3 hm3 hF3 hR2 hq2 hbx2 hm2 hg2 hB2 hat hne hneb q1 q4 b0 b1 b2 hqp hRp hbxp hBp hbs hmp hqp0 hRp0 hmp0 hbxp0 hBp0 hq4 hm4 hf4 hc1 hf1 hne3 hk
  go_upto_region 4 with (fail)
  refine start_ (n := 18) (S := fun w' => w'.cell? ⟨q, 3, none⟩ = some (.int .i64 nx) ∧ w'.cell? ⟨q, 4, none⟩ = some (.int .i64 ck)) (ds := [14, 17]) #[false, false, false, false, false, false, false, false, false, false, false, false, false, false, false, false, false, false] (by kernel_rfl) rfl rfl ⟨q34, q44⟩ (fun hHeld => ?_)
  refine with_tabW R110.tab4 R110.bits4 (fun HT_ HW_ => ?_)
  refine bulkP_ (fuel := 10) [(0, 38), (1, 39), (2, 40), (3, 41), (4, 42), (7, 45), (8, 46), (9, 47)] #[true, true, true, true, true, false, false, true, true, true, false, false, false, false, false, false, false, false] (bulkP_of HT_.out _ _ _ (by kernel_rfl)) rfl (fun _ _ _ _ _ h => h) (a' := ?_) ?_ ?_
  rotate_left
  · iterate 8
      refine chainP_cons (v := ?_) (a1 := ?_) rfl rfl (Or.inl ⟨by rfl, ?_⟩) ?_ ?_
      rotate_left 2
      · intro w'
        go_simp
        with_reducible rfl
      · simp only [Act.put, List.setIfInBounds_toArray, List.set_cons_zero, List.set_cons_succ, i64_w, i32_w]
        rfl
    exact chainP_nil
  refine bulk_ (fuel := 8) [(5, 43), (10, 48)] #[true, true, true, true, true, true, false, true, true, true, true, false, false, false, false, false, false, false] (bulkB_of HT_.out HW_.out _ _ _ (by kernel_rfl)) rfl (fun _ _ _ _ _ h => h) hHeld (a' := ?_) ?_ ?_
  rotate_left
  · iterate 2
      refine chain_cons (v := ?_) (a1 := ?_) rfl rfl (Or.inl ⟨by rfl, ?_⟩) ?_ ?_
      rotate_left 2
      · rintro w' ⟨s0, s1⟩
        go_simp
        with_reducible rfl
      · simp only [Act.put, List.setIfInBounds_toArray, List.set_cons_zero, List.set_cons_succ, i64_w, i32_w]
        rfl
    exact chain_nil
  refine bulkP_ (fuel := 4) [(6, 44), (11, 49), (12, 50), (13, 51)] #[true, true, true, true, true, true, true, true, true, true, true, true, true, true, false, false, false, false] (bulkP_of HT_.out _ _ _ (by kernel_rfl)) rfl (fun _ _ _ _ _ h => h) (a' := ?_) ?_ ?_
  rotate_left
  · iterate 4
      refine chainP_cons (v := ?_) (a1 := ?_) rfl rfl (Or.inl ⟨by rfl, ?_⟩) ?_ ?_
      rotate_left 2
      · intro w'
        go_simp
        with_reducible rfl
      · simp only [Act.put, List.setIfInBounds_toArray, List.set_cons_zero, List.set_cons_succ, i64_w, i32_w]
        rfl
    exact chainP_nil
  refine last_ (i := 14) (N := none) #[true, true, true, true, true, true, true, true, true, true, true, true, true, true, true, false, false, false] rfl rfl (one_of HT_.out (by kernel_rfl)) (by decide) (fun K hK => ?_)
  refine skip_ (w1 := w4.drew.setCell ⟨q, 3, none⟩ (.int .i64 (wrap64 (nx + 1)))) (by rfl) rfl ?_ ?_
  · first | (go_simp; done) | (go_simp; rfl)
  refine hK.out _ _ ?_
  clear hK K
  refine bulkP_ (fuel := 1) [(15, 52), (16, 53)] #[true, true, true, true, true, true, true, true, true, true, true, true, true, true, true, true, true, false] (bulkP_of HT_.out _ _ _ (by kernel_rfl)) rfl (fun _ _ _ _ _ h => h) (a' := ?_) ?_ ?_
  rotate_left
  · iterate 2
      refine chainP_cons (v := ?_) (a1 := ?_) rfl rfl (Or.inl ⟨by rfl, ?_⟩) ?_ ?_
      rotate_left 2
      · intro w'
        go_simp
        with_reducible rfl
      · simp only [Act.put, List.setIfInBounds_toArray, List.set_cons_zero, List.set_cons_succ, i64_w, i32_w]
        rfl
    exact chainP_nil
  refine last_ (i := 17) (N := none) #[true, true, true, true, true, true, true, true, true, true, true, true, true, true, true, true, true, true] rfl rfl (one_of HT_.out (by kernel_rfl)) (by decide) (fun K hK => ?_)
  refine skip_ (w1 := (w4.drew.setCell ⟨q, 3, none⟩ (.int .i64 (wrap64 (nx + 1)))).setCell ⟨q, 4, none⟩ (.int .i64 (wrap64 (ck + 1)))) (by rfl) rfl ?_ ?_
  · first | (go_simp; done) | (go_simp; rfl)
  refine hK.out _ _ ?_
  clear hK K
  refine done_ (done_of HT_.out (by kernel_rfl)) ?_
  have hq5 : ((w4.drew.setCell ⟨q, 3, none⟩ (.int .i64 (wrap64 (nx + 1)))).setCell ⟨q, 4, none⟩ (.int .i64 (wrap64 (ck + 1)))).heap[q]? = some (.cells #[lessV, .slice A1 (es ++ [(⟨c, nx, ck⟩ : S139)]).length cap1, .map (some bm), .int .i64 (wrap64 (nx + 1)), .int .i64 (wrap64 (ck + 1))] 135 (0, 0)) := by
    have h1 := blk_set (w := w4.drew) Hq4.out 3 (.int .i64 (wrap64 (nx + 1)))
    have h2 := blk_set h1 4 (.int .i64 (wrap64 (ck + 1)))
    simpa using h2
  have hR5 := Kd.R_set (Kd.R_set (Kd.R_drew hR4.out) (w := w4.drew) Hq4.out (by decide) 3 (.int .i64 (wrap64 (nx + 1)))) (blk_set (w := w4.drew) Hq4.out 3 (.int .i64 (wrap64 (nx + 1)))) (by decide) 4 (.int .i64 (wrap64 (ck + 1)))
  have hne5 : bm ≠ q := by rintro rfl; have h := Hm4.out; rw [Hq4.out] at h; cases h
  have hm5 : ((w4.drew.setCell ⟨q, 3, none⟩ (.int .i64 (wrap64 (nx + 1)))).setCell ⟨q, 4, none⟩ (.int .i64 (wrap64 (ck + 1)))).heap[bm]? = some (.map es4 c4) :=
    (Below.heap_setCell _ _ _ _ hne5).trans ((Below.heap_setCell _ _ _ _ hne5).trans Hm4.out)
  have hF5 : QF0 base w ((w4.drew.setCell ⟨q, 3, none⟩ (.int .i64 (wrap64 (nx + 1)))).setCell ⟨q, 4, none⟩ (.int .i64 (wrap64 (ck + 1)))) := by
    refine ⟨((hF4.out.below.drew).setCell hbq _).setCell hbq _, fun k cs t fr h1 h2 h3 => ?_⟩
    have hk := hF4.out.keep k cs t fr h1 h2 h3
    have hkq : k ≠ q := by rintro rfl; rw [Hq4.out] at hk; injection hk with hk; injection hk with _ hk; exact h2 hk.symm
    exact (Below.heap_setCell _ _ _ _ hkq).trans ((Below.heap_setCell _ _ _ _ hkq).trans hk)
  have HQ5 : Aside0 (QS base ((w4.drew.setCell ⟨q, 3, none⟩ (.int .i64 (wrap64 (nx + 1)))).setCell ⟨q, 4, none⟩ (.int .i64 (wrap64 (ck + 1)))) q (es ++ [(⟨c, nx, ck⟩ : S139)]) (wrap64 (nx + 1)) (wrap64 (ck + 1))) := ⟨⟨_, bm, es4, c4, hq5, hbq, hR5, hm5, hbm, hk4⟩⟩
  have HF5 := Aside0.mk hF5
  clear hq5 hR5 hm5 hF5 hne5 hF4 hR4 Hq4 Hm4 hmu q34 q44 f34 f44 q23 hk4
  generalize ((w4.drew.setCell ⟨q, 3, none⟩ (.int .i64 (wrap64 (nx + 1)))).setCell ⟨q, 4, none⟩ (.int .i64 (wrap64 (ck + 1)))) = w5 at HQ5 HF5 ⊢
  go_wp2_with (first | (go_at_call 116; refine (up_calls base q _ _ _ es.length _ HQ5.out (by simp) (by simp; omega)).mono ?_; rintro e w6 ⟨rfl, hQ6, hF6⟩; have HQ6 := Aside0.mk hQ6; have HF6 := Aside0.mk hF6; clear hQ6 hF6))
  go_ret
  exact ⟨rfl, HQ6.out, HF5.out.trans HF6.out.f0⟩
end Go.Proofs.Ytamimodkcbbpmaa.Pr
end
