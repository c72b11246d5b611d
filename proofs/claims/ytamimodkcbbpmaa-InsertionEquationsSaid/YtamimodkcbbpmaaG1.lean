/- WWords WLast WTab WFour WQPut WApart WArr WZeros WFoot WKept WShare WN WFootNe WAt WEqStruct WRepsOne WInv WInvWords WGuard WNEv WMore WSized: a part of the proof of the row of a; no conditions. -/
import Derived.Below
import Derived.Deep.Draws
import Derived.Deep.AppendLies
import Derived.Maps.AppendAt
import Derived.OwnWalk
import Derived.Laws.BytesArg
import Derived.Laws.MakeOwn
import Derived.Laws.OwnMore
import Derived.Deep.OwnRows
import Derived.Tactics
import Derived.Lib.ConvBytes
import Derived.Laws.Slices
import Derived.WalkKit
import Derived.KernelRfl
import Derived.RowKit3
import Derived.Deep.LoopGhost
import Derived.Deep.QuietTactic
import Derived.BigQuiet
import Derived.WideLaws
import Derived.Deep.DeepCutAuto
import Derived.Deep.CutBlock
import Derived.Deep.RegionHeld3
import Derived.Laws.Rows
import Derived.Lib.AppendStr
import Derived.ArgAppend
import Derived.Laws.IdiomCopy
import Derived.RowKit
import Derived.OrdersHeld
import Derived.Laws.BitsLemmas
import Derived.Laws.StructEq
import Derived.SizedLaws
import Derived.ChangeSlices
section
set_option linter.unusedVariables false
set_option linter.unusedSimpArgs false
namespace Go.Proofs.YtamimodkcbbpmaaW.PrintWords
open Go.RowKit
structure aa (p : Prop) : Prop where mk :: (out : p)
structure vE (w w' : World) : Prop where mk :: (out : ∃ n, w' = w.drewN n)
theorem vE.refl (w : World) : vE w w := ⟨⟨0, rfl⟩⟩
theorem vE.step {w w' : World} (h : vE w w') (n : Nat) : vE w (w'.drewN n) := by
 obtain ⟨m, rfl⟩ := h;exact ⟨⟨m + n, World.drewN_drewN ..⟩⟩
theorem vE.grown {w w' : World} (h : vE w w') : Grown w w' := by
 obtain ⟨n, rfl⟩ := h;induction n with
 | zero => exact Grown.refl _
 | succ n ih => rw [← World.drew_drewN]; exact Grown.drew ih
theorem vE.below {w w' : World} (h : vE w w') : Below w.heap.size w w' := by
 obtain ⟨n, rfl⟩ := h;induction n with
 | zero => exact Below.refl _ _
 | succ n ih => rw [← World.drew_drewN]; exact ih.drew
def rd (xs : List Int) (i : Int) : Int := xs.getD i.toNat 0
def bt (s : ByteArray) (i : Int) : Int := if h : i.toNat < s.size then ((s[i.toNat]'h).toNat : Int) else 0
def nums (k : IntKind) (xs : List Int) : List Value := xs.map fun x => .int k x
def bools (xs : List Bool) : List Value := xs.map fun x => .bool x
def afo (xs : List ByteArray) : List Value := xs.map fun x => .string x
theorem dY {w W : World} (h : Below w.heap.size w W) (o : Obj) : Below w.heap.size w (W.alloc o) := h.alloc h.size o
theorem dM {B : Nat} {w W : World} (h : Below B w W) : Below B w W.drew := ⟨h.os, h.tape, h.output, h.size, h.block⟩
theorem nz {B : Nat} {w W : World} (h : Below B w W) (n : Nat) : Below B w (W.drewN n) := ⟨h.os, h.tape, h.output, h.size, h.block⟩
theorem Ml {B : Nat} {w w1 w2 : World} (h : Below B w w1) (hB : B ≤ w1.heap.size) (k : Below w1.heap.size w1 w2) : Below B w w2 :=
 h.trans ⟨k.os, k.tape, k.output, k.size, fun i hi => k.block i (Nat.lt_of_lt_of_le hi hB)⟩
theorem jq {B : Nat} {w w1 : World} (h : Below B w w1) (row : Option Nat) (hB : B ≤ w1.heap.size) {w2 : World} (hg : w1.grownBy w2 row) (hr : ∀ k, row = some k → B ≤ k) : Below B w w2 := h.grown hg hB hr
theorem Fw {w w1 : World} (h : Below w.heap.size w w1) (row : Option Nat) : w.grownBy w1 row := ⟨h.os, h.tape, h.output, h.size, fun i hi _ => h.block i hi⟩
theorem ah {w w1 : World} (h : Below w.heap.size w w1) {a : Addr} {v : Value} (hc : w.cell? a = some v) : w1.cell? a = some v := (h.cell (World.block_lt_of_cell? w a hc)).trans hc
theorem add_plain (g j : Nat) : (⟨g, 0, none⟩ : Addr).add j = ⟨g, j, none⟩ := by unfold Addr.add; split <;> simp_all
def iV (w : World) (k : IntKind) (A : Option Addr) (n : Nat) (xs : List Int) : Prop :=
 xs.length = n ∧ n ≤ 9223372036854775807 ∧ (0 < n → ∃ ad, A = some ad ∧ ∀ j, j < n → w.cell? (ad.add j) = some (.int k (xs.getD j 0)))
theorem iV.at_ {w : World} {k : IntKind} {A : Option Addr} {n : Nat} {xs : List Int} (h : iV w k A n xs) (i : Int) (h0 : 0 ≤ i) (h1 : i < n) : ∃ ad, A = some ad ∧ w.cell? (ad.add i.toNat) = some (.int k (rd xs i)) := by
 obtain ⟨ad, e, hc⟩ := h.2.2 (by omega);exact ⟨ad, e, hc _ (by omega)⟩
theorem iV.below {w w1 : World} {k : IntKind} {A : Option Addr} {n : Nat} {xs : List Int} (h : iV w k A n xs) (hb : Below w.heap.size w w1) : iV w1 k A n xs :=
 ⟨h.1, h.2.1, fun hn => by
  obtain ⟨ad, e, hc⟩ := h.2.2 hn;exact ⟨ad, e, fun j hj => ah hb (hc j hj)⟩⟩
theorem U2 (W : World) (base : Nat) (e : TypeId) (size : Nat) : W.ownsRow base e size (.slice none 0 0) 0 [] := ⟨by simp, .inl ⟨rfl, rfl⟩⟩
theorem mf {w : World} {base : Nat} {e : TypeId} {size n : Nat} {v : Value} {xs : List Value} (h : w.ownsRow base e size v n xs) (k : Nat) (hk : v.ownBlock = some k) : base ≤ k := by
 rcases h.2 with ⟨rfl, _⟩ | ⟨g, cap, cur, rfl, hb, _⟩
 ·simp [Value.ownBlock] at hk
 ·have : g = k := by simpa [Value.ownBlock] using hk
  omega
theorem R5 {w : World} {base : Nat} {e : TypeId} {size n : Nat} {v : Value} {xs : List Value} (h : w.ownsRow base e size v n xs) (k : Nat) (hk : v.ownBlock = some k) : k < w.heap.size := by
 rcases h.2 with ⟨rfl, _⟩ | ⟨g, cap, cur, rfl, hb, hh, _⟩
 ·simp [Value.ownBlock] at hk
 ·have : g = k := by simpa [Value.ownBlock] using hk
  subst this;exact (Array.getElem?_eq_some_iff.1 hh).1
theorem I4 {w w1 : World} {base : Nat} {e : TypeId} {size n : Nat} {v : Value} {xs : List Value} (h : w.ownsRow base e size v n xs) (hb : Below w.heap.size w w1) : w1.ownsRow base e size v n xs :=
 h.kept (Fw hb none) (by cases v.ownBlock <;> simp)
theorem Qz {w w1 : World} {base : Nat} {e : TypeId} {size n : Nat} {v : Value} {xs : List Value} (h : w.ownsRow base e size v n xs) {row : Option Nat} (hg : w.grownBy w1 row) (hne : v.ownBlock = none ∨ v.ownBlock ≠ row) : w1.ownsRow base e size v n xs := h.kept hg hne
theorem QA {w : World} {base n : Nat} {e : TypeId} {size : Nat} {v : Value} {xs : List Value} (h : w.ownsRow base e size v n xs) : ∃ A c, v = .slice A n c := by
 rcases h.2 with ⟨rfl, rfl⟩ | ⟨g, cap, cur, rfl, _⟩
 ·exact ⟨none, 0, rfl⟩
 ·exact ⟨_, cap, rfl⟩
section
variable {P : Program} {ops : Array Oper} {rest : List Oper} {o : Oper} {a : Act} {Q : Exit → Act → World → Prop}
end
section
variable {P : Program}
end
section
variable {P : Program} {ops : Array Oper} {rest : List Oper} {o : Oper} {a : Act} {Q : Exit → Act → World → Prop}
end
def bytesOf (s : ByteArray) : List Int := s.data.toList.map fun b => (b.toNat : Int)
theorem iV.Eg {w : World} {k : IntKind} {A : Option Addr} {n : Nat} {xs : List Int} (h : iV w k A n xs) (i : Nat) (hi : i ≤ n) : iV w k A i (xs.take i) := by
 refine ⟨by rw [List.length_take, h.1]; omega, by have := h.2.1; omega, fun hp => ?_⟩;obtain ⟨ad, e, hc⟩ := h.2.2 (by omega);refine ⟨ad, e, fun j hj => ?_⟩;rw [hc j (by omega)];simp [List.getD_eq_getElem?_getD, hj]
def dz {α : Type} (a b : Option α) : Prop := ∀ r, a = some r → b = some r
theorem dz.refl {α : Type} (a : Option α) : dz a a := fun _ h => h
theorem dz.none {α : Type} (b : Option α) : dz Option.none b := fun _ h => by cases h
theorem dz.trans {α : Type} {a b c : Option α} (h : dz a b) (k : dz b c) : dz a c := fun r hr => k r (h r hr)
theorem dz.ite {α : Type} {c : Prop} [Decidable c] {a a' b b' : Option α} (h : dz a a') (k : dz b b') : dz (if c then a else b) (if c then a' else b') := by
 split
 ·exact h
 ·exact k
theorem dz.bind {α β : Type} {a a' : Option α} {f f' : α → Option β} (h : dz a a') (k : ∀ x, dz (f x) (f' x)) : dz (a.bind f) (a'.bind f') := by
 intro r hr;obtain ⟨x, hx, hf⟩ := Option.bind_eq_some_iff.1 hr;exact Option.bind_eq_some_iff.2 ⟨x, h x hx, k x r hf⟩
theorem dz.map {α β : Type} {a a' : Option α} (f : α → β) (h : dz a a') : dz (a.map f) (a'.map f) := by
 intro r hr;obtain ⟨x, hx, hf⟩ := Option.map_eq_some_iff.1 hr;exact Option.map_eq_some_iff.2 ⟨x, h x hx, hf⟩
theorem Eh {α : Type} {g : Nat → Option α} (h : ∀ k, dz (g k) (g (k + 1))) (k : Nat) : ∀ j, dz (g k) (g (k + j))
 | 0 => dz.refl _
 | j + 1 => (Eh h k j).trans (h (k + j))
theorem QB {α : Type} {g : Nat → Option α} (h : ∀ k, dz (g k) (g (k + 1))) {k k' : Nat} (hk : k ≤ k') {r : α} (hr : g k = some r) : g k' = some r := by
 have := Eh h k (k' - k) r hr;rwa [Nat.add_sub_cancel' hk] at this
def fJ {α : Type} (R : α → List Value → Prop) (size : Nat) (ps : List α) (cs : List Value) : Prop :=
 cs.length = ps.length * size ∧ ∀ j p, ps[j]? = some p → R p ((cs.drop (j * size)).take size)
theorem fJ.none {α : Type} (R : α → List Value → Prop) (size : Nat) : fJ R size [] [] := ⟨by simp, fun j p h => by simp at h⟩
theorem fJ.snoc {α : Type} {R : α → List Value → Prop} {size : Nat} {ps : List α} {cs c : List Value} {p : α} (h : fJ R size ps cs) (hp : R p c) (hc : c.length = size) : fJ R size (ps ++ [p]) (cs ++ c) := by
 refine ⟨by rw [List.length_append, h.1, hc, List.length_append, List.length_singleton, Nat.add_mul, Nat.one_mul], fun j q hq => ?_⟩;rcases Nat.lt_or_ge j ps.length with hj | hj
 ·rw [List.getElem?_append_left hj] at hq;have h1 : j * size + size ≤ cs.length := by rw [h.1, ← Nat.succ_mul]; exact Nat.mul_le_mul_right _ hj
  have h2 := h.2 j q hq;rw [List.drop_append_of_le_length (by omega), List.take_append_of_le_length (by rw [List.length_drop]; omega)];exact h2
 ·have hj' : j = ps.length := by
   have := (List.getElem?_eq_some_iff.1 hq).1;rw [List.length_append, List.length_singleton] at this;omega
  subst hj';have hq' : p = q := by simpa using hq
  subst hq';rw [← h.1, List.drop_left, ← hc, List.take_length];exact hp
theorem fJ.uk {α : Type} {R R' : α → List Value → Prop} {size : Nat} {ps : List α} {cs : List Value} (h : fJ R size ps cs) (hR : ∀ p c, R p c → R' p c) : fJ R' size ps cs := ⟨h.1, fun j p hj => hR _ _ (h.2 j p hj)⟩
def mg {α : Type} (R : α → List Value → Prop) (size : Nat) (w : World) (A : Option Addr) (n : Nat) (ps : List α) : Prop :=
 ps.length = n ∧ n ≤ 9223372036854775807 ∧ (0 < n → ∃ ad, A = some ad ∧ ∀ j p, ps[j]? = some p → ∃ c, c.length = size ∧ R p c ∧ ∀ i u, c[i]? = some u → w.cell? (ad.add (j * size + i)) = some u)
theorem mg.ahP {α : Type} {R : α → List Value → Prop} {size : Nat} {w : World} {A : Option Addr} {n : Nat} {ps : List α} (h : mg R size w A n ps) (d : α) (i : Int) (h0 : 0 ≤ i) (h1 : i < n) :
  ∃ ad c, A = some ad ∧ c.length = size ∧ R (ps.getD i.toNat d) c ∧ ∀ j u, c[j]? = some u → w.cell? (ad.add (i.toNat * size + j)) = some u := by
 obtain ⟨ad, e, hc⟩ := h.2.2 (by omega);have hl : i.toNat < ps.length := by have := h.1; omega
 obtain ⟨c, hs, hr, hcell⟩ := hc i.toNat _ (List.getElem?_eq_getElem hl);refine ⟨ad, c, e, hs, ?_, hcell⟩;rw [List.getD_eq_getElem?_getD, List.getElem?_eq_getElem hl];exact hr
theorem mg.uk {α : Type} {R R' : α → List Value → Prop} {size : Nat} {w w1 : World} {A : Option Addr} {n : Nat} {ps : List α} (h : mg R size w A n ps) (hb : Below w.heap.size w w1) (hR : ∀ p c, R p c → R' p c) : mg R' size w1 A n ps :=
 ⟨h.1, h.2.1, fun hn => by
  obtain ⟨ad, e, hc⟩ := h.2.2 hn;refine ⟨ad, e, fun j p hj => ?_⟩;obtain ⟨c, hs, hr, hcell⟩ := hc j p hj;exact ⟨c, hs, hR _ _ hr, fun i u hu => ah hb (hcell i u hu)⟩⟩
theorem G7 {α : Type} {R : α → List Value → Prop} {w : World} {base n size : Nat} {e : TypeId} {v : Value} {ps : List α} {cs : List Value} (h : w.ownsRow base e size v n cs) (hR : fJ R size ps cs) (hn : ps.length = n) :
  ∃ A c, v = .slice A n c ∧ mg R size w A n ps := by
 rcases Nat.eq_zero_or_pos n with h0 | h0
 ·rcases h.2 with ⟨rfl, rfl⟩ | ⟨g, cap, cur, rfl, _⟩
  ·exact ⟨none, 0, rfl, hn, by omega, fun hp => absurd hp (by omega)⟩
  ·exact ⟨_, cap, rfl, hn, by omega, fun hp => absurd hp (by omega)⟩
 ·obtain ⟨g, cap, rfl, _, _⟩ := h.form h0;have hm : n ≤ 9223372036854775807 := by
   rcases h.2 with ⟨_, h1⟩ | ⟨g', cap', cur, he, _, _, h1, h2, _⟩
   ·omega
   ·simp only [maxLen] at h2;omega
  refine ⟨_, cap, rfl, hn, hm, fun _ => ⟨_, rfl, fun j p hj => ⟨(cs.drop (j * size)).take size, ?_, hR.2 j p hj, fun i u hu => ?_⟩⟩⟩
  ·have hjl := (List.getElem?_eq_some_iff.1 hj).1;have h1 : j * size + size ≤ cs.length := by rw [hR.1, ← Nat.succ_mul]; exact Nat.mul_le_mul_right _ hjl
   rw [List.length_take, List.length_drop];omega
  ·refine h.cells (g := g) rfl _ u ?_;rw [List.getElem?_take] at hu;split at hu
   ·rw [List.getElem?_drop] at hu;exact hu
   ·cases hu
theorem fq (ad : Addr) (m j : Nat) (hj : 0 < j) : ad.add (m + j) = ⟨(ad.add m).block, (ad.add m).off + j, none⟩ := by
 unfold Addr.add;by_cases hm : m = 0
 ·subst hm;simp [Nat.ne_of_gt hj]
 ·simp [hm, Nat.add_assoc]
section
variable {P : Program} {ops : Array Oper} {rest : List Oper} {o : Oper} {a : Act} {Q : Exit → Act → World → Prop}
theorem rT {w0 W : World} (base : Nat) (hgd : o.guard = none) (s x : Operand) (t e : TypeId) (z : Value) (size bytes : Nat)
  (ho : o.op = .call { callee := .builtin .append, args := #[s, x], argTypes := #[t, t] })
  (ht : P.underlying t = some (.slice e)) (hinfo : (P.info? e).map (fun i => (i.zero, i.size, i.bytes)) = some (some z, size, bytes)) (hz : z.cells.size = size) (hs0 : 0 < size) (hb0 : 0 < bytes)
  (v : Value) (n : Nat) (xs ys : List Value) (hs : a.eval s = v) (hx : a.eval x = .slice (some ⟨W.heap.size, 0, none⟩) 1 1) (hys : ys.length = size) (h1 : ∀ u ∈ ys, u.oneCell' = true)
  (HO : W.ownsRow base e size v n xs) (HB : Below base w0 W) (hbase : base ≤ W.heap.size) (hl : (n + 1) * bytes ≤ 140737488355328)
  (h : ∀ v1 w1, w1.ownsRow base e size v1 (n + 1) (xs ++ ys) → Below base w0 w1 → W.grownBy w1 v.ownBlock → (v1.ownBlock = v.ownBlock ∨ ∃ b, v1.ownBlock = some b ∧ W.heap.size ≤ b) → wpList P ops Q rest (a.put o.dst v1) w1) :
  wpList P ops Q (o :: rest) a (W.alloc (.cells ys.toArray e)) := by
 obtain ⟨i0, hi, hzz⟩ := Option.map_eq_some_iff.1 hinfo;simp only [Prod.mk.injEq] at hzz;obtain ⟨hz0, hz1, hz2⟩ := hzz;have hlen : n + 1 ≤ 140737488355328 := Nat.le_trans (Nat.le_mul_of_pos_right _ hb0) hl;refine wpList_append_own_at (W.alloc (.cells ys.toArray e)) hgd s x t ho base e i0 z size bytes ht hi hz0 hz1 hz2 hz hs0 v n xs hs (HO.alloc _) ⟨W.heap.size, 0, none⟩ 1 1 ys hx (by rw [hys]; simp)
  (by simpa using World.news_of_block (cs := ys.toArray) (t := e) (fr := (0, 0)) (heap_alloc_new W (.cells ys.toArray e))) h1 (by simp only [maxLen]; omega) hl (by simp; omega) ?_
 intro v1 w1 hown hg _ hat;refine h v1 w1 hown ((HB.alloc hbase _).grown hg (by simp; omega) (mf HO)) (World.grownBy.trans (World.grownBy_alloc W _ _) hg) ?_;rcases hat with hat | hat
 ·exact .inl hat
 ·exact .inr ⟨_, hat, by simp⟩
end
theorem own_ne {w : World} {base : Nat} {e t : TypeId} {size n g : Nat} {v : Value} {xs : List Value} {cs : Array Value} (h : w.ownsRow base e size v n xs) (hg : w.heap[g]? = some (.cells cs t (0, 0))) (hne : e ≠ t) : some g ≠ v.ownBlock := by
 rcases h.2 with ⟨rfl, _⟩ | ⟨g', cap, cur, rfl, _, hh, _⟩
 ·simp [Value.ownBlock]
 ·intro he;have : g = g' := by simpa [Value.ownBlock] using he
  subst this;rw [hg] at hh;injection hh with hh
  injection hh with _ ht
  exact hne ht.symm
theorem gL {w : World} {g : Nat} {t : TypeId} {cs : Array Value} (h : w.heap[g]? = some (.cells cs t (0, 0))) (i : Nat) (u : Value) : (w.setCell ⟨g, i, none⟩ u).heap[g]? = some (.cells (cs.setIfInBounds i u) t (0, 0)) := by
 simp [World.setCell, Array.getElem?_modify, h]
theorem bD {w : World} {g : Nat} {t : TypeId} {cs : Array Value} (h : w.heap[g]? = some (.cells cs t (0, 0))) {p : Addr} (hp : g ≠ p.block) (u : Value) : (w.setCell p u).heap[g]? = some (.cells cs t (0, 0)) := (Below.heap_setCell w p u g hp).trans h
theorem bE {w : World} {g : Nat} {o : Obj} (h : w.heap[g]? = some o) : g < w.heap.size := (Array.getElem?_eq_some_iff.1 h).1
theorem ae {w : World} {g : Nat} {t : TypeId} {cs : Array Value} (h : w.heap[g]? = some (.cells cs t (0, 0))) (i : Nat) : w.cell? ⟨g, i, none⟩ = cs[i]? := cell_of_row w g i cs t (0, 0) h
theorem ai {w : World} {g : Nat} {t : TypeId} {cs : Array Value} (h : w.heap[g]? = some (.cells cs t (0, 0))) (i : Nat) : w.frozen? ⟨g, i, none⟩ = false := by simp [World.frozen?, h]
theorem bX {w w1 : World} {g : Nat} {o : Obj} {row : Option Nat} (h : w.heap[g]? = some o) (hg : w.grownBy w1 row) (hne : some g ≠ row) : w1.heap[g]? = some o := (hg.block g (bE h) hne).trans h
theorem Fx {w : World} {g g' : Nat} {t t' : TypeId} {cs cs' : Array Value} (h : w.heap[g]? = some (.cells cs t (0, 0))) (h' : w.heap[g']? = some (.cells cs' t' (0, 0))) (hne : t ≠ t') : g ≠ g' := by
 rintro rfl;rw [h] at h';injection h' with h'
 injection h' with _ ht
 exact hne ht
def iO (w w' : World) (g : Nat) (row : Option Nat) : Prop := w.heap.size ≤ w'.heap.size ∧ ∀ i, i < w.heap.size → i ≠ g → some i ≠ row → w'.heap[i]? = w.heap[i]?
theorem iO.refl (w : World) (g : Nat) (row : Option Nat) : iO w w g row := ⟨Nat.le_refl _, fun _ _ _ _ => rfl⟩
theorem iO.xP {w w1 : World} {row : Option Nat} (h : w.grownBy w1 row) (g : Nat) : iO w w1 g row := ⟨h.size, fun i hi _ hr => h.block i hi hr⟩
theorem iO.of_below {w w1 : World} (h : Below w.heap.size w w1) (g : Nat) (row : Option Nat) : iO w w1 g row := ⟨h.size, fun i hi _ _ => h.block i hi⟩
theorem iO.trans {w w1 w2 : World} {g : Nat} {row Zy : Option Nat} (h : iO w w1 g row) (k : iO w1 w2 g Zy) (hr : Zy = row ∨ ∃ b, Zy = some b ∧ w.heap.size ≤ b) : iO w w2 g row :=
 ⟨Nat.le_trans h.1 k.1, fun i hi hg hn => by
  refine (k.2 i (Nat.lt_of_lt_of_le hi h.1) hg ?_).trans (h.2 i hi hg hn);rcases hr with rfl | ⟨b, rfl, hb⟩
  ·exact hn
  ·intro e;injection e with e
   omega⟩
theorem iO.blk {w w1 : World} {g g' : Nat} {row : Option Nat} {o : Obj} (h : iO w w1 g row) (hb : w.heap[g']? = some o) (hg : g' ≠ g) (hr : some g' ≠ row) : w1.heap[g']? = some o := (h.2 g' (bE hb) hg hr).trans hb
theorem iO.own {w w1 : World} {g : Nat} {row : Option Nat} {base : Nat} {e : TypeId} {size n : Nat} {v : Value} {xs : List Value} (h : iO w w1 g row) (ho : w.ownsRow base e size v n xs) (hg : v.ownBlock ≠ some g) (hr : v.ownBlock = none ∨ v.ownBlock ≠ row) : w1.ownsRow base e size v n xs := by
 obtain ⟨h1, h2⟩ := ho;refine ⟨h1, ?_⟩;rcases h2 with h2 | ⟨b, cap, cur, rfl, hb, hh, r⟩
 ·exact .inl h2
 ·refine .inr ⟨b, cap, cur, rfl, hb, h.blk hh ?_ ?_, r⟩
  ·intro e;exact hg (by rw [← e]; rfl)
  ·rcases hr with hr | hr
   ·simp [Value.ownBlock] at hr
   ·exact hr
def Ev {α : Type} (g : Nat → Option α) (r : α) : Prop := ∃ K, ∀ k, K ≤ k → g k = some r
theorem Ev.of {α : Type} {g : Nat → Option α} {r : α} (hg : ∀ k, dz (g k) (g (k + 1))) {k : Nat} (h : g k = some r) : Ev g r := ⟨k, fun _ hk => QB hg hk h⟩
theorem Ev.now {α : Type} (r : α) : Ev (fun _ => some r) r := ⟨0, fun _ _ => rfl⟩
theorem Ev.rounds {α : Type} {g : Nat → Option α} {r : α} (h : Ev g r) : ∃ k, g k = some r := by
 obtain ⟨K, h⟩ := h;exact ⟨K, h K (Nat.le_refl _)⟩
theorem Ev.bind {α β : Type} {g : Nat → Option α} {f : Nat → α → Option β} {a : α} {r : β} (h : Ev g a) (k : Ev (fun n => f n a) r) : Ev (fun n => (g n).bind (f n)) r := by
 obtain ⟨K, h⟩ := h;obtain ⟨K', k⟩ := k;refine ⟨max K K', fun n hn => ?_⟩;have h1 := h n (by omega);have h2 := k n (by omega);simp only [h1, Option.bind_some];exact h2
theorem Ev.step {α : Type} {g f : Nat → Option α} {r : α} (h : ∀ k, g (k + 1) = f k) (k : Ev f r) : Ev g r := by
 obtain ⟨K, k⟩ := k;refine ⟨K + 1, fun n hn => ?_⟩;obtain ⟨m, rfl⟩ : ∃ m, n = m + 1 := ⟨n - 1, by omega⟩;rw [h];exact k m (by omega)
theorem Ev.congr {α : Type} {g f : Nat → Option α} {r : α} (h : ∀ k, g k = f k) (k : Ev f r) : Ev g r := by
 obtain ⟨K, k⟩ := k;exact ⟨K, fun n hn => (h n).trans (k n hn)⟩
section
variable {P : Program} {ops : Array Oper} {o : Oper} {a : Act} {Q : Exit → Act → World → Prop} {K : Act → World → Prop}
theorem zU {w0 W : World} (base : Nat) (hw : Region.wanted o (yielded ops a.tmps) = true) (s x : Operand) (t e : TypeId) (z : Value) (size bytes : Nat)
  (ho : o.op = .call { callee := .builtin .append, args := #[s, x], argTypes := #[t, t] })
  (ht : P.underlying t = some (.slice e)) (hinfo : (P.info? e).map (fun i => (i.zero, i.size, i.bytes)) = some (some z, size, bytes)) (hz : z.cells.size = size) (hs0 : 0 < size) (hb0 : 0 < bytes)
  (v : Value) (n : Nat) (xs ys : List Value) (hs : a.eval s = v) (hx : a.eval x = .slice (some ⟨W.heap.size, 0, none⟩) 1 1) (hys : ys.length = size) (h1 : ∀ u ∈ ys, u.oneCell' = true)
  (HO : W.ownsRow base e size v n xs) (HB : Below base w0 W) (hbase : base ≤ W.heap.size) (hl : (n + 1) * bytes ≤ 140737488355328)
  (h : ∀ v1 w1, w1.ownsRow base e size v1 (n + 1) (xs ++ ys) → Below base w0 w1 → W.grownBy w1 v.ownBlock → (v1.ownBlock = v.ownBlock ∨ ∃ b, v1.ownBlock = some b ∧ W.heap.size ≤ b) → K (a.put o.dst v1) w1) :
  if Region.wanted o (yielded ops a.tmps) = true then Oper.wp P o a (W.alloc (.cells ys.toArray e)) K Q else K (a.put o.dst undef) (W.alloc (.cells ys.toArray e)) := by
 obtain ⟨i0, hi, hzz⟩ := Option.map_eq_some_iff.1 hinfo;simp only [Prod.mk.injEq] at hzz;obtain ⟨hz0, hz1, hz2⟩ := hzz;have hlen : n + 1 ≤ 140737488355328 := Nat.le_trans (Nat.le_mul_of_pos_right _ hb0) hl;rw [if_pos hw];obtain ⟨v1, w1, hr, hown, hg, _, hat⟩ := run_append_own_at (P := P) (W.alloc (.cells ys.toArray e)) base t o.type e i0 z size bytes ht hi hz0 hz1 hz2 hz hs0 v n xs (HO.alloc _) ⟨W.heap.size, 0, none⟩ 1 1 ys (by rw [hys]; simp)
  (by simpa using World.news_of_block (cs := ys.toArray) (t := e) (fr := (0, 0)) (heap_alloc_new W (.cells ys.toArray e))) h1 (by simp only [maxLen]; omega) hl (by simp; omega)
 unfold Oper.wp execOp;simp only [ho, resolve, invoke, builtin, Sem.run_bind, Sem.run_pure, Result.andThen_ok, List.map_toArray, List.map_cons, List.map_nil, hs, hx, hr];refine h v1 w1 hown ((HB.alloc hbase _).grown hg (by simp; omega) (mf HO)) (World.grownBy.trans (World.grownBy_alloc W _ _) hg) ?_;rcases hat with hat | hat
 ·exact .inl hat
 ·exact .inr ⟨_, hat, by simp⟩
end
theorem Fy {w : World} {base base' : Nat} {e : TypeId} {size n : Nat} {v : Value} {xs : List Value} (h : w.ownsRow base e size v n xs) (hb : base' ≤ base) : w.ownsRow base' e size v n xs := by
 obtain ⟨h1, h2⟩ := h;refine ⟨h1, ?_⟩;rcases h2 with h2 | ⟨g, cap, cur, rfl, hg, r⟩
 ·exact .inl h2
 ·exact .inr ⟨g, cap, cur, rfl, Nat.le_trans hb hg, r⟩
section
variable {α : Type} {enc : α → Value} {d : α}
def encs (enc : α → Value) (xs : List α) : List Value := xs.map enc
def ach (d : α) (xs : List α) (i : Int) : α := xs.getD i.toNat d
theorem Ei (xs : List α) : (encs enc xs).length = xs.length := by simp [encs]
theorem aUy (xs : List α) (j : Nat) (h : j < xs.length) : (encs enc xs)[j]? = some (enc (xs.getD j d)) := by
 simp [encs, List.getElem?_eq_getElem h, List.getD_eq_getElem?_getD]
def jH (enc : α → Value) (d : α) (w : World) (A : Option Addr) (n : Nat) (xs : List α) : Prop :=
 xs.length = n ∧ n ≤ 9223372036854775807 ∧ (0 < n → ∃ ad, A = some ad ∧ ∀ j, j < n → w.cell? (ad.add j) = some (enc (xs.getD j d)))
theorem jH.at_ {w : World} {A : Option Addr} {n : Nat} {xs : List α} (h : jH enc d w A n xs) (i : Int) (h0 : 0 ≤ i) (h1 : i < n) : ∃ ad, A = some ad ∧ w.cell? (ad.add i.toNat) = some (enc (ach d xs i)) := by
 obtain ⟨ad, e, hc⟩ := h.2.2 (by omega);exact ⟨ad, e, hc _ (by omega)⟩
theorem jH.below {w w1 : World} {A : Option Addr} {n : Nat} {xs : List α} (h : jH enc d w A n xs) (hb : Below w.heap.size w w1) : jH enc d w1 A n xs :=
 ⟨h.1, h.2.1, fun hn => by
  obtain ⟨ad, e, hc⟩ := h.2.2 hn;exact ⟨ad, e, fun j hj => ah hb (hc j hj)⟩⟩
theorem jH.Eg {w : World} {A : Option Addr} {n : Nat} {xs : List α} (h : jH enc d w A n xs) (i : Nat) (hi : i ≤ n) : jH enc d w A i (xs.take i) := by
 refine ⟨by rw [List.length_take, h.1]; omega, by have := h.2.1; omega, fun hp => ?_⟩;obtain ⟨ad, e, hc⟩ := h.2.2 (by omega);refine ⟨ad, e, fun j hj => ?_⟩;rw [hc j (by omega)];simp [List.getD_eq_getElem?_getD, hj]
theorem aUk {W : World} {base g n cap : Nat} {e : TypeId} {xs : List α} (h : W.ownsRow base e 1 (.slice (some ⟨g, 0, none⟩) n cap) n (encs enc xs)) (i : Int) (h0 : 0 ≤ i) (h1 : i < n) :
  W.cell? ⟨g, i.toNat, none⟩ = some (enc (ach d xs i)) ∧ W.frozen? ⟨g, i.toNat, none⟩ = false := by
 have hl : xs.length = n := by have := h.1; simp [encs] at this; exact this
 constructor
 ·have hc := h.cells (g := g) rfl i.toNat _ (aUy (d := d) xs i.toNat (by omega));rwa [add_plain] at hc
 ·rcases h.2 with ⟨h', _⟩ | ⟨g', cap', cur, h', _, hh, _⟩
  ·cases h'
  ·have : g = g' := by injection h' with h'; injection h' with h'; injection h' with h'
   subst this;simp [World.frozen?, hh]
theorem I5 {W : World} {base g n cap : Nat} {e : TypeId} {xs : List α} (h : W.ownsRow base e 1 (.slice (some ⟨g, 0, none⟩) n cap) n (encs enc xs)) (i : Int) (x : α) :
  (W.setCell ⟨g, i.toNat, none⟩ (enc x)).ownsRow base e 1 (.slice (some ⟨g, 0, none⟩) n cap) n (encs enc (xs.set i.toNat x)) ∧ W.grownBy (W.setCell ⟨g, i.toNat, none⟩ (enc x)) (some g) := by
 have hs := h.stored i.toNat (enc x);have he : (encs enc xs).set i.toNat (enc x) = encs enc (xs.set i.toNat x) := by simp [encs, List.map_set]
 rwa [he] at hs
end
section
variable {α : Type} {P : Program} {ops : Array Oper} {rest : List Oper} {o : Oper} {a : Act} {Q : Exit → Act → World → Prop}
end
def aj2 (v v' : Value) : Prop := ∀ k, v.ownBlock = some k → v'.ownBlock ≠ some k
theorem au {w : World} {g : Nat} {o : Obj} (h : w.heap[g]? = some o) (o' : Obj) : (w.alloc o').heap[g]? = some o := (Below.heap_alloc w o' g (bE h)).trans h
theorem az {w : World} {g : Nat} {o : Obj} (h : w.heap[g]? = some o) : w.drew.heap[g]? = some o := h
theorem ax {w : World} {g : Nat} {o : Obj} (h : w.heap[g]? = some o) (n : Nat) : (w.drewN n).heap[g]? = some o := h
theorem aC {w w1 : World} {g : Nat} {o : Obj} (h : w.heap[g]? = some o) (hb : Below w.heap.size w w1) : w1.heap[g]? = some o := (hb.block g (bE h)).trans h
theorem U3 (w : World) (o : Obj) : (w.alloc o).heap[w.heap.size]? = some o := heap_alloc_new w o
section
variable {P : Program}
theorem jr {fn : Func} {p u : Tmp} {ty : TypeId} (h : fn.results = #[.cell p ty, .tmp u]) (tmps : Array Value) (w : World) (g : Nat) (t : TypeId) (cs : Array Value) (fr : Nat × Nat) (d : TypeDesc)
  (hp : tmps.getD p undef = .pointer (some ⟨g, 0, none⟩)) (hg : w.heap[g]? = some (.cells cs t fr))
  (hu : P.underlying ty = some d) (hd : (match d with | .struct _ | .array _ _ => true | _ => false) = true) (hi : (P.info? ty).map (·.size) = some cs.size) :
  (results fn tmps).run P w = .ok (.tuple #[.agg cs, tmps.getD u undef]) w := by
 have hp' : tmps[p]?.getD undef = .pointer (some ⟨g, 0, none⟩) := by simpa using hp
 simp [results, h, hp', asAddr, run_loadVar_row w g t ty cs fr d hg hu hd hi]
end
theorem Zz {w : World} {base n m c size : Nat} {e : TypeId} {A : Option Addr} {xs : List Value} (h : w.ownsRow base e size (.slice A m c) n xs) : m ≤ c := by
 rcases h.2 with ⟨he, _⟩ | ⟨g, cap, cur, he, _, _, hnc, _⟩
 ·injection he with _ h2 h3
  omega
 ·injection he with _ h2 h3
  omega
def aqj {α : Type} (R : α → List Value → Prop) (e : TypeId) (size : Nat) (w : World) (base : Nat) (v : Value) (ps : List α) : Prop :=
 ∃ inner, w.ownsRow base e size v ps.length inner ∧ fJ R size ps inner
section
variable {α : Type} {R R' : α → List Value → Prop} {e : TypeId} {size : Nat} {w w1 : World} {base : Nat} {v : Value} {ps : List α}
theorem aqj.none_ (R : α → List Value → Prop) (e : TypeId) (size : Nat) (w : World) (base : Nat) : aqj R e size w base (.slice none 0 0) [] := ⟨[], U2 _ _ _ _, fJ.none _ _⟩
theorem aqj.uk (h : aqj R e size w base v ps) (hR : ∀ p c, R p c → R' p c) : aqj R' e size w base v ps := by
 obtain ⟨inner, ho, hr⟩ := h;exact ⟨inner, ho, hr.uk hR⟩
theorem aqj.below (h : aqj R e size w base v ps) (hb : Below w.heap.size w w1) : aqj R e size w1 base v ps := by
 obtain ⟨inner, ho, hr⟩ := h;exact ⟨inner, I4 ho hb, hr⟩
theorem aqj.other (h : aqj R e size w base v ps) {row : Option Nat} (hg : w.grownBy w1 row) (hne : v.ownBlock = none ∨ v.ownBlock ≠ row) : aqj R e size w1 base v ps := by
 obtain ⟨inner, ho, hr⟩ := h;exact ⟨inner, Qz ho hg hne, hr⟩
theorem aqj.keep (h : aqj R e size w base v ps) {g : Nat} {t : TypeId} {cells : Array Value} (hb : w.heap[g]? = some (.cells cells t (0, 0))) (ht : e ≠ t) (hk : iO w w1 g none) : aqj R e size w1 base v ps := by
 obtain ⟨inner, ho, hr⟩ := h;exact ⟨inner, hk.own ho (Ne.symm (own_ne ho hb ht)) (by cases v.ownBlock <;> simp), hr⟩
theorem aqj.lower (h : aqj R e size w base v ps) {base' : Nat} (hb : base' ≤ base) : aqj R e size w base' v ps := by
 obtain ⟨inner, ho, hr⟩ := h;exact ⟨inner, Fy ho hb, hr⟩
theorem aqj.reads (h : aqj R e size w base v ps) : ∃ A c, v = .slice A ps.length c ∧ ps.length ≤ c ∧ mg R size w A ps.length ps := by
 obtain ⟨inner, ho, hr⟩ := h;obtain ⟨A, c, rfl, hrow⟩ := G7 ho hr rfl;exact ⟨A, c, rfl, Zz ho, hrow⟩
theorem aqj.R6 (h : aqj R e size w base v ps) {g : Nat} {t : TypeId} {cells : Array Value} (hb : w.heap[g]? = some (.cells cells t (0, 0))) (ht : e ≠ t) : some g ≠ v.ownBlock := by
 obtain ⟨inner, ho, hr⟩ := h;exact own_ne ho hb ht
end
section
variable {P : Program} {ops : Array Oper} {rest : List Oper} {o : Oper} {a : Act} {Q : Exit → Act → World → Prop} {α : Type} {R : α → List Value → Prop}
theorem aqj.append {w0 W : World} (base : Nat) (hgd : o.guard = none) (s x : Operand) (t e : TypeId) (z : Value) (size bytes : Nat)
  (ho : o.op = .call { callee := .builtin .append, args := #[s, x], argTypes := #[t, t] })
  (ht : P.underlying t = some (.slice e)) (hinfo : (P.info? e).map (fun i => (i.zero, i.size, i.bytes)) = some (some z, size, bytes)) (hz : z.cells.size = size) (hs0 : 0 < size) (hb0 : 0 < bytes)
  (v : Value) (ps : List α) (p : α) (cs : List Value) (hs : a.eval s = v) (hx : a.eval x = .slice (some ⟨W.heap.size, 0, none⟩) 1 1) (hp : R p cs) (hcs : cs.length = size) (h1 : ∀ u ∈ cs, u.oneCell' = true)
  (HO : aqj R e size W base v ps) (HB : Below base w0 W) (hbase : base ≤ W.heap.size) (hl : (ps.length + 1) * bytes ≤ 140737488355328)
  (h : ∀ v1 w1, aqj R e size w1 base v1 (ps ++ [p]) → Below base w0 w1 → W.grownBy w1 v.ownBlock → (v1.ownBlock = v.ownBlock ∨ ∃ b, v1.ownBlock = some b ∧ W.heap.size ≤ b) → wpList P ops Q rest (a.put o.dst v1) w1) :
  wpList P ops Q (o :: rest) a (W.alloc (.cells cs.toArray e)) := by
 obtain ⟨inner, hown, hr⟩ := HO;refine rT base hgd s x t e z size bytes ho ht hinfo hz hs0 hb0 v ps.length inner cs hs hx hcs h1 hown HB hbase hl ?_;intro v1 w1 hown1 hb1 hg1 Mm;exact h v1 w1 ⟨inner ++ cs, by rw [List.length_append, List.length_singleton]; exact hown1, hr.snoc hp hcs⟩ hb1 hg1 Mm
end
section
variable {P : Program} {ops : Array Oper} {o : Oper} {a : Act} {Q : Exit → Act → World → Prop} {K : Act → World → Prop} {α : Type} {R : α → List Value → Prop}
end
section
variable {α : Type} {P : Program}
end
section
variable {P : Program} {ops : Array Oper} {rest : List Oper} {o : Oper} {a : Act} {Q : Exit → Act → World → Prop}
end
structure Kd (α : Type) where
 sz : Nat
 E : List Nat
 K : World → α → List Value → Prop
 M : World → Nat → (Nat → Prop) → α → List Value → Prop
 jd : ∀ {w x cs}, K w x cs → cs.length = sz
 iW : ∀ {w x cs}, K w x cs → ∀ u ∈ cs, u.oneCell' = true
 gp : ∀ {w w1 : World} {x cs}, Below w.heap.size w w1 → K w x cs → K w1 x cs
 fD : ∀ {w base ok x cs}, M w base ok x cs → K w x cs
 dX : ∀ {w base ok ok' x cs}, (∀ k, ok k → ok' k) → M w base ok x cs → M w base ok' x cs
 fE : ∀ {w : World} {base ok x cs}, M w base ok x cs → M w base (fun k => ok k ∧ base ≤ k ∧ k < w.heap.size ∧ ∃ q, q ∈ E ∧ ∃ cells, w.heap[k]? = some (.cells cells q (0, 0))) x cs
 fZ : ∀ {w w1 : World} {base ok x cs}, (∀ k, ok k → w1.heap[k]? = w.heap[k]?) → M w base ok x cs → M w1 base ok x cs
 gq : ∀ {w base base' ok x cs}, base' ≤ base → M w base ok x cs → M w base' ok x cs
theorem R7 {w w1 : World} {base : Nat} {e : TypeId} {size n : Nat} {v : Value} {xs : List Value} (h : w.ownsRow base e size v n xs) (hm : ∀ k, v.ownBlock = some k → w1.heap[k]? = w.heap[k]?) : w1.ownsRow base e size v n xs := by
 obtain ⟨h1, h2⟩ := h;refine ⟨h1, ?_⟩;rcases h2 with h2 | ⟨g, cap, cur, rfl, hg, hh, r⟩
 ·exact .inl h2
 ·exact .inr ⟨g, cap, cur, rfl, hg, (hm g (by simp [Value.ownBlock])).trans hh, r⟩
theorem uA {w : World} {base : Nat} {e : TypeId} {size n : Nat} {v : Value} {xs : List Value} (h : w.ownsRow base e size v n xs) (k : Nat) (hk : v.ownBlock = some k) : ∃ cells, w.heap[k]? = some (.cells cells e (0, 0)) := by
 rcases h.2 with ⟨rfl, _⟩ | ⟨g, cap, cur, rfl, hg, hh, r⟩
 ·simp [Value.ownBlock] at hk
 ·have : g = k := by simpa [Value.ownBlock] using hk
  subst this;exact ⟨cur, hh⟩
namespace Kd
def C {α : Type} (d : Kd α) (w : World) (A : Option Addr) (n : Nat) (xs : List α) : Prop := mg (d.K w) d.sz w A n xs
def R {α : Type} (d : Kd α) (e : Nat) (w : World) (base : Nat) (ok : Nat → Prop) (v : Value) (xs : List α) : Prop :=
 (∀ k, v.ownBlock = some k → ok k) ∧ aqj (d.M w base (fun k => ok k ∧ some k ≠ v.ownBlock)) e d.sz w base v xs
section
variable {α : Type} {d : Kd α} {e : Nat} {w w1 : World} {base : Nat} {ok ok' : Nat → Prop} {v : Value} {xs : List α}
theorem bF {A : Option Addr} {n : Nat} (h : d.C w A n xs) (hb : Below w.heap.size w w1) : d.C w1 A n xs := mg.uk h hb (fun _ _ hp => d.gp hb hp)
theorem qf (d : Kd α) (e : Nat) (w : World) (base : Nat) (ok : Nat → Prop) : d.R e w base ok (.slice none 0 0) [] := ⟨fun k hk => by simp [Value.ownBlock] at hk, aqj.none_ _ _ _ _ _⟩
theorem bB (h : d.R e w base ok v xs) (hok : ∀ k, ok k → ok' k) : d.R e w base ok' v xs := ⟨fun k hk => hok k (h.1 k hk), h.2.uk (fun _ _ hp => d.dX (fun k hk => ⟨hok k hk.1, hk.2⟩) hp)⟩
theorem jI (h : d.R e w base ok v xs) : d.R e w base (fun k => ok k ∧ base ≤ k ∧ k < w.heap.size ∧ ∃ q, q ∈ e :: d.E ∧ ∃ cells, w.heap[k]? = some (.cells cells q (0, 0))) v xs := by
 obtain ⟨h0, inner, ho, hr⟩ := h;refine ⟨fun k hk => ?_, inner, ho, hr.uk (fun _ _ hp => d.dX (fun k hk => ?_) (d.fE hp))⟩
 ·obtain ⟨cells, hc⟩ := uA ho k hk;exact ⟨h0 k hk, mf ho k hk, R5 ho k hk, e, List.mem_cons_self, cells, hc⟩
 ·obtain ⟨⟨h1, h2⟩, h3, h4, q, hq, hc⟩ := hk;exact ⟨⟨h1, h3, h4, q, List.mem_cons_of_mem _ hq, hc⟩, h2⟩
theorem xQ (h : d.R e w base ok v xs) (hm : ∀ k, ok k → w1.heap[k]? = w.heap[k]?) : d.R e w1 base ok v xs := by
 obtain ⟨h0, inner, ho, hr⟩ := h;exact ⟨h0, inner, R7 ho (fun k hk => hm k (h0 k hk)), hr.uk (fun _ _ hp => d.fZ (fun k hk => hm k hk.1) hp)⟩
theorem iL {base' : Nat} (h : d.R e w base ok v xs) (hb : base' ≤ base) : d.R e w base' ok v xs := by
 obtain ⟨h0, inner, ho, hr⟩ := h;exact ⟨h0, inner, Fy ho hb, hr.uk (fun _ _ hp => d.gq hb hp)⟩
theorem De (h : d.R e w base ok v xs) (hm : ∀ k, ok k → k < w.heap.size → w1.heap[k]? = w.heap[k]?) : d.R e w1 base ok v xs :=
 bB (xQ (jI h) (fun k hk => hm k hk.1 hk.2.2.1)) (fun _ hk => hk.1)
theorem Mo {x : α} {cs : List Value} (h : d.M w base ok x cs) (hm : ∀ k, ok k → k < w.heap.size → w1.heap[k]? = w.heap[k]?) : d.M w1 base ok x cs :=
 d.dX (fun _ hk => hk.1) (d.fZ (fun k hk => hm k hk.1 hk.2.2.1) (d.fE h))
theorem bu (h : d.R e w base ok v xs) (hb : Below w.heap.size w w1) : d.R e w1 base ok v xs := De h (fun k _ hk => hb.block k hk)
theorem Oj {x : α} {cs : List Value} (h : d.M w base ok x cs) (hb : Below w.heap.size w w1) : d.M w1 base ok x cs := Mo h (fun k _ hk => hb.block k hk)
theorem vF (h : d.R e w base ok v xs) {row : Option Nat} (hg : w.grownBy w1 row) (hok : ∀ k, ok k → some k ≠ row) : d.R e w1 base ok v xs := De h (fun k ho hk => hg.block k hk (hok k ho))
theorem jS (h : d.R e w base ok v xs) {p : Addr} (hok : ∀ k, ok k → k ≠ p.block) (u : Value) : d.R e (w.setCell p u) base ok v xs := De h (fun k ho _ => Below.heap_setCell w p u k (hok k ho))
theorem zV (h : d.R e w base ok v xs) {g t : Nat} {cells : Array Value} (hb : w.heap[g]? = some (.cells cells t (0, 0))) (ht : ∀ q, q ∈ e :: d.E → q ≠ t) : d.R e w base (fun k => ok k ∧ k ≠ g) v xs :=
 bB (jI h) (fun k hk => ⟨hk.1, by
  obtain ⟨_, _, _, q, hq, cells', hc⟩ := hk;rintro rfl;rw [hc] at hb;injection hb with hb
  injection hb with _ hb
  exact ht q hq hb⟩)
theorem Ej (h : d.R e w base ok v xs) {g t : Nat} {cells : Array Value} (hb : w.heap[g]? = some (.cells cells t (0, 0))) (ht : ∀ q, q ∈ e :: d.E → q ≠ t) (j : Nat) (u : Value) : d.R e (w.setCell ⟨g, j, none⟩ u) base ok v xs :=
 bB (jS (p := ⟨g, j, none⟩) (zV h hb ht) (fun _ hk => hk.2) u) (fun _ hk => hk.1)
theorem oK (h : d.R e w base ok v xs) : ∃ A c, v = .slice A xs.length c ∧ xs.length ≤ c ∧ d.C w A xs.length xs := by
 obtain ⟨A, c, he, hl, hr⟩ := aqj.reads h.2;exact ⟨A, c, he, hl, hr.uk (Below.refl _ _) (fun _ _ hp => d.fD hp)⟩
theorem fQ (h : d.R e w base ok v xs) : ∃ A c, v = .slice A xs.length c := by
 obtain ⟨A, c, he, _⟩ := oK h;exact ⟨A, c, he⟩
theorem xR (h : d.R e w base ok v xs) : ∃ inner, w.ownsRow base e d.sz v xs.length inner := by
 obtain ⟨_, inner, ho, _⟩ := h;exact ⟨inner, ho⟩
theorem aqP (h : d.R e w base ok v xs) {g t : Nat} {cells : Array Value} (hb : w.heap[g]? = some (.cells cells t (0, 0))) (ht : e ≠ t) : some g ≠ v.ownBlock := aqj.R6 h.2 hb ht
end
def scalar {α : Type} (enc : α → Value) (h1 : ∀ x, (enc x).oneCell' = true) : Kd α where
 sz := 1
 E := []
 K := fun _ x cs => cs = [enc x]
 M := fun _ _ _ x cs => cs = [enc x]
 jd := fun h => by rw [h]; rfl
 iW := fun h u hu => by
  rw [h] at hu;rw [List.mem_singleton.1 hu];exact h1 _
 gp := fun _ h => h
 fD := fun h => h
 dX := fun _ h => h
 fE := fun h => h
 fZ := fun _ h => h
 gq := fun _ h => h
def int (k : IntKind) : Kd Int := scalar (Value.int k) (fun _ => rfl)
def bool : Kd Bool := scalar Value.bool (fun _ => rfl)
def string : Kd ByteArray := scalar Value.string (fun _ => rfl)
def slice {α : Type} (e : Nat) (d : Kd α) : Kd (List α) where
 sz := 1
 E := e :: d.E
 K := fun w xs cs => ∃ A c, cs = [.slice A xs.length c] ∧ xs.length ≤ c ∧ d.C w A xs.length xs
 M := fun w base ok xs cs => ∃ v, cs = [v] ∧ d.R e w base ok v xs
 jd := by
  rintro w x cs ⟨A, c, rfl, _⟩;rfl
 iW := by
  rintro w x cs ⟨A, c, rfl, _⟩ u hu;rw [List.mem_singleton.1 hu];rfl
 gp := by
  rintro w w1 x cs hb ⟨A, c, rfl, hl, hr⟩;exact ⟨A, c, rfl, hl, bF hr hb⟩
 fD := by
  rintro w base ok x cs ⟨v, rfl, h⟩;obtain ⟨A, c, rfl, hl, hr⟩ := oK h;exact ⟨A, c, rfl, hl, hr⟩
 dX := by
  rintro w base ok ok' x cs hok ⟨v, rfl, h⟩;exact ⟨v, rfl, bB h hok⟩
 fE := by
  rintro w base ok x cs ⟨v, rfl, h⟩;exact ⟨v, rfl, jI h⟩
 fZ := by
  rintro w w1 base ok x cs hm ⟨v, rfl, h⟩;exact ⟨v, rfl, xQ h hm⟩
 gq := by
  rintro w base base' ok x cs hb ⟨v, rfl, h⟩;exact ⟨v, rfl, iL h hb⟩
def pair {α β : Type} (a : Kd α) (b : Kd β) : Kd (α × β) where
 sz := a.sz + b.sz
 E := a.E ++ b.E
 K := fun w x cs => ∃ c0 c1, cs = c0 ++ c1 ∧ a.K w x.1 c0 ∧ b.K w x.2 c1
 M := fun w base ok x cs => ∃ c0 c1, cs = c0 ++ c1 ∧ a.M w base ok x.1 c0 ∧ b.M w base ok x.2 c1
 jd := by
  rintro w x cs ⟨c0, c1, rfl, h0, h1⟩;rw [List.length_append, a.jd h0, b.jd h1]
 iW := by
  rintro w x cs ⟨c0, c1, rfl, h0, h1⟩ u hu;rcases List.mem_append.1 hu with hu | hu
  ·exact a.iW h0 u hu
  ·exact b.iW h1 u hu
 gp := by
  rintro w w1 x cs hb ⟨c0, c1, rfl, h0, h1⟩;exact ⟨c0, c1, rfl, a.gp hb h0, b.gp hb h1⟩
 fD := by
  rintro w base ok x cs ⟨c0, c1, rfl, h0, h1⟩;exact ⟨c0, c1, rfl, a.fD h0, b.fD h1⟩
 dX := by
  rintro w base ok ok' x cs hok ⟨c0, c1, rfl, h0, h1⟩;exact ⟨c0, c1, rfl, a.dX hok h0, b.dX hok h1⟩
 fE := by
  rintro w base ok x cs ⟨c0, c1, rfl, h0, h1⟩;refine ⟨c0, c1, rfl, a.dX ?_ (a.fE h0), b.dX ?_ (b.fE h1)⟩
  ·rintro k ⟨h2, h3, h4, q, hq, hc⟩;exact ⟨h2, h3, h4, q, List.mem_append_left _ hq, hc⟩
  ·rintro k ⟨h2, h3, h4, q, hq, hc⟩;exact ⟨h2, h3, h4, q, List.mem_append_right _ hq, hc⟩
 fZ := by
  rintro w w1 base ok x cs hm ⟨c0, c1, rfl, h0, h1⟩;exact ⟨c0, c1, rfl, a.fZ hm h0, b.fZ hm h1⟩
 gq := by
  rintro w base base' ok x cs hb ⟨c0, c1, rfl, h0, h1⟩;exact ⟨c0, c1, rfl, a.gq hb h0, b.gq hb h1⟩
def RN {α β : Type} (d : Kd α) (f : β → α) : Kd β where
 sz := d.sz
 E := d.E
 K := fun w x cs => d.K w (f x) cs
 M := fun w base ok x cs => d.M w base ok (f x) cs
 jd := d.jd
 iW := d.iW
 gp := d.gp
 fD := d.fD
 dX := d.dX
 fE := d.fE
 fZ := d.fZ
 gq := d.gq
def bot {α : Type} (sz : Nat) (E : List Nat) : Kd α where
 sz := sz
 E := E
 K := fun _ _ _ => False
 M := fun _ _ _ _ _ => False
 jd := fun h => h.elim
 iW := fun h => h.elim
 gp := fun _ h => h
 fD := fun h => h
 dX := fun _ h => h
 fE := fun h => h
 fZ := fun _ h => h
 gq := fun _ h => h
def upto {α : Type} (F : Kd α → Kd α) (sz : Nat) (E : List Nat) : Nat → Kd α
 | 0 => bot sz E
 | n + 1 => F (upto F sz E n)
def fix {α : Type} (F : Kd α → Kd α) (sz : Nat) (E : List Nat) (hs : ∀ n, (upto F sz E n).sz = sz) (hE : ∀ n q, q ∈ (upto F sz E n).E → q ∈ E) : Kd α where
 sz := sz
 E := E
 K := fun w x cs => ∃ n, (upto F sz E n).K w x cs
 M := fun w base ok x cs => ∃ n, (upto F sz E n).M w base ok x cs
 jd := by
  rintro w x cs ⟨n, h⟩;rw [(upto F sz E n).jd h, hs n]
 iW := by
  rintro w x cs ⟨n, h⟩;exact (upto F sz E n).iW h
 gp := by
  rintro w w1 x cs hb ⟨n, h⟩;exact ⟨n, (upto F sz E n).gp hb h⟩
 fD := by
  rintro w base ok x cs ⟨n, h⟩;exact ⟨n, (upto F sz E n).fD h⟩
 dX := by
  rintro w base ok ok' x cs hok ⟨n, h⟩;exact ⟨n, (upto F sz E n).dX hok h⟩
 fE := by
  rintro w base ok x cs ⟨n, h⟩;refine ⟨n, (upto F sz E n).dX ?_ ((upto F sz E n).fE h)⟩;rintro k ⟨h2, h3, h4, q, hq, hc⟩;exact ⟨h2, h3, h4, q, hE n q hq, hc⟩
 fZ := by
  rintro w w1 base ok x cs hm ⟨n, h⟩;exact ⟨n, (upto F sz E n).fZ hm h⟩
 gq := by
  rintro w base base' ok x cs hb ⟨n, h⟩;exact ⟨n, (upto F sz E n).gq hb h⟩
theorem rU {α : Type} {d : Kd α} {w : World} {A : Option Addr} {n : Nat} {xs : List α} (h : d.C w A n xs) (z : α) (i : Int) (h0 : 0 ≤ i) (h1 : i < n) :
  ∃ ad c, A = some ad ∧ c.length = d.sz ∧ d.K w (xs.getD i.toNat z) c ∧ ∀ j u, c[j]? = some u → w.cell? (ad.add (i.toNat * d.sz + j)) = some u := mg.ahP h z i h0 h1
theorem Fz {α : Type} {d : Kd α} {e base : Nat} {ok lV : Nat → Prop} {W w1 : World} {v v1 : Value} {xs : List α} {p : α} {inner cs : List Value} (h0 : ∀ k, v.ownBlock = some k → ok k) (hr : fJ (d.M W base (fun k => ok k ∧ some k ≠ v.ownBlock)) d.sz xs inner) (hp : d.M W base lV p cs) (xJ : ∀ k, lV k → ok k ∧ some k ≠ v.ownBlock) (hfresh : ∀ k, W.heap.size ≤ k → ok k)
  (hown : w1.ownsRow base e d.sz v1 (xs.length + 1) (inner ++ cs)) (hg : W.grownBy w1 v.ownBlock) (hat : v1.ownBlock = v.ownBlock ∨ ∃ b, v1.ownBlock = some b ∧ W.heap.size ≤ b) : d.R e w1 base ok v1 (xs ++ [p]) := by
 have hne : ∀ k, some k ≠ v.ownBlock → k < W.heap.size → some k ≠ v1.ownBlock := by
  intro k hk hlt;rcases hat with hat | ⟨b, hb, hle⟩
  ·rw [hat]; exact hk
  ·rw [hb];intro he;injection he with he
   omega
 have step : ∀ {q : α} {c : List Value} {o : Nat → Prop}, d.M W base o q c → (∀ k, o k → ok k ∧ some k ≠ v.ownBlock) → d.M w1 base (fun k => ok k ∧ some k ≠ v1.ownBlock) q c := by
  intro q c o hq ho;have h1 := d.fZ (w1 := w1) (fun k hk => hg.block k hk.2.2.1 (ho k hk.1).2) (d.fE hq);exact d.dX (fun k hk => ⟨(ho k hk.1).1, hne k (ho k hk.1).2 hk.2.2.1⟩) h1
 refine ⟨fun k hk => ?_, inner ++ cs, by rw [List.length_append, List.length_singleton]; exact hown, ?_⟩
 ·rcases hat with hat | ⟨b, hb, hle⟩
  ·exact h0 k (hat ▸ hk)
  ·rw [hb] at hk;injection hk with hk
   exact hfresh k (by omega)
 ·exact (hr.uk (fun _ _ hq => step hq (fun _ hk => hk))).snoc (step hp xJ) (d.jd (d.fD hp))
section
variable {P : Program} {ops : Array Oper} {rest : List Oper} {o : Oper} {a : Act} {Q : Exit → Act → World → Prop} {α : Type}
theorem KI (d : Kd α) {w0 W : World} (base : Nat) (hgd : o.guard = none) (s x : Operand) (t e : TypeId) (z : Value) (bytes : Nat)
  (ho : o.op = .call { callee := .builtin .append, args := #[s, x], argTypes := #[t, t] })
  (ht : P.underlying t = some (.slice e)) (hinfo : (P.info? e).map (fun i => (i.zero, i.size, i.bytes)) = some (some z, d.sz, bytes)) (hz : z.cells.size = d.sz) (hs0 : 0 < d.sz) (hb0 : 0 < bytes)
  (v : Value) (xs : List α) (p : α) (cs : List Value) (ok lV : Nat → Prop) (hs : a.eval s = v) (hx : a.eval x = .slice (some ⟨W.heap.size, 0, none⟩) 1 1) (hp : d.M W base lV p cs) (xJ : ∀ k, lV k → ok k ∧ some k ≠ v.ownBlock) (hfresh : ∀ k, W.heap.size ≤ k → ok k)
  (HO : d.R e W base ok v xs) (HB : Below base w0 W) (hbase : base ≤ W.heap.size) (hl : (xs.length + 1) * bytes ≤ 140737488355328)
  (h : ∀ v1 w1, d.R e w1 base ok v1 (xs ++ [p]) → Below base w0 w1 → W.grownBy w1 v.ownBlock → (v1.ownBlock = v.ownBlock ∨ ∃ b, v1.ownBlock = some b ∧ W.heap.size ≤ b) → wpList P ops Q rest (a.put o.dst v1) w1) :
  wpList P ops Q (o :: rest) a (W.alloc (.cells cs.toArray e)) := by
 obtain ⟨h0, inner, hown, hr⟩ := HO;refine rT base hgd s x t e z d.sz bytes ho ht hinfo hz hs0 hb0 v xs.length inner cs hs hx (d.jd (d.fD hp)) (d.iW (d.fD hp)) hown HB hbase hl ?_;intro v1 w1 hown1 hb1 hg1 Mm;exact h v1 w1 (Fz h0 hr hp xJ hfresh hown1 hg1 Mm) hb1 hg1 Mm
end
section
variable {P : Program} {ops : Array Oper} {o : Oper} {a : Act} {Q : Exit → Act → World → Prop} {Kc : Act → World → Prop} {α : Type}
theorem oL (d : Kd α) {w0 W : World} (base : Nat) (hw : Region.wanted o (yielded ops a.tmps) = true) (s x : Operand) (t e : TypeId) (z : Value) (bytes : Nat)
  (ho : o.op = .call { callee := .builtin .append, args := #[s, x], argTypes := #[t, t] })
  (ht : P.underlying t = some (.slice e)) (hinfo : (P.info? e).map (fun i => (i.zero, i.size, i.bytes)) = some (some z, d.sz, bytes)) (hz : z.cells.size = d.sz) (hs0 : 0 < d.sz) (hb0 : 0 < bytes)
  (v : Value) (xs : List α) (p : α) (cs : List Value) (ok lV : Nat → Prop) (hs : a.eval s = v) (hx : a.eval x = .slice (some ⟨W.heap.size, 0, none⟩) 1 1) (hp : d.M W base lV p cs) (xJ : ∀ k, lV k → ok k ∧ some k ≠ v.ownBlock) (hfresh : ∀ k, W.heap.size ≤ k → ok k)
  (HO : d.R e W base ok v xs) (HB : Below base w0 W) (hbase : base ≤ W.heap.size) (hl : (xs.length + 1) * bytes ≤ 140737488355328)
  (h : ∀ v1 w1, d.R e w1 base ok v1 (xs ++ [p]) → Below base w0 w1 → W.grownBy w1 v.ownBlock → (v1.ownBlock = v.ownBlock ∨ ∃ b, v1.ownBlock = some b ∧ W.heap.size ≤ b) → Kc (a.put o.dst v1) w1) :
  if Region.wanted o (yielded ops a.tmps) = true then Oper.wp P o a (W.alloc (.cells cs.toArray e)) Kc Q else Kc (a.put o.dst undef) (W.alloc (.cells cs.toArray e)) := by
 obtain ⟨h0, inner, hown, hr⟩ := HO;refine zU base hw s x t e z d.sz bytes ho ht hinfo hz hs0 hb0 v xs.length inner cs hs hx (d.jd (d.fD hp)) (d.iW (d.fD hp)) hown HB hbase hl ?_;intro v1 w1 hown1 hb1 hg1 Mm;exact h v1 w1 (Fz h0 hr hp xJ hfresh hown1 hg1 Mm) hb1 hg1 Mm
end
theorem KJ {α : Type} {enc : α → Value} (xs : List α) : fJ (fun (x : α) (cs : List Value) => cs = [enc x]) 1 xs (encs enc xs) := by
 refine ⟨by simp [encs], fun j p hj => ?_⟩;obtain ⟨hl, hp⟩ := List.getElem?_eq_some_iff.1 hj;have hl' : j < (encs enc xs).length := by rw [Ei]; exact hl
 rw [Nat.mul_one, List.drop_eq_getElem_cons hl'];simp [encs, hp]
theorem R8 {α : Type} {enc : α → Value} {h1 : ∀ x, (enc x).oneCell' = true} {e : Nat} {w : World} {base : Nat} {ok : Nat → Prop} {v : Value} {xs : List α} (ho : w.ownsRow base e 1 v xs.length (encs enc xs)) (hok : ∀ k, v.ownBlock = some k → ok k) : (scalar enc h1).R e w base ok v xs := ⟨hok, encs enc xs, ho, KJ xs⟩
theorem R9 {α : Type} {enc : α → Value} {h1 : ∀ x, (enc x).oneCell' = true} {e : Nat} {w : World} {base : Nat} {ok : Nat → Prop} {v : Value} {xs : List α} (h : (scalar enc h1).R e w base ok v xs) : w.ownsRow base e 1 v xs.length (encs enc xs) := by
 obtain ⟨_, inner, ho, hr⟩ := h;have : inner = encs enc xs := by
  apply List.ext_getElem?
  intro j;rcases Nat.lt_or_ge j xs.length with hj | hj
  ·have h2 := hr.2 j _ (List.getElem?_eq_getElem hj);have hl : j < inner.length := by have := hr.1; simp [scalar] at this; omega
   have h3 : (inner.drop (j * 1)).take 1 = [enc xs[j]] := h2;rw [Nat.mul_one, List.drop_eq_getElem_cons hl] at h3;have h4 : inner[j] = enc xs[j] := by
    have h5 := congrArg List.head? h3;rw [List.take_succ_cons] at h5;exact Option.some.inj h5
   rw [List.getElem?_eq_getElem hl, h4];simp [encs, List.getElem?_eq_getElem hj]
  ·have h3 : inner.length = xs.length := by have := hr.1; simp [scalar] at this; omega
   rw [List.getElem?_eq_none (by omega), List.getElem?_eq_none (by rw [Ei]; omega)]
 rw [← this];exact ho
theorem Mq {α : Type} {enc : α → Value} {d : α} {h1 : ∀ x, (enc x).oneCell' = true} {w : World} {A : Option Addr} {n : Nat} {xs : List α} (h : (scalar enc h1).C w A n xs) : jH enc d w A n xs := by
 refine ⟨h.1, h.2.1, fun hn => ?_⟩;obtain ⟨ad, e, hc⟩ := h.2.2 hn;refine ⟨ad, e, fun j hj => ?_⟩;have hl : j < xs.length := by have := h.1; omega
 obtain ⟨c, _, hK, hcell⟩ := hc j _ (List.getElem?_eq_getElem hl);have hK' : c = [enc xs[j]] := hK;subst hK';have := hcell 0 _ rfl;simpa [scalar, List.getD_eq_getElem?_getD, List.getElem?_eq_getElem hl] using this
end Kd
namespace Kd
structure vG {α β : Type} (F : Kd α → Kd β) : Prop where
 sz : ∀ d d' : Kd α, d.sz = d'.sz → (F d).sz = (F d').sz
 K : ∀ d d' : Kd α, d.sz = d'.sz → (∀ w x cs, d.K w x cs → d'.K w x cs) → ∀ w x cs, (F d).K w x cs → (F d').K w x cs
 M : ∀ d d' : Kd α, d.sz = d'.sz → (∀ w base ok x cs, d.M w base ok x cs → d'.M w base ok x cs) → ∀ w base ok x cs, (F d).M w base ok x cs → (F d').M w base ok x cs
theorem FC {α β : Type} (k : Kd β) : vG (fun _ : Kd α => k) := ⟨fun _ _ _ => rfl, fun _ _ _ _ _ _ _ h => h, fun _ _ _ _ _ _ _ _ _ h => h⟩
theorem Ol {α : Type} : vG (fun d : Kd α => d) := ⟨fun _ _ h => h, fun _ _ _ h => h, fun _ _ _ h => h⟩
theorem Sa {α : Type} {d d' : Kd α} (hs : d.sz = d'.sz) (h : ∀ w x cs, d.K w x cs → d'.K w x cs) {w : World} {A : Option Addr} {n : Nat} {xs : List α} (hc : d.C w A n xs) : d'.C w A n xs := by
 unfold C at hc ⊢;rw [← hs];exact hc.uk (Below.refl _ _) (fun _ _ hp => h _ _ _ hp)
theorem Sb {α : Type} {d d' : Kd α} (hs : d.sz = d'.sz) (h : ∀ w base ok x cs, d.M w base ok x cs → d'.M w base ok x cs) {e : Nat} {w : World} {base : Nat} {ok : Nat → Prop} {v : Value} {xs : List α} (hr : d.R e w base ok v xs) : d'.R e w base ok v xs := by
 unfold R at hr ⊢;rw [← hs];exact ⟨hr.1, hr.2.uk (fun _ _ hp => h _ _ _ _ _ hp)⟩
theorem FD {α β : Type} (e : Nat) {G : Kd α → Kd β} (hG : vG G) : vG (fun d => slice e (G d)) := by
 refine ⟨fun _ _ _ => rfl, ?_, ?_⟩
 ·rintro d d' hs h w x cs ⟨A, c, rfl, hl, hr⟩;exact ⟨A, c, rfl, hl, Sa (hG.sz d d' hs) (hG.K d d' hs h) hr⟩
 ·rintro d d' hs h w base ok x cs ⟨v, rfl, hr⟩;exact ⟨v, rfl, Sb (hG.sz d d' hs) (hG.M d d' hs h) hr⟩
theorem Hz {α β γ : Type} {G : Kd α → Kd β} {H : Kd α → Kd γ} (hG : vG G) (hH : vG H) : vG (fun d => pair (G d) (H d)) := by
 refine ⟨fun d d' hs => ?_, ?_, ?_⟩
 ·show (G d).sz + (H d).sz = (G d').sz + (H d').sz;rw [hG.sz d d' hs, hH.sz d d' hs]
 ·rintro d d' hs h w x cs ⟨c0, c1, rfl, h0, h1⟩;exact ⟨c0, c1, rfl, hG.K d d' hs h _ _ _ h0, hH.K d d' hs h _ _ _ h1⟩
 ·rintro d d' hs h w base ok x cs ⟨c0, c1, rfl, h0, h1⟩;exact ⟨c0, c1, rfl, hG.M d d' hs h _ _ _ _ _ h0, hH.M d d' hs h _ _ _ _ _ h1⟩
theorem KL {α β γ : Type} {G : Kd α → Kd β} (f : γ → β) (hG : vG G) : vG (fun d => RN (G d) f) :=
 ⟨hG.sz, fun d d' hs h w x cs => hG.K d d' hs h w (f x) cs, fun d d' hs h w base ok x cs => hG.M d d' hs h w base ok (f x) cs⟩
def Sub {α β : Type} (F : Kd α → Kd β) (E : List Nat) : Prop := ∀ d : Kd α, (∀ q, q ∈ d.E → q ∈ E) → ∀ q, q ∈ (F d).E → q ∈ E
theorem sub_const {α β : Type} {E : List Nat} (k : Kd β) (h : ∀ q, q ∈ k.E → q ∈ E) : Sub (fun _ : Kd α => k) E := fun _ _ => h
theorem Sc {α : Type} {E : List Nat} : Sub (fun d : Kd α => d) E := fun _ h => h
theorem ajW {α β : Type} {E : List Nat} (e : Nat) {G : Kd α → Kd β} (he : e ∈ E) (hG : Sub G E) : Sub (fun d => slice e (G d)) E := fun d h q hq => by
 rcases List.mem_cons.1 hq with rfl | hq
 ·exact he
 ·exact hG d h q hq
theorem KM {α β γ : Type} {E : List Nat} {G : Kd α → Kd β} {H : Kd α → Kd γ} (hG : Sub G E) (hH : Sub H E) : Sub (fun d => pair (G d) (H d)) E := fun d h q hq => by
 rcases List.mem_append.1 hq with hq | hq
 ·exact hG d h q hq
 ·exact hH d h q hq
theorem Om {α β γ : Type} {E : List Nat} {G : Kd α → Kd β} (f : γ → β) (hG : Sub G E) : Sub (fun d => RN (G d) f) E := hG
theorem Mr {α : Type} {F : Kd α → Kd α} {sz : Nat} {E : List Nat} (h : Sub F E) : ∀ n q, q ∈ (upto F sz E n).E → q ∈ E
 | 0, _, hq => hq
 | n + 1, q, hq => h _ (Mr h n) q hq
theorem Oo {α : Type} {F : Kd α → Kd α} {sz : Nat} {E : List Nat} (h : ∀ d : Kd α, (F d).sz = sz) : ∀ n, (upto F sz E n).sz = sz
 | 0 => rfl
 | _ + 1 => h _
section
variable {α : Type} {F : Kd α → Kd α} {sz : Nat} {E : List Nat} {hs : ∀ n, (upto F sz E n).sz = sz} {hE : ∀ n q, q ∈ (upto F sz E n).E → q ∈ E}
theorem Sd (hm : vG F) (hs : ∀ n, (upto F sz E n).sz = sz) : ∀ n {w x cs}, (upto F sz E n).K w x cs → (upto F sz E (n + 1)).K w x cs
 | 0, _, _, _, h => h.elim
 | n + 1, _, _, _, h => hm.K _ _ (by rw [hs n, hs (n + 1)]) (fun _ _ _ hk => Sd hm hs n hk) _ _ _ h
theorem Sg (hm : vG F) (hs : ∀ n, (upto F sz E n).sz = sz) : ∀ n {w base ok x cs}, (upto F sz E n).M w base ok x cs → (upto F sz E (n + 1)).M w base ok x cs
 | 0, _, _, _, _, _, h => h.elim
 | n + 1, _, _, _, _, _, h => hm.M _ _ (by rw [hs n, hs (n + 1)]) (fun _ _ _ _ _ hk => Sg hm hs n hk) _ _ _ _ _ h
theorem aj3 (hm : vG F) (hs : ∀ n, (upto F sz E n).sz = sz) {n m : Nat} (hnm : n ≤ m) {w x cs} (h : (upto F sz E n).K w x cs) : (upto F sz E m).K w x cs := by
 obtain ⟨j, rfl⟩ := Nat.exists_eq_add_of_le hnm;induction j with
 | zero => exact h
 | succ j ih => exact Sd hm hs _ (ih (by omega))
theorem Ia (hm : vG F) (hs : ∀ n, (upto F sz E n).sz = sz) {n m : Nat} (hnm : n ≤ m) {w base ok x cs} (h : (upto F sz E n).M w base ok x cs) : (upto F sz E m).M w base ok x cs := by
 obtain ⟨j, rfl⟩ := Nat.exists_eq_add_of_le hnm;induction j with
 | zero => exact h
 | succ j ih => exact Sg hm hs _ (ih (by omega))
theorem XQ {n : Nat} {w : World} {A : Option Addr} {m : Nat} {xs : List α} (h : (upto F sz E n).C w A m xs) : (fix F sz E hs hE).C w A m xs := Sa (d' := fix F sz E hs hE) (hs n) (fun w x cs hp => (⟨n, hp⟩ : ∃ n, (upto F sz E n).K w x cs)) h
theorem XR {n : Nat} {e : Nat} {w : World} {base : Nat} {ok : Nat → Prop} {v : Value} {xs : List α} (h : (upto F sz E n).R e w base ok v xs) : (fix F sz E hs hE).R e w base ok v xs := Sb (d' := fix F sz E hs hE) (hs n) (fun w base ok x cs hp => (⟨n, hp⟩ : ∃ n, (upto F sz E n).M w base ok x cs)) h
theorem bounded {P : Nat → Nat → Prop} (hP : ∀ n m j, n ≤ m → P n j → P m j) : ∀ m, (∀ j, j < m → ∃ n, P n j) → ∃ N, ∀ j, j < m → P N j
 | 0, _ => ⟨0, fun j hj => absurd hj (Nat.not_lt_zero j)⟩
 | m + 1, h => by
  obtain ⟨N, hN⟩ := bounded hP m (fun j hj => h j (by omega));obtain ⟨n, hn⟩ := h m (by omega);refine ⟨max N n, fun j hj => ?_⟩;rcases Nat.lt_or_ge j m with hj' | hj'
  ·exact hP N _ j (Nat.le_max_left _ _) (hN j hj')
  ·have : j = m := by omega
   subst this;exact hP n _ j (Nat.le_max_right _ _) hn
theorem I6 {α : Type} {R : Nat → α → List Value → Prop} (hR : ∀ n m p c, n ≤ m → R n p c → R m p c) {size : Nat} {ps : List α} {cs : List Value} (h : fJ (fun p c => ∃ n, R n p c) size ps cs) : ∃ N, fJ (R N) size ps cs := by
 obtain ⟨N, hN⟩ := bounded (P := fun n j => ∀ p, ps[j]? = some p → R n p ((cs.drop (j * size)).take size)) (fun n m j hnm hp p hj => hR n m p _ hnm (hp p hj)) ps.length
  (fun j hj => by
   obtain ⟨n, hn⟩ := h.2 j _ (List.getElem?_eq_getElem hj);refine ⟨n, fun p hp => ?_⟩;rw [List.getElem?_eq_getElem hj] at hp;injection hp with hp
   rw [← hp];exact hn)
 exact ⟨N, h.1, fun j p hj => hN j (List.getElem?_eq_some_iff.1 hj).1 p hj⟩
theorem FE (hm : vG F) {e : Nat} {w : World} {base : Nat} {ok : Nat → Prop} {v : Value} {xs : List α} (h : (fix F sz E hs hE).R e w base ok v xs) : ∃ n, (upto F sz E n).R e w base ok v xs := by
 obtain ⟨h0, inner, ho, hr⟩ := h;obtain ⟨N, hN⟩ := I6 (R := fun n p c => (upto F sz E n).M w base (fun k => ok k ∧ some k ≠ v.ownBlock) p c) (fun n m p c hnm hp => Ia hm hs hnm hp) hr;refine ⟨N, h0, inner, ?_, ?_⟩
 ·rw [hs N]; exact ho
 ·rw [hs N]; exact hN
theorem FH (hm : vG F) {w : World} {A : Option Addr} {m : Nat} {xs : List α} (h : (fix F sz E hs hE).C w A m xs) : ∃ n, (upto F sz E n).C w A m xs := by
 rcases Nat.eq_zero_or_pos m with hz | hpos
 ·subst hz;exact ⟨0, h.1, h.2.1, fun hp => absurd hp (Nat.lt_irrefl 0)⟩
 ·obtain ⟨ad, e, hc⟩ := h.2.2 hpos;obtain ⟨N, hN⟩ := bounded (P := fun n j => ∀ p, xs[j]? = some p → ∃ c, c.length = sz ∧ (upto F sz E n).K w p c ∧ ∀ i u, c[i]? = some u → w.cell? (ad.add (j * sz + i)) = some u)
   (fun n n' j hnm hp p hj => by
    obtain ⟨c, h1, h2, h3⟩ := hp p hj;exact ⟨c, h1, aj3 hm hs hnm h2, h3⟩) xs.length
   (fun j hj => by
    obtain ⟨c, h1, ⟨n, h2⟩, h3⟩ := hc j _ (List.getElem?_eq_getElem hj);refine ⟨n, fun p hp => ?_⟩;rw [List.getElem?_eq_getElem hj] at hp;injection hp with hp
    rw [← hp];exact ⟨c, h1, h2, h3⟩)
  refine ⟨N, h.1, h.2.1, fun _ => ⟨ad, e, fun j p hj => ?_⟩⟩;rw [hs N];exact hN j (List.getElem?_eq_some_iff.1 hj).1 p hj
theorem Ib (hm : vG F) (hs : ∀ n, (upto F sz E n).sz = sz) {n m : Nat} (hnm : n ≤ m) {e : Nat} {w : World} {base : Nat} {ok : Nat → Prop} {v : Value} {xs : List α} (h : (upto F sz E n).R e w base ok v xs) : (upto F sz E m).R e w base ok v xs := Sb (by rw [hs n, hs m]) (fun _ _ _ _ _ hp => Ia hm hs hnm hp) h
theorem Ic (hm : vG F) (hs : ∀ n, (upto F sz E n).sz = sz) {n m : Nat} (hnm : n ≤ m) {w : World} {A : Option Addr} {l : Nat} {xs : List α} (h : (upto F sz E n).C w A l xs) : (upto F sz E m).C w A l xs := Sa (by rw [hs n, hs m]) (fun _ _ _ hp => aj3 hm hs hnm hp) h
end
end Kd
namespace Kd
end Kd
namespace Kd
section
variable {α β : Type} {d : Kd α} {d' : Kd β} {e e' : Nat} {w w1 W : World} {base b b' : Nat} {ok ok' okv oku : Nat → Prop} {v u : Value} {xs : List α} {ys : List β}
theorem ay5 (h : d.R e w base ok v xs) (o : Obj) : d.R e (w.alloc o) base ok v xs := bu h (dY (Below.refl _ _) o)
theorem aaH (h : d.R e w base ok v xs) : d.R e w.drew base ok v xs := bu h (dM (Below.refl _ _))
theorem eu (h : d.R e w base ok v xs) (m : Nat) : d.R e (w.drewN m) base ok v xs := bu h (nz (Below.refl _ _) m)
theorem dF {A : Option Addr} {n : Nat} (h : d.C w A n xs) (o : Obj) : d.C (w.alloc o) A n xs := bF h (dY (Below.refl _ _) o)
theorem eG {A : Option Addr} {n : Nat} (h : d.C w A n xs) : d.C w.drew A n xs := bF h (dM (Below.refl _ _))
theorem dG {A : Option Addr} {n : Nat} (h : d.C w A n xs) (m : Nat) : d.C (w.drewN m) A n xs := bF h (nz (Below.refl _ _) m)
theorem aci (d : Kd α) (w : World) : d.C w none ([] : List α).length [] := ⟨rfl, by simp, fun h => absurd h (Nat.lt_irrefl 0)⟩
theorem dD {A : Option Addr} {n c : Nat} (h : d.R e w base ok (.slice A n c) xs) : n = xs.length ∧ n ≤ c ∧ d.C w A xs.length xs := by
 obtain ⟨A', c', he, hl, hr⟩ := oK h;injection he with h1 h2 h3
 subst h1;exact ⟨h2, by omega, hr⟩
theorem xK (h : d.R e w base ok v xs) : ∀ k, v.ownBlock = some k → k < w.heap.size := by
 obtain ⟨inner, ho⟩ := xR h;exact R5 ho
theorem FI (h : d.R e w base ok v xs) : ∀ k, v.ownBlock = some k → base ≤ k := by
 obtain ⟨inner, ho⟩ := xR h;exact mf ho
theorem FJ (h : d.R e w base ok v xs) {g : Nat} (hok : ∀ k, ok k → k ≠ g) : some g ≠ v.ownBlock := fun e => hok g (h.1 g e.symm) rfl
theorem Ms (h : d.R e w base ok v xs) (hp : 0 < xs.length) : ∃ g cap, v = .slice (some ⟨g, 0, none⟩) xs.length cap ∧ base ≤ g ∧ g < w.heap.size ∧ ∃ cells, w.heap[g]? = some (.cells cells e (0, 0)) := by
 obtain ⟨inner, ho⟩ := xR h;obtain ⟨g, cap, he, hb, hl⟩ := ho.form hp;obtain ⟨cells, hc⟩ := uA ho g (by rw [he]; simp [Value.ownBlock]);exact ⟨g, cap, he, hb, hl, cells, hc⟩
theorem nA (h : d.R e W b ok u xs) (hv : d'.R e' W b' ok' v ys) (ht : ∀ q, q ∈ e :: d.E → q ≠ e') (hg : W.grownBy w1 v.ownBlock) : d.R e w1 b ok u xs := by
 obtain ⟨inner, ho⟩ := xR hv;refine bB (xQ (jI h) (fun k hk => hg.block k hk.2.2.1 (fun he => ?_))) (fun _ hk => hk.1);obtain ⟨_, _, _, q, hq, cells, hc⟩ := hk;obtain ⟨cells', hc'⟩ := uA ho k he.symm;rw [hc] at hc';injection hc' with hc'
 injection hc' with _ hc'
 exact ht q hq hc'
end
section
variable {w W : World} {A : Option Addr} {n : Nat}
theorem nC {k : IntKind} {xs : List Int} (h : (Kd.int k).C w A n xs) (i : Int) (h0 : 0 ≤ i) (h1 : i < n) : ∃ ad, A = some ad ∧ w.cell? (ad.add i.toNat) = some (.int k (rd xs i)) :=
 jH.at_ (Mq (enc := Value.int k) (d := (0 : Int)) (h1 := fun _ => rfl) h) i h0 h1
theorem aS9 {xs : List Bool} (h : Kd.bool.C w A n xs) (i : Int) (h0 : 0 ≤ i) (h1 : i < n) : ∃ ad, A = some ad ∧ w.cell? (ad.add i.toNat) = some (.bool (ach false xs i)) :=
 jH.at_ (Mq (enc := Value.bool) (d := false) (h1 := fun _ => rfl) h) i h0 h1
variable {α : Type} {enc : α → Value} {h1 : ∀ x, (enc x).oneCell' = true} {e base g cap : Nat} {ok : Nat → Prop} {xs : List α}
theorem aWa (d : α) (h : (scalar enc h1).R e W base ok (.slice (some ⟨g, 0, none⟩) xs.length cap) xs) (i : Int) (h0 : 0 ≤ i) (hi : i < xs.length) : W.cell? ⟨g, i.toNat, none⟩ = some (enc (ach d xs i)) ∧ W.frozen? ⟨g, i.toNat, none⟩ = false := aUk (R9 h) i h0 hi
theorem acj (h : (scalar enc h1).R e W base ok (.slice (some ⟨g, 0, none⟩) xs.length cap) xs) (i : Int) (x : α) : (scalar enc h1).R e (W.setCell ⟨g, i.toNat, none⟩ (enc x)) base ok (.slice (some ⟨g, 0, none⟩) xs.length cap) (xs.set i.toNat x) ∧ W.grownBy (W.setCell ⟨g, i.toNat, none⟩ (enc x)) (some g) := by
 obtain ⟨ho, hg⟩ := I5 (R9 h) i x;exact ⟨R8 (by rw [List.length_set]; exact ho) h.1, hg⟩
end
section
variable {P : Program} {ops : Array Oper} {rest : List Oper} {o : Oper} {a : Act} {Q : Exit → Act → World → Prop}
theorem Ie {W w1 : World} {v : Value} (hgd : o.guard = none) (hrun : (execOp a.eval o).run P W = .ok (.value v) w1) (h : wpList P ops Q rest (a.put o.dst v) w1) : wpList P ops Q (o :: rest) a W := by
 refine wpList_plain hgd fun K hK => ?_
 unfold Oper.wp;rw [hrun];exact hK _ _ h
variable {α : Type}
theorem Si (d : Kd α) {w0 W : World} (base e : Nat) (hgd : o.guard = none) {N : Tmp} (_hd : o.dst = some N) {xs : List α} {inner : List Value} {ok lV : Nat → Prop}
  (hrun : (execOp a.eval o).run P W = .ok (.value (.slice (some ⟨W.heap.size, 0, none⟩) xs.length xs.length)) (W.alloc (.cells inner.toArray e)))
  (hrep : fJ (d.M W base lV) d.sz xs inner) (hok : ∀ k, lV k → ok k) (hfresh : ok W.heap.size) (HB : Below base w0 W) (hbase : base ≤ W.heap.size) (hm : xs.length ≤ 9223372036854775807)
  (h : ∀ v1 w1, d.R e w1 base ok v1 xs → Below base w0 w1 → W.grownBy w1 none → (∃ b, v1.ownBlock = some b ∧ W.heap.size ≤ b) → wpList P ops Q rest (a.put o.dst v1) w1) : wpList P ops Q (o :: rest) a W := by
 refine Ie hgd hrun (h _ _ ⟨fun k hk => ?_, inner, ?_, ?_⟩ (HB.alloc hbase _) (World.grownBy_alloc W _ none) ⟨W.heap.size, by simp [Value.ownBlock], Nat.le_refl _⟩)
 ·have : W.heap.size = k := by simpa [Value.ownBlock] using hk
  subst this;exact hfresh
 ·have h2 := World.ownsRow_lit (base := base) (e := e) (size := d.sz) W inner.toArray xs.length hbase (by simpa [maxLen] using hm) (by simpa using hrep.1);simpa using h2
 ·refine hrep.uk (fun p c hp => d.dX (fun k hk => ⟨hok k hk.1, fun he => ?_⟩) (Oj (d.fE hp) (dY (Below.refl _ _) _)));have h3 : k = W.heap.size := by simpa [Value.ownBlock] using he
  have := hk.2.2.1;omega
theorem Ig {α : Type} {R : α → List Value → Prop} {z : Value} {size : Nat} {z0 : α} (hz : z.cells.size = size) (hs : 0 < size) (h0 : R z0 z.cells.toList) (m : Nat) : fJ R size (List.replicate m z0) (madeCells z.cells (m * size)).toList := by
 refine ⟨by simp [size_madeCells], fun j p hj => ?_⟩;obtain ⟨hjl, hp⟩ := List.getElem?_eq_some_iff.1 hj;have hjm : j < m := by simpa using hjl
 have hp' : z0 = p := by simpa using hp
 subst hp';have hle : j * size + size ≤ m * size := by rw [← Nat.succ_mul]; exact Nat.mul_le_mul_right _ hjm
 have : ((madeCells z.cells (m * size)).toList.drop (j * size)).take size = z.cells.toList := by
  apply List.ext_getElem
  ·simp [size_madeCells, hz]
   omega
  ·intro i h1 h2;have hi : i < size := by rw [Array.length_toList, hz] at h2; exact h2
   have hmod : (j * size + i) % size = i := by
    rw [Nat.mul_comm, Nat.mul_add_mod];exact Nat.mod_eq_of_lt hi
   simp [madeCells, hz, hmod]
   rw [getElem!_pos z.cells i (by omega)]
 rw [this];exact h0
theorem I7 (d : Kd α) {w0 W : World} (base e : Nat) (hgd : o.guard = none) {N : Tmp} (hd : o.dst = some N) (t : TypeId) (x y : Operand) (ho : o.op = .makeSlice t x y) (n : Int) (hx : a.eval x = .int .i64 n) (hy : a.eval y = .int .i64 n)
  (ht : P.underlying t = some (.slice e)) (z : Value) (bytes : Nat) (hinfo : (P.info? e).map (fun i => (i.zero, i.size, i.bytes)) = some (some z, d.sz, bytes)) (hz : z.cells.size = d.sz) (hs0 : 0 < d.sz) (hb0 : 0 < bytes)
  (z0 : α) {ok lV : Nat → Prop} (hzero : d.M W base lV z0 z.cells.toList) (hok : ∀ k, lV k → ok k) (hfresh : ok W.heap.size) (h0 : 0 ≤ n) (hl : n.toNat * bytes ≤ 281474976710656) (HB : Below base w0 W) (hbase : base ≤ W.heap.size)
  (h : ∀ v1 w1, d.R e w1 base ok v1 (List.replicate n.toNat z0) → Below base w0 w1 → W.grownBy w1 none → (∃ b, v1.ownBlock = some b ∧ W.heap.size ≤ b) → wpList P ops Q rest (a.put o.dst v1) w1) : wpList P ops Q (o :: rest) a W := by
 obtain ⟨m, rfl⟩ := Int.eq_ofNat_of_zero_le h0;simp only [Int.toNat_natCast] at hl h;obtain ⟨i0, hi, hzz⟩ := Option.map_eq_some_iff.1 hinfo;simp only [Prod.mk.injEq] at hzz;obtain ⟨hz0, hz1, hz2⟩ := hzz;have hm : m ≤ 281474976710656 := Nat.le_trans (Nat.le_mul_of_pos_right _ hb0) hl;have hr := run_make (P := P) W t e i0 z ht hi hz0 .i64 .i64 (m : Int) (m : Int) (by omega) (by omega)
  (by
   have h3 : ((i0.bytes * m : Nat) : Int) ≤ 281474976710656 := by rw [hz2, Nat.mul_comm]; omega
   rwa [Int.natCast_mul] at h3) (by omega)
 simp only [Int.toNat_natCast] at hr;rw [hz1] at hr;refine Si d base e hgd hd (xs := List.replicate m z0) (inner := (madeCells z.cells (m * d.sz)).toList) (lV := lV) (ok := ok) ?_ (Ig hz hs0 hzero m) hok hfresh HB hbase (by simp; omega) h;simp [execOp, ho, hx, hy, hr]
end
end Kd
theorem Sj {w : World} {base n m c size : Nat} {e : TypeId} {A : Option Addr} {xs : List Value} (h : w.ownsRow base e size (.slice A n c) n xs) (hm : m ≤ n) : w.ownsRow base e size (.slice A m c) m (xs.take (m * size)) := by
 obtain ⟨h1, h2⟩ := h;refine ⟨by rw [List.length_take, h1]; exact Nat.min_eq_left (Nat.mul_le_mul_right _ hm), ?_⟩;rcases h2 with ⟨he, h0⟩ | ⟨g, cap, cur, he, hb, hh, hnc, hcm, hcs, ht⟩
 ·injection he with ha _ hc
  subst ha; subst hc;exact .inl ⟨by rw [show m = 0 by omega], by omega⟩
 ·injection he with ha _ hc
  subst ha; subst hc;refine .inr ⟨g, c, cur, rfl, hb, hh, by omega, hcm, hcs, ?_⟩;rw [← ht, List.take_take, Nat.min_eq_left (Nat.mul_le_mul_right _ hm)]
section
variable {P : Program}
end
def QC (w : World) (base : Nat) (e : TypeId) (size : Nat) (v : Value) (n : Nat) (xs : List Value) : Prop :=
  xs.length = n * size ∧
  ((n = 0 ∧ ∃ A, v = .slice A 0 0 ∧ ∀ a, A = some a → base ≤ a.block ∧ ∃ cur, w.heap[a.block]? = some (.cells cur e (0, 0))) ∨
   ∃ g off cap cur, v = .slice (some ⟨g, off * size, none⟩) n cap ∧ base ≤ g ∧ w.heap[g]? = some (.cells cur e (0, 0)) ∧ n ≤ cap ∧ off + cap ≤ maxLen ∧ cur.size = (off + cap) * size ∧ (cur.toList.drop (off * size)).take (n * size) = xs)
section
variable {w w1 : World} {base n size : Nat} {e : TypeId} {v : Value} {xs : List Value}
theorem Sk (h : w.ownsRow base e size v n xs) : QC w base e size v n xs := by
 obtain ⟨h1, h2⟩ := h;refine ⟨h1, ?_⟩;rcases h2 with ⟨rfl, h0⟩ | ⟨g, cap, cur, rfl, hb, hh, hnc, hcm, hcs, ht⟩
 ·exact .inl ⟨h0, none, rfl, fun a ha => by cases ha⟩
 ·exact .inr ⟨g, 0, cap, cur, by rw [Nat.zero_mul], hb, hh, hnc, by rw [Nat.zero_add]; exact hcm, by rw [Nat.zero_add]; exact hcs, by rw [Nat.zero_mul, List.drop_zero]; exact ht⟩
theorem U4 (h : QC w base e size v n xs) (k : Nat) (hk : v.ownBlock = some k) : base ≤ k ∧ ∃ cells, w.heap[k]? = some (.cells cells e (0, 0)) := by
 rcases h.2 with ⟨_, A, rfl, hA⟩ | ⟨g, off, cap, cur, rfl, hg, hh, r⟩
 ·cases A with
  | none => simp [Value.ownBlock] at hk
  | some a =>
   have : a.block = k := by simpa [Value.ownBlock] using hk
   subst this;exact hA a rfl
 ·have : g = k := by simpa [Value.ownBlock] using hk
  subst this;exact ⟨hg, cur, hh⟩
theorem U5 (h : QC w base e size v n xs) : ∃ A c, v = .slice A n c ∧ n ≤ c := by
 rcases h.2 with ⟨h0, A, rfl, _⟩ | ⟨g, off, cap, cur, rfl, hg, hh, hnc, r⟩
 ·exact ⟨A, 0, by rw [h0], by omega⟩
 ·exact ⟨_, cap, rfl, hnc⟩
theorem ack (h : QC w base e size v n xs) : n ≤ 9223372036854775807 := by
 rcases h.2 with ⟨h0, _⟩ | ⟨g, off, cap, cur, rfl, hg, hh, hnc, hm, r⟩
 ·omega
 ·simp only [maxLen] at hm;omega
theorem Sl (g o j : Nat) : (⟨g, o, none⟩ : Addr).add j = ⟨g, o + j, none⟩ := by unfold Addr.add; split <;> simp_all
theorem Oq {A : Option Addr} {c : Nat} (h : QC w base e size (.slice A n c) n xs) (hn : 0 < n) : ∃ ad, A = some ad ∧ ∀ j u, xs[j]? = some u → w.cell? (ad.add j) = some u := by
 rcases h.2 with ⟨h0, _⟩ | ⟨g, off, cap, cur, he, hg, hh, hnc, hm, hcs, ht⟩
 ·omega
 ·injection he with ha _ hc
  subst ha;refine ⟨_, rfl, fun j u hu => ?_⟩;rw [Sl, cell_of_row w g _ cur e (0, 0) hh];rw [← ht, List.getElem?_take] at hu;split at hu
  ·rw [List.getElem?_drop] at hu;rw [← Array.getElem?_toList];exact hu
  ·cases hu
theorem vH {g : Nat} : ∀ (vs : List Value) (o : Nat) {w : World} (k : Nat), k ≠ g → (w.setCells g o vs).heap[k]? = w.heap[k]?
 | [], _, _, _, _ => rfl
 | v :: r, o, w, k, hk => by
  rw [World.setCells, vH r (o + 1) k hk];exact Below.heap_setCell w ⟨g, o, none⟩ v k hk
theorem um (g : Nat) : ∀ (vs : List Value) (o : Nat) (w : World), (w.setCells g o vs).os = w.os ∧ (w.setCells g o vs).tape = w.tape ∧ (w.setCells g o vs).output = w.output ∧ (w.setCells g o vs).heap.size = w.heap.size
 | [], _, _ => ⟨rfl, rfl, rfl, rfl⟩
 | v :: r, o, w => by
  obtain ⟨h1, h2, h3, h4⟩ := um g r (o + 1) (w.setCell ⟨g, o, none⟩ v);rw [World.setCells];exact ⟨h1, h2, h3, by rw [h4]; simp [World.setCell]⟩
theorem vI {g : Nat} {e : TypeId} : ∀ (vs : List Value) (o : Nat) (w : World) (cur : Array Value), w.heap[g]? = some (.cells cur e (0, 0)) → o + vs.length ≤ cur.size →
  ∃ cur', (w.setCells g o vs).heap[g]? = some (.cells cur' e (0, 0)) ∧ cur'.size = cur.size ∧ cur'.toList = cur.toList.take o ++ vs ++ cur.toList.drop (o + vs.length)
 | [], o, w, cur, h, _ => ⟨cur, h, rfl, by simp⟩
 | v :: r, o, w, cur, h, hl => by
  have h2 := gL h o v;simp only [List.length_cons] at hl;obtain ⟨cur', h3, h4, h5⟩ := vI r (o + 1) (w.setCell ⟨g, o, none⟩ v) _ h2 (by simp; omega);refine ⟨cur', h3, by rw [h4]; simp, ?_⟩;rw [h5, Array.toList_setIfInBounds];have ho : o < cur.toList.length := by rw [Array.length_toList]; omega
  rw [List.take_set, List.drop_set_of_lt (by omega)];simp only [List.length_cons];rw [show o + 1 + r.length = o + (r.length + 1) by omega];congr 1
  rw [List.take_succ_eq_append_getElem ho, List.set_append_right _ _ (by rw [List.length_take]; omega)];have ho' : o < cur.size := by omega
  simp [Nat.min_eq_left (Nat.le_of_lt ho')]
end
section
variable {P : Program}
end
namespace Kd
theorem QD {α : Type} {R : α → List Value → Prop} {size m : Nat} {ps : List α} {cs : List Value} (h : fJ R size ps cs) (hm : m ≤ ps.length) : fJ R size (ps.take m) (cs.take (m * size)) := by
 refine ⟨by rw [List.length_take, List.length_take, h.1, Nat.min_eq_left hm, Nat.min_eq_left (Nat.mul_le_mul_right _ hm)], fun j p hj => ?_⟩;rw [List.getElem?_take] at hj;split at hj
 ·rename_i hjm
  have := h.2 j p hj;have hle : j * size + size ≤ m * size := by rw [← Nat.succ_mul]; exact Nat.mul_le_mul_right _ hjm
  rw [List.drop_take, List.take_take, Nat.min_eq_left (by omega)];exact this
 ·cases hj
theorem ZA {α : Type} {d : Kd α} {e m n c : Nat} {w : World} {base : Nat} {ok : Nat → Prop} {A : Option Addr} {xs : List α} (h : d.R e w base ok (.slice A n c) xs) (hm : m ≤ xs.length) : d.R e w base ok (.slice A m c) (xs.take m) := by
 obtain ⟨h0, inner, ho, hr⟩ := h;have hn : n = xs.length := by
  obtain ⟨A', c', he⟩ := QA ho;injection he
 subst hn;have hb : ∀ x y : Nat, (Value.slice A x c).ownBlock = (Value.slice A y c).ownBlock := by
  intro x y
  cases A <;> rfl
 refine ⟨fun k hk => h0 k (by rw [hb _ m]; exact hk), inner.take (m * d.sz), ?_, ?_⟩
 ·rw [List.length_take, Nat.min_eq_left hm];exact Sj ho hm
 ·rw [hb m xs.length];exact QD hr hm
def Q {α : Type} (d : Kd α) (e : Nat) (w : World) (base : Nat) (ok : Nat → Prop) (v : Value) (xs : List α) : Prop :=
 (∀ k, v.ownBlock = some k → ok k) ∧ ∃ inner, QC w base e d.sz v xs.length inner ∧ fJ (d.M w base (fun k => ok k ∧ some k ≠ v.ownBlock)) d.sz xs inner
section
variable {α : Type} {d : Kd α} {e : Nat} {w w1 W : World} {base : Nat} {ok ok' : Nat → Prop} {v : Value} {xs : List α}
theorem ZB (h : d.R e w base ok v xs) : d.Q e w base ok v xs := by
 obtain ⟨h0, inner, ho, hr⟩ := h;exact ⟨h0, inner, Sk ho, hr⟩
theorem xS (d : Kd α) (e : Nat) (w : World) (base : Nat) (ok : Nat → Prop) : d.Q e w base ok (.slice none 0 0) [] := ZB (qf d e w base ok)
theorem FL {A : Option Addr} {n c : Nat} (h : d.Q e w base ok (.slice A n c) xs) : n = xs.length ∧ n ≤ c ∧ d.C w A xs.length xs := by
 obtain ⟨_, inner, ho, hr⟩ := h;obtain ⟨A', c', he, hl⟩ := U5 ho;injection he with h1 h2 h3
 subst h1; subst h2; subst h3;refine ⟨rfl, hl, rfl, ack ho, fun hp => ?_⟩;obtain ⟨ad, ha, hc⟩ := Oq ho hp;refine ⟨ad, ha, fun j p hj => ⟨(inner.drop (j * d.sz)).take d.sz, ?_, d.fD (hr.2 j p hj), fun i u hu => ?_⟩⟩
 ·have hjl := (List.getElem?_eq_some_iff.1 hj).1;have h1 : j * d.sz + d.sz ≤ inner.length := by rw [hr.1, ← Nat.succ_mul]; exact Nat.mul_le_mul_right _ hjl
  rw [List.length_take, List.length_drop];omega
 ·refine hc _ u ?_;rw [List.getElem?_take] at hu;split at hu
  ·rw [List.getElem?_drop] at hu;exact hu
  ·cases hu
end
section
variable {P : Program} {ops : Array Oper} {rest : List Oper} {o : Oper} {a : Act} {Q' : Exit → Act → World → Prop} {Kc : Act → World → Prop} {α : Type}
end
end Kd
namespace Kd
section
variable {α : Type} {d : Kd α} {e e' : Nat} {w w1 W : World} {base : Nat} {ok : Nat → Prop} {u v : Value} {xs : List α}
theorem lW (h : d.R e w base ok v xs) : ∀ k, v.ownBlock = some k → ∃ cells, w.heap[k]? = some (.cells cells e (0, 0)) := by
 obtain ⟨inner, ho⟩ := xR h;exact fun k hk => uA ho k hk
theorem zW (h : d.R e W base ok u xs) (hty : ∀ k, v.ownBlock = some k → ∃ cells, W.heap[k]? = some (.cells cells e' (0, 0))) (ht : ∀ q, q ∈ e :: d.E → q ≠ e') (hg : W.grownBy w1 v.ownBlock) : d.R e w1 base ok u xs := by
 refine bB (xQ (jI h) (fun k hk => hg.block k hk.2.2.1 (fun he => ?_))) (fun _ hk => hk.1);obtain ⟨_, _, _, q, hq, cells, hc⟩ := hk;obtain ⟨cells', hc'⟩ := hty k he.symm;rw [hc] at hc';injection hc' with hc'
 injection hc' with _ hc'
 exact ht q hq hc'
theorem ary (h : d.R e W base ok u xs) (hty : ∀ k, v.ownBlock = some k → ∃ cells, W.heap[k]? = some (.cells cells e' (0, 0))) (ht : ∀ q, q ∈ e :: d.E → q ≠ e') : d.R e W base (fun k => ok k ∧ some k ≠ v.ownBlock) u xs := by
 refine bB (jI h) (fun k hk => ⟨hk.1, fun he => ?_⟩);obtain ⟨_, _, _, q, hq, cells, hc⟩ := hk;obtain ⟨cells', hc'⟩ := hty k he.symm;rw [hc] at hc';injection hc' with hc'
 injection hc' with _ hc'
 exact ht q hq hc'
theorem zX (hu : d.R e W base ok u xs) (hbase : ∀ k, v.ownBlock = some k → W.heap.size ≤ k) (hb : Below W.heap.size W w1) : d.R e w1 base (fun k => ok k ∧ some k ≠ v.ownBlock) u xs :=
 bB (xQ (jI hu) (fun k hk => hb.block k hk.2.2.1)) (fun k hk => ⟨hk.1, fun he => by have := hbase k he.symm; have := hk.2.2.1; omega⟩)
theorem I8 (h : d.R e w1 W.heap.size ok v xs) (hlt : ∀ k, u.ownBlock = some k → k < W.heap.size) : d.R e w1 W.heap.size (fun k => ok k ∧ some k ≠ u.ownBlock) v xs :=
 bB (jI h) (fun k hk => ⟨hk.1, fun he => by have := hlt k he.symm; have := hk.2.1; omega⟩)
end
end Kd
theorem oM {α : Type} (a jv : List α) (o : Nat) (h : o + jv.length ≤ a.length) (q : Nat) :
  (a.take o ++ jv ++ a.drop (o + jv.length))[q]? = if q < o then a[q]? else if q < o + jv.length then jv[q - o]? else a[q]? := by
 have hl : (a.take o).length = o := by rw [List.length_take]; omega
 rw [List.append_assoc];by_cases h1 : q < o
 ·rw [if_pos h1, List.getElem?_append_left (by omega), List.getElem?_take, if_pos h1]
 ·rw [if_neg h1, List.getElem?_append_right (by omega), hl];by_cases h2 : q < o + jv.length
  ·rw [if_pos h2, List.getElem?_append_left (by omega)]
  ·rw [if_neg h2, List.getElem?_append_right (by omega), List.getElem?_drop];congr 1
   omega
namespace Kd
section
variable {α : Type} {d : Kd α} {e base g n cap : Nat} {ok lV : Nat → Prop} {W : World} {xs : List α}
theorem Df (h : d.R e W base ok (.slice (some ⟨g, 0, none⟩) n cap) xs) (z : α) (i : Int) (h0 : 0 ≤ i) (h1 : i < n) :
  ∃ c, c.length = d.sz ∧ d.M W base (fun k => ok k ∧ k ≠ g) (xs.getD i.toNat z) c ∧ (∀ j u, c[j]? = some u → W.cell? ⟨g, i.toNat * d.sz + j, none⟩ = some u) ∧ ∀ j, W.frozen? ⟨g, i.toNat * d.sz + j, none⟩ = false := by
 obtain ⟨hn, hnc, hC⟩ := dD h;obtain ⟨_, inner, ho, hr⟩ := h;have hil : i.toNat < xs.length := by omega
 have hseg : i.toNat * d.sz + d.sz ≤ inner.length := by rw [hr.1, ← Nat.succ_mul]; exact Nat.mul_le_mul_right _ hil
 have hM := hr.2 i.toNat _ (List.getElem?_eq_getElem hil);refine ⟨(inner.drop (i.toNat * d.sz)).take d.sz, by rw [List.length_take, List.length_drop]; omega, ?_, fun j u hu => ?_, fun j => ?_⟩
 ·rw [List.getD_eq_getElem?_getD, List.getElem?_eq_getElem hil];exact d.dX (fun k hk => ⟨hk.1, fun he => hk.2 (by rw [he]; simp [Value.ownBlock])⟩) hM
 ·rw [List.getElem?_take] at hu;split at hu
  ·rw [List.getElem?_drop] at hu;have := ho.cells (g := g) (by simp [Value.ownBlock]) _ u hu;rwa [add_plain] at this
  ·cases hu
 ·obtain ⟨cells, hc⟩ := uA ho g (by simp [Value.ownBlock]);exact ai hc _
theorem Sm (h : d.R e W base ok (.slice (some ⟨g, 0, none⟩) n cap) xs) (i : Int) (h0 : 0 ≤ i) (h1 : i < n) {c jv : List Value} {j : Nat} (hcl : c.length = d.sz) (hcc : ∀ j u, c[j]? = some u → W.cell? ⟨g, i.toNat * d.sz + j, none⟩ = some u)
  (hj : j + jv.length ≤ d.sz) {x' : α} (hM : d.M W base lV x' (c.take j ++ jv ++ c.drop (j + jv.length))) (xJ : ∀ k, lV k → ok k ∧ k ≠ g) :
  d.R e (W.setCells g (i.toNat * d.sz + j) jv) base ok (.slice (some ⟨g, 0, none⟩) n cap) (xs.set i.toNat x') ∧ W.grownBy (W.setCells g (i.toNat * d.sz + j) jv) (some g) := by
 obtain ⟨hn, hnc, _⟩ := dD h;obtain ⟨hok, inner, ho, hr⟩ := h;have hil : i.toNat < xs.length := by omega
 have hseg : i.toNat * d.sz + d.sz ≤ inner.length := by rw [hr.1, ← Nat.succ_mul]; exact Nat.mul_le_mul_right _ hil
 have hin : inner.length = n * d.sz := by rw [hr.1, hn]
 obtain ⟨ho1, ho2⟩ := ho;rcases ho2 with ⟨hv, _⟩ | ⟨g', cap', cur, hv, hb, hh, hnc', hcm, hcs, ht⟩
 ·cases hv
 injection hv with ha _ hc
 injection ha with ha
 injection ha with hg
 subst hg; subst hc;have hfit : i.toNat * d.sz + j + jv.length ≤ cur.size := by
  have : n * d.sz ≤ cap * d.sz := Nat.mul_le_mul_right _ hnc;omega
 obtain ⟨cur', h3, h4, h5⟩ := vI jv (i.toNat * d.sz + j) W cur hh hfit;obtain ⟨s1, s2, s3, s4⟩ := um g jv (i.toNat * d.sz + j) W;have Mt : ∀ k, k ≠ g → (W.setCells g (i.toNat * d.sz + j) jv).heap[k]? = W.heap[k]? := fun k hk => vH jv _ k hk
 have ZC : ∀ q, q < d.sz → c[q]? = inner[i.toNat * d.sz + q]? := by
  intro q hq;have hq' : q < c.length := by omega
  have h6 := hcc q _ (List.getElem?_eq_getElem hq');rw [cell_of_row W g _ cur e (0, 0) hh] at h6;rw [List.getElem?_eq_getElem hq', ← h6, ← ht, List.getElem?_take, if_pos (by rw [← hn]; omega), Array.getElem?_toList]
 refine ⟨⟨hok, inner.take (i.toNat * d.sz + j) ++ jv ++ inner.drop (i.toNat * d.sz + j + jv.length), ⟨?_, .inr ⟨g, cap, cur', by rw [List.length_set, hn], hb, h3, by rw [List.length_set, ← hn]; exact hnc, hcm, by rw [h4, hcs], ?_⟩⟩, ?_⟩,
  ⟨s1, s2, s3, by rw [s4]; exact Nat.le_refl _, fun k _ hk => Mt k (fun he => hk (by rw [he]))⟩⟩
 ·rw [List.length_set];simp only [List.length_append, List.length_take, List.length_drop];rw [hr.1] at hseg ⊢;omega
 ·rw [List.length_set, ← hn];apply List.ext_getElem?
  intro q;rw [List.getElem?_take, h5];rw [oM cur.toList jv (i.toNat * d.sz + j) (by rw [Array.length_toList]; omega) q, oM inner jv (i.toNat * d.sz + j) (by omega) q];have ahQ : ∀ q, q < n * d.sz → cur.toList[q]? = inner[q]? := by
   intro q hq;rw [← ht, List.getElem?_take, if_pos (by rw [← hn]; exact hq)]
  by_cases hq : q < n * d.sz
  ·rw [if_pos hq, ahQ q hq]
  ·rw [if_neg hq, if_neg (by omega), if_neg (by omega), List.getElem?_eq_none (by omega)]
 ·refine ⟨?_, fun m p hm => ?_⟩
  ·rw [List.length_set];simp only [List.length_append, List.length_take, List.length_drop];rw [hr.1] at hseg ⊢;omega
  ·have RO : m < xs.length := by
    have := (List.getElem?_eq_some_iff.1 hm).1;rwa [List.length_set] at this
   have acm : m * d.sz + d.sz ≤ inner.length := by rw [hr.1, ← Nat.succ_mul]; exact Nat.mul_le_mul_right _ RO
   have hgo : some g = (Value.slice (some ⟨g, 0, none⟩) n cap).ownBlock := by simp [Value.ownBlock]
   by_cases Sn : m = i.toNat
   ·subst Sn;rw [List.getElem?_set_self (by omega)] at hm;injection hm with hm
    subst hm;have hcells : ((inner.take (i.toNat * d.sz + j) ++ jv ++ inner.drop (i.toNat * d.sz + j + jv.length)).drop (i.toNat * d.sz)).take d.sz = c.take j ++ jv ++ c.drop (j + jv.length) := by
     apply List.ext_getElem?
     intro q;rw [List.getElem?_take, List.getElem?_drop, oM inner jv _ (by omega), oM c jv j (by omega) q];by_cases hq : q < d.sz
     ·rw [if_pos hq, ZC q hq];by_cases hq1 : q < j
      ·rw [if_pos (by omega), if_pos hq1]
      ·rw [if_neg (by omega), if_neg hq1];by_cases hq2 : q < j + jv.length
       ·rw [if_pos (by omega), if_pos hq2];congr 1
        omega
       ·rw [if_neg (by omega), if_neg hq2]
     ·rw [if_neg hq, if_neg (by omega), if_neg (by omega), List.getElem?_eq_none (by omega)]
    rw [hcells];refine d.dX (fun k hk => ?_) (d.fZ (w1 := W.setCells g (i.toNat * d.sz + j) jv) (fun k hk => Mt k (xJ k hk).2) hM);exact ⟨(xJ k hk).1, fun he => (xJ k hk).2 (by rw [← hgo] at he; injection he)⟩
   ·rw [List.getElem?_set_ne (by omega)] at hm;have hold := hr.2 m p hm;have hcells : ((inner.take (i.toNat * d.sz + j) ++ jv ++ inner.drop (i.toNat * d.sz + j + jv.length)).drop (m * d.sz)).take d.sz = (inner.drop (m * d.sz)).take d.sz := by
     apply List.ext_getElem?
     intro q;rw [List.getElem?_take, List.getElem?_take, List.getElem?_drop, List.getElem?_drop, oM inner jv _ (by omega)];by_cases hq : q < d.sz
     ·rw [if_pos hq, if_pos hq];rcases Nat.lt_or_gt_of_ne Sn with hlt | hgt
      ·have : m * d.sz + d.sz ≤ i.toNat * d.sz := by rw [← Nat.succ_mul]; exact Nat.mul_le_mul_right _ hlt
       rw [if_pos (by omega)]
      ·have : i.toNat * d.sz + d.sz ≤ m * d.sz := by rw [← Nat.succ_mul]; exact Nat.mul_le_mul_right _ hgt
       rw [if_neg (by omega), if_neg (by omega)]
     ·rw [if_neg hq, if_neg hq]
    rw [hcells];refine d.fZ (fun k hk => Mt k (fun he => hk.2 (by rw [he]; exact hgo))) hold
end
end Kd
namespace Kd
def fixed {α : Type} (d : Kd α) (w0 : World) : Kd α where
 sz := d.sz
 E := []
 K := fun _ x cs => d.K w0 x cs
 M := fun _ _ _ x cs => d.K w0 x cs
 jd := d.jd
 iW := d.iW
 gp := fun _ h => h
 fD := fun h => h
 dX := fun _ h => h
 fE := fun h => h
 fZ := fun _ h => h
 gq := fun _ h => h
def or_ {α : Type} (a b : Kd α) (h : b.sz = a.sz) : Kd α where
 sz := a.sz
 E := a.E ++ b.E
 K := fun w x cs => a.K w x cs ∨ b.K w x cs
 M := fun w base ok x cs => a.M w base ok x cs ∨ b.M w base ok x cs
 jd := fun hk => hk.elim a.jd (fun hk => (b.jd hk).trans h)
 iW := fun hk => hk.elim a.iW b.iW
 gp := fun hb hk => hk.imp (a.gp hb) (b.gp hb)
 fD := fun hk => hk.imp a.fD b.fD
 dX := fun hok hk => hk.imp (a.dX hok) (b.dX hok)
 fE := fun hk => hk.imp
  (fun hk => a.dX (fun _ ⟨h1, h2, h3, q, hq, hc⟩ => ⟨h1, h2, h3, q, List.mem_append_left _ hq, hc⟩) (a.fE hk))
  (fun hk => b.dX (fun _ ⟨h1, h2, h3, q, hq, hc⟩ => ⟨h1, h2, h3, q, List.mem_append_right _ hq, hc⟩) (b.fE hk))
 fZ := fun hm hk => hk.imp (a.fZ hm) (b.fZ hm)
 gq := fun hb hk => hk.imp (a.gq hb) (b.gq hb)
def mix {α : Type} (e : Nat) (d dm : Kd α) (w0 : World) : Kd (List α) := or_ (fixed (slice e d) w0) (slice e dm) rfl
section
variable {α : Type} {F : Kd α → Kd α} {sz : Nat} {E : List Nat} {hs : ∀ n, (upto F sz E n).sz = sz} {hE : ∀ n q, q ∈ (upto F sz E n).E → q ∈ E}
end
end Kd
namespace Kd
section
variable {P : Program} {ops : Array Oper} {rest : List Oper} {o : Oper} {a : Act} {Q : Exit → Act → World → Prop} {α : Type}
end
end Kd
theorem G8 {P : Program} {w : World} {g o : Nat} {e : TypeId} {cur : Array Value} (t : TypeId) (u : Value) (jv : List Value) (hh : w.heap[g]? = some (.cells cur e (0, 0))) (hu : u.cells.toList = jv) (ht : (P.info? t).map (·.size) = some jv.length)
  (hfit : o + jv.length ≤ cur.size) (h1 : ∀ q ∈ jv, q.oneCell' = true) : (Instr.storeAt t (.pointer (some ⟨g, o, none⟩)) u).run P w = .ok () (w.setCells g o jv) := by
 obtain ⟨i, hi, hsz⟩ := Option.map_eq_some_iff.1 ht;have hc : u.cells.size = i.size := by rw [hsz, ← hu, Array.length_toList]
 have hst := run_storeCells_cells (P := P) g o jv 0 w (fun j hj => by rw [cell_of_row w g _ cur e (0, 0) hh]; simp; omega) (fun j _ => ai hh _) h1;simp only [Nat.add_zero] at hst;simp [Instr.storeAt, Instr.sureAddr, storeVar, sizeOf, typeInfo, hi, hc, hu, hst]
namespace Kd
section
variable {P : Program} {ops : Array Oper} {rest : List Oper} {o : Oper} {a : Act} {Q : Exit → Act → World → Prop} {α : Type}
end
end Kd
theorem add_add (a : Addr) (i j : Nat) : (a.add i).add j = a.add (i + j) := by
 unfold Addr.add;by_cases h1 : i = 0 <;> by_cases h2 : j = 0 <;> simp [h1, h2, Nat.add_assoc]
namespace Kd
section
variable {α : Type} {k : Kd α} {w : World} {A : Option Addr} {xs : List α} {m c : Nat}
end
end Kd
section
variable {P : Program}
end
theorem aK {w W : World} (h : Below w.heap.size w W) : w.heap.size ≤ W.heap.size := h.size
theorem aM {w W w2 : World} (h : Below w.heap.size w W) (k : Below W.heap.size W w2) : Below w.heap.size w w2 := Ml h h.size k
theorem iV.nil (W : World) (k : IntKind) : iV W k none ([] : List Int).length [] := ⟨rfl, by simp, fun h => absurd h (Nat.lt_irrefl 0)⟩
theorem iV.drewN {W : World} {k : IntKind} {A : Option Addr} {n : Nat} {xs : List Int} (h : iV W k A n xs) (m : Nat) : iV (W.drewN m) k A n xs := h
theorem QE {w W : World} {g j : Nat} {v : Value} (h : Below w.heap.size w W) (hg : w.heap.size ≤ g) : Below w.heap.size w (W.setCell ⟨g, j, none⟩ v) := h.setCell hg _
theorem Ih {w W : World} {g : Nat} (h : iO w W g none) {a : Addr} {v : Value} (hc : w.cell? a = some v) (hne : a.block ≠ g) : W.cell? a = some v := by
 have := h.2 a.block (World.block_lt_of_cell? w a hc) hne (by simp);simpa [World.cell?, this] using hc
theorem add_block (a : Addr) (i : Nat) : (a.add i).block = a.block := by unfold Addr.add; split <;> rfl
theorem jH.nil {α : Type} (enc : α → Value) (d : α) (W : World) : jH enc d W none ([] : List α).length [] := ⟨rfl, by simp, fun h => absurd h (Nat.lt_irrefl 0)⟩
theorem jH.drewN {α : Type} {enc : α → Value} {d : α} {W : World} {A : Option Addr} {n : Nat} {xs : List α} (h : jH enc d W A n xs) (m : Nat) : jH enc d (W.drewN m) A n xs := h
theorem iV.keep {w W : World} {k : IntKind} {A : Option Addr} {n g : Nat} {xs : List Int} (h : iV w k A n xs) (hk : iO w W g none) (hf : ∀ ad, A = some ad → 0 < n → ad.block ≠ g) : iV W k A n xs :=
 ⟨h.1, h.2.1, fun hn => by
  obtain ⟨ad, e, hc⟩ := h.2.2 hn;exact ⟨ad, e, fun j hj => Ih hk (hc j hj) (by rw [add_block]; exact hf ad e hn)⟩⟩
theorem jH.keep {α : Type} {enc : α → Value} {d : α} {w W : World} {A : Option Addr} {n g : Nat} {xs : List α} (h : jH enc d w A n xs) (hk : iO w W g none) (hf : ∀ ad, A = some ad → 0 < n → ad.block ≠ g) : jH enc d W A n xs :=
 ⟨h.1, h.2.1, fun hn => by
  obtain ⟨ad, e, hc⟩ := h.2.2 hn;exact ⟨ad, e, fun j hj => Ih hk (hc j hj) (by rw [add_block]; exact hf ad e hn)⟩⟩
theorem cell_far {W : World} {p a : Addr} (h : a.block ≠ p.block) (u : Value) : (W.setCell p u).cell? a = W.cell? a := by
 have := Below.heap_setCell W p u a.block h;simp [World.cell?, this]
theorem bL {w : World} {g : Nat} {t : TypeId} {cs cs' : Array Value} (h : w.heap[g]? = some (.cells cs t (0, 0))) (i : Nat) (u : Value) (e : cs.setIfInBounds i u = cs') : (w.setCell ⟨g, i, none⟩ u).heap[g]? = some (.cells cs' t (0, 0)) := e ▸ gL h i u
theorem fK {base : Nat} {w W : World} (h : Below base w W) : Below base w W.drew := h.drew
namespace Kd
section
variable {α β : Type} {d : Kd α} {d' : Kd β} {e e' base base' n : Nat} {ok ok' : Nat → Prop} {w W w1 W1 : World} {v u : Value} {xs : List α} {ys : List β} {A : Option Addr} {c : Nat}
end
section
variable {α : Type} {enc : α → Value} {h1 : ∀ x, (enc x).oneCell' = true} {w W : World} {A : Option Addr} {n g : Nat} {xs : List α}
end
end Kd
namespace Kd
section
variable {α : Type} {d : Kd α} {e base g : Nat} {ok : Nat → Prop} {w w1 : World} {v : Value} {xs : List α} {o : Obj}
theorem uB (h : d.R e w base ok v xs) (a : Nat) (ha : w.heap.size ≤ a) : d.R e w base (fun k => ok k ∧ k ≠ a) v xs := bB (jI h) (fun k hk => ⟨hk.1, by have := hk.2.2.1; omega⟩)
theorem xU (h : d.R e w1 w.heap.size ok v xs) (hb : w.heap[g]? = some o) : d.R e w1 w.heap.size (fun k => ok k ∧ k ≠ g) v xs := bB (jI h) (fun k hk => ⟨hk.1, by have := bE hb; have := hk.2.1; omega⟩)
theorem Dg (hb : w.heap[g]? = some o) : ∀ k, w.heap.size ≤ k → k ≠ g := fun k hk => by have := bE hb; omega
end
end Kd
section
variable {P : Program} {ops : Array Oper} {rest : List Oper} {o : Oper} {a : Act} {Q : Exit → Act → World → Prop}
theorem bG {W : World} (hgd : o.guard = none) {N : Tmp} (_hd : o.dst = some N) {cs : Array Value} {t : TypeId}
  (hrun : (execOp a.eval o).run P W = .ok (.value (.pointer (some ⟨W.heap.size, 0, none⟩))) (W.alloc (.cells cs t (0, 0))))
  (h : ∀ g, g = W.heap.size → ∀ w1, w1.heap[g]? = some (.cells cs t (0, 0)) → Below W.heap.size W w1 → wpList P ops Q rest (a.put o.dst (.pointer (some ⟨g, 0, none⟩))) w1) : wpList P ops Q (o :: rest) a W :=
 Kd.Ie hgd hrun (h _ rfl _ (U3 W _) (dY (Below.refl _ _) _))
end
namespace Kd
section
variable {α : Type} {enc : α → Value} {h1 : ∀ x, (enc x).oneCell' = true} {e base g n cap : Nat} {ok : Nat → Prop} {W : World} {xs : List α}
theorem aT6 (d : α) (h : (scalar enc h1).R e W base ok (.slice (some ⟨g, 0, none⟩) n cap) xs) (i : Int) (h0 : 0 ≤ i) (hi : i < n) : W.cell? ⟨g, i.toNat, none⟩ = some (enc (ach d xs i)) ∧ W.frozen? ⟨g, i.toNat, none⟩ = false := by
 obtain ⟨rfl, _⟩ := dD h;exact aWa d h i h0 hi
theorem aUz (h : (scalar enc h1).R e W base ok (.slice (some ⟨g, 0, none⟩) n cap) xs) (i : Int) (x : α) : (scalar enc h1).R e (W.setCell ⟨g, i.toNat, none⟩ (enc x)) base ok (.slice (some ⟨g, 0, none⟩) n cap) (xs.set i.toNat x) := by
 obtain ⟨rfl, _⟩ := dD h;exact (acj h i x).1
end
end Kd
section
variable {P : Program} {ops : Array Oper} {rest : List Oper} {o : Oper} {a : Act} {Q : Exit → Act → World → Prop}
theorem auM {W w1 : World} (hgd : o.guard = none) {t : TypeId} {p : Tmp} {v : Operand} (_ho : o.op = .store t (.tmp p) v) (hN : o.dst = none)
  (hrun : (execOp a.eval o).run P W = .ok .skip w1) (h : ∀ w', w' = w1 → wpList P ops Q rest a w') : wpList P ops Q (o :: rest) a W := by
 refine wpList_plain hgd fun K hK => ?_
 unfold Oper.wp;rw [hrun];show K (a.put o.dst undef) w1;rw [hN];exact hK _ _ (h _ rfl)
end
namespace Kd
section
variable {α : Type} {enc : α → Value} {h1 : ∀ x, (enc x).oneCell' = true} {e base g n cap : Nat} {ok : Nat → Prop} {W : World} {xs : List α}
theorem zG (h : (scalar enc h1).R e W base ok (.slice (some ⟨g, 0, none⟩) n cap) xs) (i : Int) (x : α) : (scalar enc h1).R e (W.setCell ⟨g, i.toNat, none⟩ (enc x)) base ok (.slice (some ⟨g, 0, none⟩) n cap) (xs.set i.toNat x) ∧ W.grownBy (W.setCell ⟨g, i.toNat, none⟩ (enc x)) (some g) := by
 obtain ⟨rfl, _⟩ := dD h;exact acj h i x
end
end Kd
section
variable {P : Program} {ops : Array Oper} {rest : List Oper} {o : Oper} {a : Act} {Q : Exit → Act → World → Prop} {W : World}
theorem bM {N : Tmp} (_hN : o.dst = some N) (h : wpList P ops Q (o :: rest) a W) : wpList P ops Q (o :: rest) a W := h
theorem au5 {t : TypeId} {p : Tmp} {v : Operand} (_ho : o.op = .store t (.tmp p) v) (h : wpList P ops Q (o :: rest) a W) : wpList P ops Q (o :: rest) a W := h
end
section
variable {P : Program} {ops : Array Oper} {o : Oper} {a : Act} {Q : Exit → Act → World → Prop} {Kc : Act → World → Prop}
theorem Mv {W w1 : World} {v : Value} (hw : Region.wanted o (yielded ops a.tmps) = true) (hrun : (execOp a.eval o).run P W = .ok (.value v) w1) (h : Kc (a.put o.dst v) w1) : if Region.wanted o (yielded ops a.tmps) = true then Oper.wp P o a W Kc Q else Kc (a.put o.dst undef) W := by
 rw [if_pos hw];unfold Oper.wp;rw [hrun];exact h
theorem acW {W : World} (hw : Region.wanted o (yielded ops a.tmps) = true) {N : Tmp} (_hd : o.dst = some N) {cs : Array Value} {t : TypeId}
  (hrun : (execOp a.eval o).run P W = .ok (.value (.pointer (some ⟨W.heap.size, 0, none⟩))) (W.alloc (.cells cs t (0, 0))))
  (h : ∀ g, g = W.heap.size → ∀ w1, w1.heap[g]? = some (.cells cs t (0, 0)) → Below W.heap.size W w1 → Kc (a.put o.dst (.pointer (some ⟨g, 0, none⟩))) w1) : if Region.wanted o (yielded ops a.tmps) = true then Oper.wp P o a W Kc Q else Kc (a.put o.dst undef) W :=
 Mv hw hrun (h _ rfl _ (U3 W _) (dY (Below.refl _ _) _))
namespace Kd
variable {α : Type}
theorem Mw (d : Kd α) {w0 W : World} (base e : Nat) (hw : Region.wanted o (yielded ops a.tmps) = true) {N : Tmp} (_hd : o.dst = some N) {xs : List α} {inner : List Value} {ok lV : Nat → Prop}
  (hrun : (execOp a.eval o).run P W = .ok (.value (.slice (some ⟨W.heap.size, 0, none⟩) xs.length xs.length)) (W.alloc (.cells inner.toArray e)))
  (hrep : fJ (d.M W base lV) d.sz xs inner) (hok : ∀ k, lV k → ok k) (hfresh : ok W.heap.size) (HB : Below base w0 W) (hbase : base ≤ W.heap.size) (hm : xs.length ≤ 9223372036854775807)
  (h : ∀ v1 w1, d.R e w1 base ok v1 xs → Below base w0 w1 → W.grownBy w1 none → (∃ b, v1.ownBlock = some b ∧ W.heap.size ≤ b) → Kc (a.put o.dst v1) w1) : if Region.wanted o (yielded ops a.tmps) = true then Oper.wp P o a W Kc Q else Kc (a.put o.dst undef) W := by
 refine Mv hw hrun (h _ _ ⟨fun k hk => ?_, inner, ?_, ?_⟩ (HB.alloc hbase _) (World.grownBy_alloc W _ none) ⟨W.heap.size, by simp [Value.ownBlock], Nat.le_refl _⟩)
 ·have : W.heap.size = k := by simpa [Value.ownBlock] using hk
  subst this;exact hfresh
 ·have h2 := World.ownsRow_lit (base := base) (e := e) (size := d.sz) W inner.toArray xs.length hbase (by simpa [maxLen] using hm) (by simpa using hrep.1);simpa using h2
 ·refine hrep.uk (fun p c hp => d.dX (fun k hk => ⟨hok k hk.1, fun he => ?_⟩) (Oj (d.fE hp) (dY (Below.refl _ _) _)));have h3 : k = W.heap.size := by simpa [Value.ownBlock] using he
  have := hk.2.2.1;omega
theorem sN (d : Kd α) {w0 W : World} (base e : Nat) (hw : Region.wanted o (yielded ops a.tmps) = true) {N : Tmp} (hd : o.dst = some N) (t : TypeId) (x y : Operand) (ho : o.op = .makeSlice t x y) (n : Int) (hx : a.eval x = .int .i64 n) (hy : a.eval y = .int .i64 n)
  (ht : P.underlying t = some (.slice e)) (z : Value) (bytes : Nat) (hinfo : (P.info? e).map (fun i => (i.zero, i.size, i.bytes)) = some (some z, d.sz, bytes)) (hz : z.cells.size = d.sz) (hs0 : 0 < d.sz) (hb0 : 0 < bytes)
  (z0 : α) {ok lV : Nat → Prop} (hzero : d.M W base lV z0 z.cells.toList) (hok : ∀ k, lV k → ok k) (hfresh : ok W.heap.size) (h0 : 0 ≤ n) (hl : n.toNat * bytes ≤ 281474976710656) (HB : Below base w0 W) (hbase : base ≤ W.heap.size)
  (h : ∀ v1 w1, d.R e w1 base ok v1 (List.replicate n.toNat z0) → Below base w0 w1 → W.grownBy w1 none → (∃ b, v1.ownBlock = some b ∧ W.heap.size ≤ b) → Kc (a.put o.dst v1) w1) : if Region.wanted o (yielded ops a.tmps) = true then Oper.wp P o a W Kc Q else Kc (a.put o.dst undef) W := by
 obtain ⟨m, rfl⟩ := Int.eq_ofNat_of_zero_le h0;simp only [Int.toNat_natCast] at hl h;obtain ⟨i0, hi, hzz⟩ := Option.map_eq_some_iff.1 hinfo;simp only [Prod.mk.injEq] at hzz;obtain ⟨hz0, hz1, hz2⟩ := hzz;have hm : m ≤ 281474976710656 := Nat.le_trans (Nat.le_mul_of_pos_right _ hb0) hl;have hr := run_make (P := P) W t e i0 z ht hi hz0 .i64 .i64 (m : Int) (m : Int) (by omega) (by omega)
  (by
   have h3 : ((i0.bytes * m : Nat) : Int) ≤ 281474976710656 := by rw [hz2, Nat.mul_comm]; omega
   rwa [Int.natCast_mul] at h3) (by omega)
 simp only [Int.toNat_natCast] at hr;rw [hz1] at hr;refine Mw d base e hw hd (xs := List.replicate m z0) (inner := (madeCells z.cells (m * d.sz)).toList) (lV := lV) (ok := ok) ?_ (Ig hz hs0 hzero m) hok hfresh HB hbase (by simp; omega) h;simp [execOp, ho, hx, hy, hr]
end Kd
end
inductive Sq (P : Program) (tmps : Array Value) (w : World) : List ResultVar → List Value → Prop where
 | nil : Sq P tmps w [] []
 | tmp {u : Tmp} {rs : List ResultVar} {vs : List Value} (h : Sq P tmps w rs vs) : Sq P tmps w (.tmp u :: rs) (tmps.getD u undef :: vs)
 | cell {p : Tmp} {ty : TypeId} {rs : List ResultVar} {vs : List Value} (g : Nat) (t : TypeId) (cs : Array Value) (fr : Nat × Nat) (d : TypeDesc)
   (hp : tmps.getD p undef = .pointer (some ⟨g, 0, none⟩)) (hg : w.heap[g]? = some (.cells cs t fr))
   (hu : P.underlying ty = some d) (hd : (match d with | .struct _ | .array _ _ => true | _ => false) = true) (hi : (P.info? ty).map (·.size) = some cs.size)
   (h : Sq P tmps w rs vs) : Sq P tmps w (.cell p ty :: rs) (.agg cs :: vs)
section
variable {P : Program} {tmps : Array Value} {w : World}
end
namespace Kd
section
variable {P : Program} {α : Type}
end
section
variable {P : Program} {ops : Array Oper} {rest : List Oper} {o : Oper} {a : Act} {Q : Exit → Act → World → Prop} {Kc : Act → World → Prop} {α : Type}
end
end Kd
end Go.Proofs.YtamimodkcbbpmaaW.PrintWords
end
section
namespace Go.Proofs.YtamimodkcbbpmaaW.PrintLast
section
variable {P : Program} {ops : Array Oper} {Q : Exit → Act → World → Prop} {md : Region.Mode} {S : World → Prop} {ds : List Nat}
def Region.pX (md : Region.Mode) (ops : Array Oper) (i : Nat) : Nat → Nat → Bool
 | 0, _ => false
 | fuel + 1, d => match ops[d]? with
  | some o => o.after.any fun e => Region.binds md e && (e.on == i || Region.pX md ops i fuel e.on)
  | none => false
def Region.zY (md : Region.Mode) (ops : Array Oper) (listed : Array Bool) : Bool :=
 (List.range ops.size).all fun j => !listed.getD j false || match ops[j]? with
  | some o => o.after.all fun e => !Region.binds md e || listed.getD e.on false
  | none => true
def Region.lastB (md : Region.Mode) (ops : Array Oper) (listed : Array Bool) (ds : List Nat) (i : Nat) : Bool :=
 ds.all fun d => listed.getD d true || Region.pX md ops i ops.size d
def kI (md : Region.Mode) (ops : Array Oper) (listed : Array Bool) : Prop :=
 ∀ j oj, ops[j]? = some oj → listed.getD j false = true → ∀ e ∈ oj.after, Region.binds md e = true → listed.getD e.on false = true
theorem Region.I9 {listed : Array Bool} (h : Region.zY md ops listed = true) : kI md ops listed := by
 intro j oj hj hl e he hb;have hlt : j < ops.size := (Array.getElem?_eq_some_iff.1 hj).1;have h1 := List.all_eq_true.1 h j (List.mem_range.2 hlt);simp only [hl, hj, Bool.not_true, Bool.false_or] at h1;have h2 := Array.all_eq_true_iff_forall_mem.1 h1 e he;simpa [hb] using h2
theorem kI.set {listed : Array Bool} {i : Nat} (h : kI md ops listed) (hi : i ∈ Region.ready md ops listed) : kI md ops (listed.setIfInBounds i true) := by
 obtain ⟨_, oi, hoi, hall⟩ := mem_ready.1 hi;intro j oj hj hl e he hb;by_cases hij : i = j
 ·subst hij;have : oj = oi := Option.some.inj (hj.symm.trans hoi);subst this;exact getD_set_true (hall e he hb)
 ·rw [getD_set_ne false hij] at hl;exact getD_set_true (h j oj hj hl e he hb)
theorem Region.zZ {listed : Array Bool} {i : Nat} (hc : kI md ops listed) : ∀ (fuel d : Nat), Region.pX md ops i fuel d = true → listed.getD d false = true → listed.getD i false = true
 | 0, _, h, _ => by simp [Region.pX] at h
 | fuel + 1, d, h, hl => by
  unfold Region.pX at h
  cases ho : ops[d]? with
  | none => rw [ho] at h; simp at h
  | some o =>
   rw [ho] at h;obtain ⟨e, he, h1⟩ := Array.any_eq_true'.1 h;simp only [Bool.and_eq_true, Bool.or_eq_true, beq_iff_eq] at h1;have hle := hc d o ho hl e he h1.1;rcases h1.2 with h2 | h2
   ·rw [← h2]; exact hle
   ·exact Region.zZ hc fuel e.on h2 hle
theorem Region.EN {listed : Array Bool} {i d fuel : Nat} (hc : kI md ops listed) (hr : Region.pX md ops i fuel d = true) (hun : listed.getD i true = false) : d ∉ Region.ready md ops listed := by
 intro hd;obtain ⟨_, o, ho, hall⟩ := mem_ready.1 hd;have hi : listed.getD i false = true := by
  cases fuel with
  | zero => simp [Region.pX] at hr
  | succ n =>
   unfold Region.pX at hr;rw [ho] at hr;obtain ⟨e, he, h1⟩ := Array.any_eq_true'.1 hr;simp only [Bool.and_eq_true, Bool.or_eq_true, beq_iff_eq] at h1;have hle := hall e he h1.1;rcases h1.2 with h2 | h2
   ·rw [← h2]; exact hle
   ·exact Region.zZ hc n e.on h2 hle
 rcases Nat.lt_or_ge i listed.size with h' | h'
 ·simp [h'] at hun hi
  rw [hun] at hi
  cases hi
 ·simp [Array.getElem?_eq_none h'] at hun
def bZ (P : Program) (md : Region.Mode) (ops : Array Oper) (Q : Exit → Act → World → Prop) (S : World → Prop) (ds : List Nat) : Nat → Array Bool → Act → World → Prop
 | 0, listed, a, w => Region.ready md ops listed = [] ∧ Q .normal a w
 | fuel + 1, listed, a, w =>
  (Region.ready md ops listed = [] → Q .normal a w) ∧
  ∀ i ∈ Region.ready md ops listed, wpOp P ops Q i (fun a' w' => (i ∉ ds → S w → S w') ∧ bZ P md ops Q S ds fuel (listed.setIfInBounds i true) a' w') a w
theorem zw : ∀ (fuel : Nat) (listed : Array Bool) (a : Act) (w : World), bZ P md ops Q S ds fuel listed a w → wpAny P md ops Q fuel listed a w
 | 0, _, _, _, h => h
 | fuel + 1, _, _, _, h => ⟨h.1, fun i hi => wpOp_mono (fun a' w' h' => zw fuel _ a' w' h'.2) (h.2 i hi)⟩
theorem EO {i : Nat} {oi : Oper} {v : Value} (hi : ops[i]? = some oi) (hsel : ∀ (j : Nat) (o : Oper) cs b, ops[j]? = some o → o.op ≠ .select cs b)
  (hQ : ∀ c a w, Q (.panic c) (a.put oi.dst v) w → Q (.panic c) a w) (n : Nat) :
  ∀ (fuel : Nat) (listed : Array Bool) (a : Act) (w : World),
   (∀ j oj, ops[j]? = some oj → j ≠ i → listed.getD j true = false → (∀ e ∈ oj.after, Region.binds md e = true → e.on ≠ i) → oi.apart ops oj = true) →
   kI md ops listed → (∀ d ∈ ds, listed.getD d true = false → Region.pX md ops i n d = true) →
   i ∈ Region.ready md ops listed → YieldsIf P ops S oi v a → S w →
   bZ P md ops Q S ds fuel (listed.setIfInBounds i true) (a.put oi.dst v) w → bZ P md ops Q S ds (fuel + 1) listed a w := by
 intro fuel;induction fuel with
 | zero =>
  intro listed a w _ _ _ hr hy hS H;refine ⟨fun h => (by rw [h] at hr; cases hr), fun j hj => ?_⟩;by_cases hji : j = i
  ·subst hji; exact hy.wpOp hi hS ⟨fun _ h => h, H⟩
  ·have := ready_mono hj hji;rw [H.1] at this
   cases this
 | succ fuel ih =>
  intro listed a w hfree hc hd hr hy hS H;refine ⟨fun h => (by rw [h] at hr; cases hr), fun j hj => ?_⟩;by_cases hji : j = i
  ·subst hji; exact hy.wpOp hi hS ⟨fun _ h => h, H⟩
  ·have h1 := H.2 j (ready_mono hj hji);obtain ⟨hjun, oj, hoj, hall⟩ := mem_ready.1 hj;have QG := (mem_ready.1 hr).1;have hnot : ∀ e ∈ oj.after, Region.binds md e = true → e.on ≠ i := fun e he hb heq => by
    have h1 := hall e he hb;rw [heq] at h1;rcases Nat.lt_or_ge i listed.size with h' | h'
    ·simp [h'] at QG h1; rw [QG] at h1; cases h1
    ·simp [Array.getElem?_eq_none h'] at h1
   have hjd : j ∉ ds := fun hm => Region.EN hc (hd j hm hjun) QG hj
   have h2 := wpOp_putIf hoj (hfree j oj hoj hji hjun hnot) (fun cs b => hsel i oi cs b hi) (fun cs b => hsel j oj cs b hoj) hQ hy h1;have hfree' : ∀ k ok, ops[k]? = some ok → k ≠ i → (listed.setIfInBounds j true).getD k true = false →
     (∀ e ∈ ok.after, Region.binds md e = true → e.on ≠ i) → oi.apart ops ok = true := fun k ok hk hki hun hno => by
    refine hfree k ok hk hki ?_ hno;by_cases hjk : j = k
    ·subst hjk; exact hjun
    ·rw [getD_set_ne true hjk] at hun; exact hun
   have hd' : ∀ d ∈ ds, (listed.setIfInBounds j true).getD d true = false → Region.pX md ops i n d = true := fun d hm hun => by
    refine hd d hm ?_;by_cases hjk : j = d
    ·subst hjk; exact hjun
    ·rw [getD_set_ne true hjk] at hun; exact hun
   refine wpOp_mono (fun a' w' h3 => ⟨h3.2.1, ih (listed.setIfInBounds j true) a' w' hfree' (hc.set hj) hd' (ready_mono hr (Ne.symm hji)) h3.1 (h3.2.1 hjd hS) ?_⟩) h2;rw [Array.setIfInBounds_comm _ _ hji];exact h3.2.2
theorem G9 {i : Nat} {oi : Oper} {v : Value} (hi : ops[i]? = some oi) (hsel : ∀ (j : Nat) (o : Oper) cs b, ops[j]? = some o → o.op ≠ .select cs b)
  (hQ : ∀ c a w, Q (.panic c) (a.put oi.dst v) w → Q (.panic c) a w) :
  ∀ (fuel : Nat) (listed : Array Bool) (a : Act) (w : World),
   (∀ j oj, ops[j]? = some oj → j ≠ i → listed.getD j true = false → (∀ e ∈ oj.after, Region.binds md e = true → e.on ≠ i) → oi.apart ops oj = true) →
   i ∈ Region.ready md ops listed → Yields P ops oi v a →
   bZ P md ops Q S ds fuel (listed.setIfInBounds i true) (a.put oi.dst v) w → bZ P md ops Q S ds (fuel + 1) listed a w := by
 intro fuel;induction fuel with
 | zero =>
  intro listed a w _ hr hy H;refine ⟨fun h => (by rw [h] at hr; cases hr), fun j hj => ?_⟩;by_cases hji : j = i
  ·subst hji; exact (hy.yieldsIf (S := fun _ => True)).wpOp hi trivial ⟨fun _ h => h, H⟩
  ·have := ready_mono hj hji;rw [H.1] at this
   cases this
 | succ fuel ih =>
  intro listed a w hfree hr hy H;refine ⟨fun h => (by rw [h] at hr; cases hr), fun j hj => ?_⟩;by_cases hji : j = i
  ·subst hji; exact (hy.yieldsIf (S := fun _ => True)).wpOp hi trivial ⟨fun _ h => h, H⟩
  ·have h1 := H.2 j (ready_mono hj hji);obtain ⟨hjun, oj, hoj, hall⟩ := mem_ready.1 hj;have QG := (mem_ready.1 hr).1;have hnot : ∀ e ∈ oj.after, Region.binds md e = true → e.on ≠ i := fun e he hb heq => by
    have h1 := hall e he hb;rw [heq] at h1;rcases Nat.lt_or_ge i listed.size with h' | h'
    ·simp [h'] at QG h1; rw [QG] at h1; cases h1
    ·simp [Array.getElem?_eq_none h'] at h1
   have h2 := wpOp_put hoj (hfree j oj hoj hji hjun hnot) (fun cs b => hsel i oi cs b hi) (fun cs b => hsel j oj cs b hoj) hQ hy h1;have hfree' : ∀ k ok, ops[k]? = some ok → k ≠ i → (listed.setIfInBounds j true).getD k true = false →
     (∀ e ∈ ok.after, Region.binds md e = true → e.on ≠ i) → oi.apart ops ok = true := fun k ok hk hki hun hno => by
    refine hfree k ok hk hki ?_ hno;by_cases hjk : j = k
    ·subst hjk; exact hjun
    ·rw [getD_set_ne true hjk] at hun; exact hun
   refine wpOp_mono (fun a' w' h3 => ⟨h3.2.1, ih (listed.setIfInBounds j true) a' w' hfree' (ready_mono hr (Ne.symm hji)) h3.1 ?_⟩) h2;rw [Array.setIfInBounds_comm _ _ hji];exact h3.2.2
theorem FM {i : Nat} {oi : Oper} {v : Value} {fuel : Nat} {listed : Array Bool} {a : Act} {w : World} (hi : ops[i]? = some oi)
  (hs : Region.noSelect ops = true) (hf : Region.free md ops listed i = true) (hr : (Region.ready md ops listed).contains i = true)
  (hc : Region.zY md ops listed = true) (hl : Region.lastB md ops listed ds i = true)
  (hQ : ∀ c a w, Q (.panic c) (a.put oi.dst v) w → Q (.panic c) a w) (hy : YieldsIf P ops S oi v a) (hS : S w)
  (h : bZ P md ops Q S ds fuel (listed.setIfInBounds i true) (a.put oi.dst v) w) : bZ P md ops Q S ds (fuel + 1) listed a w :=
 EO hi (Region.noSelect_spec hs) hQ ops.size fuel listed a w (Region.free_spec hi hf) (Region.I9 hc)
  (fun d hm hun => by have := List.all_eq_true.1 hl d hm; rw [hun] at this; simpa using this) (by simpa using hr) hy hS h
theorem Ha {rs : List Nat} {fuel : Nat} {listed : Array Bool} {a : Act} {w : World} (hr : Region.ready md ops listed = rs) (hne : rs ≠ [])
  (h : ∀ i ∈ rs, wpOp P ops Q i (fun a' w' => (i ∉ ds → S w → S w') ∧ bZ P md ops Q S ds fuel (listed.setIfInBounds i true) a' w') a w) : bZ P md ops Q S ds (fuel + 1) listed a w :=
 ⟨fun h0 => absurd (hr ▸ h0) hne, hr ▸ h⟩
theorem FN {listed : Array Bool} {a : Act} {w : World} (hr : Region.ready md ops listed = []) (h : Q .normal a w) :
  ∀ fuel, bZ P md ops Q S ds fuel listed a w
 | 0 => ⟨hr, h⟩
 | _ + 1 => ⟨fun _ => h, by rw [hr]; simp⟩
theorem FO {id : Nat} {a : Act} {w : World} (hm : P.follows .mixedOrders = true)
  (h : bZ P .any ops Q S ds ops.size (Array.replicate ops.size false) a { w with drawn := w.drawn + 1 }) : (Code.region id ops true).wp P Q a w :=
 wp_region_any hm (zw _ _ _ _ h)
end
section
variable {P : Program} {ops : Array Oper} {Q : Exit → Act → World → Prop} {md : Region.Mode} {S : World → Prop} {ds : List Nat}
def eU (P : Program) (md : Region.Mode) (ops : Array Oper) (Q : Exit → Act → World → Prop) (S : World → Prop) (ds : List Nat) (fuel : Nat) (listed : Array Bool) (a : Act) (w : World) (rs : List Nat) : Prop :=
 ∀ i ∈ rs, wpOp P ops Q i (fun a' w' => (i ∉ ds → S w → S w') ∧ bZ P md ops Q S ds fuel (listed.setIfInBounds i true) a' w') a w
theorem eU.nil {fuel : Nat} {listed : Array Bool} {a : Act} {w : World} : eU P md ops Q S ds fuel listed a w [] := fun _ h => by cases h
theorem eU.cons {fuel : Nat} {listed : Array Bool} {a : Act} {w : World} {i : Nat} {o : Oper} {rs : List Nat} (ho : ops[i]? = some o) (hd : i ∉ ds)
  (h : ∀ K' : Act → World → Prop, Shut (∀ a w, S w → (S w → bZ P md ops Q S ds fuel (listed.setIfInBounds i true) a w) → K' a w) → if Region.wanted o (yielded ops a.tmps) = true then Oper.wp P o a w K' Q else K' (a.put o.dst undef) w)
  (hs : eU P md ops Q S ds fuel listed a w rs) : eU P md ops Q S ds fuel listed a w (i :: rs) := fun j hj => by
 rcases List.mem_cons.1 hj with rfl | hj
 ·exact wpOp_step ho (fun K' hK => h K' (fun a w hS hW => hK a w ⟨fun _ _ => hS, hW hS⟩))
 ·exact hs j hj
theorem eU.QH {fuel : Nat} {listed : Array Bool} {a : Act} {w : World} {i : Nat} {o : Oper} {rs : List Nat} (ho : ops[i]? = some o) (hd : i ∈ ds)
  (h : ∀ K' : Act → World → Prop, Shut (∀ a w, bZ P md ops Q S ds fuel (listed.setIfInBounds i true) a w → K' a w) → if Region.wanted o (yielded ops a.tmps) = true then Oper.wp P o a w K' Q else K' (a.put o.dst undef) w)
  (hs : eU P md ops Q S ds fuel listed a w rs) : eU P md ops Q S ds fuel listed a w (i :: rs) := fun j hj => by
 rcases List.mem_cons.1 hj with rfl | hj
 ·exact wpOp_step ho (fun K' hK => h K' (fun a w hW => hK a w ⟨fun hn => absurd hd hn, hW⟩))
 ·exact hs j hj
theorem kU {rs : List Nat} {fuel : Nat} {listed : Array Bool} {a : Act} {w : World} (hr : Region.ready md ops listed = rs) (hne : rs ≠ [])
  (h : eU P md ops Q S ds fuel listed a w rs) : bZ P md ops Q S ds (fuel + 1) listed a w := Ha hr hne h
theorem fu {id n : Nat} {a : Act} {w : World} (l : Array Bool) (hm : P.follows .mixedOrders = true) (hn : ops.size = n) (hl : Array.replicate n false = l) (hS : S w.drew)
  (h : S w.drew → bZ P .any ops Q S ds n l a w.drew) : (Code.region id ops true).wp P Q a w := by
 subst hn;subst hl;exact FO hm (h hS)
def takeB (md : Region.Mode) (ops : Array Oper) (ds : List Nat) (l l' : Array Bool) (i : Nat) : Bool :=
 Region.noSelect ops && Region.free md ops l i && (Region.ready md ops l).contains i && Region.zY md ops l && Region.lastB md ops l ds i && (l.setIfInBounds i true == l')
theorem Eg {i : Nat} {N : Option Tmp} {oi : Oper} {v : Value} {fuel : Nat} {l : Array Bool} {a : Act} {w : World} (l' : Array Bool) (hi : ops[i]? = some oi) (hN : oi.dst = N) (hc : takeB md ops ds l l' i = true)
  (hQ : ∀ c a w, Q (.panic c) (a.put oi.dst v) w → Q (.panic c) a w) (hy : YieldsIf P ops S oi v a) (hS : S w) {a' : Act} (ha : a.put N v = a')
  (h : bZ P md ops Q S ds fuel l' a' w) : bZ P md ops Q S ds (fuel + 1) l a w := by
 subst ha;subst hN;simp only [takeB, Bool.and_eq_true, beq_iff_eq] at hc;obtain ⟨⟨⟨⟨⟨h1, h2⟩, h3⟩, h4⟩, h5⟩, h6⟩ := hc;subst h6;exact FM hi h1 h2 h3 h4 h5 hQ hy hS h
def Sr (md : Region.Mode) (ops : Array Oper) (l l' : Array Bool) (i : Nat) : Bool :=
 Region.noSelect ops && Region.free md ops l i && (Region.ready md ops l).contains i && (l.setIfInBounds i true == l')
theorem arz {i : Nat} {N : Option Tmp} {oi : Oper} {v : Value} {fuel : Nat} {l : Array Bool} {a : Act} {w : World} (l' : Array Bool) (hi : ops[i]? = some oi) (hN : oi.dst = N) (hc : Sr md ops l l' i = true)
  (hQ : ∀ c a w, Q (.panic c) (a.put oi.dst v) w → Q (.panic c) a w) (hy : Yields P ops oi v a) {a' : Act} (ha : a.put N v = a')
  (h : bZ P md ops Q S ds fuel l' a' w) : bZ P md ops Q S ds (fuel + 1) l a w := by
 subst ha;subst hN;simp only [Sr, Bool.and_eq_true, beq_iff_eq] at hc;obtain ⟨⟨⟨h1, h2⟩, h3⟩, h6⟩ := hc;subst h6;exact G9 hi (Region.noSelect_spec h1) hQ fuel l a w (Region.free_spec hi h2) (by simpa using h3) hy h
def Dh (md : Region.Mode) (ops : Array Oper) (l l' : Array Bool) (i : Nat) : Bool := (Region.ready md ops l == [i]) && (l.setIfInBounds i true == l')
theorem fT {i : Nat} {N : Option Tmp} {oi : Oper} {fuel : Nat} {l : Array Bool} {a : Act} {w : World} (l' : Array Bool) (hi : ops[i]? = some oi) (hN : oi.dst = N) (hc : Dh md ops l l' i = true) (hd : i ∉ ds)
  (h : ∀ K : Act → World → Prop, Shut (∀ a' w', S w' → (S w' → bZ P md ops Q S ds fuel l' a' w') → K a' w') → if Region.wanted oi (yielded ops a.tmps) = true then Oper.wp P oi a w K Q else K (a.put N undef) w) :
  bZ P md ops Q S ds (fuel + 1) l a w := by
 subst hN;simp only [Dh, Bool.and_eq_true, beq_iff_eq] at hc;obtain ⟨h1, h2⟩ := hc;subst h2;exact kU h1 (by simp) (eU.cons hi hd (fun K hK => h K hK) eU.nil)
theorem El {i : Nat} {N : Option Tmp} {oi : Oper} {fuel : Nat} {l : Array Bool} {a : Act} {w : World} (l' : Array Bool) (hi : ops[i]? = some oi) (hN : oi.dst = N) (hc : Dh md ops l l' i = true) (hd : i ∈ ds)
  (h : ∀ K : Act → World → Prop, Shut (∀ a' w', bZ P md ops Q S ds fuel l' a' w' → K a' w') → if Region.wanted oi (yielded ops a.tmps) = true then Oper.wp P oi a w K Q else K (a.put N undef) w) :
  bZ P md ops Q S ds (fuel + 1) l a w := by
 subst hN;simp only [Dh, Bool.and_eq_true, beq_iff_eq] at hc;obtain ⟨h1, h2⟩ := hc;subst h2;exact kU h1 (by simp) (eU.QH hi hd (fun K hK => h K hK) eU.nil)
theorem gH {l : Array Bool} {a : Act} {w : World} {n : Nat} (hr : (Region.ready md ops l == []) = true) (h : Q .normal a w) : bZ P md ops Q S ds n l a w := FN (by simpa using hr) h n
theorem z8 {i j : Nat} {Ni Nj : Option Tmp} {oi oj : Oper} {fuel : Nat} {l : Array Bool} {a : Act} {w : World} (li lj : Array Bool) (hi : ops[i]? = some oi) (hj : ops[j]? = some oj) (hNi : oi.dst = Ni) (hNj : oj.dst = Nj)
  (hc : (Region.ready md ops l == [i, j] && l.setIfInBounds i true == li && l.setIfInBounds j true == lj) = true) (hdi : i ∉ ds) (hdj : j ∉ ds)
  (h1 : ∀ K : Act → World → Prop, Shut (∀ a' w', S w' → (S w' → bZ P md ops Q S ds fuel li a' w') → K a' w') → if Region.wanted oi (yielded ops a.tmps) = true then Oper.wp P oi a w K Q else K (a.put Ni undef) w)
  (h2 : ∀ K : Act → World → Prop, Shut (∀ a' w', S w' → (S w' → bZ P md ops Q S ds fuel lj a' w') → K a' w') → if Region.wanted oj (yielded ops a.tmps) = true then Oper.wp P oj a w K Q else K (a.put Nj undef) w) :
  bZ P md ops Q S ds (fuel + 1) l a w := by
 subst hNi;subst hNj;simp only [Bool.and_eq_true, beq_iff_eq] at hc;obtain ⟨⟨h3, h4⟩, h5⟩ := hc;subst h4;subst h5;exact kU h3 (by simp) (eU.cons hi hdi (fun K hK => h1 K hK) (eU.cons hj hdj (fun K hK => h2 K hK) eU.nil))
theorem Ja {i j k : Nat} {Ni Nj Nk : Option Tmp} {oi oj ok : Oper} {fuel : Nat} {l : Array Bool} {a : Act} {w : World} (li lj lk : Array Bool) (hi : ops[i]? = some oi) (hj : ops[j]? = some oj) (hk : ops[k]? = some ok) (hNi : oi.dst = Ni) (hNj : oj.dst = Nj) (hNk : ok.dst = Nk)
  (hc : (Region.ready md ops l == [i, j, k] && l.setIfInBounds i true == li && l.setIfInBounds j true == lj && l.setIfInBounds k true == lk) = true) (hdi : i ∉ ds) (hdj : j ∉ ds) (hdk : k ∉ ds)
  (h1 : ∀ K : Act → World → Prop, Shut (∀ a' w', S w' → (S w' → bZ P md ops Q S ds fuel li a' w') → K a' w') → if Region.wanted oi (yielded ops a.tmps) = true then Oper.wp P oi a w K Q else K (a.put Ni undef) w)
  (h2 : ∀ K : Act → World → Prop, Shut (∀ a' w', S w' → (S w' → bZ P md ops Q S ds fuel lj a' w') → K a' w') → if Region.wanted oj (yielded ops a.tmps) = true then Oper.wp P oj a w K Q else K (a.put Nj undef) w)
  (h3 : ∀ K : Act → World → Prop, Shut (∀ a' w', S w' → (S w' → bZ P md ops Q S ds fuel lk a' w') → K a' w') → if Region.wanted ok (yielded ops a.tmps) = true then Oper.wp P ok a w K Q else K (a.put Nk undef) w) :
  bZ P md ops Q S ds (fuel + 1) l a w := by
 subst hNi;subst hNj;subst hNk;simp only [Bool.and_eq_true, beq_iff_eq] at hc;obtain ⟨⟨⟨h4, h5⟩, h6⟩, h7⟩ := hc;subst h5;subst h6;subst h7;exact kU h4 (by simp) (eU.cons hi hdi (fun K hK => h1 K hK) (eU.cons hj hdj (fun K hK => h2 K hK) (eU.cons hk hdk (fun K hK => h3 K hK) eU.nil)))
def gz : Act → List (Tmp × Value) → Act
 | a, [] => a
 | a, (n, v) :: r => gz (a.put (some n) v) r
theorem XT {σ : Type} {fuel : Nat} {l : Array Bool} {a : Act} {w : World} (fuel' : Nat) (l' : Array Bool) (ns : σ → List (Tmp × Value)) (F : σ → World → Prop)
  (hcont : ∀ s w', F s w' → bZ P md ops Q S ds fuel' l' (gz a (ns s)) w')
  (h : (∀ s w', F s w' → bZ P md ops Q S ds fuel' l' (gz a (ns s)) w') → bZ P md ops Q S ds fuel l a w) : bZ P md ops Q S ds fuel l a w := h hcont
theorem bS {fuel : Nat} {l : Array Bool} {a a' : Act} {w : World} (ha : a = a') (h : bZ P md ops Q S ds fuel l a' w) : bZ P md ops Q S ds fuel l a w := by
 subst ha;exact h
theorem call_ {oi : Oper} {N : Option Tmp} {a : Act} {w : World} {K : Act → World → Prop} (f : FuncId) (args : Array Value) (hw : Region.wanted oi (yielded ops a.tmps) = true) (hN : oi.dst = N) (hrun : (execOp a.eval oi).run P w = .ok (.enter f args) w)
  (h : Calls P f args w fun e w' => ∃ v, e = .returned v ∧ K (a.put N v) w') : if Region.wanted oi (yielded ops a.tmps) = true then Oper.wp P oi a w K Q else K (a.put N undef) w := by
 rw [if_pos hw];subst hN;unfold Oper.wp;rw [hrun, Oper.upon_enter];refine h.mono fun e w'' hh => ?_
 obtain ⟨v, rfl, hk⟩ := hh;exact hk
theorem kJ {f : FuncId} {fn : Func} (hf : P.funcs[f]? = some fn) (hname : (fn.name == "runtime.NumGoroutine") = false) (hb : fn.body.isSome = true) (args : Array Value) (w : World) : (callFunc f args).run P w = .ok (.enter f args) w := by
 have h1 : fn.name ≠ "runtime.NumGoroutine" := by simpa using hname
 obtain ⟨c, hc⟩ := Option.isSome_iff_exists.1 hb;simp [callFunc, hf, h1, hc]
theorem uC {oi : Oper} {N : Option Tmp} {a : Act} {w : World} {K : Act → World → Prop} {f : FuncId} {fn : Func} {as : Array Operand} {ts : Array TypeId} (hf : P.funcs[f]? = some fn) (hname : (fn.name == "runtime.NumGoroutine") = false) (hb : fn.body.isSome = true) (args : Array Value)
  (hw : Region.wanted oi (yielded ops a.tmps) = true) (hN : oi.dst = N) (hop : oi.op = .call { callee := .value (.func f), args := as, argTypes := ts }) (hargs : as.map a.eval = args)
  (h : Calls P f args w fun e w' => ∃ v, e = .returned v ∧ K (a.put N v) w') : if Region.wanted oi (yielded ops a.tmps) = true then Oper.wp P oi a w K Q else K (a.put N undef) w := by
 refine call_ f args hw hN ?_ h;have he := kJ hf hname hb args w;unfold execOp;simp [hop, resolve, Deferred.ofValue, invoke, Act.eval, hargs, he]
theorem iB {rest : List Oper} {oi : Oper} {a : Act} {w : World} (N : Option Tmp) (hd : oi.dst = N) (hg : oi.guard = none) {f : FuncId} {fn : Func} {as : Array Operand} {ts : Array TypeId} (hf : P.funcs[f]? = some fn) (hname : (fn.name == "runtime.NumGoroutine") = false) (hb : fn.body.isSome = true) (args : Array Value)
  (hop : oi.op = .call { callee := .value (.func f), args := as, argTypes := ts }) (hargs : as.map a.eval = args)
  (h : Calls P f args w fun e w' => ∃ v, e = .returned v ∧ wpList P ops Q rest (a.put N v) w') : wpList P ops Q (oi :: rest) a w := by
 refine wpList_plain hg fun K hK => ?_
 have he := kJ hf hname hb args w;have hrun : (execOp a.eval oi).run P w = .ok (.enter f args) w := by
  unfold execOp;simp [hop, resolve, Deferred.ofValue, invoke, Act.eval, hargs, he]
 unfold Oper.wp;rw [hrun, Oper.upon_enter];refine h.mono fun e w'' hh => ?_
 obtain ⟨v, rfl, hk⟩ := hh;subst hd;exact hK _ _ hk
theorem pY {oi : Oper} {N : Option Tmp} {a : Act} {w w1 : World} {v : Value} {K : Act → World → Prop} (hw : Region.wanted oi (yielded ops a.tmps) = true) (hN : oi.dst = N) (hrun : (execOp a.eval oi).run P w = .ok (.value v) w1)
  (h : K (a.put N v) w1) : if Region.wanted oi (yielded ops a.tmps) = true then Oper.wp P oi a w K Q else K (a.put N undef) w := by
 rw [if_pos hw];subst hN;unfold Oper.wp;rw [hrun];exact h
theorem rV {oi : Oper} {a : Act} {w w1 : World} {K : Act → World → Prop} (hw : Region.wanted oi (yielded ops a.tmps) = true) (hN : oi.dst = none) (hrun : (execOp a.eval oi).run P w = .ok .skip w1)
  (h : K a w1) : if Region.wanted oi (yielded ops a.tmps) = true then Oper.wp P oi a w K Q else K (a.put none undef) w := by
 rw [if_pos hw];unfold Oper.wp;rw [hrun];show K (a.put oi.dst undef) w1;rw [hN];exact h
theorem bH (n : Int) : IntKind.i64.wrap n = Go.RowKit.wrap64 n := by unfold Go.RowKit.wrap64; exact IntKind.wrap_i64 n
theorem bI (n : Int) : IntKind.i32.wrap n = Go.RowKit.wrap32 n := by unfold Go.RowKit.wrap32; exact IntKind.wrap_i32 n
end
end Go.Proofs.YtamimodkcbbpmaaW.PrintLast
end
section
namespace Go.Proofs.YtamimodkcbbpmaaW.PrintLast
open Go.Proofs.YtamimodkcbbpmaaW.PrintWords (aa)
def yH (md : Region.Mode) (o : Oper) : List Nat := (o.after.toList.filter (fun e => Region.binds md e)).map (fun e => e.on)
def Jb (md : Region.Mode) (ops : Array Oper) (i : Nat) (oi : Oper) : List Nat := (List.range ops.size).filter fun j => !(j == i) && match ops[j]? with
 | some oj => !(oj.after.any (fun e => Region.binds md e && e.on == i) || oi.apart ops oj)
 | none => false
def iC (md : Region.Mode) (ops : Array Oper) : Bool × List (List Nat × List Nat) := (Region.noSelect ops, (List.range ops.size).map fun i => match ops[i]? with
 | some o => (yH md o, Jb md ops i o)
 | none => ([], []))
def sO (T : List (List Nat × List Nat)) (l : List Bool) (i : Nat) : Bool := !l.getD i true && match T[i]? with
 | some r => r.1.all (fun j => l.getD j false)
 | none => false
def vJ (T : List (List Nat × List Nat)) (l : List Bool) : List Nat := (List.range T.length).filter (sO T l)
def KN (T : List (List Nat × List Nat)) (l : List Bool) (i : Nat) : Bool := match T[i]? with
 | some r => r.2.all (fun j => l.getD j true)
 | none => false
def EX (T : List (List Nat × List Nat)) (l : List Bool) : Bool := (List.range T.length).all fun j => !l.getD j false || match T[j]? with
 | some r => r.1.all (fun k => l.getD k false)
 | none => true
def Di (T : List (List Nat × List Nat)) (i : Nat) : Nat → Nat → Bool
 | 0, _ => false
 | fuel + 1, d => match T[d]? with
  | some r => r.1.any fun j => j == i || Di T i fuel j
  | none => false
def lastT (T : List (List Nat × List Nat)) (l : List Bool) (ds : List Nat) (i : Nat) : Bool := ds.all fun d => l.getD d true || Di T i T.length d
section
variable {md : Region.Mode} {ops : Array Oper} {T : Bool × List (List Nat × List Nat)} {l l' li lj lk : Array Bool} {ds : List Nat} {i j k : Nat}
theorem gd (l : Array Bool) (j : Nat) (b : Bool) : l.getD j b = l.toList.getD j b := by simp [Array.getD_eq_getD_getElem?, List.getD_eq_getElem?_getD]
theorem Ii (o : Oper) (p : Nat → Bool) : o.after.all (fun e => !Region.binds md e || p e.on) = (yH md o).all p := by
 unfold yH;rw [← Array.all_toList];induction o.after.toList with
 | nil => rfl
 | cons e r ih =>
  rw [List.all_cons, ih, List.filter_cons]
  cases h : Region.binds md e <;> simp
theorem QI (o : Oper) (p : Nat → Bool) : o.after.any (fun e => Region.binds md e && p e.on) = (yH md o).any p := by
 unfold yH;rw [← Array.any_toList];induction o.after.toList with
 | nil => rfl
 | cons e r ih =>
  rw [List.any_cons, ih, List.filter_cons]
  cases h : Region.binds md e <;> simp
theorem sP : (iC md ops).2.length = ops.size := by simp [iC]
theorem yI {o : Oper} (h : ops[i]? = some o) : (iC md ops).2[i]? = some (yH md o, Jb md ops i o) := by
 have hi := (Array.getElem?_eq_some_iff.1 h).1;unfold iC;rw [List.getElem?_map, List.getElem?_range hi, Option.map_some, h]
theorem yJ (h : ops[i]? = none) : (iC md ops).2[i]? = none := by
 have hi : ops.size ≤ i := Array.getElem?_eq_none_iff.1 h;exact List.getElem?_eq_none (by rw [sP]; exact hi)
theorem Mx : sO (iC md ops).2 l.toList i = (!l.getD i true && ((ops[i]?).map (·.after.all fun e => !Region.binds md e || l.getD e.on false)).getD false) := by
 unfold sO;rw [gd]
 cases h : ops[i]? with
 | none => rw [yJ h]; rfl
 | some o =>
  rw [yI h];simp only [Option.map_some, Option.getD_some];rw [← Ii];simp only [gd]
theorem ready_eq : Region.ready md ops l = vJ (iC md ops).2 l.toList := by
 unfold Region.ready vJ;rw [sP];refine List.filter_congr (fun i _ => ?_);rw [Mx]
theorem free_eq : Region.free md ops l i = KN (iC md ops).2 l.toList i := by
 unfold Region.free KN
 cases h : ops[i]? with
 | none => rw [yJ h]
 | some oi =>
  rw [yI h];simp only [Jb];rw [List.all_filter];congr 1
  funext j
  rw [gd]
  cases hj : ops[j]? with
  | none => cases (j == i) <;> cases (l.toList.getD j true) <;> simp
  | some oj =>
   cases (j == i) <;> cases (l.toList.getD j true) <;> cases (oj.after.any (fun e => Region.binds md e && e.on == i) || oi.apart ops oj) <;> simp_all
theorem QJ : Region.zY md ops l = EX (iC md ops).2 l.toList := by
 unfold Region.zY EX;rw [sP];congr 1
 funext j
 rw [gd]
 cases h : ops[j]? with
 | none => rw [yJ h]
 | some o =>
  rw [yI h];simp only;rw [← Ii];simp only [gd]
theorem KO : ∀ (fuel d : Nat), Region.pX md ops i fuel d = Di (iC md ops).2 i fuel d
 | 0, _ => rfl
 | fuel + 1, d => by
  unfold Region.pX Di
  cases h : ops[d]? with
  | none => rw [yJ h]
  | some o =>
   rw [yI h];simp only;rw [← QI];congr 1
   funext e
   rw [KO fuel]
theorem U6 : Region.lastB md ops l ds i = lastT (iC md ops).2 l.toList ds i := by
 unfold Region.lastB lastT;rw [sP];congr 1
 funext d
 rw [gd, KO]
theorem Em (h : sO T.2 l.toList i = true) (hT : iC md ops = T) : (Region.ready md ops l).contains i = true := by
 subst hT;rw [ready_eq];unfold vJ;rw [List.contains_iff_mem, List.mem_filter, List.mem_range];refine ⟨?_, h⟩;unfold sO at h;rw [Bool.and_eq_true] at h
 cases hq : (iC md ops).2[i]? with
 | none => rw [hq] at h; simp at h
 | some r => exact (List.getElem?_eq_some_iff.1 hq).1
theorem p8 (h : (l.toList.set i true == l'.toList) = true) : (l.setIfInBounds i true == l') = true := by
 rw [beq_iff_eq] at h ⊢;apply Array.ext'
 rw [Array.toList_setIfInBounds];exact h
def ZE (T : Bool × List (List Nat × List Nat)) (l l' : List Bool) (i : Nat) : Bool := T.1 && KN T.2 l i && sO T.2 l i && (l.set i true == l')
theorem ku (hT : iC md ops = T) (h : ZE T l.toList l'.toList i = true) : Sr md ops l l' i = true := by
 simp only [ZE, Bool.and_eq_true] at h;obtain ⟨⟨⟨h1, h2⟩, h3⟩, h4⟩ := h;have h5 := Em h3 hT;have h6 := p8 h4;subst hT;simp only [Sr, Bool.and_eq_true];exact ⟨⟨⟨h1, by rw [free_eq]; exact h2⟩, h5⟩, h6⟩
def Su (T : Bool × List (List Nat × List Nat)) (ds : List Nat) (l l' : List Bool) (i : Nat) : Bool := T.1 && KN T.2 l i && sO T.2 l i && EX T.2 l && lastT T.2 l ds i && (l.set i true == l')
theorem U7 (hT : iC md ops = T) (h : Su T ds l.toList l'.toList i = true) : takeB md ops ds l l' i = true := by
 simp only [Su, Bool.and_eq_true] at h;obtain ⟨⟨⟨⟨⟨h1, h2⟩, h3⟩, h4⟩, h5⟩, h6⟩ := h;have h7 := Em h3 hT;have h8 := p8 h6;subst hT;simp only [takeB, Bool.and_eq_true];exact ⟨⟨⟨⟨⟨h1, by rw [free_eq]; exact h2⟩, h7⟩, by rw [QJ]; exact h4⟩, by rw [U6]; exact h5⟩, h8⟩
theorem dn (hT : iC md ops = T) (h : (vJ T.2 l.toList == [i] && l.toList.set i true == l'.toList) = true) : Dh md ops l l' i = true := by
 simp only [Bool.and_eq_true] at h;obtain ⟨h1, h2⟩ := h;subst hT;simp only [Dh, Bool.and_eq_true];exact ⟨by rw [ready_eq]; exact h1, p8 h2⟩
theorem nD (hT : iC md ops = T) (h : (vJ T.2 l.toList == [i, j] && l.toList.set i true == li.toList && l.toList.set j true == lj.toList) = true) : (Region.ready md ops l == [i, j] && l.setIfInBounds i true == li && l.setIfInBounds j true == lj) = true := by
 simp only [Bool.and_eq_true] at h ⊢;obtain ⟨⟨h1, h2⟩, h3⟩ := h;subst hT;exact ⟨⟨by rw [ready_eq]; exact h1, p8 h2⟩, p8 h3⟩
theorem Aa (hT : iC md ops = T) (h : (vJ T.2 l.toList == [i, j, k] && l.toList.set i true == li.toList && l.toList.set j true == lj.toList && l.toList.set k true == lk.toList) = true) :
  (Region.ready md ops l == [i, j, k] && l.setIfInBounds i true == li && l.setIfInBounds j true == lj && l.setIfInBounds k true == lk) = true := by
 simp only [Bool.and_eq_true] at h ⊢;obtain ⟨⟨⟨h1, h2⟩, h3⟩, h4⟩ := h;subst hT;exact ⟨⟨⟨by rw [ready_eq]; exact h1, p8 h2⟩, p8 h3⟩, p8 h4⟩
theorem dV (hT : iC md ops = T) (h : (vJ T.2 l.toList == []) = true) : (Region.ready md ops l == []) = true := by
 subst hT;rw [ready_eq];exact h
def ZF (B : List Nat) (d : Nat) : List Nat → Nat
 | [] => 0
 | n :: r => (2 ^ n ||| (if n < d then B.getD n 0 else 0)) ||| ZF B d r
def fo (T : List (List Nat × List Nat)) (B : List Nat) : Bool := (List.range T.length).all fun d => match T[d]? with
 | some r => (B.getD d 0 ||| ZF B d r.1) == ZF B d r.1
 | none => false
theorem Ot {B : List Nat} {d i : Nat} : ∀ {ns : List Nat}, (ZF B d ns).testBit i = true → ∃ n ∈ ns, n = i ∨ (n < d ∧ (B.getD n 0).testBit i = true)
 | [], h => by simp [ZF] at h
 | n :: r, h => by
  unfold ZF at h;rw [Nat.testBit_or, Nat.testBit_or, Bool.or_eq_true, Bool.or_eq_true] at h;rcases h with (h | h) | h
  ·rw [Nat.testBit_two_pow] at h;exact ⟨n, List.mem_cons_self, .inl (by simpa using h)⟩
  ·by_cases hn : n < d
   ·rw [if_pos hn] at h;exact ⟨n, List.mem_cons_self, .inr ⟨hn, h⟩⟩
   ·rw [if_neg hn] at h;simp at h
  ·obtain ⟨m, hm, h2⟩ := Ot h;exact ⟨m, List.mem_cons_of_mem _ hm, h2⟩
theorem Ij {T : List (List Nat × List Nat)} {B : List Nat} (hB : fo T B = true) : ∀ (fuel d : Nat), d < fuel → d < T.length → (B.getD d 0).testBit i = true → Di T i fuel d = true
 | 0, d, h, _, _ => by omega
 | fuel + 1, d, h, hd, hb => by
  have h1 := List.all_eq_true.1 hB d (List.mem_range.2 hd)
  cases hr : T[d]? with
  | none => rw [hr] at h1; simp at h1
  | some r =>
   rw [hr] at h1;simp only [beq_iff_eq] at h1;have h2 : (ZF B d r.1).testBit i = true := by rw [← h1, Nat.testBit_or, hb, Bool.true_or]
   obtain ⟨n, hn, h3⟩ := Ot h2;unfold Di;rw [hr];simp only;rw [List.any_eq_true];refine ⟨n, hn, ?_⟩;rcases h3 with rfl | ⟨h4, h5⟩
   ·simp
   ·rw [Ij hB fuel n (by omega) (by omega) h5, Bool.or_true]
def XU (T : List (List Nat × List Nat)) (B : List Nat) (l : List Bool) (ds : List Nat) (i : Nat) : Bool := ds.all fun d => l.getD d true || (decide (d < T.length) && (B.getD d 0).testBit i)
def Sv (T : Bool × List (List Nat × List Nat)) (B : List Nat) (ds : List Nat) (l l' : List Bool) (i : Nat) : Bool := T.1 && KN T.2 l i && sO T.2 l i && EX T.2 l && XU T.2 B l ds i && (l.set i true == l')
theorem uD {B : List Nat} (hT : iC md ops = T) (hB : fo T.2 B = true) (h : Sv T B ds l.toList l'.toList i = true) : takeB md ops ds l l' i = true := by
 refine U7 hT ?_;simp only [Sv, Su, Bool.and_eq_true] at h ⊢;obtain ⟨⟨⟨⟨⟨h1, h2⟩, h3⟩, h4⟩, h5⟩, h6⟩ := h;refine ⟨⟨⟨⟨⟨h1, h2⟩, h3⟩, h4⟩, ?_⟩, h6⟩;unfold XU at h5;unfold lastT;rw [List.all_eq_true] at h5 ⊢;intro d hd;have h7 := h5 d hd;rw [Bool.or_eq_true, Bool.and_eq_true, decide_eq_true_eq] at h7;rcases h7 with h7 | ⟨h8, h9⟩
 ·rw [h7, Bool.true_or]
 ·rw [Ij hB _ d h8 h8 h9, Bool.or_true]
theorem dw {P : Program} {Q : Exit → Act → World → Prop} {S : World → Prop} {n : Nat} {a : Act} {w : World} {B : List Nat} (hT : iC md ops = T) (hB : fo T.2 B = true) (h : aa (iC md ops = T) → aa (fo T.2 B = true) → bZ P md ops Q S ds n l a w) : bZ P md ops Q S ds n l a w := h ⟨hT⟩ ⟨hB⟩
end
def zx : Code → Nat → Option (Array Oper)
 | .region id ops _, k => if id == k then some ops else none
 | .seq a b, k => match zx a k with
  | some o => some o
  | none => zx b k
 | .cond _ a b, k => match zx a k with
  | some o => some o
  | none => zx b k
 | .block _ c, k => zx c k
 | .loop c, k => zx c k
 | .scope c, k => zx c k
 | .rangeFunc _ _ a b, k => match zx a k with
  | some o => some o
  | none => zx b k
 | _, _ => none
def opsOf (f : Func) (k : Nat) : Array Oper := ((f.body.bind fun c => zx c k)).getD #[]
end Go.Proofs.YtamimodkcbbpmaaW.PrintLast
end
section
namespace Go.Proofs.YtamimodkcbbpmaaW.PrintLast
section
variable {P : Program} {ops : Array Oper} {Q : Exit → Act → World → Prop} {md : Region.Mode} {S : World → Prop} {ds : List Nat} {T : Bool × List (List Nat × List Nat)}
theorem Ou {i j k m : Nat} {l li lj lk lm : Array Bool} (hT : iC md ops = T) (h : (vJ T.2 l.toList == [i, j, k, m] && l.toList.set i true == li.toList && l.toList.set j true == lj.toList && l.toList.set k true == lk.toList && l.toList.set m true == lm.toList) = true) : (Region.ready md ops l == [i, j, k, m] && l.setIfInBounds i true == li && l.setIfInBounds j true == lj && l.setIfInBounds k true == lk && l.setIfInBounds m true == lm) = true := by
 simp only [Bool.and_eq_true] at h ⊢;obtain ⟨⟨⟨⟨hr, hsi⟩, hsj⟩, hsk⟩, hsm⟩ := h;subst hT;exact ⟨⟨⟨⟨by rw [ready_eq]; exact hr, p8 hsi⟩, p8 hsj⟩, p8 hsk⟩, p8 hsm⟩
end
end Go.Proofs.YtamimodkcbbpmaaW.PrintLast
end
section
namespace Go.Proofs.YtamimodkcbbpmaaW.PrintWords
open Go.RowKit
namespace Kd
section
variable {α : Type} {d : Kd α} {e base g o n cap : Nat} {ok lV : Nat → Prop} {w W : World} {v : Value} {xs : List α}
theorem ahT (h : d.Q e w base ok v xs) (hp : 0 < xs.length) : ∃ g o cap, v = .slice (some ⟨g, o, none⟩) xs.length cap ∧ base ≤ g ∧ g < w.heap.size ∧ ∃ cells, w.heap[g]? = some (.cells cells e (0, 0)) := by
 obtain ⟨h0, inner, hq, hr⟩ := h;rcases hq.2 with ⟨h1, _⟩ | ⟨g, off, cap, cur, rfl, hb, hh, r⟩
 ·omega
 ·exact ⟨g, off * d.sz, cap, rfl, hb, bE hh, cur, hh⟩
theorem Sw (h : d.Q e W base ok (.slice (some ⟨g, o, none⟩) n cap) xs) (z : α) (i : Int) (h0 : 0 ≤ i) (h1 : i < n) :
  ∃ c, c.length = d.sz ∧ d.M W base (fun k => ok k ∧ k ≠ g) (xs.getD i.toNat z) c ∧ (∀ j u, c[j]? = some u → W.cell? ⟨g, o + i.toNat * d.sz + j, none⟩ = some u) ∧ ∀ j, W.frozen? ⟨g, o + i.toNat * d.sz + j, none⟩ = false := by
 obtain ⟨hn, hnc, hC⟩ := FL h;obtain ⟨_, inner, ho, hr⟩ := h;have hil : i.toNat < xs.length := by omega
 have hseg : i.toNat * d.sz + d.sz ≤ inner.length := by rw [hr.1, ← Nat.succ_mul]; exact Nat.mul_le_mul_right _ hil
 have hM := hr.2 i.toNat _ (List.getElem?_eq_getElem hil);refine ⟨(inner.drop (i.toNat * d.sz)).take d.sz, by rw [List.length_take, List.length_drop]; omega, ?_, fun j u hu => ?_, fun j => ?_⟩
 ·rw [List.getD_eq_getElem?_getD, List.getElem?_eq_getElem hil];exact d.dX (fun k hk => ⟨hk.1, fun he => hk.2 (by rw [he]; simp [Value.ownBlock])⟩) hM
 ·rw [List.getElem?_take] at hu;split at hu
  ·rw [List.getElem?_drop] at hu;subst hn;obtain ⟨ad, he, hc⟩ := Oq ho (by omega);injection he with he
   subst he;have := hc _ u hu;rwa [Sl, ← Nat.add_assoc] at this
  ·cases hu
 ·obtain ⟨_, cells, hc⟩ := U4 ho g (by simp [Value.ownBlock]);exact ai hc _
theorem acn (h : d.Q e W base ok (.slice (some ⟨g, o, none⟩) n cap) xs) (i : Int) (h0 : 0 ≤ i) (h1 : i < n) {c jv : List Value} {j : Nat} (hcl : c.length = d.sz) (hcc : ∀ j u, c[j]? = some u → W.cell? ⟨g, o + i.toNat * d.sz + j, none⟩ = some u)
  (hj : j + jv.length ≤ d.sz) {x' : α} (hM : d.M W base lV x' (c.take j ++ jv ++ c.drop (j + jv.length))) (xJ : ∀ k, lV k → ok k ∧ k ≠ g) :
  d.Q e (W.setCells g (o + i.toNat * d.sz + j) jv) base ok (.slice (some ⟨g, o, none⟩) n cap) (xs.set i.toNat x') ∧ W.grownBy (W.setCells g (o + i.toNat * d.sz + j) jv) (some g) := by
 obtain ⟨hn, hnc, _⟩ := FL h;obtain ⟨hok, inner, ho, hr⟩ := h;have hil : i.toNat < xs.length := by omega
 have hseg : i.toNat * d.sz + d.sz ≤ inner.length := by rw [hr.1, ← Nat.succ_mul]; exact Nat.mul_le_mul_right _ hil
 have hin : inner.length = n * d.sz := by rw [hr.1, hn]
 obtain ⟨ho1, ho2⟩ := ho;rcases ho2 with ⟨hz, _⟩ | ⟨g', off, cap', cur, hv, hb, hh, hnc', hcm, hcs, ht⟩
 ·omega
 injection hv with ha _ hc
 injection ha with ha
 injection ha with hg hoff
 subst hg; subst hc; subst hoff;have hcap : n * d.sz ≤ cap * d.sz := Nat.mul_le_mul_right _ hnc;have hcs' : cur.size = off * d.sz + cap * d.sz := by rw [hcs, Nat.add_mul]
 have hfit : off * d.sz + i.toNat * d.sz + j + jv.length ≤ cur.size := by omega
 obtain ⟨cur', h3, h4, h5⟩ := vI jv (off * d.sz + i.toNat * d.sz + j) W cur hh hfit;obtain ⟨s1, s2, s3, s4⟩ := um g jv (off * d.sz + i.toNat * d.sz + j) W;have Mt : ∀ k, k ≠ g → (W.setCells g (off * d.sz + i.toNat * d.sz + j) jv).heap[k]? = W.heap[k]? := fun k hk => vH jv _ k hk
 rw [← hn] at ht;have hat : ∀ q, q < n * d.sz → cur.toList[off * d.sz + q]? = inner[q]? := by
  intro q hq;rw [← ht, List.getElem?_take, if_pos hq, List.getElem?_drop]
 have ZC : ∀ q, q < d.sz → c[q]? = inner[i.toNat * d.sz + q]? := by
  intro q hq;have hq' : q < c.length := by omega
  have h6 := hcc q _ (List.getElem?_eq_getElem hq');rw [cell_of_row W g _ cur e (0, 0) hh] at h6;rw [List.getElem?_eq_getElem hq', ← h6, ← hat _ (by omega), Array.getElem?_toList, Nat.add_assoc]
 refine ⟨⟨hok, inner.take (i.toNat * d.sz + j) ++ jv ++ inner.drop (i.toNat * d.sz + j + jv.length), ⟨?_, .inr ⟨g, off, cap, cur', by rw [List.length_set, hn], hb, h3, by rw [List.length_set, ← hn]; exact hnc, hcm, by rw [h4, hcs], ?_⟩⟩, ?_⟩,
  ⟨s1, s2, s3, by rw [s4]; exact Nat.le_refl _, fun k _ hk => Mt k (fun he => hk (by rw [he]))⟩⟩
 ·rw [List.length_set];simp only [List.length_append, List.length_take, List.length_drop];rw [hr.1] at hseg ⊢;omega
 ·rw [List.length_set, ← hn];apply List.ext_getElem?
  intro q;rw [List.getElem?_take, List.getElem?_drop, h5];rw [oM cur.toList jv (off * d.sz + i.toNat * d.sz + j) (by rw [Array.length_toList]; omega) (off * d.sz + q), oM inner jv (i.toNat * d.sz + j) (by omega) q];by_cases hq : q < n * d.sz
  ·rw [if_pos hq];by_cases hq1 : q < i.toNat * d.sz + j
   ·rw [if_pos (by omega), if_pos hq1, hat q hq]
   ·rw [if_neg (by omega), if_neg hq1];by_cases hq2 : q < i.toNat * d.sz + j + jv.length
    ·rw [if_pos (by omega), if_pos hq2];congr 1
     omega
    ·rw [if_neg (by omega), if_neg hq2, hat q hq]
  ·rw [if_neg hq, if_neg (by omega), if_neg (by omega), List.getElem?_eq_none (by omega)]
 ·refine ⟨?_, fun m p hm => ?_⟩
  ·rw [List.length_set];simp only [List.length_append, List.length_take, List.length_drop];rw [hr.1] at hseg ⊢;omega
  ·have RO : m < xs.length := by
    have := (List.getElem?_eq_some_iff.1 hm).1;rwa [List.length_set] at this
   have acm : m * d.sz + d.sz ≤ inner.length := by rw [hr.1, ← Nat.succ_mul]; exact Nat.mul_le_mul_right _ RO
   have hgo : some g = (Value.slice (some ⟨g, off * d.sz, none⟩) n cap).ownBlock := by simp [Value.ownBlock]
   by_cases Sn : m = i.toNat
   ·subst Sn;rw [List.getElem?_set_self (by omega)] at hm;injection hm with hm
    subst hm;have hcells : ((inner.take (i.toNat * d.sz + j) ++ jv ++ inner.drop (i.toNat * d.sz + j + jv.length)).drop (i.toNat * d.sz)).take d.sz = c.take j ++ jv ++ c.drop (j + jv.length) := by
     apply List.ext_getElem?
     intro q;rw [List.getElem?_take, List.getElem?_drop, oM inner jv _ (by omega), oM c jv j (by omega) q];by_cases hq : q < d.sz
     ·rw [if_pos hq, ZC q hq];by_cases hq1 : q < j
      ·rw [if_pos (by omega), if_pos hq1]
      ·rw [if_neg (by omega), if_neg hq1];by_cases hq2 : q < j + jv.length
       ·rw [if_pos (by omega), if_pos hq2];congr 1
        omega
       ·rw [if_neg (by omega), if_neg hq2]
     ·rw [if_neg hq, if_neg (by omega), if_neg (by omega), List.getElem?_eq_none (by omega)]
    rw [hcells];refine d.dX (fun k hk => ?_) (d.fZ (w1 := W.setCells g (off * d.sz + i.toNat * d.sz + j) jv) (fun k hk => Mt k (xJ k hk).2) hM);exact ⟨(xJ k hk).1, fun he => (xJ k hk).2 (by rw [← hgo] at he; injection he)⟩
   ·rw [List.getElem?_set_ne (by omega)] at hm;have hold := hr.2 m p hm;have hcells : ((inner.take (i.toNat * d.sz + j) ++ jv ++ inner.drop (i.toNat * d.sz + j + jv.length)).drop (m * d.sz)).take d.sz = (inner.drop (m * d.sz)).take d.sz := by
     apply List.ext_getElem?
     intro q;rw [List.getElem?_take, List.getElem?_take, List.getElem?_drop, List.getElem?_drop, oM inner jv _ (by omega)];by_cases hq : q < d.sz
     ·rw [if_pos hq, if_pos hq];rcases Nat.lt_or_gt_of_ne Sn with hlt | hgt
      ·have : m * d.sz + d.sz ≤ i.toNat * d.sz := by rw [← Nat.succ_mul]; exact Nat.mul_le_mul_right _ hlt
       rw [if_pos (by omega)]
      ·have : i.toNat * d.sz + d.sz ≤ m * d.sz := by rw [← Nat.succ_mul]; exact Nat.mul_le_mul_right _ hgt
       rw [if_neg (by omega), if_neg (by omega)]
     ·rw [if_neg hq, if_neg hq]
    rw [hcells];refine d.fZ (fun k hk => Mt k (fun he => hk.2 (by rw [he]; exact hgo))) hold
end
section
variable {α : Type} {enc : α → Value} {h1 : ∀ x, (enc x).oneCell' = true} {e base g o n cap : Nat} {ok : Nat → Prop} {W : World} {xs : List α}
theorem ahU (d : α) (h : (scalar enc h1).Q e W base ok (.slice (some ⟨g, o, none⟩) n cap) xs) (i : Int) (h0 : 0 ≤ i) (hi : i < n) : W.cell? ⟨g, o + i.toNat, none⟩ = some (enc (ach d xs i)) ∧ W.frozen? ⟨g, o + i.toNat, none⟩ = false := by
 obtain ⟨c, _, hM, hcc, hf⟩ := Sw h d i h0 hi;have hM' : c = [enc (xs.getD i.toNat d)] := hM;subst hM';have h2 := hcc 0 _ rfl;have h3 := hf 0;rw [show (scalar enc h1).sz = 1 from rfl, Nat.mul_one, Nat.add_zero] at h2 h3;exact ⟨h2, h3⟩
theorem ahV (h : (scalar enc h1).Q e W base ok (.slice (some ⟨g, o, none⟩) n cap) xs) (i : Int) (h0 : 0 ≤ i) (hi : i < n) (x : α) : (scalar enc h1).Q e (W.setCell ⟨g, o + i.toNat, none⟩ (enc x)) base ok (.slice (some ⟨g, o, none⟩) n cap) (xs.set i.toNat x) ∧ W.grownBy (W.setCell ⟨g, o + i.toNat, none⟩ (enc x)) (some g) := by
 have hp : 0 < xs.length := by have := (FL h).1; omega
 obtain ⟨c, hcl, _, hcc, _⟩ := Sw h (xs[0]'hp) i h0 hi;have h2 := acn h i h0 hi (c := c) (jv := [enc x]) (j := 0) (lV := fun _ => False) (x' := x) hcl hcc (Nat.le_refl 1) (by
  have hl : c.length = 1 := hcl;show c.take 0 ++ [enc x] ++ c.drop (0 + 1) = [enc x];rw [List.drop_eq_nil_of_le (by omega)];rfl) (fun _ hk => hk.elim)
 rw [show (scalar enc h1).sz = 1 from rfl, Nat.mul_one, Nat.add_zero] at h2;exact h2
end
end Kd
end Go.Proofs.YtamimodkcbbpmaaW.PrintWords
end
section
namespace Go.Proofs.YtamimodkcbbpmaaW.PrintWords
open Go.RowKit
namespace Kd
def tag {α : Type} (f : Nat → Nat) (d : Kd α) : Kd (α × Nat) where
 sz := d.sz
 E := d.E
 K := fun w x cs => d.K w x.1 cs
 M := fun w base ok x cs => d.M w base (fun k => ok k ∧ f k = x.2) x.1 cs
 jd := fun h => d.jd h
 iW := fun h => d.iW h
 gp := fun hb h => d.gp hb h
 fD := fun h => d.fD h
 dX := fun hok h => d.dX (fun k hk => ⟨hok k hk.1, hk.2⟩) h
 fE := fun h => d.dX (fun _ hk => ⟨⟨hk.1.1, hk.2⟩, hk.1.2⟩) (d.fE h)
 fZ := fun hm h => d.fZ (fun k hk => hm k hk.1) h
 gq := fun hb h => d.gq hb h
def bare {α : Type} (d : Kd α) : Kd α where
 sz := d.sz
 E := d.E
 K := d.K
 M := fun w base _ x cs => d.M w base (fun _ => False) x cs
 jd := fun h => d.jd h
 iW := fun h => d.iW h
 gp := fun hb h => d.gp hb h
 fD := fun h => d.fD h
 dX := fun _ h => h
 fE := fun h => h
 fZ := fun _ h => d.fZ (fun _ hk => hk.elim) h
 gq := fun hb h => d.gq hb h
def raw (sz : Nat) : Kd (List Value) where
 sz := sz
 E := []
 K := fun _ x cs => cs = x ∧ cs.length = sz ∧ ∀ u ∈ cs, u.oneCell' = true
 M := fun _ _ _ x cs => cs = x ∧ cs.length = sz ∧ ∀ u ∈ cs, u.oneCell' = true
 jd := fun h => h.2.1
 iW := fun h => h.2.2
 gp := fun _ h => h
 fD := fun h => h
 dX := fun _ h => h
 fE := fun h => h
 fZ := fun _ h => h
 gq := fun _ h => h
def S {α : Type} (d : Kd α) (e : Nat) (w : World) (base : Nat) (ok : Nat → Prop) (v : Value) (xs : List α) : Prop := ∃ f, (tag f d).R e w base ok v xs.zipIdx
section
variable {α β : Type} {d : Kd α} {d' : Kd β} {e e' : Nat} {w w1 W : World} {base b : Nat} {ok ok' okv oku : Nat → Prop} {u v : Value} {xs : List α} {ys : List β}
theorem xV {xs : List α} {j : Nat} {p : α} (h : xs[j]? = some p) : xs.zipIdx[j]? = some (p, j) := by rw [List.getElem?_zipIdx, h, Nat.zero_add]; rfl
theorem S_R (h : S d e w base ok v xs) : d.R e w base ok v xs := by
 obtain ⟨f, h0, inner, ho, hr⟩ := h;rw [List.length_zipIdx] at ho;exact ⟨h0, inner, ho, by have := hr.1; rw [List.length_zipIdx] at this; exact this, fun j p hj => d.dX (fun _ hk => hk.1) (hr.2 j (p, j) (xV hj))⟩
theorem aWb {ad : Addr} {n cap : Nat} (h : d.R e w base ok (.slice (some ad) n cap) xs) : ∃ g, ad = ⟨g, 0, none⟩ := by
 obtain ⟨_, inner, ho, hr⟩ := h;rcases ho.2 with ⟨hv, _⟩ | ⟨g, cap', cur, hv, _⟩
 ·cases hv
 ·injection hv with ha _ _
  injection ha with ha
  exact ⟨g, ha⟩
theorem aWc {ad : Addr} {n cap : Nat} (h : d.R e W base ok (.slice (some ad) n cap) xs) (z : α) (i : Int) (h0 : 0 ≤ i) (h1 : i < n) :
  ∃ c, c.length = d.sz ∧ d.M W base (fun k => ok k ∧ some k ≠ (Value.slice (some ad) n cap).ownBlock) (xs.getD i.toNat z) c ∧ ∀ j u, c[j]? = some u → W.cell? (ad.add (i.toNat * d.sz + j)) = some u := by
 obtain ⟨g, rfl⟩ := aWb h;obtain ⟨c, hcl, hM, hcc, _⟩ := Df h z i h0 h1;refine ⟨c, hcl, d.dX (fun k hk => ⟨hk.1, fun he => hk.2 (by simpa [Value.ownBlock] using he)⟩) hM, fun j u hu => ?_⟩;rw [Sl, Nat.zero_add];exact hcc j u hu
theorem Jc (hE : d.E = []) (h : d.R e w base ok v xs) : d.R e w base (fun k => some k = v.ownBlock) v xs := by
 obtain ⟨h0, inner, ho, hr⟩ := h;refine ⟨fun k hk => hk.symm, inner, ho, hr.uk (fun p c hp => d.dX (fun k hk => ?_) (d.fE hp))⟩;obtain ⟨_, _, _, q, hq, _⟩ := hk;rw [hE] at hq
 cases hq
theorem xW (d : Kd α) (e : Nat) (w : World) (base : Nat) (ok : Nat → Prop) : S d e w base ok (.slice none 0 0) [] := ⟨fun _ => 0, qf _ _ _ _ _⟩
theorem iN (h : S d e w base ok v xs) (hok : ∀ k, ok k → ok' k) : S d e w base ok' v xs := by
 obtain ⟨f, h⟩ := h;exact ⟨f, bB h hok⟩
theorem lF (h : S d e w base ok v xs) : S d e w base (fun k => ok k ∧ base ≤ k ∧ k < w.heap.size ∧ ∃ q, q ∈ e :: d.E ∧ ∃ cells, w.heap[k]? = some (.cells cells q (0, 0))) v xs := by
 obtain ⟨f, h⟩ := h;exact ⟨f, jI h⟩
theorem Sy (h : S d e w base ok v xs) (hm : ∀ k, ok k → w1.heap[k]? = w.heap[k]?) : S d e w1 base ok v xs := by
 obtain ⟨f, h⟩ := h;exact ⟨f, xQ h hm⟩
theorem axr {base' : Nat} (h : S d e w base ok v xs) (hb : base' ≤ base) : S d e w base' ok v xs := by
 obtain ⟨f, h⟩ := h;exact ⟨f, iL h hb⟩
theorem MB (h : S d e w base ok v xs) (hm : ∀ k, ok k → k < w.heap.size → w1.heap[k]? = w.heap[k]?) : S d e w1 base ok v xs :=
 iN (Sy (lF h) (fun k hk => hm k hk.1 hk.2.2.1)) (fun _ hk => hk.1)
theorem ad7 (h : S d e w base ok v xs) (hb : Below w.heap.size w w1) : S d e w1 base ok v xs := MB h (fun k _ hk => hb.block k hk)
theorem apt (h : S d e w base ok v xs) (o : Obj) : S d e (w.alloc o) base ok v xs := ad7 h (dY (Below.refl _ _) o)
theorem apz (h : S d e w base ok v xs) : S d e w.drew base ok v xs := ad7 h (dM (Below.refl _ _))
theorem apu (h : S d e w base ok v xs) (m : Nat) : S d e (w.drewN m) base ok v xs := ad7 h (nz (Below.refl _ _) m)
theorem Ov (h : S d e w base ok v xs) {row : Option Nat} (hg : w.grownBy w1 row) (hok : ∀ k, ok k → some k ≠ row) : S d e w1 base ok v xs := MB h (fun k ho hk => hg.block k hk (hok k ho))
theorem aco (h : S d e w base ok v xs) {p : Addr} (hok : ∀ k, ok k → k ≠ p.block) (u : Value) : S d e (w.setCell p u) base ok v xs := MB h (fun k ho _ => Below.heap_setCell w p u k (hok k ho))
theorem U8 (h : S d e w base ok v xs) {g t : Nat} {cells : Array Value} (hb : w.heap[g]? = some (.cells cells t (0, 0))) (ht : ∀ q, q ∈ e :: d.E → q ≠ t) : S d e w base (fun k => ok k ∧ k ≠ g) v xs := by
 obtain ⟨f, h⟩ := h;exact ⟨f, zV h hb ht⟩
theorem acp (h : S d e w base ok v xs) {g t : Nat} {cells : Array Value} (hb : w.heap[g]? = some (.cells cells t (0, 0))) (ht : ∀ q, q ∈ e :: d.E → q ≠ t) (j : Nat) (u : Value) : S d e (w.setCell ⟨g, j, none⟩ u) base ok v xs :=
 iN (aco (p := ⟨g, j, none⟩) (U8 h hb ht) (fun _ hk => hk.2) u) (fun _ hk => hk.1)
theorem Ow (h : S d e w base ok v xs) : ∀ k, v.ownBlock = some k → ∃ cells, w.heap[k]? = some (.cells cells e (0, 0)) := lW (S_R h)
theorem ZG (h : S d e w base ok v xs) : ∀ k, v.ownBlock = some k → base ≤ k := FI (S_R h)
theorem Ox (h : S d e W base ok u xs) (hty : ∀ k, v.ownBlock = some k → ∃ cells, W.heap[k]? = some (.cells cells e' (0, 0))) (ht : ∀ q, q ∈ e :: d.E → q ≠ e') (hg : W.grownBy w1 v.ownBlock) : S d e w1 base ok u xs := by
 obtain ⟨f, h⟩ := h;exact ⟨f, zW h hty ht hg⟩
theorem asa (h : S d e W base ok u xs) (hbase : ∀ k, v.ownBlock = some k → W.heap.size ≤ k) (hb : Below W.heap.size W w1) : S d e w1 base (fun k => ok k ∧ some k ≠ v.ownBlock) u xs := by
 obtain ⟨f, h⟩ := h;exact ⟨f, zX h hbase hb⟩
theorem ZH (h : (bare d).R e w base ok v xs) : S d e w base ok v xs := by
 obtain ⟨h0, inner, ho, hr⟩ := h;refine ⟨fun _ => 0, h0, inner, by rw [List.length_zipIdx]; exact ho, by rw [List.length_zipIdx]; exact hr.1, fun j p hj => ?_⟩;rw [List.getElem?_zipIdx, Nat.zero_add] at hj;obtain ⟨x, hx, rfl⟩ := Option.map_eq_some_iff.1 hj;exact d.dX (fun _ hk => hk.elim) (hr.2 j x hx)
theorem acr {f f' : Nat → Nat} {zs : List (α × Nat)} (h : (tag f d).R e w base ok v zs) (hf : ∀ k, ok k → k < w.heap.size → f' k = f k) : (tag f' d).R e w base ok v zs := by
 obtain ⟨h0, inner, ho, hr⟩ := jI h;exact ⟨fun k hk => (h0 k hk).1, inner, ho, hr.1, fun j p hj => d.dX (fun k hk => ⟨⟨hk.1.1.1, hk.1.2⟩, (hf k hk.1.1.1 hk.1.1.2.2.1).trans hk.2⟩) (hr.2 j p hj)⟩
end
section
variable {α β : Type} {d : Kd α} {d' : Kd β} {e e' g : Nat} {w w1 W : World} {base b : Nat} {ok ok' okv oku : Nat → Prop} {u v : Value} {xs : List α} {ys : List β}
theorem acs (h : S d e w base ok v xs) {t : Nat} {cells : Array Value} (hb : w.heap[g]? = some (.cells cells t (0, 0))) (ht : e ≠ t) : some g ≠ v.ownBlock := aqP (S_R h) hb ht
theorem avO (h : S d e w base ok v xs) (hok : ∀ k, ok k → k ≠ g) : some g ≠ v.ownBlock := FJ (S_R h) hok
theorem arX (h : S d e w base ok v xs) : ∃ A c, v = .slice A xs.length c := fQ (S_R h)
theorem azd (h : S d e w base ok v xs) : ∃ A c, v = .slice A xs.length c ∧ xs.length ≤ c ∧ d.C w A xs.length xs := oK (S_R h)
theorem Sz {A : Option Addr} {n c : Nat} (h : S d e w base ok (.slice A n c) xs) : n = xs.length ∧ n ≤ c ∧ d.C w A xs.length xs := dD (S_R h)
theorem aXB {ad : Addr} {n cap : Nat} (h : S d e W base ok (.slice (some ad) n cap) xs) (z : α) (i : Int) (h0 : 0 ≤ i) (h1 : i < n) :
  ∃ c, c.length = d.sz ∧ d.M W base (fun k => ok k ∧ some k ≠ (Value.slice (some ad) n cap).ownBlock) (xs.getD i.toNat z) c ∧ ∀ j u, c[j]? = some u → W.cell? (ad.add (i.toNat * d.sz + j)) = some u := aWc (S_R h) z i h0 h1
theorem atY (h : S d e w base ok v xs) (a : Nat) (ha : w.heap.size ≤ a) : S d e w base (fun k => ok k ∧ k ≠ a) v xs := iN (lF h) (fun k hk => ⟨hk.1, by have := hk.2.2.1; omega⟩)
theorem av8 (xs : List α) (p : α) : (xs ++ [p]).zipIdx = xs.zipIdx ++ [(p, xs.length)] := by rw [List.zipIdx_append]; simp
end
section
open Classical in
theorem aj4 {α : Type} {d : Kd α} {e base : Nat} {okv : Nat → Prop} {w : World} {v : Value} {xs : List α} (h : S d e w base okv v xs) (m : Nat) (lV : Nat → Prop) (hap : ∀ k, lV k → ¬ okv k) : ∃ f, (∀ k, lV k → f k = m) ∧ (tag f d).R e w base okv v xs.zipIdx := by
 obtain ⟨f, h⟩ := h;exact ⟨fun k => if lV k then m else f k, fun k hk => if_pos hk, acr h (fun k hk _ => if_neg (fun h2 => hap k h2 hk))⟩
variable {P : Program} {ops : Array Oper} {rest : List Oper} {o : Oper} {a : Act} {Q : Exit → Act → World → Prop} {Kc : Act → World → Prop} {α : Type}
theorem atZ (d : Kd α) {w0 W : World} (base : Nat) (hgd : o.guard = none) (s x : Operand) (t e : TypeId) (z : Value) (bytes : Nat)
  (ho : o.op = .call { callee := .builtin .append, args := #[s, x], argTypes := #[t, t] })
  (ht : P.underlying t = some (.slice e)) (hinfo : (P.info? e).map (fun i => (i.zero, i.size, i.bytes)) = some (some z, d.sz, bytes)) (hz : z.cells.size = d.sz) (hs0 : 0 < d.sz) (hb0 : 0 < bytes)
  (v : Value) (xs : List α) (p : α) (cs : List Value) (ok lV : Nat → Prop) (hs : a.eval s = v) (hx : a.eval x = .slice (some ⟨W.heap.size, 0, none⟩) 1 1) (hp : d.M W base lV p cs) (xJ : ∀ k, lV k → ok k ∧ some k ≠ v.ownBlock) (hfresh : ∀ k, W.heap.size ≤ k → ok k)
  (HO : S d e W base (fun k => ok k ∧ ¬ lV k) v xs) (HB : Below base w0 W) (hbase : base ≤ W.heap.size) (hl : (xs.length + 1) * bytes ≤ 140737488355328)
  (h : ∀ v1 w1, S d e w1 base ok v1 (xs ++ [p]) → Below base w0 w1 → W.grownBy w1 v.ownBlock → (v1.ownBlock = v.ownBlock ∨ ∃ b, v1.ownBlock = some b ∧ W.heap.size ≤ b) → wpList P ops Q rest (a.put o.dst v1) w1) :
  wpList P ops Q (o :: rest) a (W.alloc (.cells cs.toArray e)) := by
 obtain ⟨f, hf, hR⟩ := aj4 HO xs.length lV (fun _ hk h2 => h2.2 hk);refine KI (tag f d) base hgd s x t e z bytes ho ht hinfo hz hs0 hb0 v xs.zipIdx (p, xs.length) cs ok lV hs hx (d.dX (fun k hk => ⟨hk, hf k hk⟩) hp) xJ hfresh (bB hR (fun _ hk => hk.1)) HB hbase (by rw [List.length_zipIdx]; exact hl) ?_;intro v1 w1 hr;rw [← av8] at hr;exact h v1 w1 ⟨f, hr⟩
theorem atU (d : Kd α) {w0 W : World} (base : Nat) (hw : Region.wanted o (yielded ops a.tmps) = true) (s x : Operand) (t e : TypeId) (z : Value) (bytes : Nat)
  (ho : o.op = .call { callee := .builtin .append, args := #[s, x], argTypes := #[t, t] })
  (ht : P.underlying t = some (.slice e)) (hinfo : (P.info? e).map (fun i => (i.zero, i.size, i.bytes)) = some (some z, d.sz, bytes)) (hz : z.cells.size = d.sz) (hs0 : 0 < d.sz) (hb0 : 0 < bytes)
  (v : Value) (xs : List α) (p : α) (cs : List Value) (ok lV : Nat → Prop) (hs : a.eval s = v) (hx : a.eval x = .slice (some ⟨W.heap.size, 0, none⟩) 1 1) (hp : d.M W base lV p cs) (xJ : ∀ k, lV k → ok k ∧ some k ≠ v.ownBlock) (hfresh : ∀ k, W.heap.size ≤ k → ok k)
  (HO : S d e W base (fun k => ok k ∧ ¬ lV k) v xs) (HB : Below base w0 W) (hbase : base ≤ W.heap.size) (hl : (xs.length + 1) * bytes ≤ 140737488355328)
  (h : ∀ v1 w1, S d e w1 base ok v1 (xs ++ [p]) → Below base w0 w1 → W.grownBy w1 v.ownBlock → (v1.ownBlock = v.ownBlock ∨ ∃ b, v1.ownBlock = some b ∧ W.heap.size ≤ b) → Kc (a.put o.dst v1) w1) :
  if Region.wanted o (yielded ops a.tmps) = true then Oper.wp P o a (W.alloc (.cells cs.toArray e)) Kc Q else Kc (a.put o.dst undef) (W.alloc (.cells cs.toArray e)) := by
 obtain ⟨f, hf, hR⟩ := aj4 HO xs.length lV (fun _ hk h2 => h2.2 hk);refine oL (tag f d) base hw s x t e z bytes ho ht hinfo hz hs0 hb0 v xs.zipIdx (p, xs.length) cs ok lV hs hx (d.dX (fun k hk => ⟨hk, hf k hk⟩) hp) xJ hfresh (bB hR (fun _ hk => hk.1)) HB hbase (by rw [List.length_zipIdx]; exact hl) ?_;intro v1 w1 hr;rw [← av8] at hr;exact h v1 w1 ⟨f, hr⟩
theorem KP (d : Kd α) {w0 W : World} (base e : Nat) (hw : Region.wanted o (yielded ops a.tmps) = true) {N : Tmp} (hd : o.dst = some N) (t : TypeId) (x y : Operand) (ho : o.op = .makeSlice t x y) (n : Int) (hx : a.eval x = .int .i64 n) (hy : a.eval y = .int .i64 n)
  (ht : P.underlying t = some (.slice e)) (z : Value) (bytes : Nat) (hinfo : (P.info? e).map (fun i => (i.zero, i.size, i.bytes)) = some (some z, d.sz, bytes)) (hz : z.cells.size = d.sz) (hs0 : 0 < d.sz) (hb0 : 0 < bytes)
  (z0 : α) {ok lV : Nat → Prop} (hzero : d.M W base (fun _ => False) z0 z.cells.toList) (anP : ∀ k, lV k → ok k) (hfresh : ok W.heap.size) (h0 : 0 ≤ n) (hl : n.toNat * bytes ≤ 281474976710656) (HB : Below base w0 W) (hbase : base ≤ W.heap.size)
  (h : ∀ v1 w1, S d e w1 base ok v1 (List.replicate n.toNat z0) → Below base w0 w1 → W.grownBy w1 none → (∃ b, v1.ownBlock = some b ∧ W.heap.size ≤ b) → Kc (a.put o.dst v1) w1) :
  if Region.wanted o (yielded ops a.tmps) = true then Oper.wp P o a W Kc Q else Kc (a.put o.dst undef) W :=
 sN (bare d) base e hw hd t x y ho n hx hy ht z bytes hinfo hz hs0 hb0 z0 (ok := ok) (lV := ok) hzero (fun _ hk => hk) hfresh h0 hl HB hbase (fun v1 w1 hr => h v1 w1 (ZH hr))
end
def gap {α : Type} (f : Nat → Nat) (d : Kd α) (i : Nat) (c : List Value) : Kd (α × Nat) where
 sz := d.sz
 E := d.E
 K := fun w x cs => (x.2 = i → cs = c ∧ cs.length = d.sz ∧ ∀ u ∈ cs, u.oneCell' = true) ∧ (x.2 ≠ i → d.K w x.1 cs)
 M := fun w base ok x cs => (x.2 = i → cs = c ∧ cs.length = d.sz ∧ ∀ u ∈ cs, u.oneCell' = true) ∧ (x.2 ≠ i → d.M w base (fun k => ok k ∧ f k = x.2) x.1 cs)
 jd := fun {w x cs} h => by
  by_cases hx : x.2 = i
  ·exact (h.1 hx).2.1
  ·exact d.jd (h.2 hx)
 iW := fun {w x cs} h => by
  by_cases hx : x.2 = i
  ·exact (h.1 hx).2.2
  ·exact d.iW (h.2 hx)
 gp := fun hb h => ⟨h.1, fun hx => d.gp hb (h.2 hx)⟩
 fD := fun h => ⟨h.1, fun hx => d.fD (h.2 hx)⟩
 dX := fun hok h => ⟨h.1, fun hx => d.dX (fun k hk => ⟨hok k hk.1, hk.2⟩) (h.2 hx)⟩
 fE := fun h => ⟨h.1, fun hx => d.dX (fun _ hk => ⟨⟨hk.1.1, hk.2⟩, hk.1.2⟩) (d.fE (h.2 hx))⟩
 fZ := fun hm h => ⟨h.1, fun hx => d.fZ (fun k hk => hm k hk.1) (h.2 hx)⟩
 gq := fun hb h => ⟨h.1, fun hx => d.gq hb (h.2 hx)⟩
def H {α : Type} (d : Kd α) (e : Nat) (w : World) (base : Nat) (ok : Nat → Prop) (v : Value) (xs : List α) (i : Int) (vD : Nat → Prop) (c : List Value) : Prop :=
 (∀ k, vD k → ok k) ∧ ∃ f, (gap f d i.toNat c).R e w base (fun k => ok k ∧ ¬ vD k) v xs.zipIdx
section
variable {α β : Type} {d : Kd α} {e e' g n cap : Nat} {w w1 W : World} {base : Nat} {ok ok' vD lV : Nat → Prop} {u v : Value} {xs : List α} {i : Int} {c : List Value}
theorem ZI (h : S d e W base ok (.slice (some ⟨g, 0, none⟩) n cap) xs) (z : α) (i : Int) (h0 : 0 ≤ i) (h1 : i < n) :
  ∃ (vD : Nat → Prop) (c : List Value), c.length = d.sz ∧ d.M W base vD (xs.getD i.toNat z) c ∧ (∀ j u, c[j]? = some u → W.cell? ⟨g, i.toNat * d.sz + j, none⟩ = some u) ∧ (∀ k, vD k → ok k ∧ k ≠ g) ∧ H d e W base ok (.slice (some ⟨g, 0, none⟩) n cap) xs i vD c := by
 obtain ⟨f, hR⟩ := h;have hn := (dD hR).1;rw [List.length_zipIdx] at hn;have hgo : some g = (Value.slice (some ⟨g, 0, none⟩) n cap).ownBlock := by simp [Value.ownBlock]
 obtain ⟨hok0, inner, ho, hr⟩ := hR;have hil : i.toNat < xs.length := by omega
 have hlen : inner.length = xs.length * d.sz := by have := hr.1; rw [List.length_zipIdx] at this; exact this
 have hseg : i.toNat * d.sz + d.sz ≤ inner.length := by rw [hlen, ← Nat.succ_mul]; exact Nat.mul_le_mul_right _ hil
 have hM := hr.2 i.toNat _ (xV (List.getElem?_eq_getElem hil));have hkg : ∀ k, some k ≠ (Value.slice (some ⟨g, 0, none⟩) n cap).ownBlock → k ≠ g := fun k hk he => hk (by rw [he]; exact hgo)
 refine ⟨fun k => (ok k ∧ k ≠ g) ∧ f k = i.toNat, (inner.drop (i.toNat * d.sz)).take d.sz, by rw [List.length_take, List.length_drop]; omega, ?_, fun j u hu => ?_, fun k hk => hk.1, fun k hk => hk.1.1, f, fun k hk => ⟨hok0 k hk, fun h2 => h2.1.2 ?_⟩, inner, ho, hr.1, fun m p hm => ?_⟩
 ·rw [List.getD_eq_getElem?_getD, List.getElem?_eq_getElem hil];exact d.dX (fun k hk => ⟨⟨hk.1.1, hkg k hk.1.2⟩, hk.2⟩) hM
 ·rw [List.getElem?_take] at hu;split at hu
  ·rw [List.getElem?_drop] at hu;have := ho.cells (g := g) hgo.symm _ u hu;rwa [add_plain] at this
  ·cases hu
 ·rw [← hgo] at hk; injection hk with hk; exact hk.symm
 ·have hold := hr.2 m p hm;have hp2 : p.2 = m := by
   rw [List.getElem?_zipIdx, Nat.zero_add] at hm;obtain ⟨q, _, rfl⟩ := Option.map_eq_some_iff.1 hm;rfl
  refine ⟨fun hx => ?_, fun hx => d.dX (fun k hk => ⟨⟨⟨hk.1.1, fun h2 => hx ?_⟩, hk.1.2⟩, hk.2⟩) hold⟩
  ·have Sn : m = i.toNat := by omega
   subst Sn;exact ⟨rfl, d.jd (d.fD hM), d.iW (d.fD hM)⟩
  ·rw [← hk.2]; exact h2.2
open Classical in
theorem ZJ (h : H d e w base ok v xs i vD c) {x' : α} (hM : d.M w base lV x' c) (hok : ∀ k, lV k → vD k) : S d e w base ok v (xs.set i.toNat x') := by
 obtain ⟨ho, f, h0, inner, hown, hr⟩ := h;refine ⟨fun k => if vD k then i.toNat else f k, fun k hk => (h0 k hk).1, inner, by rw [List.length_zipIdx, List.length_set]; rw [List.length_zipIdx] at hown; exact hown, by have := hr.1; rw [List.length_zipIdx] at this; rw [List.length_zipIdx, List.length_set]; exact this, fun m p hm => ?_⟩;rw [List.getElem?_zipIdx, Nat.zero_add] at hm;obtain ⟨q, hq, rfl⟩ := Option.map_eq_some_iff.1 hm;have RO : m < xs.length := by
  have := (List.getElem?_eq_some_iff.1 hq).1;rwa [List.length_set] at this
 by_cases Sn : m = i.toNat
 ·subst Sn;rw [List.getElem?_set_self RO] at hq;injection hq with hq
  subst hq;have hc := ((hr.2 i.toNat _ (xV (List.getElem?_eq_getElem RO))).1 rfl).1;show d.M w base _ x' ((inner.drop (i.toNat * d.sz)).take d.sz);rw [show (inner.drop (i.toNat * d.sz)).take d.sz = c from hc];exact d.dX (fun k hk => ⟨⟨ho k (hok k hk), fun he => (h0 k he.symm).2 (hok k hk)⟩, if_pos (hok k hk)⟩) hM
 ·rw [List.getElem?_set_ne (Ne.symm Sn)] at hq;exact d.dX (fun k hk => ⟨⟨hk.1.1.1, hk.1.2⟩, (if_neg hk.1.1.2).trans hk.2⟩) ((hr.2 m (q, m) (xV hq)).2 Sn)
theorem U9 (h : H d e w base ok v xs i vD c) : H d e w base ok v xs i (fun k => vD k ∨ ok k ∧ w.heap.size ≤ k) c := by
 obtain ⟨ho, f, h⟩ := h;exact ⟨fun k hk => hk.elim (ho k) (fun h2 => h2.1), f, bB (jI h) (fun k hk => ⟨hk.1.1, fun h2 => h2.elim hk.1.2 (fun h3 => by have := hk.2.2.1; omega)⟩)⟩
theorem ZK (h : H d e w base ok v xs i vD c) (hm : ∀ k, ok k → ¬ vD k → k < w.heap.size → w1.heap[k]? = w.heap[k]?) : H d e w1 base ok v xs i vD c := by
 obtain ⟨ho, f, h⟩ := h;exact ⟨ho, f, De h (fun k hk hlt => hm k hk.1 hk.2 hlt)⟩
theorem Va (h : H d e w base ok v xs i vD c) {row : Option Nat} (hg : w.grownBy w1 row) (hrow : ∀ k, row = some k → vD k) : H d e w1 base ok v xs i vD c :=
 ZK h (fun k _ hn hlt => hg.block k hlt (fun he => hn (hrow k he.symm)))
theorem ZL (h : H d e w base ok v xs i vD c) (hok : ∀ k, ok k → ok' k) : H d e w base ok' v xs i vD c := by
 obtain ⟨ho, f, h⟩ := h;exact ⟨fun k hk => hok k (ho k hk), f, bB h (fun k hk => ⟨hok k hk.1, hk.2⟩)⟩
theorem ZM {Vb : Nat → Prop} (h : H d e w base (fun k => ok k ∧ ¬ Vb k) v xs i vD c) (hg : ∀ k, Vb k → ok k) : H d e w base ok v xs i (fun k => vD k ∨ Vb k) c := by
 obtain ⟨ho, f, h⟩ := h;exact ⟨fun k hk => hk.elim (fun h2 => (ho k h2).1) (hg k), f, bB h (fun k hk => ⟨hk.1.1, fun h2 => h2.elim hk.2 hk.1.2⟩)⟩
theorem XV (h : H d e W base ok (.slice (some ⟨g, 0, none⟩) n cap) xs i vD c) (h0 : 0 ≤ i) (h1 : i < n) :
  ∃ rows : List (List Value), rows.length = xs.length ∧ (raw d.sz).R e W base (fun _ => True) (.slice (some ⟨g, 0, none⟩) n cap) rows ∧ c.length = d.sz ∧ (∀ u ∈ c, u.oneCell' = true) ∧ (∀ j u, c[j]? = some u → W.cell? ⟨g, i.toNat * d.sz + j, none⟩ = some u) ∧
   ∀ w1 c', W.grownBy w1 (some g) → (raw d.sz).R e w1 base (fun _ => True) (.slice (some ⟨g, 0, none⟩) n cap) (rows.set i.toNat c') → H d e w1 base ok (.slice (some ⟨g, 0, none⟩) n cap) xs i vD c' := by
 obtain ⟨hoo, f, hR⟩ := h;have hn := (dD hR).1;rw [List.length_zipIdx] at hn;have hgo : some g = (Value.slice (some ⟨g, 0, none⟩) n cap).ownBlock := by simp [Value.ownBlock]
 obtain ⟨hok0, inner, ho, hr⟩ := hR;have hil : i.toNat < xs.length := by omega
 have hlen : inner.length = xs.length * d.sz := by have := hr.1; rw [List.length_zipIdx] at this; exact this
 have hkg : ∀ k, some k ≠ (Value.slice (some ⟨g, 0, none⟩) n cap).ownBlock → k ≠ g := fun k hk he => hk (by rw [he]; exact hgo)
 have hci := (hr.2 i.toNat _ (xV (List.getElem?_eq_getElem hil))).1 rfl;rw [hci.1] at hci;have hc := ((hr.2 i.toNat _ (xV (List.getElem?_eq_getElem hil))).1 rfl).1;refine ⟨(List.range xs.length).map fun j => (inner.drop (j * d.sz)).take d.sz, by rw [List.length_map, List.length_range], ⟨fun _ _ => trivial, inner, ?_, ?_, fun j p hj => ?_⟩, hci.2.1, hci.2.2, fun j u hu => ?_, fun w1 c' hg hraw => ?_⟩
 ·rw [List.length_map, List.length_range]; rw [List.length_zipIdx] at ho; exact ho
 ·rw [List.length_map, List.length_range]; exact hlen
 ·rw [List.getElem?_map] at hj;obtain ⟨j', hj', rfl⟩ := Option.map_eq_some_iff.1 hj;obtain ⟨hl, he⟩ := List.getElem?_eq_some_iff.1 hj';rw [List.getElem_range] at he;subst he;rw [List.length_range] at hl;have hm := (gap f d i.toNat c).fD (hr.2 j _ (xV (List.getElem?_eq_getElem hl)));exact ⟨rfl, (gap f d i.toNat c).jd hm, (gap f d i.toNat c).iW hm⟩
 ·rw [← hc, List.getElem?_take] at hu;split at hu
  ·rw [List.getElem?_drop] at hu;have := ho.cells (g := g) hgo.symm _ u hu;rwa [add_plain] at this
  ·cases hu
 ·obtain ⟨_, Jd, ho', hr'⟩ := hraw;have hl' : Jd.length = xs.length * d.sz := by have := hr'.1; rw [List.length_set, List.length_map, List.length_range] at this; exact this
  rw [List.length_set, List.length_map, List.length_range] at ho';refine ⟨hoo, f, hok0, Jd, by rw [List.length_zipIdx]; exact ho', by rw [List.length_zipIdx]; exact hl', fun m p hm => ?_⟩;rw [List.getElem?_zipIdx, Nat.zero_add] at hm;obtain ⟨q, hq, rfl⟩ := Option.map_eq_some_iff.1 hm;have RO : m < xs.length := (List.getElem?_eq_some_iff.1 hq).1;have hold := hr.2 m (q, m) (xV hq);refine ⟨fun hx => ?_, fun hx => ?_⟩
  ·have hx' : m = i.toNat := hx;subst hx';exact hr'.2 i.toNat c' (List.getElem?_set_self (by rw [List.length_map, List.length_range]; exact RO))
  ·have hx' : m ≠ i.toNat := hx;have hcm := (hr'.2 m ((inner.drop (m * d.sz)).take d.sz) (by
    rw [List.getElem?_set_ne (Ne.symm hx'), List.getElem?_map, List.getElem?_eq_getElem (by rw [List.length_range]; exact RO), List.getElem_range];rfl)).1
   show d.M w1 base _ q ((Jd.drop (m * d.sz)).take d.sz);rw [show (Jd.drop (m * d.sz)).take d.sz = _ from hcm];exact d.dX (fun k hk => hk.1) (d.fZ (w1 := w1) (fun k hk => hg.block k hk.2.2.1 (fun he => hkg k hk.1.1.2 (by injection he))) (d.fE (hold.2 hx)))
theorem acu (h : H d e W base ok (.slice (some ⟨g, 0, none⟩) n cap) xs i vD c) (h0 : 0 ≤ i) (h1 : i < n) {jv : List Value} {j : Nat} (hj : j + jv.length ≤ d.sz) (hone : ∀ q ∈ jv, q.oneCell' = true) :
  H d e (W.setCells g (i.toNat * d.sz + j) jv) base ok (.slice (some ⟨g, 0, none⟩) n cap) xs i vD (c.take j ++ jv ++ c.drop (j + jv.length)) ∧ W.grownBy (W.setCells g (i.toNat * d.sz + j) jv) (some g) := by
 obtain ⟨rows, _, hraw, hcl, hco, hcc, hback⟩ := XV h h0 h1;obtain ⟨h2, h3⟩ := Sm hraw i h0 h1 (c := c) (jv := jv) (j := j) (x' := c.take j ++ jv ++ c.drop (j + jv.length)) (lV := fun _ => False) hcl hcc hj
  ⟨rfl, by
   show (c.take j ++ jv ++ c.drop (j + jv.length)).length = d.sz;simp only [List.length_append, List.length_take, List.length_drop]; omega, fun u hu => by
   rcases List.mem_append.1 hu with hu | hu
   ·rcases List.mem_append.1 hu with hu | hu
    ·exact hco u (List.mem_of_mem_take hu)
    ·exact hone u hu
   ·exact hco u (List.mem_of_mem_drop hu)⟩ (fun _ hk => hk.elim)
 exact ⟨hback _ _ h3 h2, h3⟩
theorem acv {Vb : Nat → Prop} (hH : H d e W base (fun k => ok k ∧ ¬ Vb k) (.slice (some ⟨g, 0, none⟩) n cap) xs i vD c) (h0 : 0 ≤ i) (h1 : i < n) {jv : List Value} {j : Nat} (hj : j + jv.length ≤ d.sz)
  {x' : α} (hM : d.M W base lV x' (c.take j ++ jv ++ c.drop (j + jv.length))) (xJ : ∀ k, lV k → vD k ∨ Vb k) (hg : ∀ k, Vb k → ok k ∧ k ≠ g) :
  S d e (W.setCells g (i.toNat * d.sz + j) jv) base ok (.slice (some ⟨g, 0, none⟩) n cap) (xs.set i.toNat x') ∧ W.grownBy (W.setCells g (i.toNat * d.sz + j) jv) (some g) := by
 have hne : ∀ k, vD k ∨ Vb k → k ≠ g := by
  intro k hk he;subst he;rcases hk with hk | hk
  ·obtain ⟨_, f, hR⟩ := hH;exact (hR.1 k (by simp [Value.ownBlock])).2 hk
  ·exact (hg k hk).2 rfl
 obtain ⟨h2, h3⟩ := acu (ZM hH (fun k hk => (hg k hk).1)) h0 h1 hj (fun q hq => d.iW (d.fD hM) q (List.mem_append_left _ (List.mem_append_right _ hq)));exact ⟨ZJ h2 (Mo hM (fun k hk hlt => h3.block k hlt (fun he => hne k (xJ k hk) (by injection he)))) xJ, h3⟩
end
section
variable {P : Program} {ops : Array Oper} {rest : List Oper} {o : Oper} {a : Act} {Q : Exit → Act → World → Prop} {α : Type}
end
end Kd
end Go.Proofs.YtamimodkcbbpmaaW.PrintWords
end
section
namespace Go.Proofs.YtamimodkcbbpmaaW.PrintWords
open Go.RowKit
namespace Kd
theorem SA {α : Type} {R : α → List Value → Prop} {size : Nat} {ps : List α} {cs : List Value} (h : fJ R size ps cs) (hs0 : 0 < size) (hR : ∀ p c, R p c → ∀ u ∈ c, u.oneCell' = true) : ∀ u ∈ cs, u.oneCell' = true := by
 intro u hu;obtain ⟨q, hq, rfl⟩ := List.mem_iff_getElem.1 hu;have hql : q / size < ps.length := by
  rw [Nat.div_lt_iff_lt_mul hs0, ← h.1];exact hq
 refine hR _ _ (h.2 (q / size) _ (List.getElem?_eq_getElem hql)) _ ?_;rw [List.mem_iff_getElem?];refine ⟨q % size, ?_⟩;rw [List.getElem?_take, if_pos (Nat.mod_lt _ hs0), List.getElem?_drop, Nat.mul_comm, Nat.div_add_mod, List.getElem?_eq_getElem hq]
def arr {α : Type} (n : Nat) (d : Kd α) (hs : 0 < d.sz) : Kd (List α) where
 sz := n * d.sz
 E := d.E
 K := fun w xs cs => xs.length = n ∧ fJ (d.K w) d.sz xs cs
 M := fun w base ok xs cs => xs.length = n ∧ fJ (d.M w base ok) d.sz xs cs
 jd := fun h => by rw [← h.1]; exact h.2.1
 iW := fun h => SA h.2 hs (fun _ _ hk => d.iW hk)
 gp := fun hb h => ⟨h.1, h.2.uk (fun _ _ hk => d.gp hb hk)⟩
 fD := fun h => ⟨h.1, h.2.uk (fun _ _ hk => d.fD hk)⟩
 dX := fun hok h => ⟨h.1, h.2.uk (fun _ _ hk => d.dX hok hk)⟩
 fE := fun h => ⟨h.1, h.2.uk (fun _ _ hk => d.fE hk)⟩
 fZ := fun hm h => ⟨h.1, h.2.uk (fun _ _ hk => d.fZ hm hk)⟩
 gq := fun hb h => ⟨h.1, h.2.uk (fun _ _ hk => d.gq hb hk)⟩
section
variable {α : Type} {n : Nat} {d : Kd α} {hs : 0 < d.sz} {w : World} {base : Nat} {ok : Nat → Prop} {xs : List α} {cs : List Value}
end
section
variable {α : Type} {n : Nat} {enc : α → Value} {h1 : ∀ x, (enc x).oneCell' = true} {hs : 0 < (scalar enc h1).sz} {w : World} {base : Nat} {ok : Nat → Prop} {xs : List α} {cs : List Value}
end
end Kd
end Go.Proofs.YtamimodkcbbpmaaW.PrintWords
end
section
namespace Go.Proofs.YtamimodkcbbpmaaW.PrintWords
open Go.RowKit
section
variable {P : Program}
end
namespace Kd
section
variable {P : Program} {ops : Array Oper} {rest : List Oper} {o : Oper} {a : Act} {Q : Exit → Act → World → Prop} {Kc : Act → World → Prop} {α : Type}
end
def anR {α : Type} (f : Nat → Nat) (d : Kd α) : Kd (α × Option Nat) where
 sz := d.sz
 E := d.E
 K := fun w x cs => d.K w x.1 cs
 M := fun w base ok x cs => d.M w base (fun k => ok k ∧ some (f k) = x.2) x.1 cs
 jd := fun h => d.jd h
 iW := fun h => d.iW h
 gp := fun hb h => d.gp hb h
 fD := fun h => d.fD h
 dX := fun hok h => d.dX (fun k hk => ⟨hok k hk.1, hk.2⟩) h
 fE := fun h => d.dX (fun _ hk => ⟨⟨hk.1.1, hk.2⟩, hk.1.2⟩) (d.fE h)
 fZ := fun hm h => d.fZ (fun k hk => hm k hk.1) h
 gq := fun hb h => d.gq hb h
section
variable {α : Type} {d : Kd α} {e : Nat} {w : World} {base : Nat} {ok : Nat → Prop} {v : Value} {xs : List α}
def anS (xs : List α) (z : α) (m : Nat) : List (α × Option Nat) := xs.zipIdx.map (fun p => (p.1, some p.2)) ++ List.replicate m (z, none)
end
section
variable {P : Program} {ops : Array Oper} {rest : List Oper} {o : Oper} {a : Act} {Q : Exit → Act → World → Prop} {Kc : Act → World → Prop} {α : Type}
end
end Kd
end Go.Proofs.YtamimodkcbbpmaaW.PrintWords
end
section
namespace Go.Proofs.YtamimodkcbbpmaaW.PrintWords
open Go.RowKit
namespace Kd
structure Heap {α : Type} (d : Kd α) : Prop where
 K : ∀ {w w1 : World} {x : α} {cs : List Value}, (∀ k, k < w.heap.size → w1.heap[k]? = w.heap[k]?) → d.K w x cs → d.K w1 x cs
theorem QK {w w1 : World} (hb : ∀ k, k < w.heap.size → w1.heap[k]? = w.heap[k]?) {a : Addr} {v : Value} (h : w.cell? a = some v) : w1.cell? a = some v := by
 have := hb a.block (World.block_lt_of_cell? w a h);simpa [World.cell?, this] using h
theorem Heap.C {α : Type} {d : Kd α} (hd : Heap d) {w w1 : World} {A : Option Addr} {n : Nat} {xs : List α} (hb : ∀ k, k < w.heap.size → w1.heap[k]? = w.heap[k]?) (h : d.C w A n xs) : d.C w1 A n xs :=
 ⟨h.1, h.2.1, fun hn => by
  obtain ⟨ad, e, hc⟩ := h.2.2 hn;refine ⟨ad, e, fun j p hj => ?_⟩;obtain ⟨c, hs, hr, hcell⟩ := hc j p hj;exact ⟨c, hs, hd.K hb hr, fun i u hu => QK hb (hcell i u hu)⟩⟩
section
variable {α : Type} {d : Kd α} {e base g n c : Nat} {ok : Nat → Prop} {w w0 W : World} {A : Option Addr} {xs : List α}
end
end Kd
end Go.Proofs.YtamimodkcbbpmaaW.PrintWords
end
section
namespace Go.Proofs.YtamimodkcbbpmaaW.PrintWords
open Go.RowKit
def Kept (w W : World) (S : Nat → Prop) : Prop := w.heap.size ≤ W.heap.size ∧ ∀ i, i < w.heap.size → ¬ S i → W.heap[i]? = w.heap[i]?
section
variable {w W W2 : World} {S S2 S' : Nat → Prop}
theorem Kept.refl (w : World) (S : Nat → Prop) : Kept w w S := ⟨Nat.le_refl _, fun _ _ _ => rfl⟩
theorem Kept.of_below (h : Below w.heap.size w W) (S : Nat → Prop) : Kept w W S := ⟨h.size, fun i hi _ => h.block i hi⟩
theorem Kept.mono (h : Kept w W S) (hs : ∀ k, S k → S' k) : Kept w W S' := ⟨h.1, fun i hi hn => h.2 i hi (fun hk => hn (hs i hk))⟩
theorem Kept.SB (h : Kept w W S) (k : Kept W W2 S2) (hs : ∀ k, S2 k → S k ∨ w.heap.size ≤ k) : Kept w W2 S :=
 ⟨Nat.le_trans h.1 k.1, fun i hi hn => (k.2 i (Nat.lt_of_lt_of_le hi h.1) (fun h2 => (hs i h2).elim hn (fun h3 => by omega))).trans (h.2 i hi hn)⟩
theorem Kept.xP {row : Option Nat} (hg : W.grownBy W2 row) (h : Kept w W S) (hr : ∀ k, row = some k → S k ∨ w.heap.size ≤ k) : Kept w W2 S :=
 h.SB (S2 := fun k => row = some k) ⟨hg.size, fun i hi hn => hg.block i hi (fun he => hn he.symm)⟩ hr
theorem Kept.below (h : Kept w W S) (hb : Below W.heap.size W W2) : Kept w W2 S := h.SB (Kept.of_below hb (fun _ => False)) (fun _ hk => hk.elim)
theorem Kept.alloc (h : Kept w W S) (o : Obj) : Kept w (W.alloc o) S := h.below (dY (Below.refl _ _) o)
theorem Kept.drew (h : Kept w W S) : Kept w W.drew S := h
theorem Kept.drewN (h : Kept w W S) (m : Nat) : Kept w (W.drewN m) S := h
theorem Kept.setCell (h : Kept w W S) {p : Addr} (hp : S p.block ∨ w.heap.size ≤ p.block) (u : Value) : Kept w (W.setCell p u) S :=
 h.SB (S2 := fun k => k = p.block) ⟨by simp [World.setCell], fun i _ hn => Below.heap_setCell W p u i hn⟩ (fun k hk => by rw [hk]; exact hp)
theorem Kept.keep {g : Nat} (h : iO w W g none) (k : Kept W W2 S2) (hs : ∀ k, S2 k → w.heap.size ≤ k) : iO w W2 g none :=
 ⟨Nat.le_trans h.1 k.1, fun i hi hg hr => (k.2 i (Nat.lt_of_lt_of_le hi h.1) (fun h2 => by have := hs i h2; omega)).trans (h.2 i hi hg hr)⟩
end
namespace Kd
section
variable {α : Type} {d : Kd α} {e base n c : Nat} {ok vD S S2 : Nat → Prop} {w w0 W W1 W2 : World} {v : Value} {A : Option Addr} {xs : List α} {i : Int} {cs : List Value}
end
end Kd
end Go.Proofs.YtamimodkcbbpmaaW.PrintWords
end
section
namespace Go.Proofs.YtamimodkcbbpmaaW.PrintWords
open Go.RowKit
def vK (P : World → Prop) (W : World) (ok : Nat → Prop) : Prop := ∀ W' : World, (∀ k, ok k → k < W.heap.size → W'.heap[k]? = W.heap[k]?) → P W'
theorem Vd {W W1 : World} {k : Nat} (h : W1.heap[k]? = W.heap[k]?) (hlt : k < W.heap.size) : k < W1.heap.size := by
 rw [Array.getElem?_eq_getElem hlt] at h;exact (Array.getElem?_eq_some_iff.1 h).1
namespace vK
variable {P Q : World → Prop} {W W1 : World} {ok ok' : Nat → Prop}
theorem now (h : vK P W ok) : P W := h W (fun _ _ _ => rfl)
theorem mono (h : vK P W ok) (hok : ∀ k, ok k → ok' k) : vK P W ok' := fun W' hW => h W' (fun k hk hlt => hW k (hok k hk) hlt)
theorem bound (h : vK P W ok) : vK P W (fun k => ok k ∧ k < W.heap.size) := fun W' hW => h W' (fun k hk hlt => hW k ⟨hk, hlt⟩ hlt)
theorem step (h : vK P W ok) (hm : ∀ k, ok k → k < W.heap.size → W1.heap[k]? = W.heap[k]?) : vK P W1 ok := fun W' hW => h W' (fun k hk hlt => (hW k hk (Vd (hm k hk hlt) hlt)).trans (hm k hk hlt))
theorem imp (h : vK P W ok) (hi : ∀ W', P W' → Q W') : vK Q W ok := fun W' hW => hi W' (h W' hW)
theorem old (h : vK P W ok) (hb : Below W.heap.size W W1) : vK P W1 (fun k => ok k ∧ k < W.heap.size) := (h.bound).step (fun k _ hlt => hb.block k hlt)
end vK
namespace Kd
def F {α : Type} (d : Kd α) (W : World) (ok : Nat → Prop) (A : Option Addr) (n : Nat) (xs : List α) : Prop := vK (fun W => d.C W A n xs) W ok
def FK {α : Type} (d : Kd α) (W : World) (ok : Nat → Prop) (x : α) (c : List Value) : Prop := vK (fun W => d.K W x c) W ok
section
variable {α β : Type} {d : Kd α} {e base n n' cc g N : Nat} {ok ok' lV S : Nat → Prop} {w w0 w1 W W1 : World} {A A' : Option Addr} {u v v1 : Value} {xs : List α} {xs' : List β} {d' : Kd β} {x : α} {c : List Value}
theorem SC (d : Kd α) (W : World) (ok : Nat → Prop) : F d W ok none ([] : List α).length [] := fun W' _ => aci d W'
theorem xX (h : FK d W ok x c) : d.K W x c := vK.now h
theorem Ve (h : d.M W base ok x c) : FK d W ok x c := fun _ hW => d.fD (Mo h hW)
end
end Kd
end Go.Proofs.YtamimodkcbbpmaaW.PrintWords
end
section
namespace Go.Proofs.YtamimodkcbbpmaaW.PrintWords
open Go.RowKit
namespace Kd
def chunks (sz : Nat) (n : Nat) (inner : List Value) : List (List Value) := (List.range n).map fun j => (inner.drop (j * sz)).take sz
theorem je (sz n : Nat) (inner : List Value) : (chunks sz n inner).length = n := by simp [chunks]
theorem QL {sz n : Nat} {inner : List Value} {j : Nat} (hj : j < n) : (chunks sz n inner)[j]? = some ((inner.drop (j * sz)).take sz) := by simp [chunks, hj]
theorem zH {sz n : Nat} {inner : List Value} {j : Nat} {c : List Value} (h : (chunks sz n inner)[j]? = some c) : c = (inner.drop (j * sz)).take sz := by
 have hj : j < n := by have := (List.getElem?_eq_some_iff.1 h).1; rwa [je] at this
 rw [QL hj] at h;injection h with h
 exact h.symm
theorem KQ {α : Type} {Rr : α → List Value → Prop} {sz : Nat} {xs : List α} {inner : List Value} (h : fJ Rr sz xs inner) (hR : ∀ x c, Rr x c → c.length = sz ∧ ∀ u ∈ c, u.oneCell' = true) : fJ (fun x cs => cs = x ∧ cs.length = sz ∧ ∀ u ∈ cs, u.oneCell' = true) sz (chunks sz xs.length inner) inner := by
 refine ⟨by rw [je]; exact h.1, fun j p hj => ?_⟩;have hjl : j < xs.length := by have := (List.getElem?_eq_some_iff.1 hj).1; rwa [je] at this
 have hp := zH hj;exact ⟨hp.symm, hR _ _ (h.2 j _ (List.getElem?_eq_getElem hjl))⟩
section
variable {α : Type} {d : Kd α} {e base n cc g : Nat} {ok ok' lV S : Nat → Prop} {w w1 W W1 : World} {A : Option Addr} {u v v1 : Value} {xs : List α} {x : α} {c : List Value}
def N {α : Type} (d : Kd α) (e : Nat) (w : World) (base : Nat) (ok : Nat → Prop) (v : Value) (xs : List α) : Prop :=
 (∀ k, v.ownBlock = some k → ok k) ∧ ∃ rows : List (List Value), rows.length = xs.length ∧ (raw d.sz).R e w base (fun k => some k = v.ownBlock) v rows ∧ ∀ (j : Nat) (x : α) (c : List Value), xs[j]? = some x → rows[j]? = some c → FK d w (fun k => ok k ∧ some k ≠ v.ownBlock) x c
theorem R_N (h : d.R e w base ok v xs) : N d e w base ok v xs := by
 obtain ⟨h0, inner, ho, hr⟩ := h;refine ⟨h0, chunks d.sz xs.length inner, je _ _ _, ⟨fun k hk => hk.symm, inner, by rw [je]; exact ho, KQ hr (fun x c hp => ⟨d.jd (d.fD hp), d.iW (d.fD hp)⟩)⟩, fun j x c hx hc => ?_⟩;rw [zH hc];exact Ve (hr.2 j x hx)
theorem xY (d : Kd α) (e : Nat) (w : World) (base : Nat) (ok : Nat → Prop) : N d e w base ok (.slice none 0 0) [] := R_N (qf _ _ _ _ _)
end
end Kd
end Go.Proofs.YtamimodkcbbpmaaW.PrintWords
end
section
namespace Go.Proofs.YtamimodkcbbpmaaW.PrintWords
open Go.RowKit
namespace Kd
section
variable {α : Type} {d : Kd α} {W : World} {g n : Nat} {S ok : Nat → Prop} {A : Option Addr} {ad : Addr} {xs : List α}
end
end Kd
end Go.Proofs.YtamimodkcbbpmaaW.PrintWords
end
section
namespace Go.Proofs.YtamimodkcbbpmaaW.PrintWords
open Go.RowKit
section
variable {w w' u : World} {m B g : Nat} {o : Obj} {row : Option Nat} {S : Nat → Prop} {a : Addr} {v : Value}
end
namespace Kd
section
variable {α : Type} {d : Kd α} {e base n m : Nat} {ok : Nat → Prop} {w w' : World} {v : Value} {A : Option Addr} {xs : List α}
end
end Kd
end Go.Proofs.YtamimodkcbbpmaaW.PrintWords
end
section
namespace Go.Proofs.YtamimodkcbbpmaaW.PrintWords
open Go.RowKit
section
variable {P : Program} {d : Nat} {xs ys : Array Value} {f : Field} {fs : List Field} {a b : Value} {r s : Bool} {w : World}
end
end Go.Proofs.YtamimodkcbbpmaaW.PrintWords
end
section
namespace Go.Proofs.YtamimodkcbbpmaaW.PrintWords
theorem fJ.one {α : Type} {R : α → List Value → Prop} {ps : List α} {cs : List Value} {p : α} {v : Value} (hp : R p [v]) (h : fJ R 1 ps cs) : fJ R 1 (p :: ps) (v :: cs) := by
 refine ⟨by simp [h.1], fun j q hq => ?_⟩
 cases j with
 | zero =>
  simp only [List.getElem?_cons_zero, Option.some.injEq] at hq;subst hq;simpa using hp
 | succ j =>
  simp only [List.getElem?_cons_succ] at hq;have h1 := h.2 j q hq;simpa [Nat.mul_one] using h1
theorem fJ.front {α : Type} {R : α → List Value → Prop} {size : Nat} {ps : List α} {cs c all : List Value} {p : α} (hp : R p c) (hc : c.length = size) (h : fJ R size ps cs) (ha : c ++ cs = all) : fJ R size (p :: ps) all := by
 subst ha;refine ⟨by rw [List.length_append, hc, h.1, List.length_cons, Nat.succ_mul, Nat.add_comm], fun j q hq => ?_⟩
 cases j with
 | zero =>
  simp only [List.getElem?_cons_zero, Option.some.injEq] at hq;subst hq;rw [Nat.zero_mul, List.drop_zero, List.take_append_of_le_length (by omega), List.take_of_length_le (by omega)];exact hp
 | succ j =>
  simp only [List.getElem?_cons_succ] at hq;have h1 := h.2 j q hq;rw [Nat.succ_mul, List.drop_append, List.drop_of_length_le (by rw [hc]; exact Nat.le_add_left _ _), List.nil_append, hc, Nat.add_sub_cancel];exact h1
theorem fJ.c2 {α : Type} {R : α → List Value → Prop} {ps : List α} {cs : List Value} {p : α} {va vb : Value} (hp : R p [va, vb]) (h : fJ R 2 ps cs) : fJ R 2 (p :: ps) (va :: vb :: cs) := fJ.front hp rfl h rfl
theorem fJ.c3 {α : Type} {R : α → List Value → Prop} {ps : List α} {cs : List Value} {p : α} {va vb vc : Value} (hp : R p [va, vb, vc]) (h : fJ R 3 ps cs) : fJ R 3 (p :: ps) (va :: vb :: vc :: cs) := fJ.front hp rfl h rfl
theorem fJ.c4 {α : Type} {R : α → List Value → Prop} {ps : List α} {cs : List Value} {p : α} {va vb vc vd : Value} (hp : R p [va, vb, vc, vd]) (h : fJ R 4 ps cs) : fJ R 4 (p :: ps) (va :: vb :: vc :: vd :: cs) := fJ.front hp rfl h rfl
theorem fJ.c5 {α : Type} {R : α → List Value → Prop} {ps : List α} {cs : List Value} {p : α} {va vb vc vd ve : Value} (hp : R p [va, vb, vc, vd, ve]) (h : fJ R 5 ps cs) : fJ R 5 (p :: ps) (va :: vb :: vc :: vd :: ve :: cs) := fJ.front hp rfl h rfl
theorem fJ.c6 {α : Type} {R : α → List Value → Prop} {ps : List α} {cs : List Value} {p : α} {va vb vc vd ve vf : Value} (hp : R p [va, vb, vc, vd, ve, vf]) (h : fJ R 6 ps cs) : fJ R 6 (p :: ps) (va :: vb :: vc :: vd :: ve :: vf :: cs) := fJ.front hp rfl h rfl
theorem fJ.c7 {α : Type} {R : α → List Value → Prop} {ps : List α} {cs : List Value} {p : α} {va vb vc vd ve vf vg : Value} (hp : R p [va, vb, vc, vd, ve, vf, vg]) (h : fJ R 7 ps cs) : fJ R 7 (p :: ps) (va :: vb :: vc :: vd :: ve :: vf :: vg :: cs) := fJ.front hp rfl h rfl
theorem fJ.c8 {α : Type} {R : α → List Value → Prop} {ps : List α} {cs : List Value} {p : α} {va vb vc vd ve vf vg vh : Value} (hp : R p [va, vb, vc, vd, ve, vf, vg, vh]) (h : fJ R 8 ps cs) : fJ R 8 (p :: ps) (va :: vb :: vc :: vd :: ve :: vf :: vg :: vh :: cs) := fJ.front hp rfl h rfl
theorem fJ.c9 {α : Type} {R : α → List Value → Prop} {ps : List α} {cs : List Value} {p : α} {va vb vc vd ve vf vg vh vi : Value} (hp : R p [va, vb, vc, vd, ve, vf, vg, vh, vi]) (h : fJ R 9 ps cs) : fJ R 9 (p :: ps) (va :: vb :: vc :: vd :: ve :: vf :: vg :: vh :: vi :: cs) := fJ.front hp rfl h rfl
theorem fJ.c10 {α : Type} {R : α → List Value → Prop} {ps : List α} {cs : List Value} {p : α} {va vb vc vd ve vf vg vh vi vj : Value} (hp : R p [va, vb, vc, vd, ve, vf, vg, vh, vi, vj]) (h : fJ R 10 ps cs) : fJ R 10 (p :: ps) (va :: vb :: vc :: vd :: ve :: vf :: vg :: vh :: vi :: vj :: cs) := fJ.front hp rfl h rfl
end Go.Proofs.YtamimodkcbbpmaaW.PrintWords
end
section
namespace Go.Proofs.YtamimodkcbbpmaaW.PrintLast
def up (b : Nat → Bool) (i : Nat) : Nat → Bool := fun j => if j = i then true else b j
def lof (n : Nat) (O : List Nat) (b : Nat → Bool) : List Bool := (List.range n).map fun j => if O.contains j then b j else true
def ZO (a : Act) (b : Nat → Bool) : List (Nat × Tmp × Value) → Act
 | [] => a
 | e :: r => ZO (if b e.1 = true then a.put (some e.2.1) e.2.2 else a) b r
section
variable {P : Program} {ops : Array Oper} {Q : Exit → Act → World → Prop} {md : Region.Mode} {T : Bool × List (List Nat × List Nat)} {B : List Nat} {O : List Nat} {b : Nat → Bool} {i j n : Nat}
def ahW (P : Program) (ops : Array Oper) (Q : Exit → Act → World → Prop) (B : List Nat) (O : List Nat) (I : (Nat → Bool) → Act → World → Prop) (i : Nat) : Prop :=
 ∀ b a w, I b a w → b i = false → (∀ j, (O.contains j && (B.getD i 0).testBit j) = true → b j = true) → (∀ d, (O.contains d && (B.getD d 0).testBit i) = true → b d = false) →
  ∃ oi, ops[i]? = some oi ∧ ∀ K : Act → World → Prop, Shut (∀ a' w', I (up b i) a' w' → K a' w') → if Region.wanted oi (yielded ops a.tmps) = true then Oper.wp P oi a w K Q else K (a.put oi.dst undef) w
def ahX (T : List (List Nat × List Nat)) (O : List Nat) : Bool :=
 (List.range T.length).all (fun d => match T[d]? with
  | some r => (O.contains d || r.1.all fun n => !O.contains n) && r.1.all fun n => decide (n < d)
  | none => false) && O.all (fun i => decide (i < T.length)) && decide O.Nodup
def Closed (T : List (List Nat × List Nat)) (O : List Nat) (b : Nat → Bool) : Prop := ∀ d r, T[d]? = some r → O.contains d = true → b d = true → ∀ n ∈ r.1, O.contains n = true → b n = true
end
end Go.Proofs.YtamimodkcbbpmaaW.PrintLast
end
section
namespace Go.Proofs.YtamimodkcbbpmaaW.PrintWords
open Go.RowKit
end Go.Proofs.YtamimodkcbbpmaaW.PrintWords
namespace Go.Proofs.YtamimodkcbbpmaaW.PrintLast
section
variable {ops : Array Oper} {a : Act} {o og : Oper} {g : Nat} {t : Tmp} {u : Bool}
end
end Go.Proofs.YtamimodkcbbpmaaW.PrintLast
end
section
namespace Go.Proofs.YtamimodkcbbpmaaW.PrintWords
open Go.RowKit
section
variable {P : Program} {ops : Array Oper} {rest : List Oper} {o : Oper} {a : Act} {Q : Exit → Act → World → Prop} {W : World}
theorem gG (hw : Region.wanted o (yielded ops a.tmps) = true) (h : wpList P ops Q ({ o with guard := none } :: rest) a W) : wpList P ops Q (o :: rest) a W := by
 have h1 : Region.wanted { o with guard := none } (yielded ops a.tmps) = true := rfl;unfold wpList at h ⊢;rw [if_pos h1] at h;rw [if_pos hw];exact h
end
end Go.Proofs.YtamimodkcbbpmaaW.PrintWords
end
section
namespace Go.Proofs.YtamimodkcbbpmaaW.PrintWords
open Go.RowKit
namespace Kd
section
variable {α : Type} {d : Kd α} {e base n cap g : Nat} {ok ok' lV : Nat → Prop} {w w1 W : World} {v v1 : Value} {xs ys : List α}
end
section
variable {P : Program} {ops : Array Oper} {rest : List Oper} {o : Oper} {a : Act} {Q : Exit → Act → World → Prop} {Kc : Act → World → Prop} {α : Type}
end
end Kd
end Go.Proofs.YtamimodkcbbpmaaW.PrintWords
end
section
namespace Go.Proofs.YtamimodkcbbpmaaW.PrintMore
open Go.RowKit Go.Proofs.YtamimodkcbbpmaaW.PrintWords
namespace Kd
open Go.Proofs.YtamimodkcbbpmaaW.PrintWords.Kd
end Kd
namespace Kd
open Go.Proofs.YtamimodkcbbpmaaW.PrintWords.Kd
section
variable {α : Type} {d : Kd α} {e base g N : Nat} {ok : Nat → Prop} {W w1 : World} {u v : Value} {xs : List α}
end
end Kd
theorem aFh (k k' : IntKind) (x y : Int) : Builtin.max2 (.int k x) (.int k' y) = pure (.int k (if x < y then y else x)) := by simp only [Builtin.max2, gt_iff_lt]
theorem ky (k k' : IntKind) (x y : Int) : Builtin.min2 (.int k x) (.int k' y) = pure (.int k (if y < x then y else x)) := by simp only [Builtin.min2]
theorem lX (ats : Array TypeId) (ty : TypeId) (a b : Value) : Builtin.max_ ats ty #[a, b] = (Builtin.max2 a b >>= fun s => pure s) := by simp only [Builtin.max_, List.foldlM_cons, List.foldlM_nil]
theorem lY (ats : Array TypeId) (ty : TypeId) (a b : Value) : Builtin.min_ ats ty #[a, b] = (Builtin.min2 a b >>= fun s => pure s) := by simp only [Builtin.min_, List.foldlM_cons, List.foldlM_nil]
theorem jf (ats : Array TypeId) (ty : TypeId) (a b c : Value) : Builtin.max_ ats ty #[a, b, c] = (Builtin.max2 a b >>= fun s => Builtin.max2 s c >>= fun s => pure s) := by simp only [Builtin.max_, List.foldlM_cons, List.foldlM_nil]
theorem jg (ats : Array TypeId) (ty : TypeId) (a b c : Value) : Builtin.min_ ats ty #[a, b, c] = (Builtin.min2 a b >>= fun s => Builtin.min2 s c >>= fun s => pure s) := by simp only [Builtin.min_, List.foldlM_cons, List.foldlM_nil]
theorem kz (ats : Array TypeId) (ty : TypeId) (a b c d : Value) : Builtin.max_ ats ty #[a, b, c, d] = (Builtin.max2 a b >>= fun s => Builtin.max2 s c >>= fun s => Builtin.max2 s d >>= fun s => pure s) := by simp only [Builtin.max_, List.foldlM_cons, List.foldlM_nil]
theorem kC (ats : Array TypeId) (ty : TypeId) (a b c d : Value) : Builtin.min_ ats ty #[a, b, c, d] = (Builtin.min2 a b >>= fun s => Builtin.min2 s c >>= fun s => Builtin.min2 s d >>= fun s => pure s) := by simp only [Builtin.min_, List.foldlM_cons, List.foldlM_nil]
end Go.Proofs.YtamimodkcbbpmaaW.PrintMore
namespace Go.Proofs.YtamimodkcbbpmaaW.PrintWords
open Go.RowKit
section
variable {P : Program} {ops : Array Oper} {rest : List Oper} {o : Oper} {a : Act} {Q : Exit → Act → World → Prop} {W : World}
theorem dE {f : FuncId} {as : Array Operand} {ts : Array TypeId} (_ho : o.op = .call { callee := .value (.func f), args := as, argTypes := ts }) (h : wpList P ops Q (o :: rest) a W) : wpList P ops Q (o :: rest) a W := h
theorem Ab {b : Builtin} {xs : Array Operand} {ts : Array TypeId} (_ho : o.op = .call { callee := .builtin b, args := xs, argTypes := ts }) (h : wpList P ops Q (o :: rest) a W) : wpList P ops Q (o :: rest) a W := h
end
def mx (a b : Int) : Int := if a < b then b else a
def mn (a b : Int) : Int := if b < a then b else a
def shl (k : IntKind) (x y : Int) : Int := k.wrap (x * 2 ^ min y.toNat k.bits)
def shr (k : IntKind) (x y : Int) : Int := x / 2 ^ min y.toNat k.bits
theorem cell_grown {W w1 : World} {row : Option Nat} (hg : W.grownBy w1 row) {a : Addr} {v : Value} (h : W.cell? a = some v) (hne : some a.block ≠ row) : w1.cell? a = some v := by
 have := hg.block a.block (World.block_lt_of_cell? W a h) hne;simpa [World.cell?, this] using h
namespace Kd
section
variable {α : Type} {d : Kd α} {e base : Nat} {ok : Nat → Prop} {W w1 : World} {v : Value} {xs : List α}
end
section
variable {α : Type} {d : Kd α} {e base g n cap : Nat} {ok vD lV : Nat → Prop} {W : World} {xs : List α} {i : Int} {c : List Value}
theorem ahY (h : H d e W base ok (.slice (some ⟨g, 0, none⟩) n cap) xs i vD c) (h0 : 0 ≤ i) (h1 : i < n) : (∀ j u, c[j]? = some u → W.cell? ⟨g, i.toNat * d.sz + j, none⟩ = some u) ∧ ∀ j, W.frozen? ⟨g, i.toNat * d.sz + j, none⟩ = false := by
 obtain ⟨rows, _, hraw, _, _, hcc, _⟩ := XV h h0 h1;obtain ⟨_, _, _, _, hfr⟩ := Df hraw [] i h0 h1;exact ⟨hcc, hfr⟩
theorem ZQ (hH : H d e W base ok (.slice (some ⟨g, 0, none⟩) n cap) xs i vD c) (h0 : 0 ≤ i) (h1 : i < n) {jv : List Value} {j : Nat} (hj : j + jv.length ≤ d.sz)
  {x' : α} (hM : d.M W base lV x' (c.take j ++ jv ++ c.drop (j + jv.length))) (xJ : ∀ k, lV k → vD k) :
  S d e (W.setCells g (i.toNat * d.sz + j) jv) base ok (.slice (some ⟨g, 0, none⟩) n cap) (xs.set i.toNat x') ∧ W.grownBy (W.setCells g (i.toNat * d.sz + j) jv) (some g) :=
 acv (Vb := fun _ => False) (ZL hH (fun _ hk => ⟨hk, fun h => h⟩)) h0 h1 hj hM (fun k hk => .inl (xJ k hk)) (fun _ hk => hk.elim)
end
section
variable {α : Type} {d : Kd α} {e base b b' g N : Nat} {ok ok1 : Nat → Prop} {W W2 w1 : World} {u v : Value} {xs ys : List α} {S : Nat → Prop}
end
end Kd
end Go.Proofs.YtamimodkcbbpmaaW.PrintWords
namespace Go.Proofs.YtamimodkcbbpmaaW.PrintWords
open Go.RowKit
namespace Kd
def V {α : Type} (d : Kd α) (_e : Nat) (W : World) (aj6 : Nat) (ok : Nat → Prop) (v : Value) (xs : List α) : Prop := ∃ A c, v = .slice A xs.length c ∧ xs.length ≤ c ∧ F d W ok A xs.length xs
section
variable {α β : Type} {d : Kd α} {e base base' n m c g N' lo hi : Nat} {ok ok' S : Nat → Prop} {w W w1 : World} {A : Option Addr} {ad : Addr} {u v v1 : Value} {xs : List α}
theorem xZ (d : Kd α) (e : Nat) (W : World) (base : Nat) (ok : Nat → Prop) : V d e W base ok (.slice none 0 0) [] := ⟨none, 0, rfl, Nat.le_refl _, SC d W ok⟩
end
end Kd
end Go.Proofs.YtamimodkcbbpmaaW.PrintWords
end
section
namespace Go.Proofs.YtamimodkcbbpmaaW.PrintWords
open Go.ChangeShapes Go.WideShapes
end Go.Proofs.YtamimodkcbbpmaaW.PrintWords
end
