/- XH XI XK XL LA LB LC LD TE XValid XBinA F57 F58 F93: a part of the proof of the row of a; no conditions. -/
import Derived.Test.YtamimodkcbbpmaaG2
section
namespace Go.Proofs.Ytamimodkcbbpmaa.Pr
open Go.RowKit Go.Proofs.YtamimodkcbbpmaaW.PrintWords Go.Proofs.YtamimodkcbbpmaaW.PrintLast Go.Proofs.YtamimodkcbbpmaaXW Go.Proofs.YtamimodkcbbpmaaXM
set_option linter.unusedVariables false
set_option linter.unusedSimpArgs false
structure Ctx where
 w0 : World
 s : Nat
 q : Nat
 n : Nat
 A : Option Addr
 c : Nat
 es : List dO
 gv : Nat
 cv : Nat
 gs : Nat
 cs : Nat
 go : Nat
 co : Nat
 gu : Nat
 cu : Nat
 ge : Nat
 ce : Nat
structure QQ where
 es : List dP
 nx : Int
 ck : Int
abbrev Ctx.cells (X : Ctx) : Array Value := #[.int .i64 (X.n : Nat), .slice X.A X.es.length X.c, .slice (some ⟨X.gv, 0, none⟩) X.n X.cv, .slice (some ⟨X.gs, 0, none⟩) X.n X.cs, .slice (some ⟨X.go, 0, none⟩) X.es.length X.co, .slice (some ⟨X.gu, 0, none⟩) X.n X.cu, .pointer (some ⟨X.q, 0, none⟩)]
structure SS (X : Ctx) (w : World) (vs : List dK) (st : List Bool) (op : List Int) (us : List (List Int)) (ed : List Int) (Q : QQ) : Prop where
 hB : Below X.w0.heap.size X.w0 w
 hs : w.heap[X.s]? = some (.cells X.cells 121 (0, 0))
 hsb : X.w0.heap.size ≤ X.s
 hC : Kd.C sJ X.w0 X.A X.es.length X.es
 hV : Kd.R xA 34 w X.w0.heap.size (fun _ => True) (.slice (some ⟨X.gv, 0, none⟩) X.n X.cv) vs
 hS : Kd.R Kd.bool 4 w X.w0.heap.size (fun _ => True) (.slice (some ⟨X.gs, 0, none⟩) X.n X.cs) st
 hO : Kd.R (Kd.int .i64) 3 w X.w0.heap.size (fun k => k ≠ X.ge) (.slice (some ⟨X.go, 0, none⟩) X.es.length X.co) op
 hU : Kd.S (Kd.slice 3 (Kd.int .i64)) 44 w X.w0.heap.size (fun k => k ≠ X.go ∧ k ≠ X.ge) (.slice (some ⟨X.gu, 0, none⟩) X.n X.cu) us
 hE : Kd.R (Kd.int .i64) 3 w X.w0.heap.size (fun k => k ≠ X.go) (.slice (some ⟨X.ge, 0, none⟩) X.n X.ce) ed
 hQ : QS X.w0.heap.size w X.q Q.es Q.nx Q.ck
theorem alB {α : Type} {d : Kd α} {e base : Nat} {w w' : World} {ok : Nat → Prop} {v : Value} {xs : List α} (h : d.R e w base ok v xs) (ht : ∀ t, t ∈ e :: d.E → t ≠ 135 ∧ t ≠ 139) {b0 : Nat} (hf : vP b0 w w') : d.R e w' base ok v xs := by
 refine Kd.bB (Kd.xQ (Kd.jI h) (fun k hk => ?_)) (fun _ hk => hk.1);obtain ⟨_, _, _, t, htm, cells, hc⟩ := hk;obtain ⟨h1, h2⟩ := ht t htm;rw [hf.keep k _ _ _ hc h1 h2, hc]
theorem ac0 {α : Type} {d : Kd α} {e base : Nat} {w w' : World} {ok : Nat → Prop} {v : Value} {xs : List α} (h : Kd.S d e w base ok v xs) (ht : ∀ t, t ∈ e :: d.E → t ≠ 135 ∧ t ≠ 139) {b0 : Nat} (hf : vP b0 w w') : Kd.S d e w' base ok v xs := by
 refine Kd.iN (Kd.Sy (Kd.lF h) (fun k hk => ?_)) (fun _ hk => hk.1);obtain ⟨_, _, _, t, htm, cells, hc⟩ := hk;obtain ⟨h1, h2⟩ := ht t htm;rw [hf.keep k _ _ _ hc h1 h2, hc]
theorem SS.queue {X : Ctx} {w w' : World} {vs : List dK} {st : List Bool} {op : List Int} {us : List (List Int)} {ed : List Int} {Q : QQ} (h : SS X w vs st op us ed Q) (hf : vP X.w0.heap.size w w') (Q' : QQ) (hq : QS X.w0.heap.size w' X.q Q'.es Q'.nx Q'.ck) : SS X w' vs st op us ed Q' :=
 ⟨h.hB.trans hf.below, hf.keep _ _ _ _ h.hs (by decide) (by decide), h.hsb, h.hC, alB h.hV (by decide) hf, alB h.hS (by decide) hf, alB h.hO (by decide) hf, ac0 h.hU (by decide) hf, alB h.hE (by decide) hf, hq⟩
theorem at5 {base q g t : Nat} {w w1 : World} {es : List dP} {nx ck : Int} {cells : Array Value} (h : QS base w q es nx ck) (hc : w.heap[g]? = some (.cells cells t (0, 0))) (h1 : t ≠ 135) (h2 : t ≠ 139) (hg : w.grownBy w1 (some g)) : QS base w1 q es nx ck := by
 obtain ⟨v, bm, qy, mc, hq, hbq, hR, hm, EZ, hks⟩ := h;have e1 : some q ≠ some g := by rintro e; injection e with e; subst e; rw [hq] at hc; injection hc with hc; injection hc with _ hc; exact h1 hc.symm
 have e2 : some bm ≠ some g := by rintro e; injection e with e; subst e; rw [hm] at hc; cases hc
 refine ⟨v, bm, qy, mc, bX hq hg e1, hbq, ?_, bX hm hg e2, EZ, hks⟩;refine Kd.bB (Kd.vF (Kd.jI hR) hg (fun k hk => ?_)) (fun _ _ => trivial);obtain ⟨_, _, _, x, hx, cells', hc'⟩ := hk;have hx' : x ∈ [139] := hx;rw [List.mem_singleton] at hx';intro e;injection e with e
 subst e;rw [hc] at hc';injection hc' with hc'
 injection hc' with _ hc'
 exact h2 (hc'.trans hx')
section
variable {X : Ctx} {w w1 : World} {vs vs' : List dK} {st st' : List Bool} {op op' : List Int} {us us' : List (List Int)} {ed ed' : List Int} {Q : QQ}
theorem SS.aiw (h : SS X w vs st op us ed Q) (hS : Kd.R Kd.bool 4 w1 X.w0.heap.size (fun _ => True) (.slice (some ⟨X.gs, 0, none⟩) X.n X.cs) st') (hg : w.grownBy w1 (some X.gs)) : SS X w1 vs st' op us ed Q := by
 obtain ⟨inner, ho⟩ := Kd.xR h.hS;obtain ⟨cells, hc⟩ := Kd.lW h.hS X.gs rfl;exact ⟨jq h.hB _ h.hB.size hg (fun k hk => mf ho k hk), bX h.hs hg (Kd.aqP h.hS h.hs (by decide)), h.hsb, h.hC, Kd.nA h.hV h.hS (by decide) hg, hS, Kd.nA h.hO h.hS (by decide) hg, Kd.Ox h.hU (Kd.lW h.hS) (by decide) hg, Kd.nA h.hE h.hS (by decide) hg, at5 h.hQ hc (by decide) (by decide) hg⟩
theorem SS.TC (h : SS X w vs st op us ed Q) (hV : Kd.R xA 34 w1 X.w0.heap.size (fun _ => True) (.slice (some ⟨X.gv, 0, none⟩) X.n X.cv) vs') (hg : w.grownBy w1 (some X.gv)) : SS X w1 vs' st op us ed Q := by
 obtain ⟨inner, ho⟩ := Kd.xR h.hV;obtain ⟨cells, hc⟩ := Kd.lW h.hV X.gv rfl;exact ⟨jq h.hB _ h.hB.size hg (fun k hk => mf ho k hk), bX h.hs hg (Kd.aqP h.hV h.hs (by decide)), h.hsb, h.hC, hV, Kd.nA h.hS h.hV (by decide) hg, Kd.nA h.hO h.hV (by decide) hg, Kd.Ox h.hU (Kd.lW h.hV) (by decide) hg, Kd.nA h.hE h.hV (by decide) hg, at5 h.hQ hc (by decide) (by decide) hg⟩
theorem SS.ac2 (h : SS X w vs st op us ed Q) (hO : Kd.R (Kd.int .i64) 3 w1 X.w0.heap.size (fun k => k ≠ X.ge) (.slice (some ⟨X.go, 0, none⟩) X.es.length X.co) op') (hg : w.grownBy w1 (some X.go)) : SS X w1 vs st op' us ed Q := by
 obtain ⟨inner, ho⟩ := Kd.xR h.hO;obtain ⟨cells, hc⟩ := Kd.lW h.hO X.go rfl;exact ⟨jq h.hB _ h.hB.size hg (fun k hk => mf ho k hk), bX h.hs hg (Kd.aqP h.hO h.hs (by decide)), h.hsb, h.hC, Kd.nA h.hV h.hO (by decide) hg, Kd.nA h.hS h.hO (by decide) hg, hO, Kd.Ov h.hU hg (fun k hk e => hk.1 (by injection e)), Kd.vF h.hE hg (fun k hk e => hk (by injection e)), at5 h.hQ hc (by decide) (by decide) hg⟩
theorem SS.TD (h : SS X w vs st op us ed Q) (hE : Kd.R (Kd.int .i64) 3 w1 X.w0.heap.size (fun k => k ≠ X.go) (.slice (some ⟨X.ge, 0, none⟩) X.n X.ce) ed') (hg : w.grownBy w1 (some X.ge)) : SS X w1 vs st op us ed' Q := by
 obtain ⟨inner, ho⟩ := Kd.xR h.hE;obtain ⟨cells, hc⟩ := Kd.lW h.hE X.ge rfl;exact ⟨jq h.hB _ h.hB.size hg (fun k hk => mf ho k hk), bX h.hs hg (Kd.aqP h.hE h.hs (by decide)), h.hsb, h.hC, Kd.nA h.hV h.hE (by decide) hg, Kd.nA h.hS h.hE (by decide) hg, Kd.vF h.hO hg (fun k hk e => hk (by injection e)), Kd.Ov h.hU hg (fun k hk e => hk.2 (by injection e)), hE, at5 h.hQ hc (by decide) (by decide) hg⟩
end
theorem SS.size {X : Ctx} {w : World} {vs : List dK} {st : List Bool} {op : List Int} {us : List (List Int)} {ed : List Int} {Q : QQ} (h : SS X w vs st op us ed Q) : X.w0.heap.size ≤ w.heap.size := h.hB.size
theorem SS.below {X : Ctx} {w w' : World} {vs : List dK} {st : List Bool} {op : List Int} {us : List (List Int)} {ed : List Int} {Q : QQ} (h : SS X w vs st op us ed Q) (hb : Below w.heap.size w w') : SS X w' vs st op us ed Q :=
 h.queue (vP.of_below hb h.size) Q (lL h.hQ hb)
theorem SS.lens {X : Ctx} {w : World} {vs : List dK} {st : List Bool} {op : List Int} {us : List (List Int)} {ed : List Int} {Q : QQ} (h : SS X w vs st op us ed Q) : X.n = vs.length ∧ X.n = st.length ∧ X.es.length = op.length ∧ X.n = us.length ∧ X.n = ed.length :=
 ⟨(Kd.dD h.hV).1, (Kd.dD h.hS).1, (Kd.dD h.hO).1, (Kd.Sz h.hU).1, (Kd.dD h.hE).1⟩
theorem jk {α : Type} {enc : α → Value} {h1 : ∀ x, (enc x).oneCell' = true} {e base g n cap : Nat} {ok : Nat → Prop} {W : World} {xs : List α} (h : (Kd.scalar enc h1).R e W base ok (.slice (some ⟨g, 0, none⟩) n cap) xs) (z : α) (i : Int) (h0 : 0 ≤ i) (hi : i < n) :
  W.cell? ⟨g, i.toNat, none⟩ = some (enc (xs.getD i.toNat z)) ∧ W.frozen? ⟨g, i.toNat, none⟩ = false := by
 obtain ⟨c, hcl, hM, hcc, hfz⟩ := Kd.Df h z i h0 hi;have hs : (Kd.scalar enc h1).sz = 1 := rfl;obtain rfl : c = [enc (xs.getD i.toNat z)] := hM;refine ⟨?_, ?_⟩
 ·have := hcc 0 _ rfl;simpa [hs] using this
 ·have := hfz 0;simpa [hs] using this
def zt (N : Nat) (es : List dO) : Prop := ∀ e, e ∈ es → (0 ≤ e.f0 ∧ e.f0 < (N : Int)) ∧ (∀ t, t ∈ e.f1 → 0 ≤ t ∧ t < (N : Int)) ∧ e.f1.length ≤ 1000000
theorem jb {N : Nat} {es : List dO} (h : zt N es) (k : Int) (h0 : 0 ≤ k) (h1 : k < (es.length : Int)) : (0 ≤ (aj es k).f0 ∧ (aj es k).f0 < (N : Int)) ∧ (∀ t, t ∈ (aj es k).f1 → 0 ≤ t ∧ t < (N : Int)) ∧ (aj es k).f1.length ≤ 1000000 := by
 have hk : k.toNat < es.length := by omega
 refine h _ ?_;simp only [aj, List.getD_eq_getElem?_getD, List.getElem?_eq_getElem hk, Option.getD_some];exact List.getElem_mem _
def Et (Q : QQ) (c : uo) : QQ := ⟨Hg (Q.es.length + 1) (Q.es ++ [⟨c, Q.nx, Q.ck⟩]) Q.es.length, wrap64 (Q.nx + 1), wrap64 (Q.ck + 1)⟩
def kV (vs : List dK) (e : dO) : dK := aqp e.f2 (tailV vs e.f1)
def aMT (es : List dO) (vs : List dK) (st : List Bool) (Q : QQ) (k : Int) : QQ :=
 if (kV vs (aj es k)).f0 < 1099511627776 ∧ st.getD (aj es k).f0.toNat false = false then Et Q ⟨(aj es k).f0, kV vs (aj es k)⟩ else Q
theorem eX (w : World) (o : Obj) : Below w.heap.size w (w.alloc o) ∧ (w.alloc o).heap[w.heap.size]? = some o := ⟨dY (Below.refl _ _) o, heap_alloc_new w o⟩
def vS.T2 : Bool × List (List Nat × List Nat) := (true, [([], []), ([0], [0]), ([1], [1]), ([2], [2]), ([3], [3]), ([4, 3], [3, 4]), ([5, 3], [3, 5]), ([6, 3], [3, 6]), ([3], [3]), ([8, 3], [3, 8]), ([7, 9, 3], [3, 7, 9]), ([10, 3], [3, 10]), ([11, 3], [3, 11]), ([3, 12], [3, 12])])
def vS.B2 : List Nat := [0, 1, 3, 7, 15, 31, 63, 127, 15, 271, 1023, 2047, 4095, 8191]
theorem vS.alp : iC .any (opsOf Try.f104 2) = vS.T2 := by kernel_rfl
theorem vS.Es : fo vS.T2.2 vS.B2 = true := by kernel_rfl
def vS.T3 : Bool × List (List Nat × List Nat) := (true, [([], []), ([0], [0]), ([1], [1]), ([2], [2]), ([], []), ([4], [4]), ([], []), ([5, 6], [5, 6]), ([3, 7], [3, 7])])
def vS.B3 : List Nat := [0, 1, 3, 7, 0, 16, 0, 112, 255]
theorem vS.aal : iC .any (opsOf Try.f104 3) = vS.T3 := by kernel_rfl
theorem vS.Tz : fo vS.T3.2 vS.B3 = true := by kernel_rfl
set_option maxRecDepth 100000 in
set_option maxHeartbeats 8000000 in
theorem Eu (X : Ctx) (w : World) (vs : List dK) (st : List Bool) (op : List Int) (us : List (List Int)) (ed : List Int) (Q : QQ) (h : SS X w vs st op us ed Q) (hok : zt X.n X.es) (k : Int) (h0 : 0 ≤ k) (h1 : k < (X.es.length : Int)) (hsz : Q.es.length < 1000000) :
  Calls Try.prog 104 #[.pointer (some ⟨X.s, 0, none⟩), .int .i64 k] w fun x w' => x = .returned (.tuple #[]) ∧ SS X w' vs st op us ed (aMT X.es vs st Q k) ∧ vP X.w0.heap.size w w' := by
 obtain ⟨he0, het, hel⟩ := jb hok k h0 h1;have hoff : aMT X.es vs st Q k = if (kV vs (aj X.es k)).f0 < 1099511627776 ∧ st.getD (aj X.es k).f0.toNat false = false then Et Q ⟨(aj X.es k).f0, kV vs (aj X.es k)⟩ else Q := rfl
 obtain ⟨ad, A1, c1, hA, c0, c1', c2, c3, c4, hc1, Da⟩ := kK (Kd.bF h.hC h.hB) k h0 (by omega);generalize aj X.es k = e at *;have aas := aa.mk hoff;have s1 : w.cell? ⟨X.s, 1, none⟩ = some (.slice (some ad) X.es.length X.c) := by rw [ae h.hs 1, ← hA]; rfl
 have H := aa.mk h;have EY := aa.mk Da;have HET := aa.mk het;have Q5 := aa.mk hok;clear hoff h Da het hok;go_enter Try.func104, Try.ntmps104
 go_upto_region 1 with (fail)
 have ER := eX w (.cells #[.int .i64 e.f0, .slice A1 e.f1.length c1, .int .i64 e.f2, .int .i64 e.f3.f0, .int .i64 e.f3.f1] 54);have HA := aa.mk (H.out.below ER.1);have FA := aa.mk (vP.of_below ER.1 H.out.size);have H4 := aa.mk ER.2;have HCA := aa.mk (Kd.bF EY.out ER.1);clear ER c0 c1' c2 c3 c4 s1;obtain ⟨b4, hb4⟩ : ∃ b4, b4 = w.heap.size := ⟨_, rfl⟩;rw [← hb4] at H4 ⊢;clear hb4 H EY;generalize (w.alloc (.cells #[.int .i64 e.f0, .slice A1 e.f1.length c1, .int .i64 e.f2, .int .i64 e.f3.f0, .int .i64 e.f3.f1] 54)) = wA at *;obtain ⟨hn, hnc, TE⟩ := Kd.dD HA.out.hV;have s2 : wA.cell? ⟨X.s, 2, none⟩ = some (.slice (some ⟨X.gv, 0, none⟩) vs.length X.cv) := by rw [← hn, ae HA.out.hs 2]; rfl
 have h40 : wA.cell? ⟨b4, 0, none⟩ = some (.int .i64 e.f0) := (ae H4.out 0).trans rfl;have h41 : wA.cell? ⟨b4, 1, none⟩ = some (.slice A1 e.f1.length c1) := (ae H4.out 1).trans rfl;have h42 : wA.cell? ⟨b4, 2, none⟩ = some (.int .i64 e.f2) := (ae H4.out 2).trans rfl;have h43 : wA.cell? ⟨b4, 3, none⟩ = some (.int .i64 e.f3.f0) := (ae H4.out 3).trans rfl;have h44 : wA.cell? ⟨b4, 4, none⟩ = some (.int .i64 e.f3.f1) := (ae H4.out 4).trans rfl;have UW := aa.mk TE;clear TE;go_upto_region 2 with (first | (go_at_call 107; refine (zA X.s vs (some ⟨X.gv, 0, none⟩) X.cv e A1 c1 wA s2 UW.out HCA.out (fun t ht => by rw [← hn]; exact HET.out t ht) hel).mono ?_; rintro x w4 ⟨rfl, hB4⟩; have FA4 := aa.mk (FA.out.trans (vP.of_below hB4 HA.out.size)); have Ju := aa.mk (HA.out.below hB4); have H44 := aa.mk (aC H4.out hB4); clear hB4 s2 h40 h41 h42 h43 h44 HA H4))
 clear HCA UW hn hnc;rw [show aqp e.f2 (tailV vs e.f1) = kV vs e from rfl];generalize kV vs e = v at *;have hB0 := eX w4 (.cells #[.int .i64 v.f0, .int .i64 v.f1] 34);have HB := aa.mk (Ju.out.below hB0.1);have FB := aa.mk (FA4.out.trans (vP.of_below hB0.1 Ju.out.size)).drew;clear FA FA4;have H4B := aa.mk (aC H44.out hB0.1);have H5B := aa.mk hB0.2;clear hB0 Ju H44;obtain ⟨b5, hb5⟩ : ∃ b5, b5 = w4.heap.size := ⟨_, rfl⟩;rw [← hb5] at H5B ⊢;clear hb5;generalize (w4.alloc (.cells #[.int .i64 v.f0, .int .i64 v.f1] 34)) = wB at *;have s3 : wB.drew.cell? ⟨X.s, 3, none⟩ = some (.slice (some ⟨X.gs, 0, none⟩) X.n X.cs) := by show wB.cell? _ = _; rw [ae HB.out.hs 3]; rfl
 have h4 : wB.drew.cell? ⟨b4, 0, none⟩ = some (.int .i64 e.f0) := by show wB.cell? _ = _; rw [ae H4B.out 0]; rfl
 have h5 : wB.drew.cell? ⟨b5, 0, none⟩ = some (.int .i64 v.f0) := by show wB.cell? _ = _; rw [ae H5B.out 0]; rfl
 obtain ⟨bs, hst⟩ : ∃ bs, st.getD e.f0.toNat false = bs := ⟨_, rfl⟩;have HST := aa.mk hst;have g3 : wB.drew.cell? ⟨X.gs, e.f0.toNat, none⟩ = some (.bool bs) := by rw [← hst]; exact (jk HB.out.hS false e.f0 he0.1 he0.2).1
 clear hst;obtain ⟨ac3, ac4⟩ := he0;by_cases hlt : v.f0 < 1099511627776
 ·go_upto_region 2 with (fail)
  refine fu (n := 14) (S := fun w' => w'.cell? ⟨X.s, 3, none⟩ = some (.slice (some ⟨X.gs, 0, none⟩) X.n X.cs) ∧ w'.cell? ⟨b4, 0, none⟩ = some (.int .i64 e.f0) ∧ w'.cell? ⟨X.gs, e.f0.toNat, none⟩ = some (.bool bs) ∧ w'.cell? ⟨b5, 0, none⟩ = some (.int .i64 v.f0)) (ds := []) #[false, false, false, false, false, false, false, false, false, false, false, false, false, false] (by kernel_rfl) rfl rfl ⟨s3, h4, g3, h5⟩ (fun hHeld => ?_);refine dw vS.alp vS.Es (fun dA ji => ?_);refine fG (fuel := 0) [(0, 17), (1, 18), (2, 19), (3, 20), (4, 21), (5, 22), (6, 23), (7, 24), (8, 25), (9, 26), (10, 27), (11, 28), (12, 29), (13, 30)] #[true, true, true, true, true, true, true, true, true, true, true, true, true, true] (df dA.out ji.out _ _ _ (by kernel_rfl)) rfl (fun _ _ _ _ _ h => h) hHeld (a' := ?_) ?_ ?_;rotate_left
  ·iterate 14
    refine bC (v := ?_) (a1 := ?_) rfl rfl (Or.inl ⟨by rfl, ?_⟩) ?_ ?_;rotate_left 2
    ·rintro w' ⟨s0, s1, s2, s3⟩;go_simp;with_reducible rfl
    ·simp only [Act.put, List.setIfInBounds_toArray, List.set_cons_zero, List.set_cons_succ, bH, bI];rfl
   exact chain_nil
  refine gH (dV dA.out (by kernel_rfl)) ?_;clear s3 h4 h5 g3 hHeld
  cases bs with
  | true =>
   go_wp2_with fail
   go_end0
   refine ⟨rfl, ?_, FB.out⟩;rw [aas.out, if_neg (fun h => by rw [HST.out] at h; exact absurd h.2 (by decide))];exact HB.out.below (dM (Below.refl _ _))
  | false =>
   go_upto_region 3 with (fail)
   have HC := HB.out.below (dM (Below.refl _ _));have hsC := HC.hs;have h4C : wB.drew.heap[b4]? = _ := H4B.out;have h5C : wB.drew.heap[b5]? = _ := H5B.out;have HCC := aa.mk HC;clear HC HB H4B H5B;generalize wB.drew = wC at *;have HQC := aa.mk (amf HCC.out.hQ);have s6 : wC.drew.cell? ⟨X.s, 6, none⟩ = some (.pointer (some ⟨X.q, 0, none⟩)) := by show wC.cell? _ = _; rw [ae hsC 6]; rfl
   have h4 : wC.drew.cell? ⟨b4, 0, none⟩ = some (.int .i64 e.f0) := by show wC.cell? _ = _; rw [ae h4C 0]; rfl
   have h50 : wC.drew.cell? ⟨b5, 0, none⟩ = some (.int .i64 v.f0) := by show wC.cell? _ = _; rw [ae h5C 0]; rfl
   have h51 : wC.drew.cell? ⟨b5, 1, none⟩ = some (.int .i64 v.f1) := by show wC.cell? _ = _; rw [ae h5C 1]; rfl
   refine fu (n := 9) (S := fun w' => w'.cell? ⟨X.s, 6, none⟩ = some (.pointer (some ⟨X.q, 0, none⟩)) ∧ w'.cell? ⟨b4, 0, none⟩ = some (.int .i64 e.f0) ∧ w'.cell? ⟨b5, 0, none⟩ = some (.int .i64 v.f0) ∧ w'.cell? ⟨b5, 1, none⟩ = some (.int .i64 v.f1)) (ds := []) #[false, false, false, false, false, false, false, false, false] (by kernel_rfl) rfl rfl ⟨s6, h4, h50, h51⟩ (fun hHeld => ?_);refine dw vS.aal vS.Tz (fun dA ji => ?_);refine fG (fuel := 1) [(0, 31), (1, 32), (2, 33), (3, 34), (4, 35), (5, 36), (6, 37), (7, 38)] #[true, true, true, true, true, true, true, true, false] (df dA.out ji.out _ _ _ (by kernel_rfl)) rfl (fun _ _ _ _ _ h => h) hHeld (a' := ?_) ?_ ?_;rotate_left
   ·iterate 8
     refine bC (v := ?_) (a1 := ?_) rfl rfl (Or.inl ⟨by rfl, ?_⟩) ?_ ?_;rotate_left 2
     ·rintro w' ⟨s0, s1, s2, s3⟩;go_simp;with_reducible rfl
     ·simp only [Act.put, List.setIfInBounds_toArray, List.set_cons_zero, List.set_cons_succ, bH, bI];rfl
    exact chain_nil
   refine fT (i := 8) (N := some 39) #[true, true, true, true, true, true, true, true, true] rfl rfl (dn dA.out (by kernel_rfl)) (by decide) (fun K hK => ?_);refine call_ 110 #[.pointer (some ⟨X.q, 0, none⟩), .agg #[.int .i64 e.f0, .int .i64 v.f0, .int .i64 v.f1]] (by rfl) rfl ?_ ?_
   ·have he := kJ Try.func110 (by kernel_rfl) rfl #[.pointer (some ⟨X.q, 0, none⟩), .agg #[.int .i64 e.f0, .int .i64 v.f0, .int .i64 v.f1]] wC.drew;unfold execOp;simp [resolve, Deferred.ofValue, invoke, Act.eval, he]
   refine (MR X.w0.heap.size X.q Q.es Q.nx Q.ck (⟨e.f0, v⟩ : uo) _ HQC.out hsz).mono ?_;rintro x w7 ⟨rfl, hQ7, hF7⟩;have HQ7 := aa.mk hQ7;have Yi := aa.mk hF7;clear hQ7 hF7;refine ⟨_, rfl, ?_⟩;refine hK.out _ _ ⟨(by rw [ae (Yi.out.keep _ _ _ _ hsC (by decide) (by decide)) 6]; rfl), (by rw [ae (Yi.out.keep _ _ _ _ h4C (by decide) (by decide)) 0]; rfl), (by rw [ae (Yi.out.keep _ _ _ _ h5C (by decide) (by decide)) 0]; rfl), (by rw [ae (Yi.out.keep _ _ _ _ h5C (by decide) (by decide)) 1]; rfl)⟩ (fun hHeld => ?_);clear hK K;refine bS (a' := ?_) ?_ ?_;rotate_left
   ·show Act.put _ (some 39) _ = _;simp only [Act.put, List.setIfInBounds_toArray, List.set_cons_zero, List.set_cons_succ, bH, bI];rfl
   refine gH (dV dA.out (by kernel_rfl)) ?_;go_wp2_with fail
   go_end0
   refine ⟨rfl, ?_, FB.out.trans Yi.out.Ai⟩;rw [aas.out, if_pos ⟨hlt, HST.out⟩];exact HCC.out.queue Yi.out.Ai (Et Q ⟨e.f0, v⟩) HQ7.out
 ·go_upto_region 2 with (fail)
  refine fu (n := 14) (S := fun w' => w'.cell? ⟨X.s, 3, none⟩ = some (.slice (some ⟨X.gs, 0, none⟩) X.n X.cs) ∧ w'.cell? ⟨b4, 0, none⟩ = some (.int .i64 e.f0) ∧ w'.cell? ⟨X.gs, e.f0.toNat, none⟩ = some (.bool bs) ∧ w'.cell? ⟨b5, 0, none⟩ = some (.int .i64 v.f0)) (ds := []) #[false, false, false, false, false, false, false, false, false, false, false, false, false, false] (by kernel_rfl) rfl rfl ⟨s3, h4, g3, h5⟩ (fun hHeld => ?_);refine dw vS.alp vS.Es (fun dA ji => ?_);refine fG (fuel := 0) [(0, 17), (1, 18), (2, 19), (3, 20), (4, 21), (5, 22), (6, 23), (7, 24), (8, 25), (9, 26), (10, 27), (11, 28), (12, 29), (13, 30)] #[true, true, true, true, true, true, true, true, true, true, true, true, true, true] (df dA.out ji.out _ _ _ (by kernel_rfl)) rfl (fun _ _ _ _ _ h => h) hHeld (a' := ?_) ?_ ?_;rotate_left
  ·iterate 4
    refine bC (v := ?_) (a1 := ?_) rfl rfl (Or.inl ⟨by rfl, ?_⟩) ?_ ?_;rotate_left 2
    ·rintro w' ⟨s0, s1, s2, s3⟩;go_simp;with_reducible rfl
    ·simp only [Act.put, List.setIfInBounds_toArray, List.set_cons_zero, List.set_cons_succ, bH, bI];rfl
   iterate 9
    refine jQ (a1 := ?_) rfl rfl (by rfl) ?_ ?_;rotate_left
    ·simp only [Act.put, List.setIfInBounds_toArray, List.set_cons_zero, List.set_cons_succ];rfl
   iterate 1
    refine bC (v := ?_) (a1 := ?_) rfl rfl (Or.inl ⟨by rfl, ?_⟩) ?_ ?_;rotate_left 2
    ·rintro w' ⟨s0, s1, s2, s3⟩;go_simp;with_reducible rfl
    ·simp only [Act.put, List.setIfInBounds_toArray, List.set_cons_zero, List.set_cons_succ, bH, bI];rfl
   exact chain_nil
  refine gH (dV dA.out (by kernel_rfl)) ?_;clear s3 h4 h5 g3 hHeld;go_wp2_with fail
  go_end0
  refine ⟨rfl, ?_, FB.out⟩;rw [aas.out, if_neg (fun h => by omega)];exact HB.out.below (dM (Below.refl _ _))
theorem F6 : ∀ (k : Nat) (es : List dP) (i : Nat), (Hg k es i).length = es.length
 | 0, es, i => rfl
 | k + 1, es, 0 => rfl
 | k + 1, es, m + 1 => by
  unfold Hg;split
  ·rw [F6, dh]
  ·rfl
theorem Jw (Q : QQ) (c : uo) : (Et Q c).es.length = Q.es.length + 1 := by simp [Et, F6]
theorem uw (es : List dO) (vs : List dK) (st : List Bool) (Q : QQ) (k : Int) : (aMT es vs st Q k).es.length ≤ Q.es.length + 1 := by
 unfold aMT;split
 ·rw [Jw]; exact Nat.le_refl _
 ·exact Nat.le_succ _
def kL (w w' : World) : Prop := ∀ (k : Nat) cs fr, w.heap[k]? = some (.cells cs 24 fr) → w'.heap[k]? = some (.cells cs 24 fr)
theorem kL.trans {a b c : World} (h : kL a b) (k : kL b c) : kL a c := fun i cs fr hi => k i cs fr (h i cs fr hi)
theorem kL.of_below {a b : World} (h : Below a.heap.size a b) : kL a b := fun i cs fr hi => aC hi h
theorem kL.ac5 {base : Nat} {a b : World} (h : vP base a b) : kL a b := fun i cs fr hi => h.keep i cs 24 fr hi (by decide) (by decide)
theorem kL.xP {a b : World} {g t : Nat} {cells : Array Value} (hc : a.heap[g]? = some (.cells cells t (0, 0))) (ht : t ≠ 24) (hg : a.grownBy b (some g)) : kL a b := fun i cs fr hi => bX hi hg (by
 intro e;injection e with e
 subst e;rw [hc] at hi;injection hi with hi
 injection hi with _ hi
 exact ht hi)
def jw (es : List dO) (vs : List dK) (st : List Bool) (p : List Int × QQ) (k : Int) : List Int × QQ :=
 if rd (p.1.set k.toNat (wrap64 (rd p.1 k - 1))) k = 0 then (p.1.set k.toNat (wrap64 (rd p.1 k - 1)), aMT es vs st p.2 k) else (p.1.set k.toNat (wrap64 (rd p.1 k - 1)), p.2)
def jV (es : List dO) (vs : List dK) (st : List Bool) (l : List Int) (p : List Int × QQ) : List Int × QQ := l.foldl (jw es vs st) p
theorem MW {α : Type} {d : Kd α} {f base e g n cap : Nat} {ok : Nat → Prop} {W : World} {xs : List (List α)} (h : (Kd.slice f d).R e W base ok (.slice (some ⟨g, 0, none⟩) n cap) xs) (i : Int) (h0 : 0 ≤ i) (hi : i < n) :
  ∃ v, W.cell? ⟨g, i.toNat, none⟩ = some v ∧ d.R f W base (fun k => ok k ∧ k ≠ g) v (xs.getD i.toNat []) ∧ W.frozen? ⟨g, i.toNat, none⟩ = false := by
 obtain ⟨c, hcl, hM, hcc, hfz⟩ := Kd.Df h [] i h0 hi;have hs : (Kd.slice f d).sz = 1 := rfl;obtain ⟨v, rfl, hR⟩ := hM;refine ⟨v, ?_, hR, ?_⟩
 ·have := hcc 0 _ rfl;simpa [hs] using this
 ·have := hfz 0;simpa [hs] using this
def ym.T1 : Bool × List (List Nat × List Nat) := (true, [([], []), ([0], [0]), ([1], [1]), ([2], [2]), ([], []), ([4], [4]), ([], []), ([6], [6]), ([7], [7]), ([8], [8]), ([], []), ([10], [10]), ([], []), ([12], [12]), ([3, 5, 0, 1, 2, 3, 4, 5, 9], [3, 5]), ([14, 0, 1, 2, 3, 4, 5, 9], [14]), ([9, 11, 0, 1, 2, 3, 4, 5, 6, 7, 8, 9, 10, 11, 12, 13, 14, 15], [9, 11]), ([16, 13, 15, 0, 1, 2, 3, 4, 5, 6, 7, 8, 9, 10, 11, 12, 13, 14, 15], [13, 16])])
def ym.B1 : List Nat := [0, 1, 3, 7, 0, 16, 0, 64, 192, 448, 0, 1024, 0, 4096, 1023, 17407, 65535, 131071]
theorem ym.Al : iC .any (opsOf Try.f106 1) = ym.T1 := by kernel_rfl
theorem ym.sV : fo ym.T1.2 ym.B1 = true := by kernel_rfl
def ym.T2 : Bool × List (List Nat × List Nat) := (true, [([], []), ([0], [0]), ([1], [1]), ([2], [2]), ([], []), ([4], [4]), ([3, 5], [3, 5]), ([6], [6]), ([7], [7]), ([], [])])
def ym.B2 : List Nat := [0, 1, 3, 7, 0, 16, 63, 127, 255, 0]
theorem ym.alp : iC .any (opsOf Try.f106 2) = ym.T2 := by kernel_rfl
theorem ym.Es : fo ym.T2.2 ym.B2 = true := by kernel_rfl
set_option maxRecDepth 100000 in
set_option maxHeartbeats 8000000 in
theorem Jy (X : Ctx) (w : World) (vs : List dK) (st : List Bool) (op : List Int) (us : List (List Int)) (ed : List Int) (Q : QQ) (h : SS X w vs st op us ed Q) (hok : zt X.n X.es) (c : uo) (h0 : 0 ≤ c.f0) (h1 : c.f0 < (X.n : Int))
  (MX : ∀ k, k ∈ us.getD c.f0.toNat [] → 0 ≤ k ∧ k < (X.es.length : Int)) (hsz : Q.es.length + (us.getD c.f0.toNat []).length < 1000000) :
  Calls Try.prog 106 #[.pointer (some ⟨X.s, 0, none⟩), .agg #[.int .i64 c.f0, .int .i64 c.f1.f0, .int .i64 c.f1.f1]] w fun x w' => x = .returned (.tuple #[]) ∧
   SS X w' (vs.set c.f0.toNat c.f1) (st.set c.f0.toNat true) (jV X.es (vs.set c.f0.toNat c.f1) (st.set c.f0.toNat true) (us.getD c.f0.toNat []) (op, Q)).1 us ed (jV X.es (vs.set c.f0.toNat c.f1) (st.set c.f0.toNat true) (us.getD c.f0.toNat []) (op, Q)).2 ∧ kL w w' := by
 obtain ⟨l, hl⟩ : ∃ l, us.getD c.f0.toNat [] = l := ⟨_, rfl⟩;obtain ⟨vs', hvs⟩ : ∃ v, vs.set c.f0.toNat c.f1 = v := ⟨_, rfl⟩;obtain ⟨st', hst⟩ : ∃ v, st.set c.f0.toNat true = v := ⟨_, rfl⟩;rw [hl] at MX hsz ⊢;rw [hvs, hst];have HVS := aa.mk hvs;have HST := aa.mk hst;have HL := aa.mk hl;clear hl hvs hst;go_enter Try.func106, Try.ntmps106
 go_upto_region 1 with (fail)
 have ER := eX w (.cells #[.int .i64 c.f0, .int .i64 c.f1.f0, .int .i64 c.f1.f1] 124);have HA := aa.mk (h.below ER.1);have KA := aa.mk (kL.of_below ER.1);have H3 := aa.mk ER.2;obtain ⟨b3, hb3⟩ : ∃ b3, b3 = w.heap.size := ⟨_, rfl⟩;rw [← hb3] at H3 ⊢;clear hb3 h ER;generalize (w.alloc (.cells #[.int .i64 c.f0, .int .i64 c.f1.f0, .int .i64 c.f1.f1] 124)) = wA at *;have hd : Below wA.heap.size wA wA.drew := dM (Below.refl _ _);have HD := HA.out.below hd;have h3 := aC H3.out hd;have s3 : wA.drew.cell? ⟨X.s, 3, none⟩ = some (.slice (some ⟨X.gs, 0, none⟩) X.n X.cs) := by rw [ae HD.hs 3]; rfl
 have s2 : wA.drew.cell? ⟨X.s, 2, none⟩ = some (.slice (some ⟨X.gv, 0, none⟩) X.n X.cv) := by rw [ae HD.hs 2]; rfl
 have h00 : wA.drew.cell? ⟨b3, 0, none⟩ = some (.int .i64 c.f0) := by rw [ae h3 0]; rfl
 have h10 : wA.drew.cell? ⟨b3, 1, none⟩ = some (.int .i64 c.f1.f0) := by rw [ae h3 1]; rfl
 have h20 : wA.drew.cell? ⟨b3, 2, none⟩ = some (.int .i64 c.f1.f1) := by rw [ae h3 2]; rfl
 obtain ⟨gs0, gsf⟩ := jk HD.hS false c.f0 h0 h1;have hput := Kd.zG HD.hS c.f0 true;obtain ⟨W1, hW1⟩ : ∃ W1, W1 = wA.drew.setCell ⟨X.gs, c.f0.toNat, none⟩ (.bool true) := ⟨_, rfl⟩;rw [← hW1] at hput;have D1 := HD.aiw hput.1 hput.2;obtain ⟨kc1, ac6⟩ := Kd.lW HD.hS X.gs rfl;have K1 := aa.mk ((KA.out.trans (kL.of_below hd)).trans (kL.xP ac6 (by decide) hput.2));clear ac6 KA;have h31 := bX h3 hput.2 (Kd.aqP HD.hS h3 (by decide));have s31 : W1.cell? ⟨X.s, 3, none⟩ = some (.slice (some ⟨X.gs, 0, none⟩) X.n X.cs) := by rw [ae D1.hs 3]; rfl
 have s21 : W1.cell? ⟨X.s, 2, none⟩ = some (.slice (some ⟨X.gv, 0, none⟩) X.n X.cv) := by rw [ae D1.hs 2]; rfl
 have h01 : W1.cell? ⟨b3, 0, none⟩ = some (.int .i64 c.f0) := by rw [ae h31 0]; rfl
 have h11 : W1.cell? ⟨b3, 1, none⟩ = some (.int .i64 c.f1.f0) := by rw [ae h31 1]; rfl
 have h21 : W1.cell? ⟨b3, 2, none⟩ = some (.int .i64 c.f1.f1) := by rw [ae h31 2]; rfl
 obtain ⟨v0, v1, vf0, vf1⟩ := ng D1.hV c.f0 h0 h1;have Iq := at1 D1.hV c.f0 h0 h1 c.f1;obtain ⟨W2, hW2⟩ : ∃ W2, W2 = (W1.setCell ⟨X.gv, c.f0.toNat * 2, none⟩ (.int .i64 c.f1.f0)).setCell ⟨X.gv, c.f0.toNat * 2 + 1, none⟩ (.int .i64 c.f1.f1) := ⟨_, rfl⟩;rw [← hW2] at Iq;have D2 := D1.TC Iq.1 Iq.2;obtain ⟨kc2, ac7⟩ := Kd.lW D1.hV X.gv rfl;have K2 := aa.mk ((K1.out.trans (kL.xP ac7 (by decide) Iq.2)).trans (kL.of_below (dM (Below.refl _ _))));clear ac7 K1;have h32 := bX h31 Iq.2 (Kd.aqP D1.hV h31 (by decide));have s32 : W2.cell? ⟨X.s, 3, none⟩ = some (.slice (some ⟨X.gs, 0, none⟩) X.n X.cs) := by rw [ae D2.hs 3]; rfl
 have s22 : W2.cell? ⟨X.s, 2, none⟩ = some (.slice (some ⟨X.gv, 0, none⟩) X.n X.cv) := by rw [ae D2.hs 2]; rfl
 have h02 : W2.cell? ⟨b3, 0, none⟩ = some (.int .i64 c.f0) := by rw [ae h32 0]; rfl
 have h12 : W2.cell? ⟨b3, 1, none⟩ = some (.int .i64 c.f1.f0) := by rw [ae h32 1]; rfl
 have h22 : W2.cell? ⟨b3, 2, none⟩ = some (.int .i64 c.f1.f1) := by rw [ae h32 2]; rfl
 have D2' := aa.mk D2;have H32 := aa.mk h32;clear HA H3 HD hput D1 Iq D2 h3 h31 h32;refine fu (n := 18) (S := fun w' => w'.cell? ⟨X.s, 3, none⟩ = some (.slice (some ⟨X.gs, 0, none⟩) X.n X.cs) ∧ w'.cell? ⟨X.s, 2, none⟩ = some (.slice (some ⟨X.gv, 0, none⟩) X.n X.cv) ∧ w'.cell? ⟨b3, 0, none⟩ = some (.int .i64 c.f0) ∧ w'.cell? ⟨b3, 1, none⟩ = some (.int .i64 c.f1.f0) ∧ w'.cell? ⟨b3, 2, none⟩ = some (.int .i64 c.f1.f1)) (ds := []) #[false, false, false, false, false, false, false, false, false, false, false, false, false, false, false, false, false, false] (by kernel_rfl) rfl rfl ⟨s3, s2, h00, h10, h20⟩ (fun hHeld => ?_);refine dw ym.Al ym.sV (fun dA ji => ?_);refine fG (fuel := 3) [(0, 6), (1, 7), (2, 8), (3, 9), (4, 10), (5, 11), (6, 12), (7, 13), (8, 14), (9, 15), (10, 16), (11, 17), (12, 18), (13, 19), (14, 20)] #[true, true, true, true, true, true, true, true, true, true, true, true, true, true, true, false, false, false] (df dA.out ji.out _ _ _ (by kernel_rfl)) rfl (fun _ _ _ _ _ h => h) hHeld (a' := ?_) ?_ ?_;rotate_left
 ·iterate 15
   refine bC (v := ?_) (a1 := ?_) rfl rfl (Or.inl ⟨by rfl, ?_⟩) ?_ ?_;rotate_left 2
   ·rintro w' ⟨s0, s1, s2, s3, s4⟩;go_simp;with_reducible rfl
   ·simp only [Act.put, List.setIfInBounds_toArray, List.set_cons_zero, List.set_cons_succ, bH, bI];rfl
  exact chain_nil
 refine fT (i := 15) (N := none) #[true, true, true, true, true, true, true, true, true, true, true, true, true, true, true, true, false, false] rfl rfl (dn dA.out (by kernel_rfl)) (by decide) (fun K hK => ?_);refine rV (w1 := W1) (by rfl) rfl ?_ ?_
 ·rw [hW1];first | (go_simp; done) | (go_simp; rfl)
 refine hK.out _ _ ⟨s31, s21, h01, h11, h21⟩ (fun hHeld => ?_);clear hK K;refine fG (fuel := 1) [(16, 21)] #[true, true, true, true, true, true, true, true, true, true, true, true, true, true, true, true, true, false] (df dA.out ji.out _ _ _ (by kernel_rfl)) rfl (fun _ _ _ _ _ h => h) hHeld (a' := ?_) ?_ ?_;rotate_left
 ·iterate 1
   refine bC (v := ?_) (a1 := ?_) rfl rfl (Or.inl ⟨by rfl, ?_⟩) ?_ ?_;rotate_left 2
   ·rintro w' ⟨s0, s1, s2, s3, s4⟩;go_simp;with_reducible rfl
   ·simp only [Act.put, List.setIfInBounds_toArray, List.set_cons_zero, List.set_cons_succ, bH, bI];rfl
  exact chain_nil
 refine fT (i := 17) (N := none) #[true, true, true, true, true, true, true, true, true, true, true, true, true, true, true, true, true, true] rfl rfl (dn dA.out (by kernel_rfl)) (by decide) (fun K hK => ?_);clear hW1;refine rV (w1 := W2) (by rfl) rfl ?_ ?_
 ·rw [hW2];first | (go_simp; done) | (go_simp; rfl)
 refine hK.out _ _ ⟨s32, s22, h02, h12, h22⟩ (fun hHeld => ?_);clear hK K;refine gH (dV dA.out (by kernel_rfl)) ?_;clear s3 s2 h00 h10 h20 gs0 gsf s31 s21 h01 h11 h21 v0 v1 vf0 vf1 s32 s22 h02 h12 h22 hW2 hHeld;have HD2 := D2'.out.below (dM (Below.refl _ _));have h34 := aC H32.out (dM (Below.refl _ _));have s5 : W2.drew.cell? ⟨X.s, 5, none⟩ = some (.slice (some ⟨X.gu, 0, none⟩) X.n X.cu) := by rw [ae HD2.hs 5]; rfl
 have h03 : W2.drew.cell? ⟨b3, 0, none⟩ = some (.int .i64 c.f0) := by rw [ae h34 0]; rfl
 obtain ⟨vk, hu, hRk, _⟩ := MW (Kd.S_R HD2.hU) c.f0 h0 h1;rw [HL.out] at hRk;obtain ⟨Ak, ck, rfl⟩ := Kd.fQ hRk;rw [HVS.out, HST.out] at HD2;have HDD := aa.mk HD2;have HRk := aa.mk hRk;clear D2' H32 HD2 h34 hRk;go_upto_region 2 with (fail)
 refine fu (n := 10) (S := fun w' => w'.cell? ⟨X.s, 5, none⟩ = some (.slice (some ⟨X.gu, 0, none⟩) X.n X.cu) ∧ w'.cell? ⟨b3, 0, none⟩ = some (.int .i64 c.f0) ∧ w'.cell? ⟨X.gu, c.f0.toNat, none⟩ = some (.slice Ak l.length ck)) (ds := []) #[false, false, false, false, false, false, false, false, false, false] (by kernel_rfl) rfl rfl ⟨s5, h03, hu⟩ (fun hHeld => ?_);refine dw ym.alp ym.Es (fun dA ji => ?_);refine fG (fuel := 0) [(0, 22), (1, 23), (2, 24), (3, 25), (4, 26), (5, 27), (6, 28), (7, 29), (8, 30), (9, 31)] #[true, true, true, true, true, true, true, true, true, true] (df dA.out ji.out _ _ _ (by kernel_rfl)) rfl (fun _ _ _ _ _ h => h) hHeld (a' := ?_) ?_ ?_;rotate_left
 ·iterate 10
   refine bC (v := ?_) (a1 := ?_) rfl rfl (Or.inl ⟨by rfl, ?_⟩) ?_ ?_;rotate_left 2
   ·rintro w' ⟨s0, s1, s2⟩;go_simp;with_reducible rfl
   ·simp only [Act.put, List.setIfInBounds_toArray, List.set_cons_zero, List.set_cons_succ, bH, bI];rfl
  exact chain_nil
 refine gH (dV dA.out (by kernel_rfl)) ?_;clear s5 h03 hu hHeld;generalize W2.drew = w2 at *;clear HL HVS HST;have aoP : l.length < 1000000 := by omega
 have Q5 := aa.mk hok;have HUS := aa.mk MX;clear hok MX;go_wp2_with fail
 go_loopg [31] (l.length + 1) (fun g v31 wr => ∃ (i : Nat) (p : List Int × QQ), v31 = .int .i64 i ∧ aa (i ≤ l.length) ∧ aa (l.length - i < g) ∧ aa (SS X wr vs' st' p.1 us ed p.2) ∧ aa (Kd.R (Kd.int .i64) 3 wr X.w0.heap.size (fun k => (k ≠ X.go ∧ k ≠ X.ge) ∧ k ≠ X.gu) (.slice Ak l.length ck) l) ∧
  aa (p.2.es.length + (l.length - i) < 1000000) ∧ aa (jV X.es vs' st' (l.drop i) p = jV X.es vs' st' l (op, Q)) ∧ aa (kL w wr))
 case atStart => exact ⟨0, (op, Q), by go_num, ⟨by omega⟩, ⟨by omega⟩, HDD, HRk, ⟨by omega⟩, ⟨rfl⟩, K2⟩
 case round =>
  obtain ⟨i, p, rfl, hi, hg, HS, HR, hQl, HE, HK⟩ := hrel;clear HDD HRk hsz K2;by_cases hin : i < l.length
  ·obtain ⟨ad, rfl, ht⟩ := Jv (Kd.dD HR.out).2.2 i hin;have hmem : l.getD i 0 ∈ l := by rw [List.getD_eq_getElem?_getD, List.getElem?_eq_getElem hin]; exact List.getElem_mem _
   have hkr := HUS.out _ hmem;have hdr : l.drop i = l.getD i 0 :: l.drop (i + 1) := by
    rw [List.drop_eq_getElem_cons hin, List.getD_eq_getElem?_getD, List.getElem?_eq_getElem hin];rfl
   have hE := HE.out;rw [hdr] at hE;clear HE hdr hmem;generalize l.getD i 0 = k at *;obtain ⟨hk0, hk1⟩ := hkr;have hE' : jV X.es vs' st' (l.drop (i + 1)) (jw X.es vs' st' p k) = jV X.es vs' st' l (op, Q) := hE;have HE := aa.mk hE';clear hE hE';obtain ⟨o0, of0⟩ := jk HS.out.hO 0 k hk0 hk1;have hput := Kd.zG HS.out.hO k (wrap64 (rd p.1 k - 1));have hstep : jw X.es vs' st' p k = if rd (p.1.set k.toNat (wrap64 (rd p.1 k - 1))) k = 0 then (p.1.set k.toNat (wrap64 (rd p.1 k - 1)), aMT X.es vs' st' p.2 k) else (p.1.set k.toNat (wrap64 (rd p.1 k - 1)), p.2) := rfl
   have hlen : k.toNat < p.1.length := by have := HS.out.lens.2.2.1; omega
   have hrd : rd (p.1.set k.toNat (wrap64 (rd p.1 k - 1))) k = wrap64 (rd p.1 k - 1) := by simp [rd, List.getD_eq_getElem?_getD, List.getElem?_set, hlen]
   rw [hrd] at hstep;rw [show p.1.getD k.toNat 0 = rd p.1 k from rfl] at o0;generalize rd p.1 k = x at *;have D1 := HS.out.ac2 hput.1 hput.2;obtain ⟨kc3, ac9⟩ := Kd.lW HS.out.hO X.go rfl;have yf := aa.mk (HK.out.trans (kL.xP ac9 (by decide) hput.2));clear ac9;have hR1 := Kd.vF HR.out hput.2 (fun k hk e => hk.1.1 (by injection e));have o1 := (jk D1.hO 0 k hk0 hk1).1;rw [show (p.1.set k.toNat (wrap64 (x - 1))).getD k.toNat 0 = wrap64 (x - 1) from hrd] at o1;have s4 : wr.cell? ⟨X.s, 4, none⟩ = some (.slice (some ⟨X.go, 0, none⟩) X.es.length X.co) := by rw [ae HS.out.hs 4]; rfl
   have s41 : (wr.setCell ⟨X.go, k.toNat, none⟩ (.int .i64 (wrap64 (x - 1)))).cell? ⟨X.s, 4, none⟩ = some (.slice (some ⟨X.go, 0, none⟩) X.es.length X.co) := by rw [ae D1.hs 4]; rfl
   have HD1 := aa.mk D1;have HR1 := aa.mk hR1;have HST := aa.mk hstep;clear hput hrd D1 hR1 hstep HS HR;by_cases hy : wrap64 (x - 1) = 0
   ·have hyb : (wrap64 (x - 1) == 0) = true := by simp [hy]
    have HY := aa.mk hy;clear hy;go_wp2_with (first | (go_at_call 104; refine (Eu X _ vs' st' _ us ed p.2 HD1.out Q5.out k hk0 hk1 (by have := hQl.out; omega)).mono ?_; rintro e w5 ⟨rfl, hS5, Js⟩; have VG := aa.mk hS5; have Yg := aa.mk Js; clear hS5 Js))
    go_roundg (l.length - i)
    case measure => have := hg.out; omega
    case rel =>
     exact ⟨i + 1, jw X.es vs' st' p k, by go_num, ⟨by omega⟩, ⟨by omega⟩, ⟨by rw [HST.out, if_pos HY.out]; exact VG.out⟩, ⟨alB HR1.out (by decide) Yg.out⟩, ⟨by rw [HST.out, if_pos HY.out]; have := uw X.es vs' st' p.2 k; have := hQl.out; simp only; omega⟩, HE, ⟨yf.out.trans (kL.ac5 Yg.out)⟩⟩
   ·have hyb : (wrap64 (x - 1) == 0) = false := by simp [hy]
    have HY := aa.mk hy;clear hy;go_wp2_with fail
    go_roundg (l.length - i)
    case measure => have := hg.out; omega
    case rel =>
     exact ⟨i + 1, jw X.es vs' st' p k, by go_num, ⟨by omega⟩, ⟨by omega⟩, ⟨by rw [HST.out, if_neg HY.out]; exact HD1.out⟩, HR1, ⟨by rw [HST.out, if_neg HY.out]; have := hQl.out; simp only; omega⟩, HE, yf⟩
  ·obtain rfl : i = l.length := by have := hi.out; omega
   have hin' : ¬ ((l.length : Int) < (l.length : Int)) := by omega
   go_wp2_with fail
   go_end0
   have hE := HE.out;rw [List.drop_length] at hE;have hE' : p = jV X.es vs' st' l (op, Q) := hE;rw [← hE'];exact ⟨rfl, HS.out, HK.out⟩
theorem Ir (es : List dP) (i : Int) (h0 : 0 ≤ i) (h1 : i < (es.length : Int)) : eO es i ∈ es := by
 have hk : i.toNat < es.length := by omega
 simp only [eO, List.getD_eq_getElem?_getD, List.getElem?_eq_getElem hk, Option.getD_some];exact List.getElem_mem _
theorem F7 {es : List dP} {i j : Int} (hi0 : 0 ≤ i) (hi : i < (es.length : Int)) (hj0 : 0 ≤ j) (hj : j < (es.length : Int)) {x : dP} (h : x ∈ nK es i j) : x ∈ es := by
 unfold nK at h;rcases List.mem_or_eq_of_mem_set h with h | rfl
 ·rcases List.mem_or_eq_of_mem_set h with h | rfl
  ·exact h
  ·exact Ir es j hj0 hj
 ·exact Ir es i hi0 hi
theorem O4 : ∀ (k : Nat) (es : List dP) (i : Nat), i < es.length → ∀ x, x ∈ Hg k es i → x ∈ es
 | 0, es, i, _, x, h => h
 | k + 1, es, 0, _, x, h => h
 | k + 1, es, m + 1, hi, x, h => by
  unfold Hg at h;split at h
  ·have := O4 k _ (m / 2) (by rw [dh]; omega) x h;exact F7 (by omega) (by omega) (by omega) (by omega) this
  ·exact h
theorem Ar : ∀ (k : Nat) (es : List dP) (i : Nat), (mZ k es i).length = es.length
 | 0, es, i => rfl
 | k + 1, es, i => by
  unfold mZ;split
  ·rfl
  ·rw [Ar, dh]
theorem Iu : ∀ (k : Nat) (es : List dP) (i : Nat), i < es.length → ∀ x, x ∈ mZ k es i → x ∈ es
 | 0, es, i, _, x, h => h
 | k + 1, es, i, hi, x, h => by
  unfold mZ at h;have hl := (Am es i hi 2).1;split at h
  ·exact h
  ·have := Iu k _ (pM es i 2) (by rw [dh]; exact hl) x h;exact F7 (by omega) (by omega) (by omega) (by omega) this
theorem Ew (es : List dP) : (r9 es).length = es.length - 1 := by
 unfold r9;rw [Ar, List.length_take, dh];omega
theorem KZ (e0 : dP) (es : List dP) (x : dP) (h : x ∈ r9 (e0 :: es)) : x ∈ e0 :: es := by
 unfold r9 at h;have hl : ((e0 :: es).length : Int) = (es.length : Int) + 1 := by simp
 by_cases hn : es = []
 ·subst hn;simp [mZ] at h
 ·have hpos : 0 < es.length := by cases es with | nil => exact absurd rfl hn | cons _ _ => simp
  have h2 := Iu _ _ 0 (by rw [List.length_take, dh]; simp only [List.length_cons]; omega) x h;exact F7 (by omega) (by omega) (by omega) (by simp only [List.length_cons]; omega) (List.mem_of_mem_take h2)
def UX (N : Nat) (Q : QQ) : Prop := ∀ x, x ∈ Q.es → 0 ≤ x.f0.f0 ∧ x.f0.f0 < (N : Int)
theorem TF {N : Nat} {Q : QQ} {c : uo} (h : UX N Q) (hc : 0 ≤ c.f0 ∧ c.f0 < (N : Int)) : UX N (Et Q c) := by
 intro x hx;have := O4 _ _ Q.es.length (by simp) x hx;rcases List.mem_append.1 this with h1 | h1
 ·exact h x h1
 ·rw [List.mem_singleton] at h1;subst h1;exact hc
theorem Iw {N : Nat} {es : List dO} {vs : List dK} {st : List Bool} {Q : QQ} {k : Int} (h : UX N Q) (hE : zt N es) (h0 : 0 ≤ k) (h1 : k < (es.length : Int)) : UX N (aMT es vs st Q k) := by
 unfold aMT;split
 ·exact TF h (jb hE k h0 h1).1
 ·exact h
theorem Au {N : Nat} {es : List dO} {vs : List dK} {st : List Bool} (hE : zt N es) : ∀ (l : List Int) (p : List Int × QQ), (∀ k, k ∈ l → 0 ≤ k ∧ k < (es.length : Int)) → UX N p.2 → UX N (jV es vs st l p).2 ∧ (jV es vs st l p).2.es.length ≤ p.2.es.length + l.length
 | [], p, _, h => ⟨h, Nat.le_refl _⟩
 | k :: l, p, hk, h => by
  have hk0 := hk k (List.mem_cons_self ..);have h2 : UX N (jw es vs st p k).2 ∧ (jw es vs st p k).2.es.length ≤ p.2.es.length + 1 := by
   unfold jw;split
   ·exact ⟨Iw h hE hk0.1 hk0.2, uw _ _ _ _ _⟩
   ·exact ⟨h, Nat.le_succ _⟩
  have ih := Au (vs := vs) (st := st) hE l (jw es vs st p k) (fun x hx => hk x (List.mem_cons_of_mem _ hx)) h2.1;refine ⟨ih.1, Nat.le_trans ih.2 ?_⟩;rw [List.length_cons];omega
structure MS where
 vs : List dK
 st : List Bool
 op : List Int
 Q : QQ
def lM (es : List dO) (us : List (List Int)) (m : MS) (e0 : dP) : MS :=
 if m.st.getD e0.f0.f0.toNat false = true then ⟨m.vs, m.st, m.op, ⟨r9 m.Q.es, m.Q.nx, m.Q.ck⟩⟩
 else ⟨m.vs.set e0.f0.f0.toNat e0.f0.f1, m.st.set e0.f0.f0.toNat true,
  (jV es (m.vs.set e0.f0.f0.toNat e0.f0.f1) (m.st.set e0.f0.f0.toNat true) (us.getD e0.f0.f0.toNat []) (m.op, ⟨r9 m.Q.es, m.Q.nx, m.Q.ck⟩)).1,
  (jV es (m.vs.set e0.f0.f0.toNat e0.f0.f1) (m.st.set e0.f0.f0.toNat true) (us.getD e0.f0.f0.toNat []) (m.op, ⟨r9 m.Q.es, m.Q.nx, m.Q.ck⟩)).2⟩
def uM (es : List dO) (us : List (List Int)) : Nat → MS → MS
 | 0, m => m
 | k + 1, m => match m.Q.es with
  | [] => m
  | e0 :: _ => uM es us k (lM es us m e0)
def wt : List (List Int) → List Bool → Nat
 | u :: us, b :: st => (if b then 0 else u.length) + wt us st
 | _, _ => 0
theorem MZ : ∀ (us : List (List Int)) (st : List Bool) (t : Nat), t < st.length → st.length = us.length → st.getD t false = false → wt us (st.set t true) + (us.getD t []).length = wt us st
 | [], [], t, h, _, _ => by simp at h
 | u :: us, b :: st, 0, _, _, hb => by
  have : b = false := by simpa using hb
  subst this;simp [wt]
  omega
 | u :: us, b :: st, t + 1, h, hl, hb => by
  have ih := MZ us st t (by simpa using h) (by simpa using hl) (by simpa using hb);simp only [List.set_cons_succ, wt, List.getD_cons_succ];omega
 | [], _ :: _, _, _, h, _ => by simp at h
 | _ :: _, [], _, _, h, _ => by simp at h
def mu (us : List (List Int)) (m : MS) : Nat := m.Q.es.length + wt us m.st
structure okM (N : Nat) (es : List dO) (us : List (List Int)) (m : MS) : Prop where
 q : UX N m.Q
 vl : m.vs.length = N
 sl : m.st.length = N
 ul : us.length = N
 us : ∀ t k, k ∈ us.getD t [] → 0 ≤ k ∧ k < (es.length : Int)
theorem K9 {N : Nat} {es : List dO} {us : List (List Int)} {m : MS} {e0 : dP} {r : List dP} (h : okM N es us m) (hE : zt N es) (hq : m.Q.es = e0 :: r) : okM N es us (lM es us m e0) ∧ mu us (lM es us m e0) < mu us m := by
 have hpl : (r9 m.Q.es).length = r.length := by rw [Ew, hq]; rfl
 have hpq : UX N ⟨r9 m.Q.es, m.Q.nx, m.Q.ck⟩ := fun x hx => h.q x (by rw [hq]; exact KZ e0 r x (by rw [← hq]; exact hx))
 have he0 := h.q e0 (by rw [hq]; exact List.mem_cons_self ..);have RO : m.Q.es.length = r.length + 1 := by rw [hq]; rfl
 unfold lM;split
 ·refine ⟨⟨hpq, h.vl, h.sl, h.ul, h.us⟩, ?_⟩;simp only [mu, hpl, RO];omega
 ·rename_i hst
  have hst' : m.st.getD e0.f0.f0.toNat false = false := by simpa using hst
  have hk := Au (vs := m.vs.set e0.f0.f0.toNat e0.f0.f1) (st := m.st.set e0.f0.f0.toNat true) hE (us.getD e0.f0.f0.toNat []) (m.op, ⟨r9 m.Q.es, m.Q.nx, m.Q.ck⟩) (fun k hk => h.us _ k hk) hpq;refine ⟨⟨hk.1, by simp [h.vl], by simp [h.sl], h.ul, h.us⟩, ?_⟩;have hw := MZ us m.st e0.f0.f0.toNat (by rw [h.sl]; omega) (by rw [h.sl, h.ul]) hst';have hk2 := hk.2;simp only [mu] at hk2 ⊢;simp only [hpl] at hk2;rw [RO];omega
def Dv {α : Type} (n : Nat) (a b : α) (i : Nat) : List α := List.replicate i a ++ List.replicate (n - i) b
theorem yZ {α : Type} (n : Nat) (a b : α) : Dv n a b 0 = List.replicate n b := by simp [Dv]
theorem Aw {α : Type} (n : Nat) (a b : α) : Dv n a b n = List.replicate n a := by simp [Dv]
theorem Ay {α : Type} (n : Nat) (a b : α) (i : Nat) (hi : i < n) : (Dv n a b i).set i a = Dv n a b (i + 1) := by
 unfold Dv;rw [List.set_append_right _ _ (by simp), List.length_replicate, Nat.sub_self, show n - i = (n - (i + 1)) + 1 by omega, List.replicate_succ, List.set_cons_zero, List.replicate_succ', List.append_assoc, List.singleton_append]
theorem Iy {base q t : Nat} {w w1 : World} {es : List dP} {nx ck : Int} {row : Option Nat} (h : QS base w q es nx ck) (hc : ∀ k, row = some k → ∃ cells, w.heap[k]? = some (.cells cells t (0, 0))) (h1 : t ≠ 135) (h2 : t ≠ 139) (hg : w.grownBy w1 row) : QS base w1 q es nx ck := by
 obtain ⟨v, bm, qy, mc, hq, hbq, hR, hm, EZ, hks⟩ := h;have e1 : some q ≠ row := by rintro rfl; obtain ⟨cells, hc⟩ := hc q rfl; rw [hq] at hc; injection hc with hc; injection hc with _ hc; exact h1 hc.symm
 have e2 : some bm ≠ row := by rintro rfl; obtain ⟨cells, hc⟩ := hc bm rfl; rw [hm] at hc; cases hc
 refine ⟨v, bm, qy, mc, bX hq hg e1, hbq, ?_, bX hm hg e2, EZ, hks⟩;refine Kd.bB (Kd.vF (Kd.jI hR) hg (fun k hk => ?_)) (fun _ _ => trivial);obtain ⟨_, _, _, x, hx, cells', hc'⟩ := hk;have hx' : x ∈ [139] := hx;rw [List.mem_singleton] at hx';rintro rfl;obtain ⟨cells, hc⟩ := hc k rfl;rw [hc] at hc';injection hc' with hc'
 injection hc' with _ hc'
 exact h2 (hc'.trans hx')
theorem SS.uses {X : Ctx} {w w1 w2 : World} {vs : List dK} {st : List Bool} {op : List Int} {us us' : List (List Int)} {ed : List Int} {Q : QQ} (h : SS X w vs st op us ed Q) {v : Value} {l : List Int} {vD : Nat → Prop} (hv : Kd.R (Kd.int .i64) 3 w X.w0.heap.size vD v l) (hok : ∀ k, vD k → k ≠ X.go ∧ k ≠ X.ge)
  (hg : w.grownBy w1 v.ownBlock) (hB1 : Below X.w0.heap.size X.w0 w1) (hg2 : w1.grownBy w2 (some X.gu)) (hU : Kd.S (Kd.slice 3 (Kd.int .i64)) 44 w2 X.w0.heap.size (fun k => k ≠ X.go ∧ k ≠ X.ge) (.slice (some ⟨X.gu, 0, none⟩) X.n X.cu) us') : SS X w2 vs st op us' ed Q := by
 have ht := Kd.lW hv;obtain ⟨uc, huc⟩ := Kd.Ow h.hU X.gu rfl;have adb := bX huc hg (Kd.aqP hv huc (by decide));have hub := Kd.ZG h.hU X.gu rfl;have ht1 : ∀ k, (Value.slice (some ⟨X.gu, 0, none⟩) X.n X.cu).ownBlock = some k → ∃ cells, w1.heap[k]? = some (.cells cells 44 (0, 0)) := fun k hk => by
  obtain rfl : X.gu = k := by simpa [Value.ownBlock] using hk
  exact ⟨_, adb⟩
 have TG : w1.grownBy w2 (Value.slice (some ⟨X.gu, 0, none⟩) X.n X.cu).ownBlock := hg2;have hO1 := Kd.bB (ok' := fun k => k ≠ X.ge) (Kd.vF (Kd.Jc rfl h.hO) hg (fun k hk e => by
  obtain rfl : k = X.go := by simpa [Value.ownBlock] using hk
  exact (hok _ (hv.1 _ e.symm)).1 rfl)) (fun k hk => by
  obtain rfl : k = X.go := by simpa [Value.ownBlock] using hk
  exact h.hO.1 _ rfl)
 have hE1 := Kd.bB (ok' := fun k => k ≠ X.go) (Kd.vF (Kd.Jc rfl h.hE) hg (fun k hk e => by
  obtain rfl : k = X.ge := by simpa [Value.ownBlock] using hk
  exact (hok _ (hv.1 _ e.symm)).2 rfl)) (fun k hk => by
  obtain rfl : k = X.ge := by simpa [Value.ownBlock] using hk
  exact h.hE.1 _ rfl)
 exact ⟨jq hB1 _ hB1.size hg2 (fun k hk => by injection hk with hk; subst hk; exact hub), bX (bX h.hs hg (Kd.aqP hv h.hs (by decide))) hg2 (by
   intro e; injection e with e; have := bX h.hs hg (Kd.aqP hv h.hs (by decide)); rw [e, adb] at this; injection this with this; injection this with _ this; exact absurd this (by decide)), h.hsb, h.hC,
  Kd.zW (Kd.nA h.hV hv (by decide) hg) ht1 (by decide) TG, Kd.zW (Kd.nA h.hS hv (by decide) hg) ht1 (by decide) TG, Kd.zW hO1 ht1 (by decide) TG, hU, Kd.zW hE1 ht1 (by decide) TG,
  Iy (Iy h.hQ ht (by decide) (by decide) hg) ht1 (by decide) (by decide) TG⟩
def Hl (us : List (List Int)) (k : Int) (l : List Int) : List (List Int) := l.foldl (fun us t => us.set t.toNat (us.getD t.toNat [] ++ [k])) us
def yn (N : Nat) (es : List dO) : Nat → List (List Int)
 | 0 => List.replicate N []
 | i + 1 => Hl (yn N es i) (i : Nat) (aj es (i : Nat)).f1
def Iz (es : List dO) (i : Nat) : List Int := (es.take i).map (fun e => (e.f1.length : Int)) ++ List.replicate (es.length - i) 0
theorem VH (es : List dO) (i : Nat) (hi : i < es.length) : (Iz es i).set i ((aj es (i : Nat)).f1.length : Int) = Iz es (i + 1) := by
 unfold Iz;have h1 : ((es.take i).map (fun e => (e.f1.length : Int))).length = i := by rw [List.length_map, List.length_take]; omega
 rw [List.set_append_right _ _ (by omega), h1, Nat.sub_self, show es.length - i = (es.length - (i + 1)) + 1 by omega, List.replicate_succ, List.set_cons_zero, List.take_succ_eq_append_getElem hi, List.map_append];simp [aj, List.getD_eq_getElem?_getD, List.getElem?_eq_getElem hi]
theorem TH (us : List (List Int)) (k : Int) (l : List Int) (j : Nat) (hj : j < l.length) : Hl us k (l.take (j + 1)) = (Hl us k (l.take j)).set (l.getD j 0).toNat ((Hl us k (l.take j)).getD (l.getD j 0).toNat [] ++ [k]) := by
 have e : l.getD j 0 = l[j] := by rw [List.getD_eq_getElem?_getD, List.getElem?_eq_getElem hj]; rfl
 rw [e];show List.foldl _ us (l.take (j + 1)) = _;rw [List.take_succ_eq_append_getElem hj, List.foldl_append];rfl
theorem Jz (us : List (List Int)) (k : Int) : ∀ (l : List Int) (t : Nat), ((Hl us k l).getD t []).length ≤ (us.getD t []).length + l.length
 | [], t => Nat.le_refl _
 | x :: l, t => by
  have h := Jz (us.set x.toNat (us.getD x.toNat [] ++ [k])) k l t;have e : Hl us k (x :: l) = Hl (us.set x.toNat (us.getD x.toNat [] ++ [k])) k l := rfl;rw [e];refine Nat.le_trans h ?_;have h2 : ((us.set x.toNat (us.getD x.toNat [] ++ [k])).getD t []).length ≤ (us.getD t []).length + 1 := by
   simp only [List.getD_eq_getElem?_getD, List.getElem?_set];split
   ·rename_i he
    split
    ·subst he; simp
    ·simp
   ·omega
  rw [List.length_cons];omega
theorem O5 (N : Nat) (es : List dO) (h : ∀ x, x ∈ es → x.f1.length ≤ 1000000) : ∀ (i : Nat) (t : Nat), i ≤ es.length → ((yn N es i).getD t []).length ≤ i * 1000000
 | 0, t, _ => by
  simp only [yn, List.getD_eq_getElem?_getD, List.getElem?_replicate];split <;> simp
 | i + 1, t, hi => by
  have h1 := O5 N es h i t (by omega);have h2 := Jz (yn N es i) (i : Nat) (aj es (i : Nat)).f1 t;have h3 : (aj es (i : Nat)).f1.length ≤ 1000000 := h _ (by
   simp only [aj, Int.toNat_natCast, List.getD_eq_getElem?_getD, List.getElem?_eq_getElem (show i < es.length by omega), Option.getD_some];exact List.getElem_mem _)
  have e : yn N es (i + 1) = Hl (yn N es i) (i : Nat) (aj es (i : Nat)).f1 := rfl;rw [e];omega
theorem JA (es : List dO) (k : Nat) (hk : k < es.length) : (Iz es es.length).getD (k : Int).toNat 0 = ((aj es (k : Int)).f1.length : Int) := by
 simp [Iz, aj, List.getD_eq_getElem?_getD, hk]
def oh (es : List dO) (vs : List dK) (st : List Bool) : Nat → QQ
 | 0 => ⟨[], 0, 0⟩
 | k + 1 => if (aj es (k : Int)).f1.length = 0 then aMT es vs st (oh es vs st k) (k : Int) else oh es vs st k
theorem vT (es : List dO) (vs : List dK) (st : List Bool) (k : Nat) : oh es vs st (k + 1) = if (aj es (k : Int)).f1.length = 0 then aMT es vs st (oh es vs st k) (k : Int) else oh es vs st k := rfl
theorem vU (es : List dO) (vs : List dK) (st : List Bool) : ∀ k, (oh es vs st k).es.length ≤ k
 | 0 => Nat.le_refl _
 | k + 1 => by
  have ih := vU es vs st k;rw [vT];split
  ·exact Nat.le_trans (uw _ _ _ _ _) (by omega)
  ·omega
theorem La (n : Nat) (es : List dO) (hE : zt n es) (vs : List dK) (st : List Bool) : ∀ k, k ≤ es.length → UX n (oh es vs st k)
 | 0, _ => fun x hx => by simp [oh] at hx
 | k + 1, hk => by
  have ih := La n es hE vs st k (by omega);rw [vT];split
  ·exact Iw ih hE (by omega) (by omega)
  ·exact ih
theorem O6 (us : List (List Int)) (k : Int) : ∀ (l : List Int) (t : Nat) (x : Int), x ∈ (Hl us k l).getD t [] → x ∈ us.getD t [] ∨ x = k
 | [], t, x, h => Or.inl h
 | y :: l, t, x, h => by
  rcases O6 (us.set y.toNat (us.getD y.toNat [] ++ [k])) k l t x h with h1 | h1
  ·simp only [List.getD_eq_getElem?_getD, List.getElem?_set] at h1 ⊢;by_cases he : y.toNat = t
   ·rw [if_pos he] at h1;by_cases hl : y.toNat < us.length
    ·rw [if_pos hl, Option.getD_some, List.mem_append, List.mem_singleton, he] at h1;exact h1
    ·rw [if_neg hl] at h1;simp at h1
   ·rw [if_neg he] at h1;exact Or.inl h1
  ·exact Or.inr h1
theorem O7 (n : Nat) (es : List dO) : ∀ (i t : Nat) (x : Int), i ≤ es.length → x ∈ (yn n es i).getD t [] → 0 ≤ x ∧ x < (i : Int)
 | 0, t, x, _, h => by
  simp only [yn, List.getD_eq_getElem?_getD, List.getElem?_replicate] at h;split at h <;> simp at h
 | i + 1, t, x, hi, h => by
  rcases O6 (yn n es i) (i : Nat) (aj es (i : Nat)).f1 t x h with h | h
  ·have := O7 n es i t x (by omega) h;omega
  ·omega
theorem F8 (us : List (List Int)) (k : Int) : ∀ l : List Int, (Hl us k l).length = us.length
 | [] => rfl
 | y :: l => (F8 (us.set y.toNat (us.getD y.toNat [] ++ [k])) k l).trans (by simp)
theorem zL (n : Nat) (es : List dO) : ∀ i, (yn n es i).length = n
 | 0 => by simp [yn]
 | i + 1 => (F8 _ _ _).trans (zL n es i)
theorem Lb (n : Nat) (es : List dO) (hE : zt n es) (m0 : MS) (h : m0 = ⟨List.replicate n (⟨1099511627776, 0⟩ : dK), List.replicate n false, Iz es es.length, oh es (List.replicate n (⟨1099511627776, 0⟩ : dK)) (List.replicate n false) es.length⟩) : okM n es (yn n es es.length) m0 := by
 subst h;exact ⟨La n es hE _ _ _ (Nat.le_refl _), by simp, by simp, zL _ _ _, fun t k hk => O7 n es es.length t k (Nat.le_refl _) hk⟩
theorem F9 : ∀ (us : List (List Int)) (t : Nat) (k : Int), ((us.set t (us.getD t [] ++ [k])).map List.length).sum ≤ (us.map List.length).sum + 1
 | [], t, k => by simp
 | u :: us, 0, k => by simp; omega
 | u :: us, t + 1, k => by
  have := F9 us t k;simp only [List.set_cons_succ, List.map_cons, List.sum_cons, List.getD_cons_succ];omega
theorem O8 (us : List (List Int)) (k : Int) : ∀ l : List Int, ((Hl us k l).map List.length).sum ≤ (us.map List.length).sum + l.length
 | [] => Nat.le_refl _
 | y :: l => by
  have h := O8 (us.set y.toNat (us.getD y.toNat [] ++ [k])) k l;have h2 := F9 us y.toNat k;have e : Hl us k (y :: l) = Hl (us.set y.toNat (us.getD y.toNat [] ++ [k])) k l := rfl;rw [e, List.length_cons];omega
theorem O9 (n : Nat) (es : List dO) (hT : ∀ e, e ∈ es → e.f1.length ≤ 100) : ∀ i, i ≤ es.length → ((yn n es i).map List.length).sum ≤ i * 100
 | 0, _ => by simp [yn]
 | i + 1, hi => by
  have h1 := O9 n es hT i (by omega);have h2 := O8 (yn n es i) (i : Nat) (aj es (i : Nat)).f1;have h3 : (aj es (i : Nat)).f1.length ≤ 100 := hT _ (by
   simp only [aj, Int.toNat_natCast, List.getD_eq_getElem?_getD, List.getElem?_eq_getElem (show i < es.length by omega), Option.getD_some];exact List.getElem_mem _)
  have e : yn n es (i + 1) = Hl (yn n es i) (i : Nat) (aj es (i : Nat)).f1 := rfl;rw [e];omega
theorem Yj : ∀ (us : List (List Int)) (st : List Bool), wt us st ≤ (us.map List.length).sum
 | u :: us, b :: st => by
  have := Yj us st;simp only [wt, List.map_cons, List.sum_cons];split <;> omega
 | [], _ => by simp [wt]
 | _ :: _, [] => by simp [wt]
theorem Pb (n : Nat) (es : List dO) (hT : ∀ e, e ∈ es → e.f1.length ≤ 100) (he : es.length ≤ 1000) (m0 : MS) (h : m0 = ⟨List.replicate n (⟨1099511627776, 0⟩ : dK), List.replicate n false, Iz es es.length, oh es (List.replicate n (⟨1099511627776, 0⟩ : dK)) (List.replicate n false) es.length⟩) : mu (yn n es es.length) m0 < 1000000 := by
 subst h;have h1 := O9 n es hT es.length (Nat.le_refl _);have h2 := Yj (yn n es es.length) (List.replicate n false);have h3 := vU es (List.replicate n (⟨1099511627776, 0⟩ : dK)) (List.replicate n false) es.length;simp only [mu];omega
theorem Ga (es : List dO) (us : List (List Int)) (k : Nat) (m : MS) (e0 : dP) (r : List dP) (h : m.Q.es = e0 :: r) : uM es us (k + 1) m = uM es us k (lM es us m e0) := by simp only [uM, h]
theorem Ou {md : Region.Mode} {ops : Array Oper} {T : Bool × List (List Nat × List Nat)} {l : Array Bool} {rs : List Nat} (hT : iC md ops = T) (h : (vJ T.2 l.toList == rs) = true) : Region.ready md ops l = rs := by
 subst hT;rw [ready_eq];simpa using h
theorem mM {w w1 : World} (h : w.grownBy w1 none) : Below w.heap.size w w1 := ⟨h.os, h.tape, h.output, h.size, fun k hk => h.block k hk (by simp)⟩
abbrev sK : dK := ⟨1099511627776, 0⟩
def m0L (n : Nat) (es : List dO) : MS := ⟨List.replicate n sK, List.replicate n false, Iz es es.length, oh es (List.replicate n sK) (List.replicate n false) es.length⟩
def M0 (n : Nat) (es : List dO) : MS := uM es (yn n es es.length) 1000000 (m0L n es)
def eqV (a b : dK) : Bool := a.f0 == b.f0 && (a.f1 == b.f1)
theorem E5 (a b : dK) : eqV a b = true ↔ a = b := by
 obtain ⟨a0, a1⟩ := a;obtain ⟨b0, b1⟩ := b;simp [eqV]
theorem E8 (V y : dK) (w : World) : (if V.f0 = y.f0 then if V.f1 = y.f1 then Result.ok (Next.value (Value.bool true)) w else Result.ok (Next.value (Value.bool false)) w else Result.ok (Next.value (Value.bool false)) w) = Result.ok (Next.value (Value.bool (eqV V y))) w := by
 unfold eqV;by_cases h0 : V.f0 = y.f0 <;> by_cases h1 : V.f1 = y.f1 <;> simp [h0, h1]
def Gb (es : List dO) (vs : List dK) (st : List Bool) (ed : List Int) (k : Nat) : List Int :=
 if ed.getD (aj es (k : Int)).f0.toNat 0 < 0 ∧ st.getD (aj es (k : Int)).f0.toNat false = true ∧ eqV (kV vs (aj es (k : Int))) (bJ vs (aj es (k : Int)).f0) = true then ed.set (aj es (k : Int)).f0.toNat (k : Int) else ed
def RU (n : Nat) (es : List dO) (vs : List dK) (st : List Bool) : Nat → List Int
 | 0 => List.replicate n (-1)
 | k + 1 => Gb es vs st (RU n es vs st k) k
theorem Gc (n : Nat) (es : List dO) (vs : List dK) (st : List Bool) (k : Nat) : RU n es vs st (k + 1) = Gb es vs st (RU n es vs st k) k := rfl
def jy (n : Nat) (es : List dO) : List dK := (M0 n es).vs
def xL (n : Nat) (es : List dO) : List Int := RU n es (M0 n es).vs (M0 n es).st es.length
theorem Q6 (es : List dO) (us : List (List Int)) (k : Nat) (m : MS) (h : m.Q.es = []) : uM es us k m = m := by
 cases k with
 | zero => rfl
 | succ k => simp only [uM, h]
def oV (a b : dK) : Prop := a.f0 < b.f0 ∨ a.f0 = b.f0 ∧ a.f1 ≤ b.f1
theorem za (a b : dK) : pW a b = true ↔ a.f0 < b.f0 ∨ a.f0 = b.f0 ∧ a.f1 < b.f1 := by simp [pW]
theorem rC (a b : dK) : pW a b = false ↔ oV b a := by
  have h := za a b
  unfold oV
  cases hb : pW a b with
  | true => rw [hb] at h; have h2 := h.1 rfl; constructor
            · intro h3; cases h3
            · intro h3; omega
  | false => rw [hb] at h; constructor
             · intro _
               have h3 : ¬ (a.f0 < b.f0 ∨ a.f0 = b.f0 ∧ a.f1 < b.f1) := fun h4 => by have := h.2 h4; cases this
               omega
             · intro _; rfl
theorem oV.refl (a : dK) : oV a a := by unfold oV; omega
theorem oV.trans {a b c : dK} (h1 : oV a b) (h2 : oV b c) : oV a c := by unfold oV at *; omega
theorem oV.antisymm {a b : dK} (h1 : oV a b) (h2 : oV b a) : a = b := by
 obtain ⟨a0, a1⟩ := a;obtain ⟨b0, b1⟩ := b;unfold oV at *;have e0 : a0 = b0 := by simp only at h1 h2; omega
 have e1 : a1 = b1 := by simp only at h1 h2; omega
 rw [e0, e1]
theorem oV.total (a b : dK) : oV a b ∨ oV b a := by unfold oV; omega
def leB (a b : dP) : Prop := KW b a = false
theorem E9 (a b : dP) : leB a b ↔ (a.f0.f1.f0 < b.f0.f1.f0 ∨ a.f0.f1.f0 = b.f0.f1.f0 ∧ (a.f0.f1.f1 < b.f0.f1.f1 ∨ a.f0.f1.f1 = b.f0.f1.f1 ∧ a.f2 ≤ b.f2)) := by
 unfold leB KW pW;simp only [Bool.or_eq_false_iff, Bool.and_eq_false_iff, decide_eq_false_iff_not, Bool.not_eq_false, Bool.or_eq_true, Bool.and_eq_true, decide_eq_true_eq, Bool.not_eq_false', Bool.not_eq_true'];omega
theorem leB.trans {a b c : dP} (h1 : leB a b) (h2 : leB b c) : leB a c := by rw [E9] at *; omega
theorem leB.refl (a : dP) : leB a a := by rw [E9]; omega
theorem Gd {a b : dP} (h : KW a b = true) : leB a b := by
 rcases Bool.eq_false_or_eq_true (KW b a) with h1 | h1
 ·rw [E9];unfold KW pW at h h1;simp only [Bool.or_eq_true, Bool.and_eq_true, decide_eq_true_eq, Bool.not_eq_true', Bool.or_eq_false_iff, Bool.and_eq_false_iff, decide_eq_false_iff_not] at h h1;omega
 ·exact h1
theorem VI {a b : dP} (h : leB a b) : oV a.f0.f1 b.f0.f1 := by rw [E9] at h; unfold oV; omega
abbrev fV (es : List dP) (i : Nat) : dP := eO es (i : Int)
theorem pQ (es : List dP) (i : Nat) (h : i < es.length) : fV es i = es[i] := by
 simp [fV, eO, List.getD_eq_getElem?_getD, List.getElem?_eq_getElem h]
theorem jl {α : Type} (l : List α) (t i : Nat) (b d : α) : (l.set t b).getD i d = if i = t ∧ t < l.length then b else l.getD i d := by
 simp only [List.getD_eq_getElem?_getD, List.getElem?_set];by_cases h : t = i
 ·subst h;by_cases h2 : t < l.length
  ·simp [h2]
  ·simp [h2]
 ·rw [if_neg h, if_neg (fun h2 => h h2.1.symm)]
theorem lu (es : List dP) (i j k : Nat) (hi : i < es.length) (hj : j < es.length) (hk : k < es.length) : fV (nK es (i : Int) (j : Int)) k = if k = j then fV es i else if k = i then fV es j else fV es k := by
 show (((es.set i (fV es j)).set j (fV es i))).getD k _ = _;rw [jl, jl, List.length_set];by_cases h1 : k = j
 ·rw [if_pos ⟨h1, hj⟩, if_pos h1]
 ·rw [if_neg (fun h => h1 h.1), if_neg h1];by_cases h2 : k = i
  ·rw [if_pos ⟨h2, hi⟩, if_pos h2]
  ·rw [if_neg (fun h => h2 h.1), if_neg h2];rfl
theorem Gf (es : List dP) (x : dP) : x ∈ es ↔ ∃ k, k < es.length ∧ x = fV es k := by
 rw [List.mem_iff_getElem];constructor
 ·rintro ⟨k, hk, e⟩;exact ⟨k, hk, by rw [pQ _ _ hk, e]⟩
 ·rintro ⟨k, hk, e⟩;exact ⟨k, hk, by rw [e, pQ _ _ hk]⟩
theorem Az (es : List dP) (i j : Nat) (hi : i < es.length) (hj : j < es.length) (x : dP) : x ∈ nK es (i : Int) (j : Int) ↔ x ∈ es := by
 rw [Gf, Gf, dh];constructor
 ·rintro ⟨k, hk, e⟩;rw [lu es i j k hi hj hk] at e;split at e
  ·exact ⟨i, hi, e⟩
  ·split at e
   ·exact ⟨j, hj, e⟩
   ·exact ⟨k, hk, e⟩
 ·rintro ⟨k, hk, e⟩;by_cases h1 : k = i
  ·refine ⟨j, hj, ?_⟩;rw [lu es i j j hi hj hj, if_pos rfl, e, h1]
  ·by_cases h2 : k = j
   ·refine ⟨i, hi, ?_⟩;rw [lu es i j i hi hj hi, e, h2];split
    ·rename_i h3; rw [h3]
    ·rw [if_pos rfl]
   ·refine ⟨k, hk, ?_⟩;rw [lu es i j k hi hj hk, if_neg h2, if_neg h1, e]
def Heap (es : List dP) : Prop := ∀ i, 0 < i → i < es.length → leB (fV es ((i - 1) / 2)) (fV es i)
theorem Heap.root {es : List dP} (h : Heap es) : ∀ i, i < es.length → leB (fV es 0) (fV es i) := by
 intro i;induction i using Nat.strongRecOn with
 | ind i ih =>
  intro hi;by_cases h0 : i = 0
  ·subst h0; exact leB.refl _
  ·exact (ih ((i - 1) / 2) (by omega) (by omega)).trans (h i (by omega) hi)
structure ade (es : List dP) (k : Nat) : Prop where
 a : ∀ i, 0 < i → i < es.length → i ≠ k → leB (fV es ((i - 1) / 2)) (fV es i)
 b : ∀ c, 0 < k → 0 < c → c < es.length → (c - 1) / 2 = k → leB (fV es ((k - 1) / 2)) (fV es c)
theorem Lc : ∀ (K : Nat) (es : List dP) (k : Nat), k < es.length → k ≤ K → ade es k → Heap (Hg K es k)
 | 0, es, k, hk, hK, h => by
  obtain rfl : k = 0 := by omega
  exact fun i h0 h1 => h.a i h0 h1 (by omega)
 | K + 1, es, 0, hk, hK, h => fun i h0 h1 => h.a i h0 h1 (by omega)
 | K + 1, es, m + 1, hk, hK, h => by
  have e2 : ((m : Int) / 2) = ((m / 2 : Nat) : Int) := by omega
  have e1 : ((m : Int) + 1) = ((m + 1 : Nat) : Int) := by omega
  unfold Hg;rw [e1, e2];split
  ·rename_i hb
   refine Lc K _ (m / 2) (by rw [dh]; omega) (by omega) ?_;have hle := Gd hb;have hp : m / 2 < es.length := by omega
   have hsw : ∀ k, k < es.length → fV (nK es ((m + 1 : Nat) : Int) ((m / 2 : Nat) : Int)) k = if k = m / 2 then fV es (m + 1) else if k = m + 1 then fV es (m / 2) else fV es k := fun k hk2 => lu es (m + 1) (m / 2) k hk hp hk2
   constructor
   ·intro i h0 h1 h2;rw [dh] at h1;rw [hsw i h1, hsw ((i - 1) / 2) (by omega), if_neg h2];by_cases h3 : i = m + 1
    ·subst h3;rw [if_pos rfl, if_pos (by omega)];exact hle
    ·rw [if_neg h3];by_cases h4 : (i - 1) / 2 = m / 2
     ·rw [if_pos h4];have := h.a i h0 h1 h3;rw [h4] at this;exact hle.trans this
     ·rw [if_neg h4];by_cases h5 : (i - 1) / 2 = m + 1
      ·rw [if_pos h5];have := h.b i (by omega) h0 h1 h5;exact this
      ·rw [if_neg h5];exact h.a i h0 h1 h3
   ·intro c hk0 h0 h1 h2;rw [dh] at h1;have hpp := h.a (m / 2) hk0 hp (by omega);rw [hsw c h1, hsw ((m / 2 - 1) / 2) (by omega), if_neg (show ¬ (m / 2 - 1) / 2 = m / 2 by omega), if_neg (show ¬ (m / 2 - 1) / 2 = m + 1 by omega), if_neg (show ¬ c = m / 2 by omega)];by_cases h3 : c = m + 1
    ·rw [if_pos h3]; exact hpp
    ·rw [if_neg h3];have := h.a c h0 h1 h3;rw [h2] at this;exact hpp.trans this
  ·rename_i hb
   have hb' : leB (fV es (m / 2)) (fV es (m + 1)) := Bool.eq_false_iff.2 hb;intro i h0 h1;by_cases h2 : i = m + 1
   ·subst h2; exact hb'
   ·exact h.a i h0 h1 h2
theorem Ex : ∀ (K : Nat) (es : List dP) (k : Nat), k < es.length → ∀ x, x ∈ Hg K es k ↔ x ∈ es
 | 0, es, k, hk, x => Iff.rfl
 | K + 1, es, 0, hk, x => Iff.rfl
 | K + 1, es, m + 1, hk, x => by
  have e2 : ((m : Int) / 2) = ((m / 2 : Nat) : Int) := by omega
  have e1 : ((m : Int) + 1) = ((m + 1 : Nat) : Int) := by omega
  unfold Hg;rw [e1, e2];split
  ·rw [Ex K _ (m / 2) (by rw [dh]; omega) x];exact Az es (m + 1) (m / 2) hk (by omega) x
  ·exact Iff.rfl
structure adf (es : List dP) (k : Nat) : Prop where
 a : ∀ i, 0 < i → i < es.length → (i - 1) / 2 ≠ k → leB (fV es ((i - 1) / 2)) (fV es i)
 b : ∀ c, 0 < k → 0 < c → c < es.length → (c - 1) / 2 = k → leB (fV es ((k - 1) / 2)) (fV es c)
theorem IA (es : List dP) (i : Nat) : ∀ t, (pM es i t = i ∨ ∃ s, s < t ∧ pM es i t = 2 * i + 1 + s) ∧ leB (fV es (pM es i t)) (fV es i) ∧ ∀ s, s < t → 2 * i + 1 + s < es.length → leB (fV es (pM es i t)) (fV es (2 * i + 1 + s))
 | 0 => ⟨Or.inl rfl, leB.refl _, fun s hs => absurd hs (by omega)⟩
 | t + 1 => by
  obtain ⟨h1, h2, h3⟩ := IA es i t;rw [rA];split
  ·rename_i hc
   have hle := Gd hc.2;refine ⟨Or.inr ⟨t, by omega, rfl⟩, hle.trans h2, fun s hs hl => ?_⟩;by_cases hst : s = t
   ·subst hst; exact leB.refl _
   ·exact hle.trans (h3 s (by omega) hl)
  ·rename_i hc
   refine ⟨?_, h2, fun s hs hl => ?_⟩
   ·rcases h1 with h1 | ⟨s, hs, h1⟩
    ·exact Or.inl h1
    ·exact Or.inr ⟨s, by omega, h1⟩
   ·by_cases hst : s = t
    ·subst hst;have : KW (fV es (2 * i + 1 + s)) (fV es (pM es i s)) = false := by
      rcases Bool.eq_false_or_eq_true (KW (fV es (2 * i + 1 + s)) (fV es (pM es i s))) with h5 | h5
      ·exact absurd ⟨hl, h5⟩ hc
      ·exact h5
     exact this
    ·exact h3 s (by omega) hl
theorem Gg : ∀ (K : Nat) (es : List dP) (k : Nat), es.length ≤ k + K → adf es k → Heap (mZ K es k)
 | 0, es, k, hK, h => by
  show Heap es;exact fun i h0 h1 => h.a i h0 h1 (by omega)
 | K + 1, es, k, hK, h => by
  obtain ⟨h1, h2, h3⟩ := IA es k 2;unfold mZ;split
  ·rename_i he
   rw [he] at h3;intro i h0 hi;by_cases hp : (i - 1) / 2 = k
   ·have := h3 (i - (2 * k + 1)) (by omega) (by omega);rw [hp];rw [show 2 * k + 1 + (i - (2 * k + 1)) = i by omega] at this;exact this
   ·exact h.a i h0 hi hp
  ·rename_i he
   by_cases hk : k < es.length
   ·have hl := (Am es k hk 2).1;obtain ⟨L, hL⟩ : ∃ L, pM es k 2 = L := ⟨_, rfl⟩;rw [hL] at h1 h2 h3 hl he ⊢;have hkL : (L - 1) / 2 = k ∧ k < L := by
     rcases h1 with h1 | ⟨s, hs, h1⟩
     ·exact absurd h1 he
     ·omega
    have hsw : ∀ i, i < es.length → fV (nK es (k : Int) (L : Int)) i = if i = L then fV es k else if i = k then fV es L else fV es i := fun i hi => lu es k L i hk hl hi
    refine Gg K _ L (by rw [dh]; omega) ?_;constructor
    ·intro i h0 hi hp;rw [dh] at hi;rw [hsw i hi, hsw ((i - 1) / 2) (by omega), if_neg hp];by_cases h4 : (i - 1) / 2 = k
     ·rw [if_pos h4];by_cases h5 : i = L
      ·rw [if_pos h5]; exact h2
      ·rw [if_neg h5, if_neg (by omega)];have := h3 (i - (2 * k + 1)) (by omega) (by omega);rw [show 2 * k + 1 + (i - (2 * k + 1)) = i by omega] at this;exact this
     ·rw [if_neg h4, if_neg (show ¬ i = L by omega)];by_cases h5 : i = k
      ·rw [if_pos h5];subst h5;exact h.b L h0 (by omega) hl hkL.1
      ·rw [if_neg h5];exact h.a i h0 hi h4
    ·intro c hL0 h0 hc hp;rw [dh] at hc;rw [hsw c hc, hsw ((L - 1) / 2) (by omega), hkL.1, if_neg (show ¬ k = L by omega), if_pos rfl, if_neg (show ¬ c = L by omega), if_neg (show ¬ c = k by omega)];have := h.a c h0 hc (by omega);rw [hp] at this;exact this
   ·rcases h1 with h1 | ⟨s, hs, h1⟩
    ·exact absurd h1 he
    ·exfalso;have hz : ∀ t, pM es k t = k := by
      intro t;induction t with
      | zero => rfl
      | succ t ih => rw [rA, if_neg (by omega)]; exact ih
     exact he (hz 2)
theorem zB : ∀ (K : Nat) (es : List dP) (k : Nat), k < es.length → ∀ x, x ∈ mZ K es k ↔ x ∈ es
 | 0, es, k, hk, x => Iff.rfl
 | K + 1, es, k, hk, x => by
  have hl := (Am es k hk 2).1;unfold mZ;split
  ·exact Iff.rfl
  ·rw [zB K _ _ (by rw [dh]; exact hl) x];exact Az es k (pM es k 2) hk hl x
theorem vV (es : List dP) (m i : Nat) (h : i < m) (hm : m ≤ es.length) : fV (es.take m) i = fV es i := by
 rw [pQ _ i (by rw [List.length_take]; omega), pQ _ i (by omega), List.getElem_take]
theorem IB {es : List dP} (h : Heap es) : Heap (r9 es) := by
 unfold r9;refine Gg _ _ 0 (by rw [List.length_take, dh]; omega) ?_;constructor
 ·intro i h0 hi hp;rw [List.length_take, dh] at hi;rw [vV _ _ _ (by omega) (by rw [dh]; omega), vV _ _ _ (by omega) (by rw [dh]; omega)];have e : nK es 0 ((es.length - 1 : Nat) : Int) = nK es ((0 : Nat) : Int) ((es.length - 1 : Nat) : Int) := rfl;rw [e, lu es 0 (es.length - 1) i (by omega) (by omega) (by omega), lu es 0 (es.length - 1) ((i - 1) / 2) (by omega) (by omega) (by omega), if_neg (by omega), if_neg (by omega), if_neg (by omega), if_neg (by omega)];exact h i h0 (by omega)
 ·intro c hk;omega
theorem Q7 (e0 : dP) (r : List dP) (x : dP) (h : x ∈ e0 :: r) : x = e0 ∨ x ∈ r9 (e0 :: r) := by
 by_cases hr : r = []
 ·subst hr;exact Or.inl (List.mem_singleton.1 h)
 ·have hl : 0 < r.length := by cases r with | nil => exact absurd rfl hr | cons _ _ => simp
  obtain ⟨es, hes⟩ : ∃ es, es = e0 :: r := ⟨_, rfl⟩;have hlen : es.length = r.length + 1 := by rw [hes]; rfl
  have h0 : fV es 0 = e0 := by rw [pQ es 0 (by omega)]; simp [hes]
  rw [← hes] at h ⊢;unfold r9;rw [zB _ _ 0 (by rw [List.length_take, dh]; omega), Gf];obtain ⟨k, hk, e⟩ := (Gf es x).1 h;have e9 : nK es 0 ((es.length - 1 : Nat) : Int) = nK es ((0 : Nat) : Int) ((es.length - 1 : Nat) : Int) := rfl;by_cases hk0 : k = 0
  ·subst hk0;exact Or.inl (e.trans h0)
  ·refine Or.inr ?_;by_cases hkl : k = es.length - 1
   ·refine ⟨0, by rw [List.length_take, dh]; omega, ?_⟩;rw [vV _ _ _ (by omega) (by rw [dh]; omega), e9, lu es 0 (es.length - 1) 0 (by omega) (by omega) (by omega), if_neg (by omega), if_pos rfl, e, hkl]
   ·refine ⟨k, by rw [List.length_take, dh]; omega, ?_⟩;rw [vV _ _ _ (by omega) (by rw [dh]; omega), e9, lu es 0 (es.length - 1) k (by omega) (by omega) (by omega), if_neg hkl, if_neg hk0, e]
theorem M3 {Q : QQ} (h : Heap Q.es) (c : uo) : Heap (Et Q c).es := by
 refine Lc _ _ Q.es.length (by simp) (by omega) ?_;have hat : ∀ i, i < Q.es.length → fV (Q.es ++ [⟨c, Q.nx, Q.ck⟩]) i = fV Q.es i := fun i hi => by
  rw [pQ _ i (by simp; omega), pQ _ i hi, List.getElem_append_left hi]
 constructor
 ·intro i h0 hi hne;rw [List.length_append, List.length_singleton] at hi;rw [hat i (by omega), hat _ (by omega)];exact h i h0 (by omega)
 ·intro x hk h0 hx hp;rw [List.length_append, List.length_singleton] at hx;omega
theorem Dw (Q : QQ) (c : uo) (x : dP) : x ∈ (Et Q c).es ↔ x ∈ Q.es ∨ x = ⟨c, Q.nx, Q.ck⟩ := by
 show x ∈ Hg _ _ _ ↔ _;rw [Ex _ _ _ (by simp) x, List.mem_append, List.mem_singleton]
structure okV (v : dK) : Prop where
 a : 0 ≤ v.f0
 b : v.f0 ≤ 1099511627776
 c : 0 ≤ v.f1
 d : v.f1 ≤ 1099511627776
 e : v.f0 = 1099511627776 → v.f1 = 0
theorem JB : okV sK := ⟨by decide, by decide, by decide, by decide, fun _ => rfl⟩
theorem okV.le_inf {v : dK} (h : okV v) : oV v sK := by
 obtain ⟨a, b, c, d, e⟩ := h;show v.f0 < 1099511627776 ∨ v.f0 = 1099511627776 ∧ v.f1 ≤ 0;omega
theorem okV.aau {v : dK} (h : okV v) (hi : 1099511627776 ≤ v.f0) : v = sK := by
 obtain ⟨a, b, c, d, e⟩ := h;obtain ⟨v0, v1⟩ := v;have e0 : v0 = 1099511627776 := by simp only at b hi; omega
 have e1 := e e0;simp only at e1;rw [e0, e1]
def Mg (l : List dK) : Int := (l.map dK.f0).sum
def UY (l : List dK) : Int := (l.map dK.f1).sum
theorem uN (v : dK) (l : List dK) : Mg (v :: l) = v.f0 + Mg l := by simp [Mg]
theorem uO (v : dK) (l : List dK) : UY (v :: l) = v.f1 + UY l := by simp [UY]
theorem zM : ∀ l : List dK, (∀ v, v ∈ l → okV v) → 0 ≤ Mg l ∧ 0 ≤ UY l
 | [], _ => ⟨Int.le_refl _, Int.le_refl _⟩
 | v :: l, h => by
  have hv := h v (List.mem_cons_self ..);have ih := zM l (fun x hx => h x (List.mem_cons_of_mem _ hx));have h1 := hv.a;have h2 := hv.c;rw [uN, uO];omega
theorem Gh (a b : Int) : mn a b = min a b := by
 unfold mn;split <;> omega
theorem TI : ∀ (l : List dK) (a : dK), (0 ≤ a.f0 ∧ a.f0 ≤ 1099511627776) → (0 ≤ a.f1 ∧ a.f1 ≤ 1099511627776) → (∀ v, v ∈ l → okV v) → l.foldl xG a = ⟨min (a.f0 + Mg l) 1099511627776, min (a.f1 + UY l) 1099511627776⟩
 | [], a, h0, h1, _ => by
  obtain ⟨a0, a1⟩ := a;simp only at h0 h1;have e0 : min (a0 + 0) 1099511627776 = a0 := by omega
  have e1 : min (a1 + 0) 1099511627776 = a1 := by omega
  show dK.mk a0 a1 = ⟨min (a0 + 0) _, min (a1 + 0) _⟩;rw [e0, e1]
 | v :: l, a, h0, h1, h => by
  have hv := h v (List.mem_cons_self ..);have hl := zM l (fun x hx => h x (List.mem_cons_of_mem _ hx));obtain ⟨va, vb, vc, vd, ve⟩ := hv;have w0 : wrap64 (a.f0 + v.f0) = a.f0 + v.f0 := by unfold wrap64; omega
  have w1 : wrap64 (a.f1 + v.f1) = a.f1 + v.f1 := by unfold wrap64; omega
  rw [List.foldl_cons, TI l _ ?_ ?_ (fun x hx => h x (List.mem_cons_of_mem _ hx)), uN, uO]
  ·simp only [xG, Gh, w0, w1];congr 1 <;> omega
  ·simp only [xG, Gh, w0];omega
  ·simp only [xG, Gh, w1];omega
theorem si (c : Int) (l : List dK) (hc : 0 ≤ c) (h : ∀ v, v ∈ l → okV v) : aqp c l = if 1099511627776 ≤ c + Mg l then sK else ⟨c + Mg l, min (1 + UY l) 1099511627776⟩ := by
 have hp := zM l h;unfold aqp;rw [TI l _ ?_ ?_ h]
 ·simp only [Gh, TB];split
  ·rename_i h1
   rw [if_pos (by omega)]
  ·rename_i h1
   rw [if_neg (by omega)];congr 1
   omega
 ·simp only [Gh]; omega
 ·simp only; omega
theorem Gi (c : Int) (l : List dK) (hc : 0 ≤ c) (h : ∀ v, v ∈ l → okV v) : okV (aqp c l) := by
 have hp := zM l h;rw [si c l hc h];split
 ·exact JB
 ·constructor <;> simp only <;> omega
theorem Pd : ∀ (l l' : List dK), l.length = l'.length → (∀ j, j < l.length → oV (l.getD j z34) (l'.getD j z34)) → Mg l ≤ Mg l' ∧ (Mg l = Mg l' → UY l ≤ UY l')
 | [], [], _, _ => ⟨Int.le_refl _, fun _ => Int.le_refl _⟩
 | v :: l, v' :: l', hl, h => by
  have h0 : oV v v' := h 0 (by simp);have ih := Pd l l' (by simpa using hl) (fun j hj => h (j + 1) (by simpa using hj));unfold oV at h0;rw [uN, uN, uO, uO];omega
 | [], _ :: _, hl, _ => by simp at hl
 | _ :: _, [], hl, _ => by simp at hl
theorem zN (c : Int) (l l' : List dK) (hc : 0 ≤ c) (h : ∀ v, v ∈ l → okV v) (h' : ∀ v, v ∈ l' → okV v) (hl : l.length = l'.length) (hle : ∀ j, j < l.length → oV (l.getD j z34) (l'.getD j z34)) : oV (aqp c l) (aqp c l') := by
 have hm := Pd l l' hl hle;rw [si c l hc h, si c l' hc h'];split <;> split
 ·exact oV.refl _
 ·exfalso; omega
 ·refine Or.inl ?_;show c + Mg l < 1099511627776;omega
 ·unfold oV; simp only; omega
theorem Fa : ∀ (l : List dK) (j : Nat), j < l.length → (∀ v, v ∈ l → okV v) → (l.getD j z34).f0 ≤ Mg l ∧ (l.getD j z34).f1 ≤ UY l
 | v :: l, 0, _, h => by
  have hp := zM l (fun x hx => h x (List.mem_cons_of_mem _ hx));rw [uN, uO, List.getD_cons_zero];omega
 | v :: l, j + 1, hj, h => by
  have ih := Fa l j (by simpa using hj) (fun x hx => h x (List.mem_cons_of_mem _ hx));have hv := h v (List.mem_cons_self ..);have h1 := hv.a;have h2 := hv.c;rw [uN, uO, List.getD_cons_succ];omega
 | [], j, hj, _ => by simp at hj
theorem ib {α : Type} (l : List α) (j : Nat) (z : α) (h : j < l.length) : l.getD j z ∈ l := by
 rw [List.getD_eq_getElem?_getD, List.getElem?_eq_getElem h];exact List.getElem_mem _
theorem Ey (c : Int) (l : List dK) (hc : 0 ≤ c) (h : ∀ v, v ∈ l → okV v) (j : Nat) (hj : j < l.length) : oV (l.getD j z34) (aqp c l) := by
 have hs := Fa l j hj h;have hv := h _ (ib l j z34 hj);rw [si c l hc h];split
 ·exact hv.le_inf
 ·obtain ⟨a, b, c', d, e⟩ := hv;unfold oV;simp only;omega
theorem IC (c : Int) (l : List dK) (hc : 0 ≤ c) (h : ∀ v, v ∈ l → okV v) (j : Nat) (hj : j < l.length) (hi : l.getD j z34 = sK) : aqp c l = sK := by
 have hs := Fa l j hj h;rw [hi] at hs;have h0 := hs.1;simp only at h0;rw [si c l hc h, if_pos (by omega)]
def zO (es : List dO) : Prop := ∀ e, e ∈ es → 0 ≤ e.f2 ∧ e.f2 ≤ 1099511627776
theorem nM {es : List dO} (h : zO es) (k : Nat) (h1 : k < es.length) : 0 ≤ (aj es (k : Int)).f2 ∧ (aj es (k : Int)).f2 ≤ 1099511627776 := by
 refine h _ ?_;simp only [aj, Int.toNat_natCast];exact ib _ _ _ h1
inductive JC (es : List dO) : Int → dK → Prop
 | mk (k : Nat) (hk : k < es.length) (vs : List dK) (hl : vs.length = (aj es (k : Int)).f1.length) (h : ∀ j, j < vs.length → JC es ((aj es (k : Int)).f1.getD j 0) (vs.getD j z34)) : JC es (aj es (k : Int)).f0 (aqp (aj es (k : Int)).f2 vs)
theorem lN {α : Type} {P : α → Prop} (l : List α) (z : α) (h : ∀ j, j < l.length → P (l.getD j z)) : ∀ v, v ∈ l → P v := by
 intro v hv;obtain ⟨j, hj, e⟩ := List.mem_iff_getElem.1 hv;have := h j hj;rw [List.getD_eq_getElem?_getD, List.getElem?_eq_getElem hj, Option.getD_some, e] at this;exact this
theorem JC.ok {es : List dO} (hc : zO es) {t : Int} {v : dK} (h : JC es t v) : okV v := by
 induction h with
 | mk k hk vs hl _ ih => exact Gi _ _ (nM hc k hk).1 (lN vs z34 ih)
structure Pe (n : Nat) (es : List dO) (vs : List dK) : Prop where
 len : vs.length = n
 ok : ∀ v, v ∈ vs → okV v
 fix : ∀ k : Nat, k < es.length → oV (bJ vs (aj es (k : Int)).f0) (kV vs (aj es (k : Int)))
 att : ∀ t : Nat, t < n → bJ vs (t : Int) = sK ∨ JC es (t : Int) (bJ vs (t : Int))
theorem AA (vs : List dK) (t : Int) (h0 : 0 ≤ t) (h1 : t < (vs.length : Int)) : bJ vs t ∈ vs := by
 unfold bJ;exact ib _ _ _ (by omega)
theorem kM (vs : List dK) (l : List Int) (j : Nat) (h : j < l.length) : (tailV vs l).getD j z34 = bJ vs (l.getD j 0) := by
 simp [tailV, List.getD_eq_getElem?_getD, List.getElem?_eq_getElem h]
theorem eY (vs : List dK) (l : List Int) : (tailV vs l).length = l.length := by simp [tailV]
theorem nN {vs : List dK} {l : List Int} (h : ∀ v, v ∈ vs → okV v) (hl : ∀ t, t ∈ l → 0 ≤ t ∧ t < (vs.length : Int)) : ∀ v, v ∈ tailV vs l → okV v := by
 intro v hv;obtain ⟨t, ht, rfl⟩ := List.mem_map.1 hv;exact h _ (AA vs t (hl t ht).1 (hl t ht).2)
theorem Pe.lower {n : Nat} {es : List dO} {vs : List dK} (h : Pe n es vs) (hc : zO es) (he : zt n es) {t : Int} {v : dK} (hd : JC es t v) : oV (bJ vs t) v := by
 induction hd with
 | mk k hk ws hl hw ih =>
  refine (h.fix k hk).trans ?_;have zC := jb he (k : Int) (by omega) (by omega);refine zN _ _ _ (nM hc k hk).1 (nN h.ok (fun t ht => by rw [h.len]; exact zC.2.1 t ht)) (lN ws z34 (fun j hj => (hw j hj).ok hc)) (by rw [eY, hl]) (fun j hj => ?_);rw [eY] at hj;rw [kM _ _ _ hj];exact ih j (by omega)
theorem Pe.le {n : Nat} {es : List dO} {vs ws : List dK} (h : Pe n es vs) (h' : Pe n es ws) (hc : zO es) (he : zt n es) (t : Nat) (ht : t < n) : oV (bJ vs (t : Int)) (bJ ws (t : Int)) := by
 rcases h'.att t ht with h1 | h1
 ·rw [h1];exact (h.ok _ (AA vs t (by omega) (by rw [h.len]; omega))).le_inf
 ·exact h.lower hc he h1
theorem Pe.uniq {n : Nat} {es : List dO} {vs ws : List dK} (h : Pe n es vs) (h' : Pe n es ws) (hc : zO es) (he : zt n es) : vs = ws := by
 refine List.ext_getElem (by rw [h.len, h'.len]) (fun i h1 h2 => ?_);have hi : i < n := by rw [← h.len]; exact h1
 have h3 := (h.le h' hc he i hi).antisymm (h'.le h hc he i hi);simp only [bJ, Int.toNat_natCast, List.getD_eq_getElem?_getD, List.getElem?_eq_getElem h1, List.getElem?_eq_getElem h2, Option.getD_some] at h3;exact h3
theorem uP (vs : List dK) (t : Nat) (ht : t < vs.length) (v : dK) (i : Int) (h0 : 0 ≤ i) : bJ (vs.set t v) i = if i = (t : Int) then v else bJ vs i := by
 unfold bJ;rw [jl];by_cases h : i = (t : Int)
 ·rw [if_pos h, if_pos ⟨by omega, ht⟩]
 ·rw [if_neg h, if_neg (fun h2 => h (by omega))]
def vW (st : List Bool) (l : List Int) : Nat := l.countP (fun t => !st.getD t.toNat false)
theorem Ld (st : List Bool) (t : Nat) (ht : t < st.length) (hb : st.getD t false = false) : ∀ l : List Int, (∀ x, x ∈ l → 0 ≤ x) → vW st l = vW (st.set t true) l + l.count (t : Int)
 | [], _ => rfl
 | x :: l, h => by
  have ih := Ld st t ht hb l (fun y hy => h y (List.mem_cons_of_mem _ hy));have hx := h x (List.mem_cons_self ..);unfold vW at ih ⊢;rw [List.countP_cons, List.countP_cons, List.count_cons, jl, ih];by_cases hxt : x = (t : Int)
  ·subst hxt;simp only [Int.toNat_natCast, hb, ht, and_self, if_true, beq_self_eq_true, Bool.not_false, Bool.not_true];simp
   omega
  ·have h2 : ¬ (x.toNat = t ∧ t < st.length) := fun h3 => hxt (by omega)
   have h3 : (x == (t : Int)) = false := by rw [beq_eq_false_iff_ne]; exact hxt
   rw [if_neg h2, h3];simp
   omega
theorem IE {st : List Bool} {l : List Int} (h : vW st l = 0) : ∀ t, t ∈ l → st.getD t.toNat false = true := by
 intro t ht;have := (List.countP_eq_zero.1 h) t ht;simpa using this
theorem TJ {st : List Bool} {l : List Int} (h : vW st l ≠ 0) : ∃ j, j < l.length ∧ st.getD (l.getD j 0).toNat false = false := by
 have := List.countP_pos_iff.1 (Nat.pos_of_ne_zero h);obtain ⟨t, ht, hb⟩ := this;obtain ⟨j, hj, e⟩ := List.mem_iff_getElem.1 ht;refine ⟨j, hj, ?_⟩;rw [List.getD_eq_getElem?_getD (l := l), List.getElem?_eq_getElem hj, Option.getD_some, e];simpa using hb
theorem afR (st : List Bool) (l : List Int) : vW st l ≤ l.length := List.countP_le_length
section
variable (n : Nat) (es : List dO)
def JD (vs : List dK) (st : List Bool) (Q : QQ) (k : Nat) : Prop :=
 kV vs (aj es (k : Int)) = sK ∨ (st.getD (aj es (k : Int)).f0.toNat false = true ∧ oV (bJ vs (aj es (k : Int)).f0) (kV vs (aj es (k : Int)))) ∨ ∃ x, x ∈ Q.es ∧ x.f0.f0 = (aj es (k : Int)).f0 ∧ x.f0.f1 = kV vs (aj es (k : Int))
structure Core (vs : List dK) (st : List Bool) (Q : QQ) (top : dK) : Prop where
 vl : vs.length = n
 sl : st.length = n
 uns : ∀ t : Nat, t < n → st.getD t false = false → bJ vs (t : Int) = sK
 set : ∀ t : Nat, t < n → st.getD t false = true → JC es (t : Int) (bJ vs (t : Int)) ∧ (bJ vs (t : Int)).f0 < 1099511627776 ∧ oV (bJ vs (t : Int)) top
 ent : ∀ x, x ∈ Q.es → (0 ≤ x.f0.f0 ∧ x.f0.f0 < (n : Int)) ∧ oV top x.f0.f1 ∧ x.f0.f1.f0 < 1099511627776 ∧ JC es x.f0.f0 x.f0.f1
 heap : Heap Q.es
structure TK (st : List Bool) (op : List Int) (l : List Int) : Prop where
 ol : op.length = es.length
 op : ∀ k : Nat, k < es.length → op.getD k 0 = ((vW st (aj es (k : Int)).f1 + l.count (k : Int) : Nat) : Int)
 bd : ∀ k : Nat, k < es.length → vW st (aj es (k : Int)).f1 + l.count (k : Int) ≤ 1000000
end
section
variable {n : Nat} {es : List dO}
theorem Core.aaw {vs : List dK} {st : List Bool} {Q : QQ} {top : dK} (h : Core n es vs st Q top) (hc : zO es) : ∀ v, v ∈ vs → okV v := by
 refine lN vs z34 (fun j hj => ?_);have hj' : j < n := by rw [← h.vl]; exact hj
 have e : vs.getD j z34 = bJ vs (j : Int) := rfl;rw [e]
 cases hb : st.getD j false with
 | false => rw [h.uns j hj' hb]; exact JB
 | true => exact (h.set j hj' hb).1.ok hc
theorem Core.val {vs : List dK} {st : List Bool} {Q : QQ} {top : dK} (h : Core n es vs st Q top) (hc : zO es) (he : zt n es) (k : Nat) (hk : k < es.length) : okV (kV vs (aj es (k : Int))) := by
 have zC := jb he (k : Int) (by omega) (by omega);exact Gi _ _ (nM hc k hk).1 (nN (h.aaw hc) (fun t ht => by rw [h.vl]; exact zC.2.1 t ht))
theorem Core.offer {vs : List dK} {st : List Bool} {Q : QQ} {top : dK} (h : Core n es vs st Q top) (hc : zO es) (he : zt n es) (k : Nat) (hk : k < es.length) (hs : ∀ t, t ∈ (aj es (k : Int)).f1 → st.getD t.toNat false = true) (ht : oV top (kV vs (aj es (k : Int)))) :
  Core n es vs st (aMT es vs st Q (k : Int)) top ∧ JD es vs st (aMT es vs st Q (k : Int)) k ∧ ∀ j, JD es vs st Q j → JD es vs st (aMT es vs st Q (k : Int)) j := by
 have zC := jb he (k : Int) (by omega) (by omega);have hv := h.val hc he k hk;have Q8 : JC es (aj es (k : Int)).f0 (kV vs (aj es (k : Int))) := by
  refine JC.mk k hk _ (eY _ _) (fun j hj => ?_);rw [eY] at hj;rw [kM _ _ _ hj];have hm := ib (aj es (k : Int)).f1 j 0 hj;have h1 := zC.2.1 _ hm;have h2 := hs _ hm;have h3 := (h.set ((aj es (k : Int)).f1.getD j 0).toNat (by omega) h2).1;rw [Int.toNat_of_nonneg h1.1] at h3;exact h3
 unfold aMT;split
 ·rename_i hif
  refine ⟨⟨h.vl, h.sl, h.uns, h.set, fun x hx => ?_, M3 h.heap _⟩, Or.inr (Or.inr ⟨_, (Dw Q _ _).2 (Or.inr rfl), rfl, rfl⟩), fun j hj => ?_⟩
  ·rcases (Dw Q _ _).1 hx with h1 | h1
   ·exact h.ent x h1
   ·subst h1;exact ⟨zC.1, ht, hif.1, Q8⟩
  ·rcases hj with h1 | h1 | ⟨x, hx, h2⟩
   ·exact Or.inl h1
   ·exact Or.inr (Or.inl h1)
   ·exact Or.inr (Or.inr ⟨x, (Dw Q _ _).2 (Or.inl hx), h2⟩)
 ·rename_i hif
  refine ⟨h, ?_, fun j hj => hj⟩;by_cases hlt : (kV vs (aj es (k : Int))).f0 < 1099511627776
  ·have hst : st.getD (aj es (k : Int)).f0.toNat false = true := by
    rcases Bool.eq_false_or_eq_true (st.getD (aj es (k : Int)).f0.toNat false) with h1 | h1
    ·exact h1
    ·exact absurd ⟨hlt, h1⟩ hif
   have h3 := (h.set (aj es (k : Int)).f0.toNat (by omega) hst).2.2;rw [Int.toNat_of_nonneg zC.1.1] at h3;exact Or.inr (Or.inl ⟨hst, h3.trans ht⟩)
  ·exact Or.inl (hv.aau (by omega))
theorem yo {vs : List dK} {st : List Bool} {top : dK} (hc : zO es) (he : zt n es) : ∀ (l : List Int) (op : List Int) (Q : QQ), (∀ k, k ∈ l → (0 ≤ k ∧ k < (es.length : Int)) ∧ oV top (kV vs (aj es k))) → Core n es vs st Q top → TK es st op l → (∀ k : Nat, k < es.length → op.getD k 0 = 0 → JD es vs st Q k) →
  Core n es vs st (jV es vs st l (op, Q)).2 top ∧ TK es st (jV es vs st l (op, Q)).1 [] ∧ ∀ k : Nat, k < es.length → (jV es vs st l (op, Q)).1.getD k 0 = 0 → JD es vs st (jV es vs st l (op, Q)).2 k
 | [], op, Q, _, h, hp, ho => ⟨h, hp, ho⟩
 | k :: l, op, Q, hl, h, hp, ho => by
  obtain ⟨⟨hk0, hk1⟩, hkt⟩ := hl k (List.mem_cons_self ..);obtain ⟨kn, rfl⟩ : ∃ kn : Nat, k = (kn : Int) := ⟨k.toNat, by omega⟩;have hkn : kn < es.length := by omega
  have hop := hp.op kn hkn;have hbd := hp.bd kn hkn;rw [List.count_cons_self] at hop hbd;have hrd : rd op (kn : Int) = op.getD kn 0 := rfl;have hw : wrap64 (rd op (kn : Int) - 1) = ((vW st (aj es (kn : Int)).f1 + l.count (kn : Int) : Nat) : Int) := by
   rw [hrd, hop];unfold wrap64;omega
  have hstep : jV es vs st ((kn : Int) :: l) (op, Q) = jV es vs st l (jw es vs st (op, Q) (kn : Int)) := rfl;have adg : rd (op.set (kn : Int).toNat (wrap64 (rd op (kn : Int) - 1))) (kn : Int) = ((vW st (aj es (kn : Int)).f1 + l.count (kn : Int) : Nat) : Int) := by
   show (op.set kn _).getD kn 0 = _;rw [jl, if_pos ⟨rfl, by rw [hp.ol]; exact hkn⟩, hw]
  have hp2 : TK es st (op.set (kn : Int).toNat (wrap64 (rd op (kn : Int) - 1))) l := by
   refine ⟨by rw [List.length_set]; exact hp.ol, fun j hj => ?_, fun j hj => ?_⟩
   ·show (op.set kn _).getD j 0 = _;rw [jl];by_cases hjk : j = kn
    ·subst hjk;rw [if_pos ⟨rfl, by rw [hp.ol]; exact hkn⟩, hw]
    ·rw [if_neg (fun h2 => hjk h2.1), hp.op j hj, List.count_cons_of_ne (by omega)]
   ·have := hp.bd j hj;rw [List.count_cons] at this;omega
  have hl2 : ∀ k, k ∈ l → (0 ≤ k ∧ k < (es.length : Int)) ∧ oV top (kV vs (aj es k)) := fun k hk => hl k (List.mem_cons_of_mem _ hk)
  have hoth : ∀ j : Nat, j < es.length → j ≠ kn → (op.set (kn : Int).toNat (wrap64 (rd op (kn : Int) - 1))).getD j 0 = op.getD j 0 := fun j hj hne => by
   show (op.set kn _).getD j 0 = _;rw [jl, if_neg (fun h2 => hne h2.1)]
  rw [hstep];unfold jw;simp only;rw [adg];split
  ·rename_i hz
   have hcz : vW st (aj es (kn : Int)).f1 = 0 := by omega
   obtain ⟨h1, h2, h3⟩ := h.offer hc he kn hkn (IE hcz) hkt;refine yo hc he l _ _ hl2 h1 hp2 (fun j hj hz2 => ?_);by_cases hjk : j = kn
   ·rw [hjk]; exact h2
   ·rw [hoth j hj hjk] at hz2;exact h3 j (ho j hj hz2)
  ·rename_i hz
   refine yo hc he l _ _ hl2 h hp2 (fun j hj hz2 => ?_);by_cases hjk : j = kn
   ·subst hjk;exact absurd (adg.symm.trans hz2) (fun e => hz e)
   ·rw [hoth j hj hjk] at hz2;exact ho j hj hz2
structure Inv (n : Nat) (es : List dO) (m : MS) (top : dK) : Prop where
 core : Core n es m.vs m.st m.Q top
 pend : TK es m.st m.op []
 off : ∀ k : Nat, k < es.length → m.op.getD k 0 = 0 → JD es m.vs m.st m.Q k
theorem Core.least {vs : List dK} {st : List Bool} {Q : QQ} {top : dK} (h : Core n es vs st Q top) {e0 : dP} {r : List dP} (hq : Q.es = e0 :: r) : ∀ x, x ∈ Q.es → oV e0.f0.f1 x.f0.f1 := by
 intro x hx;obtain ⟨k, hk, e⟩ := (Gf _ x).1 hx;have h0 : fV Q.es 0 = e0 := by rw [pQ Q.es 0 (by rw [hq]; simp)]; simp [hq]
 have := VI (h.heap.root k hk);rw [h0, ← e] at this;exact this
theorem Inv.step {us : List (List Int)} {m : MS} {top : dK} (h : Inv n es m top) (hc : zO es) (he : zt n es) (hul : ∀ t k, k ∈ us.getD t [] → 0 ≤ k ∧ k < (es.length : Int)) (MX : ∀ t k : Nat, t < n → k < es.length → (us.getD t []).count (k : Int) = (aj es (k : Int)).f1.count (t : Int))
  {e0 : dP} {r : List dP} (hq : m.Q.es = e0 :: r) : Inv n es (lM es us m e0) e0.f0.f1 := by
 have h0m : e0 ∈ m.Q.es := by rw [hq]; exact List.mem_cons_self ..
 obtain ⟨hn0, htop, hfin, Q8⟩ := h.core.ent e0 h0m;have hle := h.core.least hq;have Q9 : ∀ x, x ∈ r9 m.Q.es → x ∈ m.Q.es := fun x hx => by rw [hq] at hx ⊢; exact KZ e0 r x hx
 have hkeep : ∀ x, x ∈ m.Q.es → x = e0 ∨ x ∈ r9 m.Q.es := fun x hx => by rw [hq] at hx ⊢; exact Q7 e0 r x hx
 obtain ⟨t, ht⟩ : ∃ t : Nat, e0.f0.f0 = (t : Int) := ⟨e0.f0.f0.toNat, by omega⟩;have htn : t < n := by omega
 unfold lM;rw [ht, Int.toNat_natCast];split
 ·rename_i hst
  refine ⟨⟨h.core.vl, h.core.sl, h.core.uns, fun i hi hb => ⟨(h.core.set i hi hb).1, (h.core.set i hi hb).2.1, (h.core.set i hi hb).2.2.trans htop⟩, fun x hx => ⟨(h.core.ent x (Q9 x hx)).1, hle x (Q9 x hx), (h.core.ent x (Q9 x hx)).2.2⟩, IB h.core.heap⟩, h.pend, fun k hk hz => ?_⟩;rcases h.off k hk hz with h1 | h1 | ⟨x, hx, h2, h3⟩
  ·exact Or.inl h1
  ·exact Or.inr (Or.inl h1)
  ·rcases hkeep x hx with rfl | h4
   ·refine Or.inr (Or.inl ⟨?_, ?_⟩)
    ·rw [← h2, ht, Int.toNat_natCast]; exact hst
    ·rw [← h2, ← h3, ht];exact (h.core.set t htn hst).2.2.trans htop
   ·exact Or.inr (Or.inr ⟨x, h4, h2, h3⟩)
 ·rename_i hst
  have hst' : m.st.getD t false = false := by simpa using hst
  have hsl : t < m.st.length := by rw [h.core.sl]; exact htn
  have hvl : t < m.vs.length := by rw [h.core.vl]; exact htn
  have hval : ∀ k : Nat, k < es.length → (∀ x, x ∈ (aj es (k : Int)).f1 → x ≠ (t : Int)) → kV (m.vs.set t e0.f0.f1) (aj es (k : Int)) = kV m.vs (aj es (k : Int)) := fun k hk hx => by
   have zC := jb he (k : Int) (by omega) (by omega);unfold kV tailV;congr 1
   refine List.map_congr_left (fun x hxm => ?_);rw [uP m.vs t hvl _ x (zC.2.1 x hxm).1, if_neg (hx x hxm)]
  have hcore : Core n es (m.vs.set t e0.f0.f1) (m.st.set t true) ⟨r9 m.Q.es, m.Q.nx, m.Q.ck⟩ e0.f0.f1 := by
   refine ⟨by rw [List.length_set]; exact h.core.vl, by rw [List.length_set]; exact h.core.sl, fun i hi hb => ?_, fun i hi hb => ?_, fun x hx => ⟨(h.core.ent x (Q9 x hx)).1, hle x (Q9 x hx), (h.core.ent x (Q9 x hx)).2.2⟩, IB h.core.heap⟩
   ·rw [jl] at hb;rw [uP m.vs t hvl _ _ (by omega)];by_cases hit : i = t
    ·subst hit;rw [if_pos ⟨rfl, hsl⟩] at hb
     cases hb
    ·rw [if_neg (fun h2 => hit h2.1)] at hb;rw [if_neg (by omega)];exact h.core.uns i hi hb
   ·rw [jl] at hb;rw [uP m.vs t hvl _ _ (by omega)];by_cases hit : i = t
    ·subst hit;rw [if_pos rfl, ← ht];exact ⟨Q8, hfin, oV.refl _⟩
    ·rw [if_neg (fun h2 => hit h2.1)] at hb;rw [if_neg (by omega)];exact ⟨(h.core.set i hi hb).1, (h.core.set i hi hb).2.1, (h.core.set i hi hb).2.2.trans htop⟩
  have hset : ∀ k : Nat, k < es.length → vW m.st (aj es (k : Int)).f1 = vW (m.st.set t true) (aj es (k : Int)).f1 + (aj es (k : Int)).f1.count (t : Int) := fun k hk => by
   have zC := jb he (k : Int) (by omega) (by omega);exact Ld m.st t hsl hst' _ (fun x hx => (zC.2.1 x hx).1)
  have adh : TK es (m.st.set t true) m.op (us.getD t []) := by
   refine ⟨h.pend.ol, fun k hk => ?_, fun k hk => ?_⟩
   ·have h1 := h.pend.op k hk;rw [List.count_nil, Nat.add_zero, hset k hk] at h1;rw [MX t k htn hk];exact h1
   ·have h1 := h.pend.bd k hk;rw [List.count_nil, Nat.add_zero, hset k hk] at h1;rw [MX t k htn hk];exact h1
  have hoff : ∀ k : Nat, k < es.length → m.op.getD k 0 = 0 → JD es (m.vs.set t e0.f0.f1) (m.st.set t true) ⟨r9 m.Q.es, m.Q.nx, m.Q.ck⟩ k := fun k hk hz => by
   have zC := jb he (k : Int) (by omega) (by omega);have hcz : vW m.st (aj es (k : Int)).f1 = 0 := by
    have h1 := h.pend.op k hk;rw [List.count_nil, Nat.add_zero, hz] at h1;omega
   have hv := hval k hk (fun x hx hxt => by
    have := IE hcz x hx;rw [hxt, Int.toNat_natCast, hst'] at this
    cases this)
   unfold JD;rw [hv, uP m.vs t hvl _ _ zC.1.1, jl];rcases h.off k hk hz with h1 | ⟨h1, h1'⟩ | ⟨x, hx, h2, h3⟩
   ·exact Or.inl h1
   ·have hne : ¬ (aj es (k : Int)).f0 = (t : Int) := fun e => by rw [e, Int.toNat_natCast, hst'] at h1; cases h1
    refine Or.inr (Or.inl ?_);rw [if_neg (fun h5 => hne (by omega)), if_neg hne];exact ⟨h1, h1'⟩
   ·rcases hkeep x hx with rfl | h4
    ·refine Or.inr (Or.inl ?_);rw [if_pos ⟨by omega, hsl⟩, if_pos (by omega), h3];exact ⟨rfl, oV.refl _⟩
    ·exact Or.inr (Or.inr ⟨x, h4, h2, h3⟩)
  have hl : ∀ k, k ∈ us.getD t [] → (0 ≤ k ∧ k < (es.length : Int)) ∧ oV e0.f0.f1 (kV (m.vs.set t e0.f0.f1) (aj es k)) := fun k hk => by
   have h1 := hul t k hk;refine ⟨h1, ?_⟩;obtain ⟨kn, rfl⟩ : ∃ kn : Nat, k = (kn : Int) := ⟨k.toNat, by omega⟩;have hkn : kn < es.length := by omega
   have zC := jb he (kn : Int) (by omega) (by omega);have hcnt : 0 < (aj es (kn : Int)).f1.count (t : Int) := by rw [← MX t kn htn hkn]; exact List.count_pos_iff.2 hk
   obtain ⟨j, hj, ej⟩ := List.mem_iff_getElem.1 (List.count_pos_iff.1 hcnt);have hs := Ey (aj es (kn : Int)).f2 (tailV (m.vs.set t e0.f0.f1) (aj es (kn : Int)).f1) (nM hc kn hkn).1 (nN (hcore.aaw hc) (fun x hx => by rw [hcore.vl]; exact zC.2.1 x hx)) j (by rw [eY]; exact hj);rw [kM _ _ _ hj, List.getD_eq_getElem?_getD (l := (aj es (kn : Int)).f1), List.getElem?_eq_getElem hj, Option.getD_some, ej, uP m.vs t hvl _ _ (by omega), if_pos rfl] at hs;exact hs
  obtain ⟨r1, r2, r3⟩ := yo hc he (us.getD t []) m.op ⟨r9 m.Q.es, m.Q.nx, m.Q.ck⟩ hl hcore adh hoff;exact ⟨r1, r2, r3⟩
theorem IG {us : List (List Int)} (hc : zO es) (he : zt n es) (MX : ∀ t k : Nat, t < n → k < es.length → (us.getD t []).count (k : Int) = (aj es (k : Int)).f1.count (t : Int)) : ∀ (g : Nat) (m : MS) (top : dK), Inv n es m top → okM n es us m → mu us m < g → ∃ aiA, Inv n es (uM es us g m) aiA ∧ (uM es us g m).Q.es = []
 | 0, m, top, _, _, hg => absurd hg (by omega)
 | g + 1, m, top, h, hm, hg => by
  cases hq : m.Q.es with
  | nil =>
   have e : uM es us (g + 1) m = m := by simp only [uM, hq]
   rw [e];exact ⟨top, h, hq⟩
  | cons e0 r =>
   rw [Ga es us g m e0 r hq];have hs := K9 hm he hq;exact IG hc he MX g _ _ (h.step hc he hm.us MX hq) hs.1 (by omega)
theorem Inv.UZ {m : MS} {top : dK} (h : Inv n es m top) (hc : zO es) (he : zt n es) (hq : m.Q.es = []) : Pe n es m.vs := by
 have hok := h.core.aaw hc;refine ⟨h.core.vl, hok, fun k hk => ?_, fun t ht => ?_⟩
 ·have zC := jb he (k : Int) (by omega) (by omega);have hhd := hok _ (AA m.vs (aj es (k : Int)).f0 zC.1.1 (by rw [h.core.vl]; exact zC.1.2));by_cases hz : vW m.st (aj es (k : Int)).f1 = 0
  ·have h1 := h.pend.op k hk;rw [List.count_nil, Nat.add_zero, hz] at h1;rcases h.off k hk h1 with h2 | h2 | ⟨x, hx, _⟩
   ·rw [h2]; exact hhd.le_inf
   ·exact h2.2
   ·rw [hq] at hx; cases hx
  ·obtain ⟨j, hj, hb⟩ := TJ hz;have hm := zC.2.1 _ (ib _ j 0 hj);have hi := h.core.uns ((aj es (k : Int)).f1.getD j 0).toNat (by omega) hb;rw [Int.toNat_of_nonneg hm.1] at hi;have : kV m.vs (aj es (k : Int)) = sK := IC _ _ (nM hc k hk).1 (nN hok (fun x hx => by rw [h.core.vl]; exact zC.2.1 x hx)) j (by rw [eY]; exact hj) (by rw [kM _ _ _ hj]; exact hi);rw [this];exact hhd.le_inf
 ·cases hb : m.st.getD t false with
  | false => exact Or.inl (h.core.uns t ht hb)
  | true => exact Or.inr (h.core.set t ht hb).1
theorem Ra (us : List (List Int)) (k : Int) (t : Nat) (ht : t < us.length) (x : Int) : ∀ l : List Int, (∀ y, y ∈ l → 0 ≤ y) → ((Hl us k l).getD t []).count x = (us.getD t []).count x + if x = k then l.count (t : Int) else 0 := by
 intro l;induction l generalizing us with
 | nil => intro _; simp [Hl]
 | cons y l ih =>
  intro h;have hy := h y (List.mem_cons_self ..);have e : Hl us k (y :: l) = Hl (us.set y.toNat (us.getD y.toNat [] ++ [k])) k l := rfl;rw [e, ih _ (by rw [List.length_set]; exact ht) (fun z hz => h z (List.mem_cons_of_mem _ hz)), jl, List.count_cons];by_cases hyt : y = (t : Int)
  ·subst hyt;rw [if_pos ⟨by omega, by omega⟩, Int.toNat_natCast, List.count_append, List.count_singleton];by_cases hx : x = k
   ·subst hx;simp
    omega
   ·have : (k == x) = false := by rw [beq_eq_false_iff_ne]; exact fun h => hx h.symm
    rw [this, if_neg hx, if_neg hx];simp
  ·have h2 : (y == (t : Int)) = false := by rw [beq_eq_false_iff_ne]; exact hyt
   rw [if_neg (fun h3 => hyt (by omega)), h2];simp
theorem II (he : zt n es) (t : Nat) (ht : t < n) (k : Nat) : ∀ i, i ≤ es.length → ((yn n es i).getD t []).count (k : Int) = if k < i then (aj es (k : Int)).f1.count (t : Int) else 0
 | 0, _ => by
  simp only [yn, List.getD_eq_getElem?_getD, List.getElem?_replicate];rw [if_pos ht];simp
 | i + 1, hi => by
  have ih := II he t ht k i (by omega);have hei := jb he (i : Int) (by omega) (by omega);have e : yn n es (i + 1) = Hl (yn n es i) (i : Nat) (aj es (i : Nat)).f1 := rfl;rw [e, Ra _ _ t (by rw [zL]; exact ht) _ _ (fun y hy => (hei.2.1 y hy).1), ih];by_cases h1 : k < i
  ·rw [if_pos h1, if_neg (by omega), if_pos (by omega)];rfl
  ·by_cases h2 : k = i
   ·subst h2;rw [if_neg h1, if_pos rfl, if_pos (by omega)];omega
   ·rw [if_neg h1, if_neg (by omega), if_neg (by omega)]
theorem kW {α : Type} (m i : Nat) (a d : α) (h : i < m) : (List.replicate m a).getD i d = a := by
 simp [List.getD_eq_getElem?_getD, List.getElem?_replicate, h]
theorem IJ (hc : zO es) (he : zt n es) : ∀ k, k ≤ es.length → Core n es (List.replicate n sK) (List.replicate n false) (oh es (List.replicate n sK) (List.replicate n false) k) ⟨0, 0⟩ ∧ ∀ j, j < k → (aj es (j : Int)).f1.length = 0 → JD es (List.replicate n sK) (List.replicate n false) (oh es (List.replicate n sK) (List.replicate n false) k) j
 | 0, _ => by
  refine ⟨⟨by simp, by simp, fun t ht _ => kW n t _ _ ht, fun t ht hb => ?_, fun x hx => by simp [oh] at hx, fun i h0 h1 => by simp [oh] at h1⟩, fun j hj => absurd hj (by omega)⟩;rw [kW n t _ _ ht] at hb
  cases hb
 | k + 1, hk => by
  obtain ⟨h1, h2⟩ := IJ hc he k (by omega);rw [vT];split
  ·rename_i hz
   have hv := h1.val hc he k (by omega);obtain ⟨r1, r2, r3⟩ := h1.offer hc he k (by omega) (fun t ht => by rw [List.eq_nil_of_length_eq_zero hz] at ht; cases ht) (by
    have ha := hv.a;have hb := hv.c;unfold oV;simp only;omega)
   refine ⟨r1, fun j hj hz2 => ?_⟩;by_cases hjk : j = k
   ·rw [hjk]; exact r2
   ·exact r3 j (h2 j (by omega) hz2)
  ·rename_i hz
   refine ⟨h1, fun j hj hz2 => ?_⟩;by_cases hjk : j = k
   ·rw [hjk] at hz2; exact absurd hz2 hz
   ·exact h2 j (by omega) hz2
theorem Dx (m : Nat) : ∀ l : List Int, vW (List.replicate m false) l = l.length
 | [] => rfl
 | x :: l => by
  have ih := Dx m l;unfold vW at ih ⊢;rw [List.countP_cons, ih, List.length_cons];have : (List.replicate m false).getD x.toNat false = false := by
   simp only [List.getD_eq_getElem?_getD, List.getElem?_replicate];split <;> rfl
  rw [this];rfl
theorem TL (hc : zO es) (he : zt n es) : Inv n es (m0L n es) ⟨0, 0⟩ := by
 obtain ⟨h1, h2⟩ := IJ hc he es.length (Nat.le_refl _);refine ⟨h1, ⟨by simp [m0L, Iz], fun k hk => ?_, fun k hk => ?_⟩, fun k hk hz => ?_⟩
 ·have := JA es k hk;rw [Int.toNat_natCast] at this;show (Iz es es.length).getD k 0 = _;rw [this];show _ = ((vW (List.replicate n false) _ + _ : Nat) : Int);rw [Dx, List.count_nil];rfl
 ·show vW (List.replicate n false) _ + _ ≤ _;rw [Dx, List.count_nil];exact (jb he (k : Int) (by omega) (by omega)).2.2
 ·have := JA es k hk;rw [Int.toNat_natCast] at this;have hz2 : (Iz es es.length).getD k 0 = 0 := hz;rw [this] at hz2;exact h2 k hk (by omega)
theorem Le (hc : zO es) (he : zt n es) (hT : ∀ e, e ∈ es → e.f1.length ≤ 100) (hl : es.length ≤ 1000) : ∃ top, Inv n es (M0 n es) top ∧ (M0 n es).Q.es = [] :=
 IG hc he (fun t k ht hk => by rw [II he t ht k es.length (Nat.le_refl _), if_pos hk]) 1000000 (m0L n es) ⟨0, 0⟩ (TL hc he) (Lb n es he (m0L n es) rfl) (Pb n es hT hl (m0L n es) rfl)
theorem Gj (hc : zO es) (he : zt n es) (hT : ∀ e, e ∈ es → e.f1.length ≤ 100) (hl : es.length ≤ 1000) : Pe n es (M0 n es).vs := by
 obtain ⟨top, h, hq⟩ := Le hc he hT hl;exact h.UZ hc he hq
end
theorem M4 (n : Nat) (es : List dO) (vs : List dK) (st : List Bool) : ∀ k, (RU n es vs st k).length = n
 | 0 => by simp [RU]
 | k + 1 => by
  have ih := M4 n es vs st k;rw [Gc];unfold Gb;split
  ·rw [List.length_set]; exact ih
  ·exact ih
def aKR (es : List dO) (vs : List dK) (k : Nat) (t : Int) : Prop := (aj es (k : Int)).f0 = t ∧ (bJ vs t).f0 < 1099511627776 ∧ kV vs (aj es (k : Int)) = bJ vs t
structure zP (n : Nat) (es : List dO) (vs : List dK) (m : Nat) (ed : List Int) : Prop where
 len : ed.length = n
 ch : ∀ t : Nat, t < n → (ed.getD t 0 = -1 ∧ ∀ k, k < m → ¬ aKR es vs k (t : Int)) ∨ ∃ k, k < m ∧ ed.getD t 0 = (k : Int) ∧ aKR es vs k (t : Int) ∧ ∀ j, j < k → ¬ aKR es vs j (t : Int)
theorem zP.uniq {n : Nat} {es : List dO} {vs : List dK} {m : Nat} {a b : List Int} (ha : zP n es vs m a) (hb : zP n es vs m b) : a = b := by
 refine List.ext_getElem (by rw [ha.len, hb.len]) (fun i h1 h2 => ?_);have hi : i < n := by rw [← ha.len]; exact h1
 have h3 : a.getD i 0 = b.getD i 0 := by
  rcases ha.ch i hi with ⟨ea, ta⟩ | ⟨k, hk, ea, ta, fa⟩ <;> rcases hb.ch i hi with ⟨eb, tb⟩ | ⟨j, hj, eb, tb, fb⟩
  ·rw [ea, eb]
  ·exact absurd tb (ta j hj)
  ·exact absurd ta (tb k hk)
  ·rw [ea, eb];by_cases h4 : k < j
   ·exact absurd ta (fb k h4)
   ·by_cases h5 : j < k
    ·exact absurd tb (fa j h5)
    ·omega
 simp only [List.getD_eq_getElem?_getD, List.getElem?_eq_getElem h1, List.getElem?_eq_getElem h2, Option.getD_some] at h3;exact h3
theorem Gl {n : Nat} {es : List dO} {vs : List dK} {st : List Bool} (he : zt n es) (hst : ∀ t : Nat, t < n → (st.getD t false = true ↔ (bJ vs (t : Int)).f0 < 1099511627776)) : ∀ m, m ≤ es.length → zP n es vs m (RU n es vs st m)
 | 0, _ => ⟨by simp [RU], fun t ht => Or.inl ⟨kW n t _ _ ht, fun k hk => absurd hk (by omega)⟩⟩
 | m + 1, hm => by
  have ih := Gl he hst m (by omega);have zC := jb he (m : Int) (by omega) (by omega);obtain ⟨hd, hhd⟩ : ∃ hd : Nat, (aj es (m : Int)).f0 = (hd : Int) := ⟨(aj es (m : Int)).f0.toNat, by omega⟩;have hdn : hd < n := by omega
  rw [Gc];unfold Gb;rw [hhd, Int.toNat_natCast];have hneg : ∀ t : Nat, t < n → ((RU n es vs st m).getD t 0 < 0 ↔ ∀ k, k < m → ¬ aKR es vs k (t : Int)) := fun t ht => by
   rcases ih.ch t ht with ⟨e, h⟩ | ⟨k, hk, e, h, _⟩
   ·rw [e]; exact ⟨fun _ => h, fun _ => by decide⟩
   ·rw [e]; exact ⟨fun h2 => absurd h2 (by omega), fun h2 => absurd h (h2 k hk)⟩
  split
  ·rename_i hif
   obtain ⟨i1, i2, i3⟩ := hif;have htm : aKR es vs m (hd : Int) := ⟨hhd, (hst hd hdn).1 i2, (E5 _ _).1 i3⟩;refine ⟨by rw [List.length_set]; exact ih.len, fun t ht => ?_⟩;rw [jl];by_cases hth : t = hd
   ·subst hth;rw [if_pos ⟨rfl, by rw [ih.len]; exact ht⟩];exact Or.inr ⟨m, by omega, rfl, htm, (hneg t ht).1 i1⟩
   ·rw [if_neg (fun h => hth h.1)];rcases ih.ch t ht with ⟨e, h⟩ | ⟨k, hk, e, h⟩
    ·refine Or.inl ⟨e, fun k hk hT => ?_⟩;by_cases hkm : k = m
     ·subst hkm;have := hT.1;omega
     ·exact h k (by omega) hT
    ·exact Or.inr ⟨k, by omega, e, h⟩
  ·rename_i hif
   refine ⟨ih.len, fun t ht => ?_⟩;rcases ih.ch t ht with ⟨e, h⟩ | ⟨k, hk, e, h⟩
   ·refine Or.inl ⟨e, fun k hk hT => ?_⟩;by_cases hkm : k = m
    ·subst hkm;have hth : (t : Int) = (hd : Int) := hT.1.symm.trans hhd;obtain rfl : t = hd := by omega
     exact hif ⟨by rw [e]; decide, (hst t ht).2 hT.2.1, (E5 _ _).2 hT.2.2⟩
    ·exact h k (by omega) hT
   ·exact Or.inr ⟨k, by omega, e, h⟩
theorem Inv.settled {n : Nat} {es : List dO} {m : MS} {top : dK} (h : Inv n es m top) (t : Nat) (ht : t < n) : m.st.getD t false = true ↔ (bJ m.vs (t : Int)).f0 < 1099511627776 := by
 cases hb : m.st.getD t false with
 | false =>
  rw [h.core.uns t ht hb];exact ⟨fun h => (by cases h), fun h => absurd h (by decide)⟩
 | true => exact ⟨fun _ => (h.core.set t ht hb).2.1, fun _ => rfl⟩
theorem Ez {n : Nat} {es : List dO} (hc : zO es) (he : zt n es) (hT : ∀ e, e ∈ es → e.f1.length ≤ 100) (hl : es.length ≤ 1000) : zP n es (jy n es) es.length (xL n es) := by
 obtain ⟨top, h, hq⟩ := Le hc he hT hl;exact Gl he (fun t ht => h.settled t ht) es.length (Nat.le_refl _)
end Go.Proofs.Ytamimodkcbbpmaa.Pr
end
section
namespace Go.Proofs.Ytamimodkcbbpmaa.Pr
open Go.RowKit Go.Proofs.YtamimodkcbbpmaaW.PrintWords Go.Proofs.YtamimodkcbbpmaaW.PrintLast
set_option linter.unusedVariables false
set_option linter.unusedSimpArgs false
def Ev {α : Type} (f : Nat → Option α) (r : α) : Prop := ∃ K, ∀ k, K ≤ k → f k = some r
theorem Ev.const {α : Type} (r : α) : Ev (fun _ => some r) r := ⟨0, fun _ _ => rfl⟩
theorem Ev.succ {α : Type} {f g : Nat → Option α} {r : α} (hg : Ev g r) (h : ∀ k, f (k + 1) = g k) : Ev f r := by
 obtain ⟨K, hK⟩ := hg;refine ⟨K + 1, fun k hk => ?_⟩;obtain ⟨m, rfl⟩ : ∃ m, k = m + 1 := ⟨k - 1, by omega⟩;rw [h m];exact hK m (by omega)
theorem Ev.bind {α β : Type} {a : Nat → Option β} {b : β} {G : Nat → β → Option α} {r : α} (ha : Ev a b) (hG : Ev (fun k => G k b) r) : Ev (fun k => (a k).bind (G k)) r := by
 obtain ⟨K, hK⟩ := ha;obtain ⟨L, hL⟩ := hG;refine ⟨K + L, fun k hk => ?_⟩;show (a k).bind (G k) = some r;rw [hK k (by omega)];exact hL k (by omega)
theorem Ev.P7 {α : Type} {f : Nat → Option α} {r : α} (h : ∀ k, dz (f k) (f (k + 1))) {k : Nat} (hk : f k = some r) : Ev f r := by
 refine ⟨k, fun j hj => ?_⟩;obtain ⟨d, rfl⟩ : ∃ d, j = k + d := ⟨j - k, by omega⟩;clear hj;induction d with
 | zero => exact hk
 | succ d ih => exact h (k + d) r ih
theorem Ev.ex {α : Type} {f : Nat → Option α} {r : α} (h : Ev f r) : ∃ k, f k = some r := by
 obtain ⟨K, hK⟩ := h;exact ⟨K, hK K (Nat.le_refl _)⟩
theorem Ev.mp {α : Type} {f g : Nat → Option α} {r : α} (h : Ev g r) (e : ∀ k, f k = g k) : Ev f r := by
 obtain ⟨K, hK⟩ := h;exact ⟨K, fun k hk => (e k).trans (hK k hk)⟩
theorem Ev.pos {α : Type} {f g : Nat → Option α} {r : α} {c : Prop} [Decidable c] (hc : c) (h : Ev f r) : Ev (fun k => if c then f k else g k) r := h.mp (fun k => if_pos hc)
theorem Ev.neg {α : Type} {f g : Nat → Option α} {r : α} {c : Prop} [Decidable c] (hc : ¬ c) (h : Ev g r) : Ev (fun k => if c then f k else g k) r := h.mp (fun k => if_neg hc)
theorem RY (i : Nat) (h : i < 9223372036854775807) : wrap64 ((i : Int) + 1) = ((i + 1 : Nat) : Int) := by unfold wrap64; omega
theorem LG {α : Type} (z : α) (l m : List α) (hl : l.length = m.length) (h : ∀ j, j < l.length → l.getD j z = m.getD j z) : l = m := by
 refine List.ext_getElem hl (fun i h1 h2 => ?_);have h3 := h i h1;simp only [List.getD_eq_getElem?_getD, List.getElem?_eq_getElem h1, List.getElem?_eq_getElem h2, Option.getD_some] at h3;exact h3
theorem ayo {α : Type} (z : α) (l : List α) (i : Nat) (h : i < l.length) : l.take (i + 1) = l.take i ++ [l.getD i z] := by
 rw [List.take_succ_eq_append_getElem h, List.getD_eq_getElem?_getD, List.getElem?_eq_getElem h];rfl
theorem ayG (l : List KH) (i : Nat) (h : i < l.length) : Dj l (i : Int) ∈ l := by
 simp only [Dj, Int.toNat_natCast];exact ib _ _ _ h
theorem aCu (l : List dO) (i : Nat) (h : i < l.length) : aj l (i : Int) ∈ l := by
 simp only [aj, Int.toNat_natCast];exact ib _ _ _ h
end Go.Proofs.Ytamimodkcbbpmaa.Pr
end
section
namespace Go.Proofs.Ytamimodkcbbpmaa.Pr
open Go.RowKit Go.Proofs.YtamimodkcbbpmaaW.PrintWords Go.Proofs.YtamimodkcbbpmaaW.PrintLast Go.Proofs.YtamimodkcbbpmaaXW Go.Proofs.YtamimodkcbbpmaaXM
set_option linter.unusedVariables false
set_option linter.unusedSimpArgs false
def AB (n v : Int) : Bool := decide (0 ≤ v) && decide (v < n)
def edgeOk (n : Int) (e : dO) : Bool := (AB n e.f0 && (decide (0 ≤ e.f2) && decide (e.f2 ≤ 1099511627776))) && e.f1.all (AB n)
def jJ (n : Int) (es : List dO) : Bool := (decide (1 ≤ n) && decide (n ≤ 1048576)) && es.all (edgeOk n)
def fA.f (n : Int) (es : List dO) : Option Bool := some (jJ n es)
theorem o7 {α : Type} (p : α → Bool) (l : List α) (z : α) (k : Nat) (h : k < l.length) : (l.drop k).all p = (p (l.getD k z) && (l.drop (k + 1)).all p) := by
 rw [List.drop_eq_getElem_cons h, List.all_cons, List.getD_eq_getElem?_getD, List.getElem?_eq_getElem h, Option.getD_some]
set_option maxHeartbeats 2000000 in
theorem uT (v : Int) (b : Nat) (n : Int) (S : Value) (w : World) (hb : w.heap[b]? = some (.cells #[.int .i64 n, S] 24 (0, 0))) :
  Calls Try.prog 101 #[.int .i64 v, .pointer (some ⟨b, 0, none⟩)] w fun e w' => e = .returned (.bool (AB n v)) ∧ Below w.heap.size w w' := by
 have h0 : w.cell? ⟨b, 0, none⟩ = some (.int .i64 n) := by rw [ae hb 0]; rfl
 clear hb;go_enter Try.func101, Try.ntmps101
 have HV : aa (AB n v = (decide (0 ≤ v) && decide (v < n))) := ⟨rfl⟩;by_cases h1 : 0 ≤ v
 ·by_cases h2 : v < n
  ·go_wp2;go_ret;exact ⟨by rw [HV.out, decide_eq_true h1, decide_eq_true h2]; rfl, Below.refl _ _⟩
  ·go_wp2;go_ret;exact ⟨by rw [HV.out, decide_eq_true h1, decide_eq_false (by omega)]; rfl, Below.refl _ _⟩
 ·go_wp2;go_ret;exact ⟨by rw [HV.out, decide_eq_false (by omega)]; rfl, Below.refl _ _⟩
set_option maxRecDepth 100000 in
set_option maxHeartbeats 8000000 in
theorem fA.calls (n : Int) (A : Option Addr) (c : Nat) (es : List dO) (r : Bool) (w : World) (hC : Kd.C sJ w A es.length es) (hc : es.length ≤ c) (h : fA.f n es = some r) :
  Calls Try.prog 78 #[.agg #[.int .i64 n, .slice A es.length c]] w fun e w' => e = .returned (.bool r) ∧ Below w.heap.size w w' := by
 injection h with h
 subst h;have hl0 : es.length ≤ 9223372036854775807 := hC.2.1;have hv : jJ n es = ((decide (1 ≤ n) && decide (n ≤ 1048576)) && es.all (edgeOk n)) := rfl;have HV := aa.mk hv;clear hv;have HC := aa.mk hC;clear hC;go_enter Try.func78, Try.ntmps78
 go_upto_region 1 with (fail)
 have ER := eX w (.cells #[.int .i64 n, .slice A es.length c] 24);have HB := aa.mk ER.1;have hb1 := ER.2;obtain ⟨b1, e1⟩ : ∃ b1, b1 = w.heap.size := ⟨_, rfl⟩;rw [← e1] at hb1 ⊢;have E1 := aa.mk e1;clear ER e1;generalize (w.alloc (.cells #[.int .i64 n, .slice A es.length c] 24)) = wA at *;have s0 : wA.cell? ⟨b1, 0, none⟩ = some (.int .i64 n) := by rw [ae hb1 0]; rfl
 have s1 : wA.cell? ⟨b1, 1, none⟩ = some (.slice A es.length c) := by rw [ae hb1 1]; rfl
 have HB1 := aa.mk hb1;clear hb1;by_cases h1 : n < 1
 ·go_wp2;go_ret;exact ⟨by rw [HV.out, decide_eq_false (by omega)]; rfl, HB.out⟩
 ·by_cases h2 : n > 1048576
  ·go_wp2;go_ret;exact ⟨by rw [HV.out, decide_eq_true (show 1 ≤ n by omega), decide_eq_false (show ¬ n ≤ 1048576 by omega)]; rfl, HB.out⟩
  ·have HV2 : aa (jJ n es = (es.drop 0).all (edgeOk n)) := ⟨by rw [HV.out, decide_eq_true (show 1 ≤ n by omega), decide_eq_true (show n ≤ 1048576 by omega)]; rfl⟩;clear HV;have hmf : ∀ (fn : Fn) (first cap : Array Value) (w : World), (Instr.makeFunc fn first cap).run Try.prog w = .ok (.func fn first cap) w := fun _ _ _ _ => rfl
   obtain ⟨wO, hwO⟩ : ∃ wO : World, wO = wA := ⟨_, rfl⟩;go_wp2_with fail
   go_loopg [20] (es.length + 1) (fun g v20 wr => ∃ k : Nat, v20 = .int .i64 k ∧ aa (k ≤ es.length) ∧ aa (es.length - k < g) ∧ aa (jJ n es = (es.drop k).all (edgeOk n)) ∧ aa (Below w.heap.size w wr) ∧ aa (wr.heap[b1]? = some (.cells #[.int .i64 n, .slice A es.length c] 24 (0, 0))))
   case atStart => exact ⟨0, by go_num, ⟨by omega⟩, ⟨by omega⟩, HV2, HB, HB1⟩
   case round =>
    obtain ⟨k, rfl, hk, hg, HV, HB, HB1⟩ := hrel;clear HV2 s0 s1;by_cases hkn : k < es.length
    ·obtain ⟨ad, A1, c1, hA, d0, d1, d2, d3, d4, hc1, Da⟩ := kK HC.out (k : Int) (by omega) (by omega);subst hA;replace d0 := ah HB.out d0; replace d1 := ah HB.out d1; replace d2 := ah HB.out d2; replace d3 := ah HB.out d3; replace d4 := ah HB.out d4;have hstep := o7 (edgeOk n) es (aj es (k : Int)) k hkn;have hge : es.getD k (aj es (k : Int)) = aj es (k : Int) := by
      simp only [aj, Int.toNat_natCast, List.getD_eq_getElem?_getD, List.getElem?_eq_getElem hkn, Option.getD_some]
     rw [hge] at hstep;have hlen : (aj es (k : Int)).f1.length ≤ 9223372036854775807 := Da.2.1;obtain ⟨e, zQ⟩ : ∃ e, aj es (k : Int) = e := ⟨_, rfl⟩;rw [zQ] at d0 d1 d2 d3 d4 hc1 Da hstep hlen;simp only [Int.toNat_natCast] at d0 d1 d2 d3 d4;have HST := aa.mk (HV.out.trans hstep);have EY := aa.mk Da;clear zQ hge hstep Da HV;go_upto_region 7 with (fail)
     have EB := eX wr (.cells #[.int .i64 e.f0, .slice A1 e.f1.length c1, .int .i64 e.f2, .int .i64 e.f3.f0, .int .i64 e.f3.f1] 54);have M6 := aa.mk (aM HB.out EB.1);have Rb := aa.mk (aC HB1.out EB.1);have H8 := aa.mk EB.2;obtain ⟨b8, Yq⟩ : ∃ b8, b8 = wr.heap.size := ⟨_, rfl⟩;rw [← Yq] at H8 ⊢;clear Yq EB HB HB1 d0 d1 d2 d3 d4;generalize (wr.alloc (.cells #[.int .i64 e.f0, .slice A1 e.f1.length c1, .int .i64 e.f2, .int .i64 e.f3.f0, .int .i64 e.f3.f1] 54)) = wB at *;have h80 : wB.cell? ⟨b8, 0, none⟩ = some (.int .i64 e.f0) := (by rw [ae H8.out 0]; rfl);have HE : aa (edgeOk n e = ((AB n e.f0 && (decide (0 ≤ e.f2) && decide (e.f2 ≤ 1099511627776))) && e.f1.all (AB n))) := ⟨rfl⟩;obtain ⟨bi, hbi⟩ : ∃ bi, AB n e.f0 = bi := ⟨_, rfl⟩;rw [hbi] at HE;have HBI := aa.mk hbi;clear hbi
     cases bi with
     | false =>
      go_wp2_with (first | (go_at_call 101; refine (uT e.f0 b1 n (.slice (some ad) es.length c) wB Rb.out).mono ?_; rintro x w5 ⟨rfl, Db⟩; rw [HBI.out]; have VR : w5.cell? ⟨b8, 2, none⟩ = some (.int .i64 e.f2) := (by rw [ae (aC H8.out Db) 2]; rfl); have VS : w5.cell? ⟨b8, 1, none⟩ = some (.slice A1 e.f1.length c1) := (by rw [ae (aC H8.out Db) 1]; rfl); have vY := aa.mk Db; clear Db))
      go_ret;exact ⟨by rw [HST.out, HE.out]; rfl, aM M6.out vY.out⟩
     | true =>
      by_cases hc0 : e.f2 < 0
      ·go_wp2_with (first | (go_at_call 101; refine (uT e.f0 b1 n (.slice (some ad) es.length c) wB Rb.out).mono ?_; rintro x w5 ⟨rfl, Db⟩; rw [HBI.out]; have VR : w5.cell? ⟨b8, 2, none⟩ = some (.int .i64 e.f2) := (by rw [ae (aC H8.out Db) 2]; rfl); have VS : w5.cell? ⟨b8, 1, none⟩ = some (.slice A1 e.f1.length c1) := (by rw [ae (aC H8.out Db) 1]; rfl); have vY := aa.mk Db; clear Db))
       go_ret;exact ⟨by rw [HST.out, HE.out, decide_eq_false (show ¬ 0 ≤ e.f2 by omega)]; rfl, aM M6.out vY.out⟩
      ·by_cases Yr : e.f2 > 1099511627776
       ·go_wp2_with (first | (go_at_call 101; refine (uT e.f0 b1 n (.slice (some ad) es.length c) wB Rb.out).mono ?_; rintro x w5 ⟨rfl, Db⟩; rw [HBI.out]; have VR : w5.cell? ⟨b8, 2, none⟩ = some (.int .i64 e.f2) := (by rw [ae (aC H8.out Db) 2]; rfl); have VS : w5.cell? ⟨b8, 1, none⟩ = some (.slice A1 e.f1.length c1) := (by rw [ae (aC H8.out Db) 1]; rfl); have vY := aa.mk Db; clear Db))
        go_ret;exact ⟨by rw [HST.out, HE.out, decide_eq_true (show 0 ≤ e.f2 by omega), decide_eq_false (show ¬ e.f2 ≤ 1099511627776 by omega)]; rfl, aM M6.out vY.out⟩
       ·have HE2 : aa (edgeOk n e = (e.f1.drop 0).all (AB n)) := ⟨by rw [HE.out, decide_eq_true (show 0 ≤ e.f2 by omega), decide_eq_true (show e.f2 ≤ 1099511627776 by omega)]; rfl⟩;obtain ⟨wP, Tx⟩ : ∃ wP : World, wP = wr := ⟨_, rfl⟩;obtain ⟨gP, hgP⟩ : ∃ gP : Nat, gP = gk := ⟨_, rfl⟩;go_wp2_with (first | (go_at_call 101; refine (uT e.f0 b1 n (.slice (some ad) es.length c) wB Rb.out).mono ?_; rintro x w5 ⟨rfl, Db⟩; rw [HBI.out]; have VR : w5.cell? ⟨b8, 2, none⟩ = some (.int .i64 e.f2) := (by rw [ae (aC H8.out Db) 2]; rfl); have VS : w5.cell? ⟨b8, 1, none⟩ = some (.slice A1 e.f1.length c1) := (by rw [ae (aC H8.out Db) 1]; rfl); have vY := aa.mk Db; clear Db))
        have Gp := aa.mk (aM M6.out vY.out);have adn := aa.mk (aC Rb.out vY.out);have VT := aa.mk (Kd.bF EY.out Gp.out);clear h80 VR VS vY M6 Rb H8;go_loopg [42] (e.f1.length + 1) (fun g v42 wr => ∃ j : Nat, v42 = .int .i64 j ∧ aa (j ≤ e.f1.length) ∧ aa (e.f1.length - j < g) ∧ aa (edgeOk n e = (e.f1.drop j).all (AB n)) ∧ aa (Below w.heap.size w wr) ∧ aa (wr.heap[b1]? = some (.cells #[.int .i64 n, .slice (some ad) es.length c] 24 (0, 0))))
        case atStart => exact ⟨0, by go_num, ⟨by omega⟩, ⟨by omega⟩, HE2, Gp, adn⟩
        case round =>
         obtain ⟨j, rfl, hj, hgj, HEJ, HBJ, VU⟩ := hrel;clear HE2 Gp adn VT;by_cases hjn : j < e.f1.length
         ·obtain ⟨ad2, hA2, t0⟩ := Jv EY.out j hjn;subst hA2;replace t0 := ah HBJ.out t0;have hst := o7 (AB n) e.f1 0 j hjn;obtain ⟨t, ht⟩ : ∃ t, e.f1.getD j 0 = t := ⟨_, rfl⟩;rw [ht] at t0 hst;obtain ⟨bt, hbt⟩ : ∃ bt, AB n t = bt := ⟨_, rfl⟩;rw [hbt] at hst;have HBT := aa.mk hbt;have HSJ := aa.mk (HEJ.out.trans hst);clear ht hst hbt
          cases bt with
          | false =>
           go_wp2_with (first | (go_at_call 101; refine (uT t b1 n (.slice (some ad) es.length c) wr VU.out).mono ?_; rintro x w5 ⟨rfl, Db⟩; rw [HBT.out]; have vY := aa.mk Db; clear Db))
           go_ret;exact ⟨by rw [HST.out, HSJ.out]; rfl, aM HBJ.out vY.out⟩
          | true =>
           go_wp2_with (first | (go_at_call 101; refine (uT t b1 n (.slice (some ad) es.length c) wr VU.out).mono ?_; rintro x w5 ⟨rfl, Db⟩; rw [HBT.out]; have vY := aa.mk Db; clear Db))
           go_roundg (e.f1.length - j)
           case measure => have := hgj.out; omega
           case rel => exact ⟨j + 1, by go_num, ⟨by omega⟩, ⟨by omega⟩, ⟨by rw [HSJ.out]; rfl⟩, ⟨aM HBJ.out vY.out⟩, ⟨aC VU.out vY.out⟩⟩
         ·obtain rfl : j = e.f1.length := by have := hj.out; omega
          have hjj : ¬ ((e.f1.length : Int) < (e.f1.length : Int)) := by omega
          have HVK : aa (jJ n es = (es.drop (k + 1)).all (edgeOk n)) := ⟨by rw [HST.out, HEJ.out, List.drop_length]; rfl⟩;go_wp2_with fail
          go_roundg (es.length - k)
          case measure => have := hg.out; omega
          case rel => exact ⟨k + 1, by go_num, ⟨by omega⟩, ⟨by omega⟩, HVK, HBJ, VU⟩
    ·obtain rfl : k = es.length := by have := hk.out; omega
     have hkk : ¬ ((es.length : Int) < (es.length : Int)) := by omega
     go_wp2_with fail
     go_ret;exact ⟨by rw [HV.out, List.drop_length]; rfl, HB.out⟩
def kindOk (T N : Int) (r : KH) : Bool :=
 if r.f0 = 1 then decide (r.f2 = 0) && decide (r.f3 = 0) else if r.f0 = 2 then (decide (0 ≤ r.f2) && decide (r.f2 < T)) && decide (r.f3 = 0) else if r.f0 = 3 then AB N r.f2 && decide (r.f3 = 0) else if r.f0 = 4 then AB N r.f2 && AB N r.f3 else false
def aqa (T N : Int) (r : KH) : Bool := (AB N r.f1 && ((decide (0 ≤ r.f4) && decide (r.f4 ≤ 1000)) && decide (-1 ≤ r.f5))) && kindOk T N r
def arD (T N S : Int) (rs : List KH) : Bool := ((((decide (0 ≤ T) && decide (T ≤ 120)) && (decide (1 ≤ N) && decide (N ≤ 1000))) && (decide (0 ≤ S) && decide (S < N))) && decide (rs.length ≤ 600)) && rs.all (aqa T N)
def aqg.f (T N S : Int) (rs : List KH) : Option Bool := some (arD T N S rs)
set_option maxHeartbeats 2000000 in
theorem awn (v : Int) (b : Nat) (T N S : Int) (R : Value) (w : World) (hb : w.heap[b]? = some (.cells #[.int .i64 T, .int .i64 N, .int .i64 S, R] 58 (0, 0))) :
  Calls Try.prog 119 #[.int .i64 v, .pointer (some ⟨b, 0, none⟩)] w fun e w' => e = .returned (.bool (AB N v)) ∧ Below w.heap.size w w' := by
 have h0 : w.cell? ⟨b, 1, none⟩ = some (.int .i64 N) := by rw [ae hb 1]; rfl
 clear hb;go_enter Try.func119, Try.ntmps119
 have HV : aa (AB N v = (decide (0 ≤ v) && decide (v < N))) := ⟨rfl⟩;by_cases h1 : 0 ≤ v
 ·by_cases h2 : v < N
  ·go_wp2;go_ret;exact ⟨by rw [HV.out, decide_eq_true h1, decide_eq_true h2]; rfl, Below.refl _ _⟩
  ·go_wp2;go_ret;exact ⟨by rw [HV.out, decide_eq_true h1, decide_eq_false (by omega)]; rfl, Below.refl _ _⟩
 ·go_wp2;go_ret;exact ⟨by rw [HV.out, decide_eq_false (by omega)]; rfl, Below.refl _ _⟩
set_option maxRecDepth 100000 in
set_option maxHeartbeats 8000000 in
theorem aw5 (T N S : Int) (R : Value) (r : KH) (w : World) :
  Calls Try.prog 115 #[.agg #[.int .i64 T, .int .i64 N, .int .i64 S, R], .agg #[.int .i64 r.f0, .int .i64 r.f1, .int .i64 r.f2, .int .i64 r.f3, .int .i64 r.f4, .int .i64 r.f5]] w fun e w' => e = .returned (.bool (aqa T N r)) ∧ Below w.heap.size w w' := by
 obtain ⟨r0, r1, r2, r3, r4, r5⟩ := r;simp only;have HV : aa (aqa T N ⟨r0, r1, r2, r3, r4, r5⟩ = ((AB N r1 && ((decide (0 ≤ r4) && decide (r4 ≤ 1000)) && decide (-1 ≤ r5))) && kindOk T N ⟨r0, r1, r2, r3, r4, r5⟩)) := ⟨rfl⟩;have HK : aa (kindOk T N ⟨r0, r1, r2, r3, r4, r5⟩ = if r0 = 1 then decide (r2 = 0) && decide (r3 = 0) else if r0 = 2 then (decide (0 ≤ r2) && decide (r2 < T)) && decide (r3 = 0) else if r0 = 3 then AB N r2 && decide (r3 = 0) else if r0 = 4 then AB N r2 && AB N r3 else false) := ⟨rfl⟩;generalize aqa T N ⟨r0, r1, r2, r3, r4, r5⟩ = res at HV ⊢;generalize kindOk T N ⟨r0, r1, r2, r3, r4, r5⟩ = kres at HV HK;go_enter Try.func115, Try.ntmps115
 have hmf : ∀ (fn : Fn) (first cap : Array Value) (w : World), (Instr.makeFunc fn first cap).run Try.prog w = .ok (.func fn first cap) w := fun _ _ _ _ => rfl
 go_upto_region 2 with (fail)
 have ER := eX w (.cells #[.int .i64 T, .int .i64 N, .int .i64 S, R] 58);have hA1 := eX (w.alloc (.cells #[.int .i64 T, .int .i64 N, .int .i64 S, R] 58)) (.cells #[.int .i64 r0, .int .i64 r1, .int .i64 r2, .int .i64 r3, .int .i64 r4, .int .i64 r5] 75);have hsz : (w.alloc (.cells #[.int .i64 T, .int .i64 N, .int .i64 S, R] 58)).heap.size = w.heap.size + 1 := (by show (w.heap.push _).size = _; simp);have HB := aa.mk (aM ER.1 hA1.1);have H1 := aa.mk (aC ER.2 hA1.1);have H2 := aa.mk hA1.2;rw [hsz] at H2;obtain ⟨b1, e1⟩ : ∃ b1, b1 = w.heap.size := ⟨_, rfl⟩;obtain ⟨b2, e2⟩ : ∃ b2, b2 = w.heap.size + 1 := ⟨_, rfl⟩;rw [← e2] at H2 ⊢;rw [← e1] at H1 ⊢;clear e1 e2 hsz ER hA1;generalize ((w.alloc (.cells #[.int .i64 T, .int .i64 N, .int .i64 S, R] 58)).alloc (.cells #[.int .i64 r0, .int .i64 r1, .int .i64 r2, .int .i64 r3, .int .i64 r4, .int .i64 r5] 75)) = w1 at *;have Gy : aa (∀ w', Below w1.heap.size w1 w' → w'.cell? ⟨b1, 0, none⟩ = some (.int .i64 T) ∧ w'.cell? ⟨b2, 0, none⟩ = some (.int .i64 r0) ∧ w'.cell? ⟨b2, 1, none⟩ = some (.int .i64 r1) ∧ w'.cell? ⟨b2, 2, none⟩ = some (.int .i64 r2) ∧ w'.cell? ⟨b2, 3, none⟩ = some (.int .i64 r3) ∧ w'.cell? ⟨b2, 4, none⟩ = some (.int .i64 r4) ∧ w'.cell? ⟨b2, 5, none⟩ = some (.int .i64 r5)) := ⟨fun w' h => ⟨by rw [ae (aC H1.out h) 0]; rfl, by rw [ae (aC H2.out h) 0]; rfl, by rw [ae (aC H2.out h) 1]; rfl, by rw [ae (aC H2.out h) 2]; rfl, by rw [ae (aC H2.out h) 3]; rfl, by rw [ae (aC H2.out h) 4]; rfl, by rw [ae (aC H2.out h) 5]; rfl⟩⟩;have LI : aa (∀ v w', Below w1.heap.size w1 w' → Calls Try.prog 119 #[.int .i64 v, .pointer (some ⟨b1, 0, none⟩)] w' fun e w'' => e = .returned (.bool (AB N v)) ∧ Below w'.heap.size w' w'') := ⟨fun v w' h => awn v b1 T N S R w' (aC H1.out h)⟩;obtain ⟨c0, c1, c2, c3, c4, c5, c6⟩ := Gy.out w1 (Below.refl _ _);have Dt := aa.mk (Below.refl w1.heap.size w1);clear H1 H2;obtain ⟨bi, hbi⟩ : ∃ bi, AB N r1 = bi := ⟨_, rfl⟩;have HBI := aa.mk hbi;rw [hbi] at HV;clear hbi
 cases bi with
 | false =>
  go_wp2_with (first | (go_at_call 119; (with_reducible refine (LI.out r1 w1 Dt.out).mono ?_); rintro x w2 ⟨rfl, hB⟩; rw [HBI.out]; have Mf := aa.mk (aM Dt.out hB); clear hB c0 c1 c2 c3 c4 c5 c6; obtain ⟨c0, c1, c2, c3, c4, c5, c6⟩ := Gy.out w2 Mf.out))
  go_ret;exact ⟨by rw [HV.out]; rfl, aM HB.out Mf.out⟩
 | true =>
  by_cases g1 : r4 < 0
  ·go_wp2_with (first | (go_at_call 119; (with_reducible refine (LI.out r1 w1 Dt.out).mono ?_); rintro x w2 ⟨rfl, hB⟩; rw [HBI.out]; have Mf := aa.mk (aM Dt.out hB); clear hB c0 c1 c2 c3 c4 c5 c6; obtain ⟨c0, c1, c2, c3, c4, c5, c6⟩ := Gy.out w2 Mf.out))
   go_ret;exact ⟨by rw [HV.out, decide_eq_false (show ¬ 0 ≤ r4 by omega)]; rfl, aM HB.out Mf.out⟩
  ·by_cases g2 : r4 > 1000
   ·go_wp2_with (first | (go_at_call 119; (with_reducible refine (LI.out r1 w1 Dt.out).mono ?_); rintro x w2 ⟨rfl, hB⟩; rw [HBI.out]; have Mf := aa.mk (aM Dt.out hB); clear hB c0 c1 c2 c3 c4 c5 c6; obtain ⟨c0, c1, c2, c3, c4, c5, c6⟩ := Gy.out w2 Mf.out))
    go_ret;exact ⟨by rw [HV.out, decide_eq_false (show ¬ r4 ≤ 1000 by omega), Bool.and_false]; rfl, aM HB.out Mf.out⟩
   ·by_cases g3 : r5 < -1
    ·go_wp2_with (first | (go_at_call 119; (with_reducible refine (LI.out r1 w1 Dt.out).mono ?_); rintro x w2 ⟨rfl, hB⟩; rw [HBI.out]; have Mf := aa.mk (aM Dt.out hB); clear hB c0 c1 c2 c3 c4 c5 c6; obtain ⟨c0, c1, c2, c3, c4, c5, c6⟩ := Gy.out w2 Mf.out))
     go_ret;exact ⟨by rw [HV.out, decide_eq_false (show ¬ -1 ≤ r5 by omega), Bool.and_false, Bool.and_false]; rfl, aM HB.out Mf.out⟩
    ·have HR : aa (res = kres) := ⟨by rw [HV.out, decide_eq_true (show 0 ≤ r4 by omega), decide_eq_true (show r4 ≤ 1000 by omega), decide_eq_true (show -1 ≤ r5 by omega)]; rfl⟩;clear HV;by_cases k1 : r0 = 1
     ·have yf := HK.out;rw [if_pos k1] at yf;by_cases a1 : r2 = 0
      ·go_wp2_with (first | (go_at_call 119; (with_reducible refine (LI.out r1 w1 Dt.out).mono ?_); rintro x w2 ⟨rfl, hB⟩; rw [HBI.out]; have Mf := aa.mk (aM Dt.out hB); clear hB c0 c1 c2 c3 c4 c5 c6; obtain ⟨c0, c1, c2, c3, c4, c5, c6⟩ := Gy.out w2 Mf.out))
       go_ret;exact ⟨by rw [HR.out, yf, decide_eq_true a1]; rfl, aM HB.out Mf.out⟩
      ·go_wp2_with (first | (go_at_call 119; (with_reducible refine (LI.out r1 w1 Dt.out).mono ?_); rintro x w2 ⟨rfl, hB⟩; rw [HBI.out]; have Mf := aa.mk (aM Dt.out hB); clear hB c0 c1 c2 c3 c4 c5 c6; obtain ⟨c0, c1, c2, c3, c4, c5, c6⟩ := Gy.out w2 Mf.out))
       go_ret;exact ⟨by rw [HR.out, yf, decide_eq_false a1]; rfl, aM HB.out Mf.out⟩
     ·by_cases k2 : r0 = 2
      ·have yf := HK.out;rw [if_neg k1, if_pos k2] at yf;by_cases a1 : 0 ≤ r2
       ·by_cases a2 : r2 < T
        ·go_wp2_with (first | (go_at_call 119; (with_reducible refine (LI.out r1 w1 Dt.out).mono ?_); rintro x w2 ⟨rfl, hB⟩; rw [HBI.out]; have Mf := aa.mk (aM Dt.out hB); clear hB c0 c1 c2 c3 c4 c5 c6; obtain ⟨c0, c1, c2, c3, c4, c5, c6⟩ := Gy.out w2 Mf.out))
         go_ret;exact ⟨by rw [HR.out, yf, decide_eq_true a1, decide_eq_true a2]; rfl, aM HB.out Mf.out⟩
        ·go_wp2_with (first | (go_at_call 119; (with_reducible refine (LI.out r1 w1 Dt.out).mono ?_); rintro x w2 ⟨rfl, hB⟩; rw [HBI.out]; have Mf := aa.mk (aM Dt.out hB); clear hB c0 c1 c2 c3 c4 c5 c6; obtain ⟨c0, c1, c2, c3, c4, c5, c6⟩ := Gy.out w2 Mf.out))
         go_ret;exact ⟨by rw [HR.out, yf, decide_eq_false (show ¬ r2 < T by omega), Bool.and_false]; rfl, aM HB.out Mf.out⟩
       ·go_wp2_with (first | (go_at_call 119; (with_reducible refine (LI.out r1 w1 Dt.out).mono ?_); rintro x w2 ⟨rfl, hB⟩; rw [HBI.out]; have Mf := aa.mk (aM Dt.out hB); clear hB c0 c1 c2 c3 c4 c5 c6; obtain ⟨c0, c1, c2, c3, c4, c5, c6⟩ := Gy.out w2 Mf.out))
        go_ret;exact ⟨by rw [HR.out, yf, decide_eq_false (show ¬ 0 ≤ r2 by omega)]; rfl, aM HB.out Mf.out⟩
      ·by_cases k3 : r0 = 3
       ·have yf := HK.out;rw [if_neg k1, if_neg k2, if_pos k3] at yf;obtain ⟨b4, hb4⟩ : ∃ b4, AB N r2 = b4 := ⟨_, rfl⟩;have Ju := aa.mk hb4;rw [hb4] at yf;clear hb4
        cases b4 with
        | false =>
         go_wp2_with (first | (go_at_call 119; (with_reducible refine (LI.out r1 w1 Dt.out).mono ?_); rintro x w2 ⟨rfl, hB⟩; rw [HBI.out]; have Mf := aa.mk (aM Dt.out hB); clear hB c0 c1 c2 c3 c4 c5 c6; obtain ⟨c0, c1, c2, c3, c4, c5, c6⟩ := Gy.out w2 Mf.out) | (go_at_call 119; (with_reducible refine (LI.out r2 w2 Mf.out).mono ?_); rintro x w3 ⟨rfl, hB⟩; rw [Ju.out]; have HQ3 := aa.mk (aM Mf.out hB); clear hB c0 c1 c2 c3 c4 c5 c6; obtain ⟨c0, c1, c2, c3, c4, c5, c6⟩ := Gy.out w3 HQ3.out))
         go_ret;exact ⟨by rw [HR.out, yf]; rfl, aM HB.out HQ3.out⟩
        | true =>
         go_wp2_with (first | (go_at_call 119; (with_reducible refine (LI.out r1 w1 Dt.out).mono ?_); rintro x w2 ⟨rfl, hB⟩; rw [HBI.out]; have Mf := aa.mk (aM Dt.out hB); clear hB c0 c1 c2 c3 c4 c5 c6; obtain ⟨c0, c1, c2, c3, c4, c5, c6⟩ := Gy.out w2 Mf.out) | (go_at_call 119; (with_reducible refine (LI.out r2 w2 Mf.out).mono ?_); rintro x w3 ⟨rfl, hB⟩; rw [Ju.out]; have HQ3 := aa.mk (aM Mf.out hB); clear hB c0 c1 c2 c3 c4 c5 c6; obtain ⟨c0, c1, c2, c3, c4, c5, c6⟩ := Gy.out w3 HQ3.out))
         go_ret;exact ⟨by rw [HR.out, yf]; rfl, aM HB.out HQ3.out⟩
       ·by_cases k4 : r0 = 4
        ·have yf := HK.out;rw [if_neg k1, if_neg k2, if_neg k3, if_pos k4] at yf;obtain ⟨b4, hb4⟩ : ∃ b4, AB N r2 = b4 := ⟨_, rfl⟩;have Ju := aa.mk hb4;rw [hb4] at yf;clear hb4
         cases b4 with
         | false =>
          go_wp2_with (first | (go_at_call 119; (with_reducible refine (LI.out r1 w1 Dt.out).mono ?_); rintro x w2 ⟨rfl, hB⟩; rw [HBI.out]; have Mf := aa.mk (aM Dt.out hB); clear hB c0 c1 c2 c3 c4 c5 c6; obtain ⟨c0, c1, c2, c3, c4, c5, c6⟩ := Gy.out w2 Mf.out) | (go_at_call 119; (with_reducible refine (LI.out r2 w2 Mf.out).mono ?_); rintro x w3 ⟨rfl, hB⟩; rw [Ju.out]; have HQ3 := aa.mk (aM Mf.out hB); clear hB c0 c1 c2 c3 c4 c5 c6; obtain ⟨c0, c1, c2, c3, c4, c5, c6⟩ := Gy.out w3 HQ3.out))
          go_ret;exact ⟨by rw [HR.out, yf]; rfl, aM HB.out HQ3.out⟩
         | true =>
          go_wp2_with (first | (go_at_call 119; (with_reducible refine (LI.out r1 w1 Dt.out).mono ?_); rintro x w2 ⟨rfl, hB⟩; rw [HBI.out]; have Mf := aa.mk (aM Dt.out hB); clear hB c0 c1 c2 c3 c4 c5 c6; obtain ⟨c0, c1, c2, c3, c4, c5, c6⟩ := Gy.out w2 Mf.out) | (go_at_call 119; (with_reducible refine (LI.out r2 w2 Mf.out).mono ?_); rintro x w3 ⟨rfl, hB⟩; rw [Ju.out]; have HQ3 := aa.mk (aM Mf.out hB); clear hB c0 c1 c2 c3 c4 c5 c6; obtain ⟨c0, c1, c2, c3, c4, c5, c6⟩ := Gy.out w3 HQ3.out) | (go_at_call 119; (with_reducible refine (LI.out r3 w3 HQ3.out).mono ?_); rintro x w4 ⟨rfl, hB⟩; have HQ4 := aa.mk (aM HQ3.out hB); clear hB c0 c1 c2 c3 c4 c5 c6; obtain ⟨c0, c1, c2, c3, c4, c5, c6⟩ := Gy.out w4 HQ4.out))
          go_ret;exact ⟨by rw [HR.out, yf]; rfl, aM HB.out HQ4.out⟩
        ·have yf := HK.out;rw [if_neg k1, if_neg k2, if_neg k3, if_neg k4] at yf;go_wp2_with (first | (go_at_call 119; (with_reducible refine (LI.out r1 w1 Dt.out).mono ?_); rintro x w2 ⟨rfl, hB⟩; rw [HBI.out]; have Mf := aa.mk (aM Dt.out hB); clear hB c0 c1 c2 c3 c4 c5 c6; obtain ⟨c0, c1, c2, c3, c4, c5, c6⟩ := Gy.out w2 Mf.out))
         go_ret;exact ⟨by rw [HR.out, yf]; first | done | rfl, aM HB.out Mf.out⟩
def rX.f (_k : Nat) (T N S : Int) (rs : List KH) : Option Bool := some (arD T N S rs)
theorem rX.mono : ∀ a0 a1 a2 a3 k, dz (rX.f k a0 a1 a2 a3) (rX.f (k + 1) a0 a1 a2 a3) := fun _ _ _ _ _ _ h => h
set_option maxRecDepth 100000 in
set_option maxHeartbeats 8000000 in
theorem aNu (T N S : Int) (A : Option Addr) (c : Nat) (rs : List KH) (w : World) (hC : Kd.C Md w A rs.length rs) :
  Calls Try.prog 57 #[.agg #[.int .i64 T, .int .i64 N, .int .i64 S, .slice A rs.length c]] w fun e w' => e = .returned (.bool (arD T N S rs)) ∧ Below w.heap.size w w' := by
 have hl0 : rs.length ≤ 9223372036854775807 := hC.2.1;have HV : aa (arD T N S rs = (((((decide (0 ≤ T) && decide (T ≤ 120)) && (decide (1 ≤ N) && decide (N ≤ 1000))) && (decide (0 ≤ S) && decide (S < N))) && decide (rs.length ≤ 600)) && rs.all (aqa T N))) := ⟨rfl⟩;have HC := aa.mk hC;clear hC;have HAL : aa (rs.all (aqa T N) = (rs.drop 0).all (aqa T N)) := ⟨rfl⟩;generalize rs.all (aqa T N) = al at HV HAL;generalize arD T N S rs = res at HV ⊢;go_enter Try.func57, Try.ntmps57
 go_upto_region 1 with (fail)
 have ER := eX w (.cells #[.int .i64 T, .int .i64 N, .int .i64 S, .slice A rs.length c] 58);have HB := aa.mk ER.1;have H1 := aa.mk ER.2;obtain ⟨b1, e1⟩ : ∃ b1, b1 = w.heap.size := ⟨_, rfl⟩;rw [← e1] at H1 ⊢;clear e1 ER;generalize (w.alloc (.cells #[.int .i64 T, .int .i64 N, .int .i64 S, .slice A rs.length c] 58)) = w1 at *;have c0 : w1.cell? ⟨b1, 0, none⟩ = some (.int .i64 T) := by rw [ae H1.out 0]; rfl
 have c1 : w1.cell? ⟨b1, 1, none⟩ = some (.int .i64 N) := by rw [ae H1.out 1]; rfl
 have c2 : w1.cell? ⟨b1, 2, none⟩ = some (.int .i64 S) := by rw [ae H1.out 2]; rfl
 have c3 : w1.cell? ⟨b1, 3, none⟩ = some (.slice A rs.length c) := by rw [ae H1.out 3]; rfl
 by_cases g1 : T < 0
 ·go_wp2;go_ret;exact ⟨by rw [HV.out, decide_eq_false (show ¬ 0 ≤ T by omega)]; simp, HB.out⟩
 ·by_cases g2 : T > 120
  ·go_wp2;go_ret;exact ⟨by rw [HV.out, decide_eq_false (show ¬ T ≤ 120 by omega)]; simp, HB.out⟩
  ·by_cases g3 : N < 1
   ·go_wp2;go_ret;exact ⟨by rw [HV.out, decide_eq_false (show ¬ 1 ≤ N by omega)]; simp, HB.out⟩
   ·by_cases g4 : N > 1000
    ·go_wp2;go_ret;exact ⟨by rw [HV.out, decide_eq_false (show ¬ N ≤ 1000 by omega)]; simp, HB.out⟩
    ·by_cases g5 : S < 0
     ·go_wp2;go_ret;exact ⟨by rw [HV.out, decide_eq_false (show ¬ 0 ≤ S by omega)]; simp, HB.out⟩
     ·by_cases g6 : S ≥ N
      ·go_wp2;go_ret;exact ⟨by rw [HV.out, decide_eq_false (show ¬ S < N by omega)]; simp, HB.out⟩
      ·by_cases g7 : (rs.length : Int) > 600
       ·go_wp2;go_ret;exact ⟨by rw [HV.out, decide_eq_false (show ¬ rs.length ≤ 600 by omega)]; simp, HB.out⟩
       ·have HV2 : aa (res = al) := ⟨by rw [HV.out, decide_eq_true (show 0 ≤ T by omega), decide_eq_true (show T ≤ 120 by omega), decide_eq_true (show 1 ≤ N by omega), decide_eq_true (show N ≤ 1000 by omega), decide_eq_true (show 0 ≤ S by omega), decide_eq_true (show S < N by omega), decide_eq_true (show rs.length ≤ 600 by omega)]; rfl⟩;rw [← HV2.out] at HAL;clear HV HV2;go_wp2_with fail
        clear c0 c1 c2 c3 g1 g2 g3 g4 g5 g6 g7;have hend : True := trivial;go_loopg [3] (rs.length + 1) (fun g v3 wr => ∃ k : Nat, v3 = .int .i64 k ∧ aa (k ≤ rs.length) ∧ aa (rs.length - k < g) ∧ aa (res = (rs.drop k).all (aqa T N)) ∧ aa (Below w.heap.size w wr) ∧ aa (wr.heap[b1]? = some (.cells #[.int .i64 T, .int .i64 N, .int .i64 S, .slice A rs.length c] 58 (0, 0))))
        case atStart => exact ⟨0, by go_num, ⟨by omega⟩, ⟨by omega⟩, HAL, HB, H1⟩
        case round =>
         clear HAL HB H1;obtain ⟨k, rfl, hk, hg, HV, HB, H1⟩ := hrel;have c3 : wr.cell? ⟨b1, 3, none⟩ = some (.slice A rs.length c) := by rw [ae H1.out 3]; rfl
         by_cases hkn : k < rs.length
         ·obtain ⟨ad, hA, d0, d1, d2, d3, d4, d5⟩ := ah5 HC.out (k : Int) (by omega) (by omega);subst hA;replace d0 := ah HB.out d0; replace d1 := ah HB.out d1; replace d2 := ah HB.out d2; replace d3 := ah HB.out d3; replace d4 := ah HB.out d4; replace d5 := ah HB.out d5;have hstep := o7 (aqa T N) rs (Dj rs (k : Int)) k hkn;have hge : rs.getD k (Dj rs (k : Int)) = Dj rs (k : Int) := by
           simp only [Dj, Int.toNat_natCast, List.getD_eq_getElem?_getD, List.getElem?_eq_getElem hkn, Option.getD_some]
          rw [hge] at hstep;obtain ⟨e, zQ⟩ : ∃ e, Dj rs (k : Int) = e := ⟨_, rfl⟩;rw [zQ] at d0 d1 d2 d3 d4 d5 hstep;simp only [Int.toNat_natCast] at d0 d1 d2 d3 d4 d5;obtain ⟨r0, r1, r2, r3, r4, r5⟩ := e;simp only at d0 d1 d2 d3 d4 d5;have HST := aa.mk (HV.out.trans hstep);have HR : aa (aqa T N ⟨r0, r1, r2, r3, r4, r5⟩ = ((AB N r1 && ((decide (0 ≤ r4) && decide (r4 ≤ 1000)) && decide (-1 ≤ r5))) && kindOk T N ⟨r0, r1, r2, r3, r4, r5⟩)) := ⟨rfl⟩;have HK : aa (kindOk T N ⟨r0, r1, r2, r3, r4, r5⟩ = if r0 = 1 then decide (r2 = 0) && decide (r3 = 0) else if r0 = 2 then (decide (0 ≤ r2) && decide (r2 < T)) && decide (r3 = 0) else if r0 = 3 then AB N r2 && decide (r3 = 0) else if r0 = 4 then AB N r2 && AB N r3 else false) := ⟨rfl⟩;clear zQ hge hstep HV;go_upto_region 7 with (fail)
          have EB := eX wr (.cells #[.int .i64 r0, .int .i64 r1, .int .i64 r2, .int .i64 r3, .int .i64 r4, .int .i64 r5] 75);have HBX := aa.mk (aM HB.out EB.1);have aPo := aa.mk (aC H1.out EB.1);have H8 := aa.mk EB.2;obtain ⟨b8, Yq⟩ : ∃ b8, b8 = wr.heap.size := ⟨_, rfl⟩;rw [← Yq] at H8 ⊢;clear Yq EB HB H1 d0 d1 d2 d3 d4 d5 c3;generalize (wr.alloc (.cells #[.int .i64 r0, .int .i64 r1, .int .i64 r2, .int .i64 r3, .int .i64 r4, .int .i64 r5] 75)) = wB at *;have t0 : wB.cell? ⟨b1, 0, none⟩ = some (.int .i64 T) := by rw [ae aPo.out 0]; rfl
          have t1 : wB.cell? ⟨b1, 1, none⟩ = some (.int .i64 N) := by rw [ae aPo.out 1]; rfl
          have e0 : wB.cell? ⟨b8, 0, none⟩ = some (.int .i64 r0) := by rw [ae H8.out 0]; rfl
          have e1 : wB.cell? ⟨b8, 1, none⟩ = some (.int .i64 r1) := by rw [ae H8.out 1]; rfl
          have e2 : wB.cell? ⟨b8, 2, none⟩ = some (.int .i64 r2) := by rw [ae H8.out 2]; rfl
          have e3 : wB.cell? ⟨b8, 3, none⟩ = some (.int .i64 r3) := by rw [ae H8.out 3]; rfl
          have e4 : wB.cell? ⟨b8, 4, none⟩ = some (.int .i64 r4) := by rw [ae H8.out 4]; rfl
          have e5 : wB.cell? ⟨b8, 5, none⟩ = some (.int .i64 r5) := by rw [ae H8.out 5]; rfl
          by_cases g1 : r1 < 0
          ·have hrk : aqa T N ⟨r0, r1, r2, r3, r4, r5⟩ = false := by rw [HR.out, show AB N r1 = (decide (0 ≤ r1) && decide (r1 < N)) from rfl, decide_eq_false (show ¬ 0 ≤ r1 by omega), Bool.false_and, Bool.false_and, Bool.false_and]
           go_wp2_with fail
           go_ret;exact ⟨by rw [HST.out, hrk]; rfl, HBX.out⟩
          ·by_cases g2 : r1 ≥ N
           ·have hrk : aqa T N ⟨r0, r1, r2, r3, r4, r5⟩ = false := by rw [HR.out, show AB N r1 = (decide (0 ≤ r1) && decide (r1 < N)) from rfl, decide_eq_false (show ¬ r1 < N by omega), Bool.and_false, Bool.false_and, Bool.false_and]
            go_wp2_with fail
            go_ret;exact ⟨by rw [HST.out, hrk]; rfl, HBX.out⟩
           ·by_cases g3 : r4 < 0
            ·have hrk : aqa T N ⟨r0, r1, r2, r3, r4, r5⟩ = false := by rw [HR.out, decide_eq_false (show ¬ 0 ≤ r4 by omega), Bool.false_and, Bool.false_and, Bool.and_false, Bool.false_and]
             go_wp2_with fail
             go_ret;exact ⟨by rw [HST.out, hrk]; rfl, HBX.out⟩
            ·by_cases g4 : r4 > 1000
             ·have hrk : aqa T N ⟨r0, r1, r2, r3, r4, r5⟩ = false := by rw [HR.out, decide_eq_false (show ¬ r4 ≤ 1000 by omega), Bool.and_false, Bool.false_and, Bool.and_false, Bool.false_and]
              go_wp2_with fail
              go_ret;exact ⟨by rw [HST.out, hrk]; rfl, HBX.out⟩
             ·by_cases g5 : r5 < -1
              ·have hrk : aqa T N ⟨r0, r1, r2, r3, r4, r5⟩ = false := by rw [HR.out, decide_eq_false (show ¬ -1 ≤ r5 by omega), Bool.and_false, Bool.and_false, Bool.false_and]
               go_wp2_with fail
               go_ret;exact ⟨by rw [HST.out, hrk]; rfl, HBX.out⟩
              ·replace HR : aa (aqa T N ⟨r0, r1, r2, r3, r4, r5⟩ = kindOk T N ⟨r0, r1, r2, r3, r4, r5⟩) := ⟨by rw [HR.out, show AB N r1 = (decide (0 ≤ r1) && decide (r1 < N)) from rfl, decide_eq_true (show 0 ≤ r1 by omega), decide_eq_true (show r1 < N by omega), decide_eq_true (show 0 ≤ r4 by omega), decide_eq_true (show r4 ≤ 1000 by omega), decide_eq_true (show -1 ≤ r5 by omega)]; rfl⟩;by_cases k1 : r0 = 1
               ·by_cases a1 : r2 = 0
                ·by_cases a2 : r3 = 0
                 ·have hrk : aqa T N ⟨r0, r1, r2, r3, r4, r5⟩ = true := by rw [HR.out, HK.out, if_pos k1, decide_eq_true a1, decide_eq_true a2]; rfl
                  go_wp2_with fail
                  go_roundg (rs.length - k)
                  case measure => have := hg.out; omega
                  case rel => exact ⟨k + 1, by go_num, ⟨by omega⟩, ⟨by omega⟩, ⟨by rw [HST.out, hrk]; rfl⟩, HBX, aPo⟩
                 ·have hrk : aqa T N ⟨r0, r1, r2, r3, r4, r5⟩ = false := by rw [HR.out, HK.out, if_pos k1, decide_eq_false a2, Bool.and_false]
                  go_wp2_with fail
                  go_ret;exact ⟨by rw [HST.out, hrk]; rfl, HBX.out⟩;all_goals (rename_i hx; simp at hx; omega)
                ·have hrk : aqa T N ⟨r0, r1, r2, r3, r4, r5⟩ = false := by rw [HR.out, HK.out, if_pos k1, decide_eq_false a1, Bool.false_and]
                 go_wp2_with fail
                 go_ret;exact ⟨by rw [HST.out, hrk]; rfl, HBX.out⟩;all_goals (rename_i hx; simp at hx; omega)
               ·by_cases k2 : r0 = 2
                ·by_cases a1 : 0 ≤ r2
                 ·by_cases a2 : r2 < T
                  ·by_cases a3 : r3 = 0
                   ·have hrk : aqa T N ⟨r0, r1, r2, r3, r4, r5⟩ = true := by rw [HR.out, HK.out, if_neg k1, if_pos k2, decide_eq_true a1, decide_eq_true a2, decide_eq_true a3]; rfl
                    go_wp2_with fail
                    go_roundg (rs.length - k)
                    case measure => have := hg.out; omega
                    case rel => exact ⟨k + 1, by go_num, ⟨by omega⟩, ⟨by omega⟩, ⟨by rw [HST.out, hrk]; rfl⟩, HBX, aPo⟩
                   ·have hrk : aqa T N ⟨r0, r1, r2, r3, r4, r5⟩ = false := by rw [HR.out, HK.out, if_neg k1, if_pos k2, decide_eq_false a3, Bool.and_false]
                    go_wp2_with fail
                    go_ret;exact ⟨by rw [HST.out, hrk]; rfl, HBX.out⟩;all_goals (rename_i hx; simp at hx; omega)
                  ·have hrk : aqa T N ⟨r0, r1, r2, r3, r4, r5⟩ = false := by rw [HR.out, HK.out, if_neg k1, if_pos k2, decide_eq_false (show ¬ r2 < T by omega), Bool.and_false, Bool.false_and]
                   go_wp2_with fail
                   go_ret;exact ⟨by rw [HST.out, hrk]; rfl, HBX.out⟩
                 ·have hrk : aqa T N ⟨r0, r1, r2, r3, r4, r5⟩ = false := by rw [HR.out, HK.out, if_neg k1, if_pos k2, decide_eq_false (show ¬ 0 ≤ r2 by omega), Bool.false_and, Bool.false_and]
                  go_wp2_with fail
                  go_ret;exact ⟨by rw [HST.out, hrk]; rfl, HBX.out⟩
                ·by_cases k3 : r0 = 3
                 ·by_cases a1 : 0 ≤ r2
                  ·by_cases a2 : r2 < N
                   ·by_cases a3 : r3 = 0
                    ·have hrk : aqa T N ⟨r0, r1, r2, r3, r4, r5⟩ = true := by rw [HR.out, HK.out, if_neg k1, if_neg k2, if_pos k3, show AB N r2 = (decide (0 ≤ r2) && decide (r2 < N)) from rfl, decide_eq_true a1, decide_eq_true a2, decide_eq_true a3]; rfl
                     go_wp2_with fail
                     go_roundg (rs.length - k)
                     case measure => have := hg.out; omega
                     case rel => exact ⟨k + 1, by go_num, ⟨by omega⟩, ⟨by omega⟩, ⟨by rw [HST.out, hrk]; rfl⟩, HBX, aPo⟩
                    ·have hrk : aqa T N ⟨r0, r1, r2, r3, r4, r5⟩ = false := by rw [HR.out, HK.out, if_neg k1, if_neg k2, if_pos k3, show AB N r2 = (decide (0 ≤ r2) && decide (r2 < N)) from rfl, decide_eq_false a3, Bool.and_false]
                     go_wp2_with fail
                     go_ret;exact ⟨by rw [HST.out, hrk]; rfl, HBX.out⟩;all_goals (rename_i hx; simp at hx; omega)
                   ·have hrk : aqa T N ⟨r0, r1, r2, r3, r4, r5⟩ = false := by rw [HR.out, HK.out, if_neg k1, if_neg k2, if_pos k3, show AB N r2 = (decide (0 ≤ r2) && decide (r2 < N)) from rfl, decide_eq_false (show ¬ r2 < N by omega), Bool.and_false, Bool.false_and]
                    go_wp2_with fail
                    go_ret;exact ⟨by rw [HST.out, hrk]; rfl, HBX.out⟩
                  ·have hrk : aqa T N ⟨r0, r1, r2, r3, r4, r5⟩ = false := by rw [HR.out, HK.out, if_neg k1, if_neg k2, if_pos k3, show AB N r2 = (decide (0 ≤ r2) && decide (r2 < N)) from rfl, decide_eq_false (show ¬ 0 ≤ r2 by omega), Bool.false_and, Bool.false_and]
                   go_wp2_with fail
                   go_ret;exact ⟨by rw [HST.out, hrk]; rfl, HBX.out⟩
                 ·by_cases k4 : r0 = 4
                  ·by_cases a1 : 0 ≤ r2
                   ·by_cases a2 : r2 < N
                    ·by_cases a3 : 0 ≤ r3
                     ·by_cases a4 : r3 < N
                      ·have hrk : aqa T N ⟨r0, r1, r2, r3, r4, r5⟩ = true := by rw [HR.out, HK.out, if_neg k1, if_neg k2, if_neg k3, if_pos k4, show AB N r2 = (decide (0 ≤ r2) && decide (r2 < N)) from rfl, show AB N r3 = (decide (0 ≤ r3) && decide (r3 < N)) from rfl, decide_eq_true a1, decide_eq_true a2, decide_eq_true a3, decide_eq_true a4]; rfl
                       go_wp2_with fail
                       go_roundg (rs.length - k)
                       case measure => have := hg.out; omega
                       case rel => exact ⟨k + 1, by go_num, ⟨by omega⟩, ⟨by omega⟩, ⟨by rw [HST.out, hrk]; rfl⟩, HBX, aPo⟩
                      ·have hrk : aqa T N ⟨r0, r1, r2, r3, r4, r5⟩ = false := by rw [HR.out, HK.out, if_neg k1, if_neg k2, if_neg k3, if_pos k4, show AB N r2 = (decide (0 ≤ r2) && decide (r2 < N)) from rfl, show AB N r3 = (decide (0 ≤ r3) && decide (r3 < N)) from rfl, decide_eq_false (show ¬ r3 < N by omega), Bool.and_false, Bool.and_false]
                       go_wp2_with fail
                       go_ret;exact ⟨by rw [HST.out, hrk]; rfl, HBX.out⟩
                     ·have hrk : aqa T N ⟨r0, r1, r2, r3, r4, r5⟩ = false := by rw [HR.out, HK.out, if_neg k1, if_neg k2, if_neg k3, if_pos k4, show AB N r2 = (decide (0 ≤ r2) && decide (r2 < N)) from rfl, show AB N r3 = (decide (0 ≤ r3) && decide (r3 < N)) from rfl, decide_eq_false (show ¬ 0 ≤ r3 by omega), Bool.false_and, Bool.and_false]
                      go_wp2_with fail
                      go_ret;exact ⟨by rw [HST.out, hrk]; rfl, HBX.out⟩
                    ·have hrk : aqa T N ⟨r0, r1, r2, r3, r4, r5⟩ = false := by rw [HR.out, HK.out, if_neg k1, if_neg k2, if_neg k3, if_pos k4, show AB N r2 = (decide (0 ≤ r2) && decide (r2 < N)) from rfl, show AB N r3 = (decide (0 ≤ r3) && decide (r3 < N)) from rfl, decide_eq_false (show ¬ r2 < N by omega), Bool.and_false, Bool.false_and]
                     go_wp2_with fail
                     go_ret;exact ⟨by rw [HST.out, hrk]; rfl, HBX.out⟩
                   ·have hrk : aqa T N ⟨r0, r1, r2, r3, r4, r5⟩ = false := by rw [HR.out, HK.out, if_neg k1, if_neg k2, if_neg k3, if_pos k4, show AB N r2 = (decide (0 ≤ r2) && decide (r2 < N)) from rfl, show AB N r3 = (decide (0 ≤ r3) && decide (r3 < N)) from rfl, decide_eq_false (show ¬ 0 ≤ r2 by omega), Bool.false_and, Bool.false_and]
                    go_wp2_with fail
                    go_ret;exact ⟨by rw [HST.out, hrk]; rfl, HBX.out⟩
                  ·have hrk : aqa T N ⟨r0, r1, r2, r3, r4, r5⟩ = false := by rw [HR.out, HK.out, if_neg k1, if_neg k2, if_neg k3, if_neg k4]
                   go_wp2_with fail
                   go_ret;exact ⟨by rw [HST.out, hrk]; rfl, HBX.out⟩
         ·obtain rfl : k = rs.length := by have := hk.out; omega
          have hkk : ¬ ((rs.length : Int) < (rs.length : Int)) := by omega
          go_wp2_with fail
          go_ret;exact ⟨by rw [HV.out, List.drop_length]; rfl, HB.out⟩
theorem rX.calls (k : Nat) (aR : Int) (iR : Int) (vX : Int) (aps : Option Addr) (ao4 : Nat) (kv : List (KH)) (r : Bool) (w : World) (aqy : Kd.C Md w aps kv.length kv) (aqz : kv.length ≤ ao4) (h : rX.f k aR iR vX kv = some r) :
  Calls Try.prog 57 #[.agg #[.int .i64 aR, .int .i64 iR, .int .i64 vX, .slice aps kv.length ao4]] w fun e w' => e = .returned (.bool r) ∧ Below w.heap.size w w' := by
 injection h with h
 subst h;exact aNu aR iR vX aps ao4 kv w aqy
end Go.Proofs.Ytamimodkcbbpmaa.Pr
end
section
namespace Go.Proofs.Ytamimodkcbbpmaa.Pr
open Go.RowKit Go.Proofs.YtamimodkcbbpmaaW.PrintWords Go.Proofs.YtamimodkcbbpmaaW.PrintLast Go.Proofs.YtamimodkcbbpmaaW.PrintMore Go.Proofs.YtamimodkcbbpmaaXW
attribute [local go_sem] aFh ky lX lY jf jg kz kC
set_option linter.unusedVariables false
set_option linter.unusedSimpArgs false
mutual
def aqe.j0 : Nat → List Int → Option (Bool)
 | 0, _ => none
 | k + 1, x1 => aqe.l0 k x1 0
def aqe.l0 : Nat → List Int → Int → Option (Bool)
 | 0, _, _ => none
 | k + 1, x1, x5 => if x5 < (x1.length : Int) then (if 0 ≤ x5 then (if (rd x1 x5) < 1 then (some false) else (if (rd x1 x5) > 60000 then (some false) else (aqe.l0 k x1 (wrap64 (x5 + 1))))) else (none)) else (some true)
end
def aqe.f (k : Nat) (aR : Int) (iR : Int) (vX : Int) (kv : List (KH)) (l1 : List Int) : Option (Bool) := if (l1.length : Int) = aR then (aqe.j0 k l1) else (some false)
theorem aqe.apw : ∀ k, (∀ y0, dz (aqe.j0 k y0) (aqe.j0 (k + 1) y0)) ∧ (∀ y0 y1, dz (aqe.l0 k y0 y1) (aqe.l0 (k + 1) y0 y1))
 | 0 => ⟨fun _ r h => by simp [aqe.j0] at h, fun _ _ r h => by simp [aqe.l0] at h⟩
 | k + 1 => by
  obtain ⟨jP, ih1⟩ := aqe.apw k;refine ⟨?_, ?_⟩;all_goals intros
  all_goals first | unfold aqe.j0 | unfold aqe.l0
  all_goals
   repeat' first
   | (with_reducible exact jP _)
   | (with_reducible exact ih1 _ _)
   | (with_reducible exact dz.refl _)
   | (with_reducible exact dz.none _)
   | (with_reducible refine dz.ite ?_ ?_)
   | (with_reducible refine dz.bind ?_ (fun _ => ?_))
   | exact jP _
   | exact ih1 _ _
   | exact dz.none _
   | refine dz.ite ?_ ?_
   | refine dz.bind ?_ (fun _ => ?_)
theorem aqe.mono : ∀ a0 a1 a2 a3 a4 k, dz (aqe.f k a0 a1 a2 a3 a4) (aqe.f (k + 1) a0 a1 a2 a3 a4) := by
 intro a0 a1 a2 a3 a4 k;obtain ⟨jP, ih1⟩ := aqe.apw k;unfold aqe.f;repeat' first
   | (with_reducible exact jP _)
   | (with_reducible exact ih1 _ _)
   | (with_reducible exact dz.refl _)
   | (with_reducible exact dz.none _)
   | (with_reducible refine dz.ite ?_ ?_)
   | (with_reducible refine dz.bind ?_ (fun _ => ?_))
   | exact jP _
   | exact ih1 _ _
   | exact dz.none _
   | refine dz.ite ?_ ?_
   | refine dz.bind ?_ (fun _ => ?_)
set_option maxHeartbeats 8000000 in
set_option maxRecDepth 100000 in
theorem aqe.calls (k : Nat) (aR : Int) (iR : Int) (vX : Int) (aps : Option Addr) (ao4 : Nat) (kv : List (KH)) (A1 : Option Addr) (c1 : Nat) (l1 : List Int) (r : Bool) (w : World) (aqy : Kd.C Md w aps kv.length kv) (aqz : kv.length ≤ ao4) (hr1 : Kd.C (Kd.int .i64) w A1 l1.length l1) (hc1 : l1.length ≤ c1) (h : aqe.f k aR iR vX kv l1 = some r) :
  Calls Try.prog 58 #[.agg #[.int .i64 aR, .int .i64 iR, .int .i64 vX, .slice aps kv.length ao4], .slice A1 l1.length c1] w fun e w' => e = .returned (.bool r) ∧ Below w.heap.size w w' := by
 have avx := Try.underlying58;have aqx := aa.mk aqy;have aqH := aa.mk aqz;clear aqy aqz;have HR1 := aa.mk hr1;have EY := aa.mk hc1;clear hr1 hc1;have HB := aa.mk (Below.refl w.heap.size w);have H : (if (l1.length : Int) = aR then (aqe.j0 k l1) else (some false)) = some r := h;clear h;have Uo := aa.mk H;clear H;go_enter Try.func58, Try.ntmps58
 go_upto_if 10 with (first | ((with_reducible refine bM (N := 2) rfl ?_); refine bG ?hg (N := 2) ?hd (cs := #[.int .i64 aR, .int .i64 iR, .int .i64 vX, .slice aps kv.length ao4]) (t := 58) ?hr ?_; (case hd => rfl); (case hg => rfl); (case hr => first | (go_simp; done) | (go_simp; rfl)); intro auN hg w4 bR hb; have bP := aa.mk (aM (bO HB) hb); have bQ := aa.mk (bR); have bT := aa.mk ((by rw [hg]; exact (aK (bO HB)) : w.heap.size ≤ auN)); have di := aa.mk ((by rw [hg]; exact (aK (bO HB)) : w.heap.size ≤ auN)); clear HB; have HB := bP; have asb := bQ; have aNm := bT; have aNn := di; clear bP bQ bT di; clear hb bR hg; have nU : w4.cell? ⟨auN, 0, none⟩ = some (.int .i64 aR) := (ae asb.out 0).trans rfl; have nV : w4.cell? ⟨auN, 1, none⟩ = some (.int .i64 iR) := (ae asb.out 1).trans rfl; have atz : w4.cell? ⟨auN, 2, none⟩ = some (.int .i64 vX) := (ae asb.out 2).trans rfl; have atA : w4.cell? ⟨auN, 3, none⟩ = some (.slice aps kv.length ao4) := (ae asb.out 3).trans rfl; have nW := ai asb.out 0; have nX := ai asb.out 1; have atB := ai asb.out 2; have atC := ai asb.out 3))
 (try simp only [Act.put, List.setIfInBounds_toArray, List.set_cons_zero, List.set_cons_succ]);go_cut [] (fun wc => ∃ (kq : Nat), aa (aqe.j0 kq l1 = some r) ∧ aa (kq ≤ k) ∧ aa (wc.heap[auN]? = some (.cells #[.int .i64 aR, .int .i64 iR, .int .i64 vX, (.slice aps kv.length ao4)] 58 (0, 0))) ∧ aa (Below w.heap.size w wc))
 case first =>
  have H := Uo.out;clear Uo;by_cases c6 : (l1.length : Int) = aR
  ·rw [if_pos c6] at H;have Dy : ((l1.length : Int) == aR) = true := beq_iff_eq.mpr c6;have XA : ((l1.length : Int) != aR) = false := bne_eq_false_iff_eq.mpr c6;clear c6
   (first | rw [Dy] | (simp only [bH, bI]; rw [Dy]) | skip)
   have H' := aa.mk H;clear H;go_wp2;go_meet
   case rel => exact ⟨_, H', ⟨by first | omega | exact Nat.le_refl _⟩, ⟨by (with_reducible repeat (first | refine ax ?_ _ | refine az ?_ | refine au ?_ _)); exact asb.out⟩, ⟨bO HB⟩⟩
  ·rw [if_neg c6] at H;have Dy : ((l1.length : Int) == aR) = false := beq_eq_false_iff_ne.mpr c6;have XA : ((l1.length : Int) != aR) = true := bne_iff_ne.mpr c6
   (first | rw [Dy] | (simp only [bH, bI]; rw [Dy]) | skip)
   obtain rfl := Option.some.inj H;go_wp2;go_ret;exact ⟨by first | rfl | (simp [aW, aX] <;> rfl) | (simp [*, aW, aX] <;> rfl), bO HB⟩
 case rest =>
  clear Uo;(try clear c1); (try clear p2); (try clear c5); (try clear c6); (try clear Dy); (try clear XA); (try clear nU); (try clear nV); (try clear atz); (try clear atA); (try clear nW); (try clear nX); (try clear atB); (try clear atC);obtain ⟨kq, HA, HJ2, asb, HB⟩ := hcut
  cases kq with
  | zero => exact absurd HA.out (by simp [aqe.j0])
  | succ kj2 =>
   have H := HA.out;clear HA;simp only [aqe.j0] at H;have H' := aa.mk H;clear H;go_wp2;go_loopg [5] kj2 (fun kq v5 w' => ∃ (xM : Int), v5 = .int .i64 xM ∧ aa (aqe.l0 kq l1 xM = some r) ∧ aa (kq ≤ kj2) ∧ aa (w'.heap[auN]? = some (.cells #[.int .i64 aR, .int .i64 iR, .int .i64 vX, (.slice aps kv.length ao4)] 58 (0, 0))) ∧ aa (Below w.heap.size w w'))
   case atStart => exact ⟨(0), (by first | rfl | (simp; done) | (simp [*]; done)), H', ⟨Nat.le_refl _⟩, ⟨by (with_reducible repeat (first | refine ax ?_ _ | refine az ?_ | refine au ?_ _)); exact asb.out⟩, ⟨bO HB⟩⟩
   case round =>
    clear H';(try clear c1); (try clear p2); (try clear c5); (try clear c6); (try clear Dy); (try clear XA); (try clear nU); (try clear nV); (try clear atz); (try clear atA); (try clear nW); (try clear nX); (try clear atB); (try clear atC); (try clear p2);obtain ⟨xM, rfl, HA, Rq, asb, HB⟩ := hrel
    cases gk with
    | zero => exact absurd HA.out (by simp [aqe.l0])
    | succ k2 =>
     have H := HA.out;clear HA;simp only [aqe.l0] at H;by_cases c7 : xM < (l1.length : Int)
     ·rw [if_pos c7] at H;have uy : decide (xM < (l1.length : Int)) = true := decide_eq_true c7;clear c7;by_cases c8 : 0 ≤ xM
      ·rw [if_pos c8] at H;have Hd : decide (0 ≤ xM) = true := decide_eq_true c8;clear c8;by_cases c9 : (rd l1 xM) < 1
       ·rw [if_pos c9] at H;have yg : decide ((rd l1 xM) < 1) = true := decide_eq_true c9;clear c9;obtain rfl := Option.some.inj H;have au7 : 0 ≤ (xM : Int) := of_decide_eq_true (by first | (with_reducible assumption) | assumption);have au8 : xM < (l1.length : Int) := of_decide_eq_true (by first | (with_reducible assumption) | assumption);obtain ⟨ayc, ayN, arY⟩ := Kd.nC HR1.out xM au7 au8
        cases ayN;replace arY := ah HB.out arY;replace au7 := eq_true au7;replace au8 := eq_true au8;go_wp2;go_ret;exact ⟨by first | rfl | (simp [aW, aX] <;> rfl) | (simp [*, aW, aX] <;> rfl), bO HB⟩
       ·rw [if_neg c9] at H;have yg : decide ((rd l1 xM) < 1) = false := decide_eq_false c9;clear c9;by_cases c10 : (rd l1 xM) > 60000
        ·rw [if_pos c10] at H;have XY : decide (60000 < (rd l1 xM)) = true := decide_eq_true c10;clear c10;obtain rfl := Option.some.inj H;have au7 : 0 ≤ (xM : Int) := of_decide_eq_true (by first | (with_reducible assumption) | assumption);have au8 : xM < (l1.length : Int) := of_decide_eq_true (by first | (with_reducible assumption) | assumption);obtain ⟨ayc, ayN, arY⟩ := Kd.nC HR1.out xM au7 au8
         cases ayN;replace arY := ah HB.out arY;replace au7 := eq_true au7;replace au8 := eq_true au8;have aw1 : 0 ≤ (xM : Int) := of_decide_eq_true (by first | (with_reducible assumption) | assumption);have aw2 : xM < (l1.length : Int) := of_decide_eq_true (by first | (with_reducible assumption) | assumption);obtain ⟨ayO, aBj, at7⟩ := Kd.nC HR1.out xM aw1 aw2;obtain rfl : ayc = ayO := (by injection aBj);replace at7 := ah HB.out at7;replace aw1 := eq_true aw1;replace aw2 := eq_true aw2;go_wp2;go_ret;exact ⟨by first | rfl | (simp [aW, aX] <;> rfl) | (simp [*, aW, aX] <;> rfl), bO HB⟩
        ·rw [if_neg c10] at H;have XY : decide (60000 < (rd l1 xM)) = false := decide_eq_false c10;clear c10;have H' := aa.mk H;clear H;have au7 : 0 ≤ (xM : Int) := of_decide_eq_true (by first | (with_reducible assumption) | assumption);have au8 : xM < (l1.length : Int) := of_decide_eq_true (by first | (with_reducible assumption) | assumption);obtain ⟨ayc, ayN, arY⟩ := Kd.nC HR1.out xM au7 au8
         cases ayN;replace arY := ah HB.out arY;replace au7 := eq_true au7;replace au8 := eq_true au8;have aw1 : 0 ≤ (xM : Int) := of_decide_eq_true (by first | (with_reducible assumption) | assumption);have aw2 : xM < (l1.length : Int) := of_decide_eq_true (by first | (with_reducible assumption) | assumption);obtain ⟨ayO, aBj, at7⟩ := Kd.nC HR1.out xM aw1 aw2;obtain rfl : ayc = ayO := (by injection aBj);replace at7 := ah HB.out at7;replace aw1 := eq_true aw1;replace aw2 := eq_true aw2;go_wp2;go_roundg k2
         case measure => have := HJ2.out; have := Rq.out; omega
         case rel => exact ⟨(wrap64 (xM + 1)), (by first | rfl | (simp; done) | (simp [*]; done)), H', ⟨by have := HJ2.out; have := Rq.out; omega⟩, ⟨by (with_reducible repeat (first | refine ax ?_ _ | refine az ?_ | refine au ?_ _)); exact asb.out⟩, ⟨bO HB⟩⟩
      ·rw [if_neg c8] at H;exact absurd H (by simp)
     ·rw [if_neg c7] at H;have uy : decide (xM < (l1.length : Int)) = false := decide_eq_false c7;clear c7;obtain rfl := Option.some.inj H;go_wp2;go_ret;exact ⟨by first | rfl | (simp [aW, aX] <;> rfl) | (simp [*, aW, aX] <;> rfl), bO HB⟩
def apQ.f (aR : Int) (iR : Int) (vX : Int) (sM : Int) (Gm : Int) (Hr : Int) : Option (List Int) := if aR = 3 then (some (([vX] : List Int))) else (if aR = 4 then (some (([vX, sM] : List Int))) else (some ([] : List Int)))
set_option maxHeartbeats 8000000 in
set_option maxRecDepth 100000 in
theorem apQ.calls (aR : Int) (iR : Int) (vX : Int) (sM : Int) (Gm : Int) (Hr : Int) (r : List Int) (w : World) (h : apQ.f aR iR vX sM Gm Hr = some r) :
  Calls Try.prog 93 #[.agg #[.int .i64 aR, .int .i64 iR, .int .i64 vX, .int .i64 sM, .int .i64 Gm, .int .i64 Hr]] w fun e w' => ∃ Pk : Value, e = .returned (Pk) ∧ Kd.R (Kd.int .i64) 3 w' w.heap.size (fun _ => True) Pk r ∧ Below w.heap.size w w' := by
 have azj := Try.underlying75;have HB := aa.mk (Below.refl w.heap.size w);have H : (if aR = 3 then (some (([vX] : List Int))) else (if aR = 4 then (some (([vX, sM] : List Int))) else (some ([] : List Int)))) = some r := h;clear h;by_cases c2 : aR = 3
 ·rw [if_pos c2] at H;have aK1 : (aR == 3) = true := beq_iff_eq.mpr c2;have aK2 : (aR != 3) = false := bne_eq_false_iff_eq.mpr c2;clear c2;obtain ⟨aK3, awc⟩ : ∃ y_ : List Int, y_ = (([vX] : List Int)) := ⟨_, rfl⟩;replace H : (some aK3) = some r := by first | (rw [awc]; with_reducible exact H) | (have Gn := (Option.bind_some _ _).symm.trans H; rw [awc]; with_reducible exact Gn) | (have Gn := (Option.bind_some _ _).symm.trans H; with_reducible exact Gn) | with_reducible exact H | (rw [awc]; exact H) | exact H
  have aAB := aa.mk awc;clear awc;obtain rfl := Option.some.inj H;go_enter Try.func93, Try.ntmps93
  go_wp2_with (first | ((with_reducible refine bM (N := 1) rfl ?_); refine bG ?hg (N := 1) ?hd (cs := #[.int .i64 aR, .int .i64 iR, .int .i64 vX, .int .i64 sM, .int .i64 Gm, .int .i64 Hr]) (t := 75) ?hr ?_; (case hd => rfl); (case hg => rfl); (case hr => first | (go_simp; done) | (go_simp; rfl)); intro aqA hg w3 bR hb; have bP := aa.mk (aM (bO HB) hb); have bQ := aa.mk (bR); have bT := aa.mk ((by rw [hg]; exact (aK (bO HB)) : w.heap.size ≤ aqA)); have di := aa.mk ((by rw [hg]; exact (aK (bO HB)) : w.heap.size ≤ aqA)); clear HB; have HB := bP; have aqc := bQ; have aAC := bT; have aAD := di; clear bP bQ bT di; clear hb bR hg; have aK4 : w3.cell? ⟨aqA, 0, none⟩ = some (.int .i64 aR) := (ae aqc.out 0).trans rfl; have aK5 : w3.cell? ⟨aqA, 1, none⟩ = some (.int .i64 iR) := (ae aqc.out 1).trans rfl; have aK6 : w3.cell? ⟨aqA, 2, none⟩ = some (.int .i64 vX) := (ae aqc.out 2).trans rfl; have aK7 : w3.cell? ⟨aqA, 3, none⟩ = some (.int .i64 sM) := (ae aqc.out 3).trans rfl; have aK8 : w3.cell? ⟨aqA, 4, none⟩ = some (.int .i64 Gm) := (ae aqc.out 4).trans rfl; have aK9 : w3.cell? ⟨aqA, 5, none⟩ = some (.int .i64 Hr) := (ae aqc.out 5).trans rfl; have aLa := ai aqc.out 0; have aLb := ai aqc.out 1; have aLc := ai aqc.out 2; have aLd := ai aqc.out 3; have aLe := ai aqc.out 4; have aLf := ai aqc.out 5) | ((with_reducible refine bM (N := 9) rfl ?_); refine Kd.Si (Kd.int .i64) _ 3 ?hg (N := 9) ?hd (xs := ([vX] : List Int)) (inner := [.int .i64 vX]) (ok := fun _ => True) (lV := fun _ => True) ?hr ?hp (fun _ hk => hk) trivial (Below.refl _ _) (Nat.le_refl _) (by simp) ?_; (case hd => rfl); (case hg => rfl); (case hr => first | (go_simp; done) | (go_simp; rfl)); (case hp => exact (fJ.one (show Kd.M (Kd.int .i64) _ _ _ vX [.int .i64 vX] from rfl) (fJ.none _ _))); intro aPZ w5 ho6 hb hg_ UT; clear hg_ UT; (first | rw [← aAB.out] at ho6 | (simp only [Int.reduceToNat] at ho6; rw [← aAB.out] at ho6)); have bP := aa.mk (Kd.iL ho6 (aK (bO HB))); have bQ := aa.mk (aC (bk aqc) hb); have bT := aa.mk (aM (bO HB) hb); clear aqc; clear HB; have aD1 := bP; have aqc := bQ; have HB := bT; clear bP bQ bT; clear hb ho6))
  go_ret;exact ⟨_, by first | rfl | (simp [aW, aX] <;> rfl) | (simp [*, aW, aX] <;> rfl), by (with_reducible repeat (first | apply Kd.ay5 | apply Kd.eu | apply Kd.aaH)); exact aD1.out, bO HB⟩
 ·rw [if_neg c2] at H;have aK1 : (aR == 3) = false := beq_eq_false_iff_ne.mpr c2;have aK2 : (aR != 3) = true := bne_iff_ne.mpr c2;by_cases c7 : aR = 4
  ·rw [if_pos c7] at H;have uy : (aR == 4) = true := beq_iff_eq.mpr c7;have aBk : (aR != 4) = false := bne_eq_false_iff_eq.mpr c7;clear c7;obtain ⟨aLg, awd⟩ : ∃ y_ : List Int, y_ = (([vX, sM] : List Int)) := ⟨_, rfl⟩;replace H : (some aLg) = some r := by first | (rw [awd]; with_reducible exact H) | (have Gn := (Option.bind_some _ _).symm.trans H; rw [awd]; with_reducible exact Gn) | (have Gn := (Option.bind_some _ _).symm.trans H; with_reducible exact Gn) | with_reducible exact H | (rw [awd]; exact H) | exact H
   have aAE := aa.mk awd;clear awd;obtain rfl := Option.some.inj H;go_enter Try.func93, Try.ntmps93
   go_wp2_with (first | ((with_reducible refine bM (N := 1) rfl ?_); refine bG ?hg (N := 1) ?hd (cs := #[.int .i64 aR, .int .i64 iR, .int .i64 vX, .int .i64 sM, .int .i64 Gm, .int .i64 Hr]) (t := 75) ?hr ?_; (case hd => rfl); (case hg => rfl); (case hr => first | (go_simp; done) | (go_simp; rfl)); intro aqA hg w8 bR hb; have bP := aa.mk (aM (bO HB) hb); have bQ := aa.mk (bR); have bT := aa.mk ((by rw [hg]; exact (aK (bO HB)) : w.heap.size ≤ aqA)); have di := aa.mk ((by rw [hg]; exact (aK (bO HB)) : w.heap.size ≤ aqA)); clear HB; have HB := bP; have aqc := bQ; have aAC := bT; have aAD := di; clear bP bQ bT di; clear hb bR hg; have nP : w8.cell? ⟨aqA, 0, none⟩ = some (.int .i64 aR) := (ae aqc.out 0).trans rfl; have nQ : w8.cell? ⟨aqA, 1, none⟩ = some (.int .i64 iR) := (ae aqc.out 1).trans rfl; have aiD : w8.cell? ⟨aqA, 2, none⟩ = some (.int .i64 vX) := (ae aqc.out 2).trans rfl; have aiE : w8.cell? ⟨aqA, 3, none⟩ = some (.int .i64 sM) := (ae aqc.out 3).trans rfl; have aiF : w8.cell? ⟨aqA, 4, none⟩ = some (.int .i64 Gm) := (ae aqc.out 4).trans rfl; have aLh : w8.cell? ⟨aqA, 5, none⟩ = some (.int .i64 Hr) := (ae aqc.out 5).trans rfl; have nR := ai aqc.out 0; have nS := ai aqc.out 1; have aiG := ai aqc.out 2; have aiH := ai aqc.out 3; have aiI := ai aqc.out 4; have aLi := ai aqc.out 5) | ((with_reducible refine bM (N := 16) rfl ?_); refine Kd.Si (Kd.int .i64) _ 3 ?hg (N := 16) ?hd (xs := ([vX, sM] : List Int)) (inner := [.int .i64 vX, .int .i64 sM]) (ok := fun _ => True) (lV := fun _ => True) ?hr ?hp (fun _ hk => hk) trivial (Below.refl _ _) (Nat.le_refl _) (by simp) ?_; (case hd => rfl); (case hg => rfl); (case hr => first | (go_simp; done) | (go_simp; rfl)); (case hp => exact (fJ.one (show Kd.M (Kd.int .i64) _ _ _ vX [.int .i64 vX] from rfl) (fJ.one (show Kd.M (Kd.int .i64) _ _ _ sM [.int .i64 sM] from rfl) (fJ.none _ _)))); intro aP0 Io ayR hb hg_ UT; clear hg_ UT; (first | rw [← aAE.out] at ayR | (simp only [Int.reduceToNat] at ayR; rw [← aAE.out] at ayR)); have bP := aa.mk (Kd.iL ayR (aK (bO HB))); have bQ := aa.mk (aC (bk aqc) hb); have bT := aa.mk (aM (bO HB) hb); clear aqc; clear HB; have aD2 := bP; have aqc := bQ; have HB := bT; clear bP bQ bT; clear hb ayR))
   go_ret;exact ⟨_, by first | rfl | (simp [aW, aX] <;> rfl) | (simp [*, aW, aX] <;> rfl), by (with_reducible repeat (first | apply Kd.ay5 | apply Kd.eu | apply Kd.aaH)); exact aD2.out, bO HB⟩
  ·rw [if_neg c7] at H;have uy : (aR == 4) = false := beq_eq_false_iff_ne.mpr c7;have aBk : (aR != 4) = true := bne_iff_ne.mpr c7;obtain rfl := Option.some.inj H;go_enter Try.func93, Try.ntmps93
   go_wp2_with (first | ((with_reducible refine bM (N := 1) rfl ?_); refine bG ?hg (N := 1) ?hd (cs := #[.int .i64 aR, .int .i64 iR, .int .i64 vX, .int .i64 sM, .int .i64 Gm, .int .i64 Hr]) (t := 75) ?hr ?_; (case hd => rfl); (case hg => rfl); (case hr => first | (go_simp; done) | (go_simp; rfl)); intro aqA hg w12 bR hb; have bP := aa.mk (aM (bO HB) hb); have bQ := aa.mk (bR); have bT := aa.mk ((by rw [hg]; exact (aK (bO HB)) : w.heap.size ≤ aqA)); have di := aa.mk ((by rw [hg]; exact (aK (bO HB)) : w.heap.size ≤ aqA)); clear HB; have HB := bP; have aqc := bQ; have aAC := bT; have aAD := di; clear bP bQ bT di; clear hb bR hg; have yT : w12.cell? ⟨aqA, 0, none⟩ = some (.int .i64 aR) := (ae aqc.out 0).trans rfl; have yU : w12.cell? ⟨aqA, 1, none⟩ = some (.int .i64 iR) := (ae aqc.out 1).trans rfl; have akB : w12.cell? ⟨aqA, 2, none⟩ = some (.int .i64 vX) := (ae aqc.out 2).trans rfl; have akC : w12.cell? ⟨aqA, 3, none⟩ = some (.int .i64 sM) := (ae aqc.out 3).trans rfl; have akD : w12.cell? ⟨aqA, 4, none⟩ = some (.int .i64 Gm) := (ae aqc.out 4).trans rfl; have akE : w12.cell? ⟨aqA, 5, none⟩ = some (.int .i64 Hr) := (ae aqc.out 5).trans rfl; have yV := ai aqc.out 0; have yX := ai aqc.out 1; have akI := ai aqc.out 2; have akJ := ai aqc.out 3; have akK := ai aqc.out 4; have akL := ai aqc.out 5))
   go_ret;exact ⟨_, by first | rfl | (simp [aW, aX] <;> rfl) | (simp [*, aW, aX] <;> rfl), by first | exact Kd.qf _ _ _ _ _ | exact Kd.xY _ _ _ _ _ | exact Kd.xZ _ _ _ _ _ | exact Kd.xS _ _ _ _ _ | exact Kd.xW _ _ _ _ _, bO HB⟩
end Go.Proofs.Ytamimodkcbbpmaa.Pr
end
