/- XRef F35 F45 F26 F27 XLawC PA: a part of the proof of the row of DerivationTotalOrder; no conditions. -/
import Derived.Test.YtamimodkcbbpmaaG6
import Derived.Test.YtamimodkcbbpmaaG2
import Derived.Test.YtamimodkcbbpmaaG5
import Derived.Test.YtamimodkcbbpmaaG3
import Derived.Test.YtamimodkcbbpmaaG4
section
/- emendateref29.Solve: the walk. -/
namespace Go.Proofs.Ytamimodkcbbpmaa.Pr
open Go.RowKit Go.Proofs.YtamimodkcbbpmaaW.PrintWords Go.Proofs.YtamimodkcbbpmaaW.PrintLast Go.Proofs.YtamimodkcbbpmaaXW Go.Proofs.YtamimodkcbbpmaaXM
set_option linter.unusedVariables false
set_option linter.unusedSimpArgs false

structure RC where
  w0 : World
  b : Nat
  n : Nat
  A : Option Addr
  m : Nat
  c : Nat
  gv : Nat
  cv : Nat
  ge : Nat
  ce : Nat
/-- The reference's rows in memory. -/
structure RS (X : RC) (w : World) (vs : List S34) (ed : List Int) : Prop where
  hB : Below X.w0.heap.size X.w0 w
  hb : w.heap[X.b]? = some (.cells #[.int .i64 (X.n : Nat), .slice X.A X.m X.c] 24 (0, 0))
  hV : Kd.R k34 34 w X.w0.heap.size (fun _ => True) (.slice (some ⟨X.gv, 0, none⟩) X.n X.cv) vs
  hE : Kd.R (Kd.int .i64) 3 w X.w0.heap.size (fun _ => True) (.slice (some ⟨X.ge, 0, none⟩) X.n X.ce) ed
section
variable {X : RC} {w w1 : World} {vs vs' : List S34} {ed ed' : List Int}
theorem RS.below (h : RS X w vs ed) (hb : Below w.heap.size w w1) : RS X w1 vs ed := ⟨below_step h.hB hb, blk_below h.hb hb, Kd.R_below h.hV hb, Kd.R_below h.hE hb⟩
theorem RS.setV (h : RS X w vs ed) (hV : Kd.R k34 34 w1 X.w0.heap.size (fun _ => True) (.slice (some ⟨X.gv, 0, none⟩) X.n X.cv) vs') (hg : w.grownBy w1 (some X.gv)) : RS X w1 vs' ed := by
  obtain ⟨inner, ho⟩ := Kd.R_own h.hV
  exact ⟨pw_below_grown h.hB _ h.hB.size hg (fun k hk => own_base ho k hk), blk_grown h.hb hg (Kd.R_ne h.hV h.hb (by decide)), hV, Kd.R_over h.hE h.hV (by decide) hg⟩
theorem RS.setE (h : RS X w vs ed) (hE : Kd.R (Kd.int .i64) 3 w1 X.w0.heap.size (fun _ => True) (.slice (some ⟨X.ge, 0, none⟩) X.n X.ce) ed') (hg : w.grownBy w1 (some X.ge)) : RS X w1 vs ed' := by
  obtain ⟨inner, ho⟩ := Kd.R_own h.hE
  exact ⟨pw_below_grown h.hB _ h.hB.size hg (fun k hk => own_base ho k hk), blk_grown h.hb hg (Kd.R_ne h.hE h.hb (by decide)), Kd.R_over h.hV h.hE (by decide) hg, hE⟩
end
def R38.T14 : Bool × List (List Nat × List Nat) := (true, [([], []), ([0], [0]), ([], []), ([], []), ([2, 3], [2, 3]), ([1, 4, 4], [1, 4]), ([], []), ([6, 5, 5, 0, 1, 2, 3, 4, 5, 6], [5, 6])])
def R38.B14 : List Nat := [0, 1, 0, 0, 12, 31, 0, 127]
theorem R38.tab14 : rtab .any (opsOf Try.f38 14) = R38.T14 := by kernel_rfl
theorem R38.bits14 : waitsOk R38.T14.2 R38.B14 = true := by kernel_rfl
def R38.T15 : Bool × List (List Nat × List Nat) := (true, [([], []), ([], []), ([], []), ([2], [2]), ([1, 3], [1, 3]), ([4], [4]), ([0, 5], [0, 5])])
def R38.B15 : List Nat := [0, 0, 0, 4, 14, 30, 63]
theorem R38.tab15 : rtab .any (opsOf Try.f38 15) = R38.T15 := by kernel_rfl
theorem R38.bits15 : waitsOk R38.T15.2 R38.B15 = true := by kernel_rfl
def R38.T23 : Bool × List (List Nat × List Nat) := (true, [([], []), ([0], [0]), ([1], [1]), ([2], [2]), ([3], [3]), ([4, 3], [3, 4]), ([3], [3]), ([3], [3]), ([6, 7, 3, 3], [3, 6, 7]), ([5, 8, 8, 3], [3, 5, 8]), ([3], [3]), ([9, 10, 3], [3, 9, 10]), ([3, 11], [3, 11])])
def R38.B23 : List Nat := [0, 1, 3, 7, 15, 31, 15, 15, 207, 511, 15, 2047, 4095]
theorem R38.tab23 : rtab .any (opsOf Try.f38 23) = R38.T23 := by kernel_rfl
theorem R38.bits23 : waitsOk R38.T23.2 R38.B23 = true := by kernel_rfl
set_option maxRecDepth 100000 in
set_option maxHeartbeats 8000000 in
theorem ref_calls (n : Nat) (A : Option Addr) (c : Nat) (es : List S54) (w : World) (hC : Kd.C k54 w A es.length es) (hn : n ≤ 1000) (he : es.length ≤ 1000) (hok : okE n es) (hcst : okC es) (hT : ∀ e, e ∈ es → e.f1.length ≤ 100) :
    Calls Try.prog 38 #[.agg #[.int .i64 (n : Nat), .slice A es.length c]] w fun e w' => ∃ v0_ v1_, e = .returned (.tuple #[v0_, v1_]) ∧ Kd.R k34 34 w' w.heap.size (fun _ => True) v0_ (solV n es) ∧ Kd.R (Kd.int .i64) 3 w' w.heap.size (fun _ => True) v1_ (solE n es) ∧ Below w.heap.size w w' := by
  have HC := Aside0.mk hC
  have HOK := Aside0.mk hok
  have HCS := Aside0.mk hcst
  have HT := Aside0.mk hT
  clear hC hok hcst hT
  go_enter Try.func38, Try.ntmps38
  go_upto_region 1 with (fail)
  have hA0 := h_alloc54 w (.cells #[.int .i64 (n : Nat), .slice A es.length c] 24)
  have HB := Aside0.mk hA0.1
  have hb1 := hA0.2
  obtain ⟨b1, e1⟩ : ∃ b1, b1 = w.heap.size := ⟨_, rfl⟩
  rw [← e1] at hb1 ⊢
  clear hA0 e1
  generalize (w.alloc (.cells #[.int .i64 (n : Nat), .slice A es.length c] 24)) = wA at *
  have s0 : wA.cell? ⟨b1, 0, none⟩ = some (.int .i64 (n : Nat)) := by rw [blk_cell hb1 0]; rfl
  have HB1 := Aside0.mk hb1
  clear hb1
  go_upto_region 2 with (first | ((with_reducible refine gate_dst (N := 16) rfl ?_); refine Kd.R_make k34 w.heap.size 34 rfl (N := 16) rfl 43 _ _ rfl (n : Int) rfl rfl Try.underlying43 (.agg #[.int .i64 0, .int .i64 0]) 16 info34 rfl (by decide) (by omega) z34 (ok := fun k => wA.heap.size ≤ k) (okp := fun k => wA.heap.size ≤ k) (k34_mkM _ _ _ z34) (fun _ hk => hk) (Nat.le_refl _) (by omega) (by omega) HB.out HB.out.size ?_; intro v16 w6 hV hB6 hg6 hat; obtain ⟨gv, hbv, hlv⟩ := hat; obtain ⟨cv, rfl⟩ := R_formb hV hbv; rw [Int.toNat_natCast, List.length_replicate] at hV; have h6 := below_none hg6; have HV := Aside0.mk hV; have H6 := Aside0.mk h6; have HB6 := Aside0.mk hB6; have s06 := pw_cell_below h6 s0; clear hV h6 hB6 hg6 hbv))
  clear s0
  go_upto_region 3 with (first | ((with_reducible refine gate_dst (N := 19) rfl ?_); refine Kd.R_make (Kd.int .i64) w.heap.size 3 rfl (N := 19) rfl 44 _ _ rfl (n : Int) rfl rfl Try.underlying44 (.int .i64 0) 8 info3 rfl (by decide) (by omega) (0 : Int) (ok := fun k => w6.heap.size ≤ k) (okp := fun k => w6.heap.size ≤ k) rfl (fun _ hk => hk) (Nat.le_refl _) (by omega) (by omega) HB6.out HB6.out.size ?_; intro v19 w7 hE hB7 hg7 hat; obtain ⟨ge, hbe, hle⟩ := hat; obtain ⟨ce, rfl⟩ := R_formb hE hbe; rw [Int.toNat_natCast, List.length_replicate] at hE; have h7 := below_none hg7; have HE := Aside0.mk hE; have H7 := Aside0.mk h7; have HB7 := Aside0.mk hB7; clear hE h7 hB7 hg7 hbe))
  have HS0 : Aside0 (RS ⟨w, b1, n, A, es.length, c, gv, cv, ge, ce⟩ w7 (filA n infV z34 0) (filA n (-1 : Int) 0 0)) := ⟨by
    rw [filA_zero, filA_zero]
    exact ⟨HB7.out, blk_below (blk_below HB1.out H6.out) H7.out, Kd.R_mono (Kd.R_below HV.out H7.out) (fun _ _ => trivial), Kd.R_mono HE.out (fun _ _ => trivial)⟩⟩
  clear HV HE HB HB1 H6 H7 HB6 HB7 s06 hlv hle
  go_wp2_with fail
  go_loopg [6] (n + 1) (fun g v6 wr => ∃ i : Nat, v6 = .int .i64 i ∧ Aside0 (i ≤ n) ∧ Aside0 (n - i < g) ∧ Aside0 (RS (⟨w, b1, n, A, es.length, c, gv, cv, ge, ce⟩ : RC) wr (filA n infV z34 i) (filA n (-1 : Int) 0 i)))
  case atStart => exact ⟨0, by go_num, ⟨by omega⟩, ⟨by omega⟩, HS0⟩
  case round =>
    obtain ⟨i, rfl, hi, hg, HS⟩ := hrel
    clear HS0
    have s0 : wr.cell? ⟨b1, 0, none⟩ = some (.int .i64 (n : Nat)) := (by rw [blk_cell HS.out.hb 0]; rfl)
    by_cases hin : i < n
    · have hi1 : i ≤ 1000 := by omega
      have hcs := R34_cells HS.out.hV (i : Int) (by omega) (by show (i : Int) < (n : Int); omega)
      have hst := R34_set HS.out.hV (i : Int) (by omega) (by show (i : Int) < (n : Int); omega) ⟨1099511627776, 0⟩
      simp only [Int.toNat_natCast] at hcs hst
      rw [filA_set n _ _ i hin] at hst
      obtain ⟨l0, l1, f0, f1⟩ := hcs
      have D1 := HS.out.setV hst.1 hst.2
      have hce := scal_cell D1.hE 0 (i : Int) (by omega) (by show (i : Int) < (n : Int); omega)
      have hpe := Kd.R_putg D1.hE (i : Int) (-1)
      simp only [Int.toNat_natCast] at hce hpe
      rw [filA_set n _ _ i hin] at hpe
      have D2 := Aside0.mk (D1.setE hpe.1 hpe.2)
      obtain ⟨e0, ef0⟩ := hce
      clear hst D1 hpe
      go_wp2_with fail
      go_roundg (n - i)
      case measure => have := hg.out; omega
      case rel => exact ⟨i + 1, by go_num, ⟨by omega⟩, ⟨by omega⟩, D2⟩
    · obtain rfl : n = i := by have := hi.out; omega
      rw [filA_end, filA_end] at HS
      have HS0 := HS
      have HP0 := Aside0.mk (Pre.init n es)
      obtain ⟨v0, hv0⟩ : ∃ v0, List.replicate n infV = v0 := ⟨_, rfl⟩
      rw [hv0] at HS0 HP0
      obtain ⟨ed0, hed0⟩ : ∃ ed0, List.replicate n (-1 : Int) = ed0 := ⟨_, rfl⟩
      rw [hed0] at HS0
      have HED0 := Aside0.mk hed0
      clear HS hg hi hv0 hed0
      have hii : ¬ ((n : Int) < (n : Int)) := by omega
      clear hin
      obtain ⟨wO, rfl⟩ : ∃ wO : World, wO = wr := ⟨_, rfl⟩
      obtain ⟨gO, rfl⟩ : ∃ gO : Nat, gO = gk := ⟨_, rfl⟩
      go_wp2_with fail
      go_loopg [7] (mV v0 + 2) (fun g v7 wr => ∃ (mo : Bool) (vs : List S34), v7 = .bool mo ∧ Aside0 (Pre n es vs) ∧ Aside0 (mo = false → Sol n es vs) ∧ Aside0 (mV vs + (if mo then 2 else 1) ≤ g) ∧ Aside0 (RS (⟨w, b1, n, A, es.length, c, gv, cv, ge, ce⟩ : RC) wr vs ed0))
      case atStart => exact ⟨true, v0, rfl, HP0, ⟨fun h => (by cases h)⟩, ⟨Nat.le_refl _⟩, HS0⟩
      case round =>
        obtain ⟨mo, vs, rfl, HP, HSOL, HG, HS⟩ := hrel
        clear HS0 HP0 s0
        cases mo with
        | true =>
          have HS1 := HS
          have HR1 := Aside0.mk (Rnd.zero HP.out)
          have hg2 : mV vs + 2 ≤ gk := by have := HG.out; simpa using this
          clear HS HP HSOL HG
          obtain ⟨g1, rfl⟩ : ∃ g1, gk = g1 + 1 := ⟨gk - 1, by omega⟩
          have b1c : wr.cell? ⟨b1, 1, none⟩ = some (.slice A es.length c) := (by rw [blk_cell HS1.out.hb 1]; rfl)
          obtain ⟨wP, hwP⟩ : ∃ wP : World, wP = wr := ⟨_, rfl⟩
          obtain ⟨v1, hv1⟩ : ∃ v1, v1 = vs := ⟨_, rfl⟩
          rw [← hv1] at HR1 HS1 hg2
          clear hv1
          go_wp2_with fail
          go_loopg [7, 8] (es.length + 1) (fun g v7 v8 wr => ∃ (k : Nat) (mo : Bool) (vs : List S34), v7 = .bool mo ∧ v8 = .int .i64 k ∧ Aside0 (k ≤ es.length) ∧ Aside0 (es.length - k < g) ∧ Aside0 (Rnd n es v1 vs k mo) ∧ Aside0 (RS (⟨w, b1, n, A, es.length, c, gv, cv, ge, ce⟩ : RC) wr vs ed0))
          case atStart => exact ⟨0, false, v1, rfl, by go_num, ⟨by omega⟩, ⟨by omega⟩, HR1, HS1⟩
          case round =>
            obtain ⟨k, mo, vs, rfl, rfl, hk, hg, HR, HS⟩ := hrel
            clear HR1 HS1 b1c hwP
            have b1c : wr.cell? ⟨b1, 1, none⟩ = some (.slice A es.length c) := (by rw [blk_cell HS.out.hb 1]; rfl)
            by_cases hkn : k < es.length
            · obtain ⟨ad, A1, c1, hA, d0, d1, d2, d3, d4, hc1, hC1⟩ := at_T54 HC.out (k : Int) (by omega) (by omega)
              subst hA
              replace d0 := pw_cell_below HS.out.hB d0; replace d1 := pw_cell_below HS.out.hB d1; replace d2 := pw_cell_below HS.out.hB d2; replace d3 := pw_cell_below HS.out.hB d3; replace d4 := pw_cell_below HS.out.hB d4
              obtain ⟨⟨he0, he1⟩, hte, hle⟩ := okE_rd HOK.out (k : Int) (by omega) (by omega)
              obtain ⟨hc0, hc9⟩ := okC_rd HCS.out k hkn
              have HSK := Aside0.mk (fun h => HR.out.skip (k := k) h)
              have HST := Aside0.mk (HR.out.step HCS.out HOK.out hkn)
              obtain ⟨e, he_⟩ : ∃ e, rd_T54 es (k : Int) = e := ⟨_, rfl⟩
              rw [he_] at d0 d1 d2 d3 d4 hc1 hC1 he0 he1 hte hle hc0 hc9 HSK HST
              simp only [Int.toNat_natCast] at d0 d1 d2 d3 d4
              have hvl : vs.length = n := HR.out.pre.len
              have HTR : Aside0 (∀ t, t ∈ e.f1 → 0 ≤ t ∧ t < (vs.length : Int)) := ⟨fun t ht => by rw [hvl]; exact hte t ht⟩
              have HTO := Aside0.mk (tailV_ok HR.out.pre.ok HTR.out)
              have HC1 := Aside0.mk hC1
              obtain ⟨V, hV⟩ : ∃ V, valE vs e = V := ⟨_, rfl⟩
              rw [hV] at HSK HST
              have HV := Aside0.mk hV
              clear he_ hC1 hte hV HR
              go_upto_region 14 with (fail)
              have hA8 := h_alloc54 wr (.cells #[.int .i64 e.f0, .slice A1 e.f1.length c1, .int .i64 e.f2, .int .i64 e.f3.f0, .int .i64 e.f3.f1] 54)
              have HSA := Aside0.mk (HS.out.below hA8.1)
              have H9A := Aside0.mk hA8.2
              obtain ⟨b9, hb9⟩ : ∃ b9, b9 = wr.heap.size := ⟨_, rfl⟩
              rw [← hb9] at H9A ⊢
              clear hb9 hA8 HS d0 d1 d2 d3 d4 b1c
              generalize (wr.alloc (.cells #[.int .i64 e.f0, .slice A1 e.f1.length c1, .int .i64 e.f2, .int .i64 e.f3.f0, .int .i64 e.f3.f1] 54)) = wA at *
              have HSB := Aside0.mk (HSA.out.below (below_drew (Below.refl wA.heap.size wA)))
              have H9 := Aside0.mk (blk_below H9A.out (below_drew (Below.refl wA.heap.size wA)))
              clear HSA H9A
              have h90 : wA.drew.cell? ⟨b9, 0, none⟩ = some (.int .i64 e.f0) := (by rw [blk_cell H9.out 0]; rfl)
              have h91 : wA.drew.cell? ⟨b9, 1, none⟩ = some (.slice A1 e.f1.length c1) := (by rw [blk_cell H9.out 1]; rfl)
              have h92 : wA.drew.cell? ⟨b9, 2, none⟩ = some (.int .i64 e.f2) := (by rw [blk_cell H9.out 2]; rfl)
              have h93 : wA.drew.cell? ⟨b9, 3, none⟩ = some (.int .i64 e.f3.f0) := (by rw [blk_cell H9.out 3]; rfl)
              have h94 : wA.drew.cell? ⟨b9, 4, none⟩ = some (.int .i64 e.f3.f1) := (by rw [blk_cell H9.out 4]; rfl)
              obtain ⟨hvn, hcv, hCV⟩ := Kd.R_reads' HSB.out.hV
              have HCV := Aside0.mk hCV
              have HCE := Aside0.mk (Kd.C_below HC1.out HSB.out.hB)
              have HBW := Aside0.mk (Below.refl wA.drew.heap.size wA.drew)
              clear hCV hvn HC1
              refine start_ (n := 8) (S := fun w' => w'.cell? ⟨b9, 0, none⟩ = some (.int .i64 e.f0) ∧ w'.cell? ⟨b9, 1, none⟩ = some (.slice A1 e.f1.length c1) ∧ w'.cell? ⟨b9, 2, none⟩ = some (.int .i64 e.f2) ∧ w'.cell? ⟨b9, 3, none⟩ = some (.int .i64 e.f3.f0) ∧ w'.cell? ⟨b9, 4, none⟩ = some (.int .i64 e.f3.f1)) (ds := []) #[false, false, false, false, false, false, false, false] (by kernel_rfl) rfl rfl ⟨h90, h91, h92, h93, h94⟩ (fun hHeld => ?_)
              refine with_tabW R38.tab14 R38.bits14 (fun HT_ HW_ => ?_)
              refine bulk_ (fuel := 4) [(0, 46), (1, 47), (2, 48), (3, 49)] #[true, true, true, true, false, false, false, false] (bulkB_of HT_.out HW_.out _ _ _ (by kernel_rfl)) rfl (fun _ _ _ _ _ h => h) hHeld (a' := ?_) ?_ ?_
              rotate_left
              · iterate 4
                  refine chain_cons (v := ?_) (a1 := ?_) rfl rfl (Or.inl ⟨by rfl, ?_⟩) ?_ ?_
                  rotate_left 2
                  · rintro w' ⟨s0, s1, s2, s3, s4⟩
                    go_simp
                    with_reducible rfl
                  · simp only [Act.put, List.setIfInBounds_toArray, List.set_cons_zero, List.set_cons_succ, i64_w, i32_w]
                    rfl
                exact chain_nil
              clear hHeld h90 h91 h92 h93 h94
              generalize wA.drew = wB at *
              refine join_ (σ := (Option Addr × Nat) × Nat) 1 #[true, true, true, true, true, true, true, false] (fun s => [(50, .slice s.1.1 (tailV vs e.f1).length s.1.2), (51, .agg #[.int .i64 V.f0, .int .i64 V.f1]), (10, .pointer (some ⟨s.2, 0, none⟩))]) (fun s w' => Below wB.heap.size wB w' ∧ w'.heap[s.2]? = some (.cells #[.int .i64 0, .int .i64 0] 34 (0, 0)) ∧ wB.heap.size ≤ s.2) ?hcont (fun hc => ?_)
              rotate_left
              refine two_ (fuel := 3) (i := 4) (j := 6) #[true, true, true, true, true, false, false, false] #[true, true, true, true, false, false, true, false] rfl rfl rfl rfl (two_of HT_.out (by kernel_rfl)) (by decide) (by decide) (fun K hK => ?_) (fun K hK => ?_)
              · refine call_ (N := some 50) 63 #[.agg #[.int .i64 e.f0, .slice A1 e.f1.length c1, .int .i64 e.f2, .int .i64 e.f3.f0, .int .i64 e.f3.f1], .slice (some ⟨gv, 0, none⟩) n cv] (by rfl) rfl ?_ ?_
                · have he_ := enters_ Try.func63 (by kernel_rfl) rfl #[.agg #[.int .i64 e.f0, .slice A1 e.f1.length c1, .int .i64 e.f2, .int .i64 e.f3.f0, .int .i64 e.f3.f1], .slice (some ⟨gv, 0, none⟩) n cv] wB
                  unfold execOp
                  simp [resolve, Deferred.ofValue, invoke, Act.eval, he_]
                have ct := emendateref29_Tails.calls (e.f1.length + 1) e.f0 A1 c1 e.f1 e.f2 e.f3.f0 e.f3.f1 (some ⟨gv, 0, none⟩) cv vs (tailV vs e.f1) wB (Kd.C_below HCE.out HBW.out) hc1 (Kd.C_below HCV.out HBW.out) (by rw [hvl]; exact hcv) (refTails_eq vs e HTR.out hle)
                rw [hvl] at ct
                refine ct.mono ?_
                rintro x5 w20_4 ⟨v5, rfl, hR5, hbw⟩
                obtain ⟨A5, c5, rfl, hl5, hC5⟩ := Kd.R_reads hR5
                have HC5 := Aside0.mk hC5
                clear hR5 hC5
                refine ⟨_, rfl, ?_⟩
                have HBW0 := HBW; clear HBW; have HBW := Aside0.mk (below_step HBW0.out hbw); clear HBW0 hbw
                have h9W := blk_below H9.out HBW.out
                refine hK.out _ _ ⟨(by rw [blk_cell h9W 0]; rfl), (by rw [blk_cell h9W 1]; rfl), (by rw [blk_cell h9W 2]; rfl), (by rw [blk_cell h9W 3]; rfl), (by rw [blk_cell h9W 4]; rfl)⟩ (fun hHeld => norm_ (by simp only [Act.put, List.setIfInBounds_toArray, List.set_cons_zero, List.set_cons_succ]; rfl) ?_)
                clear hK K hHeld h9W
                refine two_ (fuel := 2) (i := 5) (j := 6) #[true, true, true, true, true, true, false, false] #[true, true, true, true, true, false, true, false] rfl rfl rfl rfl (two_of HT_.out (by kernel_rfl)) (by decide) (by decide) (fun K hK => ?_) (fun K hK => ?_)
                · refine call_ (N := some 51) 62 #[.int .i64 e.f2, .slice A5 (tailV vs e.f1).length c5] (by rfl) rfl ?_ ?_
                  · have he_ := enters_ Try.func62 (by kernel_rfl) rfl #[.int .i64 e.f2, .slice A5 (tailV vs e.f1).length c5] w20_4
                    unfold execOp
                    simp [resolve, Deferred.ofValue, invoke, Act.eval, he_]
                  refine (emendateref29_Combine.calls ((tailV vs e.f1).length + 1) e.f2 A5 c5 (tailV vs e.f1) (combV e.f2 (tailV vs e.f1)).f0 (combV e.f2 (tailV vs e.f1)).f1 w20_4 HC5.out hl5 (refCombine_eq e.f2 (tailV vs e.f1) (by rw [tailV_length]; exact hle) hc0 hc9 HTO.out)).mono ?_
                  rintro x5 w21_5 ⟨rfl, hbw⟩
                  rw [show combV e.f2 (tailV vs e.f1) = V from HV.out]
                  refine ⟨_, rfl, ?_⟩
                  have HBW0 := HBW; clear HBW; have HBW := Aside0.mk (below_step HBW0.out hbw); clear HBW0 hbw
                  have h9W := blk_below H9.out HBW.out
                  refine hK.out _ _ ⟨(by rw [blk_cell h9W 0]; rfl), (by rw [blk_cell h9W 1]; rfl), (by rw [blk_cell h9W 2]; rfl), (by rw [blk_cell h9W 3]; rfl), (by rw [blk_cell h9W 4]; rfl)⟩ (fun hHeld => norm_ (by simp only [Act.put, List.setIfInBounds_toArray, List.set_cons_zero, List.set_cons_succ]; rfl) ?_)
                  clear hK K hHeld h9W
                  refine one_ (fuel := 1) (i := 6) #[true, true, true, true, true, true, true, false] rfl rfl (one_of HT_.out (by kernel_rfl)) (by decide) (fun K hK => ?_)
                  · refine value_ (N := some 10) (w1 := w21_5.alloc (.cells #[.int .i64 0, .int .i64 0] 34)) (v := .pointer (some ⟨w21_5.heap.size, 0, none⟩)) (by rfl) rfl (by first | (go_simp; done) | (go_simp; rfl)) ?_
                    have hal := h_alloc54 w21_5 (.cells #[.int .i64 0, .int .i64 0] 34)
                    obtain ⟨b10, hb10e⟩ : ∃ b10, b10 = w21_5.heap.size := ⟨_, rfl⟩
                    have hbw := hal.1; have h10 := hal.2
                    have hb10 : wB.heap.size ≤ b10 := (by rw [hb10e]; exact HBW.out.size)
                    rw [← hb10e] at h10 ⊢
                    have H10 := Aside0.mk h10
                    clear hb10e hal h10
                    obtain ⟨w22_6, hw6⟩ : ∃ w6, w6 = (w21_5.alloc (.cells #[.int .i64 0, .int .i64 0] 34)) := ⟨_, rfl⟩
                    rw [← hw6] at hbw H10 ⊢
                    clear hw6
                    have HBW0 := HBW; clear HBW; have HBW := Aside0.mk (below_step HBW0.out hbw); clear HBW0 hbw
                    have h9W := blk_below H9.out HBW.out
                    refine hK.out _ _ ⟨(by rw [blk_cell h9W 0]; rfl), (by rw [blk_cell h9W 1]; rfl), (by rw [blk_cell h9W 2]; rfl), (by rw [blk_cell h9W 3]; rfl), (by rw [blk_cell h9W 4]; rfl)⟩ (fun hHeld => norm_ (by simp only [Act.put, List.setIfInBounds_toArray, List.set_cons_zero, List.set_cons_succ]; rfl) ?_)
                    clear hK K hHeld h9W
                    exact norm_ (by simp only [putAll, Act.put, List.setIfInBounds_toArray, List.set_cons_zero, List.set_cons_succ]) (hc ((A5, c5), b10) _ ⟨HBW.out, H10.out, hb10⟩)
                · refine value_ (N := some 10) (w1 := w20_4.alloc (.cells #[.int .i64 0, .int .i64 0] 34)) (v := .pointer (some ⟨w20_4.heap.size, 0, none⟩)) (by rfl) rfl (by first | (go_simp; done) | (go_simp; rfl)) ?_
                  have hal := h_alloc54 w20_4 (.cells #[.int .i64 0, .int .i64 0] 34)
                  obtain ⟨b10, hb10e⟩ : ∃ b10, b10 = w20_4.heap.size := ⟨_, rfl⟩
                  have hbw := hal.1; have h10 := hal.2
                  have hb10 : wB.heap.size ≤ b10 := (by rw [hb10e]; exact HBW.out.size)
                  rw [← hb10e] at h10 ⊢
                  have H10 := Aside0.mk h10
                  clear hb10e hal h10
                  obtain ⟨w21_6, hw6⟩ : ∃ w6, w6 = (w20_4.alloc (.cells #[.int .i64 0, .int .i64 0] 34)) := ⟨_, rfl⟩
                  rw [← hw6] at hbw H10 ⊢
                  clear hw6
                  replace HC5 := Aside0.mk (Kd.C_below HC5.out hbw)
                  have HBW0 := HBW; clear HBW; have HBW := Aside0.mk (below_step HBW0.out hbw); clear HBW0 hbw
                  have h9W := blk_below H9.out HBW.out
                  refine hK.out _ _ ⟨(by rw [blk_cell h9W 0]; rfl), (by rw [blk_cell h9W 1]; rfl), (by rw [blk_cell h9W 2]; rfl), (by rw [blk_cell h9W 3]; rfl), (by rw [blk_cell h9W 4]; rfl)⟩ (fun hHeld => norm_ (by simp only [Act.put, List.setIfInBounds_toArray, List.set_cons_zero, List.set_cons_succ]; rfl) ?_)
                  clear hK K hHeld h9W
                  refine one_ (fuel := 1) (i := 5) #[true, true, true, true, true, true, true, false] rfl rfl (one_of HT_.out (by kernel_rfl)) (by decide) (fun K hK => ?_)
                  · refine call_ (N := some 51) 62 #[.int .i64 e.f2, .slice A5 (tailV vs e.f1).length c5] (by rfl) rfl ?_ ?_
                    · have he_ := enters_ Try.func62 (by kernel_rfl) rfl #[.int .i64 e.f2, .slice A5 (tailV vs e.f1).length c5] w21_6
                      unfold execOp
                      simp [resolve, Deferred.ofValue, invoke, Act.eval, he_]
                    refine (emendateref29_Combine.calls ((tailV vs e.f1).length + 1) e.f2 A5 c5 (tailV vs e.f1) (combV e.f2 (tailV vs e.f1)).f0 (combV e.f2 (tailV vs e.f1)).f1 w21_6 HC5.out hl5 (refCombine_eq e.f2 (tailV vs e.f1) (by rw [tailV_length]; exact hle) hc0 hc9 HTO.out)).mono ?_
                    rintro x5 w22_5 ⟨rfl, hbw⟩
                    rw [show combV e.f2 (tailV vs e.f1) = V from HV.out]
                    refine ⟨_, rfl, ?_⟩
                    replace H10 := Aside0.mk (blk_below H10.out hbw)
                    have HBW0 := HBW; clear HBW; have HBW := Aside0.mk (below_step HBW0.out hbw); clear HBW0 hbw
                    have h9W := blk_below H9.out HBW.out
                    refine hK.out _ _ ⟨(by rw [blk_cell h9W 0]; rfl), (by rw [blk_cell h9W 1]; rfl), (by rw [blk_cell h9W 2]; rfl), (by rw [blk_cell h9W 3]; rfl), (by rw [blk_cell h9W 4]; rfl)⟩ (fun hHeld => norm_ (by simp only [Act.put, List.setIfInBounds_toArray, List.set_cons_zero, List.set_cons_succ]; rfl) ?_)
                    clear hK K hHeld h9W
                    exact norm_ (by simp only [putAll, Act.put, List.setIfInBounds_toArray, List.set_cons_zero, List.set_cons_succ]) (hc ((A5, c5), b10) _ ⟨HBW.out, H10.out, hb10⟩)
              · refine value_ (N := some 10) (w1 := wB.alloc (.cells #[.int .i64 0, .int .i64 0] 34)) (v := .pointer (some ⟨wB.heap.size, 0, none⟩)) (by rfl) rfl (by first | (go_simp; done) | (go_simp; rfl)) ?_
                have hal := h_alloc54 wB (.cells #[.int .i64 0, .int .i64 0] 34)
                obtain ⟨b10, hb10e⟩ : ∃ b10, b10 = wB.heap.size := ⟨_, rfl⟩
                have hbw := hal.1; have h10 := hal.2
                have hb10 : wB.heap.size ≤ b10 := (by rw [hb10e]; exact HBW.out.size)
                rw [← hb10e] at h10 ⊢
                have H10 := Aside0.mk h10
                clear hb10e hal h10
                obtain ⟨w20_6, hw6⟩ : ∃ w6, w6 = (wB.alloc (.cells #[.int .i64 0, .int .i64 0] 34)) := ⟨_, rfl⟩
                rw [← hw6] at hbw H10 ⊢
                clear hw6
                have HBW0 := HBW; clear HBW; have HBW := Aside0.mk (below_step HBW0.out hbw); clear HBW0 hbw
                have h9W := blk_below H9.out HBW.out
                refine hK.out _ _ ⟨(by rw [blk_cell h9W 0]; rfl), (by rw [blk_cell h9W 1]; rfl), (by rw [blk_cell h9W 2]; rfl), (by rw [blk_cell h9W 3]; rfl), (by rw [blk_cell h9W 4]; rfl)⟩ (fun hHeld => norm_ (by simp only [Act.put, List.setIfInBounds_toArray, List.set_cons_zero, List.set_cons_succ]; rfl) ?_)
                clear hK K hHeld h9W
                refine one_ (fuel := 2) (i := 4) #[true, true, true, true, true, false, true, false] rfl rfl (one_of HT_.out (by kernel_rfl)) (by decide) (fun K hK => ?_)
                · refine call_ (N := some 50) 63 #[.agg #[.int .i64 e.f0, .slice A1 e.f1.length c1, .int .i64 e.f2, .int .i64 e.f3.f0, .int .i64 e.f3.f1], .slice (some ⟨gv, 0, none⟩) n cv] (by rfl) rfl ?_ ?_
                  · have he_ := enters_ Try.func63 (by kernel_rfl) rfl #[.agg #[.int .i64 e.f0, .slice A1 e.f1.length c1, .int .i64 e.f2, .int .i64 e.f3.f0, .int .i64 e.f3.f1], .slice (some ⟨gv, 0, none⟩) n cv] w20_6
                    unfold execOp
                    simp [resolve, Deferred.ofValue, invoke, Act.eval, he_]
                  have ct := emendateref29_Tails.calls (e.f1.length + 1) e.f0 A1 c1 e.f1 e.f2 e.f3.f0 e.f3.f1 (some ⟨gv, 0, none⟩) cv vs (tailV vs e.f1) w20_6 (Kd.C_below HCE.out HBW.out) hc1 (Kd.C_below HCV.out HBW.out) (by rw [hvl]; exact hcv) (refTails_eq vs e HTR.out hle)
                  rw [hvl] at ct
                  refine ct.mono ?_
                  rintro x5 w21_4 ⟨v5, rfl, hR5, hbw⟩
                  obtain ⟨A5, c5, rfl, hl5, hC5⟩ := Kd.R_reads hR5
                  have HC5 := Aside0.mk hC5
                  clear hR5 hC5
                  refine ⟨_, rfl, ?_⟩
                  replace H10 := Aside0.mk (blk_below H10.out hbw)
                  have HBW0 := HBW; clear HBW; have HBW := Aside0.mk (below_step HBW0.out hbw); clear HBW0 hbw
                  have h9W := blk_below H9.out HBW.out
                  refine hK.out _ _ ⟨(by rw [blk_cell h9W 0]; rfl), (by rw [blk_cell h9W 1]; rfl), (by rw [blk_cell h9W 2]; rfl), (by rw [blk_cell h9W 3]; rfl), (by rw [blk_cell h9W 4]; rfl)⟩ (fun hHeld => norm_ (by simp only [Act.put, List.setIfInBounds_toArray, List.set_cons_zero, List.set_cons_succ]; rfl) ?_)
                  clear hK K hHeld h9W
                  refine one_ (fuel := 1) (i := 5) #[true, true, true, true, true, true, true, false] rfl rfl (one_of HT_.out (by kernel_rfl)) (by decide) (fun K hK => ?_)
                  · refine call_ (N := some 51) 62 #[.int .i64 e.f2, .slice A5 (tailV vs e.f1).length c5] (by rfl) rfl ?_ ?_
                    · have he_ := enters_ Try.func62 (by kernel_rfl) rfl #[.int .i64 e.f2, .slice A5 (tailV vs e.f1).length c5] w21_4
                      unfold execOp
                      simp [resolve, Deferred.ofValue, invoke, Act.eval, he_]
                    refine (emendateref29_Combine.calls ((tailV vs e.f1).length + 1) e.f2 A5 c5 (tailV vs e.f1) (combV e.f2 (tailV vs e.f1)).f0 (combV e.f2 (tailV vs e.f1)).f1 w21_4 HC5.out hl5 (refCombine_eq e.f2 (tailV vs e.f1) (by rw [tailV_length]; exact hle) hc0 hc9 HTO.out)).mono ?_
                    rintro x5 w22_5 ⟨rfl, hbw⟩
                    rw [show combV e.f2 (tailV vs e.f1) = V from HV.out]
                    refine ⟨_, rfl, ?_⟩
                    replace H10 := Aside0.mk (blk_below H10.out hbw)
                    have HBW0 := HBW; clear HBW; have HBW := Aside0.mk (below_step HBW0.out hbw); clear HBW0 hbw
                    have h9W := blk_below H9.out HBW.out
                    refine hK.out _ _ ⟨(by rw [blk_cell h9W 0]; rfl), (by rw [blk_cell h9W 1]; rfl), (by rw [blk_cell h9W 2]; rfl), (by rw [blk_cell h9W 3]; rfl), (by rw [blk_cell h9W 4]; rfl)⟩ (fun hHeld => norm_ (by simp only [Act.put, List.setIfInBounds_toArray, List.set_cons_zero, List.set_cons_succ]; rfl) ?_)
                    clear hK K hHeld h9W
                    exact norm_ (by simp only [putAll, Act.put, List.setIfInBounds_toArray, List.set_cons_zero, List.set_cons_succ]) (hc ((A5, c5), b10) _ ⟨HBW.out, H10.out, hb10⟩)
              rintro ⟨⟨A5, c5⟩, b10⟩ wC ⟨hBW, h10, hb10⟩
              refine norm_ (a' := ?_) ?_ ?_
              rotate_left
              · simp only [putAll, Act.put, List.setIfInBounds_toArray, List.set_cons_zero, List.set_cons_succ]
                rfl
              have c100 : wC.cell? ⟨b10, 0, none⟩ = some (.int .i64 0) := (by rw [blk_cell h10 0]; rfl)
              have c101 : wC.cell? ⟨b10, 1, none⟩ = some (.int .i64 0) := (by rw [blk_cell h10 1]; rfl)
              have f100 := blk_frozen h10 0
              have f101 := blk_frozen h10 1
              obtain ⟨wD, hwD⟩ : ∃ wD, wD = (wC.setCell ⟨b10, 0, none⟩ (.int .i64 V.f0)).setCell ⟨b10, 1, none⟩ (.int .i64 V.f1) := ⟨_, rfl⟩
              have hBD : Below wB.heap.size wB wD := (by rw [hwD]; exact (hBW.setCell hb10 _).setCell hb10 _)
              have h9D := blk_below H9.out hBD
              have h10D : wD.heap[b10]? = some (.cells #[.int .i64 V.f0, .int .i64 V.f1] 34 (0, 0)) := (by rw [hwD]; simpa using blk_set (blk_set h10 0 (.int .i64 V.f0)) 1 (.int .i64 V.f1))
              have HSD := Aside0.mk (HSB.out.below hBD)
              have H9D := Aside0.mk h9D
              have H10D := Aside0.mk h10D
              clear HBW
              refine one_ (i := 7) (N := none) #[true, true, true, true, true, true, true, true] rfl rfl (one_of HT_.out (by kernel_rfl)) (by decide) (fun K hK => ?_)
              refine skip_ (w1 := wD) (by rfl) rfl ?_ ?_
              · rw [hwD]
                first | (go_simp; done) | (go_simp; rfl)
              refine hK.out _ _ ⟨(by rw [blk_cell h9D 0]; rfl), (by rw [blk_cell h9D 1]; rfl), (by rw [blk_cell h9D 2]; rfl), (by rw [blk_cell h9D 3]; rfl), (by rw [blk_cell h9D 4]; rfl)⟩ (fun hHeld => ?_)
              clear hK K hHeld
              refine done_ (done_of HT_.out (by kernel_rfl)) ?_
              clear hwD hBD h9D h10D c100 c101 f100 f101 h10 hBW hb10
              have hd := below_drew (Below.refl wD.heap.size wD)
              have HSE := Aside0.mk (HSD.out.below hd)
              have H9E := Aside0.mk (blk_below H9D.out hd)
              have H10E := Aside0.mk (blk_below H10D.out hd)
              obtain ⟨g20, g21, _, _⟩ := R34_cells HSE.out.hV e.f0 he0 (by show e.f0 < (n : Int); exact he1)
              obtain ⟨y, hy⟩ : ∃ y, rd_T34 vs e.f0 = y := ⟨_, rfl⟩
              rw [hy] at g20 g21 HSK HST
              have HY := Aside0.mk hy
              have h90 : wD.drew.cell? ⟨b9, 0, none⟩ = some (.int .i64 e.f0) := (by rw [blk_cell H9E.out 0]; rfl)
              have h100 : wD.drew.cell? ⟨b10, 0, none⟩ = some (.int .i64 V.f0) := (by rw [blk_cell H10E.out 0]; rfl)
              have h101 : wD.drew.cell? ⟨b10, 1, none⟩ = some (.int .i64 V.f1) := (by rw [blk_cell H10E.out 1]; rfl)
              clear hd hy HSD H9D H10D HSB H9
              go_upto_region 15 with (fail)
              refine start_ (n := 7) (S := fun w' => w'.cell? ⟨b10, 0, none⟩ = some (.int .i64 V.f0) ∧ w'.cell? ⟨b10, 1, none⟩ = some (.int .i64 V.f1) ∧ w'.cell? ⟨b9, 0, none⟩ = some (.int .i64 e.f0) ∧ w'.cell? ⟨gv, e.f0.toNat * 2, none⟩ = some (.int .i64 y.f0) ∧ w'.cell? ⟨gv, e.f0.toNat * 2 + 1, none⟩ = some (.int .i64 y.f1)) (ds := []) #[false, false, false, false, false, false, false] (by kernel_rfl) rfl rfl ⟨h100, h101, h90, g20, g21⟩ (fun hHeld => ?_)
              refine with_tabW R38.tab15 R38.bits15 (fun HT_ HW_ => ?_)
              refine bulk_ (fuel := 1) [(0, 52), (1, 53), (2, 54), (3, 55), (4, 56), (5, 57)] #[true, true, true, true, true, true, false] (bulkB_of HT_.out HW_.out _ _ _ (by kernel_rfl)) rfl (fun _ _ _ _ _ h => h) hHeld (a' := ?_) ?_ ?_
              rotate_left
              · iterate 6
                  refine chain_cons (v := ?_) (a1 := ?_) rfl rfl (Or.inl ⟨by rfl, ?_⟩) ?_ ?_
                  rotate_left 2
                  · rintro w' ⟨s0, s1, s2, s3, s4⟩
                    go_simp
                    with_reducible rfl
                  · simp only [Act.put, List.setIfInBounds_toArray, List.set_cons_zero, List.set_cons_succ, i64_w, i32_w]
                    rfl
                exact chain_nil
              refine one_ (i := 6) (N := some 58) #[true, true, true, true, true, true, true] rfl rfl (one_of HT_.out (by kernel_rfl)) (by decide) (fun K hK => ?_)
              refine call_ 60 #[.agg #[.int .i64 V.f0, .int .i64 V.f1], .agg #[.int .i64 y.f0, .int .i64 y.f1]] (by rfl) rfl ?_ ?_
              · have he_ := enters_ Try.func60 (by kernel_rfl) rfl #[.agg #[.int .i64 V.f0, .int .i64 V.f1], .agg #[.int .i64 y.f0, .int .i64 y.f1]] wD.drew
                unfold execOp
                simp [resolve, Deferred.ofValue, invoke, Act.eval, he_]
              refine (emendateref29_Less.calls V.f0 V.f1 y.f0 y.f1 (ltV V y) wD.drew (refLess_eq V y)).mono ?_
              rintro x7 w7 ⟨rfl, hB7⟩
              have HB7 := Aside0.mk hB7
              clear hB7
              refine ⟨_, rfl, ?_⟩
              refine hK.out _ _ ⟨pw_cell_below HB7.out h100, pw_cell_below HB7.out h101, pw_cell_below HB7.out h90, pw_cell_below HB7.out g20, pw_cell_below HB7.out g21⟩ (fun hHeld => ?_)
              clear hK K
              refine norm_ (a' := ?_) ?_ ?_
              rotate_left
              · show Act.put _ (some 58) _ = _
                simp only [Act.put, List.setIfInBounds_toArray, List.set_cons_zero, List.set_cons_succ, i64_w, i32_w]
                rfl
              refine done_ (done_of HT_.out (by kernel_rfl)) ?_
              clear h90 h100 h101 g20 g21 hHeld
              have HS7 := Aside0.mk (HSE.out.below HB7.out)
              have H97 := Aside0.mk (blk_below H9E.out HB7.out)
              have H107 := Aside0.mk (blk_below H10E.out HB7.out)
              clear HSE H9E H10E HB7
              obtain ⟨bl, hbl⟩ : ∃ bl, ltV V y = bl := ⟨_, rfl⟩
              rw [hbl]
              have HBL := Aside0.mk hbl
              clear hbl
              cases bl with
              | false =>
                go_wp2_with fail
                go_roundg (es.length - k)
                case measure => have := hg.out; omega
                case rel => exact ⟨k + 1, mo, vs, rfl, by go_num, ⟨by omega⟩, ⟨by omega⟩, ⟨HSK.out HBL.out⟩, HS7⟩
              | true =>
                have h90 : w7.cell? ⟨b9, 0, none⟩ = some (.int .i64 e.f0) := (by rw [blk_cell H97.out 0]; rfl)
                have h100 : w7.cell? ⟨b10, 0, none⟩ = some (.int .i64 V.f0) := (by rw [blk_cell H107.out 0]; rfl)
                have h101 : w7.cell? ⟨b10, 1, none⟩ = some (.int .i64 V.f1) := (by rw [blk_cell H107.out 1]; rfl)
                obtain ⟨g20, g21, gf0, gf1⟩ := R34_cells HS7.out.hV e.f0 he0 (by show e.f0 < (n : Int); exact he1)
                have hst := R34_set HS7.out.hV e.f0 he0 (by show e.f0 < (n : Int); exact he1) V
                have HS8 := Aside0.mk (HS7.out.setV hst.1 hst.2)
                clear hst
                go_wp2_with fail
                go_roundg (es.length - k)
                case measure => have := hg.out; omega
                case rel => exact ⟨k + 1, true, vs.set e.f0.toNat V, rfl, by go_num, ⟨by omega⟩, ⟨by omega⟩, ⟨HST.out HBL.out⟩, HS8⟩
            · obtain rfl : k = es.length := by have := hk.out; omega
              have hkk : ¬ ((es.length : Int) < (es.length : Int)) := by omega
              have hms : mV vs + (if mo then 2 else 1) ≤ g1 := by
                cases mo with
                | true => have := HR.out.yes rfl; simp; omega
                | false => have := (HR.out.no rfl).1; subst this; simp; omega
              go_wp2_with fail
              go_roundg g1
              case measure => omega
              case rel => exact ⟨mo, vs, rfl, ⟨HR.out.pre⟩, ⟨fun h => by subst h; exact HR.out.sol⟩, ⟨hms⟩, HS⟩
        | false =>
          have HSO := Aside0.mk (HSOL.out rfl)
          clear HSOL HG
          have b1c : wr.cell? ⟨b1, 1, none⟩ = some (.slice A es.length c) := (by rw [blk_cell HS.out.hb 1]; rfl)
          have HD0 : Aside0 (Down n es vs es.length ed0) := ⟨by rw [← HED0.out]; exact Down.init n es vs⟩
          have HS1 := HS
          clear HS HP
          obtain ⟨wP, hwP⟩ : ∃ wP : World, wP = wr := ⟨_, rfl⟩
          obtain ⟨gP, hgP⟩ : ∃ gP : Nat, gP = gk := ⟨_, rfl⟩
          go_wp2_with fail
          go_loopg [11] (es.length + 1) (fun g v11 wr => ∃ (i : Nat) (ed : List Int), v11 = .int .i64 ((i : Int) - 1) ∧ Aside0 (i ≤ es.length) ∧ Aside0 (i < g) ∧ Aside0 (Down n es vs i ed) ∧ Aside0 (RS (⟨w, b1, n, A, es.length, c, gv, cv, ge, ce⟩ : RC) wr vs ed))
          case atStart => exact ⟨es.length, ed0, by go_num, ⟨by omega⟩, ⟨by omega⟩, HD0, HS1⟩
          case round =>
            obtain ⟨i, ed, rfl, hi, hg, HD, HS⟩ := hrel
            clear HD0 HS1 b1c hwP hgP
            cases i with
            | zero =>
              have hneg : ¬ (0 : Int) ≤ -1 := by decide
              obtain ⟨h1, h2⟩ := ref_sol HCS.out HOK.out HT.out he HSO.out HD.out
              have h9 := HS.out
              rw [h1, h2] at h9
              have H9 := Aside0.mk h9
              clear h1 h2 h9
              simp only [Int.natCast_zero, Int.zero_sub, Int.ofNat_zero]
              go_wp2_with fail
              go_ret2
              exact ⟨_, _, rfl, H9.out.hV, H9.out.hE, H9.out.hB⟩
            | succ j =>
              rw [show (((j + 1 : Nat) : Int) - 1) = (j : Int) by omega]
              have hjn : j < es.length := by have := hi.out; omega
              have b1c : wr.cell? ⟨b1, 1, none⟩ = some (.slice A es.length c) := (by rw [blk_cell HS.out.hb 1]; rfl)
              obtain ⟨ad, A1, c1, hA, d0, d1, d2, d3, d4, hc1, hC1⟩ := at_T54 HC.out (j : Int) (by omega) (by omega)
              subst hA
              replace d0 := pw_cell_below HS.out.hB d0; replace d1 := pw_cell_below HS.out.hB d1; replace d2 := pw_cell_below HS.out.hB d2; replace d3 := pw_cell_below HS.out.hB d3; replace d4 := pw_cell_below HS.out.hB d4
              obtain ⟨⟨he0, he1⟩, hte, hle⟩ := okE_rd HOK.out (j : Int) (by omega) (by omega)
              obtain ⟨hc0, hc9⟩ := okC_rd HCS.out j hjn
              have HSK := Aside0.mk (fun h => HD.out.skip h)
              have HST := Aside0.mk (fun h => HD.out.step HOK.out hjn h)
              have HTI : Aside0 (Tight es vs j (rd_T54 es (j : Int)).f0 ↔ (rd_T34 vs (rd_T54 es (j : Int)).f0).f0 < 1099511627776 ∧ valE vs (rd_T54 es (j : Int)) = rd_T34 vs (rd_T54 es (j : Int)).f0) := ⟨⟨fun h => h.2, fun h => ⟨rfl, h⟩⟩⟩
              obtain ⟨e, he_⟩ : ∃ e, rd_T54 es (j : Int) = e := ⟨_, rfl⟩
              rw [he_] at d0 d1 d2 d3 d4 hc1 hC1 he0 he1 hte hle hc0 hc9 HSK HST HTI
              simp only [Int.toNat_natCast] at d0 d1 d2 d3 d4
              have hvl : vs.length = n := HSO.out.len
              have HTR : Aside0 (∀ t, t ∈ e.f1 → 0 ≤ t ∧ t < (vs.length : Int)) := ⟨fun t ht => by rw [hvl]; exact hte t ht⟩
              have HTO := Aside0.mk (tailV_ok HSO.out.ok HTR.out)
              have HC1 := Aside0.mk hC1
              obtain ⟨V, hV⟩ : ∃ V, valE vs e = V := ⟨_, rfl⟩
              obtain ⟨y, hy⟩ : ∃ y, rd_T34 vs e.f0 = y := ⟨_, rfl⟩
              rw [hV, hy] at HTI
              have HV := Aside0.mk hV
              have HY := Aside0.mk hy
              clear he_ hC1 hte hV hy
              go_upto_region 22 with (fail)
              have hA8 := h_alloc54 wr (.cells #[.int .i64 e.f0, .slice A1 e.f1.length c1, .int .i64 e.f2, .int .i64 e.f3.f0, .int .i64 e.f3.f1] 54)
              have HSA := Aside0.mk (HS.out.below hA8.1)
              have H12A := Aside0.mk hA8.2
              obtain ⟨b12, hb12⟩ : ∃ b12, b12 = wr.heap.size := ⟨_, rfl⟩
              rw [← hb12] at H12A ⊢
              clear hb12 hA8 HS d0 d1 d2 d3 d4 b1c
              generalize (wr.alloc (.cells #[.int .i64 e.f0, .slice A1 e.f1.length c1, .int .i64 e.f2, .int .i64 e.f3.f0, .int .i64 e.f3.f1] 54)) = wA at *
              obtain ⟨g20, g21, _, _⟩ := R34_cells HSA.out.hV e.f0 he0 (by show e.f0 < (n : Int); exact he1)
              rw [HY.out] at g20 g21
              have h120 : wA.cell? ⟨b12, 0, none⟩ = some (.int .i64 e.f0) := (by rw [blk_cell H12A.out 0]; rfl)
              go_upto_region 23 with (fail)
              have hA8 := h_alloc54 wA (.cells #[.int .i64 y.f0, .int .i64 y.f1] 34)
              have HSB := Aside0.mk (HSA.out.below hA8.1)
              have H12B := Aside0.mk (blk_below H12A.out hA8.1)
              have H13B := Aside0.mk hA8.2
              obtain ⟨b13, hb13⟩ : ∃ b13, b13 = wA.heap.size := ⟨_, rfl⟩
              rw [← hb13] at H13B ⊢
              clear hb13 hA8 HSA H12A h120 g20 g21
              generalize (wA.alloc (.cells #[.int .i64 y.f0, .int .i64 y.f1] 34)) = wD at *
              have hd := below_drew (Below.refl wD.heap.size wD)
              have HSE := Aside0.mk (HSB.out.below hd)
              have H12 := Aside0.mk (blk_below H12B.out hd)
              have H13 := Aside0.mk (blk_below H13B.out hd)
              have h130 : wD.drew.cell? ⟨b13, 0, none⟩ = some (.int .i64 y.f0) := (by rw [blk_cell H13.out 0]; rfl)
              clear hd HSB H12B H13B
              by_cases hyf : y.f0 < 1099511627776
              · have h131 : wD.drew.cell? ⟨b13, 1, none⟩ = some (.int .i64 y.f1) := (by rw [blk_cell H13.out 1]; rfl)
                have h120 : wD.drew.cell? ⟨b12, 0, none⟩ = some (.int .i64 e.f0) := (by rw [blk_cell H12.out 0]; rfl)
                have h121 : wD.drew.cell? ⟨b12, 1, none⟩ = some (.slice A1 e.f1.length c1) := (by rw [blk_cell H12.out 1]; rfl)
                have h122 : wD.drew.cell? ⟨b12, 2, none⟩ = some (.int .i64 e.f2) := (by rw [blk_cell H12.out 2]; rfl)
                have h123 : wD.drew.cell? ⟨b12, 3, none⟩ = some (.int .i64 e.f3.f0) := (by rw [blk_cell H12.out 3]; rfl)
                have h124 : wD.drew.cell? ⟨b12, 4, none⟩ = some (.int .i64 e.f3.f1) := (by rw [blk_cell H12.out 4]; rfl)
                obtain ⟨hvn, hcv, hCV⟩ := Kd.R_reads' HSE.out.hV
                have HCV := Aside0.mk hCV
                have HCE := Aside0.mk (Kd.C_below HC1.out HSE.out.hB)
                clear hCV hvn HC1
                refine start_ (n := 13) (S := fun w' => w'.cell? ⟨b13, 0, none⟩ = some (.int .i64 y.f0) ∧ w'.cell? ⟨b13, 1, none⟩ = some (.int .i64 y.f1) ∧ w'.cell? ⟨b12, 0, none⟩ = some (.int .i64 e.f0) ∧ w'.cell? ⟨b12, 1, none⟩ = some (.slice A1 e.f1.length c1) ∧ w'.cell? ⟨b12, 2, none⟩ = some (.int .i64 e.f2) ∧ w'.cell? ⟨b12, 3, none⟩ = some (.int .i64 e.f3.f0) ∧ w'.cell? ⟨b12, 4, none⟩ = some (.int .i64 e.f3.f1)) (ds := []) #[false, false, false, false, false, false, false, false, false, false, false, false, false] (by kernel_rfl) rfl rfl ⟨h130, h131, h120, h121, h122, h123, h124⟩ (fun hHeld => ?_)
                refine with_tabW R38.tab23 R38.bits23 (fun HT_ HW_ => ?_)
                refine bulk_ (fuel := 4) [(0, 82), (1, 83), (2, 84), (3, 85), (4, 86), (5, 87), (6, 88), (7, 89), (10, 92)] #[true, true, true, true, true, true, true, true, false, false, true, false, false] (bulkB_of HT_.out HW_.out _ _ _ (by kernel_rfl)) rfl (fun _ _ _ _ _ h => h) hHeld (a' := ?_) ?_ ?_
                rotate_left
                · iterate 9
                    refine chain_cons (v := ?_) (a1 := ?_) rfl rfl (Or.inl ⟨by rfl, ?_⟩) ?_ ?_
                    rotate_left 2
                    · rintro w' ⟨s0, s1, s2, s3, s4, s5, s6⟩
                      (go_simp; try rw [ite_eqV])
                      try with_reducible rfl
                    · simp only [Act.put, List.setIfInBounds_toArray, List.set_cons_zero, List.set_cons_succ, i64_w, i32_w]
                      rfl
                  exact chain_nil
                refine one_ (i := 8) (N := some 90) #[true, true, true, true, true, true, true, true, true, false, true, false, false] rfl rfl (one_of HT_.out (by kernel_rfl)) (by decide) (fun K hK => ?_)
                have ct := emendateref29_Tails.calls (e.f1.length + 1) e.f0 A1 c1 e.f1 e.f2 e.f3.f0 e.f3.f1 (some ⟨gv, 0, none⟩) cv vs (tailV vs e.f1) wD.drew HCE.out hc1 HCV.out (by rw [hvl]; exact hcv) (refTails_eq vs e HTR.out hle)
                rw [hvl] at ct
                refine call_ 63 #[.agg #[.int .i64 e.f0, .slice A1 e.f1.length c1, .int .i64 e.f2, .int .i64 e.f3.f0, .int .i64 e.f3.f1], .slice (some ⟨gv, 0, none⟩) n cv] (by rfl) rfl ?_ ?_
                · have he_ := enters_ Try.func63 (by kernel_rfl) rfl #[.agg #[.int .i64 e.f0, .slice A1 e.f1.length c1, .int .i64 e.f2, .int .i64 e.f3.f0, .int .i64 e.f3.f1], .slice (some ⟨gv, 0, none⟩) n cv] wD.drew
                  unfold execOp
                  simp [resolve, Deferred.ofValue, invoke, Act.eval, he_]
                refine (ct).mono ?_
                rintro x5 w5 ⟨v5, rfl, hR5, hB5⟩
                obtain ⟨A5, c5, rfl, hl5, hC5⟩ := Kd.R_reads hR5
                have HC5 := Aside0.mk hC5
                have HB5 := Aside0.mk hB5
                clear hR5 hC5 hB5
                refine ⟨_, rfl, ?_⟩
                refine hK.out _ _ ⟨pw_cell_below HB5.out h130, pw_cell_below HB5.out h131, pw_cell_below HB5.out h120, pw_cell_below HB5.out h121, pw_cell_below HB5.out h122, pw_cell_below HB5.out h123, pw_cell_below HB5.out h124⟩ (fun hHeld => ?_)
                clear hK K
                refine norm_ (a' := ?_) ?_ ?_
                rotate_left
                · show Act.put _ (some 90) _ = _
                  simp only [Act.put, List.setIfInBounds_toArray, List.set_cons_zero, List.set_cons_succ, i64_w, i32_w]
                  rfl
                refine one_ (i := 9) (N := some 91) #[true, true, true, true, true, true, true, true, true, true, true, false, false] rfl rfl (one_of HT_.out (by kernel_rfl)) (by decide) (fun K hK => ?_)
                refine call_ 62 #[.int .i64 e.f2, .slice A5 (tailV vs e.f1).length c5] (by rfl) rfl ?_ ?_
                · have he_ := enters_ Try.func62 (by kernel_rfl) rfl #[.int .i64 e.f2, .slice A5 (tailV vs e.f1).length c5] w5
                  unfold execOp
                  simp [resolve, Deferred.ofValue, invoke, Act.eval, he_]
                refine (emendateref29_Combine.calls ((tailV vs e.f1).length + 1) e.f2 A5 c5 (tailV vs e.f1) (combV e.f2 (tailV vs e.f1)).f0 (combV e.f2 (tailV vs e.f1)).f1 w5 HC5.out hl5 (refCombine_eq e.f2 (tailV vs e.f1) (by rw [tailV_length]; exact hle) hc0 hc9 HTO.out)).mono ?_
                rintro x6 w6 ⟨rfl, hB6⟩
                have HB6 := Aside0.mk (below_step HB5.out hB6)
                rw [show combV e.f2 (tailV vs e.f1) = V from HV.out]
                clear hB6
                refine ⟨_, rfl, ?_⟩
                refine hK.out _ _ ⟨pw_cell_below HB6.out h130, pw_cell_below HB6.out h131, pw_cell_below HB6.out h120, pw_cell_below HB6.out h121, pw_cell_below HB6.out h122, pw_cell_below HB6.out h123, pw_cell_below HB6.out h124⟩ (fun hHeld => ?_)
                clear hK K
                refine norm_ (a' := ?_) ?_ ?_
                rotate_left
                · show Act.put _ (some 91) _ = _
                  simp only [Act.put, List.setIfInBounds_toArray, List.set_cons_zero, List.set_cons_succ, i64_w, i32_w]
                  rfl
                refine bulk_ (fuel := 0) [(11, 93), (12, 94)] #[true, true, true, true, true, true, true, true, true, true, true, true, true] (bulkB_of HT_.out HW_.out _ _ _ (by kernel_rfl)) rfl (fun _ _ _ _ _ h => h) hHeld (a' := ?_) ?_ ?_
                rotate_left
                · iterate 2
                    refine chain_cons (v := ?_) (a1 := ?_) rfl rfl (Or.inl ⟨by rfl, ?_⟩) ?_ ?_
                    rotate_left 2
                    · rintro w' ⟨s0, s1, s2, s3, s4, s5, s6⟩
                      (go_simp; try rw [ite_eqV])
                      try with_reducible rfl
                    · simp only [Act.put, List.setIfInBounds_toArray, List.set_cons_zero, List.set_cons_succ, i64_w, i32_w]
                      rfl
                  exact chain_nil
                refine done_ (done_of HT_.out (by kernel_rfl)) ?_
                clear h130 h131 h120 h121 h122 h123 h124 hHeld
                have HS7 := Aside0.mk (HSE.out.below HB6.out)
                have H127 := Aside0.mk (blk_below H12.out HB6.out)
                obtain ⟨bq, hbq⟩ : ∃ bq, eqV V y = bq := ⟨_, rfl⟩
                rw [hbq]
                have HBQ := Aside0.mk hbq
                clear hbq HSE H12 H13 HB6 HB5
                cases bq with
                | false =>
                  go_wp2_with fail
                  go_roundg (j + 1)
                  case measure => have := hg.out; omega
                  case rel => exact ⟨j, ed, by go_num, ⟨by omega⟩, ⟨by omega⟩, ⟨HSK.out (fun h => by have h2 := (HTI.out.1 h).2; rw [(eqV_iff V y).2 h2] at HBQ; exact absurd HBQ.out (by decide))⟩, HS7⟩
                | true =>
                  have h120 : w6.cell? ⟨b12, 0, none⟩ = some (.int .i64 e.f0) := (by rw [blk_cell H127.out 0]; rfl)
                  obtain ⟨g5, g5f⟩ := scal_cell HS7.out.hE 0 e.f0 he0 (by show e.f0 < (n : Int); exact he1)
                  have hpe := Kd.R_putg HS7.out.hE e.f0 (j : Int)
                  have HS8 := Aside0.mk (HS7.out.setE hpe.1 hpe.2)
                  clear hpe
                  go_wp2_with fail
                  go_roundg (j + 1)
                  case measure => have := hg.out; omega
                  case rel => exact ⟨j, ed.set e.f0.toNat (j : Int), by go_num, ⟨by omega⟩, ⟨by omega⟩, ⟨HST.out (HTI.out.2 ⟨hyf, (eqV_iff V y).1 HBQ.out⟩)⟩, HS8⟩
              · clear H12 H13
                refine start_ (n := 13) (S := fun w' => w'.cell? ⟨b13, 0, none⟩ = some (.int .i64 y.f0)) (ds := []) #[false, false, false, false, false, false, false, false, false, false, false, false, false] (by kernel_rfl) rfl rfl h130 (fun hHeld => ?_)
                refine with_tabW R38.tab23 R38.bits23 (fun HT_ HW_ => ?_)
                refine bulk_ (fuel := 0) [(0, 82), (1, 83), (2, 84), (3, 85), (4, 86), (5, 87), (6, 88), (7, 89), (8, 90), (9, 91), (10, 92), (11, 93), (12, 94)] #[true, true, true, true, true, true, true, true, true, true, true, true, true] (bulkB_of HT_.out HW_.out _ _ _ (by kernel_rfl)) rfl (fun _ _ _ _ _ h => h) hHeld (a' := ?_) ?_ ?_
                rotate_left
                · iterate 4
                    refine chain_cons (v := ?_) (a1 := ?_) rfl rfl (Or.inl ⟨by rfl, ?_⟩) ?_ ?_
                    rotate_left 2
                    · intro w' s0
                      go_simp
                      with_reducible rfl
                    · simp only [Act.put, List.setIfInBounds_toArray, List.set_cons_zero, List.set_cons_succ, i64_w, i32_w]
                      rfl
                  iterate 8
                    refine chain_off (a1 := ?_) rfl rfl (by rfl) ?_ ?_
                    rotate_left
                    · simp only [Act.put, List.setIfInBounds_toArray, List.set_cons_zero, List.set_cons_succ]
                      rfl
                  iterate 1
                    refine chain_cons (v := ?_) (a1 := ?_) rfl rfl (Or.inl ⟨by rfl, ?_⟩) ?_ ?_
                    rotate_left 2
                    · intro w' s0
                      go_simp
                      with_reducible rfl
                    · simp only [Act.put, List.setIfInBounds_toArray, List.set_cons_zero, List.set_cons_succ, i64_w, i32_w]
                      rfl
                  exact chain_nil
                refine done_ (done_of HT_.out (by kernel_rfl)) ?_
                clear h130 hHeld
                go_wp2_with fail
                go_roundg (j + 1)
                case measure => have := hg.out; omega
                case rel => exact ⟨j, ed, by go_num, ⟨by omega⟩, ⟨by omega⟩, ⟨HSK.out (fun h => by have h2 := (HTI.out.1 h).1; omega)⟩, HSE⟩
/-- Small enough, all nodes and costs in range. -/
def refOk (n : Int) (es : List S54) : Bool := (decide (0 ≤ n) && (decide (n ≤ 1000) && (decide (es.length ≤ 1000) && es.all (fun e => (decide (0 ≤ e.f0) && decide (e.f0 < n)) && (e.f1.all (fun t => decide (0 ≤ t) && decide (t < n)) && decide (e.f1.length ≤ 100)))))) && es.all (fun e => decide (0 ≤ e.f2) && decide (e.f2 ≤ 1099511627776))
def emendateref29_Solve.f (n : Int) (es : List S54) : Option (List S34 × List Int) := if refOk n es = true then some (solV n.toNat es, solE n.toNat es) else none
theorem refOk_iff (n : Int) (es : List S54) : refOk n es = true ↔ (0 ≤ n ∧ n ≤ 1000 ∧ es.length ≤ 1000 ∧ ∀ e, e ∈ es → (0 ≤ e.f0 ∧ e.f0 < n) ∧ (∀ t, t ∈ e.f1 → 0 ≤ t ∧ t < n) ∧ e.f1.length ≤ 100) ∧ ∀ e, e ∈ es → 0 ≤ e.f2 ∧ e.f2 ≤ 1099511627776 := by
  simp only [refOk, Bool.and_eq_true, decide_eq_true_eq, List.all_eq_true]
theorem emendateref29_Solve.calls (n : Int) (A : Option Addr) (c : Nat) (es : List S54) (r1 : List S34) (r2 : List Int) (w : World) (hC : Kd.C k54 w A es.length es) (hc : es.length ≤ c) (h : emendateref29_Solve.f n es = some (r1, r2)) :
    Calls Try.prog 38 #[.agg #[.int .i64 n, .slice A es.length c]] w fun e w' => ∃ v0_ v1_, e = .returned (.tuple #[v0_, v1_]) ∧ Kd.R k34 34 w' w.heap.size (fun _ => True) v0_ r1 ∧ Kd.R (Kd.int .i64) 3 w' w.heap.size (fun _ => True) v1_ r2 ∧ Below w.heap.size w w' := by
  unfold emendateref29_Solve.f at h
  split at h
  case isFalse => cases h
  rename_i hok
  injection h with h
  injection h with h1 h2
  subst h1 h2
  obtain ⟨⟨h0, h1, h2, h3⟩, h4⟩ := (refOk_iff n es).1 hok
  obtain ⟨m, rfl⟩ : ∃ m : Nat, n = (m : Int) := ⟨n.toNat, by omega⟩
  rw [Int.toNat_natCast]
  exact ref_calls m A c es w hC (by omega) h2 (fun e he => ⟨(h3 e he).1, (h3 e he).2.1, by have := (h3 e he).2.2; omega⟩) h4 (fun e he => (h3 e he).2.2)
end Go.Proofs.Ytamimodkcbbpmaa.Pr
end
section
/- Printed by a program of this session (a turned print of the kit's) out of the translation: each Go function as a Lean function, and the proof that the machine's call answers what it says. Lean checks it. -/
namespace Go.Proofs.Ytamimodkcbbpmaa.Pr
open Go.RowKit Go.Proofs.YtamimodkcbbpmaaW.PrintWords Go.Proofs.YtamimodkcbbpmaaW.PrintLast Go.Proofs.YtamimodkcbbpmaaW.PrintMore Go.Proofs.YtamimodkcbbpmaaXW
attribute [local go_sem] max2_int min2_int max_two min_two max_three min_three max_four min_four   -- for this text's walks alone
set_option linter.unusedVariables false
set_option linter.unusedSimpArgs false

/-! ### emendateref30_Short: function 35 -/
mutual
def emendateref30_Short.j0 : Nat → Int → List (S54) → Option (Bool)
  | 0, _, _ => none
  | k + 1, x229000, x229001 => (emendateref29_Solve.f x229000 x229001).bind fun bt230 => (emendateref30_Short.l0 k bt230.1 0)
def emendateref30_Short.l0 : Nat → List (S34) → Int → Option (Bool)
  | 0, _, _ => none
  | k + 1, x3, x5 => if x5 < (x3.length : Int) then (if 0 ≤ x5 then (if ((rd_T34 x3 x5).f1) > 1000 then (some false) else (emendateref30_Short.l0 k x3 (wrap64 (x5 + 1)))) else (none)) else (some true)
end
def emendateref30_Short.f (k : Nat) (a0_0 : Int) (l0_1 : List (S54)) : Option (Bool) := (emendateref27_Small.f k a0_0 l0_1).bind fun t229 => (if t229 = true then (emendateref30_Short.j0 k a0_0 l0_1) else (some false))
theorem emendateref30_Short.mono_l : ∀ k, (∀ y0 y1, LeO (emendateref30_Short.j0 k y0 y1) (emendateref30_Short.j0 (k + 1) y0 y1)) ∧ (∀ y0 y1, LeO (emendateref30_Short.l0 k y0 y1) (emendateref30_Short.l0 (k + 1) y0 y1))
  | 0 => ⟨fun _ _ r h => by simp [emendateref30_Short.j0] at h, fun _ _ r h => by simp [emendateref30_Short.l0] at h⟩
  | k + 1 => by
    obtain ⟨ih0, ih1⟩ := emendateref30_Short.mono_l k
    refine ⟨?_, ?_⟩
    all_goals intros
    all_goals first | unfold emendateref30_Short.j0 | unfold emendateref30_Short.l0
    all_goals
      repeat' first
      | (with_reducible exact ih0 _ _)
      | (with_reducible exact ih1 _ _)
      | (with_reducible exact emendateref27_Small.mono _ _ _)
      | (with_reducible exact LeO.refl _)
      | (with_reducible exact LeO.none _)
      | (with_reducible refine LeO.ite ?_ ?_)
      | (with_reducible refine LeO.bind ?_ (fun _ => ?_))
      | exact ih0 _ _
      | exact ih1 _ _
      | exact emendateref27_Small.mono _ _ _
      | exact LeO.none _
      | refine LeO.ite ?_ ?_
      | refine LeO.bind ?_ (fun _ => ?_)
theorem emendateref30_Short.mono : ∀ a0 a1 k, LeO (emendateref30_Short.f k a0 a1) (emendateref30_Short.f (k + 1) a0 a1) := by
  intro a0 a1 k
  obtain ⟨ih0, ih1⟩ := emendateref30_Short.mono_l k
  unfold emendateref30_Short.f
  repeat' first
      | (with_reducible exact ih0 _ _)
      | (with_reducible exact ih1 _ _)
      | (with_reducible exact emendateref27_Small.mono _ _ _)
      | (with_reducible exact LeO.refl _)
      | (with_reducible exact LeO.none _)
      | (with_reducible refine LeO.ite ?_ ?_)
      | (with_reducible refine LeO.bind ?_ (fun _ => ?_))
      | exact ih0 _ _
      | exact ih1 _ _
      | exact emendateref27_Small.mono _ _ _
      | exact LeO.none _
      | refine LeO.ite ?_ ?_
      | refine LeO.bind ?_ (fun _ => ?_)
set_option maxHeartbeats 8000000 in
set_option maxRecDepth 100000 in
theorem emendateref30_Short.calls (k : Nat) (a0_0 : Int) (A0_1 : Option Addr) (c0_1 : Nat) (l0_1 : List (S54)) (r : Bool) (w : World) (hr0_1 : Kd.C k54 w A0_1 l0_1.length l0_1) (hc0_1 : l0_1.length ≤ c0_1) (h : emendateref30_Short.f k a0_0 l0_1 = some r) :
    Calls Try.prog 35 #[.agg #[.int .i64 a0_0, .slice A0_1 l0_1.length c0_1]] w fun e w' => e = .returned (.bool r) ∧ Below w.heap.size w w' := by
  have hu24 := Try.underlying24
  have HR0_1 := Aside0.mk hr0_1
  have HC0_1 := Aside0.mk hc0_1
  clear hr0_1 hc0_1
  have HB := Aside0.mk (Below.refl w.heap.size w)
  have H : ((emendateref27_Small.f k a0_0 l0_1).bind fun t229 => (if t229 = true then (emendateref30_Short.j0 k a0_0 l0_1) else (some false))) = some r := h
  clear h
  replace H := Option.bind_eq_some_iff.mp H
  obtain ⟨t229, A20, H⟩ := H
  replace H : (if t229 = true then (emendateref30_Short.j0 k a0_0 l0_1) else (some false)) = some r := H
  have A2 := Aside0.mk A20
  clear A20
  have HC3 := Aside0.mk H
  clear H
  go_enter Try.func35, Try.ntmps35
  go_upto_if 8 with (first | ((with_reducible refine gate_dst (N := 1) rfl ?_); refine box_event ?hg (N := 1) ?hd (cs := #[.int .i64 a0_0, .slice A0_1 l0_1.length c0_1]) (t := 24) ?hr ?_; (case hd => rfl); (case hg => rfl); (case hr => first | (go_simp; done) | (go_simp; rfl)); intro gb228 hg w4 hbox hb; have n0_ := Aside0.mk (below_step (bel HB) hb); have n1_ := Aside0.mk (hbox); have n2_ := Aside0.mk ((by rw [hg]; exact (below_size (bel HB)) : w.heap.size ≤ gb228)); have n3_ := Aside0.mk ((by rw [hg]; exact (below_size (bel HB)) : w.heap.size ≤ gb228)); clear HB; have HB := n0_; have BK228 := n1_; have GW228 := n2_; have GE228 := n3_; clear n0_ n1_ n2_ n3_; clear hb hbox hg; have hcz5_0 : w4.cell? ⟨gb228, 0, none⟩ = some (.int .i64 a0_0) := (blk_cell BK228.out 0).trans rfl; have hcz5_1 : w4.cell? ⟨gb228, 1, none⟩ = some (.slice A0_1 l0_1.length c0_1) := (blk_cell BK228.out 1).trans rfl; have hfz5_0 := blk_frozen BK228.out 0; have hfz5_1 := blk_frozen BK228.out 1) | ((with_reducible refine gate_callee (f := 77) rfl ?_); refine goesL_ (some 7) rfl rfl Try.func77 (by kernel_rfl) rfl #[.agg #[.int .i64 a0_0, .slice A0_1 l0_1.length c0_1]] rfl (by (try simp only [List.map_toArray, List.map_cons, List.map_nil]); first | done | rfl | (simp only [List.length_drop, List.length_take]; rfl)) ?_; (with_reducible refine (emendateref27_Small.calls k a0_0 _ _ l0_1 t229 _ ?side1 ?side2 A2.out).mono ?_); (case side1 => repeat (first | exact (Kd.C_below HR0_1.out HB.out) | (with_reducible refine Kd.C_alloc ?_ _) | (with_reducible refine Kd.C_drewN ?_ _) | (with_reducible refine Kd.C_drew ?_))); (case side2 => exact HC0_1.out); rintro e w6 ⟨rfl, hb⟩; refine ⟨_, rfl, ?_⟩; have n0_ := Aside0.mk (blk_below (bk BK228) hb); have n1_ := Aside0.mk (below_step (bel HB) hb); clear BK228; clear HB; have BK228 := n0_; have HB := n1_; clear n0_ n1_; (try clear hb); (try clear hb2); (try clear hk); (try clear hi)))
  (try simp only [Act.put, List.setIfInBounds_toArray, List.set_cons_zero, List.set_cons_succ])
  go_cut [] (fun wc => ∃ (kq : Nat), Aside0 (emendateref30_Short.j0 kq a0_0 l0_1 = some r) ∧ Aside0 (kq ≤ k) ∧ Aside0 (wc.heap[gb228]? = some (.cells #[.int .i64 a0_0, (.slice A0_1 l0_1.length c0_1)] 24 (0, 0))) ∧ Aside0 (Below w.heap.size w wc))
  case first =>
    have H := HC3.out
    clear HC3
    by_cases c7 : t229 = true
    · subst c7
      have H1 : (emendateref30_Short.j0 k a0_0 l0_1) = some r := by rw [if_pos rfl] at H; exact H
      clear H
      have H := H1
      clear H1
      have H' := Aside0.mk H
      clear H
      go_wp2
      go_meet
      case rel => exact ⟨_, H', ⟨by first | omega | exact Nat.le_refl _⟩, ⟨by (with_reducible repeat (first | refine blk_drewN ?_ _ | refine blk_drew ?_ | refine blk_alloc ?_ _)); exact BK228.out⟩, ⟨bel HB⟩⟩
    · replace c7 := Bool.eq_false_iff.mpr c7
      subst c7
      have H1 : (some false) = some r := by rw [if_neg (show ¬ (false = true) by decide)] at H; exact H
      clear H
      have H := H1
      clear H1
      obtain rfl := Option.some.inj H
      go_wp2
      go_ret
      exact ⟨by first | rfl | (simp [errW_none, errW_some] <;> rfl) | (simp [*, errW_none, errW_some] <;> rfl), bel HB⟩
  case rest =>
    clear HC3
    (try clear p2); (try clear c3); (try clear c7); (try clear hcz5_0); (try clear hcz5_1); (try clear hfz5_0); (try clear hfz5_1)
    obtain ⟨kq, HA, HJ2, BK228, HB⟩ := hcut
    cases kq with
    | zero => exact absurd HA.out (by simp [emendateref30_Short.j0])
    | succ kj2 =>
      have H := HA.out
      clear HA
      simp only [emendateref30_Short.j0] at H
      replace H := Option.bind_eq_some_iff.mp H
      obtain ⟨⟨t230, t233⟩, A80, H⟩ := H
      replace H : (emendateref30_Short.l0 kj2 t230 0) = some r := H
      have A8 := Aside0.mk A80
      clear A80
      have H' := Aside0.mk H
      clear H
      have hcz9_0 : wc.cell? ⟨gb228, 0, none⟩ = some (.int .i64 a0_0) := (blk_cell BK228.out 0).trans rfl
      have hcz9_1 : wc.cell? ⟨gb228, 1, none⟩ = some (.slice A0_1 l0_1.length c0_1) := (blk_cell BK228.out 1).trans rfl
      have hfz9_0 := blk_frozen BK228.out 0
      have hfz9_1 := blk_frozen BK228.out 1
      go_wp2_with (first | ((with_reducible refine gate_callee (f := 38) rfl ?_); refine goesL_ (some 11) rfl rfl Try.func38 (by kernel_rfl) rfl #[.agg #[.int .i64 a0_0, .slice A0_1 l0_1.length c0_1]] rfl (by (try simp only [List.map_toArray, List.map_cons, List.map_nil]); first | done | rfl | (simp only [List.length_drop, List.length_take]; rfl)) ?_; (with_reducible refine (emendateref29_Solve.calls a0_0 _ _ l0_1 t230 t233 _ ?side1 ?side2 A8.out).mono ?_); (case side1 => repeat (first | exact (Kd.C_below HR0_1.out HB.out) | (with_reducible refine Kd.C_alloc ?_ _) | (with_reducible refine Kd.C_drewN ?_ _) | (with_reducible refine Kd.C_drew ?_))); (case side2 => exact HC0_1.out); rintro e w10 ⟨v231, v234, rfl, ho0, ho1, hb⟩; refine ⟨_, rfl, ?_⟩; have n0_ := Aside0.mk (Kd.R_lower ho0 (below_size (bel HB))); have n1_ := Aside0.mk (Kd.R_lower ho1 (below_size (bel HB))); have n2_ := Aside0.mk (blk_below (bk BK228) hb); have n3_ := Aside0.mk (below_step (bel HB) hb); clear BK228; clear HB; have HO232 := n0_; have HO235 := n1_; have BK228 := n2_; have HB := n3_; clear n0_ n1_ n2_ n3_; (try clear hb); (try clear hb2); (try clear hk); (try clear hi); (try clear ho0); (try clear ho1)))
      go_loopg [5] kj2 (fun kq v5 w' => ∃ (x5_2 : Int), v5 = .int .i64 x5_2 ∧ Aside0 (emendateref30_Short.l0 kq t230 x5_2 = some r) ∧ Aside0 (kq ≤ kj2) ∧ Aside0 (Kd.R k34 34 w' w.heap.size (fun _ => True) v231 t230) ∧ Aside0 (w'.heap[gb228]? = some (.cells #[.int .i64 a0_0, (.slice A0_1 l0_1.length c0_1)] 24 (0, 0))) ∧ Aside0 (Below w.heap.size w w'))
      case atStart => exact ⟨(0), (by first | rfl | (simp; done) | (simp [*]; done)), H', ⟨Nat.le_refl _⟩, ⟨by (with_reducible repeat (first | apply Kd.R_alloc | apply Kd.R_drewN | apply Kd.R_drew)); exact HO232.out⟩, ⟨by (with_reducible repeat (first | refine blk_drewN ?_ _ | refine blk_drew ?_ | refine blk_alloc ?_ _)); exact BK228.out⟩, ⟨bel HB⟩⟩
      case round =>
        clear H'
        (try clear p2); (try clear c3); (try clear c7); (try clear hcz5_0); (try clear hcz5_1); (try clear hcz9_0); (try clear hcz9_1); (try clear hfz5_0); (try clear hfz5_1); (try clear hfz9_0); (try clear hfz9_1); (try clear p2)
        obtain ⟨x5_2, rfl, HA, HK2, HO_3, BK228, HB⟩ := hrel
        cases gk with
        | zero => exact absurd HA.out (by simp [emendateref30_Short.l0])
        | succ k2 =>
          have H := HA.out
          clear HA
          simp only [emendateref30_Short.l0] at H
          by_cases c11 : x5_2 < (t230.length : Int)
          · rw [if_pos c11] at H
            have c11b0 : decide (x5_2 < (t230.length : Int)) = true := decide_eq_true c11
            clear c11
            by_cases c12 : 0 ≤ x5_2
            · rw [if_pos c12] at H
              have c12b0 : decide (0 ≤ x5_2) = true := decide_eq_true c12
              clear c12
              by_cases c13 : ((rd_T34 t230 x5_2).f1) > 1000
              · rw [if_pos c13] at H
                have c13b0 : decide (1000 < ((rd_T34 t230 x5_2).f1)) = true := decide_eq_true c13
                clear c13
                obtain rfl := Option.some.inj H
                obtain ⟨Ao14, co14, eo14⟩ := Kd.R_slice HO_3.out
                subst eo14
                have p236 : 0 ≤ (x5_2 : Int) := of_decide_eq_true (by first | (with_reducible assumption) | assumption)
                have q236 : x5_2 < (t230.length : Int) := of_decide_eq_true (by first | (with_reducible assumption) | assumption)
                obtain ⟨ad236, e236, hx236_0, hx236_1⟩ := at_T34 (Kd.R_reads' HO_3.out).2.2 x5_2 p236 q236
                cases e236
                replace p236 := eq_true p236
                replace q236 := eq_true q236
                go_wp2
                go_ret
                exact ⟨by first | rfl | (simp [errW_none, errW_some] <;> rfl) | (simp [*, errW_none, errW_some] <;> rfl), bel HB⟩
              · rw [if_neg c13] at H
                have c13b0 : decide (1000 < ((rd_T34 t230 x5_2).f1)) = false := decide_eq_false c13
                clear c13
                have H' := Aside0.mk H
                clear H
                obtain ⟨Ao15, co15, eo15⟩ := Kd.R_slice HO_3.out
                subst eo15
                have p236 : 0 ≤ (x5_2 : Int) := of_decide_eq_true (by first | (with_reducible assumption) | assumption)
                have q236 : x5_2 < (t230.length : Int) := of_decide_eq_true (by first | (with_reducible assumption) | assumption)
                obtain ⟨ad236, e236, hx236_0, hx236_1⟩ := at_T34 (Kd.R_reads' HO_3.out).2.2 x5_2 p236 q236
                cases e236
                replace p236 := eq_true p236
                replace q236 := eq_true q236
                go_wp2
                go_roundg k2
                case measure => have := HJ2.out; have := HK2.out; omega
                case rel => exact ⟨(wrap64 (x5_2 + 1)), (by first | rfl | (simp; done) | (simp [*]; done)), H', ⟨by have := HJ2.out; have := HK2.out; omega⟩, ⟨by (with_reducible repeat (first | apply Kd.R_alloc | apply Kd.R_drewN | apply Kd.R_drew)); exact HO_3.out⟩, ⟨by (with_reducible repeat (first | refine blk_drewN ?_ _ | refine blk_drew ?_ | refine blk_alloc ?_ _)); exact BK228.out⟩, ⟨bel HB⟩⟩
            · rw [if_neg c12] at H
              exact absurd H (by simp)
          · rw [if_neg c11] at H
            have c11b0 : decide (x5_2 < (t230.length : Int)) = false := decide_eq_false c11
            clear c11
            obtain rfl := Option.some.inj H
            obtain ⟨Ao16, co16, eo16⟩ := Kd.R_slice HO_3.out
            subst eo16
            go_wp2
            go_ret
            exact ⟨by first | rfl | (simp [errW_none, errW_some] <;> rfl) | (simp [*, errW_none, errW_some] <;> rfl), bel HB⟩
end Go.Proofs.Ytamimodkcbbpmaa.Pr
end
section
/- Printed by a program of this session (a turned print of the kit's) out of the translation: each Go function as a Lean function, and the proof that the machine's call answers what it says. Lean checks it. -/
namespace Go.Proofs.Ytamimodkcbbpmaa.Pr
open Go.RowKit Go.Proofs.YtamimodkcbbpmaaW.PrintWords Go.Proofs.YtamimodkcbbpmaaW.PrintLast Go.Proofs.YtamimodkcbbpmaaW.PrintMore Go.Proofs.YtamimodkcbbpmaaXW
attribute [local go_sem] max2_int min2_int max_two min_two max_three min_three max_four min_four   -- for this text's walks alone
set_option linter.unusedVariables false
set_option linter.unusedSimpArgs false

/-! ### emendateref30_Size: function 45 -/
mutual
def emendateref30_Size.l0 : Nat → Int → Int → Int → List (S27) → Option (Int)
  | 0, _, _, _, _ => none
  | k + 1, x3, x4, x238000, x238001 => if x4 < (x238001.length : Int) then (if 0 ≤ x4 then ((emendateref30_Size.f k ((rd_T27 x238001 x4).f0) ((rd_T27 x238001 x4).f1)).bind fun t239 => (emendateref30_Size.l0 k (wrap64 (x3 + t239)) (wrap64 (x4 + 1)) x238000 x238001)) else (none)) else (some x3)
def emendateref30_Size.f : Nat → Int → List (S27) → Option (Int)
  | 0, _, _ => none
  | k + 1, a0_0, l0_1 => emendateref30_Size.l0 k 1 0 a0_0 l0_1
end
theorem emendateref30_Size.mono_l : ∀ k, (∀ y0 y1, LeO (emendateref30_Size.f k y0 y1) (emendateref30_Size.f (k + 1) y0 y1)) ∧ (∀ y0 y1 y2 y3, LeO (emendateref30_Size.l0 k y0 y1 y2 y3) (emendateref30_Size.l0 (k + 1) y0 y1 y2 y3))
  | 0 => ⟨fun _ _ r h => by simp [emendateref30_Size.f] at h, fun _ _ _ _ r h => by simp [emendateref30_Size.l0] at h⟩
  | k + 1 => by
    obtain ⟨ih0, ih1⟩ := emendateref30_Size.mono_l k
    refine ⟨?_, ?_⟩
    all_goals intros
    all_goals first | unfold emendateref30_Size.f | unfold emendateref30_Size.l0
    all_goals
      repeat' first
      | (with_reducible exact ih0 _ _)
      | (with_reducible exact ih1 _ _ _ _)
      | (with_reducible exact LeO.refl _)
      | (with_reducible exact LeO.none _)
      | (with_reducible refine LeO.ite ?_ ?_)
      | (with_reducible refine LeO.bind ?_ (fun _ => ?_))
      | exact ih0 _ _
      | exact ih1 _ _ _ _
      | exact LeO.none _
      | refine LeO.ite ?_ ?_
      | refine LeO.bind ?_ (fun _ => ?_)
theorem emendateref30_Size.mono : ∀ a0 a1 k, LeO (emendateref30_Size.f k a0 a1) (emendateref30_Size.f (k + 1) a0 a1) := by
  intro a0 a1 k
  obtain ⟨ih0, ih1⟩ := emendateref30_Size.mono_l k
  exact ih0 a0 a1
set_option maxHeartbeats 8000000 in
set_option maxRecDepth 100000 in
theorem emendateref30_Size.calls (k : Nat) : ∀ (a0_0 : Int) (A0_1 : Option Addr) (c0_1 : Nat) (l0_1 : List (S27)) (r : Int) (w : World) (hr0_1 : Kd.C k27 w A0_1 l0_1.length l0_1) (hc0_1 : l0_1.length ≤ c0_1) (h : emendateref30_Size.f k a0_0 l0_1 = some r),
    Calls Try.prog 45 #[.agg #[.int .i64 a0_0, .slice A0_1 l0_1.length c0_1]] w fun e w' => e = .returned (.int .i64 r) ∧ Below w.heap.size w w' := by
  induction k using Nat.strongRecOn with
  | _ k ih =>
  intro a0_0 A0_1 c0_1 l0_1 r w hr0_1 hc0_1 h
  cases k with
  | zero => exact absurd h (by simp [emendateref30_Size.f])
  | succ k =>
  simp only [emendateref30_Size.f] at h
  have hu27 := Try.underlying27
  have HR0_1 := Aside0.mk hr0_1
  have HC0_1 := Aside0.mk hc0_1
  clear hr0_1 hc0_1
  have HB := Aside0.mk (Below.refl w.heap.size w)
  have H : (emendateref30_Size.l0 k 1 0 a0_0 l0_1) = some r := h
  clear h
  have H' := Aside0.mk H
  clear H
  go_enter Try.func45, Try.ntmps45
  go_wp2_with (first | ((with_reducible refine gate_dst (N := 1) rfl ?_); refine box_event ?hg (N := 1) ?hd (cs := #[.int .i64 a0_0, .slice A0_1 l0_1.length c0_1]) (t := 27) ?hr ?_; (case hd => rfl); (case hg => rfl); (case hr => first | (go_simp; done) | (go_simp; rfl)); intro gb237 hg w2 hbox hb; have n0_ := Aside0.mk (below_step (bel HB) hb); have n1_ := Aside0.mk (hbox); have n2_ := Aside0.mk ((by rw [hg]; exact (below_size (bel HB)) : w.heap.size ≤ gb237)); have n3_ := Aside0.mk ((by rw [hg]; exact (below_size (bel HB)) : w.heap.size ≤ gb237)); clear HB; have HB := n0_; have BK237 := n1_; have GW237 := n2_; have GE237 := n3_; clear n0_ n1_ n2_ n3_; clear hb hbox hg))
  go_loopg [3, 4] k (fun kq v3 v4 w' => ∃ (x3_1 : Int) (x4_1 : Int), v3 = .int .i64 x3_1 ∧ v4 = .int .i64 x4_1 ∧ Aside0 (emendateref30_Size.l0 kq x3_1 x4_1 a0_0 l0_1 = some r) ∧ Aside0 (kq ≤ k) ∧ Aside0 (w'.heap[gb237]? = some (.cells #[.int .i64 a0_0, (.slice A0_1 l0_1.length c0_1)] 27 (0, 0))) ∧ Aside0 (Below w.heap.size w w'))
  case atStart => exact ⟨(1), (0), (by first | rfl | (simp; done) | (simp [*]; done)), (by first | rfl | (simp; done) | (simp [*]; done)), H', ⟨Nat.le_refl _⟩, ⟨by (with_reducible repeat (first | refine blk_drewN ?_ _ | refine blk_drew ?_ | refine blk_alloc ?_ _)); exact BK237.out⟩, ⟨bel HB⟩⟩
  case round =>
    clear H'
    try clear p2
    obtain ⟨x3_1, x4_1, rfl, rfl, HA, HK1, BK237, HB⟩ := hrel
    cases gk with
    | zero => exact absurd HA.out (by simp [emendateref30_Size.l0])
    | succ k1 =>
      have H := HA.out
      clear HA
      simp only [emendateref30_Size.l0] at H
      by_cases c3 : x4_1 < (l0_1.length : Int)
      · rw [if_pos c3] at H
        have c3b0 : decide (x4_1 < (l0_1.length : Int)) = true := decide_eq_true c3
        clear c3
        by_cases c4 : 0 ≤ x4_1
        · rw [if_pos c4] at H
          have c4b0 : decide (0 ≤ x4_1) = true := decide_eq_true c4
          clear c4
          replace H := Option.bind_eq_some_iff.mp H
          obtain ⟨t239, A50, H⟩ := H
          replace H : (emendateref30_Size.l0 k1 (wrap64 (x3_1 + t239)) (wrap64 (x4_1 + 1)) a0_0 l0_1) = some r := H
          have A5 := Aside0.mk A50
          clear A50
          have H' := Aside0.mk H
          clear H
          have hcz6_0 : wr.cell? ⟨gb237, 0, none⟩ = some (.int .i64 a0_0) := (blk_cell BK237.out 0).trans rfl
          have hcz6_1 : wr.cell? ⟨gb237, 1, none⟩ = some (.slice A0_1 l0_1.length c0_1) := (blk_cell BK237.out 1).trans rfl
          have hfz6_0 := blk_frozen BK237.out 0
          have hfz6_1 := blk_frozen BK237.out 1
          have p238 : 0 ≤ (x4_1 : Int) := of_decide_eq_true (by first | (with_reducible assumption) | assumption)
          have q238 : x4_1 < (l0_1.length : Int) := of_decide_eq_true (by first | (with_reducible assumption) | assumption)
          obtain ⟨ad238, A238_1, c238_1, e238, hx238_0, hx238_1, hl238_1, hi238_1⟩ := at_T27 HR0_1.out x4_1 p238 q238
          cases e238
          replace hx238_0 := (HB.out.cell (World.block_lt_of_cell? w _ hx238_0)).trans hx238_0
          replace hx238_1 := (HB.out.cell (World.block_lt_of_cell? w _ hx238_1)).trans hx238_1
          have HR238_1 := Aside0.mk hi238_1
          have HC238_1 := Aside0.mk hl238_1
          clear hi238_1 hl238_1
          replace p238 := eq_true p238
          replace q238 := eq_true q238
          go_wp2_with (first | ((with_reducible refine gate_callee (f := 45) rfl ?_); refine goesL_ (some 18) rfl rfl Try.func45 (by kernel_rfl) rfl #[.agg #[.int .i64 ((rd_T27 l0_1 x4_1).f0), .slice A238_1 ((rd_T27 l0_1 x4_1).f1).length c238_1]] rfl (by (try simp only [List.map_toArray, List.map_cons, List.map_nil]); first | done | rfl | (simp only [List.length_drop, List.length_take]; rfl)) ?_; (with_reducible refine (ih k1 (by have := HK1.out; omega) ((rd_T27 l0_1 x4_1).f0) _ _ ((rd_T27 l0_1 x4_1).f1) t239 _ ?side1 ?side2 A5.out).mono ?_); (case side1 => repeat (first | exact (Kd.C_below HR238_1.out HB.out) | (with_reducible refine Kd.C_alloc ?_ _) | (with_reducible refine Kd.C_drewN ?_ _) | (with_reducible refine Kd.C_drew ?_))); (case side2 => exact HC238_1.out); rintro e w7 ⟨rfl, hb⟩; refine ⟨_, rfl, ?_⟩; have n0_ := Aside0.mk (blk_below (bk BK237) hb); have n1_ := Aside0.mk (below_step (bel HB) hb); clear BK237; clear HB; have BK237 := n0_; have HB := n1_; clear n0_ n1_; (try clear hb); (try clear hb2); (try clear hk); (try clear hi)))
          go_roundg k1
          case measure => have := HK1.out; omega
          case rel => exact ⟨(wrap64 (x3_1 + t239)), (wrap64 (x4_1 + 1)), (by first | rfl | (simp; done) | (simp [*]; done)), (by first | rfl | (simp; done) | (simp [*]; done)), H', ⟨by have := HK1.out; omega⟩, ⟨by (with_reducible repeat (first | refine blk_drewN ?_ _ | refine blk_drew ?_ | refine blk_alloc ?_ _)); exact BK237.out⟩, ⟨bel HB⟩⟩
        · rw [if_neg c4] at H
          exact absurd H (by simp)
      · rw [if_neg c3] at H
        have c3b0 : decide (x4_1 < (l0_1.length : Int)) = false := decide_eq_false c3
        clear c3
        obtain rfl := Option.some.inj H
        have hcz8_0 : wr.cell? ⟨gb237, 0, none⟩ = some (.int .i64 a0_0) := (blk_cell BK237.out 0).trans rfl
        have hcz8_1 : wr.cell? ⟨gb237, 1, none⟩ = some (.slice A0_1 l0_1.length c0_1) := (blk_cell BK237.out 1).trans rfl
        have hfz8_0 := blk_frozen BK237.out 0
        have hfz8_1 := blk_frozen BK237.out 1
        go_wp2
        go_ret
        exact ⟨by first | rfl | (simp [errW_none, errW_some] <;> rfl) | (simp [*, errW_none, errW_some] <;> rfl), bel HB⟩
end Go.Proofs.Ytamimodkcbbpmaa.Pr
end
section
/- Printed by a program of this session (a turned print of the kit's) out of the translation: each Go function as a Lean function, and the proof that the machine's call answers what it says. Lean checks it. -/
namespace Go.Proofs.Ytamimodkcbbpmaa.Pr
open Go.RowKit Go.Proofs.YtamimodkcbbpmaaW.PrintWords Go.Proofs.YtamimodkcbbpmaaW.PrintLast Go.Proofs.YtamimodkcbbpmaaW.PrintMore Go.Proofs.YtamimodkcbbpmaaXW
attribute [local go_sem] max2_int min2_int max_two min_two max_three min_three max_four min_four   -- for this text's walks alone
set_option linter.unusedVariables false
set_option linter.unusedSimpArgs false

/-! ### emendatelaw30_fair: function 26 -/
def emendatelaw30_fair.f (k : Nat) (a0_0 : Int) (l0_1 : List (S54)) (a0_2 : Int) (a0_3 : Int) (l0_4 : List (S27)) (a0_5 : Int) (l0_6 : List (S27)) (a0_7 : Int) (l0_8 : List (S27)) : Option (Bool) := (emendateref30_Short.f k a0_0 l0_1).bind fun t241 => (if t241 = true then ((emendateref30_Size.f k a0_3 l0_4).bind fun t242 => (if t242 ≤ 100 then ((emendateref30_Size.f k a0_5 l0_6).bind fun t243 => (if t243 ≤ 100 then ((emendateref30_Size.f k a0_7 l0_8).bind fun t244 => (some (decide (t244 ≤ 100)))) else (some false))) else (some false))) else (some false))
theorem emendatelaw30_fair.mono : ∀ a0 a1 a2 a3 a4 a5 a6 a7 a8 k, LeO (emendatelaw30_fair.f k a0 a1 a2 a3 a4 a5 a6 a7 a8) (emendatelaw30_fair.f (k + 1) a0 a1 a2 a3 a4 a5 a6 a7 a8) := by
  intro a0 a1 a2 a3 a4 a5 a6 a7 a8 k
  unfold emendatelaw30_fair.f
  repeat' first
      | (with_reducible exact emendateref30_Short.mono _ _ _)
      | (with_reducible exact emendateref30_Size.mono _ _ _)
      | (with_reducible exact LeO.refl _)
      | (with_reducible exact LeO.none _)
      | (with_reducible refine LeO.ite ?_ ?_)
      | (with_reducible refine LeO.bind ?_ (fun _ => ?_))
      | exact emendateref30_Short.mono _ _ _
      | exact emendateref30_Size.mono _ _ _
      | exact LeO.none _
      | refine LeO.ite ?_ ?_
      | refine LeO.bind ?_ (fun _ => ?_)
set_option maxHeartbeats 8000000 in
set_option maxRecDepth 100000 in
theorem emendatelaw30_fair.calls (k : Nat) (a0_0 : Int) (A0_1 : Option Addr) (c0_1 : Nat) (l0_1 : List (S54)) (a0_2 : Int) (a0_3 : Int) (A0_4 : Option Addr) (c0_4 : Nat) (l0_4 : List (S27)) (a0_5 : Int) (A0_6 : Option Addr) (c0_6 : Nat) (l0_6 : List (S27)) (a0_7 : Int) (A0_8 : Option Addr) (c0_8 : Nat) (l0_8 : List (S27)) (r : Bool) (w : World) (hr0_1 : Kd.C k54 w A0_1 l0_1.length l0_1) (hc0_1 : l0_1.length ≤ c0_1) (hr0_4 : Kd.C k27 w A0_4 l0_4.length l0_4) (hc0_4 : l0_4.length ≤ c0_4) (hr0_6 : Kd.C k27 w A0_6 l0_6.length l0_6) (hc0_6 : l0_6.length ≤ c0_6) (hr0_8 : Kd.C k27 w A0_8 l0_8.length l0_8) (hc0_8 : l0_8.length ≤ c0_8) (h : emendatelaw30_fair.f k a0_0 l0_1 a0_2 a0_3 l0_4 a0_5 l0_6 a0_7 l0_8 = some r) :
    Calls Try.prog 26 #[.agg #[.int .i64 a0_0, .slice A0_1 l0_1.length c0_1, .int .i64 a0_2, .int .i64 a0_3, .slice A0_4 l0_4.length c0_4, .int .i64 a0_5, .slice A0_6 l0_6.length c0_6, .int .i64 a0_7, .slice A0_8 l0_8.length c0_8]] w fun e w' => e = .returned (.bool r) ∧ Below w.heap.size w w' := by
  have hu29 := Try.underlying29
  have hu24 := Try.underlying24
  have hu27 := Try.underlying27
  have HR0_1 := Aside0.mk hr0_1
  have HC0_1 := Aside0.mk hc0_1
  clear hr0_1 hc0_1
  have HR0_4 := Aside0.mk hr0_4
  have HC0_4 := Aside0.mk hc0_4
  clear hr0_4 hc0_4
  have HR0_6 := Aside0.mk hr0_6
  have HC0_6 := Aside0.mk hc0_6
  clear hr0_6 hc0_6
  have HR0_8 := Aside0.mk hr0_8
  have HC0_8 := Aside0.mk hc0_8
  clear hr0_8 hc0_8
  have HB := Aside0.mk (Below.refl w.heap.size w)
  have H : ((emendateref30_Short.f k a0_0 l0_1).bind fun t241 => (if t241 = true then ((emendateref30_Size.f k a0_3 l0_4).bind fun t242 => (if t242 ≤ 100 then ((emendateref30_Size.f k a0_5 l0_6).bind fun t243 => (if t243 ≤ 100 then ((emendateref30_Size.f k a0_7 l0_8).bind fun t244 => (some (decide (t244 ≤ 100)))) else (some false))) else (some false))) else (some false))) = some r := h
  clear h
  replace H := Option.bind_eq_some_iff.mp H
  obtain ⟨t241, A20, H⟩ := H
  replace H : (if t241 = true then ((emendateref30_Size.f k a0_3 l0_4).bind fun t242 => (if t242 ≤ 100 then ((emendateref30_Size.f k a0_5 l0_6).bind fun t243 => (if t243 ≤ 100 then ((emendateref30_Size.f k a0_7 l0_8).bind fun t244 => (some (decide (t244 ≤ 100)))) else (some false))) else (some false))) else (some false)) = some r := H
  have A2 := Aside0.mk A20
  clear A20
  by_cases c3 : t241 = true
  · subst c3
    have H1 : ((emendateref30_Size.f k a0_3 l0_4).bind fun t242 => (if t242 ≤ 100 then ((emendateref30_Size.f k a0_5 l0_6).bind fun t243 => (if t243 ≤ 100 then ((emendateref30_Size.f k a0_7 l0_8).bind fun t244 => (some (decide (t244 ≤ 100)))) else (some false))) else (some false))) = some r := by rw [if_pos rfl] at H; exact H
    clear H
    have H := H1
    clear H1
    replace H := Option.bind_eq_some_iff.mp H
    obtain ⟨t242, A40, H⟩ := H
    replace H : (if t242 ≤ 100 then ((emendateref30_Size.f k a0_5 l0_6).bind fun t243 => (if t243 ≤ 100 then ((emendateref30_Size.f k a0_7 l0_8).bind fun t244 => (some (decide (t244 ≤ 100)))) else (some false))) else (some false)) = some r := H
    have A4 := Aside0.mk A40
    clear A40
    by_cases c5 : t242 ≤ 100
    · rw [if_pos c5] at H
      have c5b0 : decide (t242 ≤ 100) = true := decide_eq_true c5
      clear c5
      replace H := Option.bind_eq_some_iff.mp H
      obtain ⟨t243, A60, H⟩ := H
      replace H : (if t243 ≤ 100 then ((emendateref30_Size.f k a0_7 l0_8).bind fun t244 => (some (decide (t244 ≤ 100)))) else (some false)) = some r := H
      have A6 := Aside0.mk A60
      clear A60
      by_cases c7 : t243 ≤ 100
      · rw [if_pos c7] at H
        have c7b0 : decide (t243 ≤ 100) = true := decide_eq_true c7
        clear c7
        replace H := Option.bind_eq_some_iff.mp H
        obtain ⟨t244, A80, H⟩ := H
        replace H : (some (decide (t244 ≤ 100))) = some r := H
        have A8 := Aside0.mk A80
        clear A80
        obtain rfl := Option.some.inj H
        go_enter Try.func26, Try.ntmps26
        go_wp2_with (first | ((with_reducible refine gate_dst (N := 1) rfl ?_); refine box_event ?hg (N := 1) ?hd (cs := #[.int .i64 a0_0, .slice A0_1 l0_1.length c0_1, .int .i64 a0_2, .int .i64 a0_3, .slice A0_4 l0_4.length c0_4, .int .i64 a0_5, .slice A0_6 l0_6.length c0_6, .int .i64 a0_7, .slice A0_8 l0_8.length c0_8]) (t := 29) ?hr ?_; (case hd => rfl); (case hg => rfl); (case hr => first | (go_simp; done) | (go_simp; rfl)); intro gb240 hg w9 hbox hb; have n0_ := Aside0.mk (below_step (bel HB) hb); have n1_ := Aside0.mk (hbox); have n2_ := Aside0.mk ((by rw [hg]; exact (below_size (bel HB)) : w.heap.size ≤ gb240)); have n3_ := Aside0.mk ((by rw [hg]; exact (below_size (bel HB)) : w.heap.size ≤ gb240)); clear HB; have HB := n0_; have BK240 := n1_; have GW240 := n2_; have GE240 := n3_; clear n0_ n1_ n2_ n3_; clear hb hbox hg; have hcz10_0 : w9.cell? ⟨gb240, 0, none⟩ = some (.int .i64 a0_0) := (blk_cell BK240.out 0).trans rfl; have hcz10_1 : w9.cell? ⟨gb240, 1, none⟩ = some (.slice A0_1 l0_1.length c0_1) := (blk_cell BK240.out 1).trans rfl; have hcz10_2 : w9.cell? ⟨gb240, 2, none⟩ = some (.int .i64 a0_2) := (blk_cell BK240.out 2).trans rfl; have hcz10_3 : w9.cell? ⟨gb240, 3, none⟩ = some (.int .i64 a0_3) := (blk_cell BK240.out 3).trans rfl; have hcz10_4 : w9.cell? ⟨gb240, 4, none⟩ = some (.slice A0_4 l0_4.length c0_4) := (blk_cell BK240.out 4).trans rfl; have hcz10_5 : w9.cell? ⟨gb240, 5, none⟩ = some (.int .i64 a0_5) := (blk_cell BK240.out 5).trans rfl; have hcz10_6 : w9.cell? ⟨gb240, 6, none⟩ = some (.slice A0_6 l0_6.length c0_6) := (blk_cell BK240.out 6).trans rfl; have hcz10_7 : w9.cell? ⟨gb240, 7, none⟩ = some (.int .i64 a0_7) := (blk_cell BK240.out 7).trans rfl; have hcz10_8 : w9.cell? ⟨gb240, 8, none⟩ = some (.slice A0_8 l0_8.length c0_8) := (blk_cell BK240.out 8).trans rfl; have hfz10_0 := blk_frozen BK240.out 0; have hfz10_1 := blk_frozen BK240.out 1; have hfz10_2 := blk_frozen BK240.out 2; have hfz10_3 := blk_frozen BK240.out 3; have hfz10_4 := blk_frozen BK240.out 4; have hfz10_5 := blk_frozen BK240.out 5; have hfz10_6 := blk_frozen BK240.out 6; have hfz10_7 := blk_frozen BK240.out 7; have hfz10_8 := blk_frozen BK240.out 8) | ((with_reducible refine gate_callee (f := 35) rfl ?_); refine goesL_ (some 5) rfl rfl Try.func35 (by kernel_rfl) rfl #[.agg #[.int .i64 a0_0, .slice A0_1 l0_1.length c0_1]] rfl (by (try simp only [List.map_toArray, List.map_cons, List.map_nil]); first | done | rfl | (simp only [List.length_drop, List.length_take]; rfl)) ?_; (with_reducible refine (emendateref30_Short.calls k a0_0 _ _ l0_1 true _ ?side1 ?side2 A2.out).mono ?_); (case side1 => repeat (first | exact (Kd.C_below HR0_1.out HB.out) | (with_reducible refine Kd.C_alloc ?_ _) | (with_reducible refine Kd.C_drewN ?_ _) | (with_reducible refine Kd.C_drew ?_))); (case side2 => exact HC0_1.out); rintro e w11 ⟨rfl, hb⟩; refine ⟨_, rfl, ?_⟩; have n0_ := Aside0.mk (blk_below (bk BK240) hb); have n1_ := Aside0.mk (below_step (bel HB) hb); clear BK240; clear HB; have BK240 := n0_; have HB := n1_; clear n0_ n1_; (try clear hb); (try clear hb2); (try clear hk); (try clear hi); have hcz12_0 : w11.cell? ⟨gb240, 0, none⟩ = some (.int .i64 a0_0) := (blk_cell BK240.out 0).trans rfl; have hcz12_1 : w11.cell? ⟨gb240, 1, none⟩ = some (.slice A0_1 l0_1.length c0_1) := (blk_cell BK240.out 1).trans rfl; have hcz12_2 : w11.cell? ⟨gb240, 2, none⟩ = some (.int .i64 a0_2) := (blk_cell BK240.out 2).trans rfl; have hcz12_3 : w11.cell? ⟨gb240, 3, none⟩ = some (.int .i64 a0_3) := (blk_cell BK240.out 3).trans rfl; have hcz12_4 : w11.cell? ⟨gb240, 4, none⟩ = some (.slice A0_4 l0_4.length c0_4) := (blk_cell BK240.out 4).trans rfl; have hcz12_5 : w11.cell? ⟨gb240, 5, none⟩ = some (.int .i64 a0_5) := (blk_cell BK240.out 5).trans rfl; have hcz12_6 : w11.cell? ⟨gb240, 6, none⟩ = some (.slice A0_6 l0_6.length c0_6) := (blk_cell BK240.out 6).trans rfl; have hcz12_7 : w11.cell? ⟨gb240, 7, none⟩ = some (.int .i64 a0_7) := (blk_cell BK240.out 7).trans rfl; have hcz12_8 : w11.cell? ⟨gb240, 8, none⟩ = some (.slice A0_8 l0_8.length c0_8) := (blk_cell BK240.out 8).trans rfl; have hfz12_0 := blk_frozen BK240.out 0; have hfz12_1 := blk_frozen BK240.out 1; have hfz12_2 := blk_frozen BK240.out 2; have hfz12_3 := blk_frozen BK240.out 3; have hfz12_4 := blk_frozen BK240.out 4; have hfz12_5 := blk_frozen BK240.out 5; have hfz12_6 := blk_frozen BK240.out 6; have hfz12_7 := blk_frozen BK240.out 7; have hfz12_8 := blk_frozen BK240.out 8) | (go_at_call 45; (with_reducible refine (emendateref30_Size.calls k a0_3 _ _ l0_4 t242 _ ?side1 ?side2 A4.out).mono ?_); (case side1 => repeat (first | exact (Kd.C_below HR0_4.out HB.out) | (with_reducible refine Kd.C_alloc ?_ _) | (with_reducible refine Kd.C_drewN ?_ _) | (with_reducible refine Kd.C_drew ?_))); (case side2 => exact HC0_4.out); rintro e w13 ⟨rfl, hb⟩; have n0_ := Aside0.mk (blk_below (bk BK240) hb); have n1_ := Aside0.mk (below_step (bel HB) hb); clear BK240; clear HB; have BK240 := n0_; have HB := n1_; clear n0_ n1_; (try clear hb); (try clear hb2); (try clear hk); (try clear hi); have hcz14_0 : w13.cell? ⟨gb240, 0, none⟩ = some (.int .i64 a0_0) := (blk_cell BK240.out 0).trans rfl; have hcz14_1 : w13.cell? ⟨gb240, 1, none⟩ = some (.slice A0_1 l0_1.length c0_1) := (blk_cell BK240.out 1).trans rfl; have hcz14_2 : w13.cell? ⟨gb240, 2, none⟩ = some (.int .i64 a0_2) := (blk_cell BK240.out 2).trans rfl; have hcz14_3 : w13.cell? ⟨gb240, 3, none⟩ = some (.int .i64 a0_3) := (blk_cell BK240.out 3).trans rfl; have hcz14_4 : w13.cell? ⟨gb240, 4, none⟩ = some (.slice A0_4 l0_4.length c0_4) := (blk_cell BK240.out 4).trans rfl; have hcz14_5 : w13.cell? ⟨gb240, 5, none⟩ = some (.int .i64 a0_5) := (blk_cell BK240.out 5).trans rfl; have hcz14_6 : w13.cell? ⟨gb240, 6, none⟩ = some (.slice A0_6 l0_6.length c0_6) := (blk_cell BK240.out 6).trans rfl; have hcz14_7 : w13.cell? ⟨gb240, 7, none⟩ = some (.int .i64 a0_7) := (blk_cell BK240.out 7).trans rfl; have hcz14_8 : w13.cell? ⟨gb240, 8, none⟩ = some (.slice A0_8 l0_8.length c0_8) := (blk_cell BK240.out 8).trans rfl; have hfz14_0 := blk_frozen BK240.out 0; have hfz14_1 := blk_frozen BK240.out 1; have hfz14_2 := blk_frozen BK240.out 2; have hfz14_3 := blk_frozen BK240.out 3; have hfz14_4 := blk_frozen BK240.out 4; have hfz14_5 := blk_frozen BK240.out 5; have hfz14_6 := blk_frozen BK240.out 6; have hfz14_7 := blk_frozen BK240.out 7; have hfz14_8 := blk_frozen BK240.out 8) | (go_at_call 45; (with_reducible refine (emendateref30_Size.calls k a0_5 _ _ l0_6 t243 _ ?side1 ?side2 A6.out).mono ?_); (case side1 => repeat (first | exact (Kd.C_below HR0_6.out HB.out) | (with_reducible refine Kd.C_alloc ?_ _) | (with_reducible refine Kd.C_drewN ?_ _) | (with_reducible refine Kd.C_drew ?_))); (case side2 => exact HC0_6.out); rintro e w15 ⟨rfl, hb⟩; have n0_ := Aside0.mk (blk_below (bk BK240) hb); have n1_ := Aside0.mk (below_step (bel HB) hb); clear BK240; clear HB; have BK240 := n0_; have HB := n1_; clear n0_ n1_; (try clear hb); (try clear hb2); (try clear hk); (try clear hi); have hcz16_0 : w15.cell? ⟨gb240, 0, none⟩ = some (.int .i64 a0_0) := (blk_cell BK240.out 0).trans rfl; have hcz16_1 : w15.cell? ⟨gb240, 1, none⟩ = some (.slice A0_1 l0_1.length c0_1) := (blk_cell BK240.out 1).trans rfl; have hcz16_2 : w15.cell? ⟨gb240, 2, none⟩ = some (.int .i64 a0_2) := (blk_cell BK240.out 2).trans rfl; have hcz16_3 : w15.cell? ⟨gb240, 3, none⟩ = some (.int .i64 a0_3) := (blk_cell BK240.out 3).trans rfl; have hcz16_4 : w15.cell? ⟨gb240, 4, none⟩ = some (.slice A0_4 l0_4.length c0_4) := (blk_cell BK240.out 4).trans rfl; have hcz16_5 : w15.cell? ⟨gb240, 5, none⟩ = some (.int .i64 a0_5) := (blk_cell BK240.out 5).trans rfl; have hcz16_6 : w15.cell? ⟨gb240, 6, none⟩ = some (.slice A0_6 l0_6.length c0_6) := (blk_cell BK240.out 6).trans rfl; have hcz16_7 : w15.cell? ⟨gb240, 7, none⟩ = some (.int .i64 a0_7) := (blk_cell BK240.out 7).trans rfl; have hcz16_8 : w15.cell? ⟨gb240, 8, none⟩ = some (.slice A0_8 l0_8.length c0_8) := (blk_cell BK240.out 8).trans rfl; have hfz16_0 := blk_frozen BK240.out 0; have hfz16_1 := blk_frozen BK240.out 1; have hfz16_2 := blk_frozen BK240.out 2; have hfz16_3 := blk_frozen BK240.out 3; have hfz16_4 := blk_frozen BK240.out 4; have hfz16_5 := blk_frozen BK240.out 5; have hfz16_6 := blk_frozen BK240.out 6; have hfz16_7 := blk_frozen BK240.out 7; have hfz16_8 := blk_frozen BK240.out 8) | (go_at_call 45; (with_reducible refine (emendateref30_Size.calls k a0_7 _ _ l0_8 t244 _ ?side1 ?side2 A8.out).mono ?_); (case side1 => repeat (first | exact (Kd.C_below HR0_8.out HB.out) | (with_reducible refine Kd.C_alloc ?_ _) | (with_reducible refine Kd.C_drewN ?_ _) | (with_reducible refine Kd.C_drew ?_))); (case side2 => exact HC0_8.out); rintro e w17 ⟨rfl, hb⟩; have n0_ := Aside0.mk (blk_below (bk BK240) hb); have n1_ := Aside0.mk (below_step (bel HB) hb); clear BK240; clear HB; have BK240 := n0_; have HB := n1_; clear n0_ n1_; (try clear hb); (try clear hb2); (try clear hk); (try clear hi)))
        go_ret
        exact ⟨by first | rfl | (simp [errW_none, errW_some] <;> rfl) | (simp [*, errW_none, errW_some] <;> rfl), bel HB⟩
      · rw [if_neg c7] at H
        have c7b0 : decide (t243 ≤ 100) = false := decide_eq_false c7
        clear c7
        obtain rfl := Option.some.inj H
        go_enter Try.func26, Try.ntmps26
        go_wp2_with (first | ((with_reducible refine gate_dst (N := 1) rfl ?_); refine box_event ?hg (N := 1) ?hd (cs := #[.int .i64 a0_0, .slice A0_1 l0_1.length c0_1, .int .i64 a0_2, .int .i64 a0_3, .slice A0_4 l0_4.length c0_4, .int .i64 a0_5, .slice A0_6 l0_6.length c0_6, .int .i64 a0_7, .slice A0_8 l0_8.length c0_8]) (t := 29) ?hr ?_; (case hd => rfl); (case hg => rfl); (case hr => first | (go_simp; done) | (go_simp; rfl)); intro gb240 hg w18 hbox hb; have n0_ := Aside0.mk (below_step (bel HB) hb); have n1_ := Aside0.mk (hbox); have n2_ := Aside0.mk ((by rw [hg]; exact (below_size (bel HB)) : w.heap.size ≤ gb240)); have n3_ := Aside0.mk ((by rw [hg]; exact (below_size (bel HB)) : w.heap.size ≤ gb240)); clear HB; have HB := n0_; have BK240 := n1_; have GW240 := n2_; have GE240 := n3_; clear n0_ n1_ n2_ n3_; clear hb hbox hg; have hcz19_0 : w18.cell? ⟨gb240, 0, none⟩ = some (.int .i64 a0_0) := (blk_cell BK240.out 0).trans rfl; have hcz19_1 : w18.cell? ⟨gb240, 1, none⟩ = some (.slice A0_1 l0_1.length c0_1) := (blk_cell BK240.out 1).trans rfl; have hcz19_2 : w18.cell? ⟨gb240, 2, none⟩ = some (.int .i64 a0_2) := (blk_cell BK240.out 2).trans rfl; have hcz19_3 : w18.cell? ⟨gb240, 3, none⟩ = some (.int .i64 a0_3) := (blk_cell BK240.out 3).trans rfl; have hcz19_4 : w18.cell? ⟨gb240, 4, none⟩ = some (.slice A0_4 l0_4.length c0_4) := (blk_cell BK240.out 4).trans rfl; have hcz19_5 : w18.cell? ⟨gb240, 5, none⟩ = some (.int .i64 a0_5) := (blk_cell BK240.out 5).trans rfl; have hcz19_6 : w18.cell? ⟨gb240, 6, none⟩ = some (.slice A0_6 l0_6.length c0_6) := (blk_cell BK240.out 6).trans rfl; have hcz19_7 : w18.cell? ⟨gb240, 7, none⟩ = some (.int .i64 a0_7) := (blk_cell BK240.out 7).trans rfl; have hcz19_8 : w18.cell? ⟨gb240, 8, none⟩ = some (.slice A0_8 l0_8.length c0_8) := (blk_cell BK240.out 8).trans rfl; have hfz19_0 := blk_frozen BK240.out 0; have hfz19_1 := blk_frozen BK240.out 1; have hfz19_2 := blk_frozen BK240.out 2; have hfz19_3 := blk_frozen BK240.out 3; have hfz19_4 := blk_frozen BK240.out 4; have hfz19_5 := blk_frozen BK240.out 5; have hfz19_6 := blk_frozen BK240.out 6; have hfz19_7 := blk_frozen BK240.out 7; have hfz19_8 := blk_frozen BK240.out 8) | ((with_reducible refine gate_callee (f := 35) rfl ?_); refine goesL_ (some 5) rfl rfl Try.func35 (by kernel_rfl) rfl #[.agg #[.int .i64 a0_0, .slice A0_1 l0_1.length c0_1]] rfl (by (try simp only [List.map_toArray, List.map_cons, List.map_nil]); first | done | rfl | (simp only [List.length_drop, List.length_take]; rfl)) ?_; (with_reducible refine (emendateref30_Short.calls k a0_0 _ _ l0_1 true _ ?side1 ?side2 A2.out).mono ?_); (case side1 => repeat (first | exact (Kd.C_below HR0_1.out HB.out) | (with_reducible refine Kd.C_alloc ?_ _) | (with_reducible refine Kd.C_drewN ?_ _) | (with_reducible refine Kd.C_drew ?_))); (case side2 => exact HC0_1.out); rintro e w20 ⟨rfl, hb⟩; refine ⟨_, rfl, ?_⟩; have n0_ := Aside0.mk (blk_below (bk BK240) hb); have n1_ := Aside0.mk (below_step (bel HB) hb); clear BK240; clear HB; have BK240 := n0_; have HB := n1_; clear n0_ n1_; (try clear hb); (try clear hb2); (try clear hk); (try clear hi); have hcz21_0 : w20.cell? ⟨gb240, 0, none⟩ = some (.int .i64 a0_0) := (blk_cell BK240.out 0).trans rfl; have hcz21_1 : w20.cell? ⟨gb240, 1, none⟩ = some (.slice A0_1 l0_1.length c0_1) := (blk_cell BK240.out 1).trans rfl; have hcz21_2 : w20.cell? ⟨gb240, 2, none⟩ = some (.int .i64 a0_2) := (blk_cell BK240.out 2).trans rfl; have hcz21_3 : w20.cell? ⟨gb240, 3, none⟩ = some (.int .i64 a0_3) := (blk_cell BK240.out 3).trans rfl; have hcz21_4 : w20.cell? ⟨gb240, 4, none⟩ = some (.slice A0_4 l0_4.length c0_4) := (blk_cell BK240.out 4).trans rfl; have hcz21_5 : w20.cell? ⟨gb240, 5, none⟩ = some (.int .i64 a0_5) := (blk_cell BK240.out 5).trans rfl; have hcz21_6 : w20.cell? ⟨gb240, 6, none⟩ = some (.slice A0_6 l0_6.length c0_6) := (blk_cell BK240.out 6).trans rfl; have hcz21_7 : w20.cell? ⟨gb240, 7, none⟩ = some (.int .i64 a0_7) := (blk_cell BK240.out 7).trans rfl; have hcz21_8 : w20.cell? ⟨gb240, 8, none⟩ = some (.slice A0_8 l0_8.length c0_8) := (blk_cell BK240.out 8).trans rfl; have hfz21_0 := blk_frozen BK240.out 0; have hfz21_1 := blk_frozen BK240.out 1; have hfz21_2 := blk_frozen BK240.out 2; have hfz21_3 := blk_frozen BK240.out 3; have hfz21_4 := blk_frozen BK240.out 4; have hfz21_5 := blk_frozen BK240.out 5; have hfz21_6 := blk_frozen BK240.out 6; have hfz21_7 := blk_frozen BK240.out 7; have hfz21_8 := blk_frozen BK240.out 8) | (go_at_call 45; (with_reducible refine (emendateref30_Size.calls k a0_3 _ _ l0_4 t242 _ ?side1 ?side2 A4.out).mono ?_); (case side1 => repeat (first | exact (Kd.C_below HR0_4.out HB.out) | (with_reducible refine Kd.C_alloc ?_ _) | (with_reducible refine Kd.C_drewN ?_ _) | (with_reducible refine Kd.C_drew ?_))); (case side2 => exact HC0_4.out); rintro e w22 ⟨rfl, hb⟩; have n0_ := Aside0.mk (blk_below (bk BK240) hb); have n1_ := Aside0.mk (below_step (bel HB) hb); clear BK240; clear HB; have BK240 := n0_; have HB := n1_; clear n0_ n1_; (try clear hb); (try clear hb2); (try clear hk); (try clear hi); have hcz23_0 : w22.cell? ⟨gb240, 0, none⟩ = some (.int .i64 a0_0) := (blk_cell BK240.out 0).trans rfl; have hcz23_1 : w22.cell? ⟨gb240, 1, none⟩ = some (.slice A0_1 l0_1.length c0_1) := (blk_cell BK240.out 1).trans rfl; have hcz23_2 : w22.cell? ⟨gb240, 2, none⟩ = some (.int .i64 a0_2) := (blk_cell BK240.out 2).trans rfl; have hcz23_3 : w22.cell? ⟨gb240, 3, none⟩ = some (.int .i64 a0_3) := (blk_cell BK240.out 3).trans rfl; have hcz23_4 : w22.cell? ⟨gb240, 4, none⟩ = some (.slice A0_4 l0_4.length c0_4) := (blk_cell BK240.out 4).trans rfl; have hcz23_5 : w22.cell? ⟨gb240, 5, none⟩ = some (.int .i64 a0_5) := (blk_cell BK240.out 5).trans rfl; have hcz23_6 : w22.cell? ⟨gb240, 6, none⟩ = some (.slice A0_6 l0_6.length c0_6) := (blk_cell BK240.out 6).trans rfl; have hcz23_7 : w22.cell? ⟨gb240, 7, none⟩ = some (.int .i64 a0_7) := (blk_cell BK240.out 7).trans rfl; have hcz23_8 : w22.cell? ⟨gb240, 8, none⟩ = some (.slice A0_8 l0_8.length c0_8) := (blk_cell BK240.out 8).trans rfl; have hfz23_0 := blk_frozen BK240.out 0; have hfz23_1 := blk_frozen BK240.out 1; have hfz23_2 := blk_frozen BK240.out 2; have hfz23_3 := blk_frozen BK240.out 3; have hfz23_4 := blk_frozen BK240.out 4; have hfz23_5 := blk_frozen BK240.out 5; have hfz23_6 := blk_frozen BK240.out 6; have hfz23_7 := blk_frozen BK240.out 7; have hfz23_8 := blk_frozen BK240.out 8) | (go_at_call 45; (with_reducible refine (emendateref30_Size.calls k a0_5 _ _ l0_6 t243 _ ?side1 ?side2 A6.out).mono ?_); (case side1 => repeat (first | exact (Kd.C_below HR0_6.out HB.out) | (with_reducible refine Kd.C_alloc ?_ _) | (with_reducible refine Kd.C_drewN ?_ _) | (with_reducible refine Kd.C_drew ?_))); (case side2 => exact HC0_6.out); rintro e w24 ⟨rfl, hb⟩; have n0_ := Aside0.mk (blk_below (bk BK240) hb); have n1_ := Aside0.mk (below_step (bel HB) hb); clear BK240; clear HB; have BK240 := n0_; have HB := n1_; clear n0_ n1_; (try clear hb); (try clear hb2); (try clear hk); (try clear hi)))
        go_ret
        exact ⟨by first | rfl | (simp [errW_none, errW_some] <;> rfl) | (simp [*, errW_none, errW_some] <;> rfl), bel HB⟩
    · rw [if_neg c5] at H
      have c5b0 : decide (t242 ≤ 100) = false := decide_eq_false c5
      clear c5
      obtain rfl := Option.some.inj H
      go_enter Try.func26, Try.ntmps26
      go_wp2_with (first | ((with_reducible refine gate_dst (N := 1) rfl ?_); refine box_event ?hg (N := 1) ?hd (cs := #[.int .i64 a0_0, .slice A0_1 l0_1.length c0_1, .int .i64 a0_2, .int .i64 a0_3, .slice A0_4 l0_4.length c0_4, .int .i64 a0_5, .slice A0_6 l0_6.length c0_6, .int .i64 a0_7, .slice A0_8 l0_8.length c0_8]) (t := 29) ?hr ?_; (case hd => rfl); (case hg => rfl); (case hr => first | (go_simp; done) | (go_simp; rfl)); intro gb240 hg w25 hbox hb; have n0_ := Aside0.mk (below_step (bel HB) hb); have n1_ := Aside0.mk (hbox); have n2_ := Aside0.mk ((by rw [hg]; exact (below_size (bel HB)) : w.heap.size ≤ gb240)); have n3_ := Aside0.mk ((by rw [hg]; exact (below_size (bel HB)) : w.heap.size ≤ gb240)); clear HB; have HB := n0_; have BK240 := n1_; have GW240 := n2_; have GE240 := n3_; clear n0_ n1_ n2_ n3_; clear hb hbox hg; have hcz26_0 : w25.cell? ⟨gb240, 0, none⟩ = some (.int .i64 a0_0) := (blk_cell BK240.out 0).trans rfl; have hcz26_1 : w25.cell? ⟨gb240, 1, none⟩ = some (.slice A0_1 l0_1.length c0_1) := (blk_cell BK240.out 1).trans rfl; have hcz26_2 : w25.cell? ⟨gb240, 2, none⟩ = some (.int .i64 a0_2) := (blk_cell BK240.out 2).trans rfl; have hcz26_3 : w25.cell? ⟨gb240, 3, none⟩ = some (.int .i64 a0_3) := (blk_cell BK240.out 3).trans rfl; have hcz26_4 : w25.cell? ⟨gb240, 4, none⟩ = some (.slice A0_4 l0_4.length c0_4) := (blk_cell BK240.out 4).trans rfl; have hcz26_5 : w25.cell? ⟨gb240, 5, none⟩ = some (.int .i64 a0_5) := (blk_cell BK240.out 5).trans rfl; have hcz26_6 : w25.cell? ⟨gb240, 6, none⟩ = some (.slice A0_6 l0_6.length c0_6) := (blk_cell BK240.out 6).trans rfl; have hcz26_7 : w25.cell? ⟨gb240, 7, none⟩ = some (.int .i64 a0_7) := (blk_cell BK240.out 7).trans rfl; have hcz26_8 : w25.cell? ⟨gb240, 8, none⟩ = some (.slice A0_8 l0_8.length c0_8) := (blk_cell BK240.out 8).trans rfl; have hfz26_0 := blk_frozen BK240.out 0; have hfz26_1 := blk_frozen BK240.out 1; have hfz26_2 := blk_frozen BK240.out 2; have hfz26_3 := blk_frozen BK240.out 3; have hfz26_4 := blk_frozen BK240.out 4; have hfz26_5 := blk_frozen BK240.out 5; have hfz26_6 := blk_frozen BK240.out 6; have hfz26_7 := blk_frozen BK240.out 7; have hfz26_8 := blk_frozen BK240.out 8) | ((with_reducible refine gate_callee (f := 35) rfl ?_); refine goesL_ (some 5) rfl rfl Try.func35 (by kernel_rfl) rfl #[.agg #[.int .i64 a0_0, .slice A0_1 l0_1.length c0_1]] rfl (by (try simp only [List.map_toArray, List.map_cons, List.map_nil]); first | done | rfl | (simp only [List.length_drop, List.length_take]; rfl)) ?_; (with_reducible refine (emendateref30_Short.calls k a0_0 _ _ l0_1 true _ ?side1 ?side2 A2.out).mono ?_); (case side1 => repeat (first | exact (Kd.C_below HR0_1.out HB.out) | (with_reducible refine Kd.C_alloc ?_ _) | (with_reducible refine Kd.C_drewN ?_ _) | (with_reducible refine Kd.C_drew ?_))); (case side2 => exact HC0_1.out); rintro e w27 ⟨rfl, hb⟩; refine ⟨_, rfl, ?_⟩; have n0_ := Aside0.mk (blk_below (bk BK240) hb); have n1_ := Aside0.mk (below_step (bel HB) hb); clear BK240; clear HB; have BK240 := n0_; have HB := n1_; clear n0_ n1_; (try clear hb); (try clear hb2); (try clear hk); (try clear hi); have hcz28_0 : w27.cell? ⟨gb240, 0, none⟩ = some (.int .i64 a0_0) := (blk_cell BK240.out 0).trans rfl; have hcz28_1 : w27.cell? ⟨gb240, 1, none⟩ = some (.slice A0_1 l0_1.length c0_1) := (blk_cell BK240.out 1).trans rfl; have hcz28_2 : w27.cell? ⟨gb240, 2, none⟩ = some (.int .i64 a0_2) := (blk_cell BK240.out 2).trans rfl; have hcz28_3 : w27.cell? ⟨gb240, 3, none⟩ = some (.int .i64 a0_3) := (blk_cell BK240.out 3).trans rfl; have hcz28_4 : w27.cell? ⟨gb240, 4, none⟩ = some (.slice A0_4 l0_4.length c0_4) := (blk_cell BK240.out 4).trans rfl; have hcz28_5 : w27.cell? ⟨gb240, 5, none⟩ = some (.int .i64 a0_5) := (blk_cell BK240.out 5).trans rfl; have hcz28_6 : w27.cell? ⟨gb240, 6, none⟩ = some (.slice A0_6 l0_6.length c0_6) := (blk_cell BK240.out 6).trans rfl; have hcz28_7 : w27.cell? ⟨gb240, 7, none⟩ = some (.int .i64 a0_7) := (blk_cell BK240.out 7).trans rfl; have hcz28_8 : w27.cell? ⟨gb240, 8, none⟩ = some (.slice A0_8 l0_8.length c0_8) := (blk_cell BK240.out 8).trans rfl; have hfz28_0 := blk_frozen BK240.out 0; have hfz28_1 := blk_frozen BK240.out 1; have hfz28_2 := blk_frozen BK240.out 2; have hfz28_3 := blk_frozen BK240.out 3; have hfz28_4 := blk_frozen BK240.out 4; have hfz28_5 := blk_frozen BK240.out 5; have hfz28_6 := blk_frozen BK240.out 6; have hfz28_7 := blk_frozen BK240.out 7; have hfz28_8 := blk_frozen BK240.out 8) | (go_at_call 45; (with_reducible refine (emendateref30_Size.calls k a0_3 _ _ l0_4 t242 _ ?side1 ?side2 A4.out).mono ?_); (case side1 => repeat (first | exact (Kd.C_below HR0_4.out HB.out) | (with_reducible refine Kd.C_alloc ?_ _) | (with_reducible refine Kd.C_drewN ?_ _) | (with_reducible refine Kd.C_drew ?_))); (case side2 => exact HC0_4.out); rintro e w29 ⟨rfl, hb⟩; have n0_ := Aside0.mk (blk_below (bk BK240) hb); have n1_ := Aside0.mk (below_step (bel HB) hb); clear BK240; clear HB; have BK240 := n0_; have HB := n1_; clear n0_ n1_; (try clear hb); (try clear hb2); (try clear hk); (try clear hi)))
      go_ret
      exact ⟨by first | rfl | (simp [errW_none, errW_some] <;> rfl) | (simp [*, errW_none, errW_some] <;> rfl), bel HB⟩
  · replace c3 := Bool.eq_false_iff.mpr c3
    subst c3
    have H1 : (some false) = some r := by rw [if_neg (show ¬ (false = true) by decide)] at H; exact H
    clear H
    have H := H1
    clear H1
    obtain rfl := Option.some.inj H
    go_enter Try.func26, Try.ntmps26
    go_wp2_with (first | ((with_reducible refine gate_dst (N := 1) rfl ?_); refine box_event ?hg (N := 1) ?hd (cs := #[.int .i64 a0_0, .slice A0_1 l0_1.length c0_1, .int .i64 a0_2, .int .i64 a0_3, .slice A0_4 l0_4.length c0_4, .int .i64 a0_5, .slice A0_6 l0_6.length c0_6, .int .i64 a0_7, .slice A0_8 l0_8.length c0_8]) (t := 29) ?hr ?_; (case hd => rfl); (case hg => rfl); (case hr => first | (go_simp; done) | (go_simp; rfl)); intro gb240 hg w30 hbox hb; have n0_ := Aside0.mk (below_step (bel HB) hb); have n1_ := Aside0.mk (hbox); have n2_ := Aside0.mk ((by rw [hg]; exact (below_size (bel HB)) : w.heap.size ≤ gb240)); have n3_ := Aside0.mk ((by rw [hg]; exact (below_size (bel HB)) : w.heap.size ≤ gb240)); clear HB; have HB := n0_; have BK240 := n1_; have GW240 := n2_; have GE240 := n3_; clear n0_ n1_ n2_ n3_; clear hb hbox hg; have hcz31_0 : w30.cell? ⟨gb240, 0, none⟩ = some (.int .i64 a0_0) := (blk_cell BK240.out 0).trans rfl; have hcz31_1 : w30.cell? ⟨gb240, 1, none⟩ = some (.slice A0_1 l0_1.length c0_1) := (blk_cell BK240.out 1).trans rfl; have hcz31_2 : w30.cell? ⟨gb240, 2, none⟩ = some (.int .i64 a0_2) := (blk_cell BK240.out 2).trans rfl; have hcz31_3 : w30.cell? ⟨gb240, 3, none⟩ = some (.int .i64 a0_3) := (blk_cell BK240.out 3).trans rfl; have hcz31_4 : w30.cell? ⟨gb240, 4, none⟩ = some (.slice A0_4 l0_4.length c0_4) := (blk_cell BK240.out 4).trans rfl; have hcz31_5 : w30.cell? ⟨gb240, 5, none⟩ = some (.int .i64 a0_5) := (blk_cell BK240.out 5).trans rfl; have hcz31_6 : w30.cell? ⟨gb240, 6, none⟩ = some (.slice A0_6 l0_6.length c0_6) := (blk_cell BK240.out 6).trans rfl; have hcz31_7 : w30.cell? ⟨gb240, 7, none⟩ = some (.int .i64 a0_7) := (blk_cell BK240.out 7).trans rfl; have hcz31_8 : w30.cell? ⟨gb240, 8, none⟩ = some (.slice A0_8 l0_8.length c0_8) := (blk_cell BK240.out 8).trans rfl; have hfz31_0 := blk_frozen BK240.out 0; have hfz31_1 := blk_frozen BK240.out 1; have hfz31_2 := blk_frozen BK240.out 2; have hfz31_3 := blk_frozen BK240.out 3; have hfz31_4 := blk_frozen BK240.out 4; have hfz31_5 := blk_frozen BK240.out 5; have hfz31_6 := blk_frozen BK240.out 6; have hfz31_7 := blk_frozen BK240.out 7; have hfz31_8 := blk_frozen BK240.out 8) | ((with_reducible refine gate_callee (f := 35) rfl ?_); refine goesL_ (some 5) rfl rfl Try.func35 (by kernel_rfl) rfl #[.agg #[.int .i64 a0_0, .slice A0_1 l0_1.length c0_1]] rfl (by (try simp only [List.map_toArray, List.map_cons, List.map_nil]); first | done | rfl | (simp only [List.length_drop, List.length_take]; rfl)) ?_; (with_reducible refine (emendateref30_Short.calls k a0_0 _ _ l0_1 false _ ?side1 ?side2 A2.out).mono ?_); (case side1 => repeat (first | exact (Kd.C_below HR0_1.out HB.out) | (with_reducible refine Kd.C_alloc ?_ _) | (with_reducible refine Kd.C_drewN ?_ _) | (with_reducible refine Kd.C_drew ?_))); (case side2 => exact HC0_1.out); rintro e w32 ⟨rfl, hb⟩; refine ⟨_, rfl, ?_⟩; have n0_ := Aside0.mk (blk_below (bk BK240) hb); have n1_ := Aside0.mk (below_step (bel HB) hb); clear BK240; clear HB; have BK240 := n0_; have HB := n1_; clear n0_ n1_; (try clear hb); (try clear hb2); (try clear hk); (try clear hi)))
    go_ret
    exact ⟨by first | rfl | (simp [errW_none, errW_some] <;> rfl) | (simp [*, errW_none, errW_some] <;> rfl), bel HB⟩

end Go.Proofs.Ytamimodkcbbpmaa.Pr
end
section
/- Printed by a program of this session (a turned print of the kit's) out of the translation: each Go function as a Lean function, and the proof that the machine's call answers what it says. Lean checks it. -/
namespace Go.Proofs.Ytamimodkcbbpmaa.Pr
open Go.RowKit Go.Proofs.YtamimodkcbbpmaaW.PrintWords Go.Proofs.YtamimodkcbbpmaaW.PrintLast Go.Proofs.YtamimodkcbbpmaaW.PrintMore Go.Proofs.YtamimodkcbbpmaaXW
attribute [local go_sem] max2_int min2_int max_two min_two max_three min_three max_four min_four   -- for this text's walks alone
set_option linter.unusedVariables false
set_option linter.unusedSimpArgs false

/-! ### emendateref30_Valid: function 27 -/
mutual
def emendateref30_Valid.j0 : Nat → Bool → Int → List (S54) → Int → List (S27) → Option (Bool)
  | 0, _, _, _, _, _ => none
  | k + 1, x43, x246000, x246001, x247000, x247001 => if x43 = true then (some false) else (emendateref30_Valid.j1 k x246000 x246001 x247000 x247001)
def emendateref30_Valid.j1 : Nat → Int → List (S54) → Int → List (S27) → Option (Bool)
  | 0, _, _, _, _ => none
  | k + 1, x246000, x246001, x247000, x247001 => emendateref30_Valid.l0 k 0 x246000 x246001 x247000 x247001
def emendateref30_Valid.l0 : Nat → Int → Int → List (S54) → Int → List (S27) → Option (Bool)
  | 0, _, _, _, _, _ => none
  | k + 1, x7, x246000, x246001, x247000, x247001 => if x7 < (x247001.length : Int) then (if 0 ≤ x247000 then (if x247000 < (x246001.length : Int) then (if 0 ≤ x7 then (if x7 < (((rd_T54 x246001 x247000).f1).length : Int) then ((emendateref30_Valid.f k x246000 x246001 (rd ((rd_T54 x246001 x247000).f1) x7) ((rd_T27 x247001 x7).f0) ((rd_T27 x247001 x7).f1)).bind fun t252 => (if t252 = true then (emendateref30_Valid.l0 k (wrap64 (x7 + 1)) x246000 x246001 x247000 x247001) else (some false))) else (none)) else (none)) else (none)) else (none)) else (some true)
def emendateref30_Valid.f : Nat → Int → List (S54) → Int → Int → List (S27) → Option (Bool)
  | 0, _, _, _, _, _ => none
  | k + 1, a0_0, l0_1, a1, a2_0, l2_1 => if a2_0 < 0 then (emendateref30_Valid.j0 k true a0_0 l0_1 a2_0 l2_1) else (if a2_0 ≥ (l0_1.length : Int) then (emendateref30_Valid.j0 k true a0_0 l0_1 a2_0 l2_1) else (if 0 ≤ a2_0 then (if a2_0 < (l0_1.length : Int) then (if ((rd_T54 l0_1 a2_0).f0) = a1 then (emendateref30_Valid.j0 k ((l2_1.length : Int) != (((rd_T54 l0_1 a2_0).f1).length : Int)) a0_0 l0_1 a2_0 l2_1) else (emendateref30_Valid.j0 k true a0_0 l0_1 a2_0 l2_1)) else (none)) else (none)))
end
theorem emendateref30_Valid.mono_l : ∀ k, (∀ y0 y1 y2 y3 y4, LeO (emendateref30_Valid.f k y0 y1 y2 y3 y4) (emendateref30_Valid.f (k + 1) y0 y1 y2 y3 y4)) ∧ (∀ y0 y1 y2 y3 y4, LeO (emendateref30_Valid.j0 k y0 y1 y2 y3 y4) (emendateref30_Valid.j0 (k + 1) y0 y1 y2 y3 y4)) ∧ (∀ y0 y1 y2 y3, LeO (emendateref30_Valid.j1 k y0 y1 y2 y3) (emendateref30_Valid.j1 (k + 1) y0 y1 y2 y3)) ∧ (∀ y0 y1 y2 y3 y4, LeO (emendateref30_Valid.l0 k y0 y1 y2 y3 y4) (emendateref30_Valid.l0 (k + 1) y0 y1 y2 y3 y4))
  | 0 => ⟨fun _ _ _ _ _ r h => by simp [emendateref30_Valid.f] at h, fun _ _ _ _ _ r h => by simp [emendateref30_Valid.j0] at h, fun _ _ _ _ r h => by simp [emendateref30_Valid.j1] at h, fun _ _ _ _ _ r h => by simp [emendateref30_Valid.l0] at h⟩
  | k + 1 => by
    obtain ⟨ih0, ih1, ih2, ih3⟩ := emendateref30_Valid.mono_l k
    refine ⟨?_, ?_, ?_, ?_⟩
    all_goals intros
    all_goals first | unfold emendateref30_Valid.f | unfold emendateref30_Valid.j0 | unfold emendateref30_Valid.j1 | unfold emendateref30_Valid.l0
    all_goals
      repeat' first
      | (with_reducible exact ih0 _ _ _ _ _)
      | (with_reducible exact ih1 _ _ _ _ _)
      | (with_reducible exact ih2 _ _ _ _)
      | (with_reducible exact ih3 _ _ _ _ _)
      | (with_reducible exact LeO.refl _)
      | (with_reducible exact LeO.none _)
      | (with_reducible refine LeO.ite ?_ ?_)
      | (with_reducible refine LeO.bind ?_ (fun _ => ?_))
      | exact ih0 _ _ _ _ _
      | exact ih1 _ _ _ _ _
      | exact ih2 _ _ _ _
      | exact ih3 _ _ _ _ _
      | exact LeO.none _
      | refine LeO.ite ?_ ?_
      | refine LeO.bind ?_ (fun _ => ?_)
theorem emendateref30_Valid.mono : ∀ a0 a1 a2 a3 a4 k, LeO (emendateref30_Valid.f k a0 a1 a2 a3 a4) (emendateref30_Valid.f (k + 1) a0 a1 a2 a3 a4) := by
  intro a0 a1 a2 a3 a4 k
  obtain ⟨ih0, ih1, ih2, ih3⟩ := emendateref30_Valid.mono_l k
  exact ih0 a0 a1 a2 a3 a4
def emendateref30_Valid.T1 : Bool × List (List Nat × List Nat) := (true, [([], []), ([0], [0]), ([1], [1]), ([2], [2]), ([3], [3]), ([4, 3], [3, 4]), ([3], [3]), ([6, 3], [3, 6]), ([7, 3], [3, 7]), ([5, 8, 3], [3, 5, 8]), ([3, 9], [3, 9]), ([10, 3], [10]), ([11], [11]), ([12, 11], [11, 12]), ([11], [11]), ([14, 11], [11, 14]), ([13, 15, 11], [11, 13, 15]), ([16, 11], [11, 16]), ([17, 11], [11, 17]), ([11], [11]), ([18, 19, 11], [11, 18, 19]), ([11, 20], [11, 20]), ([21, 11], [21]), ([22], [22]), ([23, 22], [22, 23]), ([24, 22], [22, 24]), ([22], [22]), ([26, 22], [22, 26]), ([22], [22]), ([28, 22], [22, 28]), ([27, 29, 22], [22, 27, 29]), ([30, 22], [22, 30]), ([31, 22], [22, 31]), ([32, 22], [22, 32]), ([25, 33, 22], [22, 25, 33]), ([22, 34], [22, 34])])
def emendateref30_Valid.B1 : List Nat := [0, 1, 3, 7, 15, 31, 15, 79, 207, 511, 1023, 2047, 4095, 8191, 4095, 20479, 65535, 131071, 262143, 4095, 1048575, 2097151, 4194303, 8388607, 16777215, 33554431, 8388607, 75497471, 8388607, 276824063, 1015021567, 2088763391, 4236247039, 8531214335, 17179869183, 34359738367]
theorem emendateref30_Valid.tab1 : rtab .any (opsOf Try.f27 1) = emendateref30_Valid.T1 := by kernel_rfl
theorem emendateref30_Valid.bits1 : waitsOk emendateref30_Valid.T1.2 emendateref30_Valid.B1 = true := by kernel_rfl
def emendateref30_Valid.T6 : Bool × List (List Nat × List Nat) := (true, [([], []), ([], []), ([1], [1]), ([], []), ([3], [3]), ([2, 4], [2, 4]), ([5], [5]), ([6], [6]), ([], []), ([7, 8], [7, 8]), ([9], [9]), ([], []), ([11], [11]), ([], []), ([12, 13], [12, 13]), ([14], [14]), ([0, 10, 15], [0, 10, 15]), ([16], [16])])
def emendateref30_Valid.B6 : List Nat := [0, 0, 2, 0, 8, 30, 62, 126, 0, 510, 1022, 0, 2048, 0, 14336, 30720, 65535, 131071]
theorem emendateref30_Valid.tab6 : rtab .any (opsOf Try.f27 6) = emendateref30_Valid.T6 := by kernel_rfl
theorem emendateref30_Valid.bits6 : waitsOk emendateref30_Valid.T6.2 emendateref30_Valid.B6 = true := by kernel_rfl
set_option maxHeartbeats 8000000 in
set_option maxRecDepth 100000 in
theorem emendateref30_Valid.calls (k : Nat) : ∀ (a0_0 : Int) (A0_1 : Option Addr) (c0_1 : Nat) (l0_1 : List (S54)) (a1 : Int) (a2_0 : Int) (A2_1 : Option Addr) (c2_1 : Nat) (l2_1 : List (S27)) (r : Bool) (w : World) (hr0_1 : Kd.C k54 w A0_1 l0_1.length l0_1) (hc0_1 : l0_1.length ≤ c0_1) (hr2_1 : Kd.C k27 w A2_1 l2_1.length l2_1) (hc2_1 : l2_1.length ≤ c2_1) (h : emendateref30_Valid.f k a0_0 l0_1 a1 a2_0 l2_1 = some r),
    Calls Try.prog 27 #[.agg #[.int .i64 a0_0, .slice A0_1 l0_1.length c0_1], .int .i64 a1, .agg #[.int .i64 a2_0, .slice A2_1 l2_1.length c2_1]] w fun e w' => e = .returned (.bool r) ∧ Below w.heap.size w w' := by
  induction k using Nat.strongRecOn with
  | _ k ih =>
  intro a0_0 A0_1 c0_1 l0_1 a1 a2_0 A2_1 c2_1 l2_1 r w hr0_1 hc0_1 hr2_1 hc2_1 h
  cases k with
  | zero => exact absurd h (by simp [emendateref30_Valid.f])
  | succ k =>
  simp only [emendateref30_Valid.f] at h
  have hu24 := Try.underlying24
  have hu27 := Try.underlying27
  have HR0_1 := Aside0.mk hr0_1
  have HC0_1 := Aside0.mk hc0_1
  clear hr0_1 hc0_1
  have HR2_1 := Aside0.mk hr2_1
  have HC2_1 := Aside0.mk hc2_1
  clear hr2_1 hc2_1
  have HB := Aside0.mk (Below.refl w.heap.size w)
  have H : (if a2_0 < 0 then (emendateref30_Valid.j0 k true a0_0 l0_1 a2_0 l2_1) else (if a2_0 ≥ (l0_1.length : Int) then (emendateref30_Valid.j0 k true a0_0 l0_1 a2_0 l2_1) else (if 0 ≤ a2_0 then (if a2_0 < (l0_1.length : Int) then (if ((rd_T54 l0_1 a2_0).f0) = a1 then (emendateref30_Valid.j0 k ((l2_1.length : Int) != (((rd_T54 l0_1 a2_0).f1).length : Int)) a0_0 l0_1 a2_0 l2_1) else (emendateref30_Valid.j0 k true a0_0 l0_1 a2_0 l2_1)) else (none)) else (none)))) = some r := h
  clear h
  have HC4 := Aside0.mk H
  clear H
  go_enter Try.func27, Try.ntmps27
  go_upto_region 1 with (first | ((with_reducible refine gate_dst (N := 3) rfl ?_); (try (refine gate_guard (by rfl) ?_; dsimp only)); refine box_event ?hg (N := 3) ?hd (cs := #[.int .i64 a0_0, .slice A0_1 l0_1.length c0_1]) (t := 24) ?hr ?_; (case hd => rfl); (case hg => rfl); (case hr => first | (go_simp; done) | (go_simp; rfl)); intro gb245 hg w5 hbox hb; have n0_ := Aside0.mk (below_step (bel HB) hb); have n1_ := Aside0.mk (hbox); have n2_ := Aside0.mk ((by rw [hg]; exact (below_size (bel HB)) : w.heap.size ≤ gb245)); have n3_ := Aside0.mk ((by rw [hg]; exact (below_size (bel HB)) : w.heap.size ≤ gb245)); clear HB; have HB := n0_; have BK245 := n1_; have GW245 := n2_; have GE245 := n3_; clear n0_ n1_ n2_ n3_; clear hb hbox hg) | ((with_reducible refine gate_dst (N := 5) rfl ?_); (try (refine gate_guard (by rfl) ?_; dsimp only)); refine box_event ?hg (N := 5) ?hd (cs := #[.int .i64 a2_0, .slice A2_1 l2_1.length c2_1]) (t := 27) ?hr ?_; (case hd => rfl); (case hg => rfl); (case hr => first | (go_simp; done) | (go_simp; rfl)); intro gb246 hg w6 hbox hb; have n0_ := Aside0.mk (blk_below (bk BK245) hb); have n1_ := Aside0.mk (below_step (bel HB) hb); have n2_ := Aside0.mk (hbox); have n3_ := Aside0.mk ((by rw [hg]; exact (below_size (bel HB)) : w.heap.size ≤ gb246)); have n4_ := Aside0.mk ((by rw [hg]; exact (below_size (bel HB)) : w.heap.size ≤ gb246)); have n5_ := Aside0.mk ((by rw [hg]; exact Nat.ne_of_lt (blk_lt (bk BK245)) : gb245 ≠ gb246)); have n6_ := Aside0.mk ((by rw [hg]; exact Nat.ne_of_gt (blk_lt (bk BK245)) : gb246 ≠ gb245)); clear BK245; clear HB; have BK245 := n0_; have HB := n1_; have BK246 := n2_; have GW246 := n3_; have GE246 := n4_; have NB245_246 := n5_; have NB246_245 := n6_; clear n0_ n1_ n2_ n3_ n4_ n5_ n6_; clear hb hbox hg))
  (try simp only [Act.put, List.setIfInBounds_toArray, List.set_cons_zero, List.set_cons_succ])
  go_cut [43] (fun v43 wc => ∃ (kq : Nat) (x43_3 : Bool), v43 = .bool x43_3 ∧ Aside0 (emendateref30_Valid.j0 kq x43_3 a0_0 l0_1 a2_0 l2_1 = some r) ∧ Aside0 (kq ≤ k) ∧ Aside0 (wc.heap[gb245]? = some (.cells #[.int .i64 a0_0, (.slice A0_1 l0_1.length c0_1)] 24 (0, 0))) ∧ Aside0 (wc.heap[gb246]? = some (.cells #[.int .i64 a2_0, (.slice A2_1 l2_1.length c2_1)] 27 (0, 0))) ∧ Aside0 (Below w.heap.size w wc))
  case first =>
    have H := HC4.out
    clear HC4
    by_cases c7 : a2_0 < 0
    · rw [if_pos c7] at H
      have c7b0 : decide (a2_0 < 0) = true := decide_eq_true c7
      clear c7
      (first | rw [c7b0] | (simp only [i64_w, i32_w]; rw [c7b0]) | skip)
      have H' := Aside0.mk H
      clear H
      try go_wp2
      have n0_ := Aside0.mk (blk_drew BK245.out)
      have n1_ := Aside0.mk (blk_drew BK246.out)
      have n2_ := Aside0.mk (below_drew1 HB.out)
      clear BK245
      clear BK246
      clear HB
      have BK245 := n0_
      have BK246 := n1_
      have HB := n2_
      clear n0_ n1_ n2_
      refine start_ (n := 36) (S := fun w' => w'.cell? ⟨gb246, 0, none⟩ = some (.int .i64 a2_0) ∧ w'.cell? ⟨gb246, 1, none⟩ = some (.slice A2_1 l2_1.length c2_1)) (ds := []) #[false, false, false, false, false, false, false, false, false, false, false, false, false, false, false, false, false, false, false, false, false, false, false, false, false, false, false, false, false, false, false, false, false, false, false, false] (by kernel_rfl) rfl rfl ⟨(blk_cell BK246.out 0).trans rfl, (blk_cell BK246.out 1).trans rfl⟩ (fun hHeld => ?_); refine with_tabW emendateref30_Valid.tab1 emendateref30_Valid.bits1 (fun HT_ HW_ => ?_)
      generalize w6.drew = w8 at BK245 BK246 HB hHeld ⊢
      refine bulk_ (fuel := 0) [(0, 8), (1, 9), (2, 10), (3, 11), (4, 12), (5, 13), (6, 14), (7, 15), (8, 16), (9, 17), (10, 18), (11, 19), (12, 20), (13, 21), (14, 22), (15, 23), (16, 24), (17, 25), (18, 26), (19, 27), (20, 28), (21, 29), (22, 30), (23, 31), (24, 32), (25, 33), (26, 34), (27, 35), (28, 36), (29, 37), (30, 38), (31, 39), (32, 40), (33, 41), (34, 42), (35, 43)] #[true, true, true, true, true, true, true, true, true, true, true, true, true, true, true, true, true, true, true, true, true, true, true, true, true, true, true, true, true, true, true, true, true, true, true, true] (bulkB_of HT_.out HW_.out _ _ _ (by kernel_rfl)) rfl (fun _ _ _ _ _ h => h) hHeld (a' := ?_) ?_ ?_
      rotate_left
      · iterate 4
          refine chain_cons (v := ?_) (a1 := ?_) rfl rfl (Or.inl ⟨by rfl, ?_⟩) ?_ ?_
          rotate_left 2
          · rintro w' ⟨s0, s1⟩
            go_simp
            with_reducible rfl
          · simp only [Act.put, List.setIfInBounds_toArray, List.set_cons_zero, List.set_cons_succ, i64_w, i32_w]
            rfl
        iterate 6
          refine chain_off (a1 := ?_) rfl rfl (by rfl) ?_ ?_
          rotate_left
          · simp only [Act.put, List.setIfInBounds_toArray, List.set_cons_zero, List.set_cons_succ]
            rfl
        iterate 2
          refine chain_cons (v := ?_) (a1 := ?_) rfl rfl (Or.inl ⟨by rfl, ?_⟩) ?_ ?_
          rotate_left 2
          · rintro w' ⟨s0, s1⟩
            go_simp
            with_reducible rfl
          · simp only [Act.put, List.setIfInBounds_toArray, List.set_cons_zero, List.set_cons_succ, i64_w, i32_w]
            rfl
        iterate 9
          refine chain_off (a1 := ?_) rfl rfl (by rfl) ?_ ?_
          rotate_left
          · simp only [Act.put, List.setIfInBounds_toArray, List.set_cons_zero, List.set_cons_succ]
            rfl
        iterate 2
          refine chain_cons (v := ?_) (a1 := ?_) rfl rfl (Or.inl ⟨by rfl, ?_⟩) ?_ ?_
          rotate_left 2
          · rintro w' ⟨s0, s1⟩
            go_simp
            with_reducible rfl
          · simp only [Act.put, List.setIfInBounds_toArray, List.set_cons_zero, List.set_cons_succ, i64_w, i32_w]
            rfl
        iterate 12
          refine chain_off (a1 := ?_) rfl rfl (by rfl) ?_ ?_
          rotate_left
          · simp only [Act.put, List.setIfInBounds_toArray, List.set_cons_zero, List.set_cons_succ]
            rfl
        iterate 1
          refine chain_cons (v := ?_) (a1 := ?_) rfl rfl (Or.inl ⟨by rfl, ?_⟩) ?_ ?_
          rotate_left 2
          · rintro w' ⟨s0, s1⟩
            go_simp
            with_reducible rfl
          · simp only [Act.put, List.setIfInBounds_toArray, List.set_cons_zero, List.set_cons_succ, i64_w, i32_w]
            rfl
        exact chain_nil
      refine done_ (done_of HT_.out (by kernel_rfl)) ?_
      try go_wp2
      go_meet
      case rel => exact ⟨_, (true), (by first | rfl | (simp; done) | (simp [*]; done)), H', ⟨by first | omega | exact Nat.le_refl _⟩, ⟨by (with_reducible repeat (first | refine blk_drewN ?_ _ | refine blk_drew ?_ | refine blk_alloc ?_ _)); exact BK245.out⟩, ⟨by (with_reducible repeat (first | refine blk_drewN ?_ _ | refine blk_drew ?_ | refine blk_alloc ?_ _)); exact BK246.out⟩, ⟨bel HB⟩⟩
    · rw [if_neg c7] at H
      have c7b0 : decide (a2_0 < 0) = false := decide_eq_false c7
      clear c7
      (first | rw [c7b0] | (simp only [i64_w, i32_w]; rw [c7b0]) | skip)
      by_cases c9 : a2_0 ≥ (l0_1.length : Int)
      · rw [if_pos c9] at H
        have c9b0 : decide ((l0_1.length : Int) ≤ a2_0) = true := decide_eq_true c9
        clear c9
        have H' := Aside0.mk H
        clear H
        try go_wp2
        have n0_ := Aside0.mk (blk_drew BK245.out)
        have n1_ := Aside0.mk (blk_drew BK246.out)
        have n2_ := Aside0.mk (below_drew1 HB.out)
        clear BK245
        clear BK246
        clear HB
        have BK245 := n0_
        have BK246 := n1_
        have HB := n2_
        clear n0_ n1_ n2_
        refine start_ (n := 36) (S := fun w' => w'.cell? ⟨gb246, 0, none⟩ = some (.int .i64 a2_0) ∧ w'.cell? ⟨gb246, 1, none⟩ = some (.slice A2_1 l2_1.length c2_1) ∧ w'.cell? ⟨gb245, 0, none⟩ = some (.int .i64 a0_0) ∧ w'.cell? ⟨gb245, 1, none⟩ = some (.slice A0_1 l0_1.length c0_1)) (ds := []) #[false, false, false, false, false, false, false, false, false, false, false, false, false, false, false, false, false, false, false, false, false, false, false, false, false, false, false, false, false, false, false, false, false, false, false, false] (by kernel_rfl) rfl rfl ⟨(blk_cell BK246.out 0).trans rfl, (blk_cell BK246.out 1).trans rfl, (blk_cell BK245.out 0).trans rfl, (blk_cell BK245.out 1).trans rfl⟩ (fun hHeld => ?_); refine with_tabW emendateref30_Valid.tab1 emendateref30_Valid.bits1 (fun HT_ HW_ => ?_)
        generalize w6.drew = w10 at BK245 BK246 HB hHeld ⊢
        refine bulk_ (fuel := 0) [(0, 8), (1, 9), (2, 10), (3, 11), (4, 12), (6, 14), (5, 13), (7, 15), (8, 16), (9, 17), (10, 18), (11, 19), (12, 20), (13, 21), (14, 22), (15, 23), (16, 24), (17, 25), (18, 26), (19, 27), (20, 28), (21, 29), (22, 30), (23, 31), (24, 32), (25, 33), (26, 34), (27, 35), (28, 36), (29, 37), (30, 38), (31, 39), (32, 40), (33, 41), (34, 42), (35, 43)] #[true, true, true, true, true, true, true, true, true, true, true, true, true, true, true, true, true, true, true, true, true, true, true, true, true, true, true, true, true, true, true, true, true, true, true, true] (bulkB_of HT_.out HW_.out _ _ _ (by kernel_rfl)) rfl (fun _ _ _ _ _ h => h) hHeld (a' := ?_) ?_ ?_
        rotate_left
        · iterate 12
            refine chain_cons (v := ?_) (a1 := ?_) rfl rfl (Or.inl ⟨by rfl, ?_⟩) ?_ ?_
            rotate_left 2
            · rintro w' ⟨s0, s1, s2, s3⟩
              go_simp
              with_reducible rfl
            · simp only [Act.put, List.setIfInBounds_toArray, List.set_cons_zero, List.set_cons_succ, i64_w, i32_w]
              rfl
          iterate 9
            refine chain_off (a1 := ?_) rfl rfl (by rfl) ?_ ?_
            rotate_left
            · simp only [Act.put, List.setIfInBounds_toArray, List.set_cons_zero, List.set_cons_succ]
              rfl
          iterate 2
            refine chain_cons (v := ?_) (a1 := ?_) rfl rfl (Or.inl ⟨by rfl, ?_⟩) ?_ ?_
            rotate_left 2
            · rintro w' ⟨s0, s1, s2, s3⟩
              go_simp
              with_reducible rfl
            · simp only [Act.put, List.setIfInBounds_toArray, List.set_cons_zero, List.set_cons_succ, i64_w, i32_w]
              rfl
          iterate 12
            refine chain_off (a1 := ?_) rfl rfl (by rfl) ?_ ?_
            rotate_left
            · simp only [Act.put, List.setIfInBounds_toArray, List.set_cons_zero, List.set_cons_succ]
              rfl
          iterate 1
            refine chain_cons (v := ?_) (a1 := ?_) rfl rfl (Or.inl ⟨by rfl, ?_⟩) ?_ ?_
            rotate_left 2
            · rintro w' ⟨s0, s1, s2, s3⟩
              go_simp
              with_reducible rfl
            · simp only [Act.put, List.setIfInBounds_toArray, List.set_cons_zero, List.set_cons_succ, i64_w, i32_w]
              rfl
          exact chain_nil
        refine done_ (done_of HT_.out (by kernel_rfl)) ?_
        try go_wp2
        go_meet
        case rel => exact ⟨_, (true), (by first | rfl | (simp; done) | (simp [*]; done)), H', ⟨by first | omega | exact Nat.le_refl _⟩, ⟨by (with_reducible repeat (first | refine blk_drewN ?_ _ | refine blk_drew ?_ | refine blk_alloc ?_ _)); exact BK245.out⟩, ⟨by (with_reducible repeat (first | refine blk_drewN ?_ _ | refine blk_drew ?_ | refine blk_alloc ?_ _)); exact BK246.out⟩, ⟨bel HB⟩⟩
      · rw [if_neg c9] at H
        have c9b0 : decide ((l0_1.length : Int) ≤ a2_0) = false := decide_eq_false c9
        clear c9
        by_cases c11 : 0 ≤ a2_0
        · rw [if_pos c11] at H
          have c11b0 : decide (0 ≤ a2_0) = true := decide_eq_true c11
          clear c11
          by_cases c12 : a2_0 < (l0_1.length : Int)
          · rw [if_pos c12] at H
            have c12b0 : decide (a2_0 < (l0_1.length : Int)) = true := decide_eq_true c12
            clear c12
            by_cases c13 : ((rd_T54 l0_1 a2_0).f0) = a1
            · rw [if_pos c13] at H
              have c13b0 : (((rd_T54 l0_1 a2_0).f0) == a1) = true := beq_iff_eq.mpr c13
              have c13b1 : (((rd_T54 l0_1 a2_0).f0) != a1) = false := bne_eq_false_iff_eq.mpr c13
              clear c13
              have H' := Aside0.mk H
              clear H
              try go_wp2
              have n0_ := Aside0.mk (blk_drew BK245.out)
              have n1_ := Aside0.mk (blk_drew BK246.out)
              have n2_ := Aside0.mk (below_drew1 HB.out)
              clear BK245
              clear BK246
              clear HB
              have BK245 := n0_
              have BK246 := n1_
              have HB := n2_
              clear n0_ n1_ n2_
              have p247 : 0 ≤ (a2_0 : Int) := of_decide_eq_true (by first | (with_reducible assumption) | assumption)
              have q247 : a2_0 < (l0_1.length : Int) := of_decide_eq_true (by first | (with_reducible assumption) | assumption)
              obtain ⟨ad247, A247_1, c247_1, e247, hx247_0, hx247_1, hx247_2, hx247_3, hx247_4, hl247_1, hi247_1⟩ := at_T54 HR0_1.out a2_0 p247 q247
              have hw247_4 := hx247_4
              have hw247_3 := hx247_3
              have hw247_2 := hx247_2
              have hw247_1 := hx247_1
              have hw247_0 := hx247_0
              cases e247
              replace hx247_0 := (HB.out.cell (World.block_lt_of_cell? w _ hx247_0)).trans hx247_0
              replace hx247_1 := (HB.out.cell (World.block_lt_of_cell? w _ hx247_1)).trans hx247_1
              replace hx247_2 := (HB.out.cell (World.block_lt_of_cell? w _ hx247_2)).trans hx247_2
              replace hx247_3 := (HB.out.cell (World.block_lt_of_cell? w _ hx247_3)).trans hx247_3
              replace hx247_4 := (HB.out.cell (World.block_lt_of_cell? w _ hx247_4)).trans hx247_4
              have HR247_1 := Aside0.mk hi247_1
              have HC247_1 := Aside0.mk hl247_1
              clear hi247_1 hl247_1
              replace p247 := eq_true p247
              replace q247 := eq_true q247
              have p248 : 0 ≤ (a2_0 : Int) := of_decide_eq_true (by first | (with_reducible assumption) | assumption)
              have q248 : a2_0 < (l0_1.length : Int) := of_decide_eq_true (by first | (with_reducible assumption) | assumption)
              obtain ⟨ad248, A248_1, c248_1, e248, hx248_0, hx248_1, hx248_2, hx248_3, hx248_4, hl248_1, hi248_1⟩ := at_T54 HR0_1.out a2_0 p248 q248
              have hw248_4 := hx248_4
              have hw248_3 := hx248_3
              have hw248_2 := hx248_2
              have hw248_1 := hx248_1
              have hw248_0 := hx248_0
              obtain rfl : ad247 = ad248 := (by injection e248)
              replace hx248_0 := (HB.out.cell (World.block_lt_of_cell? w _ hx248_0)).trans hx248_0
              replace hx248_1 := (HB.out.cell (World.block_lt_of_cell? w _ hx248_1)).trans hx248_1
              replace hx248_2 := (HB.out.cell (World.block_lt_of_cell? w _ hx248_2)).trans hx248_2
              replace hx248_3 := (HB.out.cell (World.block_lt_of_cell? w _ hx248_3)).trans hx248_3
              replace hx248_4 := (HB.out.cell (World.block_lt_of_cell? w _ hx248_4)).trans hx248_4
              have HR248_1 := Aside0.mk hi248_1
              have HC248_1 := Aside0.mk hl248_1
              clear hi248_1 hl248_1
              replace p248 := eq_true p248
              replace q248 := eq_true q248
              have ea_ := Option.some.inj (hx247_1.symm.trans hx248_1)
              injection ea_ with ea_ en_ ec_
              subst ea_
              subst ec_
              clear en_
              refine start_ (n := 36) (S := fun w' => w'.cell? ⟨gb246, 0, none⟩ = some (.int .i64 a2_0) ∧ w'.cell? ⟨gb246, 1, none⟩ = some (.slice A2_1 l2_1.length c2_1) ∧ w'.cell? ⟨gb245, 0, none⟩ = some (.int .i64 a0_0) ∧ w'.cell? ⟨gb245, 1, none⟩ = some (.slice (some ad247) l0_1.length c0_1) ∧ w'.cell? (ad247.add ((a2_0).toNat * 5)) = some (.int .i64 ((rd_T54 l0_1 a2_0).f0)) ∧ w'.cell? ⟨(ad247.add ((a2_0).toNat * 5)).block, (ad247.add ((a2_0).toNat * 5)).off + 1, none⟩ = some (.slice A247_1 ((rd_T54 l0_1 a2_0).f1).length c247_1) ∧ w'.cell? ⟨(ad247.add ((a2_0).toNat * 5)).block, (ad247.add ((a2_0).toNat * 5)).off + 2, none⟩ = some (.int .i64 ((rd_T54 l0_1 a2_0).f2)) ∧ w'.cell? ⟨(ad247.add ((a2_0).toNat * 5)).block, (ad247.add ((a2_0).toNat * 5)).off + 3, none⟩ = some (.int .i64 ((rd_T54 l0_1 a2_0).f3.f0)) ∧ w'.cell? ⟨(ad247.add ((a2_0).toNat * 5)).block, (ad247.add ((a2_0).toNat * 5)).off + 4, none⟩ = some (.int .i64 ((rd_T54 l0_1 a2_0).f3.f1)) ∧ w'.cell? (ad247.add ((a2_0).toNat * 5)) = some (.int .i64 ((rd_T54 l0_1 a2_0).f0)) ∧ w'.cell? ⟨(ad247.add ((a2_0).toNat * 5)).block, (ad247.add ((a2_0).toNat * 5)).off + 1, none⟩ = some (.slice A247_1 ((rd_T54 l0_1 a2_0).f1).length c247_1) ∧ w'.cell? ⟨(ad247.add ((a2_0).toNat * 5)).block, (ad247.add ((a2_0).toNat * 5)).off + 2, none⟩ = some (.int .i64 ((rd_T54 l0_1 a2_0).f2)) ∧ w'.cell? ⟨(ad247.add ((a2_0).toNat * 5)).block, (ad247.add ((a2_0).toNat * 5)).off + 3, none⟩ = some (.int .i64 ((rd_T54 l0_1 a2_0).f3.f0)) ∧ w'.cell? ⟨(ad247.add ((a2_0).toNat * 5)).block, (ad247.add ((a2_0).toNat * 5)).off + 4, none⟩ = some (.int .i64 ((rd_T54 l0_1 a2_0).f3.f1))) (ds := []) #[false, false, false, false, false, false, false, false, false, false, false, false, false, false, false, false, false, false, false, false, false, false, false, false, false, false, false, false, false, false, false, false, false, false, false, false] (by kernel_rfl) rfl rfl ⟨(blk_cell BK246.out 0).trans rfl, (blk_cell BK246.out 1).trans rfl, (blk_cell BK245.out 0).trans rfl, (blk_cell BK245.out 1).trans rfl, ((HB.out.cell (World.block_lt_of_cell? w _ hw247_0)).trans hw247_0), ((HB.out.cell (World.block_lt_of_cell? w _ hw247_1)).trans hw247_1), ((HB.out.cell (World.block_lt_of_cell? w _ hw247_2)).trans hw247_2), ((HB.out.cell (World.block_lt_of_cell? w _ hw247_3)).trans hw247_3), ((HB.out.cell (World.block_lt_of_cell? w _ hw247_4)).trans hw247_4), ((HB.out.cell (World.block_lt_of_cell? w _ hw248_0)).trans hw248_0), ((HB.out.cell (World.block_lt_of_cell? w _ hw248_1)).trans hw248_1), ((HB.out.cell (World.block_lt_of_cell? w _ hw248_2)).trans hw248_2), ((HB.out.cell (World.block_lt_of_cell? w _ hw248_3)).trans hw248_3), ((HB.out.cell (World.block_lt_of_cell? w _ hw248_4)).trans hw248_4)⟩ (fun hHeld => ?_); refine with_tabW emendateref30_Valid.tab1 emendateref30_Valid.bits1 (fun HT_ HW_ => ?_)
              generalize w6.drew = w14 at BK245 BK246 HB HR247_1 HR248_1 hx247_0 hx247_1 hx247_2 hx247_3 hx247_4 hx248_0 hx248_1 hx248_2 hx248_3 hx248_4 hHeld ⊢
              refine bulk_ (fuel := 0) [(0, 8), (1, 9), (2, 10), (3, 11), (4, 12), (6, 14), (5, 13), (7, 15), (8, 16), (9, 17), (10, 18), (11, 19), (12, 20), (14, 22), (19, 27), (13, 21), (15, 23), (16, 24), (17, 25), (18, 26), (20, 28), (21, 29), (22, 30), (23, 31), (26, 34), (28, 36), (24, 32), (25, 33), (27, 35), (29, 37), (30, 38), (31, 39), (32, 40), (33, 41), (34, 42), (35, 43)] #[true, true, true, true, true, true, true, true, true, true, true, true, true, true, true, true, true, true, true, true, true, true, true, true, true, true, true, true, true, true, true, true, true, true, true, true] (bulkB_of HT_.out HW_.out _ _ _ (by kernel_rfl)) rfl (fun _ _ _ _ _ h => h) hHeld (a' := ?_) ?_ ?_
              rotate_left
              · iterate 36
                  refine chain_cons (v := ?_) (a1 := ?_) rfl rfl (Or.inl ⟨by rfl, ?_⟩) ?_ ?_
                  rotate_left 2
                  · rintro w' ⟨s0, s1, s2, s3, s4, s5, s6, s7, s8, s9, s10, s11, s12, s13⟩
                    go_simp
                    with_reducible rfl
                  · simp only [Act.put, List.setIfInBounds_toArray, List.set_cons_zero, List.set_cons_succ, i64_w, i32_w]
                    rfl
                exact chain_nil
              refine done_ (done_of HT_.out (by kernel_rfl)) ?_
              try go_wp2
              go_meet
              case rel => exact ⟨_, (((l2_1.length : Int) != (((rd_T54 l0_1 a2_0).f1).length : Int))), (by first | rfl | (simp; done) | (simp [*]; done)), H', ⟨by first | omega | exact Nat.le_refl _⟩, ⟨by (with_reducible repeat (first | refine blk_drewN ?_ _ | refine blk_drew ?_ | refine blk_alloc ?_ _)); exact BK245.out⟩, ⟨by (with_reducible repeat (first | refine blk_drewN ?_ _ | refine blk_drew ?_ | refine blk_alloc ?_ _)); exact BK246.out⟩, ⟨bel HB⟩⟩
            · rw [if_neg c13] at H
              have c13b0 : (((rd_T54 l0_1 a2_0).f0) == a1) = false := beq_eq_false_iff_ne.mpr c13
              have c13b1 : (((rd_T54 l0_1 a2_0).f0) != a1) = true := bne_iff_ne.mpr c13
              have H' := Aside0.mk H
              clear H
              try go_wp2
              have n0_ := Aside0.mk (blk_drew BK245.out)
              have n1_ := Aside0.mk (blk_drew BK246.out)
              have n2_ := Aside0.mk (below_drew1 HB.out)
              clear BK245
              clear BK246
              clear HB
              have BK245 := n0_
              have BK246 := n1_
              have HB := n2_
              clear n0_ n1_ n2_
              have p247 : 0 ≤ (a2_0 : Int) := of_decide_eq_true (by first | (with_reducible assumption) | assumption)
              have q247 : a2_0 < (l0_1.length : Int) := of_decide_eq_true (by first | (with_reducible assumption) | assumption)
              obtain ⟨ad247, A247_1, c247_1, e247, hx247_0, hx247_1, hx247_2, hx247_3, hx247_4, hl247_1, hi247_1⟩ := at_T54 HR0_1.out a2_0 p247 q247
              have hw247_4 := hx247_4
              have hw247_3 := hx247_3
              have hw247_2 := hx247_2
              have hw247_1 := hx247_1
              have hw247_0 := hx247_0
              cases e247
              replace hx247_0 := (HB.out.cell (World.block_lt_of_cell? w _ hx247_0)).trans hx247_0
              replace hx247_1 := (HB.out.cell (World.block_lt_of_cell? w _ hx247_1)).trans hx247_1
              replace hx247_2 := (HB.out.cell (World.block_lt_of_cell? w _ hx247_2)).trans hx247_2
              replace hx247_3 := (HB.out.cell (World.block_lt_of_cell? w _ hx247_3)).trans hx247_3
              replace hx247_4 := (HB.out.cell (World.block_lt_of_cell? w _ hx247_4)).trans hx247_4
              have HR247_1 := Aside0.mk hi247_1
              have HC247_1 := Aside0.mk hl247_1
              clear hi247_1 hl247_1
              replace p247 := eq_true p247
              replace q247 := eq_true q247
              refine start_ (n := 36) (S := fun w' => w'.cell? ⟨gb246, 0, none⟩ = some (.int .i64 a2_0) ∧ w'.cell? ⟨gb246, 1, none⟩ = some (.slice A2_1 l2_1.length c2_1) ∧ w'.cell? ⟨gb245, 0, none⟩ = some (.int .i64 a0_0) ∧ w'.cell? ⟨gb245, 1, none⟩ = some (.slice (some ad247) l0_1.length c0_1) ∧ w'.cell? (ad247.add ((a2_0).toNat * 5)) = some (.int .i64 ((rd_T54 l0_1 a2_0).f0)) ∧ w'.cell? ⟨(ad247.add ((a2_0).toNat * 5)).block, (ad247.add ((a2_0).toNat * 5)).off + 1, none⟩ = some (.slice A247_1 ((rd_T54 l0_1 a2_0).f1).length c247_1) ∧ w'.cell? ⟨(ad247.add ((a2_0).toNat * 5)).block, (ad247.add ((a2_0).toNat * 5)).off + 2, none⟩ = some (.int .i64 ((rd_T54 l0_1 a2_0).f2)) ∧ w'.cell? ⟨(ad247.add ((a2_0).toNat * 5)).block, (ad247.add ((a2_0).toNat * 5)).off + 3, none⟩ = some (.int .i64 ((rd_T54 l0_1 a2_0).f3.f0)) ∧ w'.cell? ⟨(ad247.add ((a2_0).toNat * 5)).block, (ad247.add ((a2_0).toNat * 5)).off + 4, none⟩ = some (.int .i64 ((rd_T54 l0_1 a2_0).f3.f1))) (ds := []) #[false, false, false, false, false, false, false, false, false, false, false, false, false, false, false, false, false, false, false, false, false, false, false, false, false, false, false, false, false, false, false, false, false, false, false, false] (by kernel_rfl) rfl rfl ⟨(blk_cell BK246.out 0).trans rfl, (blk_cell BK246.out 1).trans rfl, (blk_cell BK245.out 0).trans rfl, (blk_cell BK245.out 1).trans rfl, ((HB.out.cell (World.block_lt_of_cell? w _ hw247_0)).trans hw247_0), ((HB.out.cell (World.block_lt_of_cell? w _ hw247_1)).trans hw247_1), ((HB.out.cell (World.block_lt_of_cell? w _ hw247_2)).trans hw247_2), ((HB.out.cell (World.block_lt_of_cell? w _ hw247_3)).trans hw247_3), ((HB.out.cell (World.block_lt_of_cell? w _ hw247_4)).trans hw247_4)⟩ (fun hHeld => ?_); refine with_tabW emendateref30_Valid.tab1 emendateref30_Valid.bits1 (fun HT_ HW_ => ?_)
              generalize w6.drew = w15 at BK245 BK246 HB HR247_1 hx247_0 hx247_1 hx247_2 hx247_3 hx247_4 hHeld ⊢
              refine bulk_ (fuel := 0) [(0, 8), (1, 9), (2, 10), (3, 11), (4, 12), (6, 14), (5, 13), (7, 15), (8, 16), (9, 17), (10, 18), (11, 19), (12, 20), (14, 22), (19, 27), (13, 21), (15, 23), (16, 24), (17, 25), (18, 26), (20, 28), (21, 29), (22, 30), (23, 31), (24, 32), (25, 33), (26, 34), (27, 35), (28, 36), (29, 37), (30, 38), (31, 39), (32, 40), (33, 41), (34, 42), (35, 43)] #[true, true, true, true, true, true, true, true, true, true, true, true, true, true, true, true, true, true, true, true, true, true, true, true, true, true, true, true, true, true, true, true, true, true, true, true] (bulkB_of HT_.out HW_.out _ _ _ (by kernel_rfl)) rfl (fun _ _ _ _ _ h => h) hHeld (a' := ?_) ?_ ?_
              rotate_left
              · iterate 23
                  refine chain_cons (v := ?_) (a1 := ?_) rfl rfl (Or.inl ⟨by rfl, ?_⟩) ?_ ?_
                  rotate_left 2
                  · rintro w' ⟨s0, s1, s2, s3, s4, s5, s6, s7, s8⟩
                    go_simp
                    with_reducible rfl
                  · simp only [Act.put, List.setIfInBounds_toArray, List.set_cons_zero, List.set_cons_succ, i64_w, i32_w]
                    rfl
                iterate 12
                  refine chain_off (a1 := ?_) rfl rfl (by rfl) ?_ ?_
                  rotate_left
                  · simp only [Act.put, List.setIfInBounds_toArray, List.set_cons_zero, List.set_cons_succ]
                    rfl
                iterate 1
                  refine chain_cons (v := ?_) (a1 := ?_) rfl rfl (Or.inl ⟨by rfl, ?_⟩) ?_ ?_
                  rotate_left 2
                  · rintro w' ⟨s0, s1, s2, s3, s4, s5, s6, s7, s8⟩
                    go_simp
                    with_reducible rfl
                  · simp only [Act.put, List.setIfInBounds_toArray, List.set_cons_zero, List.set_cons_succ, i64_w, i32_w]
                    rfl
                exact chain_nil
              refine done_ (done_of HT_.out (by kernel_rfl)) ?_
              try go_wp2
              go_meet
              case rel => exact ⟨_, (true), (by first | rfl | (simp; done) | (simp [*]; done)), H', ⟨by first | omega | exact Nat.le_refl _⟩, ⟨by (with_reducible repeat (first | refine blk_drewN ?_ _ | refine blk_drew ?_ | refine blk_alloc ?_ _)); exact BK245.out⟩, ⟨by (with_reducible repeat (first | refine blk_drewN ?_ _ | refine blk_drew ?_ | refine blk_alloc ?_ _)); exact BK246.out⟩, ⟨bel HB⟩⟩
          · rw [if_neg c12] at H
            exact absurd H (by simp)
        · rw [if_neg c11] at H
          exact absurd H (by simp)
  case rest =>
    clear HC4
    (try clear c1); (try clear c2); (try clear p2); (try clear q2); (try clear hx2); (try clear c11); (try clear c12); (try clear c13); (try clear c13b0); (try clear c13b1); (try clear hx247_0); (try clear hx247_1); (try clear hx247_2); (try clear hx247_3); (try clear hx247_4); (try clear hx248_0); (try clear hx248_1); (try clear hx248_2); (try clear hx248_3); (try clear hx248_4); (try clear p247); (try clear p248); (try clear q247); (try clear q248)
    obtain ⟨kq, x43_3, rfl, HA, HJ3, BK245, BK246, HB⟩ := hcut
    cases kq with
    | zero => exact absurd HA.out (by simp [emendateref30_Valid.j0])
    | succ kj3 =>
      have H := HA.out
      clear HA
      simp only [emendateref30_Valid.j0] at H
      have HC16 := Aside0.mk H
      clear H
      go_upto_if 43 with (fail)
      go_cut [] (fun wc => ∃ (kq : Nat), Aside0 (emendateref30_Valid.j1 kq a0_0 l0_1 a2_0 l2_1 = some r) ∧ Aside0 (kq ≤ kj3) ∧ Aside0 (wc.heap[gb245]? = some (.cells #[.int .i64 a0_0, (.slice A0_1 l0_1.length c0_1)] 24 (0, 0))) ∧ Aside0 (wc.heap[gb246]? = some (.cells #[.int .i64 a2_0, (.slice A2_1 l2_1.length c2_1)] 27 (0, 0))) ∧ Aside0 (Below w.heap.size w wc))
      case first =>
        have H := HC16.out
        clear HC16
        by_cases c17 : x43_3 = true
        · subst c17
          have H1 : (some false) = some r := by rw [if_pos rfl] at H; exact H
          clear H
          have H := H1
          clear H1
          obtain rfl := Option.some.inj H
          go_wp2
          go_ret
          exact ⟨by first | rfl | (simp [errW_none, errW_some] <;> rfl) | (simp [*, errW_none, errW_some] <;> rfl), bel HB⟩
        · replace c17 := Bool.eq_false_iff.mpr c17
          subst c17
          have H1 : (emendateref30_Valid.j1 kj3 a0_0 l0_1 a2_0 l2_1) = some r := by rw [if_neg (show ¬ (false = true) by decide)] at H; exact H
          clear H
          have H := H1
          clear H1
          have H' := Aside0.mk H
          clear H
          go_wp2
          go_meet
          case rel => exact ⟨_, H', ⟨by have := HJ3.out; first | omega | exact Nat.le_refl _⟩, ⟨by (with_reducible repeat (first | refine blk_drewN ?_ _ | refine blk_drew ?_ | refine blk_alloc ?_ _)); exact BK245.out⟩, ⟨by (with_reducible repeat (first | refine blk_drewN ?_ _ | refine blk_drew ?_ | refine blk_alloc ?_ _)); exact BK246.out⟩, ⟨bel HB⟩⟩
      case rest =>
        clear HC16
        (try clear c1); (try clear c2); (try clear p2); (try clear q2); (try clear hx2); (try clear c11); (try clear c12); (try clear c13); (try clear c13b0); (try clear c13b1); (try clear c17); (try clear hx247_0); (try clear hx247_1); (try clear hx247_2); (try clear hx247_3); (try clear hx247_4); (try clear hx248_0); (try clear hx248_1); (try clear hx248_2); (try clear hx248_3); (try clear hx248_4); (try clear p2); (try clear p247); (try clear p248); (try clear q2); (try clear q247); (try clear q248)
        obtain ⟨kq, HA, HJ15, BK245, BK246, HB⟩ := hcut
        cases kq with
        | zero => exact absurd HA.out (by simp [emendateref30_Valid.j1])
        | succ kj15 =>
          have H := HA.out
          clear HA
          simp only [emendateref30_Valid.j1] at H
          have H' := Aside0.mk H
          clear H
          go_wp2
          go_loopg [7] kj15 (fun kq v7 w' => ∃ (x7_3 : Int), v7 = .int .i64 x7_3 ∧ Aside0 (emendateref30_Valid.l0 kq x7_3 a0_0 l0_1 a2_0 l2_1 = some r) ∧ Aside0 (kq ≤ kj15) ∧ Aside0 (w'.heap[gb245]? = some (.cells #[.int .i64 a0_0, (.slice A0_1 l0_1.length c0_1)] 24 (0, 0))) ∧ Aside0 (w'.heap[gb246]? = some (.cells #[.int .i64 a2_0, (.slice A2_1 l2_1.length c2_1)] 27 (0, 0))) ∧ Aside0 (Below w.heap.size w w'))
          case atStart => exact ⟨(0), (by first | rfl | (simp; done) | (simp [*]; done)), H', ⟨Nat.le_refl _⟩, ⟨by (with_reducible repeat (first | refine blk_drewN ?_ _ | refine blk_drew ?_ | refine blk_alloc ?_ _)); exact BK245.out⟩, ⟨by (with_reducible repeat (first | refine blk_drewN ?_ _ | refine blk_drew ?_ | refine blk_alloc ?_ _)); exact BK246.out⟩, ⟨bel HB⟩⟩
          case round =>
            clear H'
            (try clear c1); (try clear c2); (try clear p2); (try clear q2); (try clear hx2); (try clear c11); (try clear c12); (try clear c13); (try clear c13b0); (try clear c13b1); (try clear c17); (try clear hx247_0); (try clear hx247_1); (try clear hx247_2); (try clear hx247_3); (try clear hx247_4); (try clear hx248_0); (try clear hx248_1); (try clear hx248_2); (try clear hx248_3); (try clear hx248_4); (try clear p2); (try clear p247); (try clear p248); (try clear q2); (try clear q247); (try clear q248)
            obtain ⟨x7_3, rfl, HA, HK3, BK245, BK246, HB⟩ := hrel
            cases gk with
            | zero => exact absurd HA.out (by simp [emendateref30_Valid.l0])
            | succ k3 =>
              have H := HA.out
              clear HA
              simp only [emendateref30_Valid.l0] at H
              by_cases c18 : x7_3 < (l2_1.length : Int)
              · rw [if_pos c18] at H
                have c18b0 : decide (x7_3 < (l2_1.length : Int)) = true := decide_eq_true c18
                clear c18
                by_cases c19 : 0 ≤ a2_0
                · rw [if_pos c19] at H
                  have c19b0 : decide (0 ≤ a2_0) = true := decide_eq_true c19
                  clear c19
                  by_cases c20 : a2_0 < (l0_1.length : Int)
                  · rw [if_pos c20] at H
                    have c20b0 : decide (a2_0 < (l0_1.length : Int)) = true := decide_eq_true c20
                    clear c20
                    by_cases c21 : 0 ≤ x7_3
                    · rw [if_pos c21] at H
                      have c21b0 : decide (0 ≤ x7_3) = true := decide_eq_true c21
                      clear c21
                      by_cases c22 : x7_3 < (((rd_T54 l0_1 a2_0).f1).length : Int)
                      · rw [if_pos c22] at H
                        have c22b0 : decide (x7_3 < (((rd_T54 l0_1 a2_0).f1).length : Int)) = true := decide_eq_true c22
                        clear c22
                        replace H := Option.bind_eq_some_iff.mp H
                        obtain ⟨t252, A230, H⟩ := H
                        replace H : (if t252 = true then (emendateref30_Valid.l0 k3 (wrap64 (x7_3 + 1)) a0_0 l0_1 a2_0 l2_1) else (some false)) = some r := H
                        have A23 := Aside0.mk A230
                        clear A230
                        by_cases c24 : t252 = true
                        · subst c24
                          have H1 : (emendateref30_Valid.l0 k3 (wrap64 (x7_3 + 1)) a0_0 l0_1 a2_0 l2_1) = some r := by rw [if_pos rfl] at H; exact H
                          clear H
                          have H := H1
                          clear H1
                          have H' := Aside0.mk H
                          clear H
                          have hnb25 := NB246_245.out
                          have hnc25 := NB245_246.out
                          have hcz26_0 : wr.cell? ⟨gb246, 0, none⟩ = some (.int .i64 a2_0) := (blk_cell BK246.out 0).trans rfl
                          have hcz26_1 : wr.cell? ⟨gb246, 1, none⟩ = some (.slice A2_1 l2_1.length c2_1) := (blk_cell BK246.out 1).trans rfl
                          have hfz26_0 := blk_frozen BK246.out 0
                          have hfz26_1 := blk_frozen BK246.out 1
                          try go_wp2
                          have n0_ := Aside0.mk (blk_drew BK245.out)
                          have n1_ := Aside0.mk (blk_drew BK246.out)
                          have n2_ := Aside0.mk (below_drew1 HB.out)
                          clear BK245
                          clear BK246
                          clear HB
                          have BK245 := n0_
                          have BK246 := n1_
                          have HB := n2_
                          clear n0_ n1_ n2_
                          have p249 : 0 ≤ (a2_0 : Int) := of_decide_eq_true (by first | (with_reducible assumption) | assumption)
                          have q249 : a2_0 < (l0_1.length : Int) := of_decide_eq_true (by first | (with_reducible assumption) | assumption)
                          obtain ⟨ad249, A249_1, c249_1, e249, hx249_0, hx249_1, hx249_2, hx249_3, hx249_4, hl249_1, hi249_1⟩ := at_T54 HR0_1.out a2_0 p249 q249
                          have hw249_4 := hx249_4
                          have hw249_3 := hx249_3
                          have hw249_2 := hx249_2
                          have hw249_1 := hx249_1
                          have hw249_0 := hx249_0
                          cases e249
                          replace hx249_0 := (HB.out.cell (World.block_lt_of_cell? w _ hx249_0)).trans hx249_0
                          replace hx249_1 := (HB.out.cell (World.block_lt_of_cell? w _ hx249_1)).trans hx249_1
                          replace hx249_2 := (HB.out.cell (World.block_lt_of_cell? w _ hx249_2)).trans hx249_2
                          replace hx249_3 := (HB.out.cell (World.block_lt_of_cell? w _ hx249_3)).trans hx249_3
                          replace hx249_4 := (HB.out.cell (World.block_lt_of_cell? w _ hx249_4)).trans hx249_4
                          have HR249_1 := Aside0.mk hi249_1
                          have HC249_1 := Aside0.mk hl249_1
                          clear hi249_1 hl249_1
                          replace p249 := eq_true p249
                          replace q249 := eq_true q249
                          have p250 : 0 ≤ (x7_3 : Int) := of_decide_eq_true (by first | (with_reducible assumption) | assumption)
                          have q250 : x7_3 < (((rd_T54 l0_1 a2_0).f1).length : Int) := of_decide_eq_true (by first | (with_reducible assumption) | assumption)
                          obtain ⟨ad250, e250, hx250_0⟩ := Kd.at_int HR249_1.out x7_3 p250 q250
                          have hw250_0 := hx250_0
                          cases e250
                          replace hx250_0 := (HB.out.cell (World.block_lt_of_cell? w _ hx250_0)).trans hx250_0
                          replace p250 := eq_true p250
                          replace q250 := eq_true q250
                          have p251 : 0 ≤ (x7_3 : Int) := of_decide_eq_true (by first | (with_reducible assumption) | assumption)
                          have q251 : x7_3 < (l2_1.length : Int) := of_decide_eq_true (by first | (with_reducible assumption) | assumption)
                          obtain ⟨ad251, A251_1, c251_1, e251, hx251_0, hx251_1, hl251_1, hi251_1⟩ := at_T27 HR2_1.out x7_3 p251 q251
                          have hw251_1 := hx251_1
                          have hw251_0 := hx251_0
                          cases e251
                          replace hx251_0 := (HB.out.cell (World.block_lt_of_cell? w _ hx251_0)).trans hx251_0
                          replace hx251_1 := (HB.out.cell (World.block_lt_of_cell? w _ hx251_1)).trans hx251_1
                          have HR251_1 := Aside0.mk hi251_1
                          have HC251_1 := Aside0.mk hl251_1
                          clear hi251_1 hl251_1
                          replace p251 := eq_true p251
                          replace q251 := eq_true q251
                          refine start_ (n := 18) (S := fun w' => w'.cell? ⟨gb245, 0, none⟩ = some (.int .i64 a0_0) ∧ w'.cell? ⟨gb245, 1, none⟩ = some (.slice (some ad249) l0_1.length c0_1) ∧ w'.cell? ⟨gb246, 0, none⟩ = some (.int .i64 a2_0) ∧ w'.cell? ⟨gb246, 1, none⟩ = some (.slice (some ad251) l2_1.length c2_1) ∧ w'.cell? (ad249.add ((a2_0).toNat * 5)) = some (.int .i64 ((rd_T54 l0_1 a2_0).f0)) ∧ w'.cell? ⟨(ad249.add ((a2_0).toNat * 5)).block, (ad249.add ((a2_0).toNat * 5)).off + 1, none⟩ = some (.slice (some ad250) ((rd_T54 l0_1 a2_0).f1).length c249_1) ∧ w'.cell? ⟨(ad249.add ((a2_0).toNat * 5)).block, (ad249.add ((a2_0).toNat * 5)).off + 2, none⟩ = some (.int .i64 ((rd_T54 l0_1 a2_0).f2)) ∧ w'.cell? ⟨(ad249.add ((a2_0).toNat * 5)).block, (ad249.add ((a2_0).toNat * 5)).off + 3, none⟩ = some (.int .i64 ((rd_T54 l0_1 a2_0).f3.f0)) ∧ w'.cell? ⟨(ad249.add ((a2_0).toNat * 5)).block, (ad249.add ((a2_0).toNat * 5)).off + 4, none⟩ = some (.int .i64 ((rd_T54 l0_1 a2_0).f3.f1)) ∧ w'.cell? (ad250.add (x7_3).toNat) = some (.int .i64 (rd ((rd_T54 l0_1 a2_0).f1) x7_3)) ∧ w'.cell? (ad251.add ((x7_3).toNat * 2)) = some (.int .i64 ((rd_T27 l2_1 x7_3).f0)) ∧ w'.cell? ⟨(ad251.add ((x7_3).toNat * 2)).block, (ad251.add ((x7_3).toNat * 2)).off + 1, none⟩ = some (.slice A251_1 ((rd_T27 l2_1 x7_3).f1).length c251_1)) (ds := []) #[false, false, false, false, false, false, false, false, false, false, false, false, false, false, false, false, false, false] (by kernel_rfl) rfl rfl ⟨(blk_cell BK245.out 0).trans rfl, (blk_cell BK245.out 1).trans rfl, (blk_cell BK246.out 0).trans rfl, (blk_cell BK246.out 1).trans rfl, ((HB.out.cell (World.block_lt_of_cell? w _ hw249_0)).trans hw249_0), ((HB.out.cell (World.block_lt_of_cell? w _ hw249_1)).trans hw249_1), ((HB.out.cell (World.block_lt_of_cell? w _ hw249_2)).trans hw249_2), ((HB.out.cell (World.block_lt_of_cell? w _ hw249_3)).trans hw249_3), ((HB.out.cell (World.block_lt_of_cell? w _ hw249_4)).trans hw249_4), ((HB.out.cell (World.block_lt_of_cell? w _ hw250_0)).trans hw250_0), ((HB.out.cell (World.block_lt_of_cell? w _ hw251_0)).trans hw251_0), ((HB.out.cell (World.block_lt_of_cell? w _ hw251_1)).trans hw251_1)⟩ (fun hHeld => ?_); refine with_tabW emendateref30_Valid.tab6 emendateref30_Valid.bits6 (fun HT_ HW_ => ?_)
                          generalize wr.drew = w27 at BK245 BK246 HB HR249_1 HR251_1 hx249_0 hx249_1 hx249_2 hx249_3 hx249_4 hx250_0 hx251_0 hx251_1 hHeld ⊢
                          refine bulk_ (fuel := 2) [(1, 52), (3, 54), (8, 59), (11, 62), (13, 64), (0, 51), (2, 53), (4, 55), (5, 56), (6, 57), (7, 58), (9, 60), (10, 61), (12, 63), (14, 65), (15, 66)] #[true, true, true, true, true, true, true, true, true, true, true, true, true, true, true, true, false, false] (bulkB_of HT_.out HW_.out _ _ _ (by kernel_rfl)) rfl (fun _ _ _ _ _ h => h) hHeld (a' := ?_) ?_ ?_
                          rotate_left
                          · iterate 16
                              refine chain_cons (v := ?_) (a1 := ?_) rfl rfl (Or.inl ⟨by rfl, ?_⟩) ?_ ?_
                              rotate_left 2
                              · rintro w' ⟨s0, s1, s2, s3, s4, s5, s6, s7, s8, s9, s10, s11⟩
                                go_simp
                                with_reducible rfl
                              · simp only [Act.put, List.setIfInBounds_toArray, List.set_cons_zero, List.set_cons_succ, i64_w, i32_w]
                                rfl
                            exact chain_nil
                          refine one_ (i := 16) (N := some 67) #[true, true, true, true, true, true, true, true, true, true, true, true, true, true, true, true, true, false] rfl rfl (one_of HT_.out (by kernel_rfl)) (by decide) (fun K hK => ?_)
                          refine goes_ Try.func27 (by kernel_rfl) rfl #[.agg #[.int .i64 a0_0, .slice (some ad249) l0_1.length c0_1], .int .i64 (rd ((rd_T54 l0_1 a2_0).f1) x7_3), .agg #[.int .i64 ((rd_T27 l2_1 x7_3).f0), .slice A251_1 ((rd_T27 l2_1 x7_3).f1).length c251_1]] (by rfl) rfl rfl (by (try simp only [List.map_toArray, List.map_cons, List.map_nil]); first | done | rfl | (simp only [List.length_drop, List.length_take]; rfl)) ?_
                          with_reducible refine (ih k3 (by have := HJ3.out; have := HJ15.out; have := HK3.out; omega) a0_0 _ _ l0_1 (rd ((rd_T54 l0_1 a2_0).f1) x7_3) ((rd_T27 l2_1 x7_3).f0) _ _ ((rd_T27 l2_1 x7_3).f1) true _ ?side1 ?side2 ?side3 ?side4 A23.out).mono ?_
                          (case side1 => repeat (first | exact (Kd.C_below HR0_1.out HB.out) | (with_reducible refine Kd.C_alloc ?_ _) | (with_reducible refine Kd.C_drewN ?_ _) | (with_reducible refine Kd.C_drew ?_)))
                          (case side2 => exact HC0_1.out)
                          (case side3 => repeat (first | exact (Kd.C_below HR251_1.out HB.out) | (with_reducible refine Kd.C_alloc ?_ _) | (with_reducible refine Kd.C_drewN ?_ _) | (with_reducible refine Kd.C_drew ?_)))
                          (case side4 => exact HC251_1.out)
                          rintro e w28 ⟨rfl, hb⟩
                          refine ⟨_, rfl, ?_⟩
                          have n0_ := Aside0.mk (blk_below (bk BK245) hb)
                          have n1_ := Aside0.mk (blk_below (bk BK246) hb)
                          have n2_ := Aside0.mk (below_step (bel HB) hb)
                          clear BK245
                          clear BK246
                          clear HB
                          have BK245 := n0_
                          have BK246 := n1_
                          have HB := n2_
                          clear n0_ n1_ n2_
                          (try clear hb)
                          (try clear hb2)
                          (try clear hk)
                          (try clear hi)
                          refine hK.out _ _ ⟨(blk_cell BK245.out 0).trans rfl, (blk_cell BK245.out 1).trans rfl, (blk_cell BK246.out 0).trans rfl, (blk_cell BK246.out 1).trans rfl, ((HB.out.cell (World.block_lt_of_cell? w _ hw249_0)).trans hw249_0), ((HB.out.cell (World.block_lt_of_cell? w _ hw249_1)).trans hw249_1), ((HB.out.cell (World.block_lt_of_cell? w _ hw249_2)).trans hw249_2), ((HB.out.cell (World.block_lt_of_cell? w _ hw249_3)).trans hw249_3), ((HB.out.cell (World.block_lt_of_cell? w _ hw249_4)).trans hw249_4), ((HB.out.cell (World.block_lt_of_cell? w _ hw250_0)).trans hw250_0), ((HB.out.cell (World.block_lt_of_cell? w _ hw251_0)).trans hw251_0), ((HB.out.cell (World.block_lt_of_cell? w _ hw251_1)).trans hw251_1)⟩ (fun hHeld => ?_)
                          clear hK K
                          refine norm_ (a' := ?_) ?_ ?_
                          rotate_left
                          · show Act.put _ (some 67) _ = _
                            simp only [Act.put, List.setIfInBounds_toArray, List.set_cons_zero, List.set_cons_succ, i64_w, i32_w]
                            rfl
                          refine pure_ (i := 17) (N := some 68) (v := ?_) (a' := ?_) #[true, true, true, true, true, true, true, true, true, true, true, true, true, true, true, true, true, true] rfl rfl (any_of HT_.out (by kernel_rfl)) (fun _ _ _ h => h) (Or.inl ⟨by rfl, ?_⟩) ?_ ?_
                          rotate_left
                          · intro w'
                            go_simp
                            with_reducible rfl
                          rotate_left
                          · simp only [Act.put, List.setIfInBounds_toArray, List.set_cons_zero, List.set_cons_succ, i64_w, i32_w]
                            rfl
                          refine done_ (done_of HT_.out (by kernel_rfl)) ?_
                          try go_wp2
                          go_roundg k3
                          case measure => have := HJ3.out; have := HJ15.out; have := HK3.out; omega
                          case rel => exact ⟨(wrap64 (x7_3 + 1)), (by first | rfl | (simp; done) | (simp [*]; done)), H', ⟨by have := HJ3.out; have := HJ15.out; have := HK3.out; omega⟩, ⟨by (with_reducible repeat (first | refine blk_drewN ?_ _ | refine blk_drew ?_ | refine blk_alloc ?_ _)); exact BK245.out⟩, ⟨by (with_reducible repeat (first | refine blk_drewN ?_ _ | refine blk_drew ?_ | refine blk_alloc ?_ _)); exact BK246.out⟩, ⟨bel HB⟩⟩
                        · replace c24 := Bool.eq_false_iff.mpr c24
                          subst c24
                          have H1 : (some false) = some r := by rw [if_neg (show ¬ (false = true) by decide)] at H; exact H
                          clear H
                          have H := H1
                          clear H1
                          obtain rfl := Option.some.inj H
                          have hnb29 := NB246_245.out
                          have hnc29 := NB245_246.out
                          have hcz30_0 : wr.cell? ⟨gb246, 0, none⟩ = some (.int .i64 a2_0) := (blk_cell BK246.out 0).trans rfl
                          have hcz30_1 : wr.cell? ⟨gb246, 1, none⟩ = some (.slice A2_1 l2_1.length c2_1) := (blk_cell BK246.out 1).trans rfl
                          have hfz30_0 := blk_frozen BK246.out 0
                          have hfz30_1 := blk_frozen BK246.out 1
                          try go_wp2
                          have n0_ := Aside0.mk (blk_drew BK245.out)
                          have n1_ := Aside0.mk (blk_drew BK246.out)
                          have n2_ := Aside0.mk (below_drew1 HB.out)
                          clear BK245
                          clear BK246
                          clear HB
                          have BK245 := n0_
                          have BK246 := n1_
                          have HB := n2_
                          clear n0_ n1_ n2_
                          have p249 : 0 ≤ (a2_0 : Int) := of_decide_eq_true (by first | (with_reducible assumption) | assumption)
                          have q249 : a2_0 < (l0_1.length : Int) := of_decide_eq_true (by first | (with_reducible assumption) | assumption)
                          obtain ⟨ad249, A249_1, c249_1, e249, hx249_0, hx249_1, hx249_2, hx249_3, hx249_4, hl249_1, hi249_1⟩ := at_T54 HR0_1.out a2_0 p249 q249
                          have hw249_4 := hx249_4
                          have hw249_3 := hx249_3
                          have hw249_2 := hx249_2
                          have hw249_1 := hx249_1
                          have hw249_0 := hx249_0
                          cases e249
                          replace hx249_0 := (HB.out.cell (World.block_lt_of_cell? w _ hx249_0)).trans hx249_0
                          replace hx249_1 := (HB.out.cell (World.block_lt_of_cell? w _ hx249_1)).trans hx249_1
                          replace hx249_2 := (HB.out.cell (World.block_lt_of_cell? w _ hx249_2)).trans hx249_2
                          replace hx249_3 := (HB.out.cell (World.block_lt_of_cell? w _ hx249_3)).trans hx249_3
                          replace hx249_4 := (HB.out.cell (World.block_lt_of_cell? w _ hx249_4)).trans hx249_4
                          have HR249_1 := Aside0.mk hi249_1
                          have HC249_1 := Aside0.mk hl249_1
                          clear hi249_1 hl249_1
                          replace p249 := eq_true p249
                          replace q249 := eq_true q249
                          have p250 : 0 ≤ (x7_3 : Int) := of_decide_eq_true (by first | (with_reducible assumption) | assumption)
                          have q250 : x7_3 < (((rd_T54 l0_1 a2_0).f1).length : Int) := of_decide_eq_true (by first | (with_reducible assumption) | assumption)
                          obtain ⟨ad250, e250, hx250_0⟩ := Kd.at_int HR249_1.out x7_3 p250 q250
                          have hw250_0 := hx250_0
                          cases e250
                          replace hx250_0 := (HB.out.cell (World.block_lt_of_cell? w _ hx250_0)).trans hx250_0
                          replace p250 := eq_true p250
                          replace q250 := eq_true q250
                          have p251 : 0 ≤ (x7_3 : Int) := of_decide_eq_true (by first | (with_reducible assumption) | assumption)
                          have q251 : x7_3 < (l2_1.length : Int) := of_decide_eq_true (by first | (with_reducible assumption) | assumption)
                          obtain ⟨ad251, A251_1, c251_1, e251, hx251_0, hx251_1, hl251_1, hi251_1⟩ := at_T27 HR2_1.out x7_3 p251 q251
                          have hw251_1 := hx251_1
                          have hw251_0 := hx251_0
                          cases e251
                          replace hx251_0 := (HB.out.cell (World.block_lt_of_cell? w _ hx251_0)).trans hx251_0
                          replace hx251_1 := (HB.out.cell (World.block_lt_of_cell? w _ hx251_1)).trans hx251_1
                          have HR251_1 := Aside0.mk hi251_1
                          have HC251_1 := Aside0.mk hl251_1
                          clear hi251_1 hl251_1
                          replace p251 := eq_true p251
                          replace q251 := eq_true q251
                          refine start_ (n := 18) (S := fun w' => w'.cell? ⟨gb245, 0, none⟩ = some (.int .i64 a0_0) ∧ w'.cell? ⟨gb245, 1, none⟩ = some (.slice (some ad249) l0_1.length c0_1) ∧ w'.cell? ⟨gb246, 0, none⟩ = some (.int .i64 a2_0) ∧ w'.cell? ⟨gb246, 1, none⟩ = some (.slice (some ad251) l2_1.length c2_1) ∧ w'.cell? (ad249.add ((a2_0).toNat * 5)) = some (.int .i64 ((rd_T54 l0_1 a2_0).f0)) ∧ w'.cell? ⟨(ad249.add ((a2_0).toNat * 5)).block, (ad249.add ((a2_0).toNat * 5)).off + 1, none⟩ = some (.slice (some ad250) ((rd_T54 l0_1 a2_0).f1).length c249_1) ∧ w'.cell? ⟨(ad249.add ((a2_0).toNat * 5)).block, (ad249.add ((a2_0).toNat * 5)).off + 2, none⟩ = some (.int .i64 ((rd_T54 l0_1 a2_0).f2)) ∧ w'.cell? ⟨(ad249.add ((a2_0).toNat * 5)).block, (ad249.add ((a2_0).toNat * 5)).off + 3, none⟩ = some (.int .i64 ((rd_T54 l0_1 a2_0).f3.f0)) ∧ w'.cell? ⟨(ad249.add ((a2_0).toNat * 5)).block, (ad249.add ((a2_0).toNat * 5)).off + 4, none⟩ = some (.int .i64 ((rd_T54 l0_1 a2_0).f3.f1)) ∧ w'.cell? (ad250.add (x7_3).toNat) = some (.int .i64 (rd ((rd_T54 l0_1 a2_0).f1) x7_3)) ∧ w'.cell? (ad251.add ((x7_3).toNat * 2)) = some (.int .i64 ((rd_T27 l2_1 x7_3).f0)) ∧ w'.cell? ⟨(ad251.add ((x7_3).toNat * 2)).block, (ad251.add ((x7_3).toNat * 2)).off + 1, none⟩ = some (.slice A251_1 ((rd_T27 l2_1 x7_3).f1).length c251_1)) (ds := []) #[false, false, false, false, false, false, false, false, false, false, false, false, false, false, false, false, false, false] (by kernel_rfl) rfl rfl ⟨(blk_cell BK245.out 0).trans rfl, (blk_cell BK245.out 1).trans rfl, (blk_cell BK246.out 0).trans rfl, (blk_cell BK246.out 1).trans rfl, ((HB.out.cell (World.block_lt_of_cell? w _ hw249_0)).trans hw249_0), ((HB.out.cell (World.block_lt_of_cell? w _ hw249_1)).trans hw249_1), ((HB.out.cell (World.block_lt_of_cell? w _ hw249_2)).trans hw249_2), ((HB.out.cell (World.block_lt_of_cell? w _ hw249_3)).trans hw249_3), ((HB.out.cell (World.block_lt_of_cell? w _ hw249_4)).trans hw249_4), ((HB.out.cell (World.block_lt_of_cell? w _ hw250_0)).trans hw250_0), ((HB.out.cell (World.block_lt_of_cell? w _ hw251_0)).trans hw251_0), ((HB.out.cell (World.block_lt_of_cell? w _ hw251_1)).trans hw251_1)⟩ (fun hHeld => ?_); refine with_tabW emendateref30_Valid.tab6 emendateref30_Valid.bits6 (fun HT_ HW_ => ?_)
                          generalize wr.drew = w31 at BK245 BK246 HB HR249_1 HR251_1 hx249_0 hx249_1 hx249_2 hx249_3 hx249_4 hx250_0 hx251_0 hx251_1 hHeld ⊢
                          refine bulk_ (fuel := 2) [(1, 52), (3, 54), (8, 59), (11, 62), (13, 64), (0, 51), (2, 53), (4, 55), (5, 56), (6, 57), (7, 58), (9, 60), (10, 61), (12, 63), (14, 65), (15, 66)] #[true, true, true, true, true, true, true, true, true, true, true, true, true, true, true, true, false, false] (bulkB_of HT_.out HW_.out _ _ _ (by kernel_rfl)) rfl (fun _ _ _ _ _ h => h) hHeld (a' := ?_) ?_ ?_
                          rotate_left
                          · iterate 16
                              refine chain_cons (v := ?_) (a1 := ?_) rfl rfl (Or.inl ⟨by rfl, ?_⟩) ?_ ?_
                              rotate_left 2
                              · rintro w' ⟨s0, s1, s2, s3, s4, s5, s6, s7, s8, s9, s10, s11⟩
                                go_simp
                                with_reducible rfl
                              · simp only [Act.put, List.setIfInBounds_toArray, List.set_cons_zero, List.set_cons_succ, i64_w, i32_w]
                                rfl
                            exact chain_nil
                          refine one_ (i := 16) (N := some 67) #[true, true, true, true, true, true, true, true, true, true, true, true, true, true, true, true, true, false] rfl rfl (one_of HT_.out (by kernel_rfl)) (by decide) (fun K hK => ?_)
                          refine goes_ Try.func27 (by kernel_rfl) rfl #[.agg #[.int .i64 a0_0, .slice (some ad249) l0_1.length c0_1], .int .i64 (rd ((rd_T54 l0_1 a2_0).f1) x7_3), .agg #[.int .i64 ((rd_T27 l2_1 x7_3).f0), .slice A251_1 ((rd_T27 l2_1 x7_3).f1).length c251_1]] (by rfl) rfl rfl (by (try simp only [List.map_toArray, List.map_cons, List.map_nil]); first | done | rfl | (simp only [List.length_drop, List.length_take]; rfl)) ?_
                          with_reducible refine (ih k3 (by have := HJ3.out; have := HJ15.out; have := HK3.out; omega) a0_0 _ _ l0_1 (rd ((rd_T54 l0_1 a2_0).f1) x7_3) ((rd_T27 l2_1 x7_3).f0) _ _ ((rd_T27 l2_1 x7_3).f1) false _ ?side1 ?side2 ?side3 ?side4 A23.out).mono ?_
                          (case side1 => repeat (first | exact (Kd.C_below HR0_1.out HB.out) | (with_reducible refine Kd.C_alloc ?_ _) | (with_reducible refine Kd.C_drewN ?_ _) | (with_reducible refine Kd.C_drew ?_)))
                          (case side2 => exact HC0_1.out)
                          (case side3 => repeat (first | exact (Kd.C_below HR251_1.out HB.out) | (with_reducible refine Kd.C_alloc ?_ _) | (with_reducible refine Kd.C_drewN ?_ _) | (with_reducible refine Kd.C_drew ?_)))
                          (case side4 => exact HC251_1.out)
                          rintro e w32 ⟨rfl, hb⟩
                          refine ⟨_, rfl, ?_⟩
                          have n0_ := Aside0.mk (blk_below (bk BK245) hb)
                          have n1_ := Aside0.mk (blk_below (bk BK246) hb)
                          have n2_ := Aside0.mk (below_step (bel HB) hb)
                          clear BK245
                          clear BK246
                          clear HB
                          have BK245 := n0_
                          have BK246 := n1_
                          have HB := n2_
                          clear n0_ n1_ n2_
                          (try clear hb)
                          (try clear hb2)
                          (try clear hk)
                          (try clear hi)
                          refine hK.out _ _ ⟨(blk_cell BK245.out 0).trans rfl, (blk_cell BK245.out 1).trans rfl, (blk_cell BK246.out 0).trans rfl, (blk_cell BK246.out 1).trans rfl, ((HB.out.cell (World.block_lt_of_cell? w _ hw249_0)).trans hw249_0), ((HB.out.cell (World.block_lt_of_cell? w _ hw249_1)).trans hw249_1), ((HB.out.cell (World.block_lt_of_cell? w _ hw249_2)).trans hw249_2), ((HB.out.cell (World.block_lt_of_cell? w _ hw249_3)).trans hw249_3), ((HB.out.cell (World.block_lt_of_cell? w _ hw249_4)).trans hw249_4), ((HB.out.cell (World.block_lt_of_cell? w _ hw250_0)).trans hw250_0), ((HB.out.cell (World.block_lt_of_cell? w _ hw251_0)).trans hw251_0), ((HB.out.cell (World.block_lt_of_cell? w _ hw251_1)).trans hw251_1)⟩ (fun hHeld => ?_)
                          clear hK K
                          refine norm_ (a' := ?_) ?_ ?_
                          rotate_left
                          · show Act.put _ (some 67) _ = _
                            simp only [Act.put, List.setIfInBounds_toArray, List.set_cons_zero, List.set_cons_succ, i64_w, i32_w]
                            rfl
                          refine pure_ (i := 17) (N := some 68) (v := ?_) (a' := ?_) #[true, true, true, true, true, true, true, true, true, true, true, true, true, true, true, true, true, true] rfl rfl (any_of HT_.out (by kernel_rfl)) (fun _ _ _ h => h) (Or.inl ⟨by rfl, ?_⟩) ?_ ?_
                          rotate_left
                          · intro w'
                            go_simp
                            with_reducible rfl
                          rotate_left
                          · simp only [Act.put, List.setIfInBounds_toArray, List.set_cons_zero, List.set_cons_succ, i64_w, i32_w]
                            rfl
                          refine done_ (done_of HT_.out (by kernel_rfl)) ?_
                          try go_wp2
                          go_ret
                          exact ⟨by first | rfl | (simp [errW_none, errW_some] <;> rfl) | (simp [*, errW_none, errW_some] <;> rfl), bel HB⟩
                      · rw [if_neg c22] at H
                        exact absurd H (by simp)
                    · rw [if_neg c21] at H
                      exact absurd H (by simp)
                  · rw [if_neg c20] at H
                    exact absurd H (by simp)
                · rw [if_neg c19] at H
                  exact absurd H (by simp)
              · rw [if_neg c18] at H
                have c18b0 : decide (x7_3 < (l2_1.length : Int)) = false := decide_eq_false c18
                clear c18
                obtain rfl := Option.some.inj H
                have hnb33 := NB246_245.out
                have hnc33 := NB245_246.out
                have hcz34_0 : wr.cell? ⟨gb246, 0, none⟩ = some (.int .i64 a2_0) := (blk_cell BK246.out 0).trans rfl
                have hcz34_1 : wr.cell? ⟨gb246, 1, none⟩ = some (.slice A2_1 l2_1.length c2_1) := (blk_cell BK246.out 1).trans rfl
                have hfz34_0 := blk_frozen BK246.out 0
                have hfz34_1 := blk_frozen BK246.out 1
                go_wp2
                go_ret
                exact ⟨by first | rfl | (simp [errW_none, errW_some] <;> rfl) | (simp [*, errW_none, errW_some] <;> rfl), bel HB⟩

end Go.Proofs.Ytamimodkcbbpmaa.Pr
end
section
/- DerivationTotalOrder: the walk. -/
namespace Go.Proofs.Ytamimodkcbbpmaa.Pr
open Go.RowKit Go.Proofs.YtamimodkcbbpmaaW.PrintWords Go.Proofs.YtamimodkcbbpmaaW.PrintLast Go.Proofs.YtamimodkcbbpmaaXW
set_option linter.unusedVariables false
set_option linter.unusedSimpArgs false

def R5.T5 : Bool × List (List Nat × List Nat) := (true, [([], []), ([0], [0]), ([], []), ([2], [2]), ([], []), ([4], [4]), ([1, 3, 5], [1, 3, 5]), ([], []), ([7], [7]), ([], []), ([9], [9]), ([], []), ([11], [11]), ([8, 10, 12, 6], [8, 10, 12]), ([6, 13, 0, 1, 2, 3, 4, 5, 6], [6]), ([13, 14, 0, 1, 2, 3, 4, 5, 6, 7, 8, 9, 10, 11, 12, 13, 14], [13])])
def R5.B5 : List Nat := [0, 1, 0, 4, 0, 16, 63, 0, 128, 0, 512, 0, 2048, 8191, 16383, 32767]
theorem R5.tab5 : rtab .any (opsOf Try.f5 5) = R5.T5 := by kernel_rfl
theorem R5.bits5 : waitsOk R5.T5.2 R5.B5 = true := by kernel_rfl
def R5.T6 : Bool × List (List Nat × List Nat) := (true, [([], []), ([0], [0]), ([], []), ([2], [2]), ([], []), ([4], [4]), ([1, 3, 5], [1, 3, 5]), ([], []), ([7], [7]), ([], []), ([9], [9]), ([], []), ([11], [11]), ([8, 10, 12, 6], [8, 10, 12]), ([6, 13, 0, 1, 2, 3, 4, 5, 6], [6]), ([13, 14, 0, 1, 2, 3, 4, 5, 6, 7, 8, 9, 10, 11, 12, 13, 14], [13])])
def R5.B6 : List Nat := [0, 1, 0, 4, 0, 16, 63, 0, 128, 0, 512, 0, 2048, 8191, 16383, 32767]
theorem R5.tab6 : rtab .any (opsOf Try.f5 6) = R5.T6 := by kernel_rfl
theorem R5.bits6 : waitsOk R5.T6.2 R5.B6 = true := by kernel_rfl
set_option maxRecDepth 100000 in
set_option maxHeartbeats 8000000 in
theorem lawC_calls (KK : Nat) (n : Int) (A : Option Addr) (c : Nat) (l : List S54) (r : Int) (d1 : S27) (A1 : Option Addr) (k1 : Nat) (d2 : S27) (A2 : Option Addr) (k2 : Nat) (d3 : S27) (A3 : Option Addr) (k3 : Nat) (w : World)
    (hC : Kd.C k54 w A l.length l) (hc : l.length ≤ c) (hC1 : Kd.C k27 w A1 d1.f1.length d1.f1) (hc1 : d1.f1.length ≤ k1) (hC2 : Kd.C k27 w A2 d2.f1.length d2.f1) (hc2 : d2.f1.length ≤ k2) (hC3 : Kd.C k27 w A3 d3.f1.length d3.f1) (hc3 : d3.f1.length ≤ k3)
    (bf va vb vc : Bool) (hF : emendatelaw30_fair.f KK n l r d1.f0 d1.f1 d2.f0 d2.f1 d3.f0 d3.f1 = some bf)
    (h1 : bf = true → emendateref30_Valid.f KK n l r d1.f0 d1.f1 = some va) (h2 : bf = true → emendateref30_Valid.f KK n l r d2.f0 d2.f1 = some vb) (h3 : bf = true → emendateref30_Valid.f KK n l r d3.f0 d3.f1 = some vc)
    (hT : bf = true → va = true → vb = true → vc = true → ∃ (p q s t : Int) (eq : Bool), derivation_Compare.f KK n l d1.f0 d1.f1 d2.f0 d2.f1 = some p ∧ derivation_Compare.f KK n l d2.f0 d2.f1 d1.f0 d1.f1 = some q ∧ derivation_Compare.f KK n l d2.f0 d2.f1 d3.f0 d3.f1 = some s ∧ derivation_Compare.f KK n l d1.f0 d1.f1 d3.f0 d3.f1 = some t ∧ emendateref30_Equal.f KK d1.f0 d1.f1 d2.f0 d2.f1 = some eq ∧
      ((p = -1 ∧ q = 1 ∧ eq = false) ∨ (p = 0 ∧ q = 0 ∧ eq = true) ∨ (p = 1 ∧ q = -1 ∧ eq = false)) ∧ (p > 0 ∨ s > 0 ∨ t ≤ 0)) :
    Calls Try.prog 5 #[.agg #[.int .i64 n, .slice A l.length c, .int .i64 r, .int .i64 d1.f0, .slice A1 d1.f1.length k1, .int .i64 d2.f0, .slice A2 d2.f1.length k2, .int .i64 d3.f0, .slice A3 d3.f1.length k3]] w fun e w' => e = .returned (.bool true) ∧ Below w.heap.size w w' := by
  have HC := Aside0.mk hC
  have HC1 := Aside0.mk hC1
  have HC2 := Aside0.mk hC2
  have HC3 := Aside0.mk hC3
  have HT := Aside0.mk hT
  have H1 := Aside0.mk h1
  have H2 := Aside0.mk h2
  have H3 := Aside0.mk h3
  have HF := Aside0.mk hF
  clear hC hC1 hC2 hC3 hT h1 h2 h3 hF
  have LF : Aside0 (∀ w', Below w.heap.size w w' → Calls Try.prog 26 #[.agg #[.int .i64 n, .slice A l.length c, .int .i64 r, .int .i64 d1.f0, .slice A1 d1.f1.length k1, .int .i64 d2.f0, .slice A2 d2.f1.length k2, .int .i64 d3.f0, .slice A3 d3.f1.length k3]] w' fun e w'' => e = .returned (.bool bf) ∧ Below w'.heap.size w' w'') := ⟨fun w' h => emendatelaw30_fair.calls KK n A c l r d1.f0 A1 k1 d1.f1 d2.f0 A2 k2 d2.f1 d3.f0 A3 k3 d3.f1 bf w' (Kd.C_below HC.out h) hc (Kd.C_below HC1.out h) hc1 (Kd.C_below HC2.out h) hc2 (Kd.C_below HC3.out h) hc3 HF.out⟩
  go_enter Try.func5, Try.ntmps5
  go_upto_region 1 with (fail)
  have hal := h_alloc54 w (.cells #[.int .i64 n, .slice A l.length c, .int .i64 r, .int .i64 d1.f0, .slice A1 d1.f1.length k1, .int .i64 d2.f0, .slice A2 d2.f1.length k2, .int .i64 d3.f0, .slice A3 d3.f1.length k3] 29)
  have HQ1 := Aside0.mk hal.1
  have HK1 := Aside0.mk hal.2
  obtain ⟨b1, hb1⟩ : ∃ b1, b1 = w.heap.size := ⟨_, rfl⟩
  obtain ⟨w1, hw1⟩ : ∃ w1, w1 = w.alloc (.cells #[.int .i64 n, .slice A l.length c, .int .i64 r, .int .i64 d1.f0, .slice A1 d1.f1.length k1, .int .i64 d2.f0, .slice A2 d2.f1.length k2, .int .i64 d3.f0, .slice A3 d3.f1.length k3] 29) := ⟨_, rfl⟩
  rw [← hw1] at HQ1 HK1 ⊢
  rw [← hb1] at HK1 ⊢
  clear hb1 hw1 hal
  have HCE : Aside0 (∀ w' : World, w'.heap[b1]? = some (.cells #[.int .i64 n, .slice A l.length c, .int .i64 r, .int .i64 d1.f0, .slice A1 d1.f1.length k1, .int .i64 d2.f0, .slice A2 d2.f1.length k2, .int .i64 d3.f0, .slice A3 d3.f1.length k3] 29 (0, 0)) → w'.cell? ⟨b1, 0, none⟩ = some (.int .i64 n) ∧ w'.cell? ⟨b1, 1, none⟩ = some (.slice A l.length c) ∧ w'.cell? ⟨b1, 2, none⟩ = some (.int .i64 r) ∧ w'.cell? ⟨b1, 3, none⟩ = some (.int .i64 d1.f0) ∧ w'.cell? ⟨b1, 4, none⟩ = some (.slice A1 d1.f1.length k1) ∧ w'.cell? ⟨b1, 5, none⟩ = some (.int .i64 d2.f0) ∧ w'.cell? ⟨b1, 6, none⟩ = some (.slice A2 d2.f1.length k2) ∧ w'.cell? ⟨b1, 7, none⟩ = some (.int .i64 d3.f0) ∧ w'.cell? ⟨b1, 8, none⟩ = some (.slice A3 d3.f1.length k3)) := ⟨fun w' h => ⟨by rw [blk_cell h 0]; rfl, by rw [blk_cell h 1]; rfl, by rw [blk_cell h 2]; rfl, by rw [blk_cell h 3]; rfl, by rw [blk_cell h 4]; rfl, by rw [blk_cell h 5]; rfl, by rw [blk_cell h 6]; rfl, by rw [blk_cell h 7]; rfl, by rw [blk_cell h 8]; rfl⟩⟩
  have c0 : True := trivial
  have c1 : True := trivial
  have c2 : True := trivial
  have c3 : True := trivial
  have c4 : True := trivial
  have c5 : True := trivial
  have c6 : True := trivial
  have c7 : True := trivial
  have c8 : True := trivial
  cases bf with
  | false =>
    go_wp2_with (first | (go_at_call 25; refine (emendatelaw30_awake.calls true w1 rfl).mono ?_; rintro x w2 ⟨rfl, hB⟩; have HQ2 := Aside0.mk (below_step HQ1.out hB); have HK2 := Aside0.mk (blk_below HK1.out hB); clear hB c0 c1 c2 c3 c4 c5 c6 c7 c8; obtain ⟨c0, c1, c2, c3, c4, c5, c6, c7, c8⟩ := HCE.out w2 HK2.out) | (go_at_call 26; (with_reducible refine (LF.out w2 HQ2.out).mono ?_); rintro x w3 ⟨rfl, hB⟩; have HQ3 := Aside0.mk (below_step HQ2.out hB); have HK3 := Aside0.mk (blk_below HK2.out hB); clear hB c0 c1 c2 c3 c4 c5 c6 c7 c8; obtain ⟨c0, c1, c2, c3, c4, c5, c6, c7, c8⟩ := HCE.out w3 HK3.out))
    go_ret
    exact ⟨rfl, HQ3.out⟩
  | true =>
    have HV1 := Aside0.mk (H1.out rfl)
    have HV2 := Aside0.mk (H2.out rfl)
    have HV3 := Aside0.mk (H3.out rfl)
    clear H1 H2 H3
    have LV1 : Aside0 (∀ w', Below w.heap.size w w' → Calls Try.prog 27 #[.agg #[.int .i64 n, .slice A l.length c], .int .i64 r, .agg #[.int .i64 d1.f0, .slice A1 d1.f1.length k1]] w' fun e w'' => e = .returned (.bool va) ∧ Below w'.heap.size w' w'') := ⟨fun w' h => emendateref30_Valid.calls KK n A c l r d1.f0 A1 k1 d1.f1 va w' (Kd.C_below HC.out h) hc (Kd.C_below HC1.out h) hc1 HV1.out⟩
    have LV2 : Aside0 (∀ w', Below w.heap.size w w' → Calls Try.prog 27 #[.agg #[.int .i64 n, .slice A l.length c], .int .i64 r, .agg #[.int .i64 d2.f0, .slice A2 d2.f1.length k2]] w' fun e w'' => e = .returned (.bool vb) ∧ Below w'.heap.size w' w'') := ⟨fun w' h => emendateref30_Valid.calls KK n A c l r d2.f0 A2 k2 d2.f1 vb w' (Kd.C_below HC.out h) hc (Kd.C_below HC2.out h) hc2 HV2.out⟩
    have LV3 : Aside0 (∀ w', Below w.heap.size w w' → Calls Try.prog 27 #[.agg #[.int .i64 n, .slice A l.length c], .int .i64 r, .agg #[.int .i64 d3.f0, .slice A3 d3.f1.length k3]] w' fun e w'' => e = .returned (.bool vc) ∧ Below w'.heap.size w' w'') := ⟨fun w' h => emendateref30_Valid.calls KK n A c l r d3.f0 A3 k3 d3.f1 vc w' (Kd.C_below HC.out h) hc (Kd.C_below HC3.out h) hc3 HV3.out⟩
    cases va with
    | false =>
      go_wp2_with (first | (go_at_call 25; refine (emendatelaw30_awake.calls true w1 rfl).mono ?_; rintro x w2 ⟨rfl, hB⟩; have HQ2 := Aside0.mk (below_step HQ1.out hB); have HK2 := Aside0.mk (blk_below HK1.out hB); clear hB c0 c1 c2 c3 c4 c5 c6 c7 c8; obtain ⟨c0, c1, c2, c3, c4, c5, c6, c7, c8⟩ := HCE.out w2 HK2.out) | (go_at_call 26; (with_reducible refine (LF.out w2 HQ2.out).mono ?_); rintro x w3 ⟨rfl, hB⟩; have HQ3 := Aside0.mk (below_step HQ2.out hB); have HK3 := Aside0.mk (blk_below HK2.out hB); clear hB c0 c1 c2 c3 c4 c5 c6 c7 c8; obtain ⟨c0, c1, c2, c3, c4, c5, c6, c7, c8⟩ := HCE.out w3 HK3.out) | (go_at_call 27; (with_reducible refine (LV1.out w3 HQ3.out).mono ?_); rintro x w4 ⟨rfl, hB⟩; have HQ4 := Aside0.mk (below_step HQ3.out hB); have HK4 := Aside0.mk (blk_below HK3.out hB); clear hB c0 c1 c2 c3 c4 c5 c6 c7 c8; obtain ⟨c0, c1, c2, c3, c4, c5, c6, c7, c8⟩ := HCE.out w4 HK4.out))
      go_ret
      exact ⟨rfl, HQ4.out⟩
    | true =>
      cases vb with
      | false =>
        go_wp2_with (first | (go_at_call 25; refine (emendatelaw30_awake.calls true w1 rfl).mono ?_; rintro x w2 ⟨rfl, hB⟩; have HQ2 := Aside0.mk (below_step HQ1.out hB); have HK2 := Aside0.mk (blk_below HK1.out hB); clear hB c0 c1 c2 c3 c4 c5 c6 c7 c8; obtain ⟨c0, c1, c2, c3, c4, c5, c6, c7, c8⟩ := HCE.out w2 HK2.out) | (go_at_call 26; (with_reducible refine (LF.out w2 HQ2.out).mono ?_); rintro x w3 ⟨rfl, hB⟩; have HQ3 := Aside0.mk (below_step HQ2.out hB); have HK3 := Aside0.mk (blk_below HK2.out hB); clear hB c0 c1 c2 c3 c4 c5 c6 c7 c8; obtain ⟨c0, c1, c2, c3, c4, c5, c6, c7, c8⟩ := HCE.out w3 HK3.out) | (go_at_call 27; (with_reducible refine (LV1.out w3 HQ3.out).mono ?_); rintro x w4 ⟨rfl, hB⟩; have HQ4 := Aside0.mk (below_step HQ3.out hB); have HK4 := Aside0.mk (blk_below HK3.out hB); clear hB c0 c1 c2 c3 c4 c5 c6 c7 c8; obtain ⟨c0, c1, c2, c3, c4, c5, c6, c7, c8⟩ := HCE.out w4 HK4.out) | (go_at_call 27; (with_reducible refine (LV2.out w4 HQ4.out).mono ?_); rintro x w5 ⟨rfl, hB⟩; have HQ5 := Aside0.mk (below_step HQ4.out hB); have HK5 := Aside0.mk (blk_below HK4.out hB); clear hB c0 c1 c2 c3 c4 c5 c6 c7 c8; obtain ⟨c0, c1, c2, c3, c4, c5, c6, c7, c8⟩ := HCE.out w5 HK5.out))
        go_ret
        exact ⟨rfl, HQ5.out⟩
      | true =>
        cases vc with
        | false =>
          go_wp2_with (first | (go_at_call 25; refine (emendatelaw30_awake.calls true w1 rfl).mono ?_; rintro x w2 ⟨rfl, hB⟩; have HQ2 := Aside0.mk (below_step HQ1.out hB); have HK2 := Aside0.mk (blk_below HK1.out hB); clear hB c0 c1 c2 c3 c4 c5 c6 c7 c8; obtain ⟨c0, c1, c2, c3, c4, c5, c6, c7, c8⟩ := HCE.out w2 HK2.out) | (go_at_call 26; (with_reducible refine (LF.out w2 HQ2.out).mono ?_); rintro x w3 ⟨rfl, hB⟩; have HQ3 := Aside0.mk (below_step HQ2.out hB); have HK3 := Aside0.mk (blk_below HK2.out hB); clear hB c0 c1 c2 c3 c4 c5 c6 c7 c8; obtain ⟨c0, c1, c2, c3, c4, c5, c6, c7, c8⟩ := HCE.out w3 HK3.out) | (go_at_call 27; (with_reducible refine (LV1.out w3 HQ3.out).mono ?_); rintro x w4 ⟨rfl, hB⟩; have HQ4 := Aside0.mk (below_step HQ3.out hB); have HK4 := Aside0.mk (blk_below HK3.out hB); clear hB c0 c1 c2 c3 c4 c5 c6 c7 c8; obtain ⟨c0, c1, c2, c3, c4, c5, c6, c7, c8⟩ := HCE.out w4 HK4.out) | (go_at_call 27; (with_reducible refine (LV2.out w4 HQ4.out).mono ?_); rintro x w5 ⟨rfl, hB⟩; have HQ5 := Aside0.mk (below_step HQ4.out hB); have HK5 := Aside0.mk (blk_below HK4.out hB); clear hB c0 c1 c2 c3 c4 c5 c6 c7 c8; obtain ⟨c0, c1, c2, c3, c4, c5, c6, c7, c8⟩ := HCE.out w5 HK5.out) | (go_at_call 27; (with_reducible refine (LV3.out w5 HQ5.out).mono ?_); rintro x w6 ⟨rfl, hB⟩; have HQ6 := Aside0.mk (below_step HQ5.out hB); have HK6 := Aside0.mk (blk_below HK5.out hB); clear hB c0 c1 c2 c3 c4 c5 c6 c7 c8; obtain ⟨c0, c1, c2, c3, c4, c5, c6, c7, c8⟩ := HCE.out w6 HK6.out))
          go_ret
          exact ⟨rfl, HQ6.out⟩
        | true =>
          obtain ⟨p, q, s, t, eq, g1, g2, g3, g4, g5, g6, g7⟩ := HT.out rfl rfl rfl rfl
          have G1 := Aside0.mk g1
          have G2 := Aside0.mk g2
          have G3 := Aside0.mk g3
          have G4 := Aside0.mk g4
          have G5 := Aside0.mk g5
          have G6 := Aside0.mk g6
          have G7 := Aside0.mk g7
          clear g1 g2 g3 g4 g5 g6 g7 HT
          have LP : Aside0 (∀ w', Below w.heap.size w w' → Calls Try.prog 31 #[.agg #[.int .i64 n, .slice A l.length c], .agg #[.int .i64 d1.f0, .slice A1 d1.f1.length k1], .agg #[.int .i64 d2.f0, .slice A2 d2.f1.length k2]] w' fun e w'' => e = .returned (.int .i64 p) ∧ Below w'.heap.size w' w'') := ⟨fun w' h => derivation_Compare.calls KK n A c l d1.f0 A1 k1 d1.f1 d2.f0 A2 k2 d2.f1 p w' (Kd.C_below HC.out h) hc (Kd.C_below HC1.out h) hc1 (Kd.C_below HC2.out h) hc2 G1.out⟩
          have LQ : Aside0 (∀ w', Below w.heap.size w w' → Calls Try.prog 31 #[.agg #[.int .i64 n, .slice A l.length c], .agg #[.int .i64 d2.f0, .slice A2 d2.f1.length k2], .agg #[.int .i64 d1.f0, .slice A1 d1.f1.length k1]] w' fun e w'' => e = .returned (.int .i64 q) ∧ Below w'.heap.size w' w'') := ⟨fun w' h => derivation_Compare.calls KK n A c l d2.f0 A2 k2 d2.f1 d1.f0 A1 k1 d1.f1 q w' (Kd.C_below HC.out h) hc (Kd.C_below HC2.out h) hc2 (Kd.C_below HC1.out h) hc1 G2.out⟩
          have LR : Aside0 (∀ w', Below w.heap.size w w' → Calls Try.prog 31 #[.agg #[.int .i64 n, .slice A l.length c], .agg #[.int .i64 d2.f0, .slice A2 d2.f1.length k2], .agg #[.int .i64 d3.f0, .slice A3 d3.f1.length k3]] w' fun e w'' => e = .returned (.int .i64 s) ∧ Below w'.heap.size w' w'') := ⟨fun w' h => derivation_Compare.calls KK n A c l d2.f0 A2 k2 d2.f1 d3.f0 A3 k3 d3.f1 s w' (Kd.C_below HC.out h) hc (Kd.C_below HC2.out h) hc2 (Kd.C_below HC3.out h) hc3 G3.out⟩
          have LS : Aside0 (∀ w', Below w.heap.size w w' → Calls Try.prog 31 #[.agg #[.int .i64 n, .slice A l.length c], .agg #[.int .i64 d1.f0, .slice A1 d1.f1.length k1], .agg #[.int .i64 d3.f0, .slice A3 d3.f1.length k3]] w' fun e w'' => e = .returned (.int .i64 t) ∧ Below w'.heap.size w' w'') := ⟨fun w' h => derivation_Compare.calls KK n A c l d1.f0 A1 k1 d1.f1 d3.f0 A3 k3 d3.f1 t w' (Kd.C_below HC.out h) hc (Kd.C_below HC1.out h) hc1 (Kd.C_below HC3.out h) hc3 G4.out⟩
          have LE : Aside0 (∀ w', Below w.heap.size w w' → Calls Try.prog 33 #[.agg #[.int .i64 d1.f0, .slice A1 d1.f1.length k1], .agg #[.int .i64 d2.f0, .slice A2 d2.f1.length k2]] w' fun e w'' => e = .returned (.bool eq) ∧ Below w'.heap.size w' w'') := ⟨fun w' h => emendateref30_Equal.calls KK d1.f0 A1 k1 d1.f1 d2.f0 A2 k2 d2.f1 eq w' (Kd.C_below HC1.out h) hc1 (Kd.C_below HC2.out h) hc2 G5.out⟩
          go_upto_region 5 with (first | (go_at_call 25; refine (emendatelaw30_awake.calls true w1 rfl).mono ?_; rintro x w2 ⟨rfl, hB⟩; have HQ2 := Aside0.mk (below_step HQ1.out hB); have HK2 := Aside0.mk (blk_below HK1.out hB); clear hB c0 c1 c2 c3 c4 c5 c6 c7 c8; obtain ⟨c0, c1, c2, c3, c4, c5, c6, c7, c8⟩ := HCE.out w2 HK2.out) | (go_at_call 26; (with_reducible refine (LF.out w2 HQ2.out).mono ?_); rintro x w3 ⟨rfl, hB⟩; have HQ3 := Aside0.mk (below_step HQ2.out hB); have HK3 := Aside0.mk (blk_below HK2.out hB); clear hB c0 c1 c2 c3 c4 c5 c6 c7 c8; obtain ⟨c0, c1, c2, c3, c4, c5, c6, c7, c8⟩ := HCE.out w3 HK3.out) | (go_at_call 27; (with_reducible refine (LV1.out w3 HQ3.out).mono ?_); rintro x w4 ⟨rfl, hB⟩; have HQ4 := Aside0.mk (below_step HQ3.out hB); have HK4 := Aside0.mk (blk_below HK3.out hB); clear hB c0 c1 c2 c3 c4 c5 c6 c7 c8; obtain ⟨c0, c1, c2, c3, c4, c5, c6, c7, c8⟩ := HCE.out w4 HK4.out) | (go_at_call 27; (with_reducible refine (LV2.out w4 HQ4.out).mono ?_); rintro x w5 ⟨rfl, hB⟩; have HQ5 := Aside0.mk (below_step HQ4.out hB); have HK5 := Aside0.mk (blk_below HK4.out hB); clear hB c0 c1 c2 c3 c4 c5 c6 c7 c8; obtain ⟨c0, c1, c2, c3, c4, c5, c6, c7, c8⟩ := HCE.out w5 HK5.out) | (go_at_call 27; (with_reducible refine (LV3.out w5 HQ5.out).mono ?_); rintro x w6 ⟨rfl, hB⟩; have HQ6 := Aside0.mk (below_step HQ5.out hB); have HK6 := Aside0.mk (blk_below HK5.out hB); clear hB c0 c1 c2 c3 c4 c5 c6 c7 c8; obtain ⟨c0, c1, c2, c3, c4, c5, c6, c7, c8⟩ := HCE.out w6 HK6.out))
          obtain ⟨v0, hv0⟩ : ∃ v0, v0 = w6 := ⟨_, rfl⟩
          rw [← hv0] at HQ6 HK6 ⊢
          clear hv0 c0 c1 c2 c3 c4 c5 c6 c7 c8
          have HV0 := Aside0.mk (below_step HQ6.out (below_drew (Below.refl v0.heap.size v0)))
          have HKv := Aside0.mk (blk_below HK6.out (below_drew (Below.refl v0.heap.size v0)))
          obtain ⟨c0, c1, c2, c3, c4, c5, c6, c7, c8⟩ := HCE.out v0.drew HKv.out
          refine start_ (n := 16) (S := fun w' => w'.cell? ⟨b1, 0, none⟩ = some (.int .i64 n) ∧ w'.cell? ⟨b1, 1, none⟩ = some (.slice A l.length c) ∧ w'.cell? ⟨b1, 3, none⟩ = some (.int .i64 d1.f0) ∧ w'.cell? ⟨b1, 4, none⟩ = some (.slice A1 d1.f1.length k1) ∧ w'.cell? ⟨b1, 5, none⟩ = some (.int .i64 d2.f0) ∧ w'.cell? ⟨b1, 6, none⟩ = some (.slice A2 d2.f1.length k2)) (ds := []) #[false, false, false, false, false, false, false, false, false, false, false, false, false, false, false, false] (by kernel_rfl) rfl rfl ⟨c0, c1, c3, c4, c5, c6⟩ (fun hHeld => ?_)
          refine with_tabW R5.tab5 R5.bits5 (fun HT_ HW_ => ?_)
          refine bulk_ (fuel := 4) [(0, 42), (1, 43), (2, 44), (3, 45), (4, 46), (5, 47), (7, 49), (8, 50), (9, 51), (10, 52), (11, 53), (12, 54)] #[true, true, true, true, true, true, false, true, true, true, true, true, true, false, false, false] (bulkB_of HT_.out HW_.out _ _ _ (by kernel_rfl)) rfl (fun _ _ _ _ _ h => h) hHeld (a' := ?_) ?_ ?_
          rotate_left
          · iterate 12
              refine chain_cons (v := ?_) (a1 := ?_) rfl rfl (Or.inl ⟨by rfl, ?_⟩) ?_ ?_
              rotate_left 2
              · rintro w' ⟨s0, s1, s2, s3, s4, s5⟩
                go_simp
                with_reducible rfl
              · simp only [Act.put, List.setIfInBounds_toArray, List.set_cons_zero, List.set_cons_succ, i64_w, i32_w]
                rfl
            exact chain_nil
          refine one_ (i := 6) (N := some 48) #[true, true, true, true, true, true, true, true, true, true, true, true, true, false, false, false] rfl rfl (one_of HT_.out (by kernel_rfl)) (by decide) (fun K hK => ?_)
          refine call_ 31 #[.agg #[.int .i64 n, .slice A l.length c], .agg #[.int .i64 d1.f0, .slice A1 d1.f1.length k1], .agg #[.int .i64 d2.f0, .slice A2 d2.f1.length k2]] (by rfl) rfl ?_ ?_
          · have he_ := enters_ Try.func31 (by kernel_rfl) rfl #[.agg #[.int .i64 n, .slice A l.length c], .agg #[.int .i64 d1.f0, .slice A1 d1.f1.length k1], .agg #[.int .i64 d2.f0, .slice A2 d2.f1.length k2]] v0.drew
            unfold execOp
            simp [resolve, Deferred.ofValue, invoke, Act.eval, he_]
          refine (LP.out v0.drew HV0.out).mono ?_
          rintro x5 v1 ⟨rfl, hB⟩
          have HBv1 := Aside0.mk hB
          have HV1 := Aside0.mk (below_step (HV0.out) hB)
          clear hB
          refine ⟨_, rfl, ?_⟩
          refine hK.out _ _ ⟨pw_cell_below HBv1.out c0, pw_cell_below HBv1.out c1, pw_cell_below HBv1.out c3, pw_cell_below HBv1.out c4, pw_cell_below HBv1.out c5, pw_cell_below HBv1.out c6⟩ (fun hHeld => ?_)
          clear hK K
          refine norm_ (a' := ?_) ?_ ?_
          rotate_left
          · show Act.put _ (some 48) _ = _
            simp only [Act.put, List.setIfInBounds_toArray, List.set_cons_zero, List.set_cons_succ, i64_w, i32_w]
            rfl
          refine one_ (i := 13) (N := some 55) #[true, true, true, true, true, true, true, true, true, true, true, true, true, true, false, false] rfl rfl (one_of HT_.out (by kernel_rfl)) (by decide) (fun K hK => ?_)
          refine call_ 31 #[.agg #[.int .i64 n, .slice A l.length c], .agg #[.int .i64 d2.f0, .slice A2 d2.f1.length k2], .agg #[.int .i64 d1.f0, .slice A1 d1.f1.length k1]] (by rfl) rfl ?_ ?_
          · have he_ := enters_ Try.func31 (by kernel_rfl) rfl #[.agg #[.int .i64 n, .slice A l.length c], .agg #[.int .i64 d2.f0, .slice A2 d2.f1.length k2], .agg #[.int .i64 d1.f0, .slice A1 d1.f1.length k1]] v1
            unfold execOp
            simp [resolve, Deferred.ofValue, invoke, Act.eval, he_]
          refine (LQ.out v1 HV1.out).mono ?_
          rintro x6 v2 ⟨rfl, hB⟩
          have HBv2 := Aside0.mk (below_step HBv1.out hB)
          have HV2 := Aside0.mk (below_step HV1.out hB)
          clear hB
          refine ⟨_, rfl, ?_⟩
          refine hK.out _ _ ⟨pw_cell_below HBv2.out c0, pw_cell_below HBv2.out c1, pw_cell_below HBv2.out c3, pw_cell_below HBv2.out c4, pw_cell_below HBv2.out c5, pw_cell_below HBv2.out c6⟩ (fun hHeld => ?_)
          clear hK K
          refine norm_ (a' := ?_) ?_ ?_
          rotate_left
          · show Act.put _ (some 55) _ = _
            simp only [Act.put, List.setIfInBounds_toArray, List.set_cons_zero, List.set_cons_succ, i64_w, i32_w]
            rfl
          refine bulk_ (fuel := 0) [(14, 3), (15, 4)] #[true, true, true, true, true, true, true, true, true, true, true, true, true, true, true, true] (bulkB_of HT_.out HW_.out _ _ _ (by kernel_rfl)) rfl (fun _ _ _ _ _ h => h) hHeld (a' := ?_) ?_ ?_
          rotate_left
          · iterate 2
              refine chain_cons (v := ?_) (a1 := ?_) rfl rfl (Or.inl ⟨by rfl, ?_⟩) ?_ ?_
              rotate_left 2
              · rintro w' ⟨s0, s1, s2, s3, s4, s5⟩
                go_simp
                with_reducible rfl
              · simp only [Act.put, List.setIfInBounds_toArray, List.set_cons_zero, List.set_cons_succ, i64_w, i32_w]
                rfl
            exact chain_nil
          refine done_ (done_of HT_.out (by kernel_rfl)) ?_
          clear c0 c1 c2 c3 c4 c5 c6 c7 c8 hHeld
          go_upto_region 6 with (fail)
          have HV2d := Aside0.mk (below_step HV2.out (below_drew (Below.refl v2.heap.size v2)))
          have HKw := Aside0.mk (blk_below (blk_below HKv.out HBv2.out) (below_drew (Below.refl v2.heap.size v2)))
          obtain ⟨c0, c1, c2, c3, c4, c5, c6, c7, c8⟩ := HCE.out v2.drew HKw.out
          refine start_ (n := 16) (S := fun w' => w'.cell? ⟨b1, 0, none⟩ = some (.int .i64 n) ∧ w'.cell? ⟨b1, 1, none⟩ = some (.slice A l.length c) ∧ w'.cell? ⟨b1, 3, none⟩ = some (.int .i64 d1.f0) ∧ w'.cell? ⟨b1, 4, none⟩ = some (.slice A1 d1.f1.length k1) ∧ w'.cell? ⟨b1, 5, none⟩ = some (.int .i64 d2.f0) ∧ w'.cell? ⟨b1, 6, none⟩ = some (.slice A2 d2.f1.length k2) ∧ w'.cell? ⟨b1, 7, none⟩ = some (.int .i64 d3.f0) ∧ w'.cell? ⟨b1, 8, none⟩ = some (.slice A3 d3.f1.length k3)) (ds := []) #[false, false, false, false, false, false, false, false, false, false, false, false, false, false, false, false] (by kernel_rfl) rfl rfl ⟨c0, c1, c3, c4, c5, c6, c7, c8⟩ (fun hHeld => ?_)
          refine with_tabW R5.tab6 R5.bits6 (fun HT_ HW_ => ?_)
          refine bulk_ (fuel := 4) [(0, 56), (1, 57), (2, 58), (3, 59), (4, 60), (5, 61), (7, 63), (8, 64), (9, 65), (10, 66), (11, 67), (12, 68)] #[true, true, true, true, true, true, false, true, true, true, true, true, true, false, false, false] (bulkB_of HT_.out HW_.out _ _ _ (by kernel_rfl)) rfl (fun _ _ _ _ _ h => h) hHeld (a' := ?_) ?_ ?_
          rotate_left
          · iterate 12
              refine chain_cons (v := ?_) (a1 := ?_) rfl rfl (Or.inl ⟨by rfl, ?_⟩) ?_ ?_
              rotate_left 2
              · rintro w' ⟨s0, s1, s2, s3, s4, s5, s6, s7⟩
                go_simp
                with_reducible rfl
              · simp only [Act.put, List.setIfInBounds_toArray, List.set_cons_zero, List.set_cons_succ, i64_w, i32_w]
                rfl
            exact chain_nil
          refine one_ (i := 6) (N := some 62) #[true, true, true, true, true, true, true, true, true, true, true, true, true, false, false, false] rfl rfl (one_of HT_.out (by kernel_rfl)) (by decide) (fun K hK => ?_)
          refine call_ 31 #[.agg #[.int .i64 n, .slice A l.length c], .agg #[.int .i64 d2.f0, .slice A2 d2.f1.length k2], .agg #[.int .i64 d3.f0, .slice A3 d3.f1.length k3]] (by rfl) rfl ?_ ?_
          · have he_ := enters_ Try.func31 (by kernel_rfl) rfl #[.agg #[.int .i64 n, .slice A l.length c], .agg #[.int .i64 d2.f0, .slice A2 d2.f1.length k2], .agg #[.int .i64 d3.f0, .slice A3 d3.f1.length k3]] v2.drew
            unfold execOp
            simp [resolve, Deferred.ofValue, invoke, Act.eval, he_]
          refine (LR.out v2.drew HV2d.out).mono ?_
          rintro x5 v3 ⟨rfl, hB⟩
          have HBv3 := Aside0.mk hB
          have HV3 := Aside0.mk (below_step (HV2d.out) hB)
          clear hB
          refine ⟨_, rfl, ?_⟩
          refine hK.out _ _ ⟨pw_cell_below HBv3.out c0, pw_cell_below HBv3.out c1, pw_cell_below HBv3.out c3, pw_cell_below HBv3.out c4, pw_cell_below HBv3.out c5, pw_cell_below HBv3.out c6, pw_cell_below HBv3.out c7, pw_cell_below HBv3.out c8⟩ (fun hHeld => ?_)
          clear hK K
          refine norm_ (a' := ?_) ?_ ?_
          rotate_left
          · show Act.put _ (some 62) _ = _
            simp only [Act.put, List.setIfInBounds_toArray, List.set_cons_zero, List.set_cons_succ, i64_w, i32_w]
            rfl
          refine one_ (i := 13) (N := some 69) #[true, true, true, true, true, true, true, true, true, true, true, true, true, true, false, false] rfl rfl (one_of HT_.out (by kernel_rfl)) (by decide) (fun K hK => ?_)
          refine call_ 31 #[.agg #[.int .i64 n, .slice A l.length c], .agg #[.int .i64 d1.f0, .slice A1 d1.f1.length k1], .agg #[.int .i64 d3.f0, .slice A3 d3.f1.length k3]] (by rfl) rfl ?_ ?_
          · have he_ := enters_ Try.func31 (by kernel_rfl) rfl #[.agg #[.int .i64 n, .slice A l.length c], .agg #[.int .i64 d1.f0, .slice A1 d1.f1.length k1], .agg #[.int .i64 d3.f0, .slice A3 d3.f1.length k3]] v3
            unfold execOp
            simp [resolve, Deferred.ofValue, invoke, Act.eval, he_]
          refine (LS.out v3 HV3.out).mono ?_
          rintro x6 v4 ⟨rfl, hB⟩
          have HBv4 := Aside0.mk (below_step HBv3.out hB)
          have HV4 := Aside0.mk (below_step HV3.out hB)
          clear hB
          refine ⟨_, rfl, ?_⟩
          refine hK.out _ _ ⟨pw_cell_below HBv4.out c0, pw_cell_below HBv4.out c1, pw_cell_below HBv4.out c3, pw_cell_below HBv4.out c4, pw_cell_below HBv4.out c5, pw_cell_below HBv4.out c6, pw_cell_below HBv4.out c7, pw_cell_below HBv4.out c8⟩ (fun hHeld => ?_)
          clear hK K
          refine norm_ (a' := ?_) ?_ ?_
          rotate_left
          · show Act.put _ (some 69) _ = _
            simp only [Act.put, List.setIfInBounds_toArray, List.set_cons_zero, List.set_cons_succ, i64_w, i32_w]
            rfl
          refine bulk_ (fuel := 0) [(14, 5), (15, 6)] #[true, true, true, true, true, true, true, true, true, true, true, true, true, true, true, true] (bulkB_of HT_.out HW_.out _ _ _ (by kernel_rfl)) rfl (fun _ _ _ _ _ h => h) hHeld (a' := ?_) ?_ ?_
          rotate_left
          · iterate 2
              refine chain_cons (v := ?_) (a1 := ?_) rfl rfl (Or.inl ⟨by rfl, ?_⟩) ?_ ?_
              rotate_left 2
              · rintro w' ⟨s0, s1, s2, s3, s4, s5, s6, s7⟩
                go_simp
                with_reducible rfl
              · simp only [Act.put, List.setIfInBounds_toArray, List.set_cons_zero, List.set_cons_succ, i64_w, i32_w]
                rfl
            exact chain_nil
          refine done_ (done_of HT_.out (by kernel_rfl)) ?_
          clear c0 c1 c2 c3 c4 c5 c6 c7 c8 hHeld
          have HKx := Aside0.mk (blk_below HKw.out HBv4.out)
          obtain ⟨c0, c1, c2, c3, c4, c5, c6, c7, c8⟩ := HCE.out v4 HKx.out
          rcases G6.out with ⟨rfl, rfl, rfl⟩ | ⟨rfl, rfl, rfl⟩ | ⟨rfl, rfl, rfl⟩
          · go_upto_region 9 with (first | (go_at_call 33; (with_reducible refine (LE.out v4 HV4.out).mono ?_); rintro x v5 ⟨rfl, hB⟩; have HV5 := Aside0.mk (below_step HV4.out hB); clear hB))
            clear c0 c1 c2 c3 c4 c5 c6 c7 c8
            by_cases hs : s > 0
            · go_wp2_with fail
              go_ret
              exact ⟨rfl, HV5.out⟩
            · have ht : t ≤ 0 := by have := G7.out; omega
              go_wp2_with fail
              go_ret
              exact ⟨rfl, HV5.out⟩
          · go_upto_region 9 with (first | (go_at_call 33; (with_reducible refine (LE.out v4 HV4.out).mono ?_); rintro x v5 ⟨rfl, hB⟩; have HV5 := Aside0.mk (below_step HV4.out hB); clear hB))
            clear c0 c1 c2 c3 c4 c5 c6 c7 c8
            by_cases hs : s > 0
            · go_wp2_with fail
              go_ret
              exact ⟨rfl, HV5.out⟩
            · have ht : t ≤ 0 := by have := G7.out; omega
              go_wp2_with fail
              go_ret
              exact ⟨rfl, HV5.out⟩
          · go_wp2_with (first | (go_at_call 33; (with_reducible refine (LE.out v4 HV4.out).mono ?_); rintro x v5 ⟨rfl, hB⟩; have HV5 := Aside0.mk (below_step HV4.out hB); clear hB))
            go_ret
            exact ⟨rfl, HV5.out⟩
end Go.Proofs.Ytamimodkcbbpmaa.Pr
end
section
/- The functions of chapter 30 on trees: Valid and Value of the program and of the reference tell the same. -/
namespace Go.Proofs.Ytamimodkcbbpmaa.Pr
open Go.RowKit Go.Proofs.YtamimodkcbbpmaaW.PrintWords Go.Proofs.YtamimodkcbbpmaaW.PrintLast
set_option linter.unusedVariables false
set_option linter.unusedSimpArgs false

/-- From some number of rounds on it tells r. -/
def Ev {α : Type} (f : Nat → Option α) (r : α) : Prop := ∃ K, ∀ k, K ≤ k → f k = some r
theorem Ev.const {α : Type} (r : α) : Ev (fun _ => some r) r := ⟨0, fun _ _ => rfl⟩
theorem Ev.succ {α : Type} {f g : Nat → Option α} {r : α} (hg : Ev g r) (h : ∀ k, f (k + 1) = g k) : Ev f r := by
  obtain ⟨K, hK⟩ := hg
  refine ⟨K + 1, fun k hk => ?_⟩
  obtain ⟨m, rfl⟩ : ∃ m, k = m + 1 := ⟨k - 1, by omega⟩
  rw [h m]
  exact hK m (by omega)
theorem Ev.bind {α β : Type} {a : Nat → Option β} {b : β} {G : Nat → β → Option α} {r : α} (ha : Ev a b) (hG : Ev (fun k => G k b) r) : Ev (fun k => (a k).bind (G k)) r := by
  obtain ⟨K, hK⟩ := ha
  obtain ⟨L, hL⟩ := hG
  refine ⟨K + L, fun k hk => ?_⟩
  show (a k).bind (G k) = some r
  rw [hK k (by omega)]
  exact hL k (by omega)
theorem Ev.of_mono {α : Type} {f : Nat → Option α} {r : α} (h : ∀ k, LeO (f k) (f (k + 1))) {k : Nat} (hk : f k = some r) : Ev f r := by
  refine ⟨k, fun j hj => ?_⟩
  obtain ⟨d, rfl⟩ : ∃ d, j = k + d := ⟨j - k, by omega⟩
  clear hj
  induction d with
  | zero => exact hk
  | succ d ih => exact h (k + d) r ih
theorem Ev.ex {α : Type} {f : Nat → Option α} {r : α} (h : Ev f r) : ∃ k, f k = some r := by
  obtain ⟨K, hK⟩ := h
  exact ⟨K, hK K (Nat.le_refl _)⟩

theorem w64 (i : Nat) (h : i < 9223372036854775807) : wrap64 ((i : Int) + 1) = ((i + 1 : Nat) : Int) := by unfold wrap64; omega
/-- A valid derivation of a node. -/
inductive VD (es : List S54) : Int → S27 → Prop
  | mk (d : S27) (h0 : 0 ≤ d.f0) (h1 : d.f0 < (es.length : Int)) (hl : d.f1.length = (rd_T54 es d.f0).f1.length) (hk : ∀ j, j < d.f1.length → VD es ((rd_T54 es d.f0).f1.getD j 0) (d.f1.getD j z27)) : VD es (rd_T54 es d.f0).f0 d
theorem VD.inv {es : List S54} {root : Int} {d : S27} (h : VD es root d) : 0 ≤ d.f0 ∧ d.f0 < (es.length : Int) ∧ (rd_T54 es d.f0).f0 = root ∧ d.f1.length = (rd_T54 es d.f0).f1.length ∧ ∀ j, j < d.f1.length → VD es ((rd_T54 es d.f0).f1.getD j 0) (d.f1.getD j z27) := by
  cases h with
  | mk _ h0 h1 hl hk => exact ⟨h0, h1, rfl, hl, hk⟩
theorem Fits27.kid {d : S27} (h : Fits27 d) (j : Nat) (hj : j < d.f1.length) : Fits27 (d.f1.getD j z27) := by
  cases h with
  | mk _ _ _ hk => exact hk _ (getD_mem _ _ _ hj)
theorem Fits27.len {d : S27} (h : Fits27 d) : d.f1.length ≤ 9223372036854775807 := by
  cases h with
  | mk _ _ hl _ => exact hl

section
variable (n : Int) (es : List S54)
/-- Both loops over the kids. -/
theorem loop_Valid (d : S27) (hd : d.f1.length ≤ 9223372036854775807) (h0 : 0 ≤ d.f0) (h1 : d.f0 < (es.length : Int)) (hl : d.f1.length = (rd_T54 es d.f0).f1.length) (a b c e0 : Int)
    (hk : ∀ j, j < d.f1.length → ∃ r, Ev (fun k => derivation_Valid.f k n es ((rd_T54 es d.f0).f1.getD j 0) (d.f1.getD j z27).f0 (d.f1.getD j z27).f1) r ∧ Ev (fun k => emendateref30_Valid.f k n es ((rd_T54 es d.f0).f1.getD j 0) (d.f1.getD j z27).f0 (d.f1.getD j z27).f1) r ∧ (r = true ↔ VD es ((rd_T54 es d.f0).f1.getD j 0) (d.f1.getD j z27))) :
    ∀ m i, i + m = d.f1.length → ∃ r, Ev (fun k => derivation_Valid.l0 k d.f1 (d.f1.length : Int) (i : Int) n es e0 (rd_T54 es d.f0).f1 a b c) r ∧ Ev (fun k => emendateref30_Valid.l0 k (i : Int) n es d.f0 d.f1) r ∧ (r = true ↔ ∀ j, i ≤ j → j < d.f1.length → VD es ((rd_T54 es d.f0).f1.getD j 0) (d.f1.getD j z27))
  | 0, i, hi => by
    refine ⟨true, (Ev.const true).succ (fun k => ?_), (Ev.const true).succ (fun k => ?_), ⟨fun _ j h2 h3 => absurd h3 (by omega), fun _ => rfl⟩⟩
    · unfold derivation_Valid.l0
      rw [if_neg (by omega)]
    · unfold emendateref30_Valid.l0
      rw [if_neg (by omega)]
  | m + 1, i, hi => by
    obtain ⟨r1, ea, eb, hr1⟩ := hk i (by omega)
    have hw := w64 i (by omega)
    cases r1 with
    | false =>
      refine ⟨false, (ea.bind (G := fun k t => if t = true then derivation_Valid.l0 k d.f1 (d.f1.length : Int) ((i + 1 : Nat) : Int) n es e0 (rd_T54 es d.f0).f1 a b c else some false) (Ev.const false)).succ (fun k => ?_), (eb.bind (G := fun k t => if t = true then emendateref30_Valid.l0 k ((i + 1 : Nat) : Int) n es d.f0 d.f1 else some false) (Ev.const false)).succ (fun k => ?_), ⟨fun h => (by cases h), fun h => (hr1.2 (h i (Nat.le_refl _) (by omega)))⟩⟩
      · show derivation_Valid.l0 (k + 1) _ _ _ _ _ _ _ _ _ _ = _
        rw [derivation_Valid.l0, if_pos (by omega), if_pos (by omega), if_pos (by omega), if_pos (by omega), hw]
        rfl
      · show emendateref30_Valid.l0 (k + 1) _ _ _ _ _ = _
        rw [emendateref30_Valid.l0, if_pos (by omega), if_pos h0, if_pos h1, if_pos (by omega), if_pos (by omega), hw]
        rfl
    | true =>
      obtain ⟨r, ec, ed, hr⟩ := loop_Valid d hd h0 h1 hl a b c e0 hk m (i + 1) (by omega)
      refine ⟨r, (ea.bind (G := fun k t => if t = true then derivation_Valid.l0 k d.f1 (d.f1.length : Int) ((i + 1 : Nat) : Int) n es e0 (rd_T54 es d.f0).f1 a b c else some false) ec).succ (fun k => ?_), (eb.bind (G := fun k t => if t = true then emendateref30_Valid.l0 k ((i + 1 : Nat) : Int) n es d.f0 d.f1 else some false) ed).succ (fun k => ?_), ⟨fun h j h2 h3 => ?_, fun h => hr.2 (fun j h2 h3 => h j (by omega) h3)⟩⟩
      · show derivation_Valid.l0 (k + 1) _ _ _ _ _ _ _ _ _ _ = _
        rw [derivation_Valid.l0, if_pos (by omega), if_pos (by omega), if_pos (by omega), if_pos (by omega), hw]
        rfl
      · show emendateref30_Valid.l0 (k + 1) _ _ _ _ _ = _
        rw [emendateref30_Valid.l0, if_pos (by omega), if_pos h0, if_pos h1, if_pos (by omega), if_pos (by omega), hw]
        rfl
      · by_cases hj : j = i
        · subst hj; exact hr1.1 rfl
        · exact hr.1 h j (by omega) h3
/-- Both say whether the derivation is valid. -/
theorem both_Valid : ∀ d, Fits27 d → ∀ root, ∃ r, Ev (fun k => derivation_Valid.f k n es root d.f0 d.f1) r ∧ Ev (fun k => emendateref30_Valid.f k n es root d.f0 d.f1) r ∧ (r = true ↔ VD es root d) := by
  intro d hd
  induction hd with
  | mk d hf hl hk ih =>
    intro root
    by_cases h0 : d.f0 < 0
    · refine ⟨false, ?_, ?_, ⟨fun h => (by cases h), fun h => absurd h.inv.1 (by omega)⟩⟩
      · refine Ev.succ (g := fun k => derivation_Valid.j0 k root true n es d.f0 d.f1) (Ev.succ (Ev.const false) (fun k => ?_)) (fun k => ?_)
        · rw [derivation_Valid.j0, if_pos rfl]
        · rw [derivation_Valid.f, if_pos h0]
      · refine Ev.succ (g := fun k => emendateref30_Valid.j0 k true n es d.f0 d.f1) (Ev.succ (Ev.const false) (fun k => ?_)) (fun k => ?_)
        · rw [emendateref30_Valid.j0, if_pos rfl]
        · rw [emendateref30_Valid.f, if_pos h0]
    · by_cases h1 : d.f0 < (es.length : Int)
      · by_cases h2 : (rd_T54 es d.f0).f0 = root
        · subst h2
          by_cases h3 : d.f1.length = (rd_T54 es d.f0).f1.length
          · obtain ⟨r, ea, eb, hr⟩ := loop_Valid n es d hl (by omega) h1 h3 (rd_T54 es d.f0).f2 (rd_T54 es d.f0).f3.f0 (rd_T54 es d.f0).f3.f1 (rd_T54 es d.f0).f0 (fun j hj => ih _ (getD_mem _ _ _ hj) _) d.f1.length 0 (by omega)
            have hne1 : ((((rd_T54 es d.f0).f1).length : Int) != (d.f1.length : Int)) = false := by rw [bne_eq_false_iff_eq]; omega
            have hne2 : ((d.f1.length : Int) != (((rd_T54 es d.f0).f1).length : Int)) = false := by rw [bne_eq_false_iff_eq]; omega
            refine ⟨r, ?_, ?_, hr.trans ⟨fun h => VD.mk d (by omega) h1 h3 (fun j hj => h j (Nat.zero_le _) hj), fun h j _ hj => h.inv.2.2.2.2 j hj⟩⟩
            · refine Ev.succ (g := fun k => derivation_Valid.j0 k (rd_T54 es d.f0).f0 false n es d.f0 d.f1) (Ev.succ (g := fun k => derivation_Valid.j1 k (rd_T54 es d.f0).f0 n es d.f0 d.f1) (Ev.succ (g := fun k => derivation_Valid.j2 k false n es d.f0 d.f1 (rd_T54 es d.f0).f0 (rd_T54 es d.f0).f1 (rd_T54 es d.f0).f2 (rd_T54 es d.f0).f3.f0 (rd_T54 es d.f0).f3.f1) (Ev.succ (g := fun k => derivation_Valid.j3 k n es d.f0 d.f1 (rd_T54 es d.f0).f0 (rd_T54 es d.f0).f1 (rd_T54 es d.f0).f2 (rd_T54 es d.f0).f3.f0 (rd_T54 es d.f0).f3.f1) (Ev.succ ea (fun k => ?_)) (fun k => ?_)) (fun k => ?_)) (fun k => ?_)) (fun k => ?_)
              · rw [derivation_Valid.j3]; rfl
              · rw [derivation_Valid.j2, if_neg (by decide)]
              · rw [derivation_Valid.j1, if_pos (by omega), if_pos h1, if_pos rfl, hne1]
              · rw [derivation_Valid.j0, if_neg (by decide)]
              · rw [derivation_Valid.f, if_neg h0, decide_eq_false (by omega)]
            · refine Ev.succ (g := fun k => emendateref30_Valid.j0 k false n es d.f0 d.f1) (Ev.succ (g := fun k => emendateref30_Valid.j1 k n es d.f0 d.f1) (Ev.succ eb (fun k => ?_)) (fun k => ?_)) (fun k => ?_)
              · rw [emendateref30_Valid.j1]; rfl
              · rw [emendateref30_Valid.j0, if_neg (by decide)]
              · rw [emendateref30_Valid.f, if_neg h0, if_neg (by omega), if_pos (by omega), if_pos h1, if_pos rfl, hne2]
          · have hne1 : ((((rd_T54 es d.f0).f1).length : Int) != (d.f1.length : Int)) = true := by rw [bne_iff_ne]; omega
            have hne2 : ((d.f1.length : Int) != (((rd_T54 es d.f0).f1).length : Int)) = true := by rw [bne_iff_ne]; omega
            refine ⟨false, ?_, ?_, ⟨fun h => (by cases h), fun h => absurd h.inv.2.2.2.1 h3⟩⟩
            · refine Ev.succ (g := fun k => derivation_Valid.j0 k (rd_T54 es d.f0).f0 false n es d.f0 d.f1) (Ev.succ (g := fun k => derivation_Valid.j1 k (rd_T54 es d.f0).f0 n es d.f0 d.f1) (Ev.succ (g := fun k => derivation_Valid.j2 k true n es d.f0 d.f1 (rd_T54 es d.f0).f0 (rd_T54 es d.f0).f1 (rd_T54 es d.f0).f2 (rd_T54 es d.f0).f3.f0 (rd_T54 es d.f0).f3.f1) (Ev.succ (Ev.const false) (fun k => ?_)) (fun k => ?_)) (fun k => ?_)) (fun k => ?_)
              · rw [derivation_Valid.j2, if_pos rfl]
              · rw [derivation_Valid.j1, if_pos (by omega), if_pos h1, if_pos rfl, hne1]
              · rw [derivation_Valid.j0, if_neg (by decide)]
              · rw [derivation_Valid.f, if_neg h0, decide_eq_false (by omega)]
            · refine Ev.succ (g := fun k => emendateref30_Valid.j0 k true n es d.f0 d.f1) (Ev.succ (Ev.const false) (fun k => ?_)) (fun k => ?_)
              · rw [emendateref30_Valid.j0, if_pos rfl]
              · rw [emendateref30_Valid.f, if_neg h0, if_neg (by omega), if_pos (by omega), if_pos h1, if_pos rfl, hne2]
        · refine ⟨false, ?_, ?_, ⟨fun h => (by cases h), fun h => absurd h.inv.2.2.1 h2⟩⟩
          · refine Ev.succ (g := fun k => derivation_Valid.j0 k root false n es d.f0 d.f1) (Ev.succ (g := fun k => derivation_Valid.j1 k root n es d.f0 d.f1) (Ev.succ (g := fun k => derivation_Valid.j2 k true n es d.f0 d.f1 (rd_T54 es d.f0).f0 (rd_T54 es d.f0).f1 (rd_T54 es d.f0).f2 (rd_T54 es d.f0).f3.f0 (rd_T54 es d.f0).f3.f1) (Ev.succ (Ev.const false) (fun k => ?_)) (fun k => ?_)) (fun k => ?_)) (fun k => ?_)
            · rw [derivation_Valid.j2, if_pos rfl]
            · rw [derivation_Valid.j1, if_pos (by omega), if_pos h1, if_neg h2]
            · rw [derivation_Valid.j0, if_neg (by decide)]
            · rw [derivation_Valid.f, if_neg h0, decide_eq_false (by omega)]
          · refine Ev.succ (g := fun k => emendateref30_Valid.j0 k true n es d.f0 d.f1) (Ev.succ (Ev.const false) (fun k => ?_)) (fun k => ?_)
            · rw [emendateref30_Valid.j0, if_pos rfl]
            · rw [emendateref30_Valid.f, if_neg h0, if_neg (by omega), if_pos (by omega), if_pos h1, if_neg h2]
      · refine ⟨false, ?_, ?_, ⟨fun h => (by cases h), fun h => absurd h.inv.2.1 h1⟩⟩
        · refine Ev.succ (g := fun k => derivation_Valid.j0 k root true n es d.f0 d.f1) (Ev.succ (Ev.const false) (fun k => ?_)) (fun k => ?_)
          · rw [derivation_Valid.j0, if_pos rfl]
          · rw [derivation_Valid.f, if_neg h0, decide_eq_true (by omega)]
        · refine Ev.succ (g := fun k => emendateref30_Valid.j0 k true n es d.f0 d.f1) (Ev.succ (Ev.const false) (fun k => ?_)) (fun k => ?_)
          · rw [emendateref30_Valid.j0, if_pos rfl]
          · rw [emendateref30_Valid.f, if_neg h0, if_pos (by omega)]
end
end Go.Proofs.Ytamimodkcbbpmaa.Pr
end
