/- XRef F35 F45 XFair F27 XLawB PA PB LF LG: a part of the proof of the row of a; no conditions. -/
import Derived.Test.YtamimodkcbbpmaaG6
import Derived.Test.YtamimodkcbbpmaaG2
import Derived.Test.YtamimodkcbbpmaaG3
import Derived.Test.YtamimodkcbbpmaaG5
import Derived.Test.YtamimodkcbbpmaaG4
section
namespace Go.Proofs.Ytamimodkcbbpmaa.Pr
open Go.RowKit Go.Proofs.YtamimodkcbbpmaaW.PrintWords Go.Proofs.YtamimodkcbbpmaaW.PrintLast Go.Proofs.YtamimodkcbbpmaaXW Go.Proofs.YtamimodkcbbpmaaXM
set_option linter.unusedVariables false
set_option linter.unusedSimpArgs false
structure RC where
 w0 : World
 b : Nat
 n : Nat
 A : Option Addr
 m : Nat
 c : Nat
 gv : Nat
 cv : Nat
 ge : Nat
 ce : Nat
structure RS (X : RC) (w : World) (vs : List dK) (ed : List Int) : Prop where
 hB : Below X.w0.heap.size X.w0 w
 hb : w.heap[X.b]? = some (.cells #[.int .i64 (X.n : Nat), .slice X.A X.m X.c] 24 (0, 0))
 hV : Kd.R xA 34 w X.w0.heap.size (fun _ => True) (.slice (some ⟨X.gv, 0, none⟩) X.n X.cv) vs
 hE : Kd.R (Kd.int .i64) 3 w X.w0.heap.size (fun _ => True) (.slice (some ⟨X.ge, 0, none⟩) X.n X.ce) ed
section
variable {X : RC} {w w1 : World} {vs vs' : List dK} {ed ed' : List Int}
theorem RS.below (h : RS X w vs ed) (hb : Below w.heap.size w w1) : RS X w1 vs ed := ⟨aM h.hB hb, aC h.hb hb, Kd.bu h.hV hb, Kd.bu h.hE hb⟩
theorem RS.TC (h : RS X w vs ed) (hV : Kd.R xA 34 w1 X.w0.heap.size (fun _ => True) (.slice (some ⟨X.gv, 0, none⟩) X.n X.cv) vs') (hg : w.grownBy w1 (some X.gv)) : RS X w1 vs' ed := by
 obtain ⟨inner, ho⟩ := Kd.xR h.hV;exact ⟨jq h.hB _ h.hB.size hg (fun k hk => mf ho k hk), bX h.hb hg (Kd.mK h.hV h.hb (by decide)), hV, Kd.nA h.hE h.hV (by decide) hg⟩
theorem RS.TD (h : RS X w vs ed) (hE : Kd.R (Kd.int .i64) 3 w1 X.w0.heap.size (fun _ => True) (.slice (some ⟨X.ge, 0, none⟩) X.n X.ce) ed') (hg : w.grownBy w1 (some X.ge)) : RS X w1 vs ed' := by
 obtain ⟨inner, ho⟩ := Kd.xR h.hE;exact ⟨jq h.hB _ h.hB.size hg (fun k hk => mf ho k hk), bX h.hb hg (Kd.mK h.hE h.hb (by decide)), Kd.nA h.hV h.hE (by decide) hg, hE⟩
end
def Dc.T14 : Bool × List (List Nat × List Nat) := (true, [([], []), ([0], [0]), ([], []), ([], []), ([2, 3], [2, 3]), ([1, 4, 4], [1, 4]), ([], []), ([6, 5, 5, 0, 1, 2, 3, 4, 5, 6], [5, 6])])
def Dc.B14 : List Nat := [0, 1, 0, 0, 12, 31, 0, 127]
theorem Dc.ad5 : iC .any (opsOf Try.f38 14) = Dc.T14 := by kernel_rfl
theorem Dc.aa0 : fo Dc.T14.2 Dc.B14 = true := by kernel_rfl
def Dc.T15 : Bool × List (List Nat × List Nat) := (true, [([], []), ([], []), ([], []), ([2], [2]), ([1, 3], [1, 3]), ([4], [4]), ([0, 5], [0, 5])])
def Dc.B15 : List Nat := [0, 0, 0, 4, 14, 30, 63]
theorem Dc.ad6 : iC .any (opsOf Try.f38 15) = Dc.T15 := by kernel_rfl
theorem Dc.aa1 : fo Dc.T15.2 Dc.B15 = true := by kernel_rfl
def Dc.T23 : Bool × List (List Nat × List Nat) := (true, [([], []), ([0], [0]), ([1], [1]), ([2], [2]), ([3], [3]), ([4, 3], [3, 4]), ([3], [3]), ([3], [3]), ([6, 7, 3, 3], [3, 6, 7]), ([5, 8, 8, 3], [3, 5, 8]), ([3], [3]), ([9, 10, 3], [3, 9, 10]), ([3, 11], [3, 11])])
def Dc.B23 : List Nat := [0, 1, 3, 7, 15, 31, 15, 15, 207, 511, 15, 2047, 4095]
theorem Dc.YS : iC .any (opsOf Try.f38 23) = Dc.T23 := by kernel_rfl
theorem Dc.Uk : fo Dc.T23.2 Dc.B23 = true := by kernel_rfl
set_option maxRecDepth 100000 in
set_option maxHeartbeats 8000000 in
theorem Rp (n : Nat) (A : Option Addr) (c : Nat) (es : List dO) (w : World) (hC : Kd.C sJ w A es.length es) (hn : n ≤ 1000) (he : es.length ≤ 1000) (hok : zt n es) (ad7 : zO es) (hT : ∀ e, e ∈ es → e.f1.length ≤ 100) :
  Calls Try.prog 38 #[.agg #[.int .i64 (n : Nat), .slice A es.length c]] w fun e w' => ∃ Pk EF, e = .returned (.tuple #[Pk, EF]) ∧ Kd.R xA 34 w' w.heap.size (fun _ => True) Pk (jy n es) ∧ Kd.R (Kd.int .i64) 3 w' w.heap.size (fun _ => True) EF (xL n es) ∧ Below w.heap.size w w' := by
 have HC := aa.mk hC;have Q5 := aa.mk hok;have HCS := aa.mk ad7;have HT := aa.mk hT;clear hC hok ad7 hT;go_enter Try.func38, Try.ntmps38
 go_upto_region 1 with (fail)
 have ER := eX w (.cells #[.int .i64 (n : Nat), .slice A es.length c] 24);have HB := aa.mk ER.1;have hb1 := ER.2;obtain ⟨b1, e1⟩ : ∃ b1, b1 = w.heap.size := ⟨_, rfl⟩;rw [← e1] at hb1 ⊢;clear ER e1;generalize (w.alloc (.cells #[.int .i64 (n : Nat), .slice A es.length c] 24)) = wA at *;have s0 : wA.cell? ⟨b1, 0, none⟩ = some (.int .i64 (n : Nat)) := by rw [ae hb1 0]; rfl
 have HB1 := aa.mk hb1;clear hb1;go_upto_region 2 with (first | ((with_reducible refine bM (N := 16) rfl ?_); refine Kd.I7 xA w.heap.size 34 rfl (N := 16) rfl 43 _ _ rfl (n : Int) rfl rfl Try.underlying43 (.agg #[.int .i64 0, .int .i64 0]) 16 FP rfl (by decide) (by omega) z34 (ok := fun k => wA.heap.size ≤ k) (lV := fun k => wA.heap.size ≤ k) (vL _ _ _ z34) (fun _ hk => hk) (Nat.le_refl _) (by omega) (by omega) HB.out HB.out.size ?_; intro v16 w6 hV YT hg6 hat; obtain ⟨gv, hbv, hlv⟩ := hat; obtain ⟨cv, rfl⟩ := sW hV hbv; rw [Int.toNat_natCast, List.length_replicate] at hV; have h6 := mM hg6; have HV := aa.mk hV; have H6 := aa.mk h6; have Gp := aa.mk YT; have s06 := ah h6 s0; clear hV h6 YT hg6 hbv))
 clear s0;go_upto_region 3 with (first | ((with_reducible refine bM (N := 19) rfl ?_); refine Kd.I7 (Kd.int .i64) w.heap.size 3 rfl (N := 19) rfl 44 _ _ rfl (n : Int) rfl rfl Try.underlying44 (.int .i64 0) 8 info3 rfl (by decide) (by omega) (0 : Int) (ok := fun k => w6.heap.size ≤ k) (lV := fun k => w6.heap.size ≤ k) rfl (fun _ hk => hk) (Nat.le_refl _) (by omega) (by omega) Gp.out Gp.out.size ?_; intro v19 w7 hE YU hg7 hat; obtain ⟨ge, hbe, hle⟩ := hat; obtain ⟨ce, rfl⟩ := sW hE hbe; rw [Int.toNat_natCast, List.length_replicate] at hE; have h7 := mM hg7; have HE := aa.mk hE; have H7 := aa.mk h7; have Co := aa.mk YU; clear hE h7 YU hg7 hbe))
 have Mh : aa (RS ⟨w, b1, n, A, es.length, c, gv, cv, ge, ce⟩ w7 (Dv n sK z34 0) (Dv n (-1 : Int) 0 0)) := ⟨by
  rw [yZ, yZ];exact ⟨Co.out, aC (aC HB1.out H6.out) H7.out, Kd.bB (Kd.bu HV.out H7.out) (fun _ _ => trivial), Kd.bB HE.out (fun _ _ => trivial)⟩⟩
 clear HV HE HB HB1 H6 H7 Gp Co s06 hlv hle;go_wp2_with fail
 go_loopg [6] (n + 1) (fun g v6 wr => ∃ i : Nat, v6 = .int .i64 i ∧ aa (i ≤ n) ∧ aa (n - i < g) ∧ aa (RS (⟨w, b1, n, A, es.length, c, gv, cv, ge, ce⟩ : RC) wr (Dv n sK z34 i) (Dv n (-1 : Int) 0 i)))
 case atStart => exact ⟨0, by go_num, ⟨by omega⟩, ⟨by omega⟩, Mh⟩
 case round =>
  obtain ⟨i, rfl, hi, hg, HS⟩ := hrel;clear Mh;have s0 : wr.cell? ⟨b1, 0, none⟩ = some (.int .i64 (n : Nat)) := (by rw [ae HS.out.hb 0]; rfl);by_cases hin : i < n
  ·have hi1 : i ≤ 1000 := by omega
   have hcs := ng HS.out.hV (i : Int) (by omega) (by show (i : Int) < (n : Int); omega);have hst := Ap HS.out.hV (i : Int) (by omega) (by show (i : Int) < (n : Int); omega) ⟨1099511627776, 0⟩;simp only [Int.toNat_natCast] at hcs hst;rw [Ay n _ _ i hin] at hst;obtain ⟨l0, l1, f0, f1⟩ := hcs;have D1 := HS.out.TC hst.1 hst.2;have hce := jk D1.hE 0 (i : Int) (by omega) (by show (i : Int) < (n : Int); omega);have hpe := Kd.zG D1.hE (i : Int) (-1);simp only [Int.toNat_natCast] at hce hpe;rw [Ay n _ _ i hin] at hpe;have D2 := aa.mk (D1.TD hpe.1 hpe.2);obtain ⟨e0, ef0⟩ := hce;clear hst D1 hpe;go_wp2_with fail
   go_roundg (n - i)
   case measure => have := hg.out; omega
   case rel => exact ⟨i + 1, by go_num, ⟨by omega⟩, ⟨by omega⟩, D2⟩
  ·obtain rfl : n = i := by have := hi.out; omega
   rw [Aw, Aw] at HS;have Mh := HS;have HP0 := aa.mk (Pre.init n es);obtain ⟨v0, hv0⟩ : ∃ v0, List.replicate n sK = v0 := ⟨_, rfl⟩;rw [hv0] at Mh HP0;obtain ⟨ed0, aa2⟩ : ∃ ed0, List.replicate n (-1 : Int) = ed0 := ⟨_, rfl⟩;rw [aa2] at Mh;have aiU := aa.mk aa2;clear HS hg hi hv0 aa2;have hii : ¬ ((n : Int) < (n : Int)) := by omega
   clear hin;obtain ⟨wO, rfl⟩ : ∃ wO : World, wO = wr := ⟨_, rfl⟩;obtain ⟨gO, rfl⟩ : ∃ gO : Nat, gO = gk := ⟨_, rfl⟩;go_wp2_with fail
   go_loopg [7] (mV v0 + 2) (fun g v7 wr => ∃ (mo : Bool) (vs : List dK), v7 = .bool mo ∧ aa (Pre n es vs) ∧ aa (mo = false → Pe n es vs) ∧ aa (mV vs + (if mo then 2 else 1) ≤ g) ∧ aa (RS (⟨w, b1, n, A, es.length, c, gv, cv, ge, ce⟩ : RC) wr vs ed0))
   case atStart => exact ⟨true, v0, rfl, HP0, ⟨fun h => (by cases h)⟩, ⟨Nat.le_refl _⟩, Mh⟩
   case round =>
    obtain ⟨mo, vs, rfl, HP, aa3, HG, HS⟩ := hrel;clear Mh HP0 s0
    cases mo with
    | true =>
     have WO := HS;have HR1 := aa.mk (RV.zero HP.out);have hg2 : mV vs + 2 ≤ gk := by have := HG.out; simpa using this
     clear HS HP aa3 HG;obtain ⟨g1, rfl⟩ : ∃ g1, gk = g1 + 1 := ⟨gk - 1, by omega⟩;have Ul : wr.cell? ⟨b1, 1, none⟩ = some (.slice A es.length c) := (by rw [ae WO.out.hb 1]; rfl);obtain ⟨wP, Tx⟩ : ∃ wP : World, wP = wr := ⟨_, rfl⟩;obtain ⟨v1, hv1⟩ : ∃ v1, v1 = vs := ⟨_, rfl⟩;rw [← hv1] at HR1 WO hg2;clear hv1;go_wp2_with fail
     go_loopg [7, 8] (es.length + 1) (fun g v7 v8 wr => ∃ (k : Nat) (mo : Bool) (vs : List dK), v7 = .bool mo ∧ v8 = .int .i64 k ∧ aa (k ≤ es.length) ∧ aa (es.length - k < g) ∧ aa (RV n es v1 vs k mo) ∧ aa (RS (⟨w, b1, n, A, es.length, c, gv, cv, ge, ce⟩ : RC) wr vs ed0))
     case atStart => exact ⟨0, false, v1, rfl, by go_num, ⟨by omega⟩, ⟨by omega⟩, HR1, WO⟩
     case round =>
      obtain ⟨k, mo, vs, rfl, rfl, hk, hg, HR, HS⟩ := hrel;clear HR1 WO Ul Tx;have Ul : wr.cell? ⟨b1, 1, none⟩ = some (.slice A es.length c) := (by rw [ae HS.out.hb 1]; rfl);by_cases hkn : k < es.length
      ·obtain ⟨ad, A1, c1, hA, d0, d1, d2, d3, d4, hc1, Da⟩ := kK HC.out (k : Int) (by omega) (by omega);subst hA;replace d0 := ah HS.out.hB d0; replace d1 := ah HS.out.hB d1; replace d2 := ah HS.out.hB d2; replace d3 := ah HS.out.hB d3; replace d4 := ah HS.out.hB d4;obtain ⟨⟨he0, he1⟩, hte, hle⟩ := jb Q5.out (k : Int) (by omega) (by omega);obtain ⟨hc0, Yr⟩ := nM HCS.out k hkn;have YV := aa.mk (fun h => HR.out.skip (k := k) h);have HST := aa.mk (HR.out.step HCS.out Q5.out hkn);obtain ⟨e, zQ⟩ : ∃ e, aj es (k : Int) = e := ⟨_, rfl⟩;rw [zQ] at d0 d1 d2 d3 d4 hc1 Da he0 he1 hte hle hc0 Yr YV HST;simp only [Int.toNat_natCast] at d0 d1 d2 d3 d4;have hvl : vs.length = n := HR.out.pre.len;have HTR : aa (∀ t, t ∈ e.f1 → 0 ≤ t ∧ t < (vs.length : Int)) := ⟨fun t ht => by rw [hvl]; exact hte t ht⟩;have HTO := aa.mk (nN HR.out.pre.ok HTR.out);have EY := aa.mk Da;obtain ⟨V, hV⟩ : ∃ V, kV vs e = V := ⟨_, rfl⟩;rw [hV] at YV HST;have HV := aa.mk hV;clear zQ Da hte hV HR;go_upto_region 14 with (fail)
       have EB := eX wr (.cells #[.int .i64 e.f0, .slice A1 e.f1.length c1, .int .i64 e.f2, .int .i64 e.f3.f0, .int .i64 e.f3.f1] 54);have Kh := aa.mk (HS.out.below EB.1);have H9A := aa.mk EB.2;obtain ⟨b9, hb9⟩ : ∃ b9, b9 = wr.heap.size := ⟨_, rfl⟩;rw [← hb9] at H9A ⊢;clear hb9 EB HS d0 d1 d2 d3 d4 Ul;generalize (wr.alloc (.cells #[.int .i64 e.f0, .slice A1 e.f1.length c1, .int .i64 e.f2, .int .i64 e.f3.f0, .int .i64 e.f3.f1] 54)) = wA at *;have HSB := aa.mk (Kh.out.below (dM (Below.refl wA.heap.size wA)));have H9 := aa.mk (aC H9A.out (dM (Below.refl wA.heap.size wA)));clear Kh H9A;have h90 : wA.drew.cell? ⟨b9, 0, none⟩ = some (.int .i64 e.f0) := (by rw [ae H9.out 0]; rfl);have h91 : wA.drew.cell? ⟨b9, 1, none⟩ = some (.slice A1 e.f1.length c1) := (by rw [ae H9.out 1]; rfl);have h92 : wA.drew.cell? ⟨b9, 2, none⟩ = some (.int .i64 e.f2) := (by rw [ae H9.out 2]; rfl);have h93 : wA.drew.cell? ⟨b9, 3, none⟩ = some (.int .i64 e.f3.f0) := (by rw [ae H9.out 3]; rfl);have h94 : wA.drew.cell? ⟨b9, 4, none⟩ = some (.int .i64 e.f3.f1) := (by rw [ae H9.out 4]; rfl);obtain ⟨hvn, hcv, TE⟩ := Kd.dD HSB.out.hV;have UW := aa.mk TE;have Gy := aa.mk (Kd.bF EY.out HSB.out.hB);have uz := aa.mk (Below.refl wA.drew.heap.size wA.drew);clear TE hvn EY;refine fu (n := 8) (S := fun w' => w'.cell? ⟨b9, 0, none⟩ = some (.int .i64 e.f0) ∧ w'.cell? ⟨b9, 1, none⟩ = some (.slice A1 e.f1.length c1) ∧ w'.cell? ⟨b9, 2, none⟩ = some (.int .i64 e.f2) ∧ w'.cell? ⟨b9, 3, none⟩ = some (.int .i64 e.f3.f0) ∧ w'.cell? ⟨b9, 4, none⟩ = some (.int .i64 e.f3.f1)) (ds := []) #[false, false, false, false, false, false, false, false] (by kernel_rfl) rfl rfl ⟨h90, h91, h92, h93, h94⟩ (fun hHeld => ?_);refine dw Dc.ad5 Dc.aa0 (fun dA ji => ?_);refine fG (fuel := 4) [(0, 46), (1, 47), (2, 48), (3, 49)] #[true, true, true, true, false, false, false, false] (df dA.out ji.out _ _ _ (by kernel_rfl)) rfl (fun _ _ _ _ _ h => h) hHeld (a' := ?_) ?_ ?_;rotate_left
       ·iterate 4
         refine bC (v := ?_) (a1 := ?_) rfl rfl (Or.inl ⟨by rfl, ?_⟩) ?_ ?_;rotate_left 2
         ·rintro w' ⟨s0, s1, s2, s3, s4⟩;go_simp;with_reducible rfl
         ·simp only [Act.put, List.setIfInBounds_toArray, List.set_cons_zero, List.set_cons_succ, bH, bI];rfl
        exact chain_nil
       clear hHeld h90 h91 h92 h93 h94;generalize wA.drew = wB at *;refine XT (σ := (Option Addr × Nat) × Nat) 1 #[true, true, true, true, true, true, true, false] (fun s => [(50, .slice s.1.1 (tailV vs e.f1).length s.1.2), (51, .agg #[.int .i64 V.f0, .int .i64 V.f1]), (10, .pointer (some ⟨s.2, 0, none⟩))]) (fun s w' => Below wB.heap.size wB w' ∧ w'.heap[s.2]? = some (.cells #[.int .i64 0, .int .i64 0] 34 (0, 0)) ∧ wB.heap.size ≤ s.2) ?hcont (fun hc => ?_);rotate_left;refine z8 (fuel := 3) (i := 4) (j := 6) #[true, true, true, true, true, false, false, false] #[true, true, true, true, false, false, true, false] rfl rfl rfl rfl (nD dA.out (by kernel_rfl)) (by decide) (by decide) (fun K hK => ?_) (fun K hK => ?_)
       ·refine call_ (N := some 50) 63 #[.agg #[.int .i64 e.f0, .slice A1 e.f1.length c1, .int .i64 e.f2, .int .i64 e.f3.f0, .int .i64 e.f3.f1], .slice (some ⟨gv, 0, none⟩) n cv] (by rfl) rfl ?_ ?_
        ·have zQ := kJ Try.func63 (by kernel_rfl) rfl #[.agg #[.int .i64 e.f0, .slice A1 e.f1.length c1, .int .i64 e.f2, .int .i64 e.f3.f0, .int .i64 e.f3.f1], .slice (some ⟨gv, 0, none⟩) n cv] wB;unfold execOp;simp [resolve, Deferred.ofValue, invoke, Act.eval, zQ]
        have ct := bK.calls (e.f1.length + 1) e.f0 A1 c1 e.f1 e.f2 e.f3.f0 e.f3.f1 (some ⟨gv, 0, none⟩) cv vs (tailV vs e.f1) wB (Kd.bF Gy.out uz.out) hc1 (Kd.bF UW.out uz.out) (by rw [hvl]; exact hcv) (yt vs e HTR.out hle);rw [hvl] at ct;refine ct.mono ?_;rintro x5 Gz ⟨v5, rfl, hR5, hbw⟩;obtain ⟨A5, c5, rfl, hl5, YW⟩ := Kd.oK hR5;have Um := aa.mk YW;clear hR5 YW;refine ⟨_, rfl, ?_⟩;have sH := uz; clear uz; have uz := aa.mk (aM sH.out hbw); clear sH hbw;have oD := aC H9.out uz.out;refine hK.out _ _ ⟨(by rw [ae oD 0]; rfl), (by rw [ae oD 1]; rfl), (by rw [ae oD 2]; rfl), (by rw [ae oD 3]; rfl), (by rw [ae oD 4]; rfl)⟩ (fun hHeld => bS (by simp only [Act.put, List.setIfInBounds_toArray, List.set_cons_zero, List.set_cons_succ]; rfl) ?_);clear hK K hHeld oD;refine z8 (fuel := 2) (i := 5) (j := 6) #[true, true, true, true, true, true, false, false] #[true, true, true, true, true, false, true, false] rfl rfl rfl rfl (nD dA.out (by kernel_rfl)) (by decide) (by decide) (fun K hK => ?_) (fun K hK => ?_)
        ·refine call_ (N := some 51) 62 #[.int .i64 e.f2, .slice A5 (tailV vs e.f1).length c5] (by rfl) rfl ?_ ?_
         ·have zQ := kJ Try.func62 (by kernel_rfl) rfl #[.int .i64 e.f2, .slice A5 (tailV vs e.f1).length c5] Gz;unfold execOp;simp [resolve, Deferred.ofValue, invoke, Act.eval, zQ]
         refine (bz.calls ((tailV vs e.f1).length + 1) e.f2 A5 c5 (tailV vs e.f1) (gD e.f2 (tailV vs e.f1)).f0 (gD e.f2 (tailV vs e.f1)).f1 Gz Um.out hl5 (mh e.f2 (tailV vs e.f1) (by rw [eY]; exact hle) hc0 Yr HTO.out)).mono ?_;rintro x5 Lp ⟨rfl, hbw⟩;rw [show gD e.f2 (tailV vs e.f1) = V from HV.out];refine ⟨_, rfl, ?_⟩;have sH := uz; clear uz; have uz := aa.mk (aM sH.out hbw); clear sH hbw;have oD := aC H9.out uz.out;refine hK.out _ _ ⟨(by rw [ae oD 0]; rfl), (by rw [ae oD 1]; rfl), (by rw [ae oD 2]; rfl), (by rw [ae oD 3]; rfl), (by rw [ae oD 4]; rfl)⟩ (fun hHeld => bS (by simp only [Act.put, List.setIfInBounds_toArray, List.set_cons_zero, List.set_cons_succ]; rfl) ?_);clear hK K hHeld oD;refine fT (fuel := 1) (i := 6) #[true, true, true, true, true, true, true, false] rfl rfl (dn dA.out (by kernel_rfl)) (by decide) (fun K hK => ?_)
         ·refine pY (N := some 10) (w1 := Lp.alloc (.cells #[.int .i64 0, .int .i64 0] 34)) (v := .pointer (some ⟨Lp.heap.size, 0, none⟩)) (by rfl) rfl (by first | (go_simp; done) | (go_simp; rfl)) ?_;have hal := eX Lp (.cells #[.int .i64 0, .int .i64 0] 34);obtain ⟨b10, yC⟩ : ∃ b10, b10 = Lp.heap.size := ⟨_, rfl⟩;have hbw := hal.1; have h10 := hal.2;have Ki : wB.heap.size ≤ b10 := (by rw [yC]; exact uz.out.size);rw [← yC] at h10 ⊢;have Qa := aa.mk h10;clear yC hal h10;obtain ⟨amb, YX⟩ : ∃ w6, w6 = (Lp.alloc (.cells #[.int .i64 0, .int .i64 0] 34)) := ⟨_, rfl⟩;rw [← YX] at hbw Qa ⊢;clear YX;have sH := uz; clear uz; have uz := aa.mk (aM sH.out hbw); clear sH hbw;have oD := aC H9.out uz.out;refine hK.out _ _ ⟨(by rw [ae oD 0]; rfl), (by rw [ae oD 1]; rfl), (by rw [ae oD 2]; rfl), (by rw [ae oD 3]; rfl), (by rw [ae oD 4]; rfl)⟩ (fun hHeld => bS (by simp only [Act.put, List.setIfInBounds_toArray, List.set_cons_zero, List.set_cons_succ]; rfl) ?_);clear hK K hHeld oD;exact bS (by simp only [gz, Act.put, List.setIfInBounds_toArray, List.set_cons_zero, List.set_cons_succ]) (hc ((A5, c5), b10) _ ⟨uz.out, Qa.out, Ki⟩)
        ·refine pY (N := some 10) (w1 := Gz.alloc (.cells #[.int .i64 0, .int .i64 0] 34)) (v := .pointer (some ⟨Gz.heap.size, 0, none⟩)) (by rfl) rfl (by first | (go_simp; done) | (go_simp; rfl)) ?_;have hal := eX Gz (.cells #[.int .i64 0, .int .i64 0] 34);obtain ⟨b10, yC⟩ : ∃ b10, b10 = Gz.heap.size := ⟨_, rfl⟩;have hbw := hal.1; have h10 := hal.2;have Ki : wB.heap.size ≤ b10 := (by rw [yC]; exact uz.out.size);rw [← yC] at h10 ⊢;have Qa := aa.mk h10;clear yC hal h10;obtain ⟨YY, YX⟩ : ∃ w6, w6 = (Gz.alloc (.cells #[.int .i64 0, .int .i64 0] 34)) := ⟨_, rfl⟩;rw [← YX] at hbw Qa ⊢;clear YX;replace Um := aa.mk (Kd.bF Um.out hbw);have sH := uz; clear uz; have uz := aa.mk (aM sH.out hbw); clear sH hbw;have oD := aC H9.out uz.out;refine hK.out _ _ ⟨(by rw [ae oD 0]; rfl), (by rw [ae oD 1]; rfl), (by rw [ae oD 2]; rfl), (by rw [ae oD 3]; rfl), (by rw [ae oD 4]; rfl)⟩ (fun hHeld => bS (by simp only [Act.put, List.setIfInBounds_toArray, List.set_cons_zero, List.set_cons_succ]; rfl) ?_);clear hK K hHeld oD;refine fT (fuel := 1) (i := 5) #[true, true, true, true, true, true, true, false] rfl rfl (dn dA.out (by kernel_rfl)) (by decide) (fun K hK => ?_)
         ·refine call_ (N := some 51) 62 #[.int .i64 e.f2, .slice A5 (tailV vs e.f1).length c5] (by rfl) rfl ?_ ?_
          ·have zQ := kJ Try.func62 (by kernel_rfl) rfl #[.int .i64 e.f2, .slice A5 (tailV vs e.f1).length c5] YY;unfold execOp;simp [resolve, Deferred.ofValue, invoke, Act.eval, zQ]
          refine (bz.calls ((tailV vs e.f1).length + 1) e.f2 A5 c5 (tailV vs e.f1) (gD e.f2 (tailV vs e.f1)).f0 (gD e.f2 (tailV vs e.f1)).f1 YY Um.out hl5 (mh e.f2 (tailV vs e.f1) (by rw [eY]; exact hle) hc0 Yr HTO.out)).mono ?_;rintro x5 aea ⟨rfl, hbw⟩;rw [show gD e.f2 (tailV vs e.f1) = V from HV.out];refine ⟨_, rfl, ?_⟩;replace Qa := aa.mk (aC Qa.out hbw);have sH := uz; clear uz; have uz := aa.mk (aM sH.out hbw); clear sH hbw;have oD := aC H9.out uz.out;refine hK.out _ _ ⟨(by rw [ae oD 0]; rfl), (by rw [ae oD 1]; rfl), (by rw [ae oD 2]; rfl), (by rw [ae oD 3]; rfl), (by rw [ae oD 4]; rfl)⟩ (fun hHeld => bS (by simp only [Act.put, List.setIfInBounds_toArray, List.set_cons_zero, List.set_cons_succ]; rfl) ?_);clear hK K hHeld oD;exact bS (by simp only [gz, Act.put, List.setIfInBounds_toArray, List.set_cons_zero, List.set_cons_succ]) (hc ((A5, c5), b10) _ ⟨uz.out, Qa.out, Ki⟩)
       ·refine pY (N := some 10) (w1 := wB.alloc (.cells #[.int .i64 0, .int .i64 0] 34)) (v := .pointer (some ⟨wB.heap.size, 0, none⟩)) (by rfl) rfl (by first | (go_simp; done) | (go_simp; rfl)) ?_;have hal := eX wB (.cells #[.int .i64 0, .int .i64 0] 34);obtain ⟨b10, yC⟩ : ∃ b10, b10 = wB.heap.size := ⟨_, rfl⟩;have hbw := hal.1; have h10 := hal.2;have Ki : wB.heap.size ≤ b10 := (by rw [yC]; exact uz.out.size);rw [← yC] at h10 ⊢;have Qa := aa.mk h10;clear yC hal h10;obtain ⟨YZ, YX⟩ : ∃ w6, w6 = (wB.alloc (.cells #[.int .i64 0, .int .i64 0] 34)) := ⟨_, rfl⟩;rw [← YX] at hbw Qa ⊢;clear YX;have sH := uz; clear uz; have uz := aa.mk (aM sH.out hbw); clear sH hbw;have oD := aC H9.out uz.out;refine hK.out _ _ ⟨(by rw [ae oD 0]; rfl), (by rw [ae oD 1]; rfl), (by rw [ae oD 2]; rfl), (by rw [ae oD 3]; rfl), (by rw [ae oD 4]; rfl)⟩ (fun hHeld => bS (by simp only [Act.put, List.setIfInBounds_toArray, List.set_cons_zero, List.set_cons_succ]; rfl) ?_);clear hK K hHeld oD;refine fT (fuel := 2) (i := 4) #[true, true, true, true, true, false, true, false] rfl rfl (dn dA.out (by kernel_rfl)) (by decide) (fun K hK => ?_)
        ·refine call_ (N := some 50) 63 #[.agg #[.int .i64 e.f0, .slice A1 e.f1.length c1, .int .i64 e.f2, .int .i64 e.f3.f0, .int .i64 e.f3.f1], .slice (some ⟨gv, 0, none⟩) n cv] (by rfl) rfl ?_ ?_
         ·have zQ := kJ Try.func63 (by kernel_rfl) rfl #[.agg #[.int .i64 e.f0, .slice A1 e.f1.length c1, .int .i64 e.f2, .int .i64 e.f3.f0, .int .i64 e.f3.f1], .slice (some ⟨gv, 0, none⟩) n cv] YZ;unfold execOp;simp [resolve, Deferred.ofValue, invoke, Act.eval, zQ]
         have ct := bK.calls (e.f1.length + 1) e.f0 A1 c1 e.f1 e.f2 e.f3.f0 e.f3.f1 (some ⟨gv, 0, none⟩) cv vs (tailV vs e.f1) YZ (Kd.bF Gy.out uz.out) hc1 (Kd.bF UW.out uz.out) (by rw [hvl]; exact hcv) (yt vs e HTR.out hle);rw [hvl] at ct;refine ct.mono ?_;rintro x5 Y0 ⟨v5, rfl, hR5, hbw⟩;obtain ⟨A5, c5, rfl, hl5, YW⟩ := Kd.oK hR5;have Um := aa.mk YW;clear hR5 YW;refine ⟨_, rfl, ?_⟩;replace Qa := aa.mk (aC Qa.out hbw);have sH := uz; clear uz; have uz := aa.mk (aM sH.out hbw); clear sH hbw;have oD := aC H9.out uz.out;refine hK.out _ _ ⟨(by rw [ae oD 0]; rfl), (by rw [ae oD 1]; rfl), (by rw [ae oD 2]; rfl), (by rw [ae oD 3]; rfl), (by rw [ae oD 4]; rfl)⟩ (fun hHeld => bS (by simp only [Act.put, List.setIfInBounds_toArray, List.set_cons_zero, List.set_cons_succ]; rfl) ?_);clear hK K hHeld oD;refine fT (fuel := 1) (i := 5) #[true, true, true, true, true, true, true, false] rfl rfl (dn dA.out (by kernel_rfl)) (by decide) (fun K hK => ?_)
         ·refine call_ (N := some 51) 62 #[.int .i64 e.f2, .slice A5 (tailV vs e.f1).length c5] (by rfl) rfl ?_ ?_
          ·have zQ := kJ Try.func62 (by kernel_rfl) rfl #[.int .i64 e.f2, .slice A5 (tailV vs e.f1).length c5] Y0;unfold execOp;simp [resolve, Deferred.ofValue, invoke, Act.eval, zQ]
          refine (bz.calls ((tailV vs e.f1).length + 1) e.f2 A5 c5 (tailV vs e.f1) (gD e.f2 (tailV vs e.f1)).f0 (gD e.f2 (tailV vs e.f1)).f1 Y0 Um.out hl5 (mh e.f2 (tailV vs e.f1) (by rw [eY]; exact hle) hc0 Yr HTO.out)).mono ?_;rintro x5 aea ⟨rfl, hbw⟩;rw [show gD e.f2 (tailV vs e.f1) = V from HV.out];refine ⟨_, rfl, ?_⟩;replace Qa := aa.mk (aC Qa.out hbw);have sH := uz; clear uz; have uz := aa.mk (aM sH.out hbw); clear sH hbw;have oD := aC H9.out uz.out;refine hK.out _ _ ⟨(by rw [ae oD 0]; rfl), (by rw [ae oD 1]; rfl), (by rw [ae oD 2]; rfl), (by rw [ae oD 3]; rfl), (by rw [ae oD 4]; rfl)⟩ (fun hHeld => bS (by simp only [Act.put, List.setIfInBounds_toArray, List.set_cons_zero, List.set_cons_succ]; rfl) ?_);clear hK K hHeld oD;exact bS (by simp only [gz, Act.put, List.setIfInBounds_toArray, List.set_cons_zero, List.set_cons_succ]) (hc ((A5, c5), b10) _ ⟨uz.out, Qa.out, Ki⟩)
       rintro ⟨⟨A5, c5⟩, b10⟩ wC ⟨hBW, h10, Ki⟩;refine bS (a' := ?_) ?_ ?_;rotate_left
       ·simp only [gz, Act.put, List.setIfInBounds_toArray, List.set_cons_zero, List.set_cons_succ];rfl
       have aiW : wC.cell? ⟨b10, 0, none⟩ = some (.int .i64 0) := (by rw [ae h10 0]; rfl);have aiX : wC.cell? ⟨b10, 1, none⟩ = some (.int .i64 0) := (by rw [ae h10 1]; rfl);have f100 := ai h10 0;have f101 := ai h10 1;obtain ⟨wD, hwD⟩ : ∃ wD, wD = (wC.setCell ⟨b10, 0, none⟩ (.int .i64 V.f0)).setCell ⟨b10, 1, none⟩ (.int .i64 V.f1) := ⟨_, rfl⟩;have hBD : Below wB.heap.size wB wD := (by rw [hwD]; exact (hBW.setCell Ki _).setCell Ki _);have h9D := aC H9.out hBD;have aeb : wD.heap[b10]? = some (.cells #[.int .i64 V.f0, .int .i64 V.f1] 34 (0, 0)) := (by rw [hwD]; simpa using gL (gL h10 0 (.int .i64 V.f0)) 1 (.int .i64 V.f1));have RZ := aa.mk (HSB.out.below hBD);have H9D := aa.mk h9D;have aec := aa.mk aeb;clear uz;refine fT (i := 7) (N := none) #[true, true, true, true, true, true, true, true] rfl rfl (dn dA.out (by kernel_rfl)) (by decide) (fun K hK => ?_);refine rV (w1 := wD) (by rfl) rfl ?_ ?_
       ·rw [hwD];first | (go_simp; done) | (go_simp; rfl)
       refine hK.out _ _ ⟨(by rw [ae h9D 0]; rfl), (by rw [ae h9D 1]; rfl), (by rw [ae h9D 2]; rfl), (by rw [ae h9D 3]; rfl), (by rw [ae h9D 4]; rfl)⟩ (fun hHeld => ?_);clear hK K hHeld;refine gH (dV dA.out (by kernel_rfl)) ?_;clear hwD hBD h9D aeb aiW aiX f100 f101 h10 hBW Ki;have hd := dM (Below.refl wD.heap.size wD);have R3 := aa.mk (RZ.out.below hd);have H9E := aa.mk (aC H9D.out hd);have WQ := aa.mk (aC aec.out hd);obtain ⟨g20, g21, _, _⟩ := ng R3.out.hV e.f0 he0 (by show e.f0 < (n : Int); exact he1);obtain ⟨y, hy⟩ : ∃ y, bJ vs e.f0 = y := ⟨_, rfl⟩;rw [hy] at g20 g21 YV HST;have HY := aa.mk hy;have h90 : wD.drew.cell? ⟨b9, 0, none⟩ = some (.int .i64 e.f0) := (by rw [ae H9E.out 0]; rfl);have WR : wD.drew.cell? ⟨b10, 0, none⟩ = some (.int .i64 V.f0) := (by rw [ae WQ.out 0]; rfl);have WS : wD.drew.cell? ⟨b10, 1, none⟩ = some (.int .i64 V.f1) := (by rw [ae WQ.out 1]; rfl);clear hd hy RZ H9D aec HSB H9;go_upto_region 15 with (fail)
       refine fu (n := 7) (S := fun w' => w'.cell? ⟨b10, 0, none⟩ = some (.int .i64 V.f0) ∧ w'.cell? ⟨b10, 1, none⟩ = some (.int .i64 V.f1) ∧ w'.cell? ⟨b9, 0, none⟩ = some (.int .i64 e.f0) ∧ w'.cell? ⟨gv, e.f0.toNat * 2, none⟩ = some (.int .i64 y.f0) ∧ w'.cell? ⟨gv, e.f0.toNat * 2 + 1, none⟩ = some (.int .i64 y.f1)) (ds := []) #[false, false, false, false, false, false, false] (by kernel_rfl) rfl rfl ⟨WR, WS, h90, g20, g21⟩ (fun hHeld => ?_);refine dw Dc.ad6 Dc.aa1 (fun dA ji => ?_);refine fG (fuel := 1) [(0, 52), (1, 53), (2, 54), (3, 55), (4, 56), (5, 57)] #[true, true, true, true, true, true, false] (df dA.out ji.out _ _ _ (by kernel_rfl)) rfl (fun _ _ _ _ _ h => h) hHeld (a' := ?_) ?_ ?_;rotate_left
       ·iterate 6
         refine bC (v := ?_) (a1 := ?_) rfl rfl (Or.inl ⟨by rfl, ?_⟩) ?_ ?_;rotate_left 2
         ·rintro w' ⟨s0, s1, s2, s3, s4⟩;go_simp;with_reducible rfl
         ·simp only [Act.put, List.setIfInBounds_toArray, List.set_cons_zero, List.set_cons_succ, bH, bI];rfl
        exact chain_nil
       refine fT (i := 6) (N := some 58) #[true, true, true, true, true, true, true] rfl rfl (dn dA.out (by kernel_rfl)) (by decide) (fun K hK => ?_);refine call_ 60 #[.agg #[.int .i64 V.f0, .int .i64 V.f1], .agg #[.int .i64 y.f0, .int .i64 y.f1]] (by rfl) rfl ?_ ?_
       ·have zQ := kJ Try.func60 (by kernel_rfl) rfl #[.agg #[.int .i64 V.f0, .int .i64 V.f1], .agg #[.int .i64 y.f0, .int .i64 y.f1]] wD.drew;unfold execOp;simp [resolve, Deferred.ofValue, invoke, Act.eval, zQ]
       refine (jA.calls V.f0 V.f1 y.f0 y.f1 (pW V y) wD.drew (M5 V y)).mono ?_;rintro x7 w7 ⟨rfl, YU⟩;have Co := aa.mk YU;clear YU;refine ⟨_, rfl, ?_⟩;refine hK.out _ _ ⟨ah Co.out WR, ah Co.out WS, ah Co.out h90, ah Co.out g20, ah Co.out g21⟩ (fun hHeld => ?_);clear hK K;refine bS (a' := ?_) ?_ ?_;rotate_left
       ·show Act.put _ (some 58) _ = _;simp only [Act.put, List.setIfInBounds_toArray, List.set_cons_zero, List.set_cons_succ, bH, bI];rfl
       refine gH (dV dA.out (by kernel_rfl)) ?_;clear h90 WR WS g20 g21 hHeld;have Mi := aa.mk (R3.out.below Co.out);have H97 := aa.mk (aC H9E.out Co.out);have aed := aa.mk (aC WQ.out Co.out);clear R3 H9E WQ Co;obtain ⟨bl, hbl⟩ : ∃ bl, pW V y = bl := ⟨_, rfl⟩;rw [hbl];have HBL := aa.mk hbl;clear hbl
       cases bl with
       | false =>
        go_wp2_with fail
        go_roundg (es.length - k)
        case measure => have := hg.out; omega
        case rel => exact ⟨k + 1, mo, vs, rfl, by go_num, ⟨by omega⟩, ⟨by omega⟩, ⟨YV.out HBL.out⟩, Mi⟩
       | true =>
        have h90 : w7.cell? ⟨b9, 0, none⟩ = some (.int .i64 e.f0) := (by rw [ae H97.out 0]; rfl);have WR : w7.cell? ⟨b10, 0, none⟩ = some (.int .i64 V.f0) := (by rw [ae aed.out 0]; rfl);have WS : w7.cell? ⟨b10, 1, none⟩ = some (.int .i64 V.f1) := (by rw [ae aed.out 1]; rfl);obtain ⟨g20, g21, gf0, gf1⟩ := ng Mi.out.hV e.f0 he0 (by show e.f0 < (n : Int); exact he1);have hst := Ap Mi.out.hV e.f0 he0 (by show e.f0 < (n : Int); exact he1) V;have HS8 := aa.mk (Mi.out.TC hst.1 hst.2);clear hst;go_wp2_with fail
        go_roundg (es.length - k)
        case measure => have := hg.out; omega
        case rel => exact ⟨k + 1, true, vs.set e.f0.toNat V, rfl, by go_num, ⟨by omega⟩, ⟨by omega⟩, ⟨HST.out HBL.out⟩, HS8⟩
      ·obtain rfl : k = es.length := by have := hk.out; omega
       have hkk : ¬ ((es.length : Int) < (es.length : Int)) := by omega
       have hms : mV vs + (if mo then 2 else 1) ≤ g1 := by
        cases mo with
        | true => have := HR.out.yes rfl; simp; omega
        | false => have := (HR.out.no rfl).1; subst this; simp; omega
       go_wp2_with fail
       go_roundg g1
       case measure => omega
       case rel => exact ⟨mo, vs, rfl, ⟨HR.out.pre⟩, ⟨fun h => by subst h; exact HR.out.UZ⟩, ⟨hms⟩, HS⟩
    | false =>
     have HSO := aa.mk (aa3.out rfl);clear aa3 HG;have Ul : wr.cell? ⟨b1, 1, none⟩ = some (.slice A es.length c) := (by rw [ae HS.out.hb 1]; rfl);have HD0 : aa (Down n es vs es.length ed0) := ⟨by rw [← aiU.out]; exact Down.init n es vs⟩;have WO := HS;clear HS HP;obtain ⟨wP, Tx⟩ : ∃ wP : World, wP = wr := ⟨_, rfl⟩;obtain ⟨gP, hgP⟩ : ∃ gP : Nat, gP = gk := ⟨_, rfl⟩;go_wp2_with fail
     go_loopg [11] (es.length + 1) (fun g v11 wr => ∃ (i : Nat) (ed : List Int), v11 = .int .i64 ((i : Int) - 1) ∧ aa (i ≤ es.length) ∧ aa (i < g) ∧ aa (Down n es vs i ed) ∧ aa (RS (⟨w, b1, n, A, es.length, c, gv, cv, ge, ce⟩ : RC) wr vs ed))
     case atStart => exact ⟨es.length, ed0, by go_num, ⟨by omega⟩, ⟨by omega⟩, HD0, WO⟩
     case round =>
      obtain ⟨i, ed, rfl, hi, hg, HD, HS⟩ := hrel;clear HD0 WO Ul Tx hgP
      cases i with
      | zero =>
       have hneg : ¬ (0 : Int) ≤ -1 := by decide
       obtain ⟨h1, h2⟩ := VQ HCS.out Q5.out HT.out he HSO.out HD.out;have h9 := HS.out;rw [h1, h2] at h9;have H9 := aa.mk h9;clear h1 h2 h9;simp only [Int.natCast_zero, Int.zero_sub, Int.ofNat_zero];go_wp2_with fail
       go_ret2
       exact ⟨_, _, rfl, H9.out.hV, H9.out.hE, H9.out.hB⟩
      | succ j =>
       rw [show (((j + 1 : Nat) : Int) - 1) = (j : Int) by omega];have hjn : j < es.length := by have := hi.out; omega
       have Ul : wr.cell? ⟨b1, 1, none⟩ = some (.slice A es.length c) := (by rw [ae HS.out.hb 1]; rfl);obtain ⟨ad, A1, c1, hA, d0, d1, d2, d3, d4, hc1, Da⟩ := kK HC.out (j : Int) (by omega) (by omega);subst hA;replace d0 := ah HS.out.hB d0; replace d1 := ah HS.out.hB d1; replace d2 := ah HS.out.hB d2; replace d3 := ah HS.out.hB d3; replace d4 := ah HS.out.hB d4;obtain ⟨⟨he0, he1⟩, hte, hle⟩ := jb Q5.out (j : Int) (by omega) (by omega);obtain ⟨hc0, Yr⟩ := nM HCS.out j hjn;have YV := aa.mk (fun h => HD.out.skip h);have HST := aa.mk (fun h => HD.out.step Q5.out hjn h);have HTI : aa (pR es vs j (aj es (j : Int)).f0 ↔ (bJ vs (aj es (j : Int)).f0).f0 < 1099511627776 ∧ kV vs (aj es (j : Int)) = bJ vs (aj es (j : Int)).f0) := ⟨⟨fun h => h.2, fun h => ⟨rfl, h⟩⟩⟩;obtain ⟨e, zQ⟩ : ∃ e, aj es (j : Int) = e := ⟨_, rfl⟩;rw [zQ] at d0 d1 d2 d3 d4 hc1 Da he0 he1 hte hle hc0 Yr YV HST HTI;simp only [Int.toNat_natCast] at d0 d1 d2 d3 d4;have hvl : vs.length = n := HSO.out.len;have HTR : aa (∀ t, t ∈ e.f1 → 0 ≤ t ∧ t < (vs.length : Int)) := ⟨fun t ht => by rw [hvl]; exact hte t ht⟩;have HTO := aa.mk (nN HSO.out.ok HTR.out);have EY := aa.mk Da;obtain ⟨V, hV⟩ : ∃ V, kV vs e = V := ⟨_, rfl⟩;obtain ⟨y, hy⟩ : ∃ y, bJ vs e.f0 = y := ⟨_, rfl⟩;rw [hV, hy] at HTI;have HV := aa.mk hV;have HY := aa.mk hy;clear zQ Da hte hV hy;go_upto_region 22 with (fail)
       have EB := eX wr (.cells #[.int .i64 e.f0, .slice A1 e.f1.length c1, .int .i64 e.f2, .int .i64 e.f3.f0, .int .i64 e.f3.f1] 54);have Kh := aa.mk (HS.out.below EB.1);have WT := aa.mk EB.2;obtain ⟨b12, aeg⟩ : ∃ b12, b12 = wr.heap.size := ⟨_, rfl⟩;rw [← aeg] at WT ⊢;clear aeg EB HS d0 d1 d2 d3 d4 Ul;generalize (wr.alloc (.cells #[.int .i64 e.f0, .slice A1 e.f1.length c1, .int .i64 e.f2, .int .i64 e.f3.f0, .int .i64 e.f3.f1] 54)) = wA at *;obtain ⟨g20, g21, _, _⟩ := ng Kh.out.hV e.f0 he0 (by show e.f0 < (n : Int); exact he1);rw [HY.out] at g20 g21;have Nz : wA.cell? ⟨b12, 0, none⟩ = some (.int .i64 e.f0) := (by rw [ae WT.out 0]; rfl);go_upto_region 23 with (fail)
       have EB := eX wA (.cells #[.int .i64 y.f0, .int .i64 y.f1] 34);have HSB := aa.mk (Kh.out.below EB.1);have aeh := aa.mk (aC WT.out EB.1);have aa7 := aa.mk EB.2;obtain ⟨b13, Un⟩ : ∃ b13, b13 = wA.heap.size := ⟨_, rfl⟩;rw [← Un] at aa7 ⊢;clear Un EB Kh WT Nz g20 g21;generalize (wA.alloc (.cells #[.int .i64 y.f0, .int .i64 y.f1] 34)) = wD at *;have hd := dM (Below.refl wD.heap.size wD);have R3 := aa.mk (HSB.out.below hd);have Y1 := aa.mk (aC aeh.out hd);have Y2 := aa.mk (aC aa7.out hd);have Kj : wD.drew.cell? ⟨b13, 0, none⟩ = some (.int .i64 y.f0) := (by rw [ae Y2.out 0]; rfl);clear hd HSB aeh aa7;by_cases hyf : y.f0 < 1099511627776
       ·have WU : wD.drew.cell? ⟨b13, 1, none⟩ = some (.int .i64 y.f1) := (by rw [ae Y2.out 1]; rfl);have Nz : wD.drew.cell? ⟨b12, 0, none⟩ = some (.int .i64 e.f0) := (by rw [ae Y1.out 0]; rfl);have WV : wD.drew.cell? ⟨b12, 1, none⟩ = some (.slice A1 e.f1.length c1) := (by rw [ae Y1.out 1]; rfl);have h122 : wD.drew.cell? ⟨b12, 2, none⟩ = some (.int .i64 e.f2) := (by rw [ae Y1.out 2]; rfl);have WW : wD.drew.cell? ⟨b12, 3, none⟩ = some (.int .i64 e.f3.f0) := (by rw [ae Y1.out 3]; rfl);have WX : wD.drew.cell? ⟨b12, 4, none⟩ = some (.int .i64 e.f3.f1) := (by rw [ae Y1.out 4]; rfl);obtain ⟨hvn, hcv, TE⟩ := Kd.dD R3.out.hV;have UW := aa.mk TE;have Gy := aa.mk (Kd.bF EY.out R3.out.hB);clear TE hvn EY;refine fu (n := 13) (S := fun w' => w'.cell? ⟨b13, 0, none⟩ = some (.int .i64 y.f0) ∧ w'.cell? ⟨b13, 1, none⟩ = some (.int .i64 y.f1) ∧ w'.cell? ⟨b12, 0, none⟩ = some (.int .i64 e.f0) ∧ w'.cell? ⟨b12, 1, none⟩ = some (.slice A1 e.f1.length c1) ∧ w'.cell? ⟨b12, 2, none⟩ = some (.int .i64 e.f2) ∧ w'.cell? ⟨b12, 3, none⟩ = some (.int .i64 e.f3.f0) ∧ w'.cell? ⟨b12, 4, none⟩ = some (.int .i64 e.f3.f1)) (ds := []) #[false, false, false, false, false, false, false, false, false, false, false, false, false] (by kernel_rfl) rfl rfl ⟨Kj, WU, Nz, WV, h122, WW, WX⟩ (fun hHeld => ?_);refine dw Dc.YS Dc.Uk (fun dA ji => ?_);refine fG (fuel := 4) [(0, 82), (1, 83), (2, 84), (3, 85), (4, 86), (5, 87), (6, 88), (7, 89), (10, 92)] #[true, true, true, true, true, true, true, true, false, false, true, false, false] (df dA.out ji.out _ _ _ (by kernel_rfl)) rfl (fun _ _ _ _ _ h => h) hHeld (a' := ?_) ?_ ?_;rotate_left
        ·iterate 9
          refine bC (v := ?_) (a1 := ?_) rfl rfl (Or.inl ⟨by rfl, ?_⟩) ?_ ?_;rotate_left 2
          ·rintro w' ⟨s0, s1, s2, s3, s4, s5, s6⟩
           (go_simp; try rw [E8])
           try with_reducible rfl
          ·simp only [Act.put, List.setIfInBounds_toArray, List.set_cons_zero, List.set_cons_succ, bH, bI];rfl
         exact chain_nil
        refine fT (i := 8) (N := some 90) #[true, true, true, true, true, true, true, true, true, false, true, false, false] rfl rfl (dn dA.out (by kernel_rfl)) (by decide) (fun K hK => ?_);have ct := bK.calls (e.f1.length + 1) e.f0 A1 c1 e.f1 e.f2 e.f3.f0 e.f3.f1 (some ⟨gv, 0, none⟩) cv vs (tailV vs e.f1) wD.drew Gy.out hc1 UW.out (by rw [hvl]; exact hcv) (yt vs e HTR.out hle);rw [hvl] at ct;refine call_ 63 #[.agg #[.int .i64 e.f0, .slice A1 e.f1.length c1, .int .i64 e.f2, .int .i64 e.f3.f0, .int .i64 e.f3.f1], .slice (some ⟨gv, 0, none⟩) n cv] (by rfl) rfl ?_ ?_
        ·have zQ := kJ Try.func63 (by kernel_rfl) rfl #[.agg #[.int .i64 e.f0, .slice A1 e.f1.length c1, .int .i64 e.f2, .int .i64 e.f3.f0, .int .i64 e.f3.f1], .slice (some ⟨gv, 0, none⟩) n cv] wD.drew;unfold execOp;simp [resolve, Deferred.ofValue, invoke, Act.eval, zQ]
        refine (ct).mono ?_;rintro x5 w5 ⟨v5, rfl, hR5, Db⟩;obtain ⟨A5, c5, rfl, hl5, YW⟩ := Kd.oK hR5;have Um := aa.mk YW;have vY := aa.mk Db;clear hR5 YW Db;refine ⟨_, rfl, ?_⟩;refine hK.out _ _ ⟨ah vY.out Kj, ah vY.out WU, ah vY.out Nz, ah vY.out WV, ah vY.out h122, ah vY.out WW, ah vY.out WX⟩ (fun hHeld => ?_);clear hK K;refine bS (a' := ?_) ?_ ?_;rotate_left
        ·show Act.put _ (some 90) _ = _;simp only [Act.put, List.setIfInBounds_toArray, List.set_cons_zero, List.set_cons_succ, bH, bI];rfl
        refine fT (i := 9) (N := some 91) #[true, true, true, true, true, true, true, true, true, true, true, false, false] rfl rfl (dn dA.out (by kernel_rfl)) (by decide) (fun K hK => ?_);refine call_ 62 #[.int .i64 e.f2, .slice A5 (tailV vs e.f1).length c5] (by rfl) rfl ?_ ?_
        ·have zQ := kJ Try.func62 (by kernel_rfl) rfl #[.int .i64 e.f2, .slice A5 (tailV vs e.f1).length c5] w5;unfold execOp;simp [resolve, Deferred.ofValue, invoke, Act.eval, zQ]
        refine (bz.calls ((tailV vs e.f1).length + 1) e.f2 A5 c5 (tailV vs e.f1) (gD e.f2 (tailV vs e.f1)).f0 (gD e.f2 (tailV vs e.f1)).f1 w5 Um.out hl5 (mh e.f2 (tailV vs e.f1) (by rw [eY]; exact hle) hc0 Yr HTO.out)).mono ?_;rintro x6 w6 ⟨rfl, YT⟩;have Gp := aa.mk (aM vY.out YT);rw [show gD e.f2 (tailV vs e.f1) = V from HV.out];clear YT;refine ⟨_, rfl, ?_⟩;refine hK.out _ _ ⟨ah Gp.out Kj, ah Gp.out WU, ah Gp.out Nz, ah Gp.out WV, ah Gp.out h122, ah Gp.out WW, ah Gp.out WX⟩ (fun hHeld => ?_);clear hK K;refine bS (a' := ?_) ?_ ?_;rotate_left
        ·show Act.put _ (some 91) _ = _;simp only [Act.put, List.setIfInBounds_toArray, List.set_cons_zero, List.set_cons_succ, bH, bI];rfl
        refine fG (fuel := 0) [(11, 93), (12, 94)] #[true, true, true, true, true, true, true, true, true, true, true, true, true] (df dA.out ji.out _ _ _ (by kernel_rfl)) rfl (fun _ _ _ _ _ h => h) hHeld (a' := ?_) ?_ ?_;rotate_left
        ·iterate 2
          refine bC (v := ?_) (a1 := ?_) rfl rfl (Or.inl ⟨by rfl, ?_⟩) ?_ ?_;rotate_left 2
          ·rintro w' ⟨s0, s1, s2, s3, s4, s5, s6⟩
           (go_simp; try rw [E8])
           try with_reducible rfl
          ·simp only [Act.put, List.setIfInBounds_toArray, List.set_cons_zero, List.set_cons_succ, bH, bI];rfl
         exact chain_nil
        refine gH (dV dA.out (by kernel_rfl)) ?_;clear Kj WU Nz WV h122 WW WX hHeld;have Mi := aa.mk (R3.out.below Gp.out);have ai0 := aa.mk (aC Y1.out Gp.out);obtain ⟨bq, hbq⟩ : ∃ bq, eqV V y = bq := ⟨_, rfl⟩;rw [hbq];have HBQ := aa.mk hbq;clear hbq R3 Y1 Y2 Gp vY
        cases bq with
        | false =>
         go_wp2_with fail
         go_roundg (j + 1)
         case measure => have := hg.out; omega
         case rel => exact ⟨j, ed, by go_num, ⟨by omega⟩, ⟨by omega⟩, ⟨YV.out (fun h => by have h2 := (HTI.out.1 h).2; rw [(E5 V y).2 h2] at HBQ; exact absurd HBQ.out (by decide))⟩, Mi⟩
        | true =>
         have Nz : w6.cell? ⟨b12, 0, none⟩ = some (.int .i64 e.f0) := (by rw [ae ai0.out 0]; rfl);obtain ⟨g5, g5f⟩ := jk Mi.out.hE 0 e.f0 he0 (by show e.f0 < (n : Int); exact he1);have hpe := Kd.zG Mi.out.hE e.f0 (j : Int);have HS8 := aa.mk (Mi.out.TD hpe.1 hpe.2);clear hpe;go_wp2_with fail
         go_roundg (j + 1)
         case measure => have := hg.out; omega
         case rel => exact ⟨j, ed.set e.f0.toNat (j : Int), by go_num, ⟨by omega⟩, ⟨by omega⟩, ⟨HST.out (HTI.out.2 ⟨hyf, (E5 V y).1 HBQ.out⟩)⟩, HS8⟩
       ·clear Y1 Y2;refine fu (n := 13) (S := fun w' => w'.cell? ⟨b13, 0, none⟩ = some (.int .i64 y.f0)) (ds := []) #[false, false, false, false, false, false, false, false, false, false, false, false, false] (by kernel_rfl) rfl rfl Kj (fun hHeld => ?_);refine dw Dc.YS Dc.Uk (fun dA ji => ?_);refine fG (fuel := 0) [(0, 82), (1, 83), (2, 84), (3, 85), (4, 86), (5, 87), (6, 88), (7, 89), (8, 90), (9, 91), (10, 92), (11, 93), (12, 94)] #[true, true, true, true, true, true, true, true, true, true, true, true, true] (df dA.out ji.out _ _ _ (by kernel_rfl)) rfl (fun _ _ _ _ _ h => h) hHeld (a' := ?_) ?_ ?_;rotate_left
        ·iterate 4
          refine bC (v := ?_) (a1 := ?_) rfl rfl (Or.inl ⟨by rfl, ?_⟩) ?_ ?_;rotate_left 2
          ·intro w' s0;go_simp;with_reducible rfl
          ·simp only [Act.put, List.setIfInBounds_toArray, List.set_cons_zero, List.set_cons_succ, bH, bI];rfl
         iterate 8
          refine jQ (a1 := ?_) rfl rfl (by rfl) ?_ ?_;rotate_left
          ·simp only [Act.put, List.setIfInBounds_toArray, List.set_cons_zero, List.set_cons_succ];rfl
         iterate 1
          refine bC (v := ?_) (a1 := ?_) rfl rfl (Or.inl ⟨by rfl, ?_⟩) ?_ ?_;rotate_left 2
          ·intro w' s0;go_simp;with_reducible rfl
          ·simp only [Act.put, List.setIfInBounds_toArray, List.set_cons_zero, List.set_cons_succ, bH, bI];rfl
         exact chain_nil
        refine gH (dV dA.out (by kernel_rfl)) ?_;clear Kj hHeld;go_wp2_with fail
        go_roundg (j + 1)
        case measure => have := hg.out; omega
        case rel => exact ⟨j, ed, by go_num, ⟨by omega⟩, ⟨by omega⟩, ⟨YV.out (fun h => by have h2 := (HTI.out.1 h).1; omega)⟩, R3⟩
def GA (n : Int) (es : List dO) : Bool := (decide (0 ≤ n) && (decide (n ≤ 1000) && (decide (es.length ≤ 1000) && es.all (fun e => (decide (0 ≤ e.f0) && decide (e.f0 < n)) && (e.f1.all (fun t => decide (0 ≤ t) && decide (t < n)) && decide (e.f1.length ≤ 100)))))) && es.all (fun e => decide (0 ≤ e.f2) && decide (e.f2 ≤ 1099511627776))
def eQ.f (n : Int) (es : List dO) : Option (List dK × List Int) := if GA n es = true then some (jy n.toNat es, xL n.toNat es) else none
theorem IV (n : Int) (es : List dO) : GA n es = true ↔ (0 ≤ n ∧ n ≤ 1000 ∧ es.length ≤ 1000 ∧ ∀ e, e ∈ es → (0 ≤ e.f0 ∧ e.f0 < n) ∧ (∀ t, t ∈ e.f1 → 0 ≤ t ∧ t < n) ∧ e.f1.length ≤ 100) ∧ ∀ e, e ∈ es → 0 ≤ e.f2 ∧ e.f2 ≤ 1099511627776 := by
 simp only [GA, Bool.and_eq_true, decide_eq_true_eq, List.all_eq_true]
theorem eQ.calls (n : Int) (A : Option Addr) (c : Nat) (es : List dO) (r1 : List dK) (r2 : List Int) (w : World) (hC : Kd.C sJ w A es.length es) (hc : es.length ≤ c) (h : eQ.f n es = some (r1, r2)) :
  Calls Try.prog 38 #[.agg #[.int .i64 n, .slice A es.length c]] w fun e w' => ∃ Pk EF, e = .returned (.tuple #[Pk, EF]) ∧ Kd.R xA 34 w' w.heap.size (fun _ => True) Pk r1 ∧ Kd.R (Kd.int .i64) 3 w' w.heap.size (fun _ => True) EF r2 ∧ Below w.heap.size w w' := by
 unfold eQ.f at h;split at h
 case isFalse => cases h
 rename_i hok
 injection h with h
 injection h with h1 h2
 subst h1 h2;obtain ⟨⟨h0, h1, h2, h3⟩, h4⟩ := (IV n es).1 hok;obtain ⟨m, rfl⟩ : ∃ m : Nat, n = (m : Int) := ⟨n.toNat, by omega⟩;rw [Int.toNat_natCast];exact Rp m A c es w hC (by omega) h2 (fun e he => ⟨(h3 e he).1, (h3 e he).2.1, by have := (h3 e he).2.2; omega⟩) h4 (fun e he => (h3 e he).2.2)
end Go.Proofs.Ytamimodkcbbpmaa.Pr
end
section
namespace Go.Proofs.Ytamimodkcbbpmaa.Pr
open Go.RowKit Go.Proofs.YtamimodkcbbpmaaW.PrintWords Go.Proofs.YtamimodkcbbpmaaW.PrintLast Go.Proofs.YtamimodkcbbpmaaW.PrintMore Go.Proofs.YtamimodkcbbpmaaXW
attribute [local go_sem] kv ky lX lY jf jg kz kC
set_option linter.unusedVariables false
set_option linter.unusedSimpArgs false
mutual
def aU.j0 : Nat → Int → List (dO) → Option (Bool)
 | 0, _, _ => none
 | k + 1, WY, WZ => (eQ.f WY WZ).bind fun aei => (aU.l0 k aei.1 0)
def aU.l0 : Nat → List (dK) → Int → Option (Bool)
 | 0, _, _ => none
 | k + 1, x3, x5 => if x5 < (x3.length : Int) then (if 0 ≤ x5 then (if ((bJ x3 x5).f1) > 1000 then (some false) else (aU.l0 k x3 (wrap64 (x5 + 1)))) else (none)) else (some true)
end
def aU.f (k : Nat) (aR : Int) (aH : List (dO)) : Option (Bool) := (aQ.f k aR aH).bind fun t229 => (if t229 = true then (aU.j0 k aR aH) else (some false))
theorem aU.eD : ∀ k, (∀ y0 y1, dz (aU.j0 k y0 y1) (aU.j0 (k + 1) y0 y1)) ∧ (∀ y0 y1, dz (aU.l0 k y0 y1) (aU.l0 (k + 1) y0 y1))
 | 0 => ⟨fun _ _ r h => by simp [aU.j0] at h, fun _ _ r h => by simp [aU.l0] at h⟩
 | k + 1 => by
  obtain ⟨jP, ih1⟩ := aU.eD k;refine ⟨?_, ?_⟩;all_goals intros
  all_goals first | unfold aU.j0 | unfold aU.l0
  all_goals
   repeat' first
   | (with_reducible exact jP _ _)
   | (with_reducible exact ih1 _ _)
   | (with_reducible exact aQ.mono _ _ _)
   | (with_reducible exact dz.refl _)
   | (with_reducible exact dz.none _)
   | (with_reducible refine dz.ite ?_ ?_)
   | (with_reducible refine dz.bind ?_ (fun _ => ?_))
   | exact jP _ _
   | exact ih1 _ _
   | exact aQ.mono _ _ _
   | exact dz.none _
   | refine dz.ite ?_ ?_
   | refine dz.bind ?_ (fun _ => ?_)
theorem aU.mono : ∀ a0 a1 k, dz (aU.f k a0 a1) (aU.f (k + 1) a0 a1) := by
 intro a0 a1 k;obtain ⟨jP, ih1⟩ := aU.eD k;unfold aU.f;repeat' first
   | (with_reducible exact jP _ _)
   | (with_reducible exact ih1 _ _)
   | (with_reducible exact aQ.mono _ _ _)
   | (with_reducible exact dz.refl _)
   | (with_reducible exact dz.none _)
   | (with_reducible refine dz.ite ?_ ?_)
   | (with_reducible refine dz.bind ?_ (fun _ => ?_))
   | exact jP _ _
   | exact ih1 _ _
   | exact aQ.mono _ _ _
   | exact dz.none _
   | refine dz.ite ?_ ?_
   | refine dz.bind ?_ (fun _ => ?_)
set_option maxHeartbeats 8000000 in
set_option maxRecDepth 100000 in
theorem aU.calls (k : Nat) (aR : Int) (bW : Option Addr) (bN : Nat) (aH : List (dO)) (r : Bool) (w : World) (fw : Kd.C sJ w bW aH.length aH) (fC : aH.length ≤ bN) (h : aU.f k aR aH = some r) :
  Calls Try.prog 35 #[.agg #[.int .i64 aR, .slice bW aH.length bN]] w fun e w' => e = .returned (.bool r) ∧ Below w.heap.size w w' := by
 have ES := Try.underlying24;have eP := aa.mk fw;have fP := aa.mk fC;clear fw fC;have HB := aa.mk (Below.refl w.heap.size w);have H : ((aQ.f k aR aH).bind fun t229 => (if t229 = true then (aU.j0 k aR aH) else (some false))) = some r := h;clear h;replace H := Option.bind_eq_some_iff.mp H;obtain ⟨t229, A20, H⟩ := H;replace H : (if t229 = true then (aU.j0 k aR aH) else (some false)) = some r := H;have A2 := aa.mk A20;clear A20;have Uo := aa.mk H;clear H;go_enter Try.func35, Try.ntmps35
 go_upto_if 8 with (first | ((with_reducible refine bM (N := 1) rfl ?_); refine bG ?hg (N := 1) ?hd (cs := #[.int .i64 aR, .slice bW aH.length bN]) (t := 24) ?hr ?_; (case hd => rfl); (case hg => rfl); (case hr => first | (go_simp; done) | (go_simp; rfl)); intro EG hg w4 bR hb; have bP := aa.mk (aM (bO HB) hb); have bQ := aa.mk (bR); have bT := aa.mk ((by rw [hg]; exact (aK (bO HB)) : w.heap.size ≤ EG)); have di := aa.mk ((by rw [hg]; exact (aK (bO HB)) : w.heap.size ≤ EG)); clear HB; have HB := bP; have nY := bQ; have amg := bT; have amh := di; clear bP bQ bT di; clear hb bR hg; have nU : w4.cell? ⟨EG, 0, none⟩ = some (.int .i64 aR) := (ae nY.out 0).trans rfl; have nV : w4.cell? ⟨EG, 1, none⟩ = some (.slice bW aH.length bN) := (ae nY.out 1).trans rfl; have nW := ai nY.out 0; have nX := ai nY.out 1) | ((with_reducible refine dE (f := 77) rfl ?_); refine iB (some 7) rfl rfl Try.func77 (by kernel_rfl) rfl #[.agg #[.int .i64 aR, .slice bW aH.length bN]] rfl (by (try simp only [List.map_toArray, List.map_cons, List.map_nil]); first | done | rfl | (simp only [List.length_drop, List.length_take]; rfl)) ?_; (with_reducible refine (aQ.calls k aR _ _ aH t229 _ ?side1 ?side2 A2.out).mono ?_); (case side1 => repeat (first | exact (Kd.bF eP.out HB.out) | (with_reducible refine Kd.dF ?_ _) | (with_reducible refine Kd.dG ?_ _) | (with_reducible refine Kd.eG ?_))); (case side2 => exact fP.out); rintro e w6 ⟨rfl, hb⟩; refine ⟨_, rfl, ?_⟩; have bP := aa.mk (aC (bk nY) hb); have bQ := aa.mk (aM (bO HB) hb); clear nY; clear HB; have nY := bP; have HB := bQ; clear bP bQ; (try clear hb); (try clear hb2); (try clear hk); (try clear hi)))
 (try simp only [Act.put, List.setIfInBounds_toArray, List.set_cons_zero, List.set_cons_succ]);go_cut [] (fun wc => ∃ (kq : Nat), aa (aU.j0 kq aR aH = some r) ∧ aa (kq ≤ k) ∧ aa (wc.heap[EG]? = some (.cells #[.int .i64 aR, (.slice bW aH.length bN)] 24 (0, 0))) ∧ aa (Below w.heap.size w wc))
 case first =>
  have H := Uo.out;clear Uo;by_cases c7 : t229 = true
  ·subst c7;have H1 : (aU.j0 k aR aH) = some r := by rw [if_pos rfl] at H; exact H
   clear H;have H := H1;clear H1;have H' := aa.mk H;clear H;go_wp2;go_meet
   case rel => exact ⟨_, H', ⟨by first | omega | exact Nat.le_refl _⟩, ⟨by (with_reducible repeat (first | refine ax ?_ _ | refine az ?_ | refine au ?_ _)); exact nY.out⟩, ⟨bO HB⟩⟩
  ·replace c7 := Bool.eq_false_iff.mpr c7;subst c7;have H1 : (some false) = some r := by rw [if_neg (show ¬ (false = true) by decide)] at H; exact H
   clear H;have H := H1;clear H1;obtain rfl := Option.some.inj H;go_wp2;go_ret;exact ⟨by first | rfl | (simp [aW, aX] <;> rfl) | (simp [*, aW, aX] <;> rfl), bO HB⟩
 case rest =>
  clear Uo;(try clear p2); (try clear c3); (try clear c7); (try clear nU); (try clear nV); (try clear nW); (try clear nX);obtain ⟨kq, HA, HJ2, nY, HB⟩ := hcut
  cases kq with
  | zero => exact absurd HA.out (by simp [aU.j0])
  | succ kj2 =>
   have H := HA.out;clear HA;simp only [aU.j0] at H;replace H := Option.bind_eq_some_iff.mp H;obtain ⟨⟨EW, t233⟩, A80, H⟩ := H;replace H : (aU.l0 kj2 EW 0) = some r := H;have A8 := aa.mk A80;clear A80;have H' := aa.mk H;clear H;have nP : wc.cell? ⟨EG, 0, none⟩ = some (.int .i64 aR) := (ae nY.out 0).trans rfl;have nQ : wc.cell? ⟨EG, 1, none⟩ = some (.slice bW aH.length bN) := (ae nY.out 1).trans rfl;have nR := ai nY.out 0;have nS := ai nY.out 1;go_wp2_with (first | ((with_reducible refine dE (f := 38) rfl ?_); refine iB (some 11) rfl rfl Try.func38 (by kernel_rfl) rfl #[.agg #[.int .i64 aR, .slice bW aH.length bN]] rfl (by (try simp only [List.map_toArray, List.map_cons, List.map_nil]); first | done | rfl | (simp only [List.length_drop, List.length_take]; rfl)) ?_; (with_reducible refine (eQ.calls aR _ _ aH EW t233 _ ?side1 ?side2 A8.out).mono ?_); (case side1 => repeat (first | exact (Kd.bF eP.out HB.out) | (with_reducible refine Kd.dF ?_ _) | (with_reducible refine Kd.dG ?_ _) | (with_reducible refine Kd.eG ?_))); (case side2 => exact fP.out); rintro e Io ⟨ai1, v234, rfl, ho0, ho1, hb⟩; refine ⟨_, rfl, ?_⟩; have bP := aa.mk (Kd.iL ho0 (aK (bO HB))); have bQ := aa.mk (Kd.iL ho1 (aK (bO HB))); have bT := aa.mk (aC (bk nY) hb); have di := aa.mk (aM (bO HB) hb); clear nY; clear HB; have aej := bP; have amj := bQ; have nY := bT; have HB := di; clear bP bQ bT di; (try clear hb); (try clear hb2); (try clear hk); (try clear hi); (try clear ho0); (try clear ho1)))
   go_loopg [5] kj2 (fun kq v5 w' => ∃ (xM : Int), v5 = .int .i64 xM ∧ aa (aU.l0 kq EW xM = some r) ∧ aa (kq ≤ kj2) ∧ aa (Kd.R xA 34 w' w.heap.size (fun _ => True) ai1 EW) ∧ aa (w'.heap[EG]? = some (.cells #[.int .i64 aR, (.slice bW aH.length bN)] 24 (0, 0))) ∧ aa (Below w.heap.size w w'))
   case atStart => exact ⟨(0), (by first | rfl | (simp; done) | (simp [*]; done)), H', ⟨Nat.le_refl _⟩, ⟨by (with_reducible repeat (first | apply Kd.ek | apply Kd.eu | apply Kd.aaH)); exact aej.out⟩, ⟨by (with_reducible repeat (first | refine ax ?_ _ | refine az ?_ | refine au ?_ _)); exact nY.out⟩, ⟨bO HB⟩⟩
   case round =>
    clear H';(try clear p2); (try clear c3); (try clear c7); (try clear nU); (try clear nV); (try clear nP); (try clear nQ); (try clear nW); (try clear nX); (try clear nR); (try clear nS); (try clear p2);obtain ⟨xM, rfl, HA, Rq, Rs, nY, HB⟩ := hrel
    cases gk with
    | zero => exact absurd HA.out (by simp [aU.l0])
    | succ k2 =>
     have H := HA.out;clear HA;simp only [aU.l0] at H;by_cases c11 : xM < (EW.length : Int)
     ·rw [if_pos c11] at H;have om : decide (xM < (EW.length : Int)) = true := decide_eq_true c11;clear c11;by_cases c12 : 0 ≤ xM
      ·rw [if_pos c12] at H;have Lg : decide (0 ≤ xM) = true := decide_eq_true c12;clear c12;by_cases c13 : ((bJ EW xM).f1) > 1000
       ·rw [if_pos c13] at H;have uU : decide (1000 < ((bJ EW xM).f1)) = true := decide_eq_true c13;clear c13;obtain rfl := Option.some.inj H;obtain ⟨apb, apc, ai2⟩ := Kd.fQ Rs.out;subst ai2;have NA : 0 ≤ (xM : Int) := of_decide_eq_true (by first | (with_reducible assumption) | assumption);have NB : xM < (EW.length : Int) := of_decide_eq_true (by first | (with_reducible assumption) | assumption);obtain ⟨aek, aa8, W9, Xa⟩ := p9 (Kd.dD Rs.out).2.2 xM NA NB
        cases aa8;replace NA := eq_true NA;replace NB := eq_true NB;go_wp2;go_ret;exact ⟨by first | rfl | (simp [aW, aX] <;> rfl) | (simp [*, aW, aX] <;> rfl), bO HB⟩
       ·rw [if_neg c13] at H;have uU : decide (1000 < ((bJ EW xM).f1)) = false := decide_eq_false c13;clear c13;have H' := aa.mk H;clear H;obtain ⟨apd, ape, ai3⟩ := Kd.fQ Rs.out;subst ai3;have NA : 0 ≤ (xM : Int) := of_decide_eq_true (by first | (with_reducible assumption) | assumption);have NB : xM < (EW.length : Int) := of_decide_eq_true (by first | (with_reducible assumption) | assumption);obtain ⟨aek, aa8, W9, Xa⟩ := p9 (Kd.dD Rs.out).2.2 xM NA NB
        cases aa8;replace NA := eq_true NA;replace NB := eq_true NB;go_wp2;go_roundg k2
        case measure => have := HJ2.out; have := Rq.out; omega
        case rel => exact ⟨(wrap64 (xM + 1)), (by first | rfl | (simp; done) | (simp [*]; done)), H', ⟨by have := HJ2.out; have := Rq.out; omega⟩, ⟨by (with_reducible repeat (first | apply Kd.ek | apply Kd.eu | apply Kd.aaH)); exact Rs.out⟩, ⟨by (with_reducible repeat (first | refine ax ?_ _ | refine az ?_ | refine au ?_ _)); exact nY.out⟩, ⟨bO HB⟩⟩
      ·rw [if_neg c12] at H;exact absurd H (by simp)
     ·rw [if_neg c11] at H;have om : decide (xM < (EW.length : Int)) = false := decide_eq_false c11;clear c11;obtain rfl := Option.some.inj H;obtain ⟨apf, apg, ai4⟩ := Kd.fQ Rs.out;subst ai4;go_wp2;go_ret;exact ⟨by first | rfl | (simp [aW, aX] <;> rfl) | (simp [*, aW, aX] <;> rfl), bO HB⟩
mutual
def aY.l0 : Nat → Int → Int → Int → List (dU) → Option (Int)
 | 0, _, _, _, _ => none
 | k + 1, x3, x4, WJ, Fq => if x4 < (Fq.length : Int) then (if 0 ≤ x4 then ((aY.f k ((bn Fq x4).f0) ((bn Fq x4).f1)).bind fun Ui => (aY.l0 k (wrap64 (x3 + Ui)) (wrap64 (x4 + 1)) WJ Fq)) else (none)) else (some x3)
def aY.f : Nat → Int → List (dU) → Option (Int)
 | 0, _, _ => none
 | k + 1, aR, aH => aY.l0 k 1 0 aR aH
end
theorem aY.eD : ∀ k, (∀ y0 y1, dz (aY.f k y0 y1) (aY.f (k + 1) y0 y1)) ∧ (∀ y0 y1 y2 y3, dz (aY.l0 k y0 y1 y2 y3) (aY.l0 (k + 1) y0 y1 y2 y3))
 | 0 => ⟨fun _ _ r h => by simp [aY.f] at h, fun _ _ _ _ r h => by simp [aY.l0] at h⟩
 | k + 1 => by
  obtain ⟨jP, ih1⟩ := aY.eD k;refine ⟨?_, ?_⟩;all_goals intros
  all_goals first | unfold aY.f | unfold aY.l0
  all_goals
   repeat' first
   | (with_reducible exact jP _ _)
   | (with_reducible exact ih1 _ _ _ _)
   | (with_reducible exact dz.refl _)
   | (with_reducible exact dz.none _)
   | (with_reducible refine dz.ite ?_ ?_)
   | (with_reducible refine dz.bind ?_ (fun _ => ?_))
   | exact jP _ _
   | exact ih1 _ _ _ _
   | exact dz.none _
   | refine dz.ite ?_ ?_
   | refine dz.bind ?_ (fun _ => ?_)
theorem aY.mono : ∀ a0 a1 k, dz (aY.f k a0 a1) (aY.f (k + 1) a0 a1) := by
 intro a0 a1 k;obtain ⟨jP, ih1⟩ := aY.eD k;exact jP a0 a1
set_option maxHeartbeats 8000000 in
set_option maxRecDepth 100000 in
theorem aY.calls (k : Nat) : ∀ (aR : Int) (bW : Option Addr) (bN : Nat) (aH : List (dU)) (r : Int) (w : World) (fw : Kd.C k27 w bW aH.length aH) (fC : aH.length ≤ bN) (h : aY.f k aR aH = some r),
  Calls Try.prog 45 #[.agg #[.int .i64 aR, .slice bW aH.length bN]] w fun e w' => e = .returned (.int .i64 r) ∧ Below w.heap.size w w' := by
 induction k using Nat.strongRecOn with
 | _ k ih =>
 intro aR bW bN aH r w fw fC h
 cases k with
 | zero => exact absurd h (by simp [aY.f])
 | succ k =>
 simp only [aY.f] at h;have Hm := Try.underlying27;have eP := aa.mk fw;have fP := aa.mk fC;clear fw fC;have HB := aa.mk (Below.refl w.heap.size w);have H : (aY.l0 k 1 0 aR aH) = some r := h;clear h;have H' := aa.mk H;clear H;go_enter Try.func45, Try.ntmps45
 go_wp2_with (first | ((with_reducible refine bM (N := 1) rfl ?_); refine bG ?hg (N := 1) ?hd (cs := #[.int .i64 aR, .slice bW aH.length bN]) (t := 27) ?hr ?_; (case hd => rfl); (case hg => rfl); (case hr => first | (go_simp; done) | (go_simp; rfl)); intro Gw hg w2 bR hb; have bP := aa.mk (aM (bO HB) hb); have bQ := aa.mk (bR); have bT := aa.mk ((by rw [hg]; exact (aK (bO HB)) : w.heap.size ≤ Gw)); have di := aa.mk ((by rw [hg]; exact (aK (bO HB)) : w.heap.size ≤ Gw)); clear HB; have HB := bP; have tV := bQ; have al0 := bT; have al1 := di; clear bP bQ bT di; clear hb bR hg))
 go_loopg [3, 4] k (fun kq v3 v4 w' => ∃ (Uj : Int) (yB : Int), v3 = .int .i64 Uj ∧ v4 = .int .i64 yB ∧ aa (aY.l0 kq Uj yB aR aH = some r) ∧ aa (kq ≤ k) ∧ aa (w'.heap[Gw]? = some (.cells #[.int .i64 aR, (.slice bW aH.length bN)] 27 (0, 0))) ∧ aa (Below w.heap.size w w'))
 case atStart => exact ⟨(1), (0), (by first | rfl | (simp; done) | (simp [*]; done)), (by first | rfl | (simp; done) | (simp [*]; done)), H', ⟨Nat.le_refl _⟩, ⟨by (with_reducible repeat (first | refine ax ?_ _ | refine az ?_ | refine au ?_ _)); exact tV.out⟩, ⟨bO HB⟩⟩
 case round =>
  clear H';try clear p2
  obtain ⟨Uj, yB, rfl, rfl, HA, yf, tV, HB⟩ := hrel
  cases gk with
  | zero => exact absurd HA.out (by simp [aY.l0])
  | succ k1 =>
   have H := HA.out;clear HA;simp only [aY.l0] at H;by_cases c3 : yB < (aH.length : Int)
   ·rw [if_pos c3] at H;have Tn : decide (yB < (aH.length : Int)) = true := decide_eq_true c3;clear c3;by_cases c4 : 0 ≤ yB
    ·rw [if_pos c4] at H;have nu : decide (0 ≤ yB) = true := decide_eq_true c4;clear c4;replace H := Option.bind_eq_some_iff.mp H;obtain ⟨Ui, A50, H⟩ := H;replace H : (aY.l0 k1 (wrap64 (Uj + Ui)) (wrap64 (yB + 1)) aR aH) = some r := H;have A5 := aa.mk A50;clear A50;have H' := aa.mk H;clear H;have qa : wr.cell? ⟨Gw, 0, none⟩ = some (.int .i64 aR) := (ae tV.out 0).trans rfl;have qb : wr.cell? ⟨Gw, 1, none⟩ = some (.slice bW aH.length bN) := (ae tV.out 1).trans rfl;have qc := ai tV.out 0;have qd := ai tV.out 1;have aaU : 0 ≤ (yB : Int) := of_decide_eq_true (by first | (with_reducible assumption) | assumption);have aaV : yB < (aH.length : Int) := of_decide_eq_true (by first | (with_reducible assumption) | assumption);obtain ⟨al2, aaW, aaX, e238, PY, PZ, P5, P6⟩ := nE eP.out yB aaU aaV
     cases e238;replace PY := ah HB.out PY;replace PZ := ah HB.out PZ;have WK := aa.mk P6;have WL := aa.mk P5;clear P6 P5;replace aaU := eq_true aaU;replace aaV := eq_true aaV;go_wp2_with (first | ((with_reducible refine dE (f := 45) rfl ?_); refine iB (some 18) rfl rfl Try.func45 (by kernel_rfl) rfl #[.agg #[.int .i64 ((bn aH yB).f0), .slice aaW ((bn aH yB).f1).length aaX]] rfl (by (try simp only [List.map_toArray, List.map_cons, List.map_nil]); first | done | rfl | (simp only [List.length_drop, List.length_take]; rfl)) ?_; (with_reducible refine (ih k1 (by have := yf.out; omega) ((bn aH yB).f0) _ _ ((bn aH yB).f1) Ui _ ?side1 ?side2 A5.out).mono ?_); (case side1 => repeat (first | exact (Kd.bF WK.out HB.out) | (with_reducible refine Kd.dF ?_ _) | (with_reducible refine Kd.dG ?_ _) | (with_reducible refine Kd.eG ?_))); (case side2 => exact WL.out); rintro e w7 ⟨rfl, hb⟩; refine ⟨_, rfl, ?_⟩; have bP := aa.mk (aC (bk tV) hb); have bQ := aa.mk (aM (bO HB) hb); clear tV; clear HB; have tV := bP; have HB := bQ; clear bP bQ; (try clear hb); (try clear hb2); (try clear hk); (try clear hi)))
     go_roundg k1
     case measure => have := yf.out; omega
     case rel => exact ⟨(wrap64 (Uj + Ui)), (wrap64 (yB + 1)), (by first | rfl | (simp; done) | (simp [*]; done)), (by first | rfl | (simp; done) | (simp [*]; done)), H', ⟨by have := yf.out; omega⟩, ⟨by (with_reducible repeat (first | refine ax ?_ _ | refine az ?_ | refine au ?_ _)); exact tV.out⟩, ⟨bO HB⟩⟩
    ·rw [if_neg c4] at H;exact absurd H (by simp)
   ·rw [if_neg c3] at H;have Tn : decide (yB < (aH.length : Int)) = false := decide_eq_false c3;clear c3;obtain rfl := Option.some.inj H;have nG : wr.cell? ⟨Gw, 0, none⟩ = some (.int .i64 aR) := (ae tV.out 0).trans rfl;have nH : wr.cell? ⟨Gw, 1, none⟩ = some (.slice bW aH.length bN) := (ae tV.out 1).trans rfl;have nI := ai tV.out 0;have nJ := ai tV.out 1;go_wp2;go_ret;exact ⟨by first | rfl | (simp [aW, aX] <;> rfl) | (simp [*, aW, aX] <;> rfl), bO HB⟩
end Go.Proofs.Ytamimodkcbbpmaa.Pr
end
section
namespace Go.Proofs.Ytamimodkcbbpmaa.Pr
open Go.RowKit Go.Proofs.YtamimodkcbbpmaaW.PrintWords Go.Proofs.YtamimodkcbbpmaaW.PrintLast Go.Proofs.YtamimodkcbbpmaaXW
set_option linter.unusedVariables false
set_option linter.unusedSimpArgs false
def jE.f (k : Nat) (aR : Int) (aH : List (dO)) (vX : Int) (sM : Int) (DV : List (dU)) (Hr : Int) (DW : List (dU)) (Ht : Int) (DX : List (dU)) : Option (Bool) := (aU.f k aR aH).bind fun ai5 => (if ai5 = true then ((aY.f k sM DV).bind fun Kk => (if Kk ≤ 100 then ((aY.f k Hr DW).bind fun NC => (if NC ≤ 100 then ((aY.f k Ht DX).bind fun Uq => (some (decide (Uq ≤ 100)))) else (some false))) else (some false))) else (some false))
set_option maxRecDepth 100000 in
set_option maxHeartbeats 8000000 in
theorem jE.calls (k : Nat) (aR : Int) (bW : Option Addr) (bN : Nat) (aH : List (dO)) (vX : Int) (sM : Int) (Lr : Option Addr) (Ls : Nat) (DV : List (dU)) (Hr : Int) (Lt : Option Addr) (Lu : Nat) (DW : List (dU)) (Ht : Int) (Lv : Option Addr) (Lx : Nat) (DX : List (dU)) (r : Bool) (w : World) (fw : Kd.C sJ w bW aH.length aH) (fC : aH.length ≤ bN) (Y3 : Kd.C k27 w Lr DV.length DV) (ael : DV.length ≤ Ls) (Y4 : Kd.C k27 w Lt DW.length DW) (aem : DW.length ≤ Lu) (Y5 : Kd.C k27 w Lv DX.length DX) (aen : DX.length ≤ Lx) (h : jE.f k aR aH vX sM DV Hr DW Ht DX = some r) :
  Calls Try.prog 26 #[.agg #[.int .i64 aR, .slice bW aH.length bN, .int .i64 vX, .int .i64 sM, .slice Lr DV.length Ls, .int .i64 Hr, .slice Lt DW.length Lu, .int .i64 Ht, .slice Lv DX.length Lx]] w fun e w' => e = .returned (.bool r) ∧ Below w.heap.size w w' := by
 have EY := aa.mk fw;have IK := aa.mk Y3;have VT := aa.mk Y4;have Y6 := aa.mk Y5;unfold jE.f at h;obtain ⟨b, hS, h⟩ := Option.bind_eq_some_iff.1 h;have HS := aa.mk hS;have HH := aa.mk h;clear fw Y3 Y4 Y5 hS h;have LS : aa (∀ w', Below w.heap.size w w' → Calls Try.prog 35 #[.agg #[.int .i64 aR, .slice bW aH.length bN]] w' fun e w'' => e = .returned (.bool b) ∧ Below w'.heap.size w' w'') := ⟨fun w' h => aU.calls k aR bW bN aH b w' (Kd.bF EY.out h) fC HS.out⟩;go_enter Try.func26, Try.ntmps26
 go_upto_region 1 with (fail)
 have hal := eX w (.cells #[.int .i64 aR, .slice bW aH.length bN, .int .i64 vX, .int .i64 sM, .slice Lr DV.length Ls, .int .i64 Hr, .slice Lt DW.length Lu, .int .i64 Ht, .slice Lv DX.length Lx] 29);have Dt := aa.mk hal.1;have yf := aa.mk hal.2;obtain ⟨b1, hb1⟩ : ∃ b1, b1 = w.heap.size := ⟨_, rfl⟩;obtain ⟨w1, hw1⟩ : ∃ w1, w1 = w.alloc (.cells #[.int .i64 aR, .slice bW aH.length bN, .int .i64 vX, .int .i64 sM, .slice Lr DV.length Ls, .int .i64 Hr, .slice Lt DW.length Lu, .int .i64 Ht, .slice Lv DX.length Lx] 29) := ⟨_, rfl⟩;rw [← hw1] at Dt yf ⊢;rw [← hb1] at yf ⊢;clear hb1 hw1 hal;have Gy : aa (∀ w' : World, w'.heap[b1]? = some (.cells #[.int .i64 aR, .slice bW aH.length bN, .int .i64 vX, .int .i64 sM, .slice Lr DV.length Ls, .int .i64 Hr, .slice Lt DW.length Lu, .int .i64 Ht, .slice Lv DX.length Lx] 29 (0, 0)) → w'.cell? ⟨b1, 0, none⟩ = some (.int .i64 aR) ∧ w'.cell? ⟨b1, 1, none⟩ = some (.slice bW aH.length bN) ∧ w'.cell? ⟨b1, 2, none⟩ = some (.int .i64 vX) ∧ w'.cell? ⟨b1, 3, none⟩ = some (.int .i64 sM) ∧ w'.cell? ⟨b1, 4, none⟩ = some (.slice Lr DV.length Ls) ∧ w'.cell? ⟨b1, 5, none⟩ = some (.int .i64 Hr) ∧ w'.cell? ⟨b1, 6, none⟩ = some (.slice Lt DW.length Lu) ∧ w'.cell? ⟨b1, 7, none⟩ = some (.int .i64 Ht) ∧ w'.cell? ⟨b1, 8, none⟩ = some (.slice Lv DX.length Lx)) := ⟨fun w' h => ⟨by rw [ae h 0]; rfl, by rw [ae h 1]; rfl, by rw [ae h 2]; rfl, by rw [ae h 3]; rfl, by rw [ae h 4]; rfl, by rw [ae h 5]; rfl, by rw [ae h 6]; rfl, by rw [ae h 7]; rfl, by rw [ae h 8]; rfl⟩⟩;obtain ⟨c0, c1, c2, c3, c4, c5, c6, c7, c8⟩ := Gy.out w1 yf.out
 cases b with
 | false =>
  have h := HH.out;rw [if_neg (by decide)] at h;injection h with h
  subst h;clear HH;go_wp2_with (first | (go_at_call 35; (with_reducible refine (LS.out w1 Dt.out).mono ?_); rintro x w2 ⟨rfl, hB⟩; have Mf := aa.mk (aM Dt.out hB); have Rq := aa.mk (aC yf.out hB); clear hB c0 c1 c2 c3 c4 c5 c6 c7 c8; obtain ⟨c0, c1, c2, c3, c4, c5, c6, c7, c8⟩ := Gy.out w2 Rq.out))
  go_ret;exact ⟨rfl, Mf.out⟩
 | true =>
  have h := HH.out;rw [if_pos rfl] at h;obtain ⟨z1, hz1, h⟩ := Option.bind_eq_some_iff.1 h;have HZ1 := aa.mk hz1;have HH1 := aa.mk h;clear HH hz1 h;have LZ1 : aa (∀ w', Below w.heap.size w w' → Calls Try.prog 45 #[.agg #[.int .i64 sM, .slice Lr DV.length Ls]] w' fun e w'' => e = .returned (.int .i64 z1) ∧ Below w'.heap.size w' w'') := ⟨fun w' h => aY.calls k sM Lr Ls DV z1 w' (Kd.bF IK.out h) ael HZ1.out⟩;by_cases g1 : z1 ≤ 100
  ·have h := HH1.out;rw [if_pos g1] at h;obtain ⟨z2, hz2, h⟩ := Option.bind_eq_some_iff.1 h;have HZ2 := aa.mk hz2;have HH2 := aa.mk h;clear HH1 hz2 h;have LZ2 : aa (∀ w', Below w.heap.size w w' → Calls Try.prog 45 #[.agg #[.int .i64 Hr, .slice Lt DW.length Lu]] w' fun e w'' => e = .returned (.int .i64 z2) ∧ Below w'.heap.size w' w'') := ⟨fun w' h => aY.calls k Hr Lt Lu DW z2 w' (Kd.bF VT.out h) aem HZ2.out⟩;by_cases g2 : z2 ≤ 100
   ·have h := HH2.out;rw [if_pos g2] at h;obtain ⟨z3, hz3, h⟩ := Option.bind_eq_some_iff.1 h;have HZ3 := aa.mk hz3;injection h with h
    subst h;clear HH2 hz3;have LZ3 : aa (∀ w', Below w.heap.size w w' → Calls Try.prog 45 #[.agg #[.int .i64 Ht, .slice Lv DX.length Lx]] w' fun e w'' => e = .returned (.int .i64 z3) ∧ Below w'.heap.size w' w'') := ⟨fun w' h => aY.calls k Ht Lv Lx DX z3 w' (Kd.bF Y6.out h) aen HZ3.out⟩;go_wp2_with (first | (go_at_call 35; (with_reducible refine (LS.out w1 Dt.out).mono ?_); rintro x w2 ⟨rfl, hB⟩; have Mf := aa.mk (aM Dt.out hB); have Rq := aa.mk (aC yf.out hB); clear hB c0 c1 c2 c3 c4 c5 c6 c7 c8; obtain ⟨c0, c1, c2, c3, c4, c5, c6, c7, c8⟩ := Gy.out w2 Rq.out) | (go_at_call 45; (with_reducible refine (LZ1.out w2 Mf.out).mono ?_); rintro x w3 ⟨rfl, hB⟩; have BD := aa.mk (aM Mf.out hB); have xO := aa.mk (aC Rq.out hB); clear hB c0 c1 c2 c3 c4 c5 c6 c7 c8; obtain ⟨c0, c1, c2, c3, c4, c5, c6, c7, c8⟩ := Gy.out w3 xO.out) | (go_at_call 45; (with_reducible refine (LZ2.out w3 BD.out).mono ?_); rintro x w4 ⟨rfl, hB⟩; have HQ4 := aa.mk (aM BD.out hB); have HK4 := aa.mk (aC xO.out hB); clear hB c0 c1 c2 c3 c4 c5 c6 c7 c8; obtain ⟨c0, c1, c2, c3, c4, c5, c6, c7, c8⟩ := Gy.out w4 HK4.out) | (go_at_call 45; (with_reducible refine (LZ3.out w4 HQ4.out).mono ?_); rintro x w5 ⟨rfl, hB⟩; have HQ5 := aa.mk (aM HQ4.out hB); have HK5 := aa.mk (aC HK4.out hB); clear hB c0 c1 c2 c3 c4 c5 c6 c7 c8; obtain ⟨c0, c1, c2, c3, c4, c5, c6, c7, c8⟩ := Gy.out w5 HK5.out))
    go_ret;exact ⟨rfl, HQ5.out⟩
   ·have h := HH2.out;rw [if_neg g2] at h;injection h with h
    subst h;clear HH2;go_wp2_with (first | (go_at_call 35; (with_reducible refine (LS.out w1 Dt.out).mono ?_); rintro x w2 ⟨rfl, hB⟩; have Mf := aa.mk (aM Dt.out hB); have Rq := aa.mk (aC yf.out hB); clear hB c0 c1 c2 c3 c4 c5 c6 c7 c8; obtain ⟨c0, c1, c2, c3, c4, c5, c6, c7, c8⟩ := Gy.out w2 Rq.out) | (go_at_call 45; (with_reducible refine (LZ1.out w2 Mf.out).mono ?_); rintro x w3 ⟨rfl, hB⟩; have BD := aa.mk (aM Mf.out hB); have xO := aa.mk (aC Rq.out hB); clear hB c0 c1 c2 c3 c4 c5 c6 c7 c8; obtain ⟨c0, c1, c2, c3, c4, c5, c6, c7, c8⟩ := Gy.out w3 xO.out) | (go_at_call 45; (with_reducible refine (LZ2.out w3 BD.out).mono ?_); rintro x w4 ⟨rfl, hB⟩; have HQ4 := aa.mk (aM BD.out hB); have HK4 := aa.mk (aC xO.out hB); clear hB c0 c1 c2 c3 c4 c5 c6 c7 c8; obtain ⟨c0, c1, c2, c3, c4, c5, c6, c7, c8⟩ := Gy.out w4 HK4.out))
    go_ret;exact ⟨rfl, HQ4.out⟩
  ·have h := HH1.out;rw [if_neg g1] at h;injection h with h
   subst h;clear HH1;go_wp2_with (first | (go_at_call 35; (with_reducible refine (LS.out w1 Dt.out).mono ?_); rintro x w2 ⟨rfl, hB⟩; have Mf := aa.mk (aM Dt.out hB); have Rq := aa.mk (aC yf.out hB); clear hB c0 c1 c2 c3 c4 c5 c6 c7 c8; obtain ⟨c0, c1, c2, c3, c4, c5, c6, c7, c8⟩ := Gy.out w2 Rq.out) | (go_at_call 45; (with_reducible refine (LZ1.out w2 Mf.out).mono ?_); rintro x w3 ⟨rfl, hB⟩; have BD := aa.mk (aM Mf.out hB); have xO := aa.mk (aC Rq.out hB); clear hB c0 c1 c2 c3 c4 c5 c6 c7 c8; obtain ⟨c0, c1, c2, c3, c4, c5, c6, c7, c8⟩ := Gy.out w3 xO.out))
   go_ret;exact ⟨rfl, BD.out⟩
end Go.Proofs.Ytamimodkcbbpmaa.Pr
end
section
namespace Go.Proofs.Ytamimodkcbbpmaa.Pr
open Go.RowKit Go.Proofs.YtamimodkcbbpmaaW.PrintWords Go.Proofs.YtamimodkcbbpmaaW.PrintLast Go.Proofs.YtamimodkcbbpmaaW.PrintMore Go.Proofs.YtamimodkcbbpmaaXW
attribute [local go_sem] kv ky lX lY jf jg kz kC
set_option linter.unusedVariables false
set_option linter.unusedSimpArgs false
mutual
def aD.j0 : Nat → Bool → Int → List (dO) → Int → List (dU) → Option (Bool)
 | 0, _, _, _, _, _ => none
 | k + 1, x43, ze, qF, qG, tq => if x43 = true then (some false) else (aD.j1 k ze qF qG tq)
def aD.j1 : Nat → Int → List (dO) → Int → List (dU) → Option (Bool)
 | 0, _, _, _, _ => none
 | k + 1, ze, qF, qG, tq => aD.l0 k 0 ze qF qG tq
def aD.l0 : Nat → Int → Int → List (dO) → Int → List (dU) → Option (Bool)
 | 0, _, _, _, _, _ => none
 | k + 1, x7, ze, qF, qG, tq => if x7 < (tq.length : Int) then (if 0 ≤ qG then (if qG < (qF.length : Int) then (if 0 ≤ x7 then (if x7 < (((aj qF qG).f1).length : Int) then ((aD.f k ze qF (rd ((aj qF qG).f1) x7) ((bn tq x7).f0) ((bn tq x7).f1)).bind fun VV => (if VV = true then (aD.l0 k (wrap64 (x7 + 1)) ze qF qG tq) else (some false))) else (none)) else (none)) else (none)) else (none)) else (some true)
def aD.f : Nat → Int → List (dO) → Int → Int → List (dU) → Option (Bool)
 | 0, _, _, _, _, _ => none
 | k + 1, aR, aH, a1, bg, bV => if bg < 0 then (aD.j0 k true aR aH bg bV) else (if bg ≥ (aH.length : Int) then (aD.j0 k true aR aH bg bV) else (if 0 ≤ bg then (if bg < (aH.length : Int) then (if ((aj aH bg).f0) = a1 then (aD.j0 k ((bV.length : Int) != (((aj aH bg).f1).length : Int)) aR aH bg bV) else (aD.j0 k true aR aH bg bV)) else (none)) else (none)))
end
theorem aD.eD : ∀ k, (∀ y0 y1 y2 y3 y4, dz (aD.f k y0 y1 y2 y3 y4) (aD.f (k + 1) y0 y1 y2 y3 y4)) ∧ (∀ y0 y1 y2 y3 y4, dz (aD.j0 k y0 y1 y2 y3 y4) (aD.j0 (k + 1) y0 y1 y2 y3 y4)) ∧ (∀ y0 y1 y2 y3, dz (aD.j1 k y0 y1 y2 y3) (aD.j1 (k + 1) y0 y1 y2 y3)) ∧ (∀ y0 y1 y2 y3 y4, dz (aD.l0 k y0 y1 y2 y3 y4) (aD.l0 (k + 1) y0 y1 y2 y3 y4))
 | 0 => ⟨fun _ _ _ _ _ r h => by simp [aD.f] at h, fun _ _ _ _ _ r h => by simp [aD.j0] at h, fun _ _ _ _ r h => by simp [aD.j1] at h, fun _ _ _ _ _ r h => by simp [aD.l0] at h⟩
 | k + 1 => by
  obtain ⟨jP, ih1, ih2, ih3⟩ := aD.eD k;refine ⟨?_, ?_, ?_, ?_⟩;all_goals intros
  all_goals first | unfold aD.f | unfold aD.j0 | unfold aD.j1 | unfold aD.l0
  all_goals
   repeat' first
   | (with_reducible exact jP _ _ _ _ _)
   | (with_reducible exact ih1 _ _ _ _ _)
   | (with_reducible exact ih2 _ _ _ _)
   | (with_reducible exact ih3 _ _ _ _ _)
   | (with_reducible exact dz.refl _)
   | (with_reducible exact dz.none _)
   | (with_reducible refine dz.ite ?_ ?_)
   | (with_reducible refine dz.bind ?_ (fun _ => ?_))
   | exact jP _ _ _ _ _
   | exact ih1 _ _ _ _ _
   | exact ih2 _ _ _ _
   | exact ih3 _ _ _ _ _
   | exact dz.none _
   | refine dz.ite ?_ ?_
   | refine dz.bind ?_ (fun _ => ?_)
theorem aD.mono : ∀ a0 a1 a2 a3 a4 k, dz (aD.f k a0 a1 a2 a3 a4) (aD.f (k + 1) a0 a1 a2 a3 a4) := by
 intro a0 a1 a2 a3 a4 k;obtain ⟨jP, ih1, ih2, ih3⟩ := aD.eD k;exact jP a0 a1 a2 a3 a4
def aD.T1 : Bool × List (List Nat × List Nat) := (true, [([], []), ([0], [0]), ([1], [1]), ([2], [2]), ([3], [3]), ([4, 3], [3, 4]), ([3], [3]), ([6, 3], [3, 6]), ([7, 3], [3, 7]), ([5, 8, 3], [3, 5, 8]), ([3, 9], [3, 9]), ([10, 3], [10]), ([11], [11]), ([12, 11], [11, 12]), ([11], [11]), ([14, 11], [11, 14]), ([13, 15, 11], [11, 13, 15]), ([16, 11], [11, 16]), ([17, 11], [11, 17]), ([11], [11]), ([18, 19, 11], [11, 18, 19]), ([11, 20], [11, 20]), ([21, 11], [21]), ([22], [22]), ([23, 22], [22, 23]), ([24, 22], [22, 24]), ([22], [22]), ([26, 22], [22, 26]), ([22], [22]), ([28, 22], [22, 28]), ([27, 29, 22], [22, 27, 29]), ([30, 22], [22, 30]), ([31, 22], [22, 31]), ([32, 22], [22, 32]), ([25, 33, 22], [22, 25, 33]), ([22, 34], [22, 34])])
def aD.B1 : List Nat := [0, 1, 3, 7, 15, 31, 15, 79, 207, 511, 1023, 2047, 4095, 8191, 4095, 20479, 65535, 131071, 262143, 4095, 1048575, 2097151, 4194303, 8388607, 16777215, 33554431, 8388607, 75497471, 8388607, 276824063, 1015021567, 2088763391, 4236247039, 8531214335, 17179869183, 34359738367]
theorem aD.Al : iC .any (opsOf Try.f27 1) = aD.T1 := by kernel_rfl
theorem aD.sV : fo aD.T1.2 aD.B1 = true := by kernel_rfl
def aD.T6 : Bool × List (List Nat × List Nat) := (true, [([], []), ([], []), ([1], [1]), ([], []), ([3], [3]), ([2, 4], [2, 4]), ([5], [5]), ([6], [6]), ([], []), ([7, 8], [7, 8]), ([9], [9]), ([], []), ([11], [11]), ([], []), ([12, 13], [12, 13]), ([14], [14]), ([0, 10, 15], [0, 10, 15]), ([16], [16])])
def aD.B6 : List Nat := [0, 0, 2, 0, 8, 30, 62, 126, 0, 510, 1022, 0, 2048, 0, 14336, 30720, 65535, 131071]
theorem aD.Jt : iC .any (opsOf Try.f27 6) = aD.T6 := by kernel_rfl
theorem aD.Ao : fo aD.T6.2 aD.B6 = true := by kernel_rfl
set_option maxHeartbeats 8000000 in
set_option maxRecDepth 100000 in
theorem aD.calls (k : Nat) : ∀ (aR : Int) (bW : Option Addr) (bN : Nat) (aH : List (dO)) (a1 : Int) (bg : Int) (jX : Option Addr) (iX : Nat) (bV : List (dU)) (r : Bool) (w : World) (fw : Kd.C sJ w bW aH.length aH) (fC : aH.length ≤ bN) (yu : Kd.C k27 w jX bV.length bV) (yw : bV.length ≤ iX) (h : aD.f k aR aH a1 bg bV = some r),
  Calls Try.prog 27 #[.agg #[.int .i64 aR, .slice bW aH.length bN], .int .i64 a1, .agg #[.int .i64 bg, .slice jX bV.length iX]] w fun e w' => e = .returned (.bool r) ∧ Below w.heap.size w w' := by
 induction k using Nat.strongRecOn with
 | _ k ih =>
 intro aR bW bN aH a1 bg jX iX bV r w fw fC yu yw h
 cases k with
 | zero => exact absurd h (by simp [aD.f])
 | succ k =>
 simp only [aD.f] at h;have ES := Try.underlying24;have Hm := Try.underlying27;have eP := aa.mk fw;have fP := aa.mk fC;clear fw fC;have AJ := aa.mk yu;have TQ := aa.mk yw;clear yu yw;have HB := aa.mk (Below.refl w.heap.size w);have H : (if bg < 0 then (aD.j0 k true aR aH bg bV) else (if bg ≥ (aH.length : Int) then (aD.j0 k true aR aH bg bV) else (if 0 ≤ bg then (if bg < (aH.length : Int) then (if ((aj aH bg).f0) = a1 then (aD.j0 k ((bV.length : Int) != (((aj aH bg).f1).length : Int)) aR aH bg bV) else (aD.j0 k true aR aH bg bV)) else (none)) else (none)))) = some r := h;clear h;have IK := aa.mk H;clear H;go_enter Try.func27, Try.ntmps27
 go_upto_region 1 with (first | ((with_reducible refine bM (N := 3) rfl ?_); (try (refine gG (by rfl) ?_; dsimp only)); refine bG ?hg (N := 3) ?hd (cs := #[.int .i64 aR, .slice bW aH.length bN]) (t := 24) ?hr ?_; (case hd => rfl); (case hg => rfl); (case hr => first | (go_simp; done) | (go_simp; rfl)); intro pU hg w5 bR hb; have bP := aa.mk (aM (bO HB) hb); have bQ := aa.mk (bR); have bT := aa.mk ((by rw [hg]; exact (aK (bO HB)) : w.heap.size ≤ pU)); have di := aa.mk ((by rw [hg]; exact (aK (bO HB)) : w.heap.size ≤ pU)); clear HB; have HB := bP; have eZ := bQ; have alg := bT; have alh := di; clear bP bQ bT di; clear hb bR hg) | ((with_reducible refine bM (N := 5) rfl ?_); (try (refine gG (by rfl) ?_; dsimp only)); refine bG ?hg (N := 5) ?hd (cs := #[.int .i64 bg, .slice jX bV.length iX]) (t := 27) ?hr ?_; (case hd => rfl); (case hg => rfl); (case hr => first | (go_simp; done) | (go_simp; rfl)); intro kX hg w6 bR hb; have bP := aa.mk (aC (bk eZ) hb); have bQ := aa.mk (aM (bO HB) hb); have bT := aa.mk (bR); have di := aa.mk ((by rw [hg]; exact (aK (bO HB)) : w.heap.size ≤ kX)); have eB := aa.mk ((by rw [hg]; exact (aK (bO HB)) : w.heap.size ≤ kX)); have gB := aa.mk ((by rw [hg]; exact Nat.ne_of_lt (bE (bk eZ)) : pU ≠ kX)); have iG := aa.mk ((by rw [hg]; exact Nat.ne_of_gt (bE (bk eZ)) : kX ≠ pU)); clear eZ; clear HB; have eZ := bP; have HB := bQ; have dZ := bT; have ali := di; have alj := eB; have Dz := gB; have DC := iG; clear bP bQ bT di eB gB iG; clear hb bR hg))
 (try simp only [Act.put, List.setIfInBounds_toArray, List.set_cons_zero, List.set_cons_succ]);go_cut [43] (fun v43 wc => ∃ (kq : Nat) (Pp : Bool), v43 = .bool Pp ∧ aa (aD.j0 kq Pp aR aH bg bV = some r) ∧ aa (kq ≤ k) ∧ aa (wc.heap[pU]? = some (.cells #[.int .i64 aR, (.slice bW aH.length bN)] 24 (0, 0))) ∧ aa (wc.heap[kX]? = some (.cells #[.int .i64 bg, (.slice jX bV.length iX)] 27 (0, 0))) ∧ aa (Below w.heap.size w wc))
 case first =>
  have H := IK.out;clear IK;by_cases c7 : bg < 0
  ·rw [if_pos c7] at H;have uy : decide (bg < 0) = true := decide_eq_true c7;clear c7
   (first | rw [uy] | (simp only [bH, bI]; rw [uy]) | skip)
   have H' := aa.mk H;clear H;try go_wp2
   have bP := aa.mk (az eZ.out);have bQ := aa.mk (az dZ.out);have bT := aa.mk (fK HB.out);clear eZ dZ HB;have eZ := bP;have dZ := bQ;have HB := bT;clear bP bQ bT;refine fu (n := 36) (S := fun w' => w'.cell? ⟨kX, 0, none⟩ = some (.int .i64 bg) ∧ w'.cell? ⟨kX, 1, none⟩ = some (.slice jX bV.length iX)) (ds := []) #[false, false, false, false, false, false, false, false, false, false, false, false, false, false, false, false, false, false, false, false, false, false, false, false, false, false, false, false, false, false, false, false, false, false, false, false] (by kernel_rfl) rfl rfl ⟨(ae dZ.out 0).trans rfl, (ae dZ.out 1).trans rfl⟩ (fun hHeld => ?_); refine dw aD.Al aD.sV (fun dA ji => ?_);generalize w6.drew = w8 at eZ dZ HB hHeld ⊢;refine fG (fuel := 0) [(0, 8), (1, 9), (2, 10), (3, 11), (4, 12), (5, 13), (6, 14), (7, 15), (8, 16), (9, 17), (10, 18), (11, 19), (12, 20), (13, 21), (14, 22), (15, 23), (16, 24), (17, 25), (18, 26), (19, 27), (20, 28), (21, 29), (22, 30), (23, 31), (24, 32), (25, 33), (26, 34), (27, 35), (28, 36), (29, 37), (30, 38), (31, 39), (32, 40), (33, 41), (34, 42), (35, 43)] #[true, true, true, true, true, true, true, true, true, true, true, true, true, true, true, true, true, true, true, true, true, true, true, true, true, true, true, true, true, true, true, true, true, true, true, true] (df dA.out ji.out _ _ _ (by kernel_rfl)) rfl (fun _ _ _ _ _ h => h) hHeld (a' := ?_) ?_ ?_;rotate_left
   ·iterate 4
     refine bC (v := ?_) (a1 := ?_) rfl rfl (Or.inl ⟨by rfl, ?_⟩) ?_ ?_;rotate_left 2
     ·rintro w' ⟨s0, s1⟩;go_simp;with_reducible rfl
     ·simp only [Act.put, List.setIfInBounds_toArray, List.set_cons_zero, List.set_cons_succ, bH, bI];rfl
    iterate 6
     refine jQ (a1 := ?_) rfl rfl (by rfl) ?_ ?_;rotate_left
     ·simp only [Act.put, List.setIfInBounds_toArray, List.set_cons_zero, List.set_cons_succ];rfl
    iterate 2
     refine bC (v := ?_) (a1 := ?_) rfl rfl (Or.inl ⟨by rfl, ?_⟩) ?_ ?_;rotate_left 2
     ·rintro w' ⟨s0, s1⟩;go_simp;with_reducible rfl
     ·simp only [Act.put, List.setIfInBounds_toArray, List.set_cons_zero, List.set_cons_succ, bH, bI];rfl
    iterate 9
     refine jQ (a1 := ?_) rfl rfl (by rfl) ?_ ?_;rotate_left
     ·simp only [Act.put, List.setIfInBounds_toArray, List.set_cons_zero, List.set_cons_succ];rfl
    iterate 2
     refine bC (v := ?_) (a1 := ?_) rfl rfl (Or.inl ⟨by rfl, ?_⟩) ?_ ?_;rotate_left 2
     ·rintro w' ⟨s0, s1⟩;go_simp;with_reducible rfl
     ·simp only [Act.put, List.setIfInBounds_toArray, List.set_cons_zero, List.set_cons_succ, bH, bI];rfl
    iterate 12
     refine jQ (a1 := ?_) rfl rfl (by rfl) ?_ ?_;rotate_left
     ·simp only [Act.put, List.setIfInBounds_toArray, List.set_cons_zero, List.set_cons_succ];rfl
    iterate 1
     refine bC (v := ?_) (a1 := ?_) rfl rfl (Or.inl ⟨by rfl, ?_⟩) ?_ ?_;rotate_left 2
     ·rintro w' ⟨s0, s1⟩;go_simp;with_reducible rfl
     ·simp only [Act.put, List.setIfInBounds_toArray, List.set_cons_zero, List.set_cons_succ, bH, bI];rfl
    exact chain_nil
   refine gH (dV dA.out (by kernel_rfl)) ?_;try go_wp2
   go_meet
   case rel => exact ⟨_, (true), (by first | rfl | (simp; done) | (simp [*]; done)), H', ⟨by first | omega | exact Nat.le_refl _⟩, ⟨by (with_reducible repeat (first | refine ax ?_ _ | refine az ?_ | refine au ?_ _)); exact eZ.out⟩, ⟨by (with_reducible repeat (first | refine ax ?_ _ | refine az ?_ | refine au ?_ _)); exact dZ.out⟩, ⟨bO HB⟩⟩
  ·rw [if_neg c7] at H;have uy : decide (bg < 0) = false := decide_eq_false c7;clear c7
   (first | rw [uy] | (simp only [bH, bI]; rw [uy]) | skip)
   by_cases c9 : bg ≥ (aH.length : Int)
   ·rw [if_pos c9] at H;have yg : decide ((aH.length : Int) ≤ bg) = true := decide_eq_true c9;clear c9;have H' := aa.mk H;clear H;try go_wp2
    have bP := aa.mk (az eZ.out);have bQ := aa.mk (az dZ.out);have bT := aa.mk (fK HB.out);clear eZ dZ HB;have eZ := bP;have dZ := bQ;have HB := bT;clear bP bQ bT;refine fu (n := 36) (S := fun w' => w'.cell? ⟨kX, 0, none⟩ = some (.int .i64 bg) ∧ w'.cell? ⟨kX, 1, none⟩ = some (.slice jX bV.length iX) ∧ w'.cell? ⟨pU, 0, none⟩ = some (.int .i64 aR) ∧ w'.cell? ⟨pU, 1, none⟩ = some (.slice bW aH.length bN)) (ds := []) #[false, false, false, false, false, false, false, false, false, false, false, false, false, false, false, false, false, false, false, false, false, false, false, false, false, false, false, false, false, false, false, false, false, false, false, false] (by kernel_rfl) rfl rfl ⟨(ae dZ.out 0).trans rfl, (ae dZ.out 1).trans rfl, (ae eZ.out 0).trans rfl, (ae eZ.out 1).trans rfl⟩ (fun hHeld => ?_); refine dw aD.Al aD.sV (fun dA ji => ?_);generalize w6.drew = Io at eZ dZ HB hHeld ⊢;refine fG (fuel := 0) [(0, 8), (1, 9), (2, 10), (3, 11), (4, 12), (6, 14), (5, 13), (7, 15), (8, 16), (9, 17), (10, 18), (11, 19), (12, 20), (13, 21), (14, 22), (15, 23), (16, 24), (17, 25), (18, 26), (19, 27), (20, 28), (21, 29), (22, 30), (23, 31), (24, 32), (25, 33), (26, 34), (27, 35), (28, 36), (29, 37), (30, 38), (31, 39), (32, 40), (33, 41), (34, 42), (35, 43)] #[true, true, true, true, true, true, true, true, true, true, true, true, true, true, true, true, true, true, true, true, true, true, true, true, true, true, true, true, true, true, true, true, true, true, true, true] (df dA.out ji.out _ _ _ (by kernel_rfl)) rfl (fun _ _ _ _ _ h => h) hHeld (a' := ?_) ?_ ?_;rotate_left
    ·iterate 12
      refine bC (v := ?_) (a1 := ?_) rfl rfl (Or.inl ⟨by rfl, ?_⟩) ?_ ?_;rotate_left 2
      ·rintro w' ⟨s0, s1, s2, s3⟩;go_simp;with_reducible rfl
      ·simp only [Act.put, List.setIfInBounds_toArray, List.set_cons_zero, List.set_cons_succ, bH, bI];rfl
     iterate 9
      refine jQ (a1 := ?_) rfl rfl (by rfl) ?_ ?_;rotate_left
      ·simp only [Act.put, List.setIfInBounds_toArray, List.set_cons_zero, List.set_cons_succ];rfl
     iterate 2
      refine bC (v := ?_) (a1 := ?_) rfl rfl (Or.inl ⟨by rfl, ?_⟩) ?_ ?_;rotate_left 2
      ·rintro w' ⟨s0, s1, s2, s3⟩;go_simp;with_reducible rfl
      ·simp only [Act.put, List.setIfInBounds_toArray, List.set_cons_zero, List.set_cons_succ, bH, bI];rfl
     iterate 12
      refine jQ (a1 := ?_) rfl rfl (by rfl) ?_ ?_;rotate_left
      ·simp only [Act.put, List.setIfInBounds_toArray, List.set_cons_zero, List.set_cons_succ];rfl
     iterate 1
      refine bC (v := ?_) (a1 := ?_) rfl rfl (Or.inl ⟨by rfl, ?_⟩) ?_ ?_;rotate_left 2
      ·rintro w' ⟨s0, s1, s2, s3⟩;go_simp;with_reducible rfl
      ·simp only [Act.put, List.setIfInBounds_toArray, List.set_cons_zero, List.set_cons_succ, bH, bI];rfl
     exact chain_nil
    refine gH (dV dA.out (by kernel_rfl)) ?_;try go_wp2
    go_meet
    case rel => exact ⟨_, (true), (by first | rfl | (simp; done) | (simp [*]; done)), H', ⟨by first | omega | exact Nat.le_refl _⟩, ⟨by (with_reducible repeat (first | refine ax ?_ _ | refine az ?_ | refine au ?_ _)); exact eZ.out⟩, ⟨by (with_reducible repeat (first | refine ax ?_ _ | refine az ?_ | refine au ?_ _)); exact dZ.out⟩, ⟨bO HB⟩⟩
   ·rw [if_neg c9] at H;have yg : decide ((aH.length : Int) ≤ bg) = false := decide_eq_false c9;clear c9;by_cases c11 : 0 ≤ bg
    ·rw [if_pos c11] at H;have om : decide (0 ≤ bg) = true := decide_eq_true c11;clear c11;by_cases c12 : bg < (aH.length : Int)
     ·rw [if_pos c12] at H;have Lg : decide (bg < (aH.length : Int)) = true := decide_eq_true c12;clear c12;by_cases c13 : ((aj aH bg).f0) = a1
      ·rw [if_pos c13] at H;have uU : (((aj aH bg).f0) == a1) = true := beq_iff_eq.mpr c13;have Pq : (((aj aH bg).f0) != a1) = false := bne_eq_false_iff_eq.mpr c13;clear c13;have H' := aa.mk H;clear H;try go_wp2
       have bP := aa.mk (az eZ.out);have bQ := aa.mk (az dZ.out);have bT := aa.mk (fK HB.out);clear eZ dZ HB;have eZ := bP;have dZ := bQ;have HB := bT;clear bP bQ bT;have Ho : 0 ≤ (bg : Int) := of_decide_eq_true (by first | (with_reducible assumption) | assumption);have Hq : bg < (aH.length : Int) := of_decide_eq_true (by first | (with_reducible assumption) | assumption);obtain ⟨jB, JE, JF, e247, mr, l8, mD, mE, mF, AL, AO⟩ := kK eP.out bg Ho Hq;have JG := mF;have JH := mE;have JI := mD;have JJ := l8;have JK := mr
       cases e247;replace mr := ah HB.out mr;replace l8 := ah HB.out l8;replace mD := ah HB.out mD;replace mE := ah HB.out mE;replace mF := ah HB.out mF;have JL := aa.mk AO;have VW := aa.mk AL;clear AO AL;replace Ho := eq_true Ho;replace Hq := eq_true Hq;have Rc : 0 ≤ (bg : Int) := of_decide_eq_true (by first | (with_reducible assumption) | assumption);have Re : bg < (aH.length : Int) := of_decide_eq_true (by first | (with_reducible assumption) | assumption);obtain ⟨ado, aiK, aiL, e248, vZ, tu, wh, wm, wo, Ps, Pt⟩ := kK eP.out bg Rc Re;have VX := wo;have VY := wm;have VZ := wh;have V3 := tu;have V4 := vZ;obtain rfl : jB = ado := (by injection e248);replace vZ := ah HB.out vZ;replace tu := ah HB.out tu;replace wh := ah HB.out wh;replace wm := ah HB.out wm;replace wo := ah HB.out wo;have V5 := aa.mk Pt;have af1 := aa.mk Ps;clear Pt Ps;replace Rc := eq_true Rc;replace Re := eq_true Re;have ea_ := Option.some.inj (l8.symm.trans tu);injection ea_ with ea_ en_ ec_
       subst ea_;subst ec_;clear en_;refine fu (n := 36) (S := fun w' => w'.cell? ⟨kX, 0, none⟩ = some (.int .i64 bg) ∧ w'.cell? ⟨kX, 1, none⟩ = some (.slice jX bV.length iX) ∧ w'.cell? ⟨pU, 0, none⟩ = some (.int .i64 aR) ∧ w'.cell? ⟨pU, 1, none⟩ = some (.slice (some jB) aH.length bN) ∧ w'.cell? (jB.add ((bg).toNat * 5)) = some (.int .i64 ((aj aH bg).f0)) ∧ w'.cell? ⟨(jB.add ((bg).toNat * 5)).block, (jB.add ((bg).toNat * 5)).off + 1, none⟩ = some (.slice JE ((aj aH bg).f1).length JF) ∧ w'.cell? ⟨(jB.add ((bg).toNat * 5)).block, (jB.add ((bg).toNat * 5)).off + 2, none⟩ = some (.int .i64 ((aj aH bg).f2)) ∧ w'.cell? ⟨(jB.add ((bg).toNat * 5)).block, (jB.add ((bg).toNat * 5)).off + 3, none⟩ = some (.int .i64 ((aj aH bg).f3.f0)) ∧ w'.cell? ⟨(jB.add ((bg).toNat * 5)).block, (jB.add ((bg).toNat * 5)).off + 4, none⟩ = some (.int .i64 ((aj aH bg).f3.f1)) ∧ w'.cell? (jB.add ((bg).toNat * 5)) = some (.int .i64 ((aj aH bg).f0)) ∧ w'.cell? ⟨(jB.add ((bg).toNat * 5)).block, (jB.add ((bg).toNat * 5)).off + 1, none⟩ = some (.slice JE ((aj aH bg).f1).length JF) ∧ w'.cell? ⟨(jB.add ((bg).toNat * 5)).block, (jB.add ((bg).toNat * 5)).off + 2, none⟩ = some (.int .i64 ((aj aH bg).f2)) ∧ w'.cell? ⟨(jB.add ((bg).toNat * 5)).block, (jB.add ((bg).toNat * 5)).off + 3, none⟩ = some (.int .i64 ((aj aH bg).f3.f0)) ∧ w'.cell? ⟨(jB.add ((bg).toNat * 5)).block, (jB.add ((bg).toNat * 5)).off + 4, none⟩ = some (.int .i64 ((aj aH bg).f3.f1))) (ds := []) #[false, false, false, false, false, false, false, false, false, false, false, false, false, false, false, false, false, false, false, false, false, false, false, false, false, false, false, false, false, false, false, false, false, false, false, false] (by kernel_rfl) rfl rfl ⟨(ae dZ.out 0).trans rfl, (ae dZ.out 1).trans rfl, (ae eZ.out 0).trans rfl, (ae eZ.out 1).trans rfl, (ah HB.out JK), (ah HB.out JJ), (ah HB.out JI), (ah HB.out JH), (ah HB.out JG), (ah HB.out V4), (ah HB.out V3), (ah HB.out VZ), (ah HB.out VY), (ah HB.out VX)⟩ (fun hHeld => ?_); refine dw aD.Al aD.sV (fun dA ji => ?_);generalize w6.drew = TR at eZ dZ HB JL V5 mr l8 mD mE mF vZ tu wh wm wo hHeld ⊢;refine fG (fuel := 0) [(0, 8), (1, 9), (2, 10), (3, 11), (4, 12), (6, 14), (5, 13), (7, 15), (8, 16), (9, 17), (10, 18), (11, 19), (12, 20), (14, 22), (19, 27), (13, 21), (15, 23), (16, 24), (17, 25), (18, 26), (20, 28), (21, 29), (22, 30), (23, 31), (26, 34), (28, 36), (24, 32), (25, 33), (27, 35), (29, 37), (30, 38), (31, 39), (32, 40), (33, 41), (34, 42), (35, 43)] #[true, true, true, true, true, true, true, true, true, true, true, true, true, true, true, true, true, true, true, true, true, true, true, true, true, true, true, true, true, true, true, true, true, true, true, true] (df dA.out ji.out _ _ _ (by kernel_rfl)) rfl (fun _ _ _ _ _ h => h) hHeld (a' := ?_) ?_ ?_;rotate_left
       ·iterate 36
         refine bC (v := ?_) (a1 := ?_) rfl rfl (Or.inl ⟨by rfl, ?_⟩) ?_ ?_;rotate_left 2
         ·rintro w' ⟨s0, s1, s2, s3, s4, s5, s6, s7, s8, s9, s10, s11, s12, s13⟩;go_simp;with_reducible rfl
         ·simp only [Act.put, List.setIfInBounds_toArray, List.set_cons_zero, List.set_cons_succ, bH, bI];rfl
        exact chain_nil
       refine gH (dV dA.out (by kernel_rfl)) ?_;try go_wp2
       go_meet
       case rel => exact ⟨_, (((bV.length : Int) != (((aj aH bg).f1).length : Int))), (by first | rfl | (simp; done) | (simp [*]; done)), H', ⟨by first | omega | exact Nat.le_refl _⟩, ⟨by (with_reducible repeat (first | refine ax ?_ _ | refine az ?_ | refine au ?_ _)); exact eZ.out⟩, ⟨by (with_reducible repeat (first | refine ax ?_ _ | refine az ?_ | refine au ?_ _)); exact dZ.out⟩, ⟨bO HB⟩⟩
      ·rw [if_neg c13] at H;have uU : (((aj aH bg).f0) == a1) = false := beq_eq_false_iff_ne.mpr c13;have Pq : (((aj aH bg).f0) != a1) = true := bne_iff_ne.mpr c13;have H' := aa.mk H;clear H;try go_wp2
       have bP := aa.mk (az eZ.out);have bQ := aa.mk (az dZ.out);have bT := aa.mk (fK HB.out);clear eZ dZ HB;have eZ := bP;have dZ := bQ;have HB := bT;clear bP bQ bT;have Ho : 0 ≤ (bg : Int) := of_decide_eq_true (by first | (with_reducible assumption) | assumption);have Hq : bg < (aH.length : Int) := of_decide_eq_true (by first | (with_reducible assumption) | assumption);obtain ⟨jB, JE, JF, e247, mr, l8, mD, mE, mF, AL, AO⟩ := kK eP.out bg Ho Hq;have JG := mF;have JH := mE;have JI := mD;have JJ := l8;have JK := mr
       cases e247;replace mr := ah HB.out mr;replace l8 := ah HB.out l8;replace mD := ah HB.out mD;replace mE := ah HB.out mE;replace mF := ah HB.out mF;have JL := aa.mk AO;have VW := aa.mk AL;clear AO AL;replace Ho := eq_true Ho;replace Hq := eq_true Hq;refine fu (n := 36) (S := fun w' => w'.cell? ⟨kX, 0, none⟩ = some (.int .i64 bg) ∧ w'.cell? ⟨kX, 1, none⟩ = some (.slice jX bV.length iX) ∧ w'.cell? ⟨pU, 0, none⟩ = some (.int .i64 aR) ∧ w'.cell? ⟨pU, 1, none⟩ = some (.slice (some jB) aH.length bN) ∧ w'.cell? (jB.add ((bg).toNat * 5)) = some (.int .i64 ((aj aH bg).f0)) ∧ w'.cell? ⟨(jB.add ((bg).toNat * 5)).block, (jB.add ((bg).toNat * 5)).off + 1, none⟩ = some (.slice JE ((aj aH bg).f1).length JF) ∧ w'.cell? ⟨(jB.add ((bg).toNat * 5)).block, (jB.add ((bg).toNat * 5)).off + 2, none⟩ = some (.int .i64 ((aj aH bg).f2)) ∧ w'.cell? ⟨(jB.add ((bg).toNat * 5)).block, (jB.add ((bg).toNat * 5)).off + 3, none⟩ = some (.int .i64 ((aj aH bg).f3.f0)) ∧ w'.cell? ⟨(jB.add ((bg).toNat * 5)).block, (jB.add ((bg).toNat * 5)).off + 4, none⟩ = some (.int .i64 ((aj aH bg).f3.f1))) (ds := []) #[false, false, false, false, false, false, false, false, false, false, false, false, false, false, false, false, false, false, false, false, false, false, false, false, false, false, false, false, false, false, false, false, false, false, false, false] (by kernel_rfl) rfl rfl ⟨(ae dZ.out 0).trans rfl, (ae dZ.out 1).trans rfl, (ae eZ.out 0).trans rfl, (ae eZ.out 1).trans rfl, (ah HB.out JK), (ah HB.out JJ), (ah HB.out JI), (ah HB.out JH), (ah HB.out JG)⟩ (fun hHeld => ?_); refine dw aD.Al aD.sV (fun dA ji => ?_);generalize w6.drew = w15 at eZ dZ HB JL mr l8 mD mE mF hHeld ⊢;refine fG (fuel := 0) [(0, 8), (1, 9), (2, 10), (3, 11), (4, 12), (6, 14), (5, 13), (7, 15), (8, 16), (9, 17), (10, 18), (11, 19), (12, 20), (14, 22), (19, 27), (13, 21), (15, 23), (16, 24), (17, 25), (18, 26), (20, 28), (21, 29), (22, 30), (23, 31), (24, 32), (25, 33), (26, 34), (27, 35), (28, 36), (29, 37), (30, 38), (31, 39), (32, 40), (33, 41), (34, 42), (35, 43)] #[true, true, true, true, true, true, true, true, true, true, true, true, true, true, true, true, true, true, true, true, true, true, true, true, true, true, true, true, true, true, true, true, true, true, true, true] (df dA.out ji.out _ _ _ (by kernel_rfl)) rfl (fun _ _ _ _ _ h => h) hHeld (a' := ?_) ?_ ?_;rotate_left
       ·iterate 23
         refine bC (v := ?_) (a1 := ?_) rfl rfl (Or.inl ⟨by rfl, ?_⟩) ?_ ?_;rotate_left 2
         ·rintro w' ⟨s0, s1, s2, s3, s4, s5, s6, s7, s8⟩;go_simp;with_reducible rfl
         ·simp only [Act.put, List.setIfInBounds_toArray, List.set_cons_zero, List.set_cons_succ, bH, bI];rfl
        iterate 12
         refine jQ (a1 := ?_) rfl rfl (by rfl) ?_ ?_;rotate_left
         ·simp only [Act.put, List.setIfInBounds_toArray, List.set_cons_zero, List.set_cons_succ];rfl
        iterate 1
         refine bC (v := ?_) (a1 := ?_) rfl rfl (Or.inl ⟨by rfl, ?_⟩) ?_ ?_;rotate_left 2
         ·rintro w' ⟨s0, s1, s2, s3, s4, s5, s6, s7, s8⟩;go_simp;with_reducible rfl
         ·simp only [Act.put, List.setIfInBounds_toArray, List.set_cons_zero, List.set_cons_succ, bH, bI];rfl
        exact chain_nil
       refine gH (dV dA.out (by kernel_rfl)) ?_;try go_wp2
       go_meet
       case rel => exact ⟨_, (true), (by first | rfl | (simp; done) | (simp [*]; done)), H', ⟨by first | omega | exact Nat.le_refl _⟩, ⟨by (with_reducible repeat (first | refine ax ?_ _ | refine az ?_ | refine au ?_ _)); exact eZ.out⟩, ⟨by (with_reducible repeat (first | refine ax ?_ _ | refine az ?_ | refine au ?_ _)); exact dZ.out⟩, ⟨bO HB⟩⟩
     ·rw [if_neg c12] at H;exact absurd H (by simp)
    ·rw [if_neg c11] at H;exact absurd H (by simp)
 case rest =>
  clear IK;(try clear c1); (try clear c2); (try clear p2); (try clear q2); (try clear hx2); (try clear c11); (try clear c12); (try clear c13); (try clear uU); (try clear Pq); (try clear mr); (try clear l8); (try clear mD); (try clear mE); (try clear mF); (try clear vZ); (try clear tu); (try clear wh); (try clear wm); (try clear wo); (try clear Ho); (try clear Rc); (try clear Hq); (try clear Re);obtain ⟨kq, Pp, rfl, HA, Gq, eZ, dZ, HB⟩ := hcut
  cases kq with
  | zero => exact absurd HA.out (by simp [aD.j0])
  | succ kj3 =>
   have H := HA.out;clear HA;simp only [aD.j0] at H;have M7 := aa.mk H;clear H;go_upto_if 43 with (fail)
   go_cut [] (fun wc => ∃ (kq : Nat), aa (aD.j1 kq aR aH bg bV = some r) ∧ aa (kq ≤ kj3) ∧ aa (wc.heap[pU]? = some (.cells #[.int .i64 aR, (.slice bW aH.length bN)] 24 (0, 0))) ∧ aa (wc.heap[kX]? = some (.cells #[.int .i64 bg, (.slice jX bV.length iX)] 27 (0, 0))) ∧ aa (Below w.heap.size w wc))
   case first =>
    have H := M7.out;clear M7;by_cases c17 : Pp = true
    ·subst c17;have H1 : (some false) = some r := by rw [if_pos rfl] at H; exact H
     clear H;have H := H1;clear H1;obtain rfl := Option.some.inj H;go_wp2;go_ret;exact ⟨by first | rfl | (simp [aW, aX] <;> rfl) | (simp [*, aW, aX] <;> rfl), bO HB⟩
    ·replace c17 := Bool.eq_false_iff.mpr c17;subst c17;have H1 : (aD.j1 kj3 aR aH bg bV) = some r := by rw [if_neg (show ¬ (false = true) by decide)] at H; exact H
     clear H;have H := H1;clear H1;have H' := aa.mk H;clear H;go_wp2;go_meet
     case rel => exact ⟨_, H', ⟨by have := Gq.out; first | omega | exact Nat.le_refl _⟩, ⟨by (with_reducible repeat (first | refine ax ?_ _ | refine az ?_ | refine au ?_ _)); exact eZ.out⟩, ⟨by (with_reducible repeat (first | refine ax ?_ _ | refine az ?_ | refine au ?_ _)); exact dZ.out⟩, ⟨bO HB⟩⟩
   case rest =>
    clear M7;(try clear c1); (try clear c2); (try clear p2); (try clear q2); (try clear hx2); (try clear c11); (try clear c12); (try clear c13); (try clear uU); (try clear Pq); (try clear c17); (try clear mr); (try clear l8); (try clear mD); (try clear mE); (try clear mF); (try clear vZ); (try clear tu); (try clear wh); (try clear wm); (try clear wo); (try clear p2); (try clear Ho); (try clear Rc); (try clear q2); (try clear Hq); (try clear Re);obtain ⟨kq, HA, JM, eZ, dZ, HB⟩ := hcut
    cases kq with
    | zero => exact absurd HA.out (by simp [aD.j1])
    | succ kj15 =>
     have H := HA.out;clear HA;simp only [aD.j1] at H;have H' := aa.mk H;clear H;go_wp2;go_loopg [7] kj15 (fun kq v7 w' => ∃ (iU : Int), v7 = .int .i64 iU ∧ aa (aD.l0 kq iU aR aH bg bV = some r) ∧ aa (kq ≤ kj15) ∧ aa (w'.heap[pU]? = some (.cells #[.int .i64 aR, (.slice bW aH.length bN)] 24 (0, 0))) ∧ aa (w'.heap[kX]? = some (.cells #[.int .i64 bg, (.slice jX bV.length iX)] 27 (0, 0))) ∧ aa (Below w.heap.size w w'))
     case atStart => exact ⟨(0), (by first | rfl | (simp; done) | (simp [*]; done)), H', ⟨Nat.le_refl _⟩, ⟨by (with_reducible repeat (first | refine ax ?_ _ | refine az ?_ | refine au ?_ _)); exact eZ.out⟩, ⟨by (with_reducible repeat (first | refine ax ?_ _ | refine az ?_ | refine au ?_ _)); exact dZ.out⟩, ⟨bO HB⟩⟩
     case round =>
      clear H';(try clear c1); (try clear c2); (try clear p2); (try clear q2); (try clear hx2); (try clear c11); (try clear c12); (try clear c13); (try clear uU); (try clear Pq); (try clear c17); (try clear mr); (try clear l8); (try clear mD); (try clear mE); (try clear mF); (try clear vZ); (try clear tu); (try clear wh); (try clear wm); (try clear wo); (try clear p2); (try clear Ho); (try clear Rc); (try clear q2); (try clear Hq); (try clear Re);obtain ⟨iU, rfl, HA, xO, eZ, dZ, HB⟩ := hrel
      cases gk with
      | zero => exact absurd HA.out (by simp [aD.l0])
      | succ k3 =>
       have H := HA.out;clear HA;simp only [aD.l0] at H;by_cases c18 : iU < (bV.length : Int)
       ·rw [if_pos c18] at H;have Yt : decide (iU < (bV.length : Int)) = true := decide_eq_true c18;clear c18;by_cases c19 : 0 ≤ bg
        ·rw [if_pos c19] at H;have yh : decide (0 ≤ bg) = true := decide_eq_true c19;clear c19;by_cases c20 : bg < (aH.length : Int)
         ·rw [if_pos c20] at H;have alk : decide (bg < (aH.length : Int)) = true := decide_eq_true c20;clear c20;by_cases c21 : 0 ≤ iU
          ·rw [if_pos c21] at H;have alm : decide (0 ≤ iU) = true := decide_eq_true c21;clear c21;by_cases vO : iU < (((aj aH bg).f1).length : Int)
           ·rw [if_pos vO] at H;have tC : decide (iU < (((aj aH bg).f1).length : Int)) = true := decide_eq_true vO;clear vO;replace H := Option.bind_eq_some_iff.mp H;obtain ⟨VV, TS, H⟩ := H;replace H : (if VV = true then (aD.l0 k3 (wrap64 (iU + 1)) aR aH bg bV) else (some false)) = some r := H;have A23 := aa.mk TS;clear TS;by_cases c24 : VV = true
            ·subst c24;have H1 : (aD.l0 k3 (wrap64 (iU + 1)) aR aH bg bV) = some r := by rw [if_pos rfl] at H; exact H
             clear H;have H := H1;clear H1;have H' := aa.mk H;clear H;have Yu := DC.out;have Yv := Dz.out;have wu : wr.cell? ⟨kX, 0, none⟩ = some (.int .i64 bg) := (ae dZ.out 0).trans rfl;have wy : wr.cell? ⟨kX, 1, none⟩ = some (.slice jX bV.length iX) := (ae dZ.out 1).trans rfl;have wz := ai dZ.out 0;have wE := ai dZ.out 1;try go_wp2
             have bP := aa.mk (az eZ.out);have bQ := aa.mk (az dZ.out);have bT := aa.mk (fK HB.out);clear eZ dZ HB;have eZ := bP;have dZ := bQ;have HB := bT;clear bP bQ bT;have M8 : 0 ≤ (bg : Int) := of_decide_eq_true (by first | (with_reducible assumption) | assumption);have M9 : bg < (aH.length : Int) := of_decide_eq_true (by first | (with_reducible assumption) | assumption);obtain ⟨lQ, aaG, Na, e249, qH, qI, qJ, qK, qL, AP, AQ⟩ := kK eP.out bg M8 M9;have AR := qL;have AU := qK;have AV := qJ;have AX := qI;have AY := qH
             cases e249;replace qH := ah HB.out qH;replace qI := ah HB.out qI;replace qJ := ah HB.out qJ;replace qK := ah HB.out qK;replace qL := ah HB.out qL;have AZ := aa.mk AQ;have V6 := aa.mk AP;clear AQ AP;replace M8 := eq_true M8;replace M9 := eq_true M9;have Nb : 0 ≤ (iU : Int) := of_decide_eq_true (by first | (with_reducible assumption) | assumption);have Nc : iU < (((aj aH bg).f1).length : Int) := of_decide_eq_true (by first | (with_reducible assumption) | assumption);obtain ⟨Lh, e250, qM⟩ := Kd.nC AZ.out iU Nb Nc;have A7 := qM
             cases e250;replace qM := ah HB.out qM;replace Nb := eq_true Nb;replace Nc := eq_true Nc;have Nf : 0 ≤ (iU : Int) := of_decide_eq_true (by first | (with_reducible assumption) | assumption);have Ng : iU < (bV.length : Int) := of_decide_eq_true (by first | (with_reducible assumption) | assumption);obtain ⟨A9, Gr, Gs, e251, qN, qO, Ba, Bb⟩ := nE AJ.out iU Nf Ng;have Bc := qO;have Bd := qN
             cases e251;replace qN := ah HB.out qN;replace qO := ah HB.out qO;have aiZ := aa.mk Bb;have JN := aa.mk Ba;clear Bb Ba;replace Nf := eq_true Nf;replace Ng := eq_true Ng;refine fu (n := 18) (S := fun w' => w'.cell? ⟨pU, 0, none⟩ = some (.int .i64 aR) ∧ w'.cell? ⟨pU, 1, none⟩ = some (.slice (some lQ) aH.length bN) ∧ w'.cell? ⟨kX, 0, none⟩ = some (.int .i64 bg) ∧ w'.cell? ⟨kX, 1, none⟩ = some (.slice (some A9) bV.length iX) ∧ w'.cell? (lQ.add ((bg).toNat * 5)) = some (.int .i64 ((aj aH bg).f0)) ∧ w'.cell? ⟨(lQ.add ((bg).toNat * 5)).block, (lQ.add ((bg).toNat * 5)).off + 1, none⟩ = some (.slice (some Lh) ((aj aH bg).f1).length Na) ∧ w'.cell? ⟨(lQ.add ((bg).toNat * 5)).block, (lQ.add ((bg).toNat * 5)).off + 2, none⟩ = some (.int .i64 ((aj aH bg).f2)) ∧ w'.cell? ⟨(lQ.add ((bg).toNat * 5)).block, (lQ.add ((bg).toNat * 5)).off + 3, none⟩ = some (.int .i64 ((aj aH bg).f3.f0)) ∧ w'.cell? ⟨(lQ.add ((bg).toNat * 5)).block, (lQ.add ((bg).toNat * 5)).off + 4, none⟩ = some (.int .i64 ((aj aH bg).f3.f1)) ∧ w'.cell? (Lh.add (iU).toNat) = some (.int .i64 (rd ((aj aH bg).f1) iU)) ∧ w'.cell? (A9.add ((iU).toNat * 2)) = some (.int .i64 ((bn bV iU).f0)) ∧ w'.cell? ⟨(A9.add ((iU).toNat * 2)).block, (A9.add ((iU).toNat * 2)).off + 1, none⟩ = some (.slice Gr ((bn bV iU).f1).length Gs)) (ds := []) #[false, false, false, false, false, false, false, false, false, false, false, false, false, false, false, false, false, false] (by kernel_rfl) rfl rfl ⟨(ae eZ.out 0).trans rfl, (ae eZ.out 1).trans rfl, (ae dZ.out 0).trans rfl, (ae dZ.out 1).trans rfl, (ah HB.out AY), (ah HB.out AX), (ah HB.out AV), (ah HB.out AU), (ah HB.out AR), (ah HB.out A7), (ah HB.out Bd), (ah HB.out Bc)⟩ (fun hHeld => ?_); refine dw aD.Jt aD.Ao (fun dA ji => ?_);generalize wr.drew = V7 at eZ dZ HB AZ aiZ qH qI qJ qK qL qM qN qO hHeld ⊢;refine fG (fuel := 2) [(1, 52), (3, 54), (8, 59), (11, 62), (13, 64), (0, 51), (2, 53), (4, 55), (5, 56), (6, 57), (7, 58), (9, 60), (10, 61), (12, 63), (14, 65), (15, 66)] #[true, true, true, true, true, true, true, true, true, true, true, true, true, true, true, true, false, false] (df dA.out ji.out _ _ _ (by kernel_rfl)) rfl (fun _ _ _ _ _ h => h) hHeld (a' := ?_) ?_ ?_;rotate_left
             ·iterate 16
               refine bC (v := ?_) (a1 := ?_) rfl rfl (Or.inl ⟨by rfl, ?_⟩) ?_ ?_;rotate_left 2
               ·rintro w' ⟨s0, s1, s2, s3, s4, s5, s6, s7, s8, s9, s10, s11⟩;go_simp;with_reducible rfl
               ·simp only [Act.put, List.setIfInBounds_toArray, List.set_cons_zero, List.set_cons_succ, bH, bI];rfl
              exact chain_nil
             refine fT (i := 16) (N := some 67) #[true, true, true, true, true, true, true, true, true, true, true, true, true, true, true, true, true, false] rfl rfl (dn dA.out (by kernel_rfl)) (by decide) (fun K hK => ?_);refine uC Try.func27 (by kernel_rfl) rfl #[.agg #[.int .i64 aR, .slice (some lQ) aH.length bN], .int .i64 (rd ((aj aH bg).f1) iU), .agg #[.int .i64 ((bn bV iU).f0), .slice Gr ((bn bV iU).f1).length Gs]] (by rfl) rfl rfl (by (try simp only [List.map_toArray, List.map_cons, List.map_nil]); first | done | rfl | (simp only [List.length_drop, List.length_take]; rfl)) ?_;with_reducible refine (ih k3 (by have := Gq.out; have := JM.out; have := xO.out; omega) aR _ _ aH (rd ((aj aH bg).f1) iU) ((bn bV iU).f0) _ _ ((bn bV iU).f1) true _ ?side1 ?side2 ?side3 ?side4 A23.out).mono ?_
             (case side1 => repeat (first | exact (Kd.bF eP.out HB.out) | (with_reducible refine Kd.dF ?_ _) | (with_reducible refine Kd.dG ?_ _) | (with_reducible refine Kd.eG ?_)));(case side2 => exact fP.out);(case side3 => repeat (first | exact (Kd.bF aiZ.out HB.out) | (with_reducible refine Kd.dF ?_ _) | (with_reducible refine Kd.dG ?_ _) | (with_reducible refine Kd.eG ?_)));(case side4 => exact JN.out);rintro e w28 ⟨rfl, hb⟩;refine ⟨_, rfl, ?_⟩;have bP := aa.mk (aC (bk eZ) hb);have bQ := aa.mk (aC (bk dZ) hb);have bT := aa.mk (aM (bO HB) hb);clear eZ dZ HB;have eZ := bP;have dZ := bQ;have HB := bT;clear bP bQ bT;(try clear hb);(try clear hb2);(try clear hk);(try clear hi);refine hK.out _ _ ⟨(ae eZ.out 0).trans rfl, (ae eZ.out 1).trans rfl, (ae dZ.out 0).trans rfl, (ae dZ.out 1).trans rfl, (ah HB.out AY), (ah HB.out AX), (ah HB.out AV), (ah HB.out AU), (ah HB.out AR), (ah HB.out A7), (ah HB.out Bd), (ah HB.out Bc)⟩ (fun hHeld => ?_);clear hK K;refine bS (a' := ?_) ?_ ?_;rotate_left
             ·show Act.put _ (some 67) _ = _;simp only [Act.put, List.setIfInBounds_toArray, List.set_cons_zero, List.set_cons_succ, bH, bI];rfl
             refine mR (i := 17) (N := some 68) (v := ?_) (a' := ?_) #[true, true, true, true, true, true, true, true, true, true, true, true, true, true, true, true, true, true] rfl rfl (ku dA.out (by kernel_rfl)) (fun _ _ _ h => h) (Or.inl ⟨by rfl, ?_⟩) ?_ ?_;rotate_left
             ·intro w';go_simp;with_reducible rfl
             rotate_left
             ·simp only [Act.put, List.setIfInBounds_toArray, List.set_cons_zero, List.set_cons_succ, bH, bI];rfl
             refine gH (dV dA.out (by kernel_rfl)) ?_;try go_wp2
             go_roundg k3
             case measure => have := Gq.out; have := JM.out; have := xO.out; omega
             case rel => exact ⟨(wrap64 (iU + 1)), (by first | rfl | (simp; done) | (simp [*]; done)), H', ⟨by have := Gq.out; have := JM.out; have := xO.out; omega⟩, ⟨by (with_reducible repeat (first | refine ax ?_ _ | refine az ?_ | refine au ?_ _)); exact eZ.out⟩, ⟨by (with_reducible repeat (first | refine ax ?_ _ | refine az ?_ | refine au ?_ _)); exact dZ.out⟩, ⟨bO HB⟩⟩
            ·replace c24 := Bool.eq_false_iff.mpr c24;subst c24;have H1 : (some false) = some r := by rw [if_neg (show ¬ (false = true) by decide)] at H; exact H
             clear H;have H := H1;clear H1;obtain rfl := Option.some.inj H;have TT := DC.out;have TU := Dz.out;have Bf : wr.cell? ⟨kX, 0, none⟩ = some (.int .i64 bg) := (ae dZ.out 0).trans rfl;have Bg : wr.cell? ⟨kX, 1, none⟩ = some (.slice jX bV.length iX) := (ae dZ.out 1).trans rfl;have Bh := ai dZ.out 0;have Bi := ai dZ.out 1;try go_wp2
             have bP := aa.mk (az eZ.out);have bQ := aa.mk (az dZ.out);have bT := aa.mk (fK HB.out);clear eZ dZ HB;have eZ := bP;have dZ := bQ;have HB := bT;clear bP bQ bT;have M8 : 0 ≤ (bg : Int) := of_decide_eq_true (by first | (with_reducible assumption) | assumption);have M9 : bg < (aH.length : Int) := of_decide_eq_true (by first | (with_reducible assumption) | assumption);obtain ⟨lQ, aaG, Na, e249, qH, qI, qJ, qK, qL, AP, AQ⟩ := kK eP.out bg M8 M9;have AR := qL;have AU := qK;have AV := qJ;have AX := qI;have AY := qH
             cases e249;replace qH := ah HB.out qH;replace qI := ah HB.out qI;replace qJ := ah HB.out qJ;replace qK := ah HB.out qK;replace qL := ah HB.out qL;have AZ := aa.mk AQ;have V6 := aa.mk AP;clear AQ AP;replace M8 := eq_true M8;replace M9 := eq_true M9;have Nb : 0 ≤ (iU : Int) := of_decide_eq_true (by first | (with_reducible assumption) | assumption);have Nc : iU < (((aj aH bg).f1).length : Int) := of_decide_eq_true (by first | (with_reducible assumption) | assumption);obtain ⟨Lh, e250, qM⟩ := Kd.nC AZ.out iU Nb Nc;have A7 := qM
             cases e250;replace qM := ah HB.out qM;replace Nb := eq_true Nb;replace Nc := eq_true Nc;have Nf : 0 ≤ (iU : Int) := of_decide_eq_true (by first | (with_reducible assumption) | assumption);have Ng : iU < (bV.length : Int) := of_decide_eq_true (by first | (with_reducible assumption) | assumption);obtain ⟨A9, Gr, Gs, e251, qN, qO, Ba, Bb⟩ := nE AJ.out iU Nf Ng;have Bc := qO;have Bd := qN
             cases e251;replace qN := ah HB.out qN;replace qO := ah HB.out qO;have aiZ := aa.mk Bb;have JN := aa.mk Ba;clear Bb Ba;replace Nf := eq_true Nf;replace Ng := eq_true Ng;refine fu (n := 18) (S := fun w' => w'.cell? ⟨pU, 0, none⟩ = some (.int .i64 aR) ∧ w'.cell? ⟨pU, 1, none⟩ = some (.slice (some lQ) aH.length bN) ∧ w'.cell? ⟨kX, 0, none⟩ = some (.int .i64 bg) ∧ w'.cell? ⟨kX, 1, none⟩ = some (.slice (some A9) bV.length iX) ∧ w'.cell? (lQ.add ((bg).toNat * 5)) = some (.int .i64 ((aj aH bg).f0)) ∧ w'.cell? ⟨(lQ.add ((bg).toNat * 5)).block, (lQ.add ((bg).toNat * 5)).off + 1, none⟩ = some (.slice (some Lh) ((aj aH bg).f1).length Na) ∧ w'.cell? ⟨(lQ.add ((bg).toNat * 5)).block, (lQ.add ((bg).toNat * 5)).off + 2, none⟩ = some (.int .i64 ((aj aH bg).f2)) ∧ w'.cell? ⟨(lQ.add ((bg).toNat * 5)).block, (lQ.add ((bg).toNat * 5)).off + 3, none⟩ = some (.int .i64 ((aj aH bg).f3.f0)) ∧ w'.cell? ⟨(lQ.add ((bg).toNat * 5)).block, (lQ.add ((bg).toNat * 5)).off + 4, none⟩ = some (.int .i64 ((aj aH bg).f3.f1)) ∧ w'.cell? (Lh.add (iU).toNat) = some (.int .i64 (rd ((aj aH bg).f1) iU)) ∧ w'.cell? (A9.add ((iU).toNat * 2)) = some (.int .i64 ((bn bV iU).f0)) ∧ w'.cell? ⟨(A9.add ((iU).toNat * 2)).block, (A9.add ((iU).toNat * 2)).off + 1, none⟩ = some (.slice Gr ((bn bV iU).f1).length Gs)) (ds := []) #[false, false, false, false, false, false, false, false, false, false, false, false, false, false, false, false, false, false] (by kernel_rfl) rfl rfl ⟨(ae eZ.out 0).trans rfl, (ae eZ.out 1).trans rfl, (ae dZ.out 0).trans rfl, (ae dZ.out 1).trans rfl, (ah HB.out AY), (ah HB.out AX), (ah HB.out AV), (ah HB.out AU), (ah HB.out AR), (ah HB.out A7), (ah HB.out Bd), (ah HB.out Bc)⟩ (fun hHeld => ?_); refine dw aD.Jt aD.Ao (fun dA ji => ?_);generalize wr.drew = w31 at eZ dZ HB AZ aiZ qH qI qJ qK qL qM qN qO hHeld ⊢;refine fG (fuel := 2) [(1, 52), (3, 54), (8, 59), (11, 62), (13, 64), (0, 51), (2, 53), (4, 55), (5, 56), (6, 57), (7, 58), (9, 60), (10, 61), (12, 63), (14, 65), (15, 66)] #[true, true, true, true, true, true, true, true, true, true, true, true, true, true, true, true, false, false] (df dA.out ji.out _ _ _ (by kernel_rfl)) rfl (fun _ _ _ _ _ h => h) hHeld (a' := ?_) ?_ ?_;rotate_left
             ·iterate 16
               refine bC (v := ?_) (a1 := ?_) rfl rfl (Or.inl ⟨by rfl, ?_⟩) ?_ ?_;rotate_left 2
               ·rintro w' ⟨s0, s1, s2, s3, s4, s5, s6, s7, s8, s9, s10, s11⟩;go_simp;with_reducible rfl
               ·simp only [Act.put, List.setIfInBounds_toArray, List.set_cons_zero, List.set_cons_succ, bH, bI];rfl
              exact chain_nil
             refine fT (i := 16) (N := some 67) #[true, true, true, true, true, true, true, true, true, true, true, true, true, true, true, true, true, false] rfl rfl (dn dA.out (by kernel_rfl)) (by decide) (fun K hK => ?_);refine uC Try.func27 (by kernel_rfl) rfl #[.agg #[.int .i64 aR, .slice (some lQ) aH.length bN], .int .i64 (rd ((aj aH bg).f1) iU), .agg #[.int .i64 ((bn bV iU).f0), .slice Gr ((bn bV iU).f1).length Gs]] (by rfl) rfl rfl (by (try simp only [List.map_toArray, List.map_cons, List.map_nil]); first | done | rfl | (simp only [List.length_drop, List.length_take]; rfl)) ?_;with_reducible refine (ih k3 (by have := Gq.out; have := JM.out; have := xO.out; omega) aR _ _ aH (rd ((aj aH bg).f1) iU) ((bn bV iU).f0) _ _ ((bn bV iU).f1) false _ ?side1 ?side2 ?side3 ?side4 A23.out).mono ?_
             (case side1 => repeat (first | exact (Kd.bF eP.out HB.out) | (with_reducible refine Kd.dF ?_ _) | (with_reducible refine Kd.dG ?_ _) | (with_reducible refine Kd.eG ?_)));(case side2 => exact fP.out);(case side3 => repeat (first | exact (Kd.bF aiZ.out HB.out) | (with_reducible refine Kd.dF ?_ _) | (with_reducible refine Kd.dG ?_ _) | (with_reducible refine Kd.eG ?_)));(case side4 => exact JN.out);rintro e w32 ⟨rfl, hb⟩;refine ⟨_, rfl, ?_⟩;have bP := aa.mk (aC (bk eZ) hb);have bQ := aa.mk (aC (bk dZ) hb);have bT := aa.mk (aM (bO HB) hb);clear eZ dZ HB;have eZ := bP;have dZ := bQ;have HB := bT;clear bP bQ bT;(try clear hb);(try clear hb2);(try clear hk);(try clear hi);refine hK.out _ _ ⟨(ae eZ.out 0).trans rfl, (ae eZ.out 1).trans rfl, (ae dZ.out 0).trans rfl, (ae dZ.out 1).trans rfl, (ah HB.out AY), (ah HB.out AX), (ah HB.out AV), (ah HB.out AU), (ah HB.out AR), (ah HB.out A7), (ah HB.out Bd), (ah HB.out Bc)⟩ (fun hHeld => ?_);clear hK K;refine bS (a' := ?_) ?_ ?_;rotate_left
             ·show Act.put _ (some 67) _ = _;simp only [Act.put, List.setIfInBounds_toArray, List.set_cons_zero, List.set_cons_succ, bH, bI];rfl
             refine mR (i := 17) (N := some 68) (v := ?_) (a' := ?_) #[true, true, true, true, true, true, true, true, true, true, true, true, true, true, true, true, true, true] rfl rfl (ku dA.out (by kernel_rfl)) (fun _ _ _ h => h) (Or.inl ⟨by rfl, ?_⟩) ?_ ?_;rotate_left
             ·intro w';go_simp;with_reducible rfl
             rotate_left
             ·simp only [Act.put, List.setIfInBounds_toArray, List.set_cons_zero, List.set_cons_succ, bH, bI];rfl
             refine gH (dV dA.out (by kernel_rfl)) ?_;try go_wp2
             go_ret;exact ⟨by first | rfl | (simp [aW, aX] <;> rfl) | (simp [*, aW, aX] <;> rfl), bO HB⟩
           ·rw [if_neg vO] at H;exact absurd H (by simp)
          ·rw [if_neg c21] at H;exact absurd H (by simp)
         ·rw [if_neg c20] at H;exact absurd H (by simp)
        ·rw [if_neg c19] at H;exact absurd H (by simp)
       ·rw [if_neg c18] at H;have Yt : decide (iU < (bV.length : Int)) = false := decide_eq_false c18;clear c18;obtain rfl := Option.some.inj H;have aln := DC.out;have alo := Dz.out;have V8 : wr.cell? ⟨kX, 0, none⟩ = some (.int .i64 bg) := (ae dZ.out 0).trans rfl;have V9 : wr.cell? ⟨kX, 1, none⟩ = some (.slice jX bV.length iX) := (ae dZ.out 1).trans rfl;have Wd := ai dZ.out 0;have We := ai dZ.out 1;go_wp2;go_ret;exact ⟨by first | rfl | (simp [aW, aX] <;> rfl) | (simp [*, aW, aX] <;> rfl), bO HB⟩
end Go.Proofs.Ytamimodkcbbpmaa.Pr
end
section
namespace Go.Proofs.Ytamimodkcbbpmaa.Pr
open Go.RowKit Go.Proofs.YtamimodkcbbpmaaW.PrintWords Go.Proofs.YtamimodkcbbpmaaW.PrintLast Go.Proofs.YtamimodkcbbpmaaXW
set_option linter.unusedVariables false
set_option linter.unusedSimpArgs false
def R4.T5 : Bool × List (List Nat × List Nat) := (true, [([], []), ([0], [0]), ([], []), ([2], [2]), ([], []), ([4], [4]), ([1, 3, 5], [1, 3, 5]), ([], []), ([7], [7]), ([], []), ([9], [9]), ([], []), ([11], [11]), ([8, 10, 12, 6], [8, 10, 12]), ([6, 13], [6, 13]), ([14, 13, 0, 1, 2, 3, 4, 5, 6, 7, 8, 9, 10, 11, 12, 13, 14], [14])])
def R4.B5 : List Nat := [0, 1, 0, 4, 0, 16, 63, 0, 128, 0, 512, 0, 2048, 8191, 16383, 32767]
theorem R4.aja : iC .any (opsOf Try.f4 5) = R4.T5 := by kernel_rfl
theorem R4.aeq : fo R4.T5.2 R4.B5 = true := by kernel_rfl
set_option maxRecDepth 100000 in
set_option maxHeartbeats 8000000 in
theorem ag (KK : Nat) (n : Int) (A : Option Addr) (c : Nat) (l : List dO) (r : Int) (d1 : dU) (A1 : Option Addr) (k1 : Nat) (d2 : dU) (A2 : Option Addr) (k2 : Nat) (d3 : dU) (A3 : Option Addr) (k3 : Nat) (w : World)
  (hC : Kd.C sJ w A l.length l) (hc : l.length ≤ c) (Da : Kd.C k27 w A1 d1.f1.length d1.f1) (hc1 : d1.f1.length ≤ k1) (hC2 : Kd.C k27 w A2 d2.f1.length d2.f1) (hc2 : d2.f1.length ≤ k2) (hC3 : Kd.C k27 w A3 d3.f1.length d3.f1) (hc3 : d3.f1.length ≤ k3)
  (bf va vb : Bool) (hF : jE.f KK n l r d1.f0 d1.f1 d2.f0 d2.f1 d3.f0 d3.f1 = some bf)
  (h1 : bf = true → aD.f KK n l r d1.f0 d1.f1 = some va) (h2 : bf = true → aD.f KK n l r d2.f0 d2.f1 = some vb)
  (hT : bf = true → va = true → vb = true → ∃ p : Int, aJ.f KK n l d1.f0 d1.f1 d2.f0 d2.f1 = some p ∧ ∀ w', Below w.heap.size w w' → Calls Try.prog 32 #[.agg #[.int .i64 n, .slice A l.length c], .agg #[.int .i64 d1.f0, .slice A1 d1.f1.length k1], .agg #[.int .i64 d2.f0, .slice A2 d2.f1.length k2]] w' fun e w'' => e = .returned (.int .i64 p) ∧ Below w'.heap.size w' w'') :
  Calls Try.prog 4 #[.agg #[.int .i64 n, .slice A l.length c, .int .i64 r, .int .i64 d1.f0, .slice A1 d1.f1.length k1, .int .i64 d2.f0, .slice A2 d2.f1.length k2, .int .i64 d3.f0, .slice A3 d3.f1.length k3]] w fun e w' => e = .returned (.bool true) ∧ Below w.heap.size w w' := by
 have HC := aa.mk hC;have EY := aa.mk Da;have Uc := aa.mk hC2;have Uo := aa.mk hC3;have HT := aa.mk hT;have H1 := aa.mk h1;have H2 := aa.mk h2;have HF := aa.mk hF;clear hC Da hC2 hC3 hT h1 h2 hF;have LF : aa (∀ w', Below w.heap.size w w' → Calls Try.prog 26 #[.agg #[.int .i64 n, .slice A l.length c, .int .i64 r, .int .i64 d1.f0, .slice A1 d1.f1.length k1, .int .i64 d2.f0, .slice A2 d2.f1.length k2, .int .i64 d3.f0, .slice A3 d3.f1.length k3]] w' fun e w'' => e = .returned (.bool bf) ∧ Below w'.heap.size w' w'') := ⟨fun w' h => jE.calls KK n A c l r d1.f0 A1 k1 d1.f1 d2.f0 A2 k2 d2.f1 d3.f0 A3 k3 d3.f1 bf w' (Kd.bF HC.out h) hc (Kd.bF EY.out h) hc1 (Kd.bF Uc.out h) hc2 (Kd.bF Uo.out h) hc3 HF.out⟩;go_enter Try.func4, Try.ntmps4
 go_upto_region 1 with (fail)
 have hal := eX w (.cells #[.int .i64 n, .slice A l.length c, .int .i64 r, .int .i64 d1.f0, .slice A1 d1.f1.length k1, .int .i64 d2.f0, .slice A2 d2.f1.length k2, .int .i64 d3.f0, .slice A3 d3.f1.length k3] 29);have Dt := aa.mk hal.1;have yf := aa.mk hal.2;obtain ⟨b1, hb1⟩ : ∃ b1, b1 = w.heap.size := ⟨_, rfl⟩;obtain ⟨w1, hw1⟩ : ∃ w1, w1 = w.alloc (.cells #[.int .i64 n, .slice A l.length c, .int .i64 r, .int .i64 d1.f0, .slice A1 d1.f1.length k1, .int .i64 d2.f0, .slice A2 d2.f1.length k2, .int .i64 d3.f0, .slice A3 d3.f1.length k3] 29) := ⟨_, rfl⟩;rw [← hw1] at Dt yf ⊢;rw [← hb1] at yf ⊢;clear hb1 hw1 hal;have Gy : aa (∀ w' : World, w'.heap[b1]? = some (.cells #[.int .i64 n, .slice A l.length c, .int .i64 r, .int .i64 d1.f0, .slice A1 d1.f1.length k1, .int .i64 d2.f0, .slice A2 d2.f1.length k2, .int .i64 d3.f0, .slice A3 d3.f1.length k3] 29 (0, 0)) → w'.cell? ⟨b1, 0, none⟩ = some (.int .i64 n) ∧ w'.cell? ⟨b1, 1, none⟩ = some (.slice A l.length c) ∧ w'.cell? ⟨b1, 2, none⟩ = some (.int .i64 r) ∧ w'.cell? ⟨b1, 3, none⟩ = some (.int .i64 d1.f0) ∧ w'.cell? ⟨b1, 4, none⟩ = some (.slice A1 d1.f1.length k1) ∧ w'.cell? ⟨b1, 5, none⟩ = some (.int .i64 d2.f0) ∧ w'.cell? ⟨b1, 6, none⟩ = some (.slice A2 d2.f1.length k2) ∧ w'.cell? ⟨b1, 7, none⟩ = some (.int .i64 d3.f0) ∧ w'.cell? ⟨b1, 8, none⟩ = some (.slice A3 d3.f1.length k3)) := ⟨fun w' h => ⟨by rw [ae h 0]; rfl, by rw [ae h 1]; rfl, by rw [ae h 2]; rfl, by rw [ae h 3]; rfl, by rw [ae h 4]; rfl, by rw [ae h 5]; rfl, by rw [ae h 6]; rfl, by rw [ae h 7]; rfl, by rw [ae h 8]; rfl⟩⟩;have c0 : True := trivial;have c1 : True := trivial;have c2 : True := trivial;have c3 : True := trivial;have c4 : True := trivial;have c5 : True := trivial;have c6 : True := trivial;have c7 : True := trivial;have c8 : True := trivial
 cases bf with
 | false =>
  go_wp2_with (first | (go_at_call 25; refine (ig.calls true w1 rfl).mono ?_; rintro x w2 ⟨rfl, hB⟩; have Mf := aa.mk (aM Dt.out hB); have Rq := aa.mk (aC yf.out hB); clear hB c0 c1 c2 c3 c4 c5 c6 c7 c8; obtain ⟨c0, c1, c2, c3, c4, c5, c6, c7, c8⟩ := Gy.out w2 Rq.out) | (go_at_call 26; (with_reducible refine (LF.out w2 Mf.out).mono ?_); rintro x w3 ⟨rfl, hB⟩; have BD := aa.mk (aM Mf.out hB); have xO := aa.mk (aC Rq.out hB); clear hB c0 c1 c2 c3 c4 c5 c6 c7 c8; obtain ⟨c0, c1, c2, c3, c4, c5, c6, c7, c8⟩ := Gy.out w3 xO.out))
  go_ret;exact ⟨rfl, BD.out⟩
 | true =>
  have HV1 := aa.mk (H1.out rfl);have HV2 := aa.mk (H2.out rfl);clear H1 H2;have LV1 : aa (∀ w', Below w.heap.size w w' → Calls Try.prog 27 #[.agg #[.int .i64 n, .slice A l.length c], .int .i64 r, .agg #[.int .i64 d1.f0, .slice A1 d1.f1.length k1]] w' fun e w'' => e = .returned (.bool va) ∧ Below w'.heap.size w' w'') := ⟨fun w' h => aD.calls KK n A c l r d1.f0 A1 k1 d1.f1 va w' (Kd.bF HC.out h) hc (Kd.bF EY.out h) hc1 HV1.out⟩;have LV2 : aa (∀ w', Below w.heap.size w w' → Calls Try.prog 27 #[.agg #[.int .i64 n, .slice A l.length c], .int .i64 r, .agg #[.int .i64 d2.f0, .slice A2 d2.f1.length k2]] w' fun e w'' => e = .returned (.bool vb) ∧ Below w'.heap.size w' w'') := ⟨fun w' h => aD.calls KK n A c l r d2.f0 A2 k2 d2.f1 vb w' (Kd.bF HC.out h) hc (Kd.bF Uc.out h) hc2 HV2.out⟩
  cases va with
  | false =>
   go_wp2_with (first | (go_at_call 25; refine (ig.calls true w1 rfl).mono ?_; rintro x w2 ⟨rfl, hB⟩; have Mf := aa.mk (aM Dt.out hB); have Rq := aa.mk (aC yf.out hB); clear hB c0 c1 c2 c3 c4 c5 c6 c7 c8; obtain ⟨c0, c1, c2, c3, c4, c5, c6, c7, c8⟩ := Gy.out w2 Rq.out) | (go_at_call 26; (with_reducible refine (LF.out w2 Mf.out).mono ?_); rintro x w3 ⟨rfl, hB⟩; have BD := aa.mk (aM Mf.out hB); have xO := aa.mk (aC Rq.out hB); clear hB c0 c1 c2 c3 c4 c5 c6 c7 c8; obtain ⟨c0, c1, c2, c3, c4, c5, c6, c7, c8⟩ := Gy.out w3 xO.out) | (go_at_call 27; (with_reducible refine (LV1.out w3 BD.out).mono ?_); rintro x w4 ⟨rfl, hB⟩; have HQ4 := aa.mk (aM BD.out hB); have HK4 := aa.mk (aC xO.out hB); clear hB c0 c1 c2 c3 c4 c5 c6 c7 c8; obtain ⟨c0, c1, c2, c3, c4, c5, c6, c7, c8⟩ := Gy.out w4 HK4.out))
   go_ret;exact ⟨rfl, HQ4.out⟩
  | true =>
   cases vb with
   | false =>
    go_wp2_with (first | (go_at_call 25; refine (ig.calls true w1 rfl).mono ?_; rintro x w2 ⟨rfl, hB⟩; have Mf := aa.mk (aM Dt.out hB); have Rq := aa.mk (aC yf.out hB); clear hB c0 c1 c2 c3 c4 c5 c6 c7 c8; obtain ⟨c0, c1, c2, c3, c4, c5, c6, c7, c8⟩ := Gy.out w2 Rq.out) | (go_at_call 26; (with_reducible refine (LF.out w2 Mf.out).mono ?_); rintro x w3 ⟨rfl, hB⟩; have BD := aa.mk (aM Mf.out hB); have xO := aa.mk (aC Rq.out hB); clear hB c0 c1 c2 c3 c4 c5 c6 c7 c8; obtain ⟨c0, c1, c2, c3, c4, c5, c6, c7, c8⟩ := Gy.out w3 xO.out) | (go_at_call 27; (with_reducible refine (LV1.out w3 BD.out).mono ?_); rintro x w4 ⟨rfl, hB⟩; have HQ4 := aa.mk (aM BD.out hB); have HK4 := aa.mk (aC xO.out hB); clear hB c0 c1 c2 c3 c4 c5 c6 c7 c8; obtain ⟨c0, c1, c2, c3, c4, c5, c6, c7, c8⟩ := Gy.out w4 HK4.out) | (go_at_call 27; (with_reducible refine (LV2.out w4 HQ4.out).mono ?_); rintro x w5 ⟨rfl, hB⟩; have HQ5 := aa.mk (aM HQ4.out hB); have HK5 := aa.mk (aC HK4.out hB); clear hB c0 c1 c2 c3 c4 c5 c6 c7 c8; obtain ⟨c0, c1, c2, c3, c4, c5, c6, c7, c8⟩ := Gy.out w5 HK5.out))
    go_ret;exact ⟨rfl, HQ5.out⟩
   | true =>
    obtain ⟨p, g1, g2⟩ := HT.out rfl rfl rfl;have G1 := aa.mk g1;have LQ := aa.mk g2;clear g1 g2 HT;have LP : aa (∀ w', Below w.heap.size w w' → Calls Try.prog 31 #[.agg #[.int .i64 n, .slice A l.length c], .agg #[.int .i64 d1.f0, .slice A1 d1.f1.length k1], .agg #[.int .i64 d2.f0, .slice A2 d2.f1.length k2]] w' fun e w'' => e = .returned (.int .i64 p) ∧ Below w'.heap.size w' w'') := ⟨fun w' h => aJ.calls KK n A c l d1.f0 A1 k1 d1.f1 d2.f0 A2 k2 d2.f1 p w' (Kd.bF HC.out h) hc (Kd.bF EY.out h) hc1 (Kd.bF Uc.out h) hc2 G1.out⟩;go_upto_region 5 with (first | (go_at_call 25; refine (ig.calls true w1 rfl).mono ?_; rintro x w2 ⟨rfl, hB⟩; have Mf := aa.mk (aM Dt.out hB); have Rq := aa.mk (aC yf.out hB); clear hB c0 c1 c2 c3 c4 c5 c6 c7 c8; obtain ⟨c0, c1, c2, c3, c4, c5, c6, c7, c8⟩ := Gy.out w2 Rq.out) | (go_at_call 26; (with_reducible refine (LF.out w2 Mf.out).mono ?_); rintro x w3 ⟨rfl, hB⟩; have BD := aa.mk (aM Mf.out hB); have xO := aa.mk (aC Rq.out hB); clear hB c0 c1 c2 c3 c4 c5 c6 c7 c8; obtain ⟨c0, c1, c2, c3, c4, c5, c6, c7, c8⟩ := Gy.out w3 xO.out) | (go_at_call 27; (with_reducible refine (LV1.out w3 BD.out).mono ?_); rintro x w4 ⟨rfl, hB⟩; have HQ4 := aa.mk (aM BD.out hB); have HK4 := aa.mk (aC xO.out hB); clear hB c0 c1 c2 c3 c4 c5 c6 c7 c8; obtain ⟨c0, c1, c2, c3, c4, c5, c6, c7, c8⟩ := Gy.out w4 HK4.out) | (go_at_call 27; (with_reducible refine (LV2.out w4 HQ4.out).mono ?_); rintro x w5 ⟨rfl, hB⟩; have HQ5 := aa.mk (aM HQ4.out hB); have HK5 := aa.mk (aC HK4.out hB); clear hB c0 c1 c2 c3 c4 c5 c6 c7 c8; obtain ⟨c0, c1, c2, c3, c4, c5, c6, c7, c8⟩ := Gy.out w5 HK5.out))
    obtain ⟨v0, hv0⟩ : ∃ v0, v0 = w5 := ⟨_, rfl⟩;rw [← hv0] at HQ5 HK5 ⊢;clear hv0 c0 c1 c2 c3 c4 c5 c6 c7 c8;have HV0 := aa.mk (aM HQ5.out (dM (Below.refl v0.heap.size v0)));have HKv := aa.mk (aC HK5.out (dM (Below.refl v0.heap.size v0)));obtain ⟨c0, c1, c2, c3, c4, c5, c6, c7, c8⟩ := Gy.out v0.drew HKv.out;refine fu (n := 16) (S := fun w' => w'.cell? ⟨b1, 0, none⟩ = some (.int .i64 n) ∧ w'.cell? ⟨b1, 1, none⟩ = some (.slice A l.length c) ∧ w'.cell? ⟨b1, 3, none⟩ = some (.int .i64 d1.f0) ∧ w'.cell? ⟨b1, 4, none⟩ = some (.slice A1 d1.f1.length k1) ∧ w'.cell? ⟨b1, 5, none⟩ = some (.int .i64 d2.f0) ∧ w'.cell? ⟨b1, 6, none⟩ = some (.slice A2 d2.f1.length k2)) (ds := []) #[false, false, false, false, false, false, false, false, false, false, false, false, false, false, false, false] (by kernel_rfl) rfl rfl ⟨c0, c1, c3, c4, c5, c6⟩ (fun hHeld => ?_);refine dw R4.aja R4.aeq (fun dA ji => ?_);refine fG (fuel := 4) [(0, 28), (1, 29), (2, 30), (3, 31), (4, 32), (5, 33), (7, 35), (8, 36), (9, 37), (10, 38), (11, 39), (12, 40)] #[true, true, true, true, true, true, false, true, true, true, true, true, true, false, false, false] (df dA.out ji.out _ _ _ (by kernel_rfl)) rfl (fun _ _ _ _ _ h => h) hHeld (a' := ?_) ?_ ?_;rotate_left
    ·iterate 12
      refine bC (v := ?_) (a1 := ?_) rfl rfl (Or.inl ⟨by rfl, ?_⟩) ?_ ?_;rotate_left 2
      ·rintro w' ⟨s0, s1, s2, s3, s4, s5⟩;go_simp;with_reducible rfl
      ·simp only [Act.put, List.setIfInBounds_toArray, List.set_cons_zero, List.set_cons_succ, bH, bI];rfl
     exact chain_nil
    refine fT (i := 6) (N := some 34) #[true, true, true, true, true, true, true, true, true, true, true, true, true, false, false, false] rfl rfl (dn dA.out (by kernel_rfl)) (by decide) (fun K hK => ?_);refine call_ 31 #[.agg #[.int .i64 n, .slice A l.length c], .agg #[.int .i64 d1.f0, .slice A1 d1.f1.length k1], .agg #[.int .i64 d2.f0, .slice A2 d2.f1.length k2]] (by rfl) rfl ?_ ?_
    ·have zQ := kJ Try.func31 (by kernel_rfl) rfl #[.agg #[.int .i64 n, .slice A l.length c], .agg #[.int .i64 d1.f0, .slice A1 d1.f1.length k1], .agg #[.int .i64 d2.f0, .slice A2 d2.f1.length k2]] v0.drew;unfold execOp;simp [resolve, Deferred.ofValue, invoke, Act.eval, zQ]
    refine (LP.out v0.drew HV0.out).mono ?_;rintro x5 v1 ⟨rfl, hB⟩;have an1 := aa.mk hB;have HV1 := aa.mk (aM (HV0.out) hB);clear hB;refine ⟨_, rfl, ?_⟩;refine hK.out _ _ ⟨ah an1.out c0, ah an1.out c1, ah an1.out c3, ah an1.out c4, ah an1.out c5, ah an1.out c6⟩ (fun hHeld => ?_);clear hK K;refine bS (a' := ?_) ?_ ?_;rotate_left
    ·show Act.put _ (some 34) _ = _;simp only [Act.put, List.setIfInBounds_toArray, List.set_cons_zero, List.set_cons_succ, bH, bI];rfl
    refine fT (i := 13) (N := some 41) #[true, true, true, true, true, true, true, true, true, true, true, true, true, true, false, false] rfl rfl (dn dA.out (by kernel_rfl)) (by decide) (fun K hK => ?_);refine call_ 32 #[.agg #[.int .i64 n, .slice A l.length c], .agg #[.int .i64 d1.f0, .slice A1 d1.f1.length k1], .agg #[.int .i64 d2.f0, .slice A2 d2.f1.length k2]] (by rfl) rfl ?_ ?_
    ·have zQ := kJ Try.func32 (by kernel_rfl) rfl #[.agg #[.int .i64 n, .slice A l.length c], .agg #[.int .i64 d1.f0, .slice A1 d1.f1.length k1], .agg #[.int .i64 d2.f0, .slice A2 d2.f1.length k2]] v1;unfold execOp;simp [resolve, Deferred.ofValue, invoke, Act.eval, zQ]
    refine (LQ.out v1 HV1.out).mono ?_;rintro x6 v2 ⟨rfl, hB⟩;have an5 := aa.mk (aM an1.out hB);have HV2 := aa.mk (aM HV1.out hB);clear hB;refine ⟨_, rfl, ?_⟩;refine hK.out _ _ ⟨ah an5.out c0, ah an5.out c1, ah an5.out c3, ah an5.out c4, ah an5.out c5, ah an5.out c6⟩ (fun hHeld => ?_);clear hK K;refine bS (a' := ?_) ?_ ?_;rotate_left
    ·show Act.put _ (some 41) _ = _;simp only [Act.put, List.setIfInBounds_toArray, List.set_cons_zero, List.set_cons_succ, bH, bI];rfl
    refine fG (fuel := 0) [(14, 42), (15, 2)] #[true, true, true, true, true, true, true, true, true, true, true, true, true, true, true, true] (df dA.out ji.out _ _ _ (by kernel_rfl)) rfl (fun _ _ _ _ _ h => h) hHeld (a' := ?_) ?_ ?_;rotate_left
    ·iterate 2
      refine bC (v := ?_) (a1 := ?_) rfl rfl (Or.inl ⟨by rfl, ?_⟩) ?_ ?_;rotate_left 2
      ·rintro w' ⟨s0, s1, s2, s3, s4, s5⟩;go_simp;with_reducible rfl
      ·simp only [Act.put, List.setIfInBounds_toArray, List.set_cons_zero, List.set_cons_succ, bH, bI];rfl
     exact chain_nil
    refine gH (dV dA.out (by kernel_rfl)) ?_;clear c0 c1 c2 c3 c4 c5 c6 c7 c8 hHeld;go_wp2_with fail
    go_ret;exact ⟨by simp, HV2.out⟩
end Go.Proofs.Ytamimodkcbbpmaa.Pr
end
section
namespace Go.Proofs.Ytamimodkcbbpmaa.Pr
open Go.RowKit Go.Proofs.YtamimodkcbbpmaaW.PrintWords Go.Proofs.YtamimodkcbbpmaaW.PrintLast
set_option linter.unusedVariables false
set_option linter.unusedSimpArgs false
def Ev {α : Type} (f : Nat → Option α) (r : α) : Prop := ∃ K, ∀ k, K ≤ k → f k = some r
theorem Ev.const {α : Type} (r : α) : Ev (fun _ => some r) r := ⟨0, fun _ _ => rfl⟩
theorem Ev.succ {α : Type} {f g : Nat → Option α} {r : α} (hg : Ev g r) (h : ∀ k, f (k + 1) = g k) : Ev f r := by
 obtain ⟨K, hK⟩ := hg;refine ⟨K + 1, fun k hk => ?_⟩;obtain ⟨m, rfl⟩ : ∃ m, k = m + 1 := ⟨k - 1, by omega⟩;rw [h m];exact hK m (by omega)
theorem Ev.bind {α β : Type} {a : Nat → Option β} {b : β} {G : Nat → β → Option α} {r : α} (ha : Ev a b) (hG : Ev (fun k => G k b) r) : Ev (fun k => (a k).bind (G k)) r := by
 obtain ⟨K, hK⟩ := ha;obtain ⟨L, hL⟩ := hG;refine ⟨K + L, fun k hk => ?_⟩;show (a k).bind (G k) = some r;rw [hK k (by omega)];exact hL k (by omega)
theorem Ev.P7 {α : Type} {f : Nat → Option α} {r : α} (h : ∀ k, dz (f k) (f (k + 1))) {k : Nat} (hk : f k = some r) : Ev f r := by
 refine ⟨k, fun j hj => ?_⟩;obtain ⟨d, rfl⟩ : ∃ d, j = k + d := ⟨j - k, by omega⟩;clear hj;induction d with
 | zero => exact hk
 | succ d ih => exact h (k + d) r ih
theorem Ev.ex {α : Type} {f : Nat → Option α} {r : α} (h : Ev f r) : ∃ k, f k = some r := by
 obtain ⟨K, hK⟩ := h;exact ⟨K, hK K (Nat.le_refl _)⟩
theorem RY (i : Nat) (h : i < 9223372036854775807) : wrap64 ((i : Int) + 1) = ((i + 1 : Nat) : Int) := by unfold wrap64; omega
inductive VD (es : List dO) : Int → dU → Prop
 | mk (d : dU) (h0 : 0 ≤ d.f0) (h1 : d.f0 < (es.length : Int)) (hl : d.f1.length = (aj es d.f0).f1.length) (hk : ∀ j, j < d.f1.length → VD es ((aj es d.f0).f1.getD j 0) (d.f1.getD j z27)) : VD es (aj es d.f0).f0 d
theorem VD.inv {es : List dO} {root : Int} {d : dU} (h : VD es root d) : 0 ≤ d.f0 ∧ d.f0 < (es.length : Int) ∧ (aj es d.f0).f0 = root ∧ d.f1.length = (aj es d.f0).f1.length ∧ ∀ j, j < d.f1.length → VD es ((aj es d.f0).f1.getD j 0) (d.f1.getD j z27) := by
 cases h with
 | mk _ h0 h1 hl hk => exact ⟨h0, h1, rfl, hl, hk⟩
theorem fO.kid {d : dU} (h : fO d) (j : Nat) (hj : j < d.f1.length) : fO (d.f1.getD j z27) := by
 cases h with
 | mk _ _ _ hk => exact hk _ (ib _ _ _ hj)
theorem fO.len {d : dU} (h : fO d) : d.f1.length ≤ 9223372036854775807 := by
 cases h with
 | mk _ _ hl _ => exact hl
section
variable (n : Int) (es : List dO)
theorem Gx (d : dU) (hd : d.f1.length ≤ 9223372036854775807) (h0 : 0 ≤ d.f0) (h1 : d.f0 < (es.length : Int)) (hl : d.f1.length = (aj es d.f0).f1.length) (a b c e0 : Int)
  (hk : ∀ j, j < d.f1.length → ∃ r, Ev (fun k => aG.f k n es ((aj es d.f0).f1.getD j 0) (d.f1.getD j z27).f0 (d.f1.getD j z27).f1) r ∧ Ev (fun k => aD.f k n es ((aj es d.f0).f1.getD j 0) (d.f1.getD j z27).f0 (d.f1.getD j z27).f1) r ∧ (r = true ↔ VD es ((aj es d.f0).f1.getD j 0) (d.f1.getD j z27))) :
  ∀ m i, i + m = d.f1.length → ∃ r, Ev (fun k => aG.l0 k d.f1 (d.f1.length : Int) (i : Int) n es e0 (aj es d.f0).f1 a b c) r ∧ Ev (fun k => aD.l0 k (i : Int) n es d.f0 d.f1) r ∧ (r = true ↔ ∀ j, i ≤ j → j < d.f1.length → VD es ((aj es d.f0).f1.getD j 0) (d.f1.getD j z27))
 | 0, i, hi => by
  refine ⟨true, (Ev.const true).succ (fun k => ?_), (Ev.const true).succ (fun k => ?_), ⟨fun _ j h2 h3 => absurd h3 (by omega), fun _ => rfl⟩⟩
  ·unfold aG.l0;rw [if_neg (by omega)]
  ·unfold aD.l0;rw [if_neg (by omega)]
 | m + 1, i, hi => by
  obtain ⟨r1, ea, eb, hr1⟩ := hk i (by omega);have hw := RY i (by omega)
  cases r1 with
  | false =>
   refine ⟨false, (ea.bind (G := fun k t => if t = true then aG.l0 k d.f1 (d.f1.length : Int) ((i + 1 : Nat) : Int) n es e0 (aj es d.f0).f1 a b c else some false) (Ev.const false)).succ (fun k => ?_), (eb.bind (G := fun k t => if t = true then aD.l0 k ((i + 1 : Nat) : Int) n es d.f0 d.f1 else some false) (Ev.const false)).succ (fun k => ?_), ⟨fun h => (by cases h), fun h => (hr1.2 (h i (Nat.le_refl _) (by omega)))⟩⟩
   ·show aG.l0 (k + 1) _ _ _ _ _ _ _ _ _ _ = _;rw [aG.l0, if_pos (by omega), if_pos (by omega), if_pos (by omega), if_pos (by omega), hw];rfl
   ·show aD.l0 (k + 1) _ _ _ _ _ = _;rw [aD.l0, if_pos (by omega), if_pos h0, if_pos h1, if_pos (by omega), if_pos (by omega), hw];rfl
  | true =>
   obtain ⟨r, ec, ed, hr⟩ := Gx d hd h0 h1 hl a b c e0 hk m (i + 1) (by omega);refine ⟨r, (ea.bind (G := fun k t => if t = true then aG.l0 k d.f1 (d.f1.length : Int) ((i + 1 : Nat) : Int) n es e0 (aj es d.f0).f1 a b c else some false) ec).succ (fun k => ?_), (eb.bind (G := fun k t => if t = true then aD.l0 k ((i + 1 : Nat) : Int) n es d.f0 d.f1 else some false) ed).succ (fun k => ?_), ⟨fun h j h2 h3 => ?_, fun h => hr.2 (fun j h2 h3 => h j (by omega) h3)⟩⟩
   ·show aG.l0 (k + 1) _ _ _ _ _ _ _ _ _ _ = _;rw [aG.l0, if_pos (by omega), if_pos (by omega), if_pos (by omega), if_pos (by omega), hw];rfl
   ·show aD.l0 (k + 1) _ _ _ _ _ = _;rw [aD.l0, if_pos (by omega), if_pos h0, if_pos h1, if_pos (by omega), if_pos (by omega), hw];rfl
   ·by_cases hj : j = i
    ·subst hj; exact hr1.1 rfl
    ·exact hr.1 h j (by omega) h3
theorem zR : ∀ d, fO d → ∀ root, ∃ r, Ev (fun k => aG.f k n es root d.f0 d.f1) r ∧ Ev (fun k => aD.f k n es root d.f0 d.f1) r ∧ (r = true ↔ VD es root d) := by
 intro d hd;induction hd with
 | mk d hf hl hk ih =>
  intro root;by_cases h0 : d.f0 < 0
  ·refine ⟨false, ?_, ?_, ⟨fun h => (by cases h), fun h => absurd h.inv.1 (by omega)⟩⟩
   ·refine Ev.succ (g := fun k => aG.j0 k root true n es d.f0 d.f1) (Ev.succ (Ev.const false) (fun k => ?_)) (fun k => ?_)
    ·rw [aG.j0, if_pos rfl]
    ·rw [aG.f, if_pos h0]
   ·refine Ev.succ (g := fun k => aD.j0 k true n es d.f0 d.f1) (Ev.succ (Ev.const false) (fun k => ?_)) (fun k => ?_)
    ·rw [aD.j0, if_pos rfl]
    ·rw [aD.f, if_pos h0]
  ·by_cases h1 : d.f0 < (es.length : Int)
   ·by_cases h2 : (aj es d.f0).f0 = root
    ·subst h2;by_cases h3 : d.f1.length = (aj es d.f0).f1.length
     ·obtain ⟨r, ea, eb, hr⟩ := Gx n es d hl (by omega) h1 h3 (aj es d.f0).f2 (aj es d.f0).f3.f0 (aj es d.f0).f3.f1 (aj es d.f0).f0 (fun j hj => ih _ (ib _ _ _ hj) _) d.f1.length 0 (by omega);have hne1 : ((((aj es d.f0).f1).length : Int) != (d.f1.length : Int)) = false := by rw [bne_eq_false_iff_eq]; omega
      have hne2 : ((d.f1.length : Int) != (((aj es d.f0).f1).length : Int)) = false := by rw [bne_eq_false_iff_eq]; omega
      refine ⟨r, ?_, ?_, hr.trans ⟨fun h => VD.mk d (by omega) h1 h3 (fun j hj => h j (Nat.zero_le _) hj), fun h j _ hj => h.inv.2.2.2.2 j hj⟩⟩
      ·refine Ev.succ (g := fun k => aG.j0 k (aj es d.f0).f0 false n es d.f0 d.f1) (Ev.succ (g := fun k => aG.j1 k (aj es d.f0).f0 n es d.f0 d.f1) (Ev.succ (g := fun k => aG.j2 k false n es d.f0 d.f1 (aj es d.f0).f0 (aj es d.f0).f1 (aj es d.f0).f2 (aj es d.f0).f3.f0 (aj es d.f0).f3.f1) (Ev.succ (g := fun k => aG.j3 k n es d.f0 d.f1 (aj es d.f0).f0 (aj es d.f0).f1 (aj es d.f0).f2 (aj es d.f0).f3.f0 (aj es d.f0).f3.f1) (Ev.succ ea (fun k => ?_)) (fun k => ?_)) (fun k => ?_)) (fun k => ?_)) (fun k => ?_)
       ·rw [aG.j3]; rfl
       ·rw [aG.j2, if_neg (by decide)]
       ·rw [aG.j1, if_pos (by omega), if_pos h1, if_pos rfl, hne1]
       ·rw [aG.j0, if_neg (by decide)]
       ·rw [aG.f, if_neg h0, decide_eq_false (by omega)]
      ·refine Ev.succ (g := fun k => aD.j0 k false n es d.f0 d.f1) (Ev.succ (g := fun k => aD.j1 k n es d.f0 d.f1) (Ev.succ eb (fun k => ?_)) (fun k => ?_)) (fun k => ?_)
       ·rw [aD.j1]; rfl
       ·rw [aD.j0, if_neg (by decide)]
       ·rw [aD.f, if_neg h0, if_neg (by omega), if_pos (by omega), if_pos h1, if_pos rfl, hne2]
     ·have hne1 : ((((aj es d.f0).f1).length : Int) != (d.f1.length : Int)) = true := by rw [bne_iff_ne]; omega
      have hne2 : ((d.f1.length : Int) != (((aj es d.f0).f1).length : Int)) = true := by rw [bne_iff_ne]; omega
      refine ⟨false, ?_, ?_, ⟨fun h => (by cases h), fun h => absurd h.inv.2.2.2.1 h3⟩⟩
      ·refine Ev.succ (g := fun k => aG.j0 k (aj es d.f0).f0 false n es d.f0 d.f1) (Ev.succ (g := fun k => aG.j1 k (aj es d.f0).f0 n es d.f0 d.f1) (Ev.succ (g := fun k => aG.j2 k true n es d.f0 d.f1 (aj es d.f0).f0 (aj es d.f0).f1 (aj es d.f0).f2 (aj es d.f0).f3.f0 (aj es d.f0).f3.f1) (Ev.succ (Ev.const false) (fun k => ?_)) (fun k => ?_)) (fun k => ?_)) (fun k => ?_)
       ·rw [aG.j2, if_pos rfl]
       ·rw [aG.j1, if_pos (by omega), if_pos h1, if_pos rfl, hne1]
       ·rw [aG.j0, if_neg (by decide)]
       ·rw [aG.f, if_neg h0, decide_eq_false (by omega)]
      ·refine Ev.succ (g := fun k => aD.j0 k true n es d.f0 d.f1) (Ev.succ (Ev.const false) (fun k => ?_)) (fun k => ?_)
       ·rw [aD.j0, if_pos rfl]
       ·rw [aD.f, if_neg h0, if_neg (by omega), if_pos (by omega), if_pos h1, if_pos rfl, hne2]
    ·refine ⟨false, ?_, ?_, ⟨fun h => (by cases h), fun h => absurd h.inv.2.2.1 h2⟩⟩
     ·refine Ev.succ (g := fun k => aG.j0 k root false n es d.f0 d.f1) (Ev.succ (g := fun k => aG.j1 k root n es d.f0 d.f1) (Ev.succ (g := fun k => aG.j2 k true n es d.f0 d.f1 (aj es d.f0).f0 (aj es d.f0).f1 (aj es d.f0).f2 (aj es d.f0).f3.f0 (aj es d.f0).f3.f1) (Ev.succ (Ev.const false) (fun k => ?_)) (fun k => ?_)) (fun k => ?_)) (fun k => ?_)
      ·rw [aG.j2, if_pos rfl]
      ·rw [aG.j1, if_pos (by omega), if_pos h1, if_neg h2]
      ·rw [aG.j0, if_neg (by decide)]
      ·rw [aG.f, if_neg h0, decide_eq_false (by omega)]
     ·refine Ev.succ (g := fun k => aD.j0 k true n es d.f0 d.f1) (Ev.succ (Ev.const false) (fun k => ?_)) (fun k => ?_)
      ·rw [aD.j0, if_pos rfl]
      ·rw [aD.f, if_neg h0, if_neg (by omega), if_pos (by omega), if_pos h1, if_neg h2]
   ·refine ⟨false, ?_, ?_, ⟨fun h => (by cases h), fun h => absurd h.inv.2.1 h1⟩⟩
    ·refine Ev.succ (g := fun k => aG.j0 k root true n es d.f0 d.f1) (Ev.succ (Ev.const false) (fun k => ?_)) (fun k => ?_)
     ·rw [aG.j0, if_pos rfl]
     ·rw [aG.f, if_neg h0, decide_eq_true (by omega)]
    ·refine Ev.succ (g := fun k => aD.j0 k true n es d.f0 d.f1) (Ev.succ (Ev.const false) (fun k => ?_)) (fun k => ?_)
     ·rw [aD.j0, if_pos rfl]
     ·rw [aD.f, if_neg h0, if_pos (by omega)]
end
theorem Ev.mp {α : Type} {f g : Nat → Option α} {r : α} (h : Ev g r) (e : ∀ k, f k = g k) : Ev f r := by
 obtain ⟨K, hK⟩ := h;exact ⟨K, fun k hk => (e k).trans (hK k hk)⟩
structure kF (n : Int) (es : List dO) : Prop where
 n1 : 1 ≤ n
 n2 : n ≤ 30
 len : es.length ≤ 60
 ok : zt n.toNat es
 co : zO es
 ta : ∀ e, e ∈ es → e.f1.length ≤ 4
section
variable (n : Int) (es : List dO)
theorem ND (hco : zO es) (d : dU) (h0 : 0 ≤ d.f0) (h1 : d.f0 < (es.length : Int)) (acc : List dK) (hal : acc.length ≤ 1000000) (hok : ∀ v, v ∈ acc → okV v) :
  Ev (fun k => bU.f k ((aj es d.f0).f2) acc) ((gD (aj es d.f0).f2 acc).f0, (gD (aj es d.f0).f2 acc).f1) ∧ Ev (fun k => bz.f k ((aj es d.f0).f2) acc) ((gD (aj es d.f0).f2 acc).f0, (gD (aj es d.f0).f2 acc).f1) := by
 obtain ⟨i, hi⟩ : ∃ i : Nat, d.f0 = (i : Int) := ⟨d.f0.toNat, by omega⟩;have hc := nM hco i (by omega);rw [← hi] at hc;exact ⟨Ev.P7 (fun k => bU.mono _ _ k) (uL _ acc hal), Ev.P7 (fun k => bz.mono _ _ k) (mh _ acc hal hc.1 hc.2 hok)⟩
end
theorem IW (d : dU) (hl : d.f1.length ≤ 9223372036854775807) (hk : ∀ j, j < d.f1.length → ∃ v, Ev (fun k => aY.f k (d.f1.getD j z27).f0 (d.f1.getD j z27).f1) v) : ∀ m i (x : Int), i + m = d.f1.length → ∃ v, Ev (fun k => aY.l0 k x (i : Int) d.f0 d.f1) v
 | 0, i, x, hi => by
  refine ⟨x, (Ev.const x).succ (fun k => ?_)⟩;show aY.l0 (k + 1) _ _ _ _ = _;rw [aY.l0, if_neg (by omega)]
 | m + 1, i, x, hi => by
  obtain ⟨v, ea⟩ := hk i (by omega);have hw := RY i (by omega);obtain ⟨r, ec⟩ := IW d hl hk m (i + 1) (wrap64 (x + v)) (by omega);refine ⟨r, (Ev.bind (G := fun k t => aY.l0 k (wrap64 (x + t)) ((i + 1 : Nat) : Int) d.f0 d.f1) ea ec).succ (fun k => ?_)⟩;show aY.l0 (k + 1) _ _ _ _ = _;rw [aY.l0, if_pos (by omega), if_pos (by omega), hw];rfl
theorem Kl {d : dU} (h : fO d) : ∃ v, Ev (fun k => aY.f k d.f0 d.f1) v := by
 induction h with
 | mk d hf hl hk ih =>
  obtain ⟨v, ea⟩ := IW d hl (fun j hj => ih _ (ib _ _ _ hj)) d.f1.length 0 1 (by omega);refine ⟨v, ea.succ (fun k => ?_)⟩;show aY.f (k + 1) _ _ = _;rw [aY.f];rfl
section
variable (n : Int) (es : List dO)
theorem zF (hl : es.length ≤ 9223372036854775807) (q : Nat) (hq : q < es.length) (ht : (aj es (q : Int)).f1.length ≤ 9223372036854775807) (a b c e0 : Int) {r : Bool} (hrest : Ev (fun k => aA.l0 k ((q + 1 : Nat) : Int) n es) r) :
  ∀ m i, i + m = (aj es (q : Int)).f1.length → Ev (fun k => aA.l1 k (q : Int) (i : Int) n es e0 (aj es (q : Int)).f1 a b c) (((aj es (q : Int)).f1.drop i).all (AB n) && r)
 | 0, i, hi => by
  have hi2 : i = (aj es (q : Int)).f1.length := by omega
  rw [hi2, List.drop_length];refine hrest.succ (fun k => ?_);show aA.l1 (k + 1) _ _ _ _ _ _ _ _ _ = _;rw [aA.l1, if_neg (by omega), RY q (by omega)]
 | m + 1, i, hi => by
  have hlt : i < (aj es (q : Int)).f1.length := by omega
  have hd := o7 (AB n) (aj es (q : Int)).f1 0 i hlt;have hrd : rd (aj es (q : Int)).f1 (i : Int) = (aj es (q : Int)).f1.getD i 0 := rfl;rw [hd];by_cases h1 : (aj es (q : Int)).f1.getD i 0 < 0
  ·rw [show AB n ((aj es (q : Int)).f1.getD i 0) = false by unfold AB; rw [decide_eq_false (by omega)]; rfl];refine (Ev.const false).succ (fun k => ?_);show aA.l1 (k + 1) _ _ _ _ _ _ _ _ _ = _;rw [aA.l1, if_pos (by omega), if_pos (by omega), hrd, if_pos h1]
  ·by_cases h2 : (aj es (q : Int)).f1.getD i 0 ≥ n
   ·rw [show AB n ((aj es (q : Int)).f1.getD i 0) = false by unfold AB; rw [decide_eq_false (show ¬ (aj es (q : Int)).f1.getD i 0 < n by omega), Bool.and_false]];refine (Ev.const false).succ (fun k => ?_);show aA.l1 (k + 1) _ _ _ _ _ _ _ _ _ = _;rw [aA.l1, if_pos (by omega), if_pos (by omega), hrd, if_neg h1, if_pos h2]
   ·rw [show AB n ((aj es (q : Int)).f1.getD i 0) = true by unfold AB; rw [decide_eq_true (show 0 ≤ (aj es (q : Int)).f1.getD i 0 by omega), decide_eq_true (show (aj es (q : Int)).f1.getD i 0 < n by omega)]; rfl, Bool.true_and];refine (zF hl q hq ht a b c e0 hrest m (i + 1) (by omega)).succ (fun k => ?_);show aA.l1 (k + 1) _ _ _ _ _ _ _ _ _ = _;rw [aA.l1, if_pos (by omega), if_pos (by omega), hrd, if_neg h1, if_neg h2, RY i (by omega)]
theorem Cq (hl : es.length ≤ 9223372036854775807) (ht : ∀ e, e ∈ es → e.f1.length ≤ 9223372036854775807) : ∀ m i, i + m = es.length → Ev (fun k => aA.l0 k (i : Int) n es) ((es.drop i).all (edgeOk n))
 | 0, i, hi => by
  have hi2 : i = es.length := by omega
  rw [hi2, List.drop_length];refine (Ev.const true).succ (fun k => ?_);show aA.l0 (k + 1) _ _ _ = _;rw [aA.l0, if_neg (by omega)]
 | m + 1, i, hi => by
  have hlt : i < es.length := by omega
  have hd := o7 (edgeOk n) es (aj es (i : Int)) i hlt;have hge : es.getD i (aj es (i : Int)) = aj es (i : Int) := by
   simp only [aj, Int.toNat_natCast, List.getD_eq_getElem?_getD, List.getElem?_eq_getElem hlt, Option.getD_some]
  rw [hge] at hd;have ih := Cq hl ht m (i + 1) (by omega);have hin := zF n es hl i hlt (ht _ (by simp only [aj, Int.toNat_natCast]; exact ib _ _ _ hlt)) (aj es (i : Int)).f2 (aj es (i : Int)).f3.f0 (aj es (i : Int)).f3.f1 (aj es (i : Int)).f0 ih (aj es (i : Int)).f1.length 0 (by omega);rw [List.drop_zero] at hin;have hE : edgeOk n (aj es (i : Int)) = ((AB n (aj es (i : Int)).f0 && (decide (0 ≤ (aj es (i : Int)).f2) && decide ((aj es (i : Int)).f2 ≤ 1099511627776))) && (aj es (i : Int)).f1.all (AB n)) := rfl;rw [hd, hE];have bad : ∀ r : Bool, (AB n (aj es (i : Int)).f0 && (decide (0 ≤ (aj es (i : Int)).f2) && decide ((aj es (i : Int)).f2 ≤ 1099511627776))) = false → Ev (fun k => aA.j4 k (i : Int) true n es (aj es (i : Int)).f0 (aj es (i : Int)).f1 (aj es (i : Int)).f2 (aj es (i : Int)).f3.f0 (aj es (i : Int)).f3.f1) (((AB n (aj es (i : Int)).f0 && (decide (0 ≤ (aj es (i : Int)).f2) && decide ((aj es (i : Int)).f2 ≤ 1099511627776))) && (aj es (i : Int)).f1.all (AB n)) && r) := fun r h => by
   rw [h];refine (Ev.const false).succ (fun k => ?_);rw [aA.j4, if_pos rfl]
  refine Ev.succ (g := fun k => aA.j3 k (i : Int) n es) ?_ (fun k => by show aA.l0 (k + 1) _ _ _ = _; rw [aA.l0, if_pos (by omega)]);by_cases h1 : (aj es (i : Int)).f0 < 0
  ·refine (bad _ (by unfold AB; rw [decide_eq_false (show ¬ 0 ≤ (aj es (i : Int)).f0 by omega)]; rfl)).succ (fun k => ?_);rw [aA.j3, if_pos (by omega), if_pos (by omega), if_pos h1]
  ·by_cases h2 : (aj es (i : Int)).f0 ≥ n
   ·refine (bad _ (by unfold AB; rw [decide_eq_false (show ¬ (aj es (i : Int)).f0 < n by omega), Bool.and_false]; rfl)).succ (fun k => ?_);rw [aA.j3, if_pos (by omega), if_pos (by omega), if_neg h1, if_pos h2]
   ·by_cases h3 : (aj es (i : Int)).f2 < 0
    ·refine (bad _ (by rw [decide_eq_false (show ¬ 0 ≤ (aj es (i : Int)).f2 by omega), Bool.false_and, Bool.and_false])).succ (fun k => ?_);rw [aA.j3, if_pos (by omega), if_pos (by omega), if_neg h1, if_neg h2, if_pos h3]
    ·by_cases h4 : (aj es (i : Int)).f2 > 1099511627776
     ·refine (bad _ (by rw [decide_eq_false (show ¬ (aj es (i : Int)).f2 ≤ 1099511627776 by omega), Bool.and_false, Bool.and_false])).succ (fun k => ?_);rw [aA.j3, if_pos (by omega), if_pos (by omega), if_neg h1, if_neg h2, if_neg h3, decide_eq_true h4]
     ·rw [show (AB n (aj es (i : Int)).f0 && (decide (0 ≤ (aj es (i : Int)).f2) && decide ((aj es (i : Int)).f2 ≤ 1099511627776))) = true by unfold AB; rw [decide_eq_true (show 0 ≤ (aj es (i : Int)).f0 by omega), decide_eq_true (show (aj es (i : Int)).f0 < n by omega), decide_eq_true (show 0 ≤ (aj es (i : Int)).f2 by omega), decide_eq_true (show (aj es (i : Int)).f2 ≤ 1099511627776 by omega)]; rfl, Bool.true_and];refine Ev.succ (g := fun k => aA.j4 k (i : Int) false n es (aj es (i : Int)).f0 (aj es (i : Int)).f1 (aj es (i : Int)).f2 (aj es (i : Int)).f3.f0 (aj es (i : Int)).f3.f1) (Ev.succ (g := fun k => aA.j5 k (i : Int) n es (aj es (i : Int)).f0 (aj es (i : Int)).f1 (aj es (i : Int)).f2 (aj es (i : Int)).f3.f0 (aj es (i : Int)).f3.f1) (hin.succ (fun k => ?_)) (fun k => ?_)) (fun k => ?_)
      ·rw [aA.j5]; rfl
      ·rw [aA.j4, if_neg (by decide)]
      ·rw [aA.j3, if_pos (by omega), if_pos (by omega), if_neg h1, if_neg h2, if_neg h3, decide_eq_false h4]
theorem zS (hl : es.length ≤ 9223372036854775807) (ht : ∀ e, e ∈ es → e.f1.length ≤ 9223372036854775807) : Ev (fun k => aA.f k n es) (jJ n es) := by
 have hv : jJ n es = ((decide (1 ≤ n) && decide (n ≤ 1048576)) && es.all (edgeOk n)) := rfl;have h0 := Cq n es hl ht es.length 0 (by omega);rw [List.drop_zero] at h0;have bad : Ev (fun k => aA.j0 k true n es) false := (Ev.const false).succ (fun k => by rw [aA.j0, if_pos rfl]);by_cases h1 : n < 1
 ·rw [hv, decide_eq_false (show ¬ 1 ≤ n by omega)];exact bad.mp (fun k => by rw [aA.f, if_pos h1])
 ·by_cases h2 : n > 1048576
  ·rw [hv, decide_eq_false (show ¬ n ≤ 1048576 by omega), Bool.and_false];exact bad.mp (fun k => by rw [aA.f, if_neg h1, decide_eq_true h2])
  ·rw [hv, decide_eq_true (show 1 ≤ n by omega), decide_eq_true (show n ≤ 1048576 by omega)];have h3 : Ev (fun k => aA.j0 k false n es) (es.all (edgeOk n)) := Ev.succ (g := fun k => aA.j1 k n es) (h0.succ (fun k => by rw [aA.j1]; rfl)) (fun k => by rw [aA.j0, if_neg (by decide)]);exact h3.mp (fun k => by rw [aA.f, if_neg h1, decide_eq_false h2])
end
section
variable (es : List dO)
mutual
def gZ : dU → dK
 | ⟨e, ks⟩ => gD (aj es e).f2 (lg ks)
def lg : List dU → List dK
 | [] => []
 | d :: ds => gZ d :: lg ds
end
mutual
def iw : dU → dU → Int
 | ⟨e, ks⟩, b => if pW (gZ es ⟨e, ks⟩) (gZ es b) = true then -1 else if pW (gZ es b) (gZ es ⟨e, ks⟩) = true then 1 else if e < b.f0 then -1 else if e > b.f0 then 1 else gK ks b.f1
def gK : List dU → List dU → Int
 | [], _ => 0
 | d :: ds, bs => match bs with
  | [] => 0
  | b :: bs => if iw d b = 0 then gK ds bs else iw d b
end
end
section
variable {es : List dO}
theorem fU : ∀ l : List dU, (lg es l).length = l.length
 | [] => rfl
 | d :: l => by
  have ih := fU l;simp only [lg, List.length_cons, ih]
theorem mP : ∀ (l : List dU) (j : Nat), j < l.length → (lg es l).getD j z34 = gZ es (l.getD j z27)
 | d :: l, 0, _ => rfl
 | d :: l, j + 1, h => by
  have ih := mP l j (by simpa using h);simp only [lg, List.getD_cons_succ];exact ih
 | [], j, h => by simp at h
theorem xc (d : dU) : gZ es d = gD (aj es d.f0).f2 (lg es d.f1) := by
 obtain ⟨e, ks⟩ := d;rw [gZ]
theorem Cr (a b : dU) : iw es a b = if pW (gZ es a) (gZ es b) = true then -1 else if pW (gZ es b) (gZ es a) = true then 1 else if a.f0 < b.f0 then -1 else if a.f0 > b.f0 then 1 else gK es a.f1 b.f1 := by
 obtain ⟨e, ks⟩ := a;rw [iw]
theorem VD.der (hco : zO es) {root : Int} {d : dU} (h : VD es root d) : JC es root (gZ es d) := by
 induction h with
 | mk d h0 h1 hl hk ih =>
  obtain ⟨q, hq⟩ : ∃ q : Nat, d.f0 = (q : Int) := ⟨d.f0.toNat, by omega⟩;rw [xc];rw [hq] at hl ih ⊢;refine JC.mk q (by omega) _ (by rw [fU]; exact hl) (fun j hj => ?_);rw [fU] at hj;rw [mP _ _ hj];exact ih j hj
def Cs (ns : List Int) (l : List dU) : Prop := l.length = ns.length ∧ ∀ j, j < l.length → VD es (ns.getD j 0) (l.getD j z27)
theorem Cs.cons {n : Int} {ns : List Int} {d : dU} {l : List dU} (h : Cs (es := es) (n :: ns) (d :: l)) : VD es n d ∧ Cs (es := es) ns l :=
 ⟨h.2 0 (by simp), by simpa using h.1, fun j hj => h.2 (j + 1) (by simpa using hj)⟩
theorem VD.kids {root : Int} {d : dU} (h : VD es root d) : Cs (es := es) (aj es d.f0).f1 d.f1 := ⟨h.inv.2.2.2.1, h.inv.2.2.2.2⟩
structure Xb (a b : dU) : Prop where
 aba : iw es a b = - iw es b a
 rng : -1 ≤ iw es a b ∧ iw es a b ≤ 1
 zero : iw es a b = 0 ↔ a = b
theorem Rt {x y : dK} (h : pW x y = true) : pW y x = false := by
 rw [rC];have := (za x y).1 h;unfold oV;omega
theorem Ur {x y : dK} (h1 : pW x y = false) (h2 : pW y x = false) : x = y := ((rC y x).1 h2).antisymm ((rC x y).1 h1)
theorem Y7 : ∀ (l : List dU), (∀ d, d ∈ l → ∀ root b, VD es root d → VD es root b → Xb (es := es) d b) → ∀ (ns : List Int) (l' : List dU), Cs (es := es) ns l → Cs (es := es) ns l' → gK es l l' = - gK es l' l ∧ (-1 ≤ gK es l l' ∧ gK es l l' ≤ 1) ∧ (gK es l l' = 0 ↔ l = l')
 | [], _, ns, l', h, h' => by
  have hl : l' = [] := List.eq_nil_of_length_eq_zero (by rw [h'.1, ← h.1]; rfl);subst hl;exact ⟨by simp [gK], by simp [gK], by simp [gK]⟩
 | d :: l, hd, [], l', h, h' => by have := h.1; simp at this
 | d :: l, hd, n :: ns, [], h, h' => by have := h'.1; simp at this
 | d :: l, hd, n :: ns, b :: l', h, h' => by
  obtain ⟨v1, s1⟩ := h.cons;obtain ⟨v2, s2⟩ := h'.cons;obtain ⟨i1, i2, i3⟩ := Y7 l (fun x hx => hd x (List.mem_cons_of_mem _ hx)) ns l' s1 s2;have o := hd d (List.mem_cons_self ..) n b v1 v2;have e1 : gK es (d :: l) (b :: l') = if iw es d b = 0 then gK es l l' else iw es d b := by rw [gK]
  have e2 : gK es (b :: l') (d :: l) = if iw es b d = 0 then gK es l' l else iw es b d := by rw [gK]
  have oa := o.aba;have org := o.rng;rw [e1, e2];by_cases hz : iw es d b = 0
  ·have hz2 : iw es b d = 0 := by omega
   have hdb := o.zero.1 hz;rw [if_pos hz, if_pos hz2];refine ⟨i1, i2, i3.trans ⟨fun h => by rw [hdb, h], fun h => by injection h⟩⟩
  ·have hz2 : ¬ iw es b d = 0 := by omega
   rw [if_neg hz, if_neg hz2];refine ⟨oa, org, ⟨fun h => absurd h hz, fun h => absurd (o.zero.2 (by injection h)) hz⟩⟩
theorem Us (d : dU) (hk : ∀ x, x ∈ d.f1 → ∀ root b, VD es root x → VD es root b → Xb (es := es) x b) (root : Int) (b : dU) (hd : VD es root d) (hb : VD es root b) : Xb (es := es) d b := by
 have e1 := Cr (es := es) d b;have e2 := Cr (es := es) b d;by_cases h1 : pW (gZ es d) (gZ es b) = true
 ·have h2 := Rt h1;rw [if_pos h1] at e1;rw [if_neg (by rw [h2]; decide), if_pos h1] at e2;refine ⟨by rw [e1, e2], by rw [e1]; decide, ⟨fun h => by rw [e1] at h; exact absurd h (by decide), fun h => ?_⟩⟩;subst h;rw [h1] at h2
  cases h2
 ·have h1' : pW (gZ es d) (gZ es b) = false := Bool.eq_false_iff.2 h1;by_cases h2 : pW (gZ es b) (gZ es d) = true
  ·rw [if_neg h1, if_pos h2] at e1;rw [if_pos h2] at e2;refine ⟨by rw [e1, e2]; rfl, by rw [e1]; decide, ⟨fun h => by rw [e1] at h; exact absurd h (by decide), fun h => ?_⟩⟩;subst h;exact absurd h2 h1
  ·rw [if_neg h1, if_neg h2] at e1;rw [if_neg h2, if_neg h1] at e2;by_cases h3 : d.f0 < b.f0
   ·rw [if_pos h3] at e1;rw [if_neg (by omega), if_pos (by omega)] at e2;refine ⟨by rw [e1, e2], by rw [e1]; decide, ⟨fun h => by rw [e1] at h; exact absurd h (by decide), fun h => by subst h; omega⟩⟩
   ·by_cases h4 : d.f0 > b.f0
    ·rw [if_neg h3, if_pos h4] at e1;rw [if_pos (by omega)] at e2;refine ⟨by rw [e1, e2]; rfl, by rw [e1]; decide, ⟨fun h => by rw [e1] at h; exact absurd h (by decide), fun h => by subst h; omega⟩⟩
    ·have hf : d.f0 = b.f0 := by omega
     rw [if_neg h3, if_neg h4] at e1;rw [if_neg (by omega), if_neg (by omega)] at e2;have hbk := hb.kids;rw [← hf] at hbk;obtain ⟨i1, i2, i3⟩ := Y7 d.f1 hk _ b.f1 hd.kids hbk;have hz : d.f1 = b.f1 ↔ d = b := by
      obtain ⟨x, xs⟩ := d;obtain ⟨y, ys⟩ := b;simp only at hf;subst hf;exact ⟨fun h => by simp only at h; rw [h], fun h => by injection h⟩
     refine ⟨by rw [e1, e2]; exact i1, by rw [e1]; exact i2, by rw [e1]; exact i3.trans hz⟩
theorem zh {d : dU} (hf : fO d) : ∀ root b, VD es root d → VD es root b → Xb (es := es) d b := by
 induction hf with
 | mk d _ _ _ ih => exact fun root b => Us d ih root b
theorem Ru {x y z : dK} (h1 : pW x y = true) (h2 : pW y z = true) : pW x z = true := by
 rw [za] at *;omega
theorem NF (a b : dU) : iw es a b ≤ 0 ↔ pW (gZ es a) (gZ es b) = true ∨ (gZ es a = gZ es b ∧ (a.f0 < b.f0 ∨ (a.f0 = b.f0 ∧ gK es a.f1 b.f1 ≤ 0))) := by
 rw [Cr];by_cases h1 : pW (gZ es a) (gZ es b) = true
 ·rw [if_pos h1];exact ⟨fun _ => Or.inl h1, fun _ => by decide⟩
 ·rw [if_neg h1];by_cases h2 : pW (gZ es b) (gZ es a) = true
  ·rw [if_pos h2];refine ⟨fun h => absurd h (by decide), fun h => ?_⟩;rcases h with h | ⟨h, _⟩
   ·exact absurd h h1
   ·rw [h] at h1 h2; exact absurd h2 h1
  ·rw [if_neg h2];have he := Ur (Bool.eq_false_iff.2 h1) (Bool.eq_false_iff.2 h2);by_cases h3 : a.f0 < b.f0
   ·rw [if_pos h3];exact ⟨fun _ => Or.inr ⟨he, Or.inl h3⟩, fun _ => by decide⟩
   ·rw [if_neg h3];by_cases h4 : a.f0 > b.f0
    ·rw [if_pos h4];refine ⟨fun h => absurd h (by decide), fun h => ?_⟩;rcases h with h | ⟨_, h | ⟨h, _⟩⟩
     ·exact absurd h h1
     ·omega
     ·omega
    ·rw [if_neg h4];refine ⟨fun h => Or.inr ⟨he, Or.inr ⟨by omega, h⟩⟩, fun h => ?_⟩;rcases h with h | ⟨_, h | ⟨_, h⟩⟩
     ·exact absurd h h1
     ·omega
     ·exact h
def Ut (x : dU) : Prop := ∀ root b c, fO b → fO c → VD es root x → VD es root b → VD es root c → iw es x b ≤ 0 → iw es b c ≤ 0 → iw es x c ≤ 0
theorem GD : ∀ (l : List dU), (∀ x, x ∈ l → fO x ∧ Ut (es := es) x) → ∀ (ns : List Int) (m k : List dU), (∀ x, x ∈ m → fO x) → (∀ x, x ∈ k → fO x) → Cs (es := es) ns l → Cs (es := es) ns m → Cs (es := es) ns k → gK es l m ≤ 0 → gK es m k ≤ 0 → gK es l k ≤ 0
 | [], _, ns, m, k, _, _, _, _, _, _, _ => by simp [gK]
 | x :: l, _, [], m, k, _, _, sl, _, _, _, _ => by have := sl.1; simp at this
 | x :: l, _, n :: ns, [], k, _, _, _, sm, _, _, _ => by have := sm.1; simp at this
 | x :: l, _, n :: ns, y :: m, [], _, _, _, _, sk, _, _ => by have := sk.1; simp at this
 | x :: l, hl, n :: ns, y :: m, z :: k, fm, fk, sl, sm, sk, g1, g2 => by
  obtain ⟨vx, sl'⟩ := sl.cons;obtain ⟨vy, sm'⟩ := sm.cons;obtain ⟨vz, sk'⟩ := sk.cons;have e1 : gK es (x :: l) (y :: m) = if iw es x y = 0 then gK es l m else iw es x y := by rw [gK]
  have e2 : gK es (y :: m) (z :: k) = if iw es y z = 0 then gK es m k else iw es y z := by rw [gK]
  have e3 : gK es (x :: l) (z :: k) = if iw es x z = 0 then gK es l k else iw es x z := by rw [gK]
  rw [e1] at g1;rw [e2] at g2;rw [e3];obtain ⟨fx, tx⟩ := hl x (List.mem_cons_self ..);have fy := fm y (List.mem_cons_self ..);have fz := fk z (List.mem_cons_self ..);have oxy := zh fx n y vx vy;have oxz := zh fx n z vx vz;have hxy : iw es x y ≤ 0 := by
   by_cases h : iw es x y = 0
   ·omega
   ·rw [if_neg h] at g1; exact g1
  have hyz : iw es y z ≤ 0 := by
   by_cases h : iw es y z = 0
   ·omega
   ·rw [if_neg h] at g2; exact g2
  have hxz := tx n y z fy fz vx vy vz hxy hyz;by_cases hz : iw es x z = 0
  ·have aeo := oxz.zero.1 hz;have hyx : iw es y x ≤ 0 := by rw [aeo]; exact hyz
   have hz1 : iw es x y = 0 := by have := oxy.aba; omega
   have ai8 := oxy.zero.1 hz1;have hz2 : iw es y z = 0 := by rw [← ai8, aeo]; exact (zh fz n z vz vz).zero.2 rfl
   rw [if_pos hz1] at g1;rw [if_pos hz2] at g2;rw [if_pos hz];exact GD l (fun q hq => hl q (List.mem_cons_of_mem _ hq)) ns m k (fun q hq => fm q (List.mem_cons_of_mem _ hq)) (fun q hq => fk q (List.mem_cons_of_mem _ hq)) sl' sm' sk' g1 g2
  ·rw [if_neg hz]; exact hxz
theorem fO.mem {d : dU} (h : fO d) : ∀ x, x ∈ d.f1 → fO x := by
 cases h with
 | mk _ _ _ hk => exact hk
theorem Rv {d : dU} (hf : fO d) : Ut (es := es) d := by
 induction hf with
 | mk d _ _ hk ih =>
  intro root b c fb fc hd hb hc h1 h2;rw [NF] at h1 h2 ⊢;rcases h1 with h1 | ⟨h1, h1'⟩
  ·rcases h2 with h2 | ⟨h2, _⟩
   ·exact Or.inl (Ru h1 h2)
   ·rw [← h2]; exact Or.inl h1
  ·rw [h1];rcases h2 with h2 | ⟨h2, h2'⟩
   ·exact Or.inl h2
   ·refine Or.inr ⟨h2, ?_⟩;rcases h1' with h1' | ⟨h1', g1⟩
    ·rcases h2' with h2' | ⟨h2', _⟩
     ·exact Or.inl (by omega)
     ·exact Or.inl (by omega)
    ·rcases h2' with h2' | ⟨h2', g2⟩
     ·exact Or.inl (by omega)
     ·refine Or.inr ⟨by omega, ?_⟩;have sb := hb.kids;have sc := hc.kids;rw [← h1'] at sb;rw [← h2', ← h1'] at sc;exact GD d.f1 (fun x hx => ⟨hk x hx, ih x hx⟩) _ b.f1 c.f1 fb.mem fc.mem hd.kids sb sc g1 g2
end
section
variable (n : Int) (es : List dO)
theorem Kt (l m : List dU) : lg es (l ++ m) = lg es l ++ lg es m := by
 induction l with
 | nil => rfl
 | cons d l ih =>
  show gZ es d :: lg es (l ++ m) = _;rw [ih];rfl
theorem NV (l : List dU) (i : Nat) (h : i < l.length) : lg es (l.take (i + 1)) = lg es (l.take i) ++ [gZ es (l.getD i z27)] := by
 rw [List.take_succ_eq_append_getElem h, Kt];congr 1
 show [gZ es l[i]] = _;rw [List.getD_eq_getElem?_getD, List.getElem?_eq_getElem h];rfl
theorem LM (hco : zO es) (d : dU) (h0 : 0 ≤ d.f0) (h1 : d.f0 < (es.length : Int)) (hs : d.f1.length ≤ 1000000) (hok : ∀ v, v ∈ lg es d.f1 → okV v)
  (hk : ∀ j, j < d.f1.length → Ev (fun k => aZ.f k n es (d.f1.getD j z27).f0 (d.f1.getD j z27).f1) ((gZ es (d.f1.getD j z27)).f0, (gZ es (d.f1.getD j z27)).f1)) :
  ∀ m i, i + m = d.f1.length →
   Ev (fun k => aZ.l0 k (lg es (d.f1.take i)) d.f1 (d.f1.length : Int) (i : Int) n es d.f0 d.f1) ((gZ es d).f0, (gZ es d).f1)
 | 0, i, hi => by
  have hi2 : i = d.f1.length := by omega
  rw [hi2, List.take_length, xc];obtain ⟨e1, e2⟩ := ND es hco d h0 h1 (lg es d.f1) (by rw [fU]; exact hs) hok;refine (Ev.bind (G := fun _ t => some (t.1, t.2)) e1 (Ev.const _)).succ (fun k => ?_);show aZ.l0 (k + 1) _ _ _ _ _ _ _ _ = _;rw [aZ.l0, if_neg (by omega), if_pos h0, if_pos h1]
 | m + 1, i, hi => by
  have ea := hk i (by omega);have hw := RY i (by omega);have ec := LM hco d h0 h1 hs hok hk m (i + 1) (by omega);rw [NV es d.f1 i (by omega)] at ec;have hal : (lg es (d.f1.take i)).length < 8796093022208 := by rw [fU, List.length_take]; omega
  refine (Ev.bind (G := fun k t => if (lg es (d.f1.take i)).length < 8796093022208 then aZ.l0 k (lg es (d.f1.take i) ++ [(⟨t.1, t.2⟩ : dK)]) d.f1 (d.f1.length : Int) ((i + 1 : Nat) : Int) n es d.f0 d.f1 else none) ea (Ev.mp ec (fun k => if_pos hal))).succ (fun k => ?_);show aZ.l0 (k + 1) _ _ _ _ _ _ _ _ = _;rw [aZ.l0, if_pos (by omega), if_pos (by omega), if_pos (by omega), hw];rfl
theorem UL (hco : zO es) (Qn : ∀ e, e ∈ es → e.f1.length ≤ 1000000) {root : Int} {d : dU} (h : VD es root d) : Ev (fun k => aZ.f k n es d.f0 d.f1) ((gZ es d).f0, (gZ es d).f1) := by
 induction h with
 | mk d h0 h1 hl hk ih =>
  have hs : (aj es d.f0).f1.length ≤ 1000000 := by
   refine Qn _ ?_;simp only [aj];exact ib _ _ _ (by omega)
  have hok : ∀ v, v ∈ lg es d.f1 → okV v := lN _ z34 (fun j hj => by
   rw [fU] at hj;rw [mP _ _ hj];exact ((hk j hj).der hco).ok hco)
  have ea := LM n es hco d h0 h1 (by omega) hok ih d.f1.length 0 (by omega);refine ea.succ (fun k => ?_);show aZ.f (k + 1) _ _ _ _ = _;rw [aZ.f];rfl
theorem values_eq (x y : dK) : fe.f x.f0 x.f1 y.f0 y.f1 = some (if pW x y = true then -1 else if pW y x = true then 1 else 0) := by
 unfold fe.f;rw [uq x y, Option.bind_some];by_cases h1 : pW x y = true
 ·rw [if_pos h1, if_pos h1]
 ·rw [if_neg h1, if_neg h1, uq y x, Option.bind_some];by_cases h2 : pW y x = true
  ·rw [if_pos h2, if_pos h2]
  ·rw [if_neg h2, if_neg h2]
theorem aiV (ks : List dU) (b : dU) (hl : ks.length = b.f1.length) (hb : ks.length ≤ 9223372036854775807)
  (hk : ∀ j, j < ks.length → Ev (fun k => aJ.f k n es (ks.getD j z27).f0 (ks.getD j z27).f1 (b.f1.getD j z27).f0 (b.f1.getD j z27).f1) (iw es (ks.getD j z27) (b.f1.getD j z27))) :
  ∀ m i, i + m = ks.length → Ev (fun k => aJ.l0 k 0 ks (ks.length : Int) (i : Int) n es b.f0 b.f1) (gK es (ks.drop i) (b.f1.drop i))
 | 0, i, hi => by
  have hi2 : i = ks.length := by omega
  rw [hi2, List.drop_length];refine (Ev.const 0).succ (fun k => ?_);show aJ.l0 (k + 1) _ _ _ _ _ _ _ _ = _;rw [aJ.l0, if_neg (by omega)]
 | m + 1, i, hi => by
  have ea := hk i (by omega);have ih := aiV ks b hl hb hk m (i + 1) (by omega);have d1 : ks.drop i = ks.getD i z27 :: ks.drop (i + 1) := by rw [List.drop_eq_getElem_cons (by omega), List.getD_eq_getElem?_getD, List.getElem?_eq_getElem (by omega)]; rfl
  have d2 : b.f1.drop i = b.f1.getD i z27 :: b.f1.drop (i + 1) := by rw [List.drop_eq_getElem_cons (by omega), List.getD_eq_getElem?_getD, List.getElem?_eq_getElem (by omega)]; rfl
  rw [d1, d2, show gK es (ks.getD i z27 :: ks.drop (i + 1)) (b.f1.getD i z27 :: b.f1.drop (i + 1)) = if iw es (ks.getD i z27) (b.f1.getD i z27) = 0 then gK es (ks.drop (i + 1)) (b.f1.drop (i + 1)) else iw es (ks.getD i z27) (b.f1.getD i z27) by rw [gK]];have hG : Ev (fun k => if iw es (ks.getD i z27) (b.f1.getD i z27) = 0 then aJ.l0 k 0 ks (ks.length : Int) ((i + 1 : Nat) : Int) n es b.f0 b.f1 else some (iw es (ks.getD i z27) (b.f1.getD i z27))) (if iw es (ks.getD i z27) (b.f1.getD i z27) = 0 then gK es (ks.drop (i + 1)) (b.f1.drop (i + 1)) else iw es (ks.getD i z27) (b.f1.getD i z27)) := by
   by_cases hz : iw es (ks.getD i z27) (b.f1.getD i z27) = 0
   ·rw [if_pos hz];exact ih.mp (fun k => if_pos hz)
   ·rw [if_neg hz];exact (Ev.const _).mp (fun k => if_neg hz)
  refine (Ev.bind (G := fun k t => if t = 0 then aJ.l0 k 0 ks (ks.length : Int) ((i + 1 : Nat) : Int) n es b.f0 b.f1 else some t) ea hG).succ (fun k => ?_);show aJ.l0 (k + 1) _ _ _ _ _ _ _ _ = _;rw [aJ.l0, if_pos (by omega), if_pos (by omega), if_pos (by omega), if_pos (by omega), RY i (by omega)];rfl
theorem xn (hco : zO es) (Qn : ∀ e, e ∈ es → e.f1.length ≤ 1000000) {a : dU} (fa : fO a) : ∀ root b, VD es root a → VD es root b → Ev (fun k => aJ.f k n es a.f0 a.f1 b.f0 b.f1) (iw es a b) := by
 induction fa with
 | mk a _ hl _ ih =>
  intro root b ha hb;have e1 := UL n es hco Qn ha;have e2 := UL n es hco Qn hb;have hres : ∀ t : Int, t = (if pW (gZ es a) (gZ es b) = true then -1 else if pW (gZ es b) (gZ es a) = true then 1 else 0) → Ev (fun k => if t = 0 then aJ.j0 k n es a.f0 a.f1 b.f0 b.f1 else some t) (iw es a b) := by
   intro t ht;rw [Cr];by_cases h1 : pW (gZ es a) (gZ es b) = true
   ·rw [if_pos h1] at ht ⊢;exact (Ev.const (-1)).mp (fun k => by rw [ht, if_neg (by decide)])
   ·rw [if_neg h1] at ht ⊢;by_cases h2 : pW (gZ es b) (gZ es a) = true
    ·rw [if_pos h2] at ht ⊢;exact (Ev.const 1).mp (fun k => by rw [ht, if_neg (by decide)])
    ·rw [if_neg h2] at ht ⊢;by_cases h3 : a.f0 < b.f0
     ·rw [if_pos h3];have : Ev (fun k => aJ.j0 k n es a.f0 a.f1 b.f0 b.f1) (-1) := (Ev.const (-1)).succ (fun k => by rw [aJ.j0, if_neg (by omega), if_pos h3]);exact this.mp (fun k => by rw [ht, if_pos rfl])
     ·rw [if_neg h3];by_cases h4 : a.f0 > b.f0
      ·rw [if_pos h4];have : Ev (fun k => aJ.j0 k n es a.f0 a.f1 b.f0 b.f1) 1 := (Ev.const 1).succ (fun k => by rw [aJ.j0, if_neg (by omega), if_neg h3]);exact this.mp (fun k => by rw [ht, if_pos rfl])
      ·rw [if_neg h4];have hf : a.f0 = b.f0 := by omega
       have sb := hb.kids;rw [← hf] at sb;have sa := ha.kids;have hll : a.f1.length = b.f1.length := by rw [sa.1, sb.1]
       have hloop := aiV n es a.f1 b hll hl (fun j hj => ih _ (ib _ _ _ hj) _ _ (sa.2 j hj) (sb.2 j (by omega))) a.f1.length 0 (by omega);rw [List.drop_zero, List.drop_zero] at hloop;have h5 : Ev (fun k => aJ.j0 k n es a.f0 a.f1 b.f0 b.f1) (gK es a.f1 b.f1) := Ev.succ (g := fun k => aJ.j1 k n es a.f0 a.f1 b.f0 b.f1) (hloop.succ (fun k => by rw [aJ.j1]; rfl)) (fun k => by rw [aJ.j0, if_pos hf]);exact h5.mp (fun k => by rw [ht, if_pos rfl])
  refine (Ev.bind (G := fun k EL => ((aZ.f k n es b.f0 b.f1).bind fun tZ => ((fe.f EL.1 EL.2 tZ.1 tZ.2).bind fun t139 => (if t139 = 0 then (aJ.j0 k n es a.f0 a.f1 b.f0 b.f1) else (some t139))))) e1 (Ev.bind (G := fun k tZ => ((fe.f (gZ es a).f0 (gZ es a).f1 tZ.1 tZ.2).bind fun t139 => (if t139 = 0 then (aJ.j0 k n es a.f0 a.f1 b.f0 b.f1) else (some t139)))) e2 ((hres _ rfl).mp (fun k => by rw [values_eq]; rfl)))).succ (fun k => ?_);show aJ.f (k + 1) _ _ _ _ _ _ = _;rw [aJ.f]
end
end Go.Proofs.Ytamimodkcbbpmaa.Pr
end
