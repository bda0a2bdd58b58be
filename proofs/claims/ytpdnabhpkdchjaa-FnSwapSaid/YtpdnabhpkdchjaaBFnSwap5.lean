/- The statement FnSwap holds of the given program, for every argument; there are no conditions. (Part 5 of 6.) -/
import Derived.Test.YtpdnabhpkdchjaaBFnSwap4
namespace Go.Proofs.Ytpdnabhpkdchjaa.P
open Go.RowKit Go.Proofs.YtpdnabhpkdchjaaW.PrintWords Go.Proofs.YtpdnabhpkdchjaaW.PrintLast Go.Proofs.YtpdnabhpkdchjaaW.PrintMore
attribute [local go_sem ↓] Go.wp_at_zero Go.wp_at_succ
set_option linter.unusedVariables false
set_option linter.unusedSimpArgs false
section
variable {n : Int} {A : Option Addr} {c : Nat} {l : List S88} {A2 : Option Addr} {c2 : Nat} {dd : List Bool} {w : World}
theorem in_v {x a b : Int} {y : Bool} (h : (decide (a ≤ x) && decide (x ≤ b)) = y) (w : World) : Calls Try.prog 87 #[.int .i64 x, .int .i64 a, .int .i64 b] w fun e w' => e = .returned (.bool y) ∧ Below w.heap.size w w' :=
  (spec_l1in.calls x a b y w (by rw [spec_l1in.f, ← h]; by_cases h1 : a ≤ x <;> simp [h1])).mono fun e w' ⟨he, hd⟩ => ⟨he, hd.below⟩
theorem sdeadv {x : Bool} (i : Int) (hx : deadAt l dd i = x) (hr : Kd.C k88 w A l.length l) (hc : l.length ≤ c) (hr2 : Kd.C Kd.bool w A2 dd.length dd) (hc2 : dd.length ≤ c2) (hl : layoutOk n l = 0) (h0 : 0 ≤ i) (h1 : i < n) (hd : dd.length = l.length) :
    Calls Try.prog 114 #[.agg #[.int .i64 n, .slice A l.length c], .slice A2 dd.length c2, .int .i64 i] w fun e w' => e = .returned (.bool x) ∧ Below w.heap.size w w' := by
  obtain ⟨k, h⟩ := (specDead_ev n l dd i hl ⟨h0, h1⟩ hd).rounds
  rw [← hx]
  exact spec_l2dead.calls k n A c l A2 c2 dd i _ w hr hc hr2 hc2 h
theorem stold_v {x : S50} {v : Int} (i : Int) (hx : toldC l dd i x = v) (hr : Kd.C k88 w A l.length l) (hc : l.length ≤ c) (hr2 : Kd.C Kd.bool w A2 dd.length dd) (hc2 : dd.length ≤ c2) (hl : layoutOk n l = 0) (h0 : 0 ≤ i) (h1 : i < n) (hd : dd.length = l.length) :
    Calls Try.prog 113 #[.agg #[.int .i64 n, .slice A l.length c], .slice A2 dd.length c2, .int .i64 i, .agg #[.int .i64 x.f0, .int .i64 x.f1, .bool x.f2, .bool x.f3, .int .i64 x.f4]] w fun e w' => e = .returned (.int .i64 v) ∧ Below w.heap.size w w' := by
  obtain ⟨k, h⟩ := (specTold_ev n l dd i x hl ⟨h0, h1⟩ hd).rounds
  rw [hx] at h
  exact spec_l2told.calls k n A c l A2 c2 dd i x.f0 x.f1 x.f2 x.f3 x.f4 _ w hr hc hr2 hc2 h
end
def st_T6 : Bool × List (List Nat × List Nat) := (true, [([], []), ([0], [0]), ([1], [1]), ([2], [2]), ([3, 2], [3]), ([4], [4]), ([5, 4], [4, 5]), ([6, 4, 4], [4, 6]), ([7, 4], [4, 7]), ([4, 8], [4, 8]), ([9, 7], [9]), ([10], [10]), ([11, 10], [10, 11]), ([10], [10]), ([10], [10]), ([14, 10], [10, 14]), ([10], [10]), ([10], [10]), ([13, 15, 16, 17, 10, 10], [10, 13, 15, 16, 17]), ([12, 18, 10], [10, 12, 18]), ([10, 19], [10, 19])])
def st_B6 : List Nat := [0, 1, 3, 7, 15, 31, 63, 127, 255, 511, 1023, 2047, 4095, 2047, 2047, 18431, 2047, 2047, 255999, 524287, 1048575]
theorem st_tab6 : rtab .any (opsOf Try.f56 6) = st_T6 := by kernel_rfl
theorem st_bits6 : waitsOk st_T6.2 st_B6 = true := by kernel_rfl
set_option maxHeartbeats 16000000 in
set_option maxRecDepth 100000 in
theorem sst_any {n : Int} {A : Option Addr} {c : Nat} {l : List S88} {b : Bool} {A1 : Option Addr} {c1 : Nat} {ss : List S50} {A2 : Option Addr} {c2 : Nat} {dd : List Bool} {w : World}
    (hr : Kd.C k88 w A l.length l) (hc : l.length ≤ c) (hr1 : Kd.C k50 w A1 ss.length ss) (hc1 : ss.length ≤ c1) (hr2 : Kd.C Kd.bool w A2 dd.length dd) (hc2 : dd.length ≤ c2) :
    Calls Try.prog 56 #[.agg #[.int .i64 n, .slice A l.length c], .agg #[.bool b, .slice A1 ss.length c1, .slice A2 dd.length c2]] w fun e w' => e = .returned (.bool (stateOk n l b ss dd)) ∧ Below w.heap.size w w' := by
  have HR := Aside0.mk hr
  have HR1 := Aside0.mk hr1
  have HR2 := Aside0.mk hr2
  have HC := Aside0.mk hc
  have HC1 := Aside0.mk hc1
  have HC2 := Aside0.mk hc2
  obtain ⟨lv, hlv⟩ : ∃ lv, layoutOk n l = lv := ⟨_, rfl⟩
  have HLV := Aside0.mk hlv
  obtain ⟨so, hso⟩ : ∃ so, stateOk n l b ss dd = so := ⟨_, rfl⟩
  have HSO := Aside0.mk hso
  rw [hso]
  have HT4 := Aside0.mk (stateOk_tests n l b ss dd)
  rw [hso, hlv] at HT4
  clear hr hr1 hr2 hc hc1 hc2 hlv hso
  go_enter Try.func56, Try.ntmps56
  go_upto_region 1 with (first | ((with_reducible refine gate_dst (N := 2) rfl ?_); refine box_event ?hg (N := 2) ?hd (cs := #[.int .i64 n, .slice A l.length c]) (t := 30) ?hr ?_; (case hd => rfl); (case hg => rfl); (case hr => first | (go_simp; done) | (go_simp; rfl)); intro gl el wl kl bl; clear el) | ((with_reducible refine gate_dst (N := 3) rfl ?_); refine box_event ?hg (N := 3) ?hd (cs := #[.bool b, .slice A1 ss.length c1, .slice A2 dd.length c2]) (t := 46) ?hr ?_; (case hd => rfl); (case hg => rfl); (case hr => first | (go_simp; done) | (go_simp; rfl)); intro gz ez wz kz bz; clear ez))
  have S0 : Aside0 (StSt w wz gl gz [.int .i64 n, .slice A l.length c] [.bool b, .slice A1 ss.length c1, .slice A2 dd.length c2]) := ⟨⟨below_step bl bz, blk_below kl bz, kz⟩⟩
  clear kl kz bl bz
  try simp only [Act.put, List.setIfInBounds_toArray, List.set_cons_zero, List.set_cons_succ]
  have kl0 : wz.cell? ⟨gl, 0, none⟩ = some (.int .i64 n) := (blk_cell S0.out.hl 0).trans rfl
  have kl1 : wz.cell? ⟨gl, 1, none⟩ = some (.slice A l.length c) := (blk_cell S0.out.hl 1).trans rfl
  by_cases hgood : (lv != 0) = false ∧ b = true ∧ ((ss.length : Int) != n) = false ∧ ((dd.length : Int) != (l.length : Int)) = false
  rotate_left
  · have HF := Aside0.mk (HT4.out.1 hgood)
    cases h1 : (lv != 0) <;> cases b <;> cases h3 : ((ss.length : Int) != n) <;> cases h4 : ((dd.length : Int) != (l.length : Int)) <;>
    rw [h1, h3, h4] at hgood <;>
    first
    | (simp at hgood; done)
    | (clear hgood
       go_wp2_with (go_at_call 23; refine (slay_is (Kd.C_below HR.out S0.out.hB) HC.out).mono ?_; rintro e w1 ⟨h, hb⟩; rw [HLV.out] at h; subst h; have S1 := Aside0.mk (S0.out.up hb); have kl0 : w1.cell? ⟨gl, 0, none⟩ = some (.int .i64 n) := (blk_cell S1.out.hl 0).trans rfl; have kl1 : w1.cell? ⟨gl, 1, none⟩ = some (.slice A l.length c) := (blk_cell S1.out.hl 1).trans rfl; have kz0 : w1.cell? ⟨gz, 0, none⟩ = some (.bool _) := (blk_cell S1.out.hz 0).trans rfl; have kz1 : w1.cell? ⟨gz, 1, none⟩ = some (.slice A1 ss.length c1) := (blk_cell S1.out.hz 1).trans rfl; have kz2 : w1.cell? ⟨gz, 2, none⟩ = some (.slice A2 dd.length c2) := (blk_cell S1.out.hz 2).trans rfl; clear hb)
       go_ret
       exact ⟨by rw [HF.out]; rfl, S1.out.hB⟩)
  obtain ⟨h1, rfl, h3, h4⟩ := hgood
  have HL := Aside0.mk (show layoutOk n l = 0 by rw [HLV.out]; simpa using h1)
  have HN := Aside0.mk (show (ss.length : Int) = n by simpa using h3)
  have HDL := Aside0.mk (show dd.length = l.length by simp at h4; omega)
  have HLL := Aside0.mk (show l.length ≤ 1048576 by have := lay_n HL.out; omega)
  have H60 := Aside0.mk (show ss.length ≤ 60 by have := lay_n HL.out; have := HN.out; omega)
  have HSF := Aside0.mk (show so = secsFrom l dd ss ss.length 0 from HT4.out.2 (by rw [← HLV.out]; exact HL.out) HN.out HDL.out rfl)
  clear HT4 HSO
  go_wp2_with (go_at_call 23; refine (slay_is (Kd.C_below HR.out S0.out.hB) HC.out).mono ?_; rintro e w1 ⟨h, hb⟩; rw [HLV.out] at h; subst h; have S1 := Aside0.mk (S0.out.up hb); have kl0 : w1.cell? ⟨gl, 0, none⟩ = some (.int .i64 n) := (blk_cell S1.out.hl 0).trans rfl; have kl1 : w1.cell? ⟨gl, 1, none⟩ = some (.slice A l.length c) := (blk_cell S1.out.hl 1).trans rfl; have kz0 : w1.cell? ⟨gz, 0, none⟩ = some (.bool true) := (blk_cell S1.out.hz 0).trans rfl; have kz1 : w1.cell? ⟨gz, 1, none⟩ = some (.slice A1 ss.length c1) := (blk_cell S1.out.hz 1).trans rfl; have kz2 : w1.cell? ⟨gz, 2, none⟩ = some (.slice A2 dd.length c2) := (blk_cell S1.out.hz 2).trans rfl; clear hb)
  clear S0 kl0 kl1 kz0 kz1 kz2 h1 h3 h4
  go_loopg [35] ss.length (fun kq v35 w' => ∃ j : Nat, v35 = .int .i64 j ∧ Aside0 (j + kq = ss.length) ∧ Aside0 (so = secsFrom l dd ss kq j) ∧ Aside0 (StSt w w' gl gz [.int .i64 n, .slice A l.length c] [.bool true, .slice A1 ss.length c1, .slice A2 dd.length c2]))
  case atStart => exact ⟨0, rfl, ⟨by omega⟩, HSF, S1⟩
  case round =>
    clear S1 HSF
    obtain ⟨j, rfl, HJ, HSF, SL⟩ := hrel
    by_cases hlt : j < ss.length
    · cases gk with
      | zero => exact absurd HJ.out (by omega)
      | succ gk =>
      have hlt' : decide ((j : Int) < (ss.length : Int)) = true := decide_eq_true (by omega)
      have q0 : (0 : Int) ≤ (j : Int) := by omega
      have q1 : (j : Int) < (ss.length : Int) := by omega
      have HJN := Aside0.mk (show (j : Int) < n by have := HN.out; omega)
      have HSF := Aside0.mk (show so = (secOk l dd (j : Int) (rd_T50 ss (j : Int)) && secsFrom l dd ss gk (j + 1)) from HSF.out)
      obtain ⟨ad, e, x0, x1, x2, x3, x4⟩ := at_T50 HR1.out (j : Int) q0 q1
      cases e
      rw [Int.toNat_natCast] at x0 x1 x2 x3 x4
      obtain ⟨tv, htv⟩ : ∃ tv, toldC l dd (j : Int) (rd_T50 ss (j : Int)) = tv := ⟨_, rfl⟩
      have HTV := Aside0.mk htv
      have HSK := Aside0.mk (secOk_parts l dd (j : Int) (rd_T50 ss (j : Int)))
      rw [htv] at HSK
      clear htv
      generalize rd_T50 ss (j : Int) = x at x0 x1 x2 x3 x4 HSF HSK HTV
      have y0 := pw_cell_below SL.out.hB x0
      have y1 := pw_cell_below SL.out.hB x1
      have y2 := pw_cell_below SL.out.hB x2
      have y3 := pw_cell_below SL.out.hB x3
      have y4 := pw_cell_below SL.out.hB x4
      clear x0 x1 x2 x3 x4
      go_upto_region 6 with ((with_reducible refine gate_dst (N := 6) rfl ?_); refine box_event ?hg (N := 6) ?hd (cs := #[.int .i64 0, .int .i64 0, .bool false, .bool false, .int .i64 0]) (t := 50) ?hr ?_; (case hd => rfl); (case hg => rfl); (case hr => first | (go_simp; done) | (go_simp; rfl)); intro gx ex wx kx bx; have EX := Aside0.mk ex; have KX := Aside0.mk kx; have BX := Aside0.mk bx; have kx0 : wx.cell? ⟨gx, 0, none⟩ = some (.int .i64 0) := (blk_cell KX.out 0).trans rfl; have kx1 : wx.cell? ⟨gx, 1, none⟩ = some (.int .i64 0) := (blk_cell KX.out 1).trans rfl; have kx2 : wx.cell? ⟨gx, 2, none⟩ = some (.bool false) := (blk_cell KX.out 2).trans rfl; have kx3 : wx.cell? ⟨gx, 3, none⟩ = some (.bool false) := (blk_cell KX.out 3).trans rfl; have kx4 : wx.cell? ⟨gx, 4, none⟩ = some (.int .i64 0) := (blk_cell KX.out 4).trans rfl; have zx0 := blk_frozen KX.out 0; have zx1 := blk_frozen KX.out 1; have zx2 := blk_frozen KX.out 2; have zx3 := blk_frozen KX.out 3; have zx4 := blk_frozen KX.out 4; clear ex kx bx)
      have S2 := Aside0.mk (SL.out.fill (y0 := .int .i64 x.f0) (y1 := .int .i64 x.f1) (y2 := .bool x.f2) (y3 := .bool x.f3) (y4 := .int .i64 x.f4) KX.out BX.out (Nat.le_of_eq EX.out.symm))
      clear kx0 kx1 kx2 kx3 kx4 zx0 zx1 zx2 zx3 zx4 KX BX y0 y1 y2 y3 y4
      generalize ((((wx.setCell ⟨gx, 0, none⟩ (.int .i64 x.f0)).setCell ⟨gx, 1, none⟩ (.int .i64 x.f1)).setCell ⟨gx, 2, none⟩ (.bool x.f2)).setCell ⟨gx, 3, none⟩ (.bool x.f3)).setCell ⟨gx, 4, none⟩ (.int .i64 x.f4) = w2 at S2 ⊢
      obtain ⟨r1, hr1v⟩ : ∃ r1, (decide (-1000000 ≤ x.f1) && decide (x.f1 ≤ 1000000)) = r1 := ⟨_, rfl⟩
      obtain ⟨r2, hr2v⟩ : ∃ r2, (decide (-1 ≤ x.f4) && decide (x.f4 ≤ 1)) = r2 := ⟨_, rfl⟩
      have HR1V := Aside0.mk hr1v
      have HR2V := Aside0.mk hr2v
      clear hr1v hr2v
      go_cut [60] from 36 to 100 (fun y wx => ∃ r, y = .bool r ∧ Aside0 (r = (!r1 || !r2 || (x.f0 != tv))) ∧ Aside0 (SeSt w wx gl gz gx [.int .i64 n, .slice A l.length c] [.bool true, .slice (some ad) ss.length c1, .slice A2 dd.length c2] [.int .i64 x.f0, .int .i64 x.f1, .bool x.f2, .bool x.f3, .int .i64 x.f4]))
      case first =>
        have SD := Aside0.mk (S2.out.up (below_drew1 (Below.refl w2.heap.size w2)))
        have kl0 : w2.drew.cell? ⟨gl, 0, none⟩ = some (.int .i64 n) := (blk_cell SD.out.S.hl 0).trans rfl
        have kl1 : w2.drew.cell? ⟨gl, 1, none⟩ = some (.slice A l.length c) := (blk_cell SD.out.S.hl 1).trans rfl
        have kz0 : w2.drew.cell? ⟨gz, 0, none⟩ = some (.bool true) := (blk_cell SD.out.S.hz 0).trans rfl
        have kz1 : w2.drew.cell? ⟨gz, 1, none⟩ = some (.slice (some ad) ss.length c1) := (blk_cell SD.out.S.hz 1).trans rfl
        have kz2 : w2.drew.cell? ⟨gz, 2, none⟩ = some (.slice A2 dd.length c2) := (blk_cell SD.out.S.hz 2).trans rfl
        have kx0 : w2.drew.cell? ⟨gx, 0, none⟩ = some (.int .i64 x.f0) := (blk_cell SD.out.hx 0).trans rfl
        have kx1 : w2.drew.cell? ⟨gx, 1, none⟩ = some (.int .i64 x.f1) := (blk_cell SD.out.hx 1).trans rfl
        have kx2 : w2.drew.cell? ⟨gx, 2, none⟩ = some (.bool x.f2) := (blk_cell SD.out.hx 2).trans rfl
        have kx3 : w2.drew.cell? ⟨gx, 3, none⟩ = some (.bool x.f3) := (blk_cell SD.out.hx 3).trans rfl
        have kx4 : w2.drew.cell? ⟨gx, 4, none⟩ = some (.int .i64 x.f4) := (blk_cell SD.out.hx 4).trans rfl
        have hways : r1 = false ∨ (r1 = true ∧ r2 = false) ∨ (r1 = true ∧ r2 = true) := by cases r1 <;> cases r2 <;> simp
        rcases hways with rfl | ⟨rfl, rfl⟩ | ⟨rfl, rfl⟩
        all_goals
          refine startK 21 (S := fun w' => w'.cell? ⟨gl, 0, none⟩ = some (.int .i64 n) ∧ w'.cell? ⟨gl, 1, none⟩ = some (.slice A l.length c) ∧ w'.cell? ⟨gz, 0, none⟩ = some (.bool true) ∧ w'.cell? ⟨gz, 1, none⟩ = some (.slice (some ad) ss.length c1) ∧ w'.cell? ⟨gz, 2, none⟩ = some (.slice A2 dd.length c2) ∧ w'.cell? ⟨gx, 0, none⟩ = some (.int .i64 x.f0) ∧ w'.cell? ⟨gx, 1, none⟩ = some (.int .i64 x.f1) ∧ w'.cell? ⟨gx, 2, none⟩ = some (.bool x.f2) ∧ w'.cell? ⟨gx, 3, none⟩ = some (.bool x.f3) ∧ w'.cell? ⟨gx, 4, none⟩ = some (.int .i64 x.f4)) (ds := []) (by kernel_rfl) rfl ⟨kl0, kl1, kz0, kz1, kz2, kx0, kx1, kx2, kx3, kx4⟩ (fun hHeld => ?_)
          refine with_tabW st_tab6 st_bits6 (fun HT_ HW_ => ?_)
          repeat (first
            | (refine take0 (v := ?_) (a' := ?_) (by simp only [Nat.reduceAdd]; rfl) (by rfl) HT_.out HW_.out (by kernel_rfl) (by exact fun _ _ _ h => h) hHeld ?_ ?_ ?_; rotate_left 2; (· rintro w' ⟨s0, s1, s2, s3, s4, s5, s6, s7, s8, s9⟩; go_simp; with_reducible rfl); (· simp only [Act.put, List.setIfInBounds_toArray, List.set_cons_zero, List.set_cons_succ, i64_w, i32_w]; rfl))
            | (refine takeG (v := ?_) (a' := ?_) (by simp only [Nat.reduceAdd]; rfl) (by rfl) (by rfl) HT_.out HW_.out (by kernel_rfl) (by exact fun _ _ _ h => h) hHeld ?_ ?_ ?_; rotate_left 2; (· first | (rw [if_neg (by decide)]; done) | (rw [if_pos (by decide)]; rintro w' ⟨s0, s1, s2, s3, s4, s5, s6, s7, s8, s9⟩; go_simp; with_reducible rfl)); (· simp only [Act.put, List.setIfInBounds_toArray, List.set_cons_zero, List.set_cons_succ, i64_w, i32_w]; rfl))
            | (refine oneK (by simp only [Nat.reduceAdd]; rfl) (by rfl) HT_.out (by kernel_rfl) (by decide) (fun K hK => ?_); refine goes_ Try.func87 (by kernel_rfl) rfl #[.int .i64 x.f1, .int .i64 (-1000000), .int .i64 1000000] (by rfl) rfl rfl (by (try simp only [List.map_toArray, List.map_cons, List.map_nil]); first | done | rfl | (simp only [List.length_drop, List.length_take]; rfl)) ?_; ((with_reducible refine (in_v HR1V.out _).mono ?_); rintro e w' ⟨rfl, hb⟩); refine ⟨_, rfl, ?_⟩; have SD := Aside0.mk (SD.out.up hb); refine hK.out _ _ ⟨pw_cell_below hb hHeld.1, pw_cell_below hb hHeld.2.1, pw_cell_below hb hHeld.2.2.1, pw_cell_below hb hHeld.2.2.2.1, pw_cell_below hb hHeld.2.2.2.2.1, pw_cell_below hb hHeld.2.2.2.2.2.1, pw_cell_below hb hHeld.2.2.2.2.2.2.1, pw_cell_below hb hHeld.2.2.2.2.2.2.2.1, pw_cell_below hb hHeld.2.2.2.2.2.2.2.2.1, pw_cell_below hb hHeld.2.2.2.2.2.2.2.2.2⟩ (fun hHeld => ?_); clear hK K; refine norm_ (a' := ?_) ?_ ?_; rotate_left; (· simp only [Act.put, List.setIfInBounds_toArray, List.set_cons_zero, List.set_cons_succ, i64_w, i32_w]; rfl))
            | (refine oneK (by simp only [Nat.reduceAdd]; rfl) (by rfl) HT_.out (by kernel_rfl) (by decide) (fun K hK => ?_); refine goes_ Try.func87 (by kernel_rfl) rfl #[.int .i64 x.f4, .int .i64 (-1), .int .i64 1] (by rfl) rfl rfl (by (try simp only [List.map_toArray, List.map_cons, List.map_nil]); first | done | rfl | (simp only [List.length_drop, List.length_take]; rfl)) ?_; ((with_reducible refine (in_v HR2V.out _).mono ?_); rintro e w' ⟨rfl, hb⟩); refine ⟨_, rfl, ?_⟩; have SD := Aside0.mk (SD.out.up hb); refine hK.out _ _ ⟨pw_cell_below hb hHeld.1, pw_cell_below hb hHeld.2.1, pw_cell_below hb hHeld.2.2.1, pw_cell_below hb hHeld.2.2.2.1, pw_cell_below hb hHeld.2.2.2.2.1, pw_cell_below hb hHeld.2.2.2.2.2.1, pw_cell_below hb hHeld.2.2.2.2.2.2.1, pw_cell_below hb hHeld.2.2.2.2.2.2.2.1, pw_cell_below hb hHeld.2.2.2.2.2.2.2.2.1, pw_cell_below hb hHeld.2.2.2.2.2.2.2.2.2⟩ (fun hHeld => ?_); clear hK K; refine norm_ (a' := ?_) ?_ ?_; rotate_left; (· simp only [Act.put, List.setIfInBounds_toArray, List.set_cons_zero, List.set_cons_succ, i64_w, i32_w]; rfl))
            | (refine oneK (by simp only [Nat.reduceAdd]; rfl) (by rfl) HT_.out (by kernel_rfl) (by decide) (fun K hK => ?_); refine goes_ Try.func113 (by kernel_rfl) rfl #[.agg #[.int .i64 n, .slice A l.length c], .slice A2 dd.length c2, .int .i64 (j : Int), .agg #[.int .i64 x.f0, .int .i64 x.f1, .bool x.f2, .bool x.f3, .int .i64 x.f4]] (by rfl) rfl rfl (by (try simp only [List.map_toArray, List.map_cons, List.map_nil]); first | done | rfl | (simp only [List.length_drop, List.length_take]; rfl)) ?_; ((with_reducible refine (stold_v (j : Int) HTV.out (Kd.C_below HR.out SD.out.S.hB) HC.out (Kd.C_below HR2.out SD.out.S.hB) HC2.out HL.out q0 HJN.out HDL.out).mono ?_); rintro e w' ⟨rfl, hb⟩); refine ⟨_, rfl, ?_⟩; have SD := Aside0.mk (SD.out.up hb); refine hK.out _ _ ⟨pw_cell_below hb hHeld.1, pw_cell_below hb hHeld.2.1, pw_cell_below hb hHeld.2.2.1, pw_cell_below hb hHeld.2.2.2.1, pw_cell_below hb hHeld.2.2.2.2.1, pw_cell_below hb hHeld.2.2.2.2.2.1, pw_cell_below hb hHeld.2.2.2.2.2.2.1, pw_cell_below hb hHeld.2.2.2.2.2.2.2.1, pw_cell_below hb hHeld.2.2.2.2.2.2.2.2.1, pw_cell_below hb hHeld.2.2.2.2.2.2.2.2.2⟩ (fun hHeld => ?_); clear hK K; refine norm_ (a' := ?_) ?_ ?_; rotate_left; (· simp only [Act.put, List.setIfInBounds_toArray, List.set_cons_zero, List.set_cons_succ, i64_w, i32_w]; rfl)))
          refine done_ (done_of HT_.out (by kernel_rfl)) ?_
          go_wp2_with fail
          go_meet
          exact ⟨_, rfl, ⟨by simp only [Bool.or_true, Bool.true_or, Bool.false_or, Bool.or_false, Bool.not_true, Bool.not_false]⟩, SD⟩
      case rest =>
        obtain ⟨r6, rfl, H6, SD⟩ := hcut
        clear S2
        have W1 := Aside0.mk (show wrap64 ((j : Int) + 1) = ((j + 1 : Nat) : Int) from (wrap_id (by omega) (by have := H60.out; omega)).trans (by omega))
        cases r6 with
        | true =>
          have HFF := Aside0.mk (show so = false by rw [HSF.out, HSK.out.1 (bad_of HR1V.out HR2V.out H6.out.symm)]; rfl)
          go_wp2_with fail
          go_ret
          exact ⟨by rw [HFF.out]; rfl, SD.out.S.hB⟩
        | false =>
          have HRV := Aside0.mk (HSK.out.2 (bad_of HR1V.out HR2V.out H6.out.symm))
          clear HSK H6 HTV
          have kl0 : wc.cell? ⟨gl, 0, none⟩ = some (.int .i64 n) := (blk_cell SD.out.S.hl 0).trans rfl
          have kl1 : wc.cell? ⟨gl, 1, none⟩ = some (.slice A l.length c) := (blk_cell SD.out.S.hl 1).trans rfl
          have kz0 : wc.cell? ⟨gz, 0, none⟩ = some (.bool true) := (blk_cell SD.out.S.hz 0).trans rfl
          have kz1 : wc.cell? ⟨gz, 1, none⟩ = some (.slice (some ad) ss.length c1) := (blk_cell SD.out.S.hz 1).trans rfl
          have kz2 : wc.cell? ⟨gz, 2, none⟩ = some (.slice A2 dd.length c2) := (blk_cell SD.out.S.hz 2).trans rfl
          have kx0 : wc.cell? ⟨gx, 0, none⟩ = some (.int .i64 x.f0) := (blk_cell SD.out.hx 0).trans rfl
          have kx1 : wc.cell? ⟨gx, 1, none⟩ = some (.int .i64 x.f1) := (blk_cell SD.out.hx 1).trans rfl
          have kx2 : wc.cell? ⟨gx, 2, none⟩ = some (.bool x.f2) := (blk_cell SD.out.hx 2).trans rfl
          have kx3 : wc.cell? ⟨gx, 3, none⟩ = some (.bool x.f3) := (blk_cell SD.out.hx 3).trans rfl
          have kx4 : wc.cell? ⟨gx, 4, none⟩ = some (.int .i64 x.f4) := (blk_cell SD.out.hx 4).trans rfl
          rw [HRV.out] at HSF
          clear HRV
          cases hp : decide (x.f1 < 0) <;> cases hq : x.f2 <;> cases hd : deadAt l dd (j : Int) <;> cases hr : x.f3 <;> cases hz : (x.f1 == 0) <;> cases hm : (x.f4 == -1) <;> rw [hp, hq, hd, hr, hz, hm] at HSF <;>
          (rw [hq] at kx2
           rw [hr] at kx3
           have HD := Aside0.mk hd
           clear hd
           go_wp2_with (go_at_call 114; refine (sdeadv (j : Int) HD.out (Kd.C_below HR.out SD.out.S.hB) HC.out (Kd.C_below HR2.out SD.out.S.hB) HC2.out HL.out q0 HJN.out HDL.out).mono ?_; rintro e w9 ⟨rfl, hb⟩; have SD := Aside0.mk (SD.out.up hb); have kx0 := pw_cell_below hb kx0; have kx1 := pw_cell_below hb kx1; have kx2 := pw_cell_below hb kx2; have kx3 := pw_cell_below hb kx3; have kx4 := pw_cell_below hb kx4; clear hb)
           first
           | (go_roundg gk
              case measure => omega
              case rel => exact ⟨j + 1, congrArg (Value.int .i64) W1.out, ⟨by have := HJ.out; omega⟩, ⟨HSF.out.trans rfl⟩, ⟨SD.out.S⟩⟩)
           | (go_ret
              exact ⟨by rw [HSF.out]; rfl, SD.out.S.hB⟩))
    · have hlt' : decide ((j : Int) < (ss.length : Int)) = false := decide_eq_false (by omega)
      have HFT := Aside0.mk (show so = true by rw [HSF.out, show gk = 0 by have := HJ.out; omega]; rfl)
      go_wp2
      go_ret
      exact ⟨by rw [HFT.out]; rfl, SL.out.hB⟩
theorem sst_ok {n : Int} {A : Option Addr} {c : Nat} {l : List S88} {b : Bool} {A1 : Option Addr} {c1 : Nat} {ss : List S50} {A2 : Option Addr} {c2 : Nat} {dd : List Bool} {w : World}
    (hst : stateOk n l b ss dd = true) (hr : Kd.C k88 w A l.length l) (hc : l.length ≤ c) (hr1 : Kd.C k50 w A1 ss.length ss) (hc1 : ss.length ≤ c1) (hr2 : Kd.C Kd.bool w A2 dd.length dd) (hc2 : dd.length ≤ c2) :
    Calls Try.prog 56 #[.agg #[.int .i64 n, .slice A l.length c], .agg #[.bool b, .slice A1 ss.length c1, .slice A2 dd.length c2]] w fun e w' => e = .returned (.bool true) ∧ Below w.heap.size w w' := by
  have h := sst_any (n := n) (b := b) hr hc hr1 hc1 hr2 hc2
  rwa [hst] at h
end Go.Proofs.Ytpdnabhpkdchjaa.P
namespace Go.Proofs.Ytpdnabhpkdchjaa.P
open Go.RowKit Go.Proofs.YtpdnabhpkdchjaaW.PrintWords Go.Proofs.YtpdnabhpkdchjaaW.PrintLast Go.Proofs.YtpdnabhpkdchjaaW.PrintMore
attribute [local go_sem ↓] Go.wp_at_zero Go.wp_at_succ
set_option linter.unusedVariables false
set_option linter.unusedSimpArgs false
def sd_T38 : Bool × List (List Nat × List Nat) := (true, [([], []), ([0], [0]), ([], []), ([], []), ([], []), ([4], [4]), ([], []), ([], []), ([7], [7]), ([], []), ([8, 9], [8, 9]), ([10], [10]), ([3, 5, 6, 11], [3, 5, 6, 11]), ([1, 2, 0, 1, 2, 3, 4, 5, 6, 7, 8, 9, 10, 11, 12], [1, 2]), ([13, 0, 1, 2, 3, 4, 5, 6, 7, 8, 9, 10, 11, 12], [13]), ([14, 12, 12, 0, 1, 2, 3, 4, 5, 6, 7, 8, 9, 10, 11, 12], [12, 14])])
def sd_B38 : List Nat := [0, 1, 0, 0, 0, 16, 0, 0, 128, 0, 896, 1920, 4088, 8191, 16383, 32767]
theorem sd_tab38 : rtab .any (opsOf Try.f69 38) = sd_T38 := by kernel_rfl
theorem sd_bits38 : waitsOk sd_T38.2 sd_B38 = true := by kernel_rfl
structure SpSt (w0 w : World) (gl gz go ge gd : Nat) (lv zv sv ev dv : List Value) (v1 v2 : Value) (ss : List S50) (dd : List Bool) : Prop where
  D : DoSt w0 w gl go ge gd lv sv ev dv v1 v2 ss dd
  hz : w.heap[gz]? = some (.cells zv.toArray 46 (0, 0))
section
variable {w0 w w' : World} {gl gz go ge gd : Nat} {lv zv sv ev dv : List Value} {v1 v2 : Value} {ss ss' : List S50} {dd dd' : List Bool}
theorem SpSt.up (h : SpSt w0 w gl gz go ge gd lv zv sv ev dv v1 v2 ss dd) (hb : Below w.heap.size w w') : SpSt w0 w' gl gz go ge gd lv zv sv ev dv v1 v2 ss dd := ⟨h.D.up hb, blk_below h.hz hb⟩
theorem SpSt.sec {gr m cr : Nat} (h : SpSt w0 w gl gz go ge gd lv zv sv ev dv (.slice (some ⟨gr, 0, none⟩) m cr) v2 ss dd) (H1 : Kd.R k50 50 w' w0.heap.size (fun _ => True) (.slice (some ⟨gr, 0, none⟩) m cr) ss') (hg : w.grownBy w' (some gr)) :
    SpSt w0 w' gl gz go ge gd lv zv sv ev dv (.slice (some ⟨gr, 0, none⟩) m cr) v2 ss' dd := ⟨h.D.sec H1 hg, blk_grown h.hz hg (Kd.R_ne h.D.H1 h.hz (by decide))⟩
theorem SpSt.dead {gb m cb : Nat} (h : SpSt w0 w gl gz go ge gd lv zv sv ev dv v1 (.slice (some ⟨gb, 0, none⟩) m cb) ss dd) (i : Int) (x : Bool) :
    SpSt w0 (w.setCell ⟨gb, i.toNat, none⟩ (.bool x)) gl gz go ge gd lv zv sv ev dv v1 (.slice (some ⟨gb, 0, none⟩) m cb) ss (dd.set i.toNat x) :=
  ⟨h.D.dead i x, blk_grown h.hz (Kd.R_putg h.D.H2 i x).2 (Kd.R_ne h.D.H2 h.hz (by decide))⟩
end
theorem in_any (s : Int) (bo : Bool) (g gr n c : Nat) (v2 : Value) (l : List S50) (w : World) (base : Nat) (ok : Nat → Prop) (h1 : s < n)
    (hb : w.heap[g]? = some (.cells #[.bool bo, .slice (some ⟨gr, 0, none⟩) n c, v2] 46 (0, 0))) (HO : Kd.R k50 50 w base ok (.slice (some ⟨gr, 0, none⟩) n c) l) :
    Calls Try.prog 118 #[.pointer (some ⟨g, 0, none⟩), .int .i64 s, .int .i64 1] w fun e w' => e = .returned (.tuple #[]) ∧ Kd.R k50 50 w' base ok (.slice (some ⟨gr, 0, none⟩) n c) (addS l s 1) ∧ w.grownBy w' (some gr) := by
  by_cases h0 : s < 0
  · refine (add_none s 1 _ w h0).mono ?_
    rintro e w' ⟨he, rfl⟩
    exact ⟨he, by rw [addS, if_pos h0]; exact HO, World.grownBy.refl w _⟩
  · rw [addS, if_neg h0]
    exact add_in s bo g gr n c v2 l w base ok (by omega) h1 hb HO
theorem out_any (s : Int) (bo : Bool) (g gr n c : Nat) (v2 : Value) (l : List S50) (w : World) (base : Nat) (ok : Nat → Prop) (h1 : s < n)
    (hb : w.heap[g]? = some (.cells #[.bool bo, .slice (some ⟨gr, 0, none⟩) n c, v2] 46 (0, 0))) (HO : Kd.R k50 50 w base ok (.slice (some ⟨gr, 0, none⟩) n c) l) :
    Calls Try.prog 118 #[.pointer (some ⟨g, 0, none⟩), .int .i64 s, .int .i64 (-1)] w fun e w' => e = .returned (.tuple #[]) ∧ Kd.R k50 50 w' base ok (.slice (some ⟨gr, 0, none⟩) n c) (addS l s (-1)) ∧ w.grownBy w' (some gr) := by
  by_cases h0 : s < 0
  · refine (add_none s (-1) _ w h0).mono ?_
    rintro e w' ⟨he, rfl⟩
    exact ⟨he, by rw [addS, if_pos h0]; exact HO, World.grownBy.refl w _⟩
  · rw [addS, if_neg h0]
    exact add_out s bo g gr n c v2 l w base ok (by omega) h1 hb HO
section
variable {n : Int} {A : Option Addr} {c : Nat} {l : List S88} {b : Bool} {A1 : Option Addr} {c1 : Nat} {ss : List S50} {A2 : Option Addr} {c2 : Nat} {dd : List Bool} {w : World}
theorem sev_at {v : Bool} (op of dir : Int) (hv : eventOk n l op of dir = v) (hr : Kd.C k88 w A l.length l) (hc : l.length ≤ c) : Calls Try.prog 34 #[.agg #[.int .i64 n, .slice A l.length c], .agg #[.int .i64 op, .int .i64 of, .int .i64 dir]] w fun e w' => e = .returned (.bool v) ∧ Below w.heap.size w w' := hv ▸ sev_is op of dir hr hc
theorem sdead_at {x : Bool} (i : Int) (hx : deadAt l dd i = x) (hr : Kd.C k88 w A l.length l) (hc : l.length ≤ c) (hr2 : Kd.C Kd.bool w A2 dd.length dd) (hc2 : dd.length ≤ c2) (hl : layoutOk n l = 0) (h0 : 0 ≤ i) (h1 : i < n) (hd : dd.length = l.length) :
    Calls Try.prog 114 #[.agg #[.int .i64 n, .slice A l.length c], .slice A2 dd.length c2, .int .i64 i] w fun e w' => e = .returned (.bool x) ∧ Below w.heap.size w w' := by
  obtain ⟨k, h⟩ := (specDead_ev n l dd i hl ⟨h0, h1⟩ hd).rounds
  rw [← hx]
  exact spec_l2dead.calls k n A c l A2 c2 dd i _ w hr hc hr2 hc2 h
theorem stold_of {m2 b2 : Nat} {o2 : Nat → Prop} (i : Int) (x : S50) (hr : Kd.C k88 w A l.length l) (hc : l.length ≤ c) (H2 : Kd.R Kd.bool 4 w b2 o2 (.slice A2 m2 c2) dd) (e2 : m2 = dd.length) (hl : layoutOk n l = 0) (h0 : 0 ≤ i) (h1 : i < n) (hd : dd.length = l.length) :
    Calls Try.prog 113 #[.agg #[.int .i64 n, .slice A l.length c], .slice A2 m2 c2, .int .i64 i, .agg #[.int .i64 x.f0, .int .i64 x.f1, .bool x.f2, .bool x.f3, .int .i64 x.f4]] w fun e w' => e = .returned (.int .i64 (toldC l dd i x)) ∧ Below w.heap.size w w' := by
  subst e2
  obtain ⟨k, h⟩ := (specTold_ev n l dd i x hl ⟨h0, h1⟩ hd).rounds
  exact spec_l2told.calls k n A c l A2 c2 dd i x.f0 x.f1 x.f2 x.f3 x.f4 _ w hr hc (Kd.R_reads' H2).2.2 (Kd.R_reads' H2).2.1 h
end
def loseTo (ss : List S50) (f t : Int) : Nat → List S50
  | 0 => ss
  | 1 => loseAt ss f
  | _ => loseAt (loseAt ss f) t
set_option maxHeartbeats 4000000 in
set_option maxRecDepth 100000 in
theorem sdo_badE (n : Int) (A : Option Addr) (c : Nat) (l : List S88) (b : Bool) (A1 : Option Addr) (c1 : Nat) (ss : List S50) (A2 : Option Addr) (c2 : Nat) (dd : List Bool) (op of dir : Int) (w : World)
    (hr : Kd.C k88 w A l.length l) (hc : l.length ≤ c) (hr1 : Kd.C k50 w A1 ss.length ss) (hc1 : ss.length ≤ c1) (hr2 : Kd.C Kd.bool w A2 dd.length dd) (hc2 : dd.length ≤ c2) (hst : stateOk n l b ss dd = true) (hev : eventOk n l op of dir = false) :
    Calls Try.prog 69 #[.agg #[.int .i64 n, .slice A l.length c], .agg #[.bool b, .slice A1 ss.length c1, .slice A2 dd.length c2], .agg #[.int .i64 op, .int .i64 of, .int .i64 dir]] w fun e w' => e = .returned (.agg #[.int .i64 1, .bool false, .slice none 0 0, .slice none 0 0]) ∧ Below w.heap.size w w' := by
  have HR := Aside0.mk hr
  have HR1 := Aside0.mk hr1
  have HR2 := Aside0.mk hr2
  clear hr hr1 hr2
  go_enter Try.func69, Try.ntmps69
  go_upto_region 1 with (first | ((with_reducible refine gate_dst (N := 3) rfl ?_); refine box_event ?hg (N := 3) ?hd (cs := #[.int .i64 n, .slice A l.length c]) (t := 30) ?hr ?_; (case hd => rfl); (case hg => rfl); (case hr => first | (go_simp; done) | (go_simp; rfl)); intro gl el wl kl bl) | ((with_reducible refine gate_dst (N := 4) rfl ?_); refine box_event ?hg (N := 4) ?hd (cs := #[.bool b, .slice A1 ss.length c1, .slice A2 dd.length c2]) (t := 46) ?hr ?_; (case hd => rfl); (case hg => rfl); (case hr => first | (go_simp; done) | (go_simp; rfl)); intro gz ez wz kz bz) | ((with_reducible refine gate_dst (N := 5) rfl ?_); refine box_event ?hg (N := 5) ?hd (cs := #[.int .i64 op, .int .i64 of, .int .i64 dir]) (t := 56) ?hr ?_; (case hd => rfl); (case hg => rfl); (case hr => first | (go_simp; done) | (go_simp; rfl)); intro ge ee we ke be) | ((with_reducible refine gate_dst (N := 6) rfl ?_); refine box_event ?hg (N := 6) ?hd (cs := #[.int .i64 0, .bool false, .slice none 0 0, .slice none 0 0]) (t := 48) ?hr ?_; (case hd => rfl); (case hg => rfl); (case hr => first | (go_simp; done) | (go_simp; rfl)); intro gd ed wd kd_ bd))
  have KL := Aside0.mk (blk_below (blk_below (blk_below kl bz) be) bd)
  have KZ := Aside0.mk (blk_below (blk_below kz be) bd)
  have KE := Aside0.mk (blk_below ke bd)
  have KD := Aside0.mk kd_
  have BB := Aside0.mk (below_step (below_step (below_step bl bz) be) bd)
  have GL := Aside0.mk (show w.heap.size ≤ gl by rw [el]; exact Nat.le_refl _)
  have GZ := Aside0.mk (show w.heap.size ≤ gz by rw [ez]; exact bl.size)
  have GE := Aside0.mk (show w.heap.size ≤ ge by rw [ee]; exact (below_step bl bz).size)
  have GD := Aside0.mk (show w.heap.size ≤ gd by rw [ed]; exact (below_step (below_step bl bz) be).size)
  clear kl kz ke kd_ bl bz be bd el ez ee ed
  simp only [Act.put, List.setIfInBounds_toArray, List.set_cons_zero, List.set_cons_succ]
  have kl0 : wd.cell? ⟨gl, 0, none⟩ = some (.int .i64 n) := (blk_cell KL.out 0).trans rfl
  have kl1 : wd.cell? ⟨gl, 1, none⟩ = some (.slice A l.length c) := (blk_cell KL.out 1).trans rfl
  have kz0 : wd.cell? ⟨gz, 0, none⟩ = some (.bool b) := (blk_cell KZ.out 0).trans rfl
  have kz1 : wd.cell? ⟨gz, 1, none⟩ = some (.slice A1 ss.length c1) := (blk_cell KZ.out 1).trans rfl
  have kz2 : wd.cell? ⟨gz, 2, none⟩ = some (.slice A2 dd.length c2) := (blk_cell KZ.out 2).trans rfl
  have ke0 : wd.cell? ⟨ge, 0, none⟩ = some (.int .i64 op) := (blk_cell KE.out 0).trans rfl
  have ke1 : wd.cell? ⟨ge, 1, none⟩ = some (.int .i64 of) := (blk_cell KE.out 1).trans rfl
  have ke2 : wd.cell? ⟨ge, 2, none⟩ = some (.int .i64 dir) := (blk_cell KE.out 2).trans rfl
  have kd0 : wd.cell? ⟨gd, 0, none⟩ = some (.int .i64 0) := (blk_cell KD.out 0).trans rfl
  have kd1 : wd.cell? ⟨gd, 1, none⟩ = some (.bool false) := (blk_cell KD.out 1).trans rfl
  have kd2 : wd.cell? ⟨gd, 2, none⟩ = some (.slice none 0 0) := (blk_cell KD.out 2).trans rfl
  have kd3 : wd.cell? ⟨gd, 3, none⟩ = some (.slice none 0 0) := (blk_cell KD.out 3).trans rfl
  have zd0 := blk_frozen KD.out 0
  have zd1 := blk_frozen KD.out 1
  have zd2 := blk_frozen KD.out 2
  have zd3 := blk_frozen KD.out 3
  go_wp2_with (first | (go_at_call 56; refine (sst_ok hst (Kd.C_below HR.out BB.out) hc (Kd.C_below HR1.out BB.out) hc1 (Kd.C_below HR2.out BB.out) hc2).mono ?_; rintro e w1 ⟨rfl, hb⟩; have KL := Aside0.mk (blk_below KL.out hb); have KZ := Aside0.mk (blk_below KZ.out hb); have KE := Aside0.mk (blk_below KE.out hb); have KD := Aside0.mk (blk_below KD.out hb); have BB := Aside0.mk (below_step BB.out hb); clear hb; have kl0 : w1.cell? ⟨gl, 0, none⟩ = some (.int .i64 n) := (blk_cell KL.out 0).trans rfl; have kl1 : w1.cell? ⟨gl, 1, none⟩ = some (.slice A l.length c) := (blk_cell KL.out 1).trans rfl; have kz0 : w1.cell? ⟨gz, 0, none⟩ = some (.bool b) := (blk_cell KZ.out 0).trans rfl; have kz1 : w1.cell? ⟨gz, 1, none⟩ = some (.slice A1 ss.length c1) := (blk_cell KZ.out 1).trans rfl; have kz2 : w1.cell? ⟨gz, 2, none⟩ = some (.slice A2 dd.length c2) := (blk_cell KZ.out 2).trans rfl; have ke0 : w1.cell? ⟨ge, 0, none⟩ = some (.int .i64 op) := (blk_cell KE.out 0).trans rfl; have ke1 : w1.cell? ⟨ge, 1, none⟩ = some (.int .i64 of) := (blk_cell KE.out 1).trans rfl; have ke2 : w1.cell? ⟨ge, 2, none⟩ = some (.int .i64 dir) := (blk_cell KE.out 2).trans rfl; have kd0 : w1.cell? ⟨gd, 0, none⟩ = some (.int .i64 0) := (blk_cell KD.out 0).trans rfl; have kd1 : w1.cell? ⟨gd, 1, none⟩ = some (.bool false) := (blk_cell KD.out 1).trans rfl; have kd2 : w1.cell? ⟨gd, 2, none⟩ = some (.slice none 0 0) := (blk_cell KD.out 2).trans rfl; have kd3 : w1.cell? ⟨gd, 3, none⟩ = some (.slice none 0 0) := (blk_cell KD.out 3).trans rfl; have zd0 := blk_frozen KD.out 0; have zd1 := blk_frozen KD.out 1; have zd2 := blk_frozen KD.out 2; have zd3 := blk_frozen KD.out 3) | (go_at_call 34; refine (sev_at op of dir hev (Kd.C_below HR.out BB.out) hc).mono ?_; rintro e w2 ⟨rfl, hb⟩; have KL := Aside0.mk (blk_below KL.out hb); have KZ := Aside0.mk (blk_below KZ.out hb); have KE := Aside0.mk (blk_below KE.out hb); have KD := Aside0.mk (blk_below KD.out hb); have BB := Aside0.mk (below_step BB.out hb); clear hb; have kl0 : w2.cell? ⟨gl, 0, none⟩ = some (.int .i64 n) := (blk_cell KL.out 0).trans rfl; have kl1 : w2.cell? ⟨gl, 1, none⟩ = some (.slice A l.length c) := (blk_cell KL.out 1).trans rfl; have kz0 : w2.cell? ⟨gz, 0, none⟩ = some (.bool b) := (blk_cell KZ.out 0).trans rfl; have kz1 : w2.cell? ⟨gz, 1, none⟩ = some (.slice A1 ss.length c1) := (blk_cell KZ.out 1).trans rfl; have kz2 : w2.cell? ⟨gz, 2, none⟩ = some (.slice A2 dd.length c2) := (blk_cell KZ.out 2).trans rfl; have ke0 : w2.cell? ⟨ge, 0, none⟩ = some (.int .i64 op) := (blk_cell KE.out 0).trans rfl; have ke1 : w2.cell? ⟨ge, 1, none⟩ = some (.int .i64 of) := (blk_cell KE.out 1).trans rfl; have ke2 : w2.cell? ⟨ge, 2, none⟩ = some (.int .i64 dir) := (blk_cell KE.out 2).trans rfl; have kd0 : w2.cell? ⟨gd, 0, none⟩ = some (.int .i64 0) := (blk_cell KD.out 0).trans rfl; have kd1 : w2.cell? ⟨gd, 1, none⟩ = some (.bool false) := (blk_cell KD.out 1).trans rfl; have kd2 : w2.cell? ⟨gd, 2, none⟩ = some (.slice none 0 0) := (blk_cell KD.out 2).trans rfl; have kd3 : w2.cell? ⟨gd, 3, none⟩ = some (.slice none 0 0) := (blk_cell KD.out 3).trans rfl; have zd0 := blk_frozen KD.out 0; have zd1 := blk_frozen KD.out 1; have zd2 := blk_frozen KD.out 2; have zd3 := blk_frozen KD.out 3))
  have KF := blk_put (blk_put (blk_put (blk_put KD.out 0 (.int .i64 1) rfl) 1 (.bool false) rfl) 2 (.slice none 0 0) rfl) 3 (.slice none 0 0) rfl
  have BF := below_set (j := 3) (v := .slice none 0 0) (below_set (j := 2) (v := .slice none 0 0) (below_set (j := 1) (v := .bool false) (below_set (j := 0) (v := .int .i64 1) BB.out GD.out) GD.out) GD.out) GD.out
  exact bodyPost_ret (results_cell_row rfl _ _ gd 48 _ (0, 0) _ rfl KF Try.underlying48 rfl (by kernel_rfl)) rfl ⟨rfl, BF⟩
set_option maxHeartbeats 16000000 in
set_option maxRecDepth 100000 in
theorem sdo_is (n : Int) (A : Option Addr) (c : Nat) (l : List S88) (b : Bool) (A1 : Option Addr) (c1 : Nat) (ss : List S50) (A2 : Option Addr) (c2 : Nat) (dd : List Bool) (op of dir : Int) (w : World)
    (hr : Kd.C k88 w A l.length l) (hc : l.length ≤ c) (hr1 : Kd.C k50 w A1 ss.length ss) (hc1 : ss.length ≤ c1) (hr2 : Kd.C Kd.bool w A2 dd.length dd) (hc2 : dd.length ≤ c2)
    (hst : stateOk n l b ss dd = true) (hev : eventOk n l op of dir = true) :
    Calls Try.prog 69 #[.agg #[.int .i64 n, .slice A l.length c], .agg #[.bool b, .slice A1 ss.length c1, .slice A2 dd.length c2], .agg #[.int .i64 op, .int .i64 of, .int .i64 dir]] w fun e w' => ∃ v2_ v3_ : Value, e = .returned (.agg #[.int .i64 (doCode l ss dd op of), .bool true, v2_, v3_]) ∧ Kd.R k50 50 w' w.heap.size (fun _ => True) v2_ (doSecs l ss dd op of dir) ∧ Kd.R Kd.bool 4 w' w.heap.size (fun _ => True) v3_ (doDead l ss dd op of) ∧ Below w.heap.size w w' := by
  obtain ⟨hl, rfl, hns, hnd, hsec⟩ := stateOk_of hst
  have hn := lay_n hl
  have hs : ss.length ≤ 1048576 := by omega
  have hd : dd.length ≤ 1048576 := by omega
  have hpos : 0 < ss.length := by omega
  have HST := Aside0.mk hst
  have HEV := Aside0.mk hev
  have HSE := Aside0.mk hsec
  have HN := Aside0.mk (And.intro hl (And.intro hns (And.intro hnd hn)))
  clear hst hev hsec hl hns hnd hn
  have HR := Aside0.mk hr
  have HR1 := Aside0.mk hr1
  have HR2 := Aside0.mk hr2
  clear hr hr1 hr2
  go_enter Try.func69, Try.ntmps69
  go_upto_region 1 with (first | ((with_reducible refine gate_dst (N := 3) rfl ?_); refine box_event ?hg (N := 3) ?hd (cs := #[.int .i64 n, .slice A l.length c]) (t := 30) ?hr ?_; (case hd => rfl); (case hg => rfl); (case hr => first | (go_simp; done) | (go_simp; rfl)); intro gl el wl kl bl) | ((with_reducible refine gate_dst (N := 4) rfl ?_); refine box_event ?hg (N := 4) ?hd (cs := #[.bool true, .slice A1 ss.length c1, .slice A2 dd.length c2]) (t := 46) ?hr ?_; (case hd => rfl); (case hg => rfl); (case hr => first | (go_simp; done) | (go_simp; rfl)); intro gz ez wz kz bz) | ((with_reducible refine gate_dst (N := 5) rfl ?_); refine box_event ?hg (N := 5) ?hd (cs := #[.int .i64 op, .int .i64 of, .int .i64 dir]) (t := 56) ?hr ?_; (case hd => rfl); (case hg => rfl); (case hr => first | (go_simp; done) | (go_simp; rfl)); intro ge ee we ke be) | ((with_reducible refine gate_dst (N := 6) rfl ?_); refine box_event ?hg (N := 6) ?hd (cs := #[.int .i64 0, .bool false, .slice none 0 0, .slice none 0 0]) (t := 48) ?hr ?_; (case hd => rfl); (case hg => rfl); (case hr => first | (go_simp; done) | (go_simp; rfl)); intro gd ed wd kd_ bd))
  have KL := Aside0.mk (blk_below (blk_below (blk_below kl bz) be) bd)
  have KZ := Aside0.mk (blk_below (blk_below kz be) bd)
  have KE := Aside0.mk (blk_below ke bd)
  have KD := Aside0.mk kd_
  have BB := Aside0.mk (below_step (below_step (below_step bl bz) be) bd)
  have GL := Aside0.mk (show w.heap.size ≤ gl by rw [el]; exact Nat.le_refl _)
  have GZ := Aside0.mk (show w.heap.size ≤ gz by rw [ez]; exact bl.size)
  have GE := Aside0.mk (show w.heap.size ≤ ge by rw [ee]; exact (below_step bl bz).size)
  have GD := Aside0.mk (show w.heap.size ≤ gd by rw [ed]; exact (below_step (below_step bl bz) be).size)
  clear kl kz ke kd_ bl bz be bd el ez ee ed
  simp only [Act.put, List.setIfInBounds_toArray, List.set_cons_zero, List.set_cons_succ]
  have kl0 : wd.cell? ⟨gl, 0, none⟩ = some (.int .i64 n) := (blk_cell KL.out 0).trans rfl
  have kl1 : wd.cell? ⟨gl, 1, none⟩ = some (.slice A l.length c) := (blk_cell KL.out 1).trans rfl
  have kz0 : wd.cell? ⟨gz, 0, none⟩ = some (.bool true) := (blk_cell KZ.out 0).trans rfl
  have kz1 : wd.cell? ⟨gz, 1, none⟩ = some (.slice A1 ss.length c1) := (blk_cell KZ.out 1).trans rfl
  have kz2 : wd.cell? ⟨gz, 2, none⟩ = some (.slice A2 dd.length c2) := (blk_cell KZ.out 2).trans rfl
  have ke0 : wd.cell? ⟨ge, 0, none⟩ = some (.int .i64 op) := (blk_cell KE.out 0).trans rfl
  have ke1 : wd.cell? ⟨ge, 1, none⟩ = some (.int .i64 of) := (blk_cell KE.out 1).trans rfl
  have ke2 : wd.cell? ⟨ge, 2, none⟩ = some (.int .i64 dir) := (blk_cell KE.out 2).trans rfl
  have kd0 : wd.cell? ⟨gd, 0, none⟩ = some (.int .i64 0) := (blk_cell KD.out 0).trans rfl
  have kd1 : wd.cell? ⟨gd, 1, none⟩ = some (.bool false) := (blk_cell KD.out 1).trans rfl
  have kd2 : wd.cell? ⟨gd, 2, none⟩ = some (.slice none 0 0) := (blk_cell KD.out 2).trans rfl
  have kd3 : wd.cell? ⟨gd, 3, none⟩ = some (.slice none 0 0) := (blk_cell KD.out 3).trans rfl
  have zd0 := blk_frozen KD.out 0
  have zd1 := blk_frozen KD.out 1
  have zd2 := blk_frozen KD.out 2
  have zd3 := blk_frozen KD.out 3
  go_upto_region 4 with (first | (go_at_call 56; refine (sst_ok HST.out (Kd.C_below HR.out BB.out) hc (Kd.C_below HR1.out BB.out) hc1 (Kd.C_below HR2.out BB.out) hc2).mono ?_; rintro e w1 ⟨rfl, hb⟩; have KL := Aside0.mk (blk_below KL.out hb); have KZ := Aside0.mk (blk_below KZ.out hb); have KE := Aside0.mk (blk_below KE.out hb); have KD := Aside0.mk (blk_below KD.out hb); have BB := Aside0.mk (below_step BB.out hb); clear hb; have kl0 : w1.cell? ⟨gl, 0, none⟩ = some (.int .i64 n) := (blk_cell KL.out 0).trans rfl; have kl1 : w1.cell? ⟨gl, 1, none⟩ = some (.slice A l.length c) := (blk_cell KL.out 1).trans rfl; have kz0 : w1.cell? ⟨gz, 0, none⟩ = some (.bool true) := (blk_cell KZ.out 0).trans rfl; have kz1 : w1.cell? ⟨gz, 1, none⟩ = some (.slice A1 ss.length c1) := (blk_cell KZ.out 1).trans rfl; have kz2 : w1.cell? ⟨gz, 2, none⟩ = some (.slice A2 dd.length c2) := (blk_cell KZ.out 2).trans rfl; have ke0 : w1.cell? ⟨ge, 0, none⟩ = some (.int .i64 op) := (blk_cell KE.out 0).trans rfl; have ke1 : w1.cell? ⟨ge, 1, none⟩ = some (.int .i64 of) := (blk_cell KE.out 1).trans rfl; have ke2 : w1.cell? ⟨ge, 2, none⟩ = some (.int .i64 dir) := (blk_cell KE.out 2).trans rfl; have kd0 : w1.cell? ⟨gd, 0, none⟩ = some (.int .i64 0) := (blk_cell KD.out 0).trans rfl; have kd1 : w1.cell? ⟨gd, 1, none⟩ = some (.bool false) := (blk_cell KD.out 1).trans rfl; have kd2 : w1.cell? ⟨gd, 2, none⟩ = some (.slice none 0 0) := (blk_cell KD.out 2).trans rfl; have kd3 : w1.cell? ⟨gd, 3, none⟩ = some (.slice none 0 0) := (blk_cell KD.out 3).trans rfl; have zd0 := blk_frozen KD.out 0; have zd1 := blk_frozen KD.out 1; have zd2 := blk_frozen KD.out 2; have zd3 := blk_frozen KD.out 3) | (go_at_call 34; refine (sev_at op of dir HEV.out (Kd.C_below HR.out BB.out) hc).mono ?_; rintro e w2 ⟨rfl, hb⟩; have KL := Aside0.mk (blk_below KL.out hb); have KZ := Aside0.mk (blk_below KZ.out hb); have KE := Aside0.mk (blk_below KE.out hb); have KD := Aside0.mk (blk_below KD.out hb); have BB := Aside0.mk (below_step BB.out hb); clear hb; have kl0 : w2.cell? ⟨gl, 0, none⟩ = some (.int .i64 n) := (blk_cell KL.out 0).trans rfl; have kl1 : w2.cell? ⟨gl, 1, none⟩ = some (.slice A l.length c) := (blk_cell KL.out 1).trans rfl; have kz0 : w2.cell? ⟨gz, 0, none⟩ = some (.bool true) := (blk_cell KZ.out 0).trans rfl; have kz1 : w2.cell? ⟨gz, 1, none⟩ = some (.slice A1 ss.length c1) := (blk_cell KZ.out 1).trans rfl; have kz2 : w2.cell? ⟨gz, 2, none⟩ = some (.slice A2 dd.length c2) := (blk_cell KZ.out 2).trans rfl; have ke0 : w2.cell? ⟨ge, 0, none⟩ = some (.int .i64 op) := (blk_cell KE.out 0).trans rfl; have ke1 : w2.cell? ⟨ge, 1, none⟩ = some (.int .i64 of) := (blk_cell KE.out 1).trans rfl; have ke2 : w2.cell? ⟨ge, 2, none⟩ = some (.int .i64 dir) := (blk_cell KE.out 2).trans rfl; have kd0 : w2.cell? ⟨gd, 0, none⟩ = some (.int .i64 0) := (blk_cell KD.out 0).trans rfl; have kd1 : w2.cell? ⟨gd, 1, none⟩ = some (.bool false) := (blk_cell KD.out 1).trans rfl; have kd2 : w2.cell? ⟨gd, 2, none⟩ = some (.slice none 0 0) := (blk_cell KD.out 2).trans rfl; have kd3 : w2.cell? ⟨gd, 3, none⟩ = some (.slice none 0 0) := (blk_cell KD.out 3).trans rfl; have zd0 := blk_frozen KD.out 0; have zd1 := blk_frozen KD.out 1; have zd2 := blk_frozen KD.out 2; have zd3 := blk_frozen KD.out 3) | (go_at_call 93; refine (copy_is (Kd.C_below HR1.out BB.out) hc1 (Kd.C_below HR2.out BB.out) hc2 hs hd).mono ?_; rintro e w3 ⟨v1, v2, rfl, hR1, hR2, hb⟩; have H1 := Aside0.mk (Kd.R_lower hR1 BB.out.size); have H2 := Aside0.mk (Kd.R_lower hR2 BB.out.size); clear hR1 hR2; obtain ⟨gr, cr, e1, _, _, _⟩ := Kd.R_form H1.out hpos; obtain ⟨Ad, cd, e2⟩ := Kd.R_slice H2.out; subst e1 e2; have KL := Aside0.mk (blk_below KL.out hb); have KZ := Aside0.mk (blk_below KZ.out hb); have KE := Aside0.mk (blk_below KE.out hb); have KD := Aside0.mk (blk_below KD.out hb); have BB := Aside0.mk (below_step BB.out hb); clear hb; have kl0 : w3.cell? ⟨gl, 0, none⟩ = some (.int .i64 n) := (blk_cell KL.out 0).trans rfl; have kl1 : w3.cell? ⟨gl, 1, none⟩ = some (.slice A l.length c) := (blk_cell KL.out 1).trans rfl; have kz0 : w3.cell? ⟨gz, 0, none⟩ = some (.bool true) := (blk_cell KZ.out 0).trans rfl; have kz1 : w3.cell? ⟨gz, 1, none⟩ = some (.slice A1 ss.length c1) := (blk_cell KZ.out 1).trans rfl; have kz2 : w3.cell? ⟨gz, 2, none⟩ = some (.slice A2 dd.length c2) := (blk_cell KZ.out 2).trans rfl; have ke0 : w3.cell? ⟨ge, 0, none⟩ = some (.int .i64 op) := (blk_cell KE.out 0).trans rfl; have ke1 : w3.cell? ⟨ge, 1, none⟩ = some (.int .i64 of) := (blk_cell KE.out 1).trans rfl; have ke2 : w3.cell? ⟨ge, 2, none⟩ = some (.int .i64 dir) := (blk_cell KE.out 2).trans rfl; have kd0 : w3.cell? ⟨gd, 0, none⟩ = some (.int .i64 0) := (blk_cell KD.out 0).trans rfl; have kd1 : w3.cell? ⟨gd, 1, none⟩ = some (.bool false) := (blk_cell KD.out 1).trans rfl; have kd2 : w3.cell? ⟨gd, 2, none⟩ = some (.slice none 0 0) := (blk_cell KD.out 2).trans rfl; have kd3 : w3.cell? ⟨gd, 3, none⟩ = some (.slice none 0 0) := (blk_cell KD.out 3).trans rfl; have zd0 := blk_frozen KD.out 0; have zd1 := blk_frozen KD.out 1; have zd2 := blk_frozen KD.out 2; have zd3 := blk_frozen KD.out 3) | ((with_reducible refine gate_dst (N := 7) rfl ?_); refine box_event ?hg (N := 7) ?hd (cs := #[.bool false, .slice none 0 0, .slice none 0 0]) (t := 46) ?hr ?_; (case hd => rfl); (case hg => rfl); (case hr => first | (go_simp; done) | (go_simp; rfl)); intro go eo wo ko bo; have KO := Aside0.mk ko; have EO := Aside0.mk eo; have BO := Aside0.mk bo; have zo0 := blk_frozen ko 0; have zo1 := blk_frozen ko 1; have zo2 := blk_frozen ko 2; have ko0 := (blk_cell ko 0).trans (show _ = some (Value.bool false) from rfl); have ko1 := (blk_cell ko 1).trans (show _ = some (Value.slice none 0 0) from rfl); have ko2 := (blk_cell ko 2).trans (show _ = some (Value.slice none 0 0) from rfl); have ke0 := pw_cell_below bo ke0; clear bo eo ko))
  have KX := Aside0.mk (blk_put (blk_put (blk_put KO.out 0 (.bool true) rfl) 1 (.slice (some ⟨gr, 0, none⟩) ss.length cr) rfl) 2 (.slice Ad dd.length cd) rfl)
  have BX := Aside0.mk (below_set (j := 2) (v := (.slice Ad dd.length cd)) (below_set (j := 1) (v := (.slice (some ⟨gr, 0, none⟩) ss.length cr)) (below_set (j := 0) (v := .bool true) BO.out (Nat.le_of_eq EO.out.symm)) (Nat.le_of_eq EO.out.symm)) (Nat.le_of_eq EO.out.symm))
  have GO := Aside0.mk (show w.heap.size ≤ go by rw [EO.out]; exact BB.out.size)
  clear kl0 kl1 kz0 kz1 kz2 ke0 ke1 ke2 kd0 kd1 kd2 kd3 zd0 zd1 zd2 zd3 zo0 zo1 zo2 ko0 ko1 ko2
  have SA := Aside0.mk (show SpSt w (((wo.setCell ⟨go, 0, none⟩ (.bool true)).setCell ⟨go, 1, none⟩ (.slice (some ⟨gr, 0, none⟩) ss.length cr)).setCell ⟨go, 2, none⟩ (.slice Ad dd.length cd)) gl gz go ge gd [.int .i64 n, .slice A l.length c] [.bool true, .slice A1 ss.length c1, .slice A2 dd.length c2] [.bool true, .slice (some ⟨gr, 0, none⟩) ss.length cr, .slice Ad dd.length cd] [.int .i64 op, .int .i64 of, .int .i64 dir] [.int .i64 0, .bool false, .slice none 0 0, .slice none 0 0] (.slice (some ⟨gr, 0, none⟩) ss.length cr) (.slice Ad dd.length cd) ss dd from ⟨⟨blk_below KL.out BX.out, KX.out, blk_below KE.out BX.out, blk_below KD.out BX.out, R_up H1.out BX.out, R_up H2.out BX.out, below_step BB.out BX.out, GL.out, GO.out, GE.out, GD.out⟩, blk_below KZ.out BX.out⟩)
  clear KL KZ KE KD BB H1 H2 KO BO EO KX BX
  generalize (((wo.setCell ⟨go, 0, none⟩ (.bool true)).setCell ⟨go, 1, none⟩ (.slice (some ⟨gr, 0, none⟩) ss.length cr)).setCell ⟨go, 2, none⟩ (.slice Ad dd.length cd)) = wa at SA ⊢
  have kge0 : wa.cell? ⟨ge, 0, none⟩ = some (.int .i64 op) := (blk_cell SA.out.D.he 0).trans rfl
  go_upto_block 0 with fail
  clear kge0
  go_cut [8] from 9 to 126 (fun v8 wx => v8 = .int .i64 (doCode l ss dd op of) ∧ Aside0 (SpSt w wx gl gz go ge gd [.int .i64 n, .slice A l.length c] [.bool true, .slice A1 ss.length c1, .slice A2 dd.length c2] [.bool true, .slice (some ⟨gr, 0, none⟩) ss.length cr, .slice Ad dd.length cd] [.int .i64 op, .int .i64 of, .int .i64 dir] [.int .i64 0, .bool false, .slice none 0 0, .slice none 0 0] (.slice (some ⟨gr, 0, none⟩) ss.length cr) (.slice Ad dd.length cd) (midSecs2 l ss dd op of dir) (doDead l ss dd op of)))
  case first =>
    obtain ⟨hl, hns, hnd, hln⟩ := HN.out
    have HL2 := Aside0.mk hln
    rcases evOk_cases HEV.out with ⟨hop, ho0, ho1, hdir⟩ | ⟨hop, ho0, ho1⟩ | ⟨rfl, ho0, ho1⟩
    · skip
      have lr := lay_rd hl of ho0 ho1
      have ho2 := ho1
      rw [← hnd] at ho1
      obtain ⟨gb, cb, e, _, _, _⟩ := Kd.R_form SA.out.D.H2 (show 0 < dd.length by omega)
      cases e
      obtain ⟨x0, xf⟩ := bool_at SA.out.D.H2 of ho0 ho1
      obtain ⟨ad, e, y0, y1⟩ := at_T88 HR.out of ho0 ho2
      subst e
      obtain ⟨a2, e, -⟩ := HR2.out.2.2 (show 0 < dd.length by omega)
      subst e
      have u0 := Kd.foot_bool HR2.out of ho0 ho1
      have U0 := Aside0.mk u0
      have LR0 := Aside0.mk (show (rd_T88 l of).f0 < (ss.length : Int) by omega)
      have LR1 := Aside0.mk (show (rd_T88 l of).f1 < (ss.length : Int) by omega)
      clear lr hl hns hnd hln u0
      have Y0 := Aside0.mk y0
      have Y1 := Aside0.mk y1
      clear y0 y1
      rcases hop with rfl | rfl
      · skip
        have kge0 : wa.cell? ⟨ge, 0, none⟩ = some (.int .i64 1) := (blk_cell SA.out.D.he 0).trans rfl
        have kge1 : wa.cell? ⟨ge, 1, none⟩ = some (.int .i64 of) := (blk_cell SA.out.D.he 1).trans rfl
        have kge2 : wa.cell? ⟨ge, 2, none⟩ = some (.int .i64 dir) := (blk_cell SA.out.D.he 2).trans rfl
        have kgo0 : wa.cell? ⟨go, 0, none⟩ = some (.bool true) := (blk_cell SA.out.D.hs 0).trans rfl
        have kgo1 : wa.cell? ⟨go, 1, none⟩ = some (.slice (some ⟨gr, 0, none⟩) ss.length cr) := (blk_cell SA.out.D.hs 1).trans rfl
        have kgo2 : wa.cell? ⟨go, 2, none⟩ = some (.slice (some ⟨gb, 0, none⟩) dd.length cd) := (blk_cell SA.out.D.hs 2).trans rfl
        have kgz0 : wa.cell? ⟨gz, 0, none⟩ = some (.bool true) := (blk_cell SA.out.hz 0).trans rfl
        have kgz1 : wa.cell? ⟨gz, 1, none⟩ = some (.slice A1 ss.length c1) := (blk_cell SA.out.hz 1).trans rfl
        have kgz2 : wa.cell? ⟨gz, 2, none⟩ = some (.slice (some a2) dd.length c2) := (blk_cell SA.out.hz 2).trans rfl
        have kgl0 : wa.cell? ⟨gl, 0, none⟩ = some (.int .i64 n) := (blk_cell SA.out.D.hl 0).trans rfl
        have kgl1 : wa.cell? ⟨gl, 1, none⟩ = some (.slice (some ad) l.length c) := (blk_cell SA.out.D.hl 1).trans rfl
        have y0 := pw_cell_below SA.out.D.hB Y0.out
        have y1 := pw_cell_below SA.out.D.hB Y1.out
        go_upto_region 9 with (first | ((with_reducible refine gate_dst (N := 9) rfl ?_); refine box_event ?hg (N := 9) ?hd (cs := #[.int .i64 0, .int .i64 0]) (t := 88) ?hr ?_; (case hd => rfl); (case hg => rfl); (case hr => first | (go_simp; done) | (go_simp; rfl)); intro gc ec wb kc bc; have KC := Aside0.mk kc; have EC := Aside0.mk ec; have BC := Aside0.mk bc; have zc0 := blk_frozen kc 0; have zc1 := blk_frozen kc 1; have kc0 := (blk_cell kc 0).trans (show _ = some (Value.int .i64 0) from rfl); have kc1 := (blk_cell kc 1).trans (show _ = some (Value.int .i64 0) from rfl); clear kc ec bc))
        have KX := Aside0.mk (blk_put (blk_put KC.out 0 (.int .i64 (rd_T88 l of).f0) rfl) 1 (.int .i64 (rd_T88 l of).f1) rfl)
        have BX := Aside0.mk (below_set (j := 1) (v := (.int .i64 (rd_T88 l of).f1)) (below_set (j := 0) (v := (.int .i64 (rd_T88 l of).f0)) BC.out (Nat.le_of_eq EC.out.symm)) (Nat.le_of_eq EC.out.symm))
        have S1 := Aside0.mk (SA.out.up BX.out)
        clear kge0 kge1 kge2 kgo0 kgo1 kgo2 kgz0 kgz1 kgz2 kgl0 kgl1
        clear SA y0 y1 KC BC EC zc0 zc1 kc0 kc1 BX x0 xf
        generalize (wb.setCell ⟨gc, 0, none⟩ (.int .i64 (rd_T88 l of).f0)).setCell ⟨gc, 1, none⟩ (.int .i64 (rd_T88 l of).f1) = w1 at S1 KX ⊢
        have kge0 : w1.cell? ⟨ge, 0, none⟩ = some (.int .i64 1) := (blk_cell S1.out.D.he 0).trans rfl
        have kge1 : w1.cell? ⟨ge, 1, none⟩ = some (.int .i64 of) := (blk_cell S1.out.D.he 1).trans rfl
        have kge2 : w1.cell? ⟨ge, 2, none⟩ = some (.int .i64 dir) := (blk_cell S1.out.D.he 2).trans rfl
        have kgo0 : w1.cell? ⟨go, 0, none⟩ = some (.bool true) := (blk_cell S1.out.D.hs 0).trans rfl
        have kgo1 : w1.cell? ⟨go, 1, none⟩ = some (.slice (some ⟨gr, 0, none⟩) ss.length cr) := (blk_cell S1.out.D.hs 1).trans rfl
        have kgo2 : w1.cell? ⟨go, 2, none⟩ = some (.slice (some ⟨gb, 0, none⟩) dd.length cd) := (blk_cell S1.out.D.hs 2).trans rfl
        have kgz0 : w1.cell? ⟨gz, 0, none⟩ = some (.bool true) := (blk_cell S1.out.hz 0).trans rfl
        have kgz1 : w1.cell? ⟨gz, 1, none⟩ = some (.slice A1 ss.length c1) := (blk_cell S1.out.hz 1).trans rfl
        have kgz2 : w1.cell? ⟨gz, 2, none⟩ = some (.slice (some a2) dd.length c2) := (blk_cell S1.out.hz 2).trans rfl
        have kgl0 : w1.cell? ⟨gl, 0, none⟩ = some (.int .i64 n) := (blk_cell S1.out.D.hl 0).trans rfl
        have kgl1 : w1.cell? ⟨gl, 1, none⟩ = some (.slice (some ad) l.length c) := (blk_cell S1.out.D.hl 1).trans rfl
        have kc0 : w1.cell? ⟨gc, 0, none⟩ = some (.int .i64 (rd_T88 l of).f0) := (blk_cell KX.out 0).trans rfl
        have kc1 : w1.cell? ⟨gc, 1, none⟩ = some (.int .i64 (rd_T88 l of).f1) := (blk_cell KX.out 1).trans rfl
        have u0 := pw_cell_below S1.out.D.hB U0.out
        rcases Bool.eq_false_or_eq_true (rdOf false dd of) with hdo | hdo
        · rw [hdo] at u0
          have HC := Aside0.mk (show doCode l ss dd 1 of = 2 by unfold doCode; rw [if_pos (by decide), if_pos hdo])
          clear hdo
          go_wp2_with fail
          go_meet
          case rel => exact ⟨by rw [HC.out], ⟨by unfold midSecs2 doDead; rw [HC.out]; exact S1.out⟩⟩
        · rw [hdo] at u0
          have HC := Aside0.mk (show doCode l ss dd 1 of = 0 by unfold doCode; rw [if_pos (by decide), hdo]; rfl)
          clear hdo
          rcases hdir with rfl | rfl
          · skip
            go_upto_region 18 with (go_at_call 118; refine (out_any _ true go gr ss.length cr _ _ _ _ _ LR0.out S1.out.D.hs S1.out.D.H1).mono ?_; rintro e w2 ⟨rfl, hR, hg⟩; have S2 := Aside0.mk (S1.out.sec hR hg); clear hR hg)
            go_wp2_with (go_at_call 118; refine (in_any _ true go gr ss.length cr _ _ _ _ _ LR1.out S2.out.D.hs S2.out.D.H1).mono ?_; rintro e w3 ⟨rfl, hR, hg⟩; have S3 := Aside0.mk (S2.out.sec hR hg); clear hR hg)
            go_meet
            case rel => exact ⟨by rw [HC.out], ⟨by unfold midSecs2 doDead; rw [if_pos HC.out, if_pos HC.out]; exact S3.out⟩⟩
          · skip
            go_upto_region 18 with (go_at_call 118; refine (out_any _ true go gr ss.length cr _ _ _ _ _ LR1.out S1.out.D.hs S1.out.D.H1).mono ?_; rintro e w2 ⟨rfl, hR, hg⟩; have S2 := Aside0.mk (S1.out.sec hR hg); clear hR hg)
            go_wp2_with (go_at_call 118; refine (in_any _ true go gr ss.length cr _ _ _ _ _ LR0.out S2.out.D.hs S2.out.D.H1).mono ?_; rintro e w3 ⟨rfl, hR, hg⟩; have S3 := Aside0.mk (S2.out.sec hR hg); clear hR hg)
            go_meet
            case rel => exact ⟨by rw [HC.out], ⟨by unfold midSecs2 doDead; rw [if_pos HC.out, if_pos HC.out]; exact S3.out⟩⟩
      · skip
        have kge0 : wa.cell? ⟨ge, 0, none⟩ = some (.int .i64 2) := (blk_cell SA.out.D.he 0).trans rfl
        have kge1 : wa.cell? ⟨ge, 1, none⟩ = some (.int .i64 of) := (blk_cell SA.out.D.he 1).trans rfl
        have kge2 : wa.cell? ⟨ge, 2, none⟩ = some (.int .i64 dir) := (blk_cell SA.out.D.he 2).trans rfl
        have kgo0 : wa.cell? ⟨go, 0, none⟩ = some (.bool true) := (blk_cell SA.out.D.hs 0).trans rfl
        have kgo1 : wa.cell? ⟨go, 1, none⟩ = some (.slice (some ⟨gr, 0, none⟩) ss.length cr) := (blk_cell SA.out.D.hs 1).trans rfl
        have kgo2 : wa.cell? ⟨go, 2, none⟩ = some (.slice (some ⟨gb, 0, none⟩) dd.length cd) := (blk_cell SA.out.D.hs 2).trans rfl
        have kgz0 : wa.cell? ⟨gz, 0, none⟩ = some (.bool true) := (blk_cell SA.out.hz 0).trans rfl
        have kgz1 : wa.cell? ⟨gz, 1, none⟩ = some (.slice A1 ss.length c1) := (blk_cell SA.out.hz 1).trans rfl
        have kgz2 : wa.cell? ⟨gz, 2, none⟩ = some (.slice (some a2) dd.length c2) := (blk_cell SA.out.hz 2).trans rfl
        have kgl0 : wa.cell? ⟨gl, 0, none⟩ = some (.int .i64 n) := (blk_cell SA.out.D.hl 0).trans rfl
        have kgl1 : wa.cell? ⟨gl, 1, none⟩ = some (.slice (some ad) l.length c) := (blk_cell SA.out.D.hl 1).trans rfl
        have y0 := pw_cell_below SA.out.D.hB Y0.out
        have y1 := pw_cell_below SA.out.D.hB Y1.out
        go_upto_region 9 with (first | ((with_reducible refine gate_dst (N := 9) rfl ?_); refine box_event ?hg (N := 9) ?hd (cs := #[.int .i64 0, .int .i64 0]) (t := 88) ?hr ?_; (case hd => rfl); (case hg => rfl); (case hr => first | (go_simp; done) | (go_simp; rfl)); intro gc ec wb kc bc; have KC := Aside0.mk kc; have EC := Aside0.mk ec; have BC := Aside0.mk bc; have zc0 := blk_frozen kc 0; have zc1 := blk_frozen kc 1; have kc0 := (blk_cell kc 0).trans (show _ = some (Value.int .i64 0) from rfl); have kc1 := (blk_cell kc 1).trans (show _ = some (Value.int .i64 0) from rfl); clear kc ec bc))
        have KX := Aside0.mk (blk_put (blk_put KC.out 0 (.int .i64 (rd_T88 l of).f0) rfl) 1 (.int .i64 (rd_T88 l of).f1) rfl)
        have BX := Aside0.mk (below_set (j := 1) (v := (.int .i64 (rd_T88 l of).f1)) (below_set (j := 0) (v := (.int .i64 (rd_T88 l of).f0)) BC.out (Nat.le_of_eq EC.out.symm)) (Nat.le_of_eq EC.out.symm))
        have S1 := Aside0.mk (SA.out.up BX.out)
        clear kge0 kge1 kge2 kgo0 kgo1 kgo2 kgz0 kgz1 kgz2 kgl0 kgl1
        clear SA y0 y1 KC BC EC zc0 zc1 kc0 kc1 BX x0 xf
        generalize (wb.setCell ⟨gc, 0, none⟩ (.int .i64 (rd_T88 l of).f0)).setCell ⟨gc, 1, none⟩ (.int .i64 (rd_T88 l of).f1) = w1 at S1 KX ⊢
        have kge0 : w1.cell? ⟨ge, 0, none⟩ = some (.int .i64 2) := (blk_cell S1.out.D.he 0).trans rfl
        have kge1 : w1.cell? ⟨ge, 1, none⟩ = some (.int .i64 of) := (blk_cell S1.out.D.he 1).trans rfl
        have kge2 : w1.cell? ⟨ge, 2, none⟩ = some (.int .i64 dir) := (blk_cell S1.out.D.he 2).trans rfl
        have kgo0 : w1.cell? ⟨go, 0, none⟩ = some (.bool true) := (blk_cell S1.out.D.hs 0).trans rfl
        have kgo1 : w1.cell? ⟨go, 1, none⟩ = some (.slice (some ⟨gr, 0, none⟩) ss.length cr) := (blk_cell S1.out.D.hs 1).trans rfl
        have kgo2 : w1.cell? ⟨go, 2, none⟩ = some (.slice (some ⟨gb, 0, none⟩) dd.length cd) := (blk_cell S1.out.D.hs 2).trans rfl
        have kgz0 : w1.cell? ⟨gz, 0, none⟩ = some (.bool true) := (blk_cell S1.out.hz 0).trans rfl
        have kgz1 : w1.cell? ⟨gz, 1, none⟩ = some (.slice A1 ss.length c1) := (blk_cell S1.out.hz 1).trans rfl
        have kgz2 : w1.cell? ⟨gz, 2, none⟩ = some (.slice (some a2) dd.length c2) := (blk_cell S1.out.hz 2).trans rfl
        have kgl0 : w1.cell? ⟨gl, 0, none⟩ = some (.int .i64 n) := (blk_cell S1.out.D.hl 0).trans rfl
        have kgl1 : w1.cell? ⟨gl, 1, none⟩ = some (.slice (some ad) l.length c) := (blk_cell S1.out.D.hl 1).trans rfl
        have kc0 : w1.cell? ⟨gc, 0, none⟩ = some (.int .i64 (rd_T88 l of).f0) := (blk_cell KX.out 0).trans rfl
        have kc1 : w1.cell? ⟨gc, 1, none⟩ = some (.int .i64 (rd_T88 l of).f1) := (blk_cell KX.out 1).trans rfl
        have u0 := pw_cell_below S1.out.D.hB U0.out
        rcases Bool.eq_false_or_eq_true (rdOf false dd of) with hdo | hdo
        · rw [hdo] at u0
          have HC := Aside0.mk (show doCode l ss dd 2 of = 2 by unfold doCode; rw [if_pos (by decide), if_pos hdo])
          clear hdo
          go_wp2_with fail
          go_meet
          case rel => exact ⟨by rw [HC.out], ⟨by unfold midSecs2 doDead; rw [HC.out]; exact S1.out⟩⟩
        · rw [hdo] at u0
          have HC := Aside0.mk (show doCode l ss dd 2 of = 0 by unfold doCode; rw [if_pos (by decide), hdo]; rfl)
          clear hdo
          rcases hdir with rfl | rfl
          · skip
            go_wp2_with (go_at_call 118; refine (in_any _ true go gr ss.length cr _ _ _ _ _ LR1.out S1.out.D.hs S1.out.D.H1).mono ?_; rintro e w3 ⟨rfl, hR, hg⟩; have S3 := Aside0.mk (S1.out.sec hR hg); clear hR hg)
            go_meet
            case rel => exact ⟨by rw [HC.out], ⟨by unfold midSecs2 doDead; rw [if_pos HC.out, if_pos HC.out]; exact S3.out⟩⟩
          · skip
            go_wp2_with (go_at_call 118; refine (in_any _ true go gr ss.length cr _ _ _ _ _ LR0.out S1.out.D.hs S1.out.D.H1).mono ?_; rintro e w3 ⟨rfl, hR, hg⟩; have S3 := Aside0.mk (S1.out.sec hR hg); clear hR hg)
            go_meet
            case rel => exact ⟨by rw [HC.out], ⟨by unfold midSecs2 doDead; rw [if_pos HC.out, if_pos HC.out]; exact S3.out⟩⟩
    · skip
      have lr := lay_rd hl of ho0 ho1
      have ho2 := ho1
      rw [← hnd] at ho1
      obtain ⟨gb, cb, e, _, _, _⟩ := Kd.R_form SA.out.D.H2 (show 0 < dd.length by omega)
      cases e
      obtain ⟨x0, xf⟩ := bool_at SA.out.D.H2 of ho0 ho1
      obtain ⟨ad, e, y0, y1⟩ := at_T88 HR.out of ho0 ho2
      subst e
      obtain ⟨a2, e, -⟩ := HR2.out.2.2 (show 0 < dd.length by omega)
      subst e
      have u0 := Kd.foot_bool HR2.out of ho0 ho1
      have U0 := Aside0.mk u0
      have LR0 := Aside0.mk (show (rd_T88 l of).f0 < (ss.length : Int) by omega)
      have LR1 := Aside0.mk (show (rd_T88 l of).f1 < (ss.length : Int) by omega)
      clear lr hl hns hnd hln u0
      have Y0 := Aside0.mk y0
      have Y1 := Aside0.mk y1
      clear y0 y1
      have HC := Aside0.mk (show doCode l ss dd op of = 0 by unfold doCode; rw [if_neg (by omega), if_neg (by omega)])
      have HM := Aside0.mk (show midSecs2 l ss dd op of dir = midSecs l ss op of dir by unfold midSecs2; rw [if_pos HC.out])
      have HD := Aside0.mk (show doDead l ss dd op of = midDead dd op of by unfold doDead; rw [if_pos HC.out])
      rcases hop with rfl | rfl
      · skip
        have kge0 : wa.cell? ⟨ge, 0, none⟩ = some (.int .i64 3) := (blk_cell SA.out.D.he 0).trans rfl
        have kge1 : wa.cell? ⟨ge, 1, none⟩ = some (.int .i64 of) := (blk_cell SA.out.D.he 1).trans rfl
        have kge2 : wa.cell? ⟨ge, 2, none⟩ = some (.int .i64 dir) := (blk_cell SA.out.D.he 2).trans rfl
        have kgo0 : wa.cell? ⟨go, 0, none⟩ = some (.bool true) := (blk_cell SA.out.D.hs 0).trans rfl
        have kgo1 : wa.cell? ⟨go, 1, none⟩ = some (.slice (some ⟨gr, 0, none⟩) ss.length cr) := (blk_cell SA.out.D.hs 1).trans rfl
        have kgo2 : wa.cell? ⟨go, 2, none⟩ = some (.slice (some ⟨gb, 0, none⟩) dd.length cd) := (blk_cell SA.out.D.hs 2).trans rfl
        have kgz0 : wa.cell? ⟨gz, 0, none⟩ = some (.bool true) := (blk_cell SA.out.hz 0).trans rfl
        have kgz1 : wa.cell? ⟨gz, 1, none⟩ = some (.slice A1 ss.length c1) := (blk_cell SA.out.hz 1).trans rfl
        have kgz2 : wa.cell? ⟨gz, 2, none⟩ = some (.slice (some a2) dd.length c2) := (blk_cell SA.out.hz 2).trans rfl
        have kgl0 : wa.cell? ⟨gl, 0, none⟩ = some (.int .i64 n) := (blk_cell SA.out.D.hl 0).trans rfl
        have kgl1 : wa.cell? ⟨gl, 1, none⟩ = some (.slice (some ad) l.length c) := (blk_cell SA.out.D.hl 1).trans rfl
        go_upto_region 21 with fail
        have S1 := Aside0.mk (SA.out.dead of true)
        clear kge0 kge1 kge2 kgo0 kgo1 kgo2 kgz0 kgz1 kgz2 kgl0 kgl1
        clear SA x0 xf
        generalize wa.setCell ⟨gb, of.toNat, none⟩ (.bool true) = w1 at S1 ⊢
        have kge1 : w1.cell? ⟨ge, 1, none⟩ = some (.int .i64 of) := (blk_cell S1.out.D.he 1).trans rfl
        have kgl1 : w1.cell? ⟨gl, 1, none⟩ = some (.slice (some ad) l.length c) := (blk_cell S1.out.D.hl 1).trans rfl
        have y0 := pw_cell_below S1.out.D.hB Y0.out
        have y1 := pw_cell_below S1.out.D.hB Y1.out
        go_region_held3 (fun w' => w'.cell? ⟨gl, 1, none⟩ = some (.slice (some ad) l.length c) ∧ w'.cell? ⟨ge, 1, none⟩ = some (.int .i64 of) ∧ w'.cell? (ad.add (of.toNat * 2)) = some (.int .i64 (rd_T88 l of).f0) ∧ w'.cell? ⟨(ad.add (of.toNat * 2)).block, (ad.add (of.toNat * 2)).off + 1, none⟩ = some (.int .i64 (rd_T88 l of).f1))
          (first | go_keep | (go_split_ands; (repeat' apply And.intro) <;> (refine pw_cell_below (below_alloc (Below.refl _ _) _) ?_; assumption)))
          (fail)
        have S2 := Aside0.mk (S1.out.up (below_drew1 (below_alloc (Below.refl w1.heap.size w1) (.cells #[.int .i64 (rd_T88 l of).f0, .int .i64 (rd_T88 l of).f1] 3))))
        have KS : Aside0 (((w1.alloc (.cells #[.int .i64 (rd_T88 l of).f0, .int .i64 (rd_T88 l of).f1] 3)).drew).heap[w1.heap.size]? = some (.cells #[.int .i64 (rd_T88 l of).f0, .int .i64 (rd_T88 l of).f1] 3 (0, 0))) := ⟨blk_drew (heap_alloc_new w1 _)⟩
        clear S1 kge1 kgl1 y0 y1
        generalize (w1.alloc (.cells #[.int .i64 (rd_T88 l of).f0, .int .i64 (rd_T88 l of).f1] 3)).drew = w2 at S2 KS ⊢
        generalize w1.heap.size = gq at KS ⊢
        go_wp2_with fail
        go_loopg [86] 2 (fun kq v w' => ∃ i : Int, v = .int .i64 i ∧ Aside0 ((i = 0 ∧ kq = 2) ∨ (i = 1 ∧ kq = 1) ∨ (i = 2 ∧ kq = 0)) ∧ Aside0 (w'.heap[gq]? = some (.cells #[.int .i64 (rd_T88 l of).f0, .int .i64 (rd_T88 l of).f1] 3 (0, 0))) ∧ Aside0 (SpSt w w' gl gz go ge gd [.int .i64 n, .slice (some ad) l.length c] [.bool true, .slice A1 ss.length c1, .slice (some a2) dd.length c2] [.bool true, .slice (some ⟨gr, 0, none⟩) ss.length cr, .slice (some ⟨gb, 0, none⟩) dd.length cd] [.int .i64 3, .int .i64 of, .int .i64 dir] [.int .i64 0, .bool false, .slice none 0 0, .slice none 0 0] (.slice (some ⟨gr, 0, none⟩) ss.length cr) (.slice (some ⟨gb, 0, none⟩) dd.length cd) (loseTo ss (rd_T88 l of).f0 (rd_T88 l of).f1 i.toNat) (dd.set of.toNat true)))
        case atStart => exact ⟨0, rfl, ⟨.inl ⟨rfl, rfl⟩⟩, KS, S2⟩
        case round =>
          clear S2 KS
          obtain ⟨i, rfl, HI, KS, SL⟩ := hrel
          rcases HI.out with ⟨rfl, rfl⟩ | ⟨rfl, rfl⟩ | ⟨rfl, rfl⟩
          · have kk : wr.cell? ⟨gq, 0, none⟩ = some (.int .i64 (rd_T88 l of).f0) := (blk_cell KS.out 0).trans rfl
            have kgo1 : wr.cell? ⟨go, 1, none⟩ = some (.slice (some ⟨gr, 0, none⟩) ss.length cr) := (blk_cell SL.out.D.hs 1).trans rfl
            by_cases h0 : (rd_T88 l of).f0 < 0
            · have h0b : decide ((rd_T88 l of).f0 ≥ 0) = false := decide_eq_false (by omega)
              have H0 := Aside0.mk h0
              clear h0
              go_wp2_with fail
              go_roundg 1
              case measure => omega
              case rel => exact ⟨1, rfl, ⟨.inr (.inl ⟨rfl, rfl⟩)⟩, KS, ⟨by rw [show (1 : Int).toNat = 1 from rfl, show loseTo ss _ _ 1 = loseTo ss _ _ 0 from if_pos H0.out]; exact SL.out⟩⟩
            · have h0b : decide ((rd_T88 l of).f0 ≥ 0) = true := decide_eq_true (by omega)
              have h1 : 0 ≤ (rd_T88 l of).f0 := by omega
              have h2 := LR0.out
              have H0 := Aside0.mk h0
              have H1 := Aside0.mk h1
              clear h0
              obtain ⟨z0, z1, z2, z3, z4, zf0, zf1, zf2, zf3, zf4⟩ := sec_at SL.out.D.H1 (rd_T88 l of).f0 h1 h2
              have hp1 := eq_true h1
              have hp2 := eq_true h2
              clear h1 h2 z0 z1 z3 z4 zf0 zf1 zf3 zf4
              go_wp2_with fail
              obtain ⟨hR, hg⟩ := (SecSt.start SL.out.D.H1 H1.out LR0.out).put2 H1.out LR0.out (u := true) rfl
              have S3 := Aside0.mk (SL.out.sec hR hg)
              have K3 := Aside0.mk (blk_grown KS.out hg (Kd.R_ne SL.out.D.H1 KS.out (by decide)))
              clear hR hg
              go_roundg 1
              case measure => omega
              case rel => exact ⟨1, rfl, ⟨.inr (.inl ⟨rfl, rfl⟩)⟩, K3, ⟨by rw [show (1 : Int).toNat = 1 from rfl, show loseTo ss (rd_T88 l of).f0 (rd_T88 l of).f1 1 = _ from if_neg (show ¬ (rd_T88 l of).f0 < 0 by have := H1.out; omega)]; exact S3.out⟩⟩
          · have kk : wr.cell? ⟨gq, 1, none⟩ = some (.int .i64 (rd_T88 l of).f1) := (blk_cell KS.out 1).trans rfl
            have kgo1 : wr.cell? ⟨go, 1, none⟩ = some (.slice (some ⟨gr, 0, none⟩) ss.length cr) := (blk_cell SL.out.D.hs 1).trans rfl
            by_cases h0 : (rd_T88 l of).f1 < 0
            · have h0b : decide ((rd_T88 l of).f1 ≥ 0) = false := decide_eq_false (by omega)
              have H0 := Aside0.mk h0
              clear h0
              go_wp2_with fail
              go_roundg 0
              case measure => omega
              case rel => exact ⟨2, rfl, ⟨.inr (.inr ⟨rfl, rfl⟩)⟩, KS, ⟨by rw [show (2 : Int).toNat = 2 from rfl, show loseTo ss (rd_T88 l of).f0 (rd_T88 l of).f1 2 = loseTo ss (rd_T88 l of).f0 (rd_T88 l of).f1 1 from if_pos H0.out]; exact SL.out⟩⟩
            · have h0b : decide ((rd_T88 l of).f1 ≥ 0) = true := decide_eq_true (by omega)
              have h1 : 0 ≤ (rd_T88 l of).f1 := by omega
              have h2 := LR1.out
              have H0 := Aside0.mk h0
              have H1 := Aside0.mk h1
              clear h0
              obtain ⟨z0, z1, z2, z3, z4, zf0, zf1, zf2, zf3, zf4⟩ := sec_at SL.out.D.H1 (rd_T88 l of).f1 h1 h2
              have hp1 := eq_true h1
              have hp2 := eq_true h2
              clear h1 h2 z0 z1 z3 z4 zf0 zf1 zf3 zf4
              go_wp2_with fail
              obtain ⟨hR, hg⟩ := (SecSt.start SL.out.D.H1 H1.out LR1.out).put2 H1.out LR1.out (u := true) rfl
              have S3 := Aside0.mk (SL.out.sec hR hg)
              have K3 := Aside0.mk (blk_grown KS.out hg (Kd.R_ne SL.out.D.H1 KS.out (by decide)))
              clear hR hg
              go_roundg 0
              case measure => omega
              case rel => exact ⟨2, rfl, ⟨.inr (.inr ⟨rfl, rfl⟩)⟩, K3, ⟨by rw [show (2 : Int).toNat = 2 from rfl, show loseTo ss (rd_T88 l of).f0 (rd_T88 l of).f1 2 = _ from if_neg (show ¬ (rd_T88 l of).f1 < 0 by have := H1.out; omega)]; exact S3.out⟩⟩
          · go_wp2_with fail
            go_meet
            case rel => exact ⟨by rw [HC.out], ⟨by rw [HM.out, HD.out]; exact SL.out⟩⟩
      · skip
        have kge0 : wa.cell? ⟨ge, 0, none⟩ = some (.int .i64 4) := (blk_cell SA.out.D.he 0).trans rfl
        have kge1 : wa.cell? ⟨ge, 1, none⟩ = some (.int .i64 of) := (blk_cell SA.out.D.he 1).trans rfl
        have kge2 : wa.cell? ⟨ge, 2, none⟩ = some (.int .i64 dir) := (blk_cell SA.out.D.he 2).trans rfl
        have kgo0 : wa.cell? ⟨go, 0, none⟩ = some (.bool true) := (blk_cell SA.out.D.hs 0).trans rfl
        have kgo1 : wa.cell? ⟨go, 1, none⟩ = some (.slice (some ⟨gr, 0, none⟩) ss.length cr) := (blk_cell SA.out.D.hs 1).trans rfl
        have kgo2 : wa.cell? ⟨go, 2, none⟩ = some (.slice (some ⟨gb, 0, none⟩) dd.length cd) := (blk_cell SA.out.D.hs 2).trans rfl
        have kgz0 : wa.cell? ⟨gz, 0, none⟩ = some (.bool true) := (blk_cell SA.out.hz 0).trans rfl
        have kgz1 : wa.cell? ⟨gz, 1, none⟩ = some (.slice A1 ss.length c1) := (blk_cell SA.out.hz 1).trans rfl
        have kgz2 : wa.cell? ⟨gz, 2, none⟩ = some (.slice (some a2) dd.length c2) := (blk_cell SA.out.hz 2).trans rfl
        have kgl0 : wa.cell? ⟨gl, 0, none⟩ = some (.int .i64 n) := (blk_cell SA.out.D.hl 0).trans rfl
        have kgl1 : wa.cell? ⟨gl, 1, none⟩ = some (.slice (some ad) l.length c) := (blk_cell SA.out.D.hl 1).trans rfl
        go_wp2_with fail
        go_meet
        case rel => exact ⟨by rw [HC.out], ⟨by rw [HM.out, HD.out]; exact SA.out.dead of false⟩⟩
    · rw [← hns] at ho1
      have HLL := Aside0.mk (show l.length ≤ 1048576 by omega)
      have HND := Aside0.mk hnd
      have HO0 := Aside0.mk ho0
      have HO1 := Aside0.mk ho1
      have HLY := Aside0.mk hl
      have HON := Aside0.mk (show of < n by omega)
      obtain ⟨a1, e, y0, y1, y2, y3, y4⟩ := at_T50 HR1.out of ho0 ho1
      subst e
      have Y4 := Aside0.mk y4
      clear y0 y1 y2 y3 y4 hl hns hnd hln
      have kge0 : wa.cell? ⟨ge, 0, none⟩ = some (.int .i64 5) := (blk_cell SA.out.D.he 0).trans rfl
      have kge1 : wa.cell? ⟨ge, 1, none⟩ = some (.int .i64 of) := (blk_cell SA.out.D.he 1).trans rfl
      have kge2 : wa.cell? ⟨ge, 2, none⟩ = some (.int .i64 dir) := (blk_cell SA.out.D.he 2).trans rfl
      have kgo0 : wa.cell? ⟨go, 0, none⟩ = some (.bool true) := (blk_cell SA.out.D.hs 0).trans rfl
      have kgo1 : wa.cell? ⟨go, 1, none⟩ = some (.slice (some ⟨gr, 0, none⟩) ss.length cr) := (blk_cell SA.out.D.hs 1).trans rfl
      have kgo2 : wa.cell? ⟨go, 2, none⟩ = some (.slice Ad dd.length cd) := (blk_cell SA.out.D.hs 2).trans rfl
      have kgz0 : wa.cell? ⟨gz, 0, none⟩ = some (.bool true) := (blk_cell SA.out.hz 0).trans rfl
      have kgz1 : wa.cell? ⟨gz, 1, none⟩ = some (.slice (some a1) ss.length c1) := (blk_cell SA.out.hz 1).trans rfl
      have kgz2 : wa.cell? ⟨gz, 2, none⟩ = some (.slice A2 dd.length c2) := (blk_cell SA.out.hz 2).trans rfl
      have kgl0 : wa.cell? ⟨gl, 0, none⟩ = some (.int .i64 n) := (blk_cell SA.out.D.hl 0).trans rfl
      have kgl1 : wa.cell? ⟨gl, 1, none⟩ = some (.slice A l.length c) := (blk_cell SA.out.D.hl 1).trans rfl
      rcases Bool.eq_false_or_eq_true (deadAt l dd of) with hdo | hdo
      · have HDO := Aside0.mk hdo
        have HC := Aside0.mk (show doCode l ss dd 5 of = 3 by unfold doCode; rw [if_neg (by decide), if_pos rfl, if_pos hdo])
        clear hdo
        go_wp2_with (go_at_call 114; refine (sdead_at of HDO.out (Kd.C_below HR.out SA.out.D.hB) hc (Kd.C_below HR2.out SA.out.D.hB) hc2 HLY.out HO0.out HON.out HND.out).mono ?_; rintro e w1 ⟨rfl, hb⟩; have S1 := Aside0.mk (SA.out.up hb); clear hb)
        go_meet
        case rel => exact ⟨by rw [HC.out], ⟨by unfold midSecs2 doDead; rw [HC.out]; exact S1.out⟩⟩
      · have HDO := Aside0.mk hdo
        clear hdo
        go_upto_region 32 with (go_at_call 114; refine (sdead_at of HDO.out (Kd.C_below HR.out SA.out.D.hB) hc (Kd.C_below HR2.out SA.out.D.hB) hc2 HLY.out HO0.out HON.out HND.out).mono ?_; rintro e w1 ⟨rfl, hb⟩; have S1 := Aside0.mk (SA.out.up hb); clear hb)
        clear kge0 kge1 kge2 kgo0 kgo1 kgo2 kgz0 kgz1 kgz2 kgl0 kgl1
        clear SA
        have kge0 : w1.cell? ⟨ge, 0, none⟩ = some (.int .i64 5) := (blk_cell S1.out.D.he 0).trans rfl
        have kge1 : w1.cell? ⟨ge, 1, none⟩ = some (.int .i64 of) := (blk_cell S1.out.D.he 1).trans rfl
        have kge2 : w1.cell? ⟨ge, 2, none⟩ = some (.int .i64 dir) := (blk_cell S1.out.D.he 2).trans rfl
        have kgo0 : w1.cell? ⟨go, 0, none⟩ = some (.bool true) := (blk_cell S1.out.D.hs 0).trans rfl
        have kgo1 : w1.cell? ⟨go, 1, none⟩ = some (.slice (some ⟨gr, 0, none⟩) ss.length cr) := (blk_cell S1.out.D.hs 1).trans rfl
        have kgo2 : w1.cell? ⟨go, 2, none⟩ = some (.slice Ad dd.length cd) := (blk_cell S1.out.D.hs 2).trans rfl
        have kgz0 : w1.cell? ⟨gz, 0, none⟩ = some (.bool true) := (blk_cell S1.out.hz 0).trans rfl
        have kgz1 : w1.cell? ⟨gz, 1, none⟩ = some (.slice (some a1) ss.length c1) := (blk_cell S1.out.hz 1).trans rfl
        have kgz2 : w1.cell? ⟨gz, 2, none⟩ = some (.slice A2 dd.length c2) := (blk_cell S1.out.hz 2).trans rfl
        have kgl0 : w1.cell? ⟨gl, 0, none⟩ = some (.int .i64 n) := (blk_cell S1.out.D.hl 0).trans rfl
        have kgl1 : w1.cell? ⟨gl, 1, none⟩ = some (.slice A l.length c) := (blk_cell S1.out.D.hl 1).trans rfl
        have y4 := pw_cell_below S1.out.D.hB Y4.out
        have ho0 := HO0.out
        have ho1 := HO1.out
        obtain ⟨z0, z1, z2, z3, z4, zf0, zf1, zf2, zf3, zf4⟩ := sec_at S1.out.D.H1 of ho0 ho1
        have hr4 : (rd_T50 ss of).f4 ≤ 1 := by have := secOk_range (HSE.out of.toNat (by omega)); rw [show ((of.toNat : Nat) : Int) = of by omega] at this; omega
        by_cases hla : (rd_T50 ss of).f4 = 1
        · have hla1 : decide ((rd_T50 ss of).f4 > 0) = true := decide_eq_true (by omega)
          have HC := Aside0.mk (show doCode l ss dd 5 of = 4 by unfold doCode; rw [if_neg (by decide), if_pos rfl, HDO.out, if_neg (by decide), if_pos hla])
          clear hla hr4
          go_wp2_with fail
          go_meet
          case rel => exact ⟨by rw [HC.out], ⟨by unfold midSecs2 doDead; rw [HC.out]; exact S1.out⟩⟩
        · have hla1 : decide ((rd_T50 ss of).f4 > 0) = false := decide_eq_false (by omega)
          have HC := Aside0.mk (show doCode l ss dd 5 of = 0 by unfold doCode; rw [if_neg (by decide), if_pos rfl, HDO.out, if_neg (by decide), if_neg hla])
          clear hla hr4
          go_wp2_with fail
          go_meet
          case rel =>
            obtain ⟨hR, hg⟩ := ((((SecSt.start S1.out.D.H1 HO0.out HO1.out).put0 HO0.out HO1.out (u := 0) rfl).put1 HO0.out HO1.out (u := 0) rfl).put2 HO0.out HO1.out (u := false) rfl |>.put3 HO0.out HO1.out (u := true) rfl).put4 HO0.out HO1.out (u := 0) rfl
            exact ⟨by rw [HC.out], ⟨by unfold midSecs2 doDead; rw [if_pos HC.out, if_pos HC.out]; exact S1.out.sec hR hg⟩⟩
  case rest =>
    obtain ⟨rfl, SM⟩ := hcut
    have HLM := Aside0.mk (midSecs2_length l ss dd op of dir)
    have HLD := Aside0.mk (doDead_length l ss dd op of)
    have HDS := Aside0.mk (retold_mid (op := op) (of := of) (dir := dir) HSE.out)
    generalize hq1 : doCode l ss dd op of = code
    have HQ := Aside0.mk hq1
    clear hq1
    clear SA
    generalize midSecs2 l ss dd op of dir = ms at SM HLM HDS
    generalize hmd : doDead l ss dd op of = md at SM HLD HDS
    have HMD := Aside0.mk hmd
    clear hmd
    have kgo1 : wc.cell? ⟨go, 1, none⟩ = some (.slice (some ⟨gr, 0, none⟩) ss.length cr) := (blk_cell SM.out.D.hs 1).trans rfl
    go_wp2_with fail
    go_loopg [130] ss.length (fun kq v w' => ∃ j : Nat, v = .int .i64 j ∧ Aside0 (j + kq = ss.length) ∧ Aside0 (SpSt w w' gl gz go ge gd [.int .i64 n, .slice A l.length c] [.bool true, .slice A1 ss.length c1, .slice A2 dd.length c2] [.bool true, .slice (some ⟨gr, 0, none⟩) ss.length cr, .slice Ad dd.length cd] [.int .i64 op, .int .i64 of, .int .i64 dir] [.int .i64 0, .bool false, .slice none 0 0, .slice none 0 0] (.slice (some ⟨gr, 0, none⟩) ss.length cr) (.slice Ad dd.length cd) (retoldTo l md ms j) md))
    case atStart => exact ⟨0, rfl, ⟨by omega⟩, ⟨by rw [retoldTo_zero]; exact SM.out⟩⟩
    case round =>
      obtain ⟨j, rfl, HJ, SL⟩ := hrel
      clear SM kgo1
      by_cases hlt : j < ss.length
      · cases gk with
        | zero => exact absurd HJ.out (by omega)
        | succ gk =>
          have hlt' : decide ((j : Int) < (ss.length : Int)) = true := decide_eq_true (by omega)
          have q0 : (0 : Int) ≤ (j : Int) := by omega
          have q1 : (j : Int) < (ss.length : Int) := by omega
          have q2 : ss.length ≤ 60 := by have := HN.out; omega
          go_upto_block 4 with fail
          go_cut [14] from 132 to 147 (fun v14 wx => Aside0 (SpSt w wx gl gz go ge gd [.int .i64 n, .slice A l.length c] [.bool true, .slice A1 ss.length c1, .slice A2 dd.length c2] [.bool true, .slice (some ⟨gr, 0, none⟩) ss.length cr, .slice Ad dd.length cd] [.int .i64 op, .int .i64 of, .int .i64 dir] [.int .i64 0, .bool false, .slice none 0 0, .slice none 0 0] (.slice (some ⟨gr, 0, none⟩) ss.length cr) (.slice Ad dd.length cd) (retoldTo l md ms (j + 1)) md))
          case first =>
            have HML := Aside0.mk (show md.length = l.length by rw [HLD.out]; exact HN.out.2.2.1)
            have n1 : gr ≠ go := fun e => Kd.R_ne SL.out.D.H1 SL.out.D.hs (by decide) (by rw [e]; rfl)
            have n2 : gr ≠ gl := fun e => Kd.R_ne SL.out.D.H1 SL.out.D.hl (by decide) (by rw [e]; rfl)
            have SD := Aside0.mk (SL.out.up (below_drew1 (Below.refl wr.heap.size wr)))
            have kgl0 : wr.cell? ⟨gl, 0, none⟩ = some (.int .i64 n) := (blk_cell SL.out.D.hl 0).trans rfl
            have kgl1 : wr.cell? ⟨gl, 1, none⟩ = some (.slice A l.length c) := (blk_cell SL.out.D.hl 1).trans rfl
            have kgo1 : wr.cell? ⟨go, 1, none⟩ = some (.slice (some ⟨gr, 0, none⟩) ss.length cr) := (blk_cell SL.out.D.hs 1).trans rfl
            have kgo2 : wr.cell? ⟨go, 2, none⟩ = some (.slice Ad dd.length cd) := (blk_cell SL.out.D.hs 2).trans rfl
            obtain ⟨z0, z1, z2, z3, z4, -, -, -, -, -⟩ := sec_at SL.out.D.H1 (j : Int) q0 q1
            rw [Int.toNat_natCast] at z0 z1 z2 z3 z4
            have HLN := Aside0.mk (show (retoldTo l md ms j).length = ss.length by rw [retoldTo_length, HLM.out])
            have HLM2 := Aside0.mk (show dd.length = md.length from HLD.out.symm)
            have HJN := Aside0.mk (show (j : Int) < n by have := HN.out; omega)
            have HRS := Aside0.mk (retold_step l md ms j (by rw [HLM.out]; exact hlt))
            generalize hx : rd_T50 (retoldTo l md ms j) (j : Int) = x at z0 z1 z2 z3 z4 HRS
            have HX := Aside0.mk hx
            clear hx
            go_upto_region 38 with fail
            have dkgl0 : wr.drew.cell? ⟨gl, 0, none⟩ = some (.int .i64 n) := kgl0
            have dkgl1 : wr.drew.cell? ⟨gl, 1, none⟩ = some (.slice A l.length c) := kgl1
            have dkgo1 : wr.drew.cell? ⟨go, 1, none⟩ = some (.slice (some ⟨gr, 0, none⟩) ss.length cr) := kgo1
            have dkgo2 : wr.drew.cell? ⟨go, 2, none⟩ = some (.slice Ad dd.length cd) := kgo2
            have dz0 : wr.drew.cell? ⟨gr, j * 5, none⟩ = some (.int .i64 x.f0) := z0
            have dz1 : wr.drew.cell? ⟨gr, j * 5 + 1, none⟩ = some (.int .i64 x.f1) := z1
            have dz2 : wr.drew.cell? ⟨gr, j * 5 + 2, none⟩ = some (.bool x.f2) := z2
            have dz3 : wr.drew.cell? ⟨gr, j * 5 + 3, none⟩ = some (.bool x.f3) := z3
            have dz4 : wr.drew.cell? ⟨gr, j * 5 + 4, none⟩ = some (.int .i64 x.f4) := z4
            refine start_ (n := 16) (S := fun w' => w'.cell? ⟨gl, 0, none⟩ = some (.int .i64 n) ∧ w'.cell? ⟨gl, 1, none⟩ = some (.slice A l.length c) ∧ w'.cell? ⟨go, 1, none⟩ = some (.slice (some ⟨gr, 0, none⟩) ss.length cr) ∧ w'.cell? ⟨go, 2, none⟩ = some (.slice Ad dd.length cd) ∧ w'.cell? ⟨gr, j * 5, none⟩ = some (.int .i64 x.f0) ∧ w'.cell? ⟨gr, j * 5 + 1, none⟩ = some (.int .i64 x.f1) ∧ w'.cell? ⟨gr, j * 5 + 2, none⟩ = some (.bool x.f2) ∧ w'.cell? ⟨gr, j * 5 + 3, none⟩ = some (.bool x.f3) ∧ w'.cell? ⟨gr, j * 5 + 4, none⟩ = some (.int .i64 x.f4)) (ds := [15]) #[false, false, false, false, false, false, false, false, false, false, false, false, false, false, false, false] (by kernel_rfl) rfl rfl ⟨dkgl0, dkgl1, dkgo1, dkgo2, dz0, dz1, dz2, dz3, dz4⟩ (fun hHeld => ?_); refine with_tabW sd_tab38 sd_bits38 (fun HT_ HW_ => ?_)
            refine pure_ (i := 0) (N := some 133) (v := ?_) (a' := ?_) #[true, false, false, false, false, false, false, false, false, false, false, false, false, false, false, false] rfl rfl (any_of HT_.out (by kernel_rfl)) (fun _ _ _ h => h) (Or.inl ⟨by rfl, ?_⟩) ?_ ?_
            rotate_left
            · intro w'
              go_simp
              with_reducible rfl
            rotate_left
            · simp only [Act.put, List.setIfInBounds_toArray, List.set_cons_zero, List.set_cons_succ, i64_w, i32_w]
              rfl
            refine take_ (i := 1) (N := some 134) (v := ?_) (a' := ?_) #[true, true, false, false, false, false, false, false, false, false, false, false, false, false, false, false] rfl rfl (take_ofW HT_.out HW_.out (by kernel_rfl)) (fun _ _ _ h => h) (Or.inl ⟨by rfl, ?_⟩) hHeld ?_ ?_
            rotate_left
            · rintro w' ⟨s0, s1, s2, s3, s4, s5, s6, s7, s8⟩
              go_simp
              with_reducible rfl
            rotate_left
            · simp only [Act.put, List.setIfInBounds_toArray, List.set_cons_zero, List.set_cons_succ, i64_w, i32_w]
              rfl
            refine pure_ (i := 2) (N := some 135) (v := ?_) (a' := ?_) #[true, true, true, false, false, false, false, false, false, false, false, false, false, false, false, false] rfl rfl (any_of HT_.out (by kernel_rfl)) (fun _ _ _ h => h) (Or.inl ⟨by rfl, ?_⟩) ?_ ?_
            rotate_left
            · intro w'
              go_simp
              with_reducible rfl
            rotate_left
            · simp only [Act.put, List.setIfInBounds_toArray, List.set_cons_zero, List.set_cons_succ, i64_w, i32_w]
              rfl
            refine take_ (i := 3) (N := some 136) (v := ?_) (a' := ?_) #[true, true, true, true, false, false, false, false, false, false, false, false, false, false, false, false] rfl rfl (take_ofW HT_.out HW_.out (by kernel_rfl)) (fun _ _ _ h => h) (Or.inl ⟨by rfl, ?_⟩) hHeld ?_ ?_
            rotate_left
            · rintro w' ⟨s0, s1, s2, s3, s4, s5, s6, s7, s8⟩
              go_simp
              with_reducible rfl
            rotate_left
            · simp only [Act.put, List.setIfInBounds_toArray, List.set_cons_zero, List.set_cons_succ, i64_w, i32_w]
              rfl
            refine pure_ (i := 4) (N := some 137) (v := ?_) (a' := ?_) #[true, true, true, true, true, false, false, false, false, false, false, false, false, false, false, false] rfl rfl (any_of HT_.out (by kernel_rfl)) (fun _ _ _ h => h) (Or.inl ⟨by rfl, ?_⟩) ?_ ?_
            rotate_left
            · intro w'
              go_simp
              with_reducible rfl
            rotate_left
            · simp only [Act.put, List.setIfInBounds_toArray, List.set_cons_zero, List.set_cons_succ, i64_w, i32_w]
              rfl
            refine take_ (i := 5) (N := some 138) (v := ?_) (a' := ?_) #[true, true, true, true, true, true, false, false, false, false, false, false, false, false, false, false] rfl rfl (take_ofW HT_.out HW_.out (by kernel_rfl)) (fun _ _ _ h => h) (Or.inl ⟨by rfl, ?_⟩) hHeld ?_ ?_
            rotate_left
            · rintro w' ⟨s0, s1, s2, s3, s4, s5, s6, s7, s8⟩
              go_simp
              with_reducible rfl
            rotate_left
            · simp only [Act.put, List.setIfInBounds_toArray, List.set_cons_zero, List.set_cons_succ, i64_w, i32_w]
              rfl
            refine pure_ (i := 6) (N := some 139) (v := ?_) (a' := ?_) #[true, true, true, true, true, true, true, false, false, false, false, false, false, false, false, false] rfl rfl (any_of HT_.out (by kernel_rfl)) (fun _ _ _ h => h) (Or.inl ⟨by rfl, ?_⟩) ?_ ?_
            rotate_left
            · intro w'
              go_simp
              with_reducible rfl
            rotate_left
            · simp only [Act.put, List.setIfInBounds_toArray, List.set_cons_zero, List.set_cons_succ, i64_w, i32_w]
              rfl
            refine pure_ (i := 7) (N := some 140) (v := ?_) (a' := ?_) #[true, true, true, true, true, true, true, true, false, false, false, false, false, false, false, false] rfl rfl (any_of HT_.out (by kernel_rfl)) (fun _ _ _ h => h) (Or.inl ⟨by rfl, ?_⟩) ?_ ?_
            rotate_left
            · intro w'
              go_simp
              with_reducible rfl
            rotate_left
            · simp only [Act.put, List.setIfInBounds_toArray, List.set_cons_zero, List.set_cons_succ, i64_w, i32_w]
              rfl
            refine take_ (i := 8) (N := some 141) (v := ?_) (a' := ?_) #[true, true, true, true, true, true, true, true, true, false, false, false, false, false, false, false] rfl rfl (take_ofW HT_.out HW_.out (by kernel_rfl)) (fun _ _ _ h => h) (Or.inl ⟨by rfl, ?_⟩) hHeld ?_ ?_
            rotate_left
            · rintro w' ⟨s0, s1, s2, s3, s4, s5, s6, s7, s8⟩
              go_simp
              with_reducible rfl
            rotate_left
            · simp only [Act.put, List.setIfInBounds_toArray, List.set_cons_zero, List.set_cons_succ, i64_w, i32_w]
              rfl
            refine pure_ (i := 9) (N := some 142) (v := ?_) (a' := ?_) #[true, true, true, true, true, true, true, true, true, true, false, false, false, false, false, false] rfl rfl (any_of HT_.out (by kernel_rfl)) (fun _ _ _ h => h) (Or.inl ⟨by rfl, ?_⟩) ?_ ?_
            rotate_left
            · intro w'
              go_simp
              with_reducible rfl
            rotate_left
            · simp only [Act.put, List.setIfInBounds_toArray, List.set_cons_zero, List.set_cons_succ, i64_w, i32_w]
              rfl
            refine pure_ (i := 10) (N := some 143) (v := ?_) (a' := ?_) #[true, true, true, true, true, true, true, true, true, true, true, false, false, false, false, false] rfl rfl (any_of HT_.out (by kernel_rfl)) (fun _ _ _ h => h) (Or.inl ⟨by rfl, ?_⟩) ?_ ?_
            rotate_left
            · intro w'
              go_simp
              with_reducible rfl
            rotate_left
            · simp only [Act.put, List.setIfInBounds_toArray, List.set_cons_zero, List.set_cons_succ, i64_w, i32_w]
              rfl
            refine take_ (i := 11) (N := some 144) (v := ?_) (a' := ?_) #[true, true, true, true, true, true, true, true, true, true, true, true, false, false, false, false] rfl rfl (take_ofW HT_.out HW_.out (by kernel_rfl)) (fun _ _ _ h => h) (Or.inl ⟨by rfl, ?_⟩) hHeld ?_ ?_
            rotate_left
            · rintro w' ⟨s0, s1, s2, s3, s4, s5, s6, s7, s8⟩
              go_simp
              with_reducible rfl
            rotate_left
            · simp only [Act.put, List.setIfInBounds_toArray, List.set_cons_zero, List.set_cons_succ, i64_w, i32_w]
              rfl
            refine one_ (i := 12) (N := some 145) #[true, true, true, true, true, true, true, true, true, true, true, true, true, false, false, false] rfl rfl (one_of HT_.out (by kernel_rfl)) (by decide) (fun K hK => ?_)
            refine goes_ Try.func113 (by kernel_rfl) rfl #[.agg #[.int .i64 n, .slice A l.length c], .slice Ad dd.length cd, .int .i64 (j : Int), .agg #[.int .i64 x.f0, .int .i64 x.f1, .bool x.f2, .bool x.f3, .int .i64 x.f4]] (by rfl) rfl rfl (by (try simp only [List.map_toArray, List.map_cons, List.map_nil]); first | done | rfl | (simp only [List.length_drop, List.length_take]; rfl)) ?_
            with_reducible refine (stold_of (j : Int) x (Kd.C_below HR.out SD.out.D.hB) hc SD.out.D.H2 HLM2.out HN.out.1 q0 HJN.out HML.out).mono ?_; rintro e w' ⟨rfl, hb⟩
            refine ⟨_, rfl, ?_⟩
            have S2 := Aside0.mk (SD.out.up hb)
            obtain ⟨zz, -, -, -, -, zf, -, -, -, -⟩ := sec_at S2.out.D.H1 (j : Int) q0 q1
            rw [Int.toNat_natCast] at zz zf
            refine hK.out _ _ ⟨pw_cell_below hb hHeld.1, pw_cell_below hb hHeld.2.1, pw_cell_below hb hHeld.2.2.1, pw_cell_below hb hHeld.2.2.2.1, pw_cell_below hb hHeld.2.2.2.2.1, pw_cell_below hb hHeld.2.2.2.2.2.1, pw_cell_below hb hHeld.2.2.2.2.2.2.1, pw_cell_below hb hHeld.2.2.2.2.2.2.2.1, pw_cell_below hb hHeld.2.2.2.2.2.2.2.2⟩ (fun hHeld => ?_)
            clear hK K
            refine norm_ (a' := ?_) ?_ ?_
            rotate_left
            · show Act.put _ (some 145) _ = _
              simp only [Act.put, List.setIfInBounds_toArray, List.set_cons_zero, List.set_cons_succ, i64_w, i32_w]
              rfl
            refine pure_ (i := 13) (N := some 146) (v := ?_) (a' := ?_) #[true, true, true, true, true, true, true, true, true, true, true, true, true, true, false, false] rfl rfl (any_of HT_.out (by kernel_rfl)) (fun _ _ _ h => h) (Or.inl ⟨by rfl, ?_⟩) ?_ ?_
            rotate_left
            · intro w'
              go_simp
              with_reducible rfl
            rotate_left
            · simp only [Act.put, List.setIfInBounds_toArray, List.set_cons_zero, List.set_cons_succ, i64_w, i32_w]
              rfl
            refine pure_ (i := 14) (N := some 147) (v := ?_) (a' := ?_) #[true, true, true, true, true, true, true, true, true, true, true, true, true, true, true, false] rfl rfl (any_of HT_.out (by kernel_rfl)) (fun _ _ _ h => h) (Or.inl ⟨by rfl, ?_⟩) ?_ ?_
            rotate_left
            · intro w'
              go_simp
              with_reducible rfl
            rotate_left
            · simp only [Act.put, List.setIfInBounds_toArray, List.set_cons_zero, List.set_cons_succ, i64_w, i32_w]
              rfl
            refine last_ (i := 15) (N := none) #[true, true, true, true, true, true, true, true, true, true, true, true, true, true, true, true] rfl rfl (one_of HT_.out (by kernel_rfl)) (by decide) (fun K hK => ?_)
            refine skip_ (w1 := ?_) (by rfl) rfl ?_ ?_
            rotate_left
            · go_simp
              rfl
            refine hK.out _ _ ?_
            clear hK K
            refine done_ (done_of HT_.out (by kernel_rfl)) ?_
            go_wp2_with fail
            go_meet
            obtain ⟨hR, hg⟩ := (SecSt.start S2.out.D.H1 q0 q1).put0 q0 q1 (u := toldC l md (j : Int) x) (show j * 5 = (j : Int).toNat * 5 + 0 by rw [Int.toNat_natCast, Nat.add_zero])
            rw [HX.out] at hR
            rw [HRS.out] at hR
            exact ⟨S2.out.sec hR hg⟩
          case rest =>
            go_wp2_with fail
            go_roundg gk
            case measure => omega
            case rel => exact ⟨j + 1, by go_num, ⟨by have := HJ.out; omega⟩, hcut⟩
      · have hlt' : decide ((j : Int) < (ss.length : Int)) = false := decide_eq_false (by omega)
        have hj : j = ss.length := by have := HJ.out; omega
        have hre : retoldTo l md ms j = retold l md ms := by rw [retold, HLM.out, hj]
        have SF0 := Aside0.mk (show SpSt w wr gl gz go ge gd [.int .i64 n, .slice A l.length c] [.bool true, .slice A1 ss.length c1, .slice A2 dd.length c2] [.bool true, .slice (some ⟨gr, 0, none⟩) ss.length cr, .slice Ad dd.length cd] [.int .i64 op, .int .i64 of, .int .i64 dir] [.int .i64 0, .bool false, .slice none 0 0, .slice none 0 0] (.slice (some ⟨gr, 0, none⟩) ss.length cr) (.slice Ad dd.length cd) (doSecs l ss dd op of dir) md by rw [← HDS.out, ← hre]; exact SL.out)
        clear hj hre SL
        have kgo0 : wr.cell? ⟨go, 0, none⟩ = some (.bool true) := (blk_cell SF0.out.D.hs 0).trans rfl
        have kgo1 : wr.cell? ⟨go, 1, none⟩ = some (.slice (some ⟨gr, 0, none⟩) ss.length cr) := (blk_cell SF0.out.D.hs 1).trans rfl
        have kgo2 : wr.cell? ⟨go, 2, none⟩ = some (.slice Ad dd.length cd) := (blk_cell SF0.out.D.hs 2).trans rfl
        have kd0 : wr.cell? ⟨gd, 0, none⟩ = some (.int .i64 0) := (blk_cell SF0.out.D.hd 0).trans rfl
        have kz0 := blk_frozen SF0.out.D.hd 0
        have kd1 : wr.cell? ⟨gd, 1, none⟩ = some (.bool false) := (blk_cell SF0.out.D.hd 1).trans rfl
        have kz1 := blk_frozen SF0.out.D.hd 1
        have kd2 : wr.cell? ⟨gd, 2, none⟩ = some (.slice none 0 0) := (blk_cell SF0.out.D.hd 2).trans rfl
        have kz2 := blk_frozen SF0.out.D.hd 2
        have kd3 : wr.cell? ⟨gd, 3, none⟩ = some (.slice none 0 0) := (blk_cell SF0.out.D.hd 3).trans rfl
        have kz3 := blk_frozen SF0.out.D.hd 3
        go_wp2_with fail
        have SF := SF0.out.D.fill (y0 := .int .i64 code) (y1 := .bool true) (y2 := (.slice (some ⟨gr, 0, none⟩) ss.length cr)) (y3 := (.slice Ad dd.length cd))
        exact bodyPost_ret (results_cell_row rfl _ _ gd 48 _ (0, 0) _ rfl SF.hd Try.underlying48 rfl (by kernel_rfl)) rfl ⟨_, _, by rw [HQ.out], SF.H1, by rw [HMD.out]; exact SF.H2, SF.hB⟩
end Go.Proofs.Ytpdnabhpkdchjaa.P
namespace Go.Proofs.Ytpdnabhpkdchjaa.P
open Go.RowKit Go.Proofs.YtpdnabhpkdchjaaW.PrintWords Go.Proofs.YtpdnabhpkdchjaaW.PrintLast Go.Proofs.YtpdnabhpkdchjaaW.PrintMore
attribute [local go_sem ↓] Go.wp_at_zero Go.wp_at_succ
set_option linter.unusedVariables false
set_option linter.unusedSimpArgs false
theorem doCode_ne (l : List S88) (ss : List S50) (dd : List Bool) (op of : Int) : doCode l ss dd op of ≠ 1 := by
  unfold doCode
  split
  · split <;> decide
  · split
    · split
      · decide
      · split <;> decide
    · decide
section
variable {w0 wr w w' w1 : World} {gl gs gd : Nat} {lv sv dv : List Value} {u1 u2 v v1 v2 v3 : Value} {s : S46} {ss : List S50} {dd : List Bool} {out : List S48}
theorem RnSt.midC {b : Bool} {x0 x1 x2 x3 : Value} (h : RnSt w0 wr gl gs lv sv u1 u2 s v out) (hb : Below wr.heap.size wr w) (hd : w.heap[gd]? = some (.cells #[x0, x1, x2, x3] 48 (0, 0))) (gde : wr.heap.size ≤ gd) (R1 : Kd.R k50 50 w wr.heap.size (fun _ => True) v2 ss) (R2 : Kd.R Kd.bool 4 w wr.heap.size (fun _ => True) v3 dd) :
    MdSt w0 wr (((w.setCell ⟨gd, 1, none⟩ (.bool b)).setCell ⟨gd, 2, none⟩ v2).setCell ⟨gd, 3, none⟩ v3) gl gs gd lv sv [x0, .bool b, v2, v3] v2 v3 ss dd v out := by
  have n1 := Kd.R_ne R1 hd (by decide)
  have n2 := Kd.R_ne R2 hd (by decide)
  exact h.mid (below_set (below_set (below_set hb gde) gde) gde) (blk_put (blk_put (blk_put hd 1 _ rfl) 2 _ rfl) 3 _ rfl) gde (R_off rfl (R_off rfl (R_off rfl R1 n1 _) n1 _) n1 _) (R_off rfl (R_off rfl (R_off rfl R2 n2 _) n2 _) n2 _)
theorem MdSt.setS {x0 x1 x2 : Value} (h : MdSt w0 wr w gl gs gd lv [x0, x1, x2] dv v2 v3 ss dd v out) (y : Value) :
    MdSt w0 wr (((w.setCell ⟨gs, 0, none⟩ y).setCell ⟨gs, 1, none⟩ v2).setCell ⟨gs, 2, none⟩ v3) gl gs gd lv [y, v2, v3] dv v2 v3 ss dd v out := by
  have n1 := Kd.R_ne h.R1 h.hs (by decide)
  have n2 := Kd.R_ne h.R2 h.hs (by decide)
  have nl := blk_ne h.hl h.hs (by decide)
  have nd := blk_ne h.hd h.hs (by decide)
  have hq : ∀ q, q ∈ 48 :: k48.E → q ≠ 46 := by decide
  have s0 := blk_put h.hs 0 y rfl
  have s1 := blk_put s0 1 v2 rfl
  have s2 := blk_put s1 2 v3 rfl
  exact {
    hl := blk_far (blk_far (blk_far h.hl nl _) nl _) nl _
    hs := s2
    hd := blk_far (blk_far (blk_far h.hd nd _) nd _) nd _
    R1 := R_off rfl (R_off rfl (R_off rfl h.R1 n1 _) n1 _) n1 _
    R2 := R_off rfl (R_off rfl (R_off rfl h.R2 n2 _) n2 _) n2 _
    HS := Kd.S_set (Kd.S_set (Kd.S_set h.HS h.hs hq 0 _) s0 hq 1 _) s1 hq 2 _
    hB := below_set (below_set (below_set h.hB h.gse) h.gse) h.gse
    gle := h.gle
    gse := h.gse
    gde := h.gde
    hw := h.hw }
theorem MdSt.fin2 (h : MdSt w0 wr w gl gs gd lv sv dv v2 v3 ss dd v out) {code : Int} {b : Bool} (HS1 : Kd.S k48 48 w1 w0.heap.size (fun _ => True) v1 (out ++ [⟨code, ⟨b, ss, dd⟩⟩])) (hB1 : Below w0.heap.size w0 w1) (hg : w.grownBy w1 v.ownBlock) :
    RnSt w0 w1 gl gs lv sv v2 v3 ⟨b, ss, dd⟩ v1 (out ++ [⟨code, ⟨b, ss, dd⟩⟩]) where
  hl := blk_grown h.hl hg (Kd.S_ne h.HS h.hl (by decide))
  hs := blk_grown h.hs hg (Kd.S_ne h.HS h.hs (by decide))
  V1 := Kd.V_grown (Kd.R_V (Kd.R_tight rfl h.R1)) hg (fun k hk => h.okp_ne (.inl hk))
  V2 := Kd.V_grown (Kd.R_V (Kd.R_tight rfl h.R2)) hg (fun k hk => h.okp_ne (.inr hk))
  HS := HS1
  hB := hB1
  gle := h.gle
  gse := h.gse
end
set_option maxHeartbeats 8000000 in
set_option maxRecDepth 100000 in
theorem srun_is (n : Int) (A : Option Addr) (c : Nat) (l : List S88) (A1 : Option Addr) (c1 : Nat) (es : List S56) (w : World) (hr : Kd.C k88 w A l.length l) (hc : l.length ≤ c) (hr1 : Kd.C k56 w A1 es.length es) (hc1 : es.length ≤ c1) :
    Calls Try.prog 28 #[.agg #[.int .i64 n, .slice A l.length c], .slice A1 es.length c1] w fun e w' => ∃ v0_ : Value, e = .returned (v0_) ∧ Kd.S k48 48 w' w.heap.size (fun _ => True) v0_ (run n l es) ∧ Below w.heap.size w w' := by
  have HR := Aside0.mk hr
  have HC := Aside0.mk hc
  have HR1 := Aside0.mk hr1
  have HC1 := Aside0.mk hc1
  clear hr hc hr1 hc1
  by_cases hl : layoutOk n l = 0
  · by_cases he : es.length ≤ 2000
    · skip
      have b0 : (layoutOk n l != 0) = false := bne_eq_false_iff_eq.mpr hl
      have b1 : decide ((es.length : Int) > 2000) = false := decide_eq_false (by omega)
      have HL := Aside0.mk hl
      have HE := Aside0.mk he
      have HN := Aside0.mk (lay_n hl)
      clear hl he
      go_enter Try.func28, Try.ntmps28
      go_upto_region 4 with (first | ((with_reducible refine gate_dst (N := 2) rfl ?_); refine box_event ?hg (N := 2) ?hd (cs := #[.int .i64 n, .slice A l.length c]) (t := 30) ?hr ?_; (case hd => rfl); (case hg => rfl); (case hr => first | (go_simp; done) | (go_simp; rfl)); intro gl el wl kl bl; have hcz0 := (blk_cell kl 0).trans (show _ = some (Value.int .i64 n) from rfl); have hcz1 := (blk_cell kl 1).trans (show _ = some (Value.slice A l.length c) from rfl); have KL := Aside0.mk kl; have BL := Aside0.mk bl; have GL := Aside0.mk (show w.heap.size ≤ gl by rw [el]; exact Nat.le_refl _); clear kl bl el) | (go_at_call 23; refine (slay_is (Kd.C_below HR.out BL.out) HC.out).mono ?_; rintro e w1 ⟨rfl, hb⟩; have KL := Aside0.mk (blk_below KL.out hb); have BL := Aside0.mk (below_step BL.out hb); clear hb; have hcy0 := (blk_cell KL.out 0).trans (show _ = some (Value.int .i64 n) from rfl); have hcy1 := (blk_cell KL.out 1).trans (show _ = some (Value.slice A l.length c) from rfl)) | (go_at_call 43; refine (sbegin_is (Kd.C_below HR.out BL.out) HC.out HL.out).mono ?_; rintro e w2 ⟨v1, v2, rfl, r1, r2, hb⟩; obtain ⟨a1, d1, rfl⟩ := Kd.R_slice r1; obtain ⟨a2, d2, rfl⟩ := Kd.R_slice r2; have R1 := Aside0.mk (Kd.R_lower r1 BL.out.size); have R2 := Aside0.mk (Kd.R_lower r2 BL.out.size); have KL := Aside0.mk (blk_below KL.out hb); have BL := Aside0.mk (below_step BL.out hb); clear hb r1 r2) | ((with_reducible refine gate_dst (N := 5) rfl ?_); refine box_event ?hg (N := 5) ?hd (cs := #[.bool false, .slice none 0 0, .slice none 0 0]) (t := 46) ?hr ?_; (case hd => rfl); (case hg => rfl); (case hr => first | (go_simp; done) | (go_simp; rfl)); intro gs es_ ws ks bs; have KS := Aside0.mk ks; have ES := Aside0.mk es_; have BS := Aside0.mk bs; have zs0 := blk_frozen ks 0; have zs1 := blk_frozen ks 1; have zs2 := blk_frozen ks 2; have ks0 := (blk_cell ks 0).trans (show _ = some (Value.bool false) from rfl); have ks1 := (blk_cell ks 1).trans (show _ = some (Value.slice none 0 0) from rfl); have ks2 := (blk_cell ks 2).trans (show _ = some (Value.slice none 0 0) from rfl); clear ks es_ bs))
      clear hcz0 hcz1 hcy0 hcy1
      have BX := Aside0.mk (below_set (j := 2) (v := .slice a2 (st0 n l).f2.length d2) (below_set (j := 1) (v := .slice a1 (st0 n l).f1.length d1) (below_set (j := 0) (v := .bool true) BS.out (Nat.le_of_eq ES.out.symm)) (Nat.le_of_eq ES.out.symm)) (Nat.le_of_eq ES.out.symm))
      have KX := Aside0.mk (blk_put (blk_put (blk_put KS.out 0 (.bool true) rfl) 1 (.slice a1 (st0 n l).f1.length d1) rfl) 2 (.slice a2 (st0 n l).f2.length d2) rfl)
      have ST := Aside0.mk (show RnSt w (((ws.setCell ⟨gs, 0, none⟩ (.bool true)).setCell ⟨gs, 1, none⟩ (.slice a1 (st0 n l).f1.length d1)).setCell ⟨gs, 2, none⟩ (.slice a2 (st0 n l).f2.length d2)) gl gs [.int .i64 n, .slice A l.length c] [.bool true, .slice a1 (st0 n l).f1.length d1, .slice a2 (st0 n l).f2.length d2] (.slice a1 (st0 n l).f1.length d1) (.slice a2 (st0 n l).f2.length d2) (st0 n l) (.slice none 0 0) [] from ⟨blk_below KL.out BX.out, KX.out, Kd.V_below (Kd.R_V (Kd.R_tight rfl R1.out)) BX.out, Kd.V_below (Kd.R_V (Kd.R_tight rfl R2.out)) BX.out, Kd.S_nil _ _ _ _ _, below_step BL.out BX.out, GL.out, by rw [ES.out]; exact BL.out.size⟩)
      clear KL BL R1 R2 KS ES BS zs0 zs1 zs2 ks0 ks1 ks2 BX KX
      generalize (((ws.setCell ⟨gs, 0, none⟩ (.bool true)).setCell ⟨gs, 1, none⟩ (.slice a1 (st0 n l).f1.length d1)).setCell ⟨gs, 2, none⟩ (.slice a2 (st0 n l).f2.length d2)) = wa at ST ⊢
      go_wp2_with fail
      go_loopg [6, 22] es.length (fun kq vo v22 w' => ∃ j : Nat, v22 = .int .i64 j ∧ Aside0 (j + kq = es.length) ∧ ∃ u1 u2 : Value, Aside0 (RnSt w w' gl gs [.int .i64 n, .slice A l.length c] [.bool true, u1, u2] u1 u2 (stAt n l es j) vo (runTo n l es j)))
      case atStart => exact ⟨0, rfl, ⟨by omega⟩, _, _, ⟨by rw [stAt_zero]; exact ST.out⟩⟩
      case round =>
        clear ST
        obtain ⟨j, rfl, HJ, u1, u2, ST⟩ := hrel
        by_cases hlt : j < es.length
        · cases gk with
          | zero => exact absurd HJ.out (by omega)
          | succ gk =>
            have hlt' : decide ((j : Int) < (es.length : Int)) = true := decide_eq_true (by omega)
            have q0 : (0 : Int) ≤ (j : Int) := by omega
            have q1 : (j : Int) < (es.length : Int) := by omega
            obtain ⟨a1, d1, e1⟩ := Kd.V_slice ST.out.V1
            obtain ⟨a2, d2, e2⟩ := Kd.V_slice ST.out.V2
            subst e1 e2
            obtain ⟨ad, e, x0, x1, x2⟩ := at_T56 HR1.out (j : Int) q0 q1
            subst e
            replace x0 := pw_cell_below ST.out.hB x0
            replace x1 := pw_cell_below ST.out.hB x1
            replace x2 := pw_cell_below ST.out.hB x2
            rw [Int.toNat_natCast] at x0 x1 x2
            have HSU := Aside0.mk (stAt_succ n l es j hlt)
            have HRU := Aside0.mk (runTo_succ n l es j)
            have HLT := Aside0.mk (stAt_len n l es j)
            have HSO := Aside0.mk (stAt_ok HL.out es j)
            generalize hx : rd_T56 es (j : Int) = x at x0 x1 x2 HSU HRU
            clear hx
            generalize hst : stAt n l es j = s at ST HSU HRU HLT HSO ⊢
            clear hst
            go_upto_region 8 with ((with_reducible refine gate_dst (N := 8) rfl ?_); refine box_event ?hg (N := 8) ?hd (cs := #[.int .i64 0, .int .i64 0, .int .i64 0]) (t := 56) ?hr ?_; (case hd => rfl); (case hg => rfl); (case hr => first | (go_simp; done) | (go_simp; rfl)); intro ge ee we ke be; have KE := Aside0.mk ke; have EE := Aside0.mk ee; have BE := Aside0.mk be; have z0 := blk_frozen ke 0; have z1 := blk_frozen ke 1; have z2 := blk_frozen ke 2; have c0_ := (blk_cell ke 0).trans (show _ = some (Value.int .i64 0) from rfl); have c1_ := (blk_cell ke 1).trans (show _ = some (Value.int .i64 0) from rfl); have c2_ := (blk_cell ke 2).trans (show _ = some (Value.int .i64 0) from rfl); clear ke ee be)
            have KX := Aside0.mk (blk_put (blk_put (blk_put KE.out 0 (.int .i64 x.f0) rfl) 1 (.int .i64 x.f1) rfl) 2 (.int .i64 x.f2) rfl)
            have BX := Aside0.mk (below_set (j := 2) (v := .int .i64 x.f2) (below_set (j := 1) (v := .int .i64 x.f1) (below_set (j := 0) (v := .int .i64 x.f0) BE.out (Nat.le_of_eq EE.out.symm)) (Nat.le_of_eq EE.out.symm)) (Nat.le_of_eq EE.out.symm))
            clear KE BE EE z0 z1 z2 c0_ c1_ c2_ x0 x1 x2
            generalize (((we.setCell ⟨ge, 0, none⟩ (.int .i64 x.f0)).setCell ⟨ge, 1, none⟩ (.int .i64 x.f1)).setCell ⟨ge, 2, none⟩ (.int .i64 x.f2)) = w8 at KX BX ⊢
            have SX := Aside0.mk (ST.out.up BX.out)
            have kl0 : w8.cell? ⟨gl, 0, none⟩ = some (.int .i64 n) := (blk_cell (SX.out).hl 0).trans rfl
            have kl1 : w8.cell? ⟨gl, 1, none⟩ = some (.slice A l.length c) := (blk_cell (SX.out).hl 1).trans rfl
            have ks0 : w8.cell? ⟨gs, 0, none⟩ = some (.bool true) := (blk_cell (SX.out).hs 0).trans rfl
            have ks1 : w8.cell? ⟨gs, 1, none⟩ = some (.slice a1 s.f1.length d1) := (blk_cell (SX.out).hs 1).trans rfl
            have ks2 : w8.cell? ⟨gs, 2, none⟩ = some (.slice a2 s.f2.length d2) := (blk_cell (SX.out).hs 2).trans rfl
            have ke0 : w8.cell? ⟨ge, 0, none⟩ = some (.int .i64 x.f0) := (blk_cell KX.out 0).trans rfl
            have ke1 : w8.cell? ⟨ge, 1, none⟩ = some (.int .i64 x.f1) := (blk_cell KX.out 1).trans rfl
            have ke2 : w8.cell? ⟨ge, 2, none⟩ = some (.int .i64 x.f2) := (blk_cell KX.out 2).trans rfl
            have HSO2 := Aside0.mk (show stateOk n l true s.f1 s.f2 = true by have := HSO.out; rw [HLT.out.2.2] at this; exact this)
            cases hok : eventOk n l x.f0 x.f1 x.f2 with
            | false =>
              have HO := Aside0.mk hok
              clear hok
              have HST := Aside0.mk (show runStep n l s x = ⟨1, ⟨true, s.f1, s.f2⟩⟩ by unfold runStep; rw [HO.out]; rfl)
              go_upto_region 9 with (first | (go_at_call 69; refine (sdo_badE n A c l true a1 d1 s.f1 a2 d2 s.f2 x.f0 x.f1 x.f2 _ (Kd.C_below HR.out SX.out.hB) HC.out (Kd.V_reads' SX.out.V1).2.2 (Kd.V_reads' SX.out.V1).2.1 (Kd.V_reads' SX.out.V2).2.2 (Kd.V_reads' SX.out.V2).2.1 HSO2.out HO.out).mono ?_; rintro e wd ⟨rfl, hb⟩; have B9 := Aside0.mk (below_step BX.out hb); clear hb) | ((with_reducible refine gate_dst (N := 9) rfl ?_); refine box_event ?hg (N := 9) ?hd (cs := #[.int .i64 0, .bool false, .slice none 0 0, .slice none 0 0]) (t := 48) ?hr ?_; (case hd => rfl); (case hg => rfl); (case hr => first | (go_simp; done) | (go_simp; rfl)); intro gd ed wb kd bd; have KD := Aside0.mk kd; have ED := Aside0.mk ed; have BD := Aside0.mk bd; have zd0 := blk_frozen kd 0; have zd1 := blk_frozen kd 1; have zd2 := blk_frozen kd 2; have zd3 := blk_frozen kd 3; have kd0 := (blk_cell kd 0).trans (show _ = some (Value.int .i64 0) from rfl); have kd1 := (blk_cell kd 1).trans (show _ = some (Value.bool false) from rfl); have kd2 := (blk_cell kd 2).trans (show _ = some (Value.slice none 0 0) from rfl); have kd3 := (blk_cell kd 3).trans (show _ = some (Value.slice none 0 0) from rfl); clear kd ed bd))
              have KF := Aside0.mk (blk_put (blk_put (blk_put (blk_put KD.out 0 (.int .i64 1) rfl) 1 (.bool false) rfl) 2 (.slice none 0 0) rfl) 3 (.slice none 0 0) rfl)
              have GD := Aside0.mk (show wr.heap.size ≤ gd by rw [ED.out]; exact B9.out.size)
              have BF := Aside0.mk (below_set (j := 3) (v := .slice none 0 0) (below_set (j := 2) (v := .slice none 0 0) (below_set (j := 1) (v := .bool false) (below_set (j := 0) (v := .int .i64 1) (below_step B9.out BD.out) GD.out) GD.out) GD.out) GD.out)
              clear kl0 kl1 ks0 ks1 ks2 ke0 ke1 ke2 kd0 kd1 kd2 kd3 zd0 zd1 zd2 zd3 KD BD B9 ED SX
              generalize ((((wb.setCell ⟨gd, 0, none⟩ (.int .i64 1)).setCell ⟨gd, 1, none⟩ (.bool false)).setCell ⟨gd, 2, none⟩ (.slice none 0 0)).setCell ⟨gd, 3, none⟩ (.slice none 0 0)) = w9 at KF BF ⊢
              have S9 := Aside0.mk (ST.out.up BF.out)
              have kd0 : w9.cell? ⟨gd, 0, none⟩ = some (.int .i64 1) := (blk_cell KF.out 0).trans rfl
              have kd1 : w9.cell? ⟨gd, 1, none⟩ = some (.bool false) := (blk_cell KF.out 1).trans rfl
              have kd2 : w9.cell? ⟨gd, 2, none⟩ = some (.slice none 0 0) := (blk_cell KF.out 2).trans rfl
              have kd3 : w9.cell? ⟨gd, 3, none⟩ = some (.slice none 0 0) := (blk_cell KF.out 3).trans rfl
              have ks0 : w9.cell? ⟨gs, 0, none⟩ = some (.bool true) := (blk_cell S9.out.hs 0).trans rfl
              have ks1 : w9.cell? ⟨gs, 1, none⟩ = some (.slice a1 s.f1.length d1) := (blk_cell S9.out.hs 1).trans rfl
              have ks2 : w9.cell? ⟨gs, 2, none⟩ = some (.slice a2 s.f2.length d2) := (blk_cell S9.out.hs 2).trans rfl
              have hs1 : s.f1.length ≤ 1048576 := by rw [HLT.out.1]; have := HN.out; omega
              have hs2 : s.f2.length ≤ 1048576 := by rw [HLT.out.2.1]; have := HN.out; omega
              have HS1_ := Aside0.mk hs1
              have HS2_ := Aside0.mk hs2
              clear hs1 hs2
              go_upto_region 11 with (go_at_call 93; refine (copy_is (Kd.V_reads' S9.out.V1).2.2 (Kd.V_reads' S9.out.V1).2.1 (Kd.V_reads' S9.out.V2).2.2 (Kd.V_reads' S9.out.V2).2.1 HS1_.out HS2_.out).mono ?_; rintro e wf ⟨v2, v3, rfl, r1, r2, hb⟩; obtain ⟨b2, f2, rfl⟩ := Kd.R_slice r1; obtain ⟨b3, f3, rfl⟩ := Kd.R_slice r2; have NR1 := Aside0.mk (Kd.R_lower r1 BF.out.size); have NR2 := Aside0.mk (Kd.R_lower r2 BF.out.size); have KG := Aside0.mk (blk_below KF.out hb); have BG := Aside0.mk (below_step BF.out hb); clear r1 r2 hb; have kd0 : wf.cell? ⟨gd, 0, none⟩ = some (.int .i64 1) := (blk_cell KG.out 0).trans rfl; have kd1 : wf.cell? ⟨gd, 1, none⟩ = some (.bool false) := (blk_cell KG.out 1).trans rfl; have kd2 : wf.cell? ⟨gd, 2, none⟩ = some (.slice none 0 0) := (blk_cell KG.out 2).trans rfl; have kd3 : wf.cell? ⟨gd, 3, none⟩ = some (.slice none 0 0) := (blk_cell KG.out 3).trans rfl; have zd0 := blk_frozen KG.out 0; have zd1 := blk_frozen KG.out 1; have zd2 := blk_frozen KG.out 2; have zd3 := blk_frozen KG.out 3)
              have HM3 := Aside0.mk (ST.out.midC (b := true) BG.out KG.out GD.out NR1.out NR2.out)
              clear kd0 kd1 kd2 kd3 zd0 zd1 zd2 zd3 ks0 ks1 ks2 KG BG NR1 NR2 S9 KF BF
              generalize (((wf.setCell ⟨gd, 1, none⟩ (.bool true)).setCell ⟨gd, 2, none⟩ (.slice b2 s.f1.length f2)).setCell ⟨gd, 3, none⟩ (.slice b3 s.f2.length f3)) = wg at HM3 ⊢
              have kd0 : wg.cell? ⟨gd, 0, none⟩ = some (.int .i64 (1)) := (blk_cell HM3.out.hd 0).trans rfl
              have kd1 : wg.cell? ⟨gd, 1, none⟩ = some (.bool true) := (blk_cell HM3.out.hd 1).trans rfl
              have kd2 : wg.cell? ⟨gd, 2, none⟩ = some (.slice b2 s.f1.length f2) := (blk_cell HM3.out.hd 2).trans rfl
              have kd3 : wg.cell? ⟨gd, 3, none⟩ = some (.slice b3 s.f2.length f3) := (blk_cell HM3.out.hd 3).trans rfl
              have kt0 : wg.cell? ⟨gs, 0, none⟩ = some (.bool true) := (blk_cell HM3.out.hs 0).trans rfl
              have kt1 : wg.cell? ⟨gs, 1, none⟩ = some (.slice a1 s.f1.length d1) := (blk_cell HM3.out.hs 1).trans rfl
              have kt2 : wg.cell? ⟨gs, 2, none⟩ = some (.slice a2 s.f2.length d2) := (blk_cell HM3.out.hs 2).trans rfl
              have zt0 := blk_frozen HM3.out.hs 0
              have zt1 := blk_frozen HM3.out.hs 1
              have zt2 := blk_frozen HM3.out.hs 2
              go_upto_region 12 with fail
              have HS4 := Aside0.mk (HM3.out.setS (.bool true))
              clear kd0 kd1 kd2 kd3 kt0 kt1 kt2 zt0 zt1 zt2
              generalize (((wg.setCell ⟨gs, 0, none⟩ (.bool true)).setCell ⟨gs, 1, none⟩ (.slice b2 s.f1.length f2)).setCell ⟨gs, 2, none⟩ (.slice b3 s.f2.length f3)) = wh at HS4 ⊢
              have kd0 : wh.cell? ⟨gd, 0, none⟩ = some (.int .i64 (1)) := (blk_cell HS4.out.hd 0).trans rfl
              have kd1 : wh.cell? ⟨gd, 1, none⟩ = some (.bool true) := (blk_cell HS4.out.hd 1).trans rfl
              have kd2 : wh.cell? ⟨gd, 2, none⟩ = some (.slice b2 s.f1.length f2) := (blk_cell HS4.out.hd 2).trans rfl
              have kd3 : wh.cell? ⟨gd, 3, none⟩ = some (.slice b3 s.f2.length f3) := (blk_cell HS4.out.hd 3).trans rfl
              go_wp2_with (at_builtin; refine Kd.S_append k48 (w0 := w) w.heap.size rfl (.tmp 38) (.tmp 40) 38 48 (.agg #[.int .i64 0, .bool false, .slice none 0 0, .slice none 0 0]) 64 rfl Try.underlying38 info48 rfl (by decide) (by decide) u6 (runTo n l es j) ⟨1, ⟨true, s.f1, s.f2⟩⟩ [.int .i64 (1), .bool true, (.slice b2 s.f1.length f2), (.slice b3 s.f2.length f3)] (fun _ => True) (okp (.slice b2 s.f1.length f2) (.slice b3 s.f2.length f3)) rfl rfl (HS4.out.elem (1) true) (fun k hk => ⟨trivial, HS4.out.okp_ne hk⟩) (fun _ _ => trivial) HS4.out.rest HS4.out.hB HS4.out.hB.size (by rw [runTo_length]; have := HE.out; omega) ?_; intro vn wn hsn hbn hgn _; have SN := Aside0.mk (HS4.out.fin2 hsn hbn hgn); clear hsn hbn hgn)
              go_roundg gk
              case measure => omega
              case rel => exact ⟨j + 1, congrArg (Value.int .i64) (wrap_succ (by have := HE.out; omega)), ⟨by have := HJ.out; omega⟩, _, _, ⟨by rw [HSU.out, HRU.out, HST.out]; exact SN.out⟩⟩
            | true =>
              have HO := Aside0.mk hok
              clear hok
              have HST := Aside0.mk (show runStep n l s x = ⟨doCode l s.f1 s.f2 x.f0 x.f1, ⟨true, doSecs l s.f1 s.f2 x.f0 x.f1 x.f2, doDead l s.f1 s.f2 x.f0 x.f1⟩⟩ by unfold runStep; rw [if_pos HO.out])
              have hc1 : (doCode l s.f1 s.f2 x.f0 x.f1 == 1) = false := beq_eq_false_iff_ne.mpr (doCode_ne _ _ _ _ _)
              generalize hcd : doCode l s.f1 s.f2 x.f0 x.f1 = code at hc1 HST
              have HCD := Aside0.mk hcd
              clear hcd
              go_upto_region 9 with (first | (go_at_call 69; refine (sdo_is n A c l true a1 d1 s.f1 a2 d2 s.f2 x.f0 x.f1 x.f2 _ (Kd.C_below HR.out SX.out.hB) HC.out (Kd.V_reads' SX.out.V1).2.2 (Kd.V_reads' SX.out.V1).2.1 (Kd.V_reads' SX.out.V2).2.2 (Kd.V_reads' SX.out.V2).2.1 HSO2.out HO.out).mono ?_; rw [HCD.out]; rintro e wd ⟨v2, v3, rfl, r1, r2, hb⟩; obtain ⟨b4, f4, rfl⟩ := Kd.R_slice r1; obtain ⟨b5, f5, rfl⟩ := Kd.R_slice r2; have NR1 := Aside0.mk (Kd.R_lower r1 BX.out.size); have NR2 := Aside0.mk (Kd.R_lower r2 BX.out.size); have B9 := Aside0.mk (below_step BX.out hb); clear hb r1 r2) | ((with_reducible refine gate_dst (N := 9) rfl ?_); refine box_event ?hg (N := 9) ?hd (cs := #[.int .i64 0, .bool false, .slice none 0 0, .slice none 0 0]) (t := 48) ?hr ?_; (case hd => rfl); (case hg => rfl); (case hr => first | (go_simp; done) | (go_simp; rfl)); intro gd ed wb kd bd; have KD := Aside0.mk kd; have ED := Aside0.mk ed; have BD := Aside0.mk bd; have zd0 := blk_frozen kd 0; have zd1 := blk_frozen kd 1; have zd2 := blk_frozen kd 2; have zd3 := blk_frozen kd 3; have kd0 := (blk_cell kd 0).trans (show _ = some (Value.int .i64 0) from rfl); have kd1 := (blk_cell kd 1).trans (show _ = some (Value.bool false) from rfl); have kd2 := (blk_cell kd 2).trans (show _ = some (Value.slice none 0 0) from rfl); have kd3 := (blk_cell kd 3).trans (show _ = some (Value.slice none 0 0) from rfl); clear kd ed bd))
              have GD := Aside0.mk (show wr.heap.size ≤ gd by rw [ED.out]; exact B9.out.size)
              have HM3 := Aside0.mk (ST.out.midB (code := code) (b := true) (below_step B9.out BD.out) KD.out GD.out (R_up NR1.out BD.out) (R_up NR2.out BD.out)).1
              clear kl0 kl1 ks0 ks1 ks2 ke0 ke1 ke2 kd0 kd1 kd2 kd3 zd0 zd1 zd2 zd3 KD BD B9 ED SX NR1 NR2
              generalize ((((wb.setCell ⟨gd, 0, none⟩ (.int .i64 code)).setCell ⟨gd, 1, none⟩ (.bool true)).setCell ⟨gd, 2, none⟩ (.slice b4 (doSecs l s.f1 s.f2 x.f0 x.f1 x.f2).length f4)).setCell ⟨gd, 3, none⟩ (.slice b5 (doDead l s.f1 s.f2 x.f0 x.f1).length f5)) = wg at HM3 ⊢
              have kd0 : wg.cell? ⟨gd, 0, none⟩ = some (.int .i64 code) := (blk_cell HM3.out.hd 0).trans rfl
              have kd1 : wg.cell? ⟨gd, 1, none⟩ = some (.bool true) := (blk_cell HM3.out.hd 1).trans rfl
              have kd2 : wg.cell? ⟨gd, 2, none⟩ = some (.slice b4 (doSecs l s.f1 s.f2 x.f0 x.f1 x.f2).length f4) := (blk_cell HM3.out.hd 2).trans rfl
              have kd3 : wg.cell? ⟨gd, 3, none⟩ = some (.slice b5 (doDead l s.f1 s.f2 x.f0 x.f1).length f5) := (blk_cell HM3.out.hd 3).trans rfl
              go_upto_region 11 with fail
              clear kd0 kd1 kd2 kd3
              have kd0 : wg.cell? ⟨gd, 0, none⟩ = some (.int .i64 (code)) := (blk_cell HM3.out.hd 0).trans rfl
              have kd1 : wg.cell? ⟨gd, 1, none⟩ = some (.bool true) := (blk_cell HM3.out.hd 1).trans rfl
              have kd2 : wg.cell? ⟨gd, 2, none⟩ = some (.slice b4 (doSecs l s.f1 s.f2 x.f0 x.f1 x.f2).length f4) := (blk_cell HM3.out.hd 2).trans rfl
              have kd3 : wg.cell? ⟨gd, 3, none⟩ = some (.slice b5 (doDead l s.f1 s.f2 x.f0 x.f1).length f5) := (blk_cell HM3.out.hd 3).trans rfl
              have kt0 : wg.cell? ⟨gs, 0, none⟩ = some (.bool true) := (blk_cell HM3.out.hs 0).trans rfl
              have kt1 : wg.cell? ⟨gs, 1, none⟩ = some (.slice a1 s.f1.length d1) := (blk_cell HM3.out.hs 1).trans rfl
              have kt2 : wg.cell? ⟨gs, 2, none⟩ = some (.slice a2 s.f2.length d2) := (blk_cell HM3.out.hs 2).trans rfl
              have zt0 := blk_frozen HM3.out.hs 0
              have zt1 := blk_frozen HM3.out.hs 1
              have zt2 := blk_frozen HM3.out.hs 2
              go_upto_region 12 with fail
              have HS4 := Aside0.mk (HM3.out.setS (.bool true))
              clear kd0 kd1 kd2 kd3 kt0 kt1 kt2 zt0 zt1 zt2
              generalize (((wg.setCell ⟨gs, 0, none⟩ (.bool true)).setCell ⟨gs, 1, none⟩ (.slice b4 (doSecs l s.f1 s.f2 x.f0 x.f1 x.f2).length f4)).setCell ⟨gs, 2, none⟩ (.slice b5 (doDead l s.f1 s.f2 x.f0 x.f1).length f5)) = wh at HS4 ⊢
              have kd0 : wh.cell? ⟨gd, 0, none⟩ = some (.int .i64 (code)) := (blk_cell HS4.out.hd 0).trans rfl
              have kd1 : wh.cell? ⟨gd, 1, none⟩ = some (.bool true) := (blk_cell HS4.out.hd 1).trans rfl
              have kd2 : wh.cell? ⟨gd, 2, none⟩ = some (.slice b4 (doSecs l s.f1 s.f2 x.f0 x.f1 x.f2).length f4) := (blk_cell HS4.out.hd 2).trans rfl
              have kd3 : wh.cell? ⟨gd, 3, none⟩ = some (.slice b5 (doDead l s.f1 s.f2 x.f0 x.f1).length f5) := (blk_cell HS4.out.hd 3).trans rfl
              go_wp2_with (at_builtin; refine Kd.S_append k48 (w0 := w) w.heap.size rfl (.tmp 38) (.tmp 40) 38 48 (.agg #[.int .i64 0, .bool false, .slice none 0 0, .slice none 0 0]) 64 rfl Try.underlying38 info48 rfl (by decide) (by decide) u6 (runTo n l es j) ⟨code, ⟨true, doSecs l s.f1 s.f2 x.f0 x.f1 x.f2, doDead l s.f1 s.f2 x.f0 x.f1⟩⟩ [.int .i64 (code), .bool true, (.slice b4 (doSecs l s.f1 s.f2 x.f0 x.f1 x.f2).length f4), (.slice b5 (doDead l s.f1 s.f2 x.f0 x.f1).length f5)] (fun _ => True) (okp (.slice b4 (doSecs l s.f1 s.f2 x.f0 x.f1 x.f2).length f4) (.slice b5 (doDead l s.f1 s.f2 x.f0 x.f1).length f5)) rfl rfl (HS4.out.elem (code) true) (fun k hk => ⟨trivial, HS4.out.okp_ne hk⟩) (fun _ _ => trivial) HS4.out.rest HS4.out.hB HS4.out.hB.size (by rw [runTo_length]; have := HE.out; omega) ?_; intro vn wn hsn hbn hgn _; have SN := Aside0.mk (HS4.out.fin2 hsn hbn hgn); clear hsn hbn hgn)
              go_roundg gk
              case measure => omega
              case rel => exact ⟨j + 1, congrArg (Value.int .i64) (wrap_succ (by have := HE.out; omega)), ⟨by have := HJ.out; omega⟩, _, _, ⟨by rw [HSU.out, HRU.out, HST.out]; exact SN.out⟩⟩
        · have hlt' : decide ((j : Int) < (es.length : Int)) = false := decide_eq_false (by omega)
          have hj : j = es.length := by have := HJ.out; omega
          have HRN := Aside0.mk (show runTo n l es j = run n l es by rw [run, if_pos ⟨HL.out, HE.out⟩, hj])
          clear hj
          go_wp2_with fail
          go_ret
          exact ⟨_, rfl, HRN.out ▸ ST.out.HS, ST.out.hB⟩
    · skip
      have b0 : (layoutOk n l != 0) = false := bne_eq_false_iff_eq.mpr hl
      have b1 : decide ((es.length : Int) > 2000) = true := decide_eq_true (by omega)
      have HV := Aside0.mk (show ([] : List S48) = run n l es by rw [run, if_neg (fun h => he h.2)])
      clear hl he
      go_enter Try.func28, Try.ntmps28
      go_wp2_with (first | ((with_reducible refine gate_dst (N := 2) rfl ?_); refine box_event ?hg (N := 2) ?hd (cs := #[.int .i64 n, .slice A l.length c]) (t := 30) ?hr ?_; (case hd => rfl); (case hg => rfl); (case hr => first | (go_simp; done) | (go_simp; rfl)); intro gl el wl kl bl; have hcz0 := (blk_cell kl 0).trans (show _ = some (Value.int .i64 n) from rfl); have hcz1 := (blk_cell kl 1).trans (show _ = some (Value.slice A l.length c) from rfl); have KL := Aside0.mk kl; have BL := Aside0.mk bl; have GL := Aside0.mk (show w.heap.size ≤ gl by rw [el]; exact Nat.le_refl _); clear kl bl el) | (go_at_call 23; refine (slay_is (Kd.C_below HR.out BL.out) HC.out).mono ?_; rintro e w1 ⟨rfl, hb⟩; have KL := Aside0.mk (blk_below KL.out hb); have BL := Aside0.mk (below_step BL.out hb); clear hb; have hcy0 := (blk_cell KL.out 0).trans (show _ = some (Value.int .i64 n) from rfl); have hcy1 := (blk_cell KL.out 1).trans (show _ = some (Value.slice A l.length c) from rfl)))
      go_ret
      exact ⟨_, rfl, HV.out ▸ Kd.S_nil _ _ _ _ _, BL.out⟩
  · skip
    have b0 : (layoutOk n l != 0) = true := bne_iff_ne.mpr hl
    have HV := Aside0.mk (show ([] : List S48) = run n l es by rw [run, if_neg (fun h => hl h.1)])
    clear hl
    go_enter Try.func28, Try.ntmps28
    go_wp2_with (first | ((with_reducible refine gate_dst (N := 2) rfl ?_); refine box_event ?hg (N := 2) ?hd (cs := #[.int .i64 n, .slice A l.length c]) (t := 30) ?hr ?_; (case hd => rfl); (case hg => rfl); (case hr => first | (go_simp; done) | (go_simp; rfl)); intro gl el wl kl bl; have hcz0 := (blk_cell kl 0).trans (show _ = some (Value.int .i64 n) from rfl); have hcz1 := (blk_cell kl 1).trans (show _ = some (Value.slice A l.length c) from rfl); have KL := Aside0.mk kl; have BL := Aside0.mk bl; have GL := Aside0.mk (show w.heap.size ≤ gl by rw [el]; exact Nat.le_refl _); clear kl bl el) | (go_at_call 23; refine (slay_is (Kd.C_below HR.out BL.out) HC.out).mono ?_; rintro e w1 ⟨rfl, hb⟩; have KL := Aside0.mk (blk_below KL.out hb); have BL := Aside0.mk (below_step BL.out hb); clear hb; have hcy0 := (blk_cell KL.out 0).trans (show _ = some (Value.int .i64 n) from rfl); have hcy1 := (blk_cell KL.out 1).trans (show _ = some (Value.slice A l.length c) from rfl)))
    go_ret
    exact ⟨_, rfl, HV.out ▸ Kd.S_nil _ _ _ _ _, BL.out⟩
end Go.Proofs.Ytpdnabhpkdchjaa.P
namespace Go.Proofs.Ytpdnabhpkdchjaa.P
open Go.RowKit Go.Proofs.YtpdnabhpkdchjaaW.PrintWords Go.Proofs.YtpdnabhpkdchjaaW.PrintLast Go.Proofs.YtpdnabhpkdchjaaW.PrintMore
attribute [local go_sem] max2_int min2_int max_two min_two max_three min_three max_four min_four
set_option linter.unusedVariables false
set_option linter.unusedSimpArgs false
theorem eqA50 (d:Nat) (w:World) (x0 y0:Int) (x1 y1:Int) (x2 y2:Bool) (x3 y3:Bool) (x4 y4:Int) :
  (Op.equalIn (d+2) 50 (.agg #[.int .i64 x0,.int .i64 x1,.bool x2,.bool x3,.int .i64 x4]) (.agg #[.int .i64 y0,.int .i64 y1,.bool y2,.bool y3,.int .i64 y4])).run Try.prog w=.ok (x0==y0 && (x1==y1 && (x2==y2 && (x3==y3 && (x4==y4))))) w:=by
 refine eqA_of Try.underlying50 (by kernel_rfl) ?_
 refine eqf_cons (by rfl) (by go_simp;rfl) (by go_simp;rfl) (by go_simp) ?_
 refine eqf_cons (by rfl) (by go_simp;rfl) (by go_simp;rfl) (by go_simp) ?_
 refine eqf_cons (by rfl) (by go_simp;rfl) (by go_simp;rfl) (by go_simp) ?_
 refine eqf_cons (by rfl) (by go_simp;rfl) (by go_simp;rfl) (by go_simp) ?_
 exact eqf_last (by rfl) (by go_simp;rfl) (by go_simp;rfl) (by go_simp)
end Go.Proofs.Ytpdnabhpkdchjaa.P
namespace Go.Proofs.Ytpdnabhpkdchjaa.P
open Go.RowKit Go.Proofs.YtpdnabhpkdchjaaW.PrintWords Go.Proofs.YtpdnabhpkdchjaaW.PrintLast Go.Proofs.YtpdnabhpkdchjaaW.PrintMore
attribute [local go_sem] max2_int min2_int max_two min_two max_three min_three max_four min_four
set_option linter.unusedVariables false
set_option linter.unusedSimpArgs false
attribute [local go_sem high] eqA50
mutual
def laws_wState.j0:Nat→Bool→Bool→List (S50)→List Bool→Bool→List (S50)→List Bool→Option (Bool)
 | 0,_,_,_,_,_,_,_=>none
 | k+1,x29,x310000,x310001,x310002,x311000,x311001,x311002=>if x29=true then (some false) else (laws_wState.l0 k (x310001.length:Int) 0 x310000 x310001 x310002 x311000 x311001 x311002)
def laws_wState.l0:Nat→Int→Int→Bool→List (S50)→List Bool→Bool→List (S50)→List Bool→Option (Bool)
 | 0,_,_,_,_,_,_,_,_=>none
 | k+1,x32,x33,x310000,x310001,x310002,x311000,x311001,x311002=>if x33<x32 then (if 0≤x33 then (if x33<(x310001.length:Int) then (if x33<(x311001.length:Int) then (if (!(((rd_T50 x310001 x33).f0)==((rd_T50 x311001 x33).f0)) || (!(((rd_T50 x310001 x33).f1)==((rd_T50 x311001 x33).f1)) || (!(((rd_T50 x310001 x33).f2)==((rd_T50 x311001 x33).f2)) || (!(((rd_T50 x310001 x33).f3)==((rd_T50 x311001 x33).f3)) || (!(((rd_T50 x310001 x33).f4)==((rd_T50 x311001 x33).f4)))))))=true then (some false) else (laws_wState.l0 k x32 (wrap64 (x33+1)) x310000 x310001 x310002 x311000 x311001 x311002)) else (none)) else (none)) else (none)) else (laws_wState.l1 k (x310002.length:Int) 0 x310000 x310001 x310002 x311000 x311001 x311002)
def laws_wState.l1:Nat→Int→Int→Bool→List (S50)→List Bool→Bool→List (S50)→List Bool→Option (Bool)
 | 0,_,_,_,_,_,_,_,_=>none
 | k+1,x50,x51,x310000,x310001,x310002,x311000,x311001,x311002=>if x51<x50 then (if 0≤x51 then (if x51<(x310002.length:Int) then (if x51<(x311002.length:Int) then (if ((rdOf false x310002 x51) != (rdOf false x311002 x51))=true then (some false) else (laws_wState.l1 k x50 (wrap64 (x51+1)) x310000 x310001 x310002 x311000 x311001 x311002)) else (none)) else (none)) else (none)) else (some true)
end
def laws_wState.f (k:Nat) (a0_0:Bool) (l0_1:List (S50)) (l0_2:List Bool) (a1_0:Bool) (l1_1:List (S50)) (l1_2:List Bool):Option (Bool):=if (a0_0 != a1_0)=true then (laws_wState.j0 k true a0_0 l0_1 l0_2 a1_0 l1_1 l1_2) else (if (l0_1.length:Int)=(l1_1.length:Int) then (laws_wState.j0 k ((l0_2.length:Int) != (l1_2.length:Int)) a0_0 l0_1 l0_2 a1_0 l1_1 l1_2) else (laws_wState.j0 k true a0_0 l0_1 l0_2 a1_0 l1_1 l1_2))
set_option maxHeartbeats 8000000 in
set_option maxRecDepth 100000 in
theorem laws_wState.calls (k:Nat) (a0_0:Bool) (A0_1:Option Addr) (c0_1:Nat) (l0_1:List (S50)) (A0_2:Option Addr) (c0_2:Nat) (l0_2:List Bool) (a1_0:Bool) (A1_1:Option Addr) (c1_1:Nat) (l1_1:List (S50)) (A1_2:Option Addr) (c1_2:Nat) (l1_2:List Bool) (r:Bool) (w:World) (hr0_1:Kd.C k50 w A0_1 l0_1.length l0_1) (hc0_1:l0_1.length≤c0_1) (hr0_2:Kd.C Kd.bool w A0_2 l0_2.length l0_2) (hc0_2:l0_2.length≤c0_2) (hr1_1:Kd.C k50 w A1_1 l1_1.length l1_1) (hc1_1:l1_1.length≤c1_1) (hr1_2:Kd.C Kd.bool w A1_2 l1_2.length l1_2) (hc1_2:l1_2.length≤c1_2) (h:laws_wState.f k a0_0 l0_1 l0_2 a1_0 l1_1 l1_2=some r) :
  Calls Try.prog 33 #[.agg #[.bool a0_0,.slice A0_1 l0_1.length c0_1,.slice A0_2 l0_2.length c0_2],.agg #[.bool a1_0,.slice A1_1 l1_1.length c1_1,.slice A1_2 l1_2.length c1_2]] w fun e w'=>e=.returned (.bool r)∧Below w.heap.size w w':=by
 have hu46:=Try.underlying46
 have hu50:=Try.underlying50
 have HR0_1:=Aside0.mk hr0_1
 have HC0_1:=Aside0.mk hc0_1
 clear hr0_1 hc0_1
 have HR0_2:=Aside0.mk hr0_2
 have HC0_2:=Aside0.mk hc0_2
 clear hr0_2 hc0_2
 have HR1_1:=Aside0.mk hr1_1
 have HC1_1:=Aside0.mk hc1_1
 clear hr1_1 hc1_1
 have HR1_2:=Aside0.mk hr1_2
 have HC1_2:=Aside0.mk hc1_2
 clear hr1_2 hc1_2
 have HB:=Aside0.mk (Below.refl w.heap.size w)
 have H:(if (a0_0 != a1_0)=true then (laws_wState.j0 k true a0_0 l0_1 l0_2 a1_0 l1_1 l1_2) else (if (l0_1.length:Int)=(l1_1.length:Int) then (laws_wState.j0 k ((l0_2.length:Int) != (l1_2.length:Int)) a0_0 l0_1 l0_2 a1_0 l1_1 l1_2) else (laws_wState.j0 k true a0_0 l0_1 l0_2 a1_0 l1_1 l1_2)))=some r:=h
 clear h
 have HC3:=Aside0.mk H
 clear H
 go_enter Try.func33,Try.ntmps33
 go_upto_region 1 with (first|((with_reducible refine gate_dst (N:=2) rfl ?_);(try (refine gate_guard (by rfl) ?_;dsimp only));refine box_event ?hg (N:=2) ?hd (cs:=#[.bool a0_0,.slice A0_1 l0_1.length c0_1,.slice A0_2 l0_2.length c0_2]) (t:=46) ?hr ?_;(case hd=>rfl);(case hg=>rfl);(case hr=>first|(go_simp;done)|(go_simp;rfl));intro gb309 hg w4 hbox hb;have n0_:=Aside0.mk (below_step (by repeat (first|(with_reducible first|exact HB.out|apply below_alloc|apply pw_below_drewN|apply below_drew1)|exact HB.out)) hb);have n1_:=Aside0.mk (hbox);have n2_:=Aside0.mk ((by rw [hg];exact (below_size (by repeat (first|(with_reducible first|exact HB.out|apply below_alloc|apply pw_below_drewN|apply below_drew1)|exact HB.out))):w.heap.size≤gb309));have n3_:=Aside0.mk ((by rw [hg];exact (below_size (by repeat (first|(with_reducible first|exact HB.out|apply below_alloc|apply pw_below_drewN|apply below_drew1)|exact HB.out))):w.heap.size≤gb309));clear HB;have HB:=n0_;have BK309:=n1_;have GW309:=n2_;have GE309:=n3_;clear n0_ n1_ n2_ n3_;clear hb hbox hg)|((with_reducible refine gate_dst (N:=3) rfl ?_);(try (refine gate_guard (by rfl) ?_;dsimp only));refine box_event ?hg (N:=3) ?hd (cs:=#[.bool a1_0,.slice A1_1 l1_1.length c1_1,.slice A1_2 l1_2.length c1_2]) (t:=46) ?hr ?_;(case hd=>rfl);(case hg=>rfl);(case hr=>first|(go_simp;done)|(go_simp;rfl));intro gb310 hg w5 hbox hb;have n0_:=Aside0.mk (blk_below (g:=gb309) (o:=.cells #[.bool a0_0,.slice A0_1 l0_1.length c0_1,.slice A0_2 l0_2.length c0_2] 46 (0,0)) (by (with_reducible repeat (first|refine blk_drewN ?_ _|refine blk_drew ?_|refine blk_alloc ?_ _));exact BK309.out) hb);have n1_:=Aside0.mk (below_step (by repeat (first|(with_reducible first|exact HB.out|apply below_alloc|apply pw_below_drewN|apply below_drew1|refine below_set ?_ GE309.out)|exact HB.out)) hb);have n2_:=Aside0.mk (hbox);have n3_:=Aside0.mk ((by rw [hg];exact (below_size (by repeat (first|(with_reducible first|exact HB.out|apply below_alloc|apply pw_below_drewN|apply below_drew1|refine below_set ?_ GE309.out)|exact HB.out))):w.heap.size≤gb310));have n4_:=Aside0.mk ((by rw [hg];exact (below_size (by repeat (first|(with_reducible first|exact HB.out|apply below_alloc|apply pw_below_drewN|apply below_drew1|refine below_set ?_ GE309.out)|exact HB.out))):w.heap.size≤gb310));have n5_:=Aside0.mk ((by rw [hg];exact Nat.ne_of_lt (blk_lt (g:=gb309) (o:=.cells #[.bool a0_0,.slice A0_1 l0_1.length c0_1,.slice A0_2 l0_2.length c0_2] 46 (0,0)) (by (with_reducible repeat (first|refine blk_drewN ?_ _|refine blk_drew ?_|refine blk_alloc ?_ _));exact BK309.out)):gb309 ≠ gb310));have n6_:=Aside0.mk ((by rw [hg];exact Nat.ne_of_gt (blk_lt (g:=gb309) (o:=.cells #[.bool a0_0,.slice A0_1 l0_1.length c0_1,.slice A0_2 l0_2.length c0_2] 46 (0,0)) (by (with_reducible repeat (first|refine blk_drewN ?_ _|refine blk_drew ?_|refine blk_alloc ?_ _));exact BK309.out)):gb310 ≠ gb309));clear BK309;clear HB;have BK309:=n0_;have HB:=n1_;have BK310:=n2_;have GW310:=n3_;have GE310:=n4_;have NB309_310:=n5_;have NB310_309:=n6_;clear n0_ n1_ n2_ n3_ n4_ n5_ n6_;clear hb hbox hg))
 repeat (go_quiet (first|((with_reducible refine gate_dst (N:=2) rfl ?_);(try (refine gate_guard (by rfl) ?_;dsimp only));refine box_event ?hg (N:=2) ?hd (cs:=#[.bool a0_0,.slice A0_1 l0_1.length c0_1,.slice A0_2 l0_2.length c0_2]) (t:=46) ?hr ?_;(case hd=>rfl);(case hg=>rfl);(case hr=>first|(go_simp;done)|(go_simp;rfl));intro gb309 hg w4 hbox hb;have n0_:=Aside0.mk (below_step (by repeat (first|(with_reducible first|exact HB.out|apply below_alloc|apply pw_below_drewN|apply below_drew1)|exact HB.out)) hb);have n1_:=Aside0.mk (hbox);have n2_:=Aside0.mk ((by rw [hg];exact (below_size (by repeat (first|(with_reducible first|exact HB.out|apply below_alloc|apply pw_below_drewN|apply below_drew1)|exact HB.out))):w.heap.size≤gb309));have n3_:=Aside0.mk ((by rw [hg];exact (below_size (by repeat (first|(with_reducible first|exact HB.out|apply below_alloc|apply pw_below_drewN|apply below_drew1)|exact HB.out))):w.heap.size≤gb309));clear HB;have HB:=n0_;have BK309:=n1_;have GW309:=n2_;have GE309:=n3_;clear n0_ n1_ n2_ n3_;clear hb hbox hg)|((with_reducible refine gate_dst (N:=3) rfl ?_);(try (refine gate_guard (by rfl) ?_;dsimp only));refine box_event ?hg (N:=3) ?hd (cs:=#[.bool a1_0,.slice A1_1 l1_1.length c1_1,.slice A1_2 l1_2.length c1_2]) (t:=46) ?hr ?_;(case hd=>rfl);(case hg=>rfl);(case hr=>first|(go_simp;done)|(go_simp;rfl));intro gb310 hg w5 hbox hb;have n0_:=Aside0.mk (blk_below (g:=gb309) (o:=.cells #[.bool a0_0,.slice A0_1 l0_1.length c0_1,.slice A0_2 l0_2.length c0_2] 46 (0,0)) (by (with_reducible repeat (first|refine blk_drewN ?_ _|refine blk_drew ?_|refine blk_alloc ?_ _));exact BK309.out) hb);have n1_:=Aside0.mk (below_step (by repeat (first|(with_reducible first|exact HB.out|apply below_alloc|apply pw_below_drewN|apply below_drew1|refine below_set ?_ GE309.out)|exact HB.out)) hb);have n2_:=Aside0.mk (hbox);have n3_:=Aside0.mk ((by rw [hg];exact (below_size (by repeat (first|(with_reducible first|exact HB.out|apply below_alloc|apply pw_below_drewN|apply below_drew1|refine below_set ?_ GE309.out)|exact HB.out))):w.heap.size≤gb310));have n4_:=Aside0.mk ((by rw [hg];exact (below_size (by repeat (first|(with_reducible first|exact HB.out|apply below_alloc|apply pw_below_drewN|apply below_drew1|refine below_set ?_ GE309.out)|exact HB.out))):w.heap.size≤gb310));have n5_:=Aside0.mk ((by rw [hg];exact Nat.ne_of_lt (blk_lt (g:=gb309) (o:=.cells #[.bool a0_0,.slice A0_1 l0_1.length c0_1,.slice A0_2 l0_2.length c0_2] 46 (0,0)) (by (with_reducible repeat (first|refine blk_drewN ?_ _|refine blk_drew ?_|refine blk_alloc ?_ _));exact BK309.out)):gb309 ≠ gb310));have n6_:=Aside0.mk ((by rw [hg];exact Nat.ne_of_gt (blk_lt (g:=gb309) (o:=.cells #[.bool a0_0,.slice A0_1 l0_1.length c0_1,.slice A0_2 l0_2.length c0_2] 46 (0,0)) (by (with_reducible repeat (first|refine blk_drewN ?_ _|refine blk_drew ?_|refine blk_alloc ?_ _));exact BK309.out)):gb310 ≠ gb309));clear BK309;clear HB;have BK309:=n0_;have HB:=n1_;have BK310:=n2_;have GW310:=n3_;have GE310:=n4_;have NB309_310:=n5_;have NB310_309:=n6_;clear n0_ n1_ n2_ n3_ n4_ n5_ n6_;clear hb hbox hg));go_upto_region 1 with (first|((with_reducible refine gate_dst (N:=2) rfl ?_);(try (refine gate_guard (by rfl) ?_;dsimp only));refine box_event ?hg (N:=2) ?hd (cs:=#[.bool a0_0,.slice A0_1 l0_1.length c0_1,.slice A0_2 l0_2.length c0_2]) (t:=46) ?hr ?_;(case hd=>rfl);(case hg=>rfl);(case hr=>first|(go_simp;done)|(go_simp;rfl));intro gb309 hg w4 hbox hb;have n0_:=Aside0.mk (below_step (by repeat (first|(with_reducible first|exact HB.out|apply below_alloc|apply pw_below_drewN|apply below_drew1)|exact HB.out)) hb);have n1_:=Aside0.mk (hbox);have n2_:=Aside0.mk ((by rw [hg];exact (below_size (by repeat (first|(with_reducible first|exact HB.out|apply below_alloc|apply pw_below_drewN|apply below_drew1)|exact HB.out))):w.heap.size≤gb309));have n3_:=Aside0.mk ((by rw [hg];exact (below_size (by repeat (first|(with_reducible first|exact HB.out|apply below_alloc|apply pw_below_drewN|apply below_drew1)|exact HB.out))):w.heap.size≤gb309));clear HB;have HB:=n0_;have BK309:=n1_;have GW309:=n2_;have GE309:=n3_;clear n0_ n1_ n2_ n3_;clear hb hbox hg)|((with_reducible refine gate_dst (N:=3) rfl ?_);(try (refine gate_guard (by rfl) ?_;dsimp only));refine box_event ?hg (N:=3) ?hd (cs:=#[.bool a1_0,.slice A1_1 l1_1.length c1_1,.slice A1_2 l1_2.length c1_2]) (t:=46) ?hr ?_;(case hd=>rfl);(case hg=>rfl);(case hr=>first|(go_simp;done)|(go_simp;rfl));intro gb310 hg w5 hbox hb;have n0_:=Aside0.mk (blk_below (g:=gb309) (o:=.cells #[.bool a0_0,.slice A0_1 l0_1.length c0_1,.slice A0_2 l0_2.length c0_2] 46 (0,0)) (by (with_reducible repeat (first|refine blk_drewN ?_ _|refine blk_drew ?_|refine blk_alloc ?_ _));exact BK309.out) hb);have n1_:=Aside0.mk (below_step (by repeat (first|(with_reducible first|exact HB.out|apply below_alloc|apply pw_below_drewN|apply below_drew1|refine below_set ?_ GE309.out)|exact HB.out)) hb);have n2_:=Aside0.mk (hbox);have n3_:=Aside0.mk ((by rw [hg];exact (below_size (by repeat (first|(with_reducible first|exact HB.out|apply below_alloc|apply pw_below_drewN|apply below_drew1|refine below_set ?_ GE309.out)|exact HB.out))):w.heap.size≤gb310));have n4_:=Aside0.mk ((by rw [hg];exact (below_size (by repeat (first|(with_reducible first|exact HB.out|apply below_alloc|apply pw_below_drewN|apply below_drew1|refine below_set ?_ GE309.out)|exact HB.out))):w.heap.size≤gb310));have n5_:=Aside0.mk ((by rw [hg];exact Nat.ne_of_lt (blk_lt (g:=gb309) (o:=.cells #[.bool a0_0,.slice A0_1 l0_1.length c0_1,.slice A0_2 l0_2.length c0_2] 46 (0,0)) (by (with_reducible repeat (first|refine blk_drewN ?_ _|refine blk_drew ?_|refine blk_alloc ?_ _));exact BK309.out)):gb309 ≠ gb310));have n6_:=Aside0.mk ((by rw [hg];exact Nat.ne_of_gt (blk_lt (g:=gb309) (o:=.cells #[.bool a0_0,.slice A0_1 l0_1.length c0_1,.slice A0_2 l0_2.length c0_2] 46 (0,0)) (by (with_reducible repeat (first|refine blk_drewN ?_ _|refine blk_drew ?_|refine blk_alloc ?_ _));exact BK309.out)):gb310 ≠ gb309));clear BK309;clear HB;have BK309:=n0_;have HB:=n1_;have BK310:=n2_;have GW310:=n3_;have GE310:=n4_;have NB309_310:=n5_;have NB310_309:=n6_;clear n0_ n1_ n2_ n3_ n4_ n5_ n6_;clear hb hbox hg)))
 (try simp only [Act.put,List.setIfInBounds_toArray,List.set_cons_zero,List.set_cons_succ])
 go_cut [29] (fun v29 wc=>∃ (kq:Nat) (x29_2:Bool),v29=.bool x29_2∧Aside0 (laws_wState.j0 kq x29_2 a0_0 l0_1 l0_2 a1_0 l1_1 l1_2=some r)∧Aside0 (kq≤k)∧Aside0 (wc.heap[gb309]?=some (.cells #[.bool a0_0,(.slice A0_1 l0_1.length c0_1),(.slice A0_2 l0_2.length c0_2)] 46 (0,0)))∧Aside0 (wc.heap[gb310]?=some (.cells #[.bool a1_0,(.slice A1_1 l1_1.length c1_1),(.slice A1_2 l1_2.length c1_2)] 46 (0,0)))∧Aside0 (Below w.heap.size w wc))
 case first =>
  have H:=HC3.out
  clear HC3
  by_cases c6:(a0_0 != a1_0)=true
  ·rw [if_pos c6] at H
   have c6b0:(a0_0 != a1_0)=true:=c6
   (try (have c6b1:decide (a0_0=a1_0)=false:=by simpa using c6))
   (try (have c6b2:(a0_0==a1_0)=false:=by simpa using c6))
   (try (have c6b3:¬ (a0_0=a1_0):=by simpa using c6))
   clear c6
   (first|rw [c6b0]|(simp only [i64_w,i32_w];rw [c6b0])|skip)
   have H':=Aside0.mk H
   clear H
   have hnb7:=NB309_310.out
   have hnc7:=NB310_309.out
   have hcz8_0:w5.cell? ⟨gb309,0,none⟩=some (.bool a0_0):=(blk_cell BK309.out 0).trans rfl
   have hcz8_1:w5.cell? ⟨gb309,1,none⟩=some (.slice A0_1 l0_1.length c0_1):=(blk_cell BK309.out 1).trans rfl
   have hcz8_2:w5.cell? ⟨gb309,2,none⟩=some (.slice A0_2 l0_2.length c0_2):=(blk_cell BK309.out 2).trans rfl
   have hfz8_0:=blk_frozen BK309.out 0
   have hfz8_1:=blk_frozen BK309.out 1
   have hfz8_2:=blk_frozen BK309.out 2
   have hcz9_0:w5.cell? ⟨gb310,0,none⟩=some (.bool a1_0):=(blk_cell BK310.out 0).trans rfl
   have hcz9_1:w5.cell? ⟨gb310,1,none⟩=some (.slice A1_1 l1_1.length c1_1):=(blk_cell BK310.out 1).trans rfl
   have hcz9_2:w5.cell? ⟨gb310,2,none⟩=some (.slice A1_2 l1_2.length c1_2):=(blk_cell BK310.out 2).trans rfl
   have hfz9_0:=blk_frozen BK310.out 0
   have hfz9_1:=blk_frozen BK310.out 1
   have hfz9_2:=blk_frozen BK310.out 2
   go_wp2
   repeat (go_quiet (fail);try go_wp2)
   go_meet
   case rel=>exact ⟨_,(true),(by first|rfl|(simp;done)|(simp [*];done)),H',⟨by first|omega|exact Nat.le_refl _⟩,⟨by (with_reducible repeat (first|refine blk_drewN ?_ _|refine blk_drew ?_|refine blk_alloc ?_ _));exact BK309.out⟩,⟨by (with_reducible repeat (first|refine blk_drewN ?_ _|refine blk_drew ?_|refine blk_alloc ?_ _));exact BK310.out⟩,⟨by repeat (first|(with_reducible first|exact HB.out|apply below_alloc|apply pw_below_drewN|apply below_drew1|refine below_set ?_ GE309.out|refine below_set ?_ GE310.out)|exact HB.out)⟩⟩
  rw [if_neg c6] at H
  have c6b0:(a0_0 != a1_0)=false:=by simpa using c6
  (try (have c6b1:decide (a0_0=a1_0)=true:=by simpa using c6))
  (try (have c6b2:(a0_0==a1_0)=true:=by simpa using c6))
  clear c6
  (first|rw [c6b0]|(simp only [i64_w,i32_w];rw [c6b0])|skip)
  by_cases c10:(l0_1.length:Int)=(l1_1.length:Int)
  ·rw [if_pos c10] at H
   have c10b0:((l0_1.length:Int)==(l1_1.length:Int))=true:=beq_iff_eq.mpr c10
   have c10b1:((l0_1.length:Int) != (l1_1.length:Int))=false:=bne_eq_false_iff_eq.mpr c10
   have c10b2:(l0_1.length==l1_1.length)=true:=by first|simpa using c10|(simp at c10 ⊢;omega)
   clear c10
   have H':=Aside0.mk H
   clear H
   have hnb11:=NB309_310.out
   have hnc11:=NB310_309.out
   have hcz12_0:w5.cell? ⟨gb309,0,none⟩=some (.bool a0_0):=(blk_cell BK309.out 0).trans rfl
   have hcz12_1:w5.cell? ⟨gb309,1,none⟩=some (.slice A0_1 l0_1.length c0_1):=(blk_cell BK309.out 1).trans rfl
   have hcz12_2:w5.cell? ⟨gb309,2,none⟩=some (.slice A0_2 l0_2.length c0_2):=(blk_cell BK309.out 2).trans rfl
   have hfz12_0:=blk_frozen BK309.out 0
   have hfz12_1:=blk_frozen BK309.out 1
   have hfz12_2:=blk_frozen BK309.out 2
   have hcz13_0:w5.cell? ⟨gb310,0,none⟩=some (.bool a1_0):=(blk_cell BK310.out 0).trans rfl
   have hcz13_1:w5.cell? ⟨gb310,1,none⟩=some (.slice A1_1 l1_1.length c1_1):=(blk_cell BK310.out 1).trans rfl
   have hcz13_2:w5.cell? ⟨gb310,2,none⟩=some (.slice A1_2 l1_2.length c1_2):=(blk_cell BK310.out 2).trans rfl
   have hfz13_0:=blk_frozen BK310.out 0
   have hfz13_1:=blk_frozen BK310.out 1
   have hfz13_2:=blk_frozen BK310.out 2
   go_wp2
   repeat (go_quiet (fail);try go_wp2)
   go_meet
   case rel=>exact ⟨_,(((l0_2.length:Int) != (l1_2.length:Int))),(by first|rfl|(simp;done)|(simp [*];done)),H',⟨by first|omega|exact Nat.le_refl _⟩,⟨by (with_reducible repeat (first|refine blk_drewN ?_ _|refine blk_drew ?_|refine blk_alloc ?_ _));exact BK309.out⟩,⟨by (with_reducible repeat (first|refine blk_drewN ?_ _|refine blk_drew ?_|refine blk_alloc ?_ _));exact BK310.out⟩,⟨by repeat (first|(with_reducible first|exact HB.out|apply below_alloc|apply pw_below_drewN|apply below_drew1|refine below_set ?_ GE309.out|refine below_set ?_ GE310.out)|exact HB.out)⟩⟩
  rw [if_neg c10] at H
  have c10b0:((l0_1.length:Int)==(l1_1.length:Int))=false:=beq_eq_false_iff_ne.mpr c10
  have c10b1:((l0_1.length:Int) != (l1_1.length:Int))=true:=bne_iff_ne.mpr c10
  have c10b2:(l0_1.length==l1_1.length)=false:=by first|simpa using c10|(simp at c10 ⊢;omega)
  have H':=Aside0.mk H
  clear H
  have hnb14:=NB309_310.out
  have hnc14:=NB310_309.out
  have hcz15_0:w5.cell? ⟨gb309,0,none⟩=some (.bool a0_0):=(blk_cell BK309.out 0).trans rfl
  have hcz15_1:w5.cell? ⟨gb309,1,none⟩=some (.slice A0_1 l0_1.length c0_1):=(blk_cell BK309.out 1).trans rfl
  have hcz15_2:w5.cell? ⟨gb309,2,none⟩=some (.slice A0_2 l0_2.length c0_2):=(blk_cell BK309.out 2).trans rfl
  have hfz15_0:=blk_frozen BK309.out 0
  have hfz15_1:=blk_frozen BK309.out 1
  have hfz15_2:=blk_frozen BK309.out 2
  have hcz16_0:w5.cell? ⟨gb310,0,none⟩=some (.bool a1_0):=(blk_cell BK310.out 0).trans rfl
  have hcz16_1:w5.cell? ⟨gb310,1,none⟩=some (.slice A1_1 l1_1.length c1_1):=(blk_cell BK310.out 1).trans rfl
  have hcz16_2:w5.cell? ⟨gb310,2,none⟩=some (.slice A1_2 l1_2.length c1_2):=(blk_cell BK310.out 2).trans rfl
  have hfz16_0:=blk_frozen BK310.out 0
  have hfz16_1:=blk_frozen BK310.out 1
  have hfz16_2:=blk_frozen BK310.out 2
  go_wp2
  repeat (go_quiet (fail);try go_wp2)
  go_meet
  case rel=>exact ⟨_,(true),(by first|rfl|(simp;done)|(simp [*];done)),H',⟨by first|omega|exact Nat.le_refl _⟩,⟨by (with_reducible repeat (first|refine blk_drewN ?_ _|refine blk_drew ?_|refine blk_alloc ?_ _));exact BK309.out⟩,⟨by (with_reducible repeat (first|refine blk_drewN ?_ _|refine blk_drew ?_|refine blk_alloc ?_ _));exact BK310.out⟩,⟨by repeat (first|(with_reducible first|exact HB.out|apply below_alloc|apply pw_below_drewN|apply below_drew1|refine below_set ?_ GE309.out|refine below_set ?_ GE310.out)|exact HB.out)⟩⟩
 case rest =>
  clear HC3
  try clear c1
  try clear p2
  try clear c3
  try clear c6
  try clear c6b0
  try clear c6b1
  try clear c6b2
  try clear c7
  try clear c10
  try clear c10b0
  try clear c10b1
  try clear c10b2
  try clear c11
  try clear c14
  try clear hcz12_0
  try clear hcz12_1
  try clear hcz12_2
  try clear hcz13_0
  try clear hcz13_1
  try clear hcz13_2
  try clear hcz15_0
  try clear hcz15_1
  try clear hcz15_2
  try clear hcz16_0
  try clear hcz16_1
  try clear hcz16_2
  try clear hcz8_0
  try clear hcz8_1
  try clear hcz8_2
  try clear hcz9_0
  try clear hcz9_1
  try clear hcz9_2
  try clear hfz12_0
  try clear hfz12_1
  try clear hfz12_2
  try clear hfz13_0
  try clear hfz13_1
  try clear hfz13_2
  try clear hfz15_0
  try clear hfz15_1
  try clear hfz15_2
  try clear hfz16_0
  try clear hfz16_1
  try clear hfz16_2
  try clear hfz8_0
  try clear hfz8_1
  try clear hfz8_2
  try clear hfz9_0
  try clear hfz9_1
  try clear hfz9_2
  obtain ⟨kq,x29_2,rfl,HA,HJ2,BK309,BK310,HB⟩:=hcut
  cases kq with
  | zero=>exact absurd HA.out (by simp [laws_wState.j0])
  | succ kj2 =>
   have H:=HA.out
   clear HA
   simp only [laws_wState.j0] at H
   by_cases c17:x29_2=true
   ·subst c17
    have H1:(some false)=some r:=by rw [if_pos rfl] at H;exact H
    clear H
    have H:=H1
    clear H1
    obtain rfl:=Option.some.inj H
    go_wp2
    repeat (go_quiet (fail);try go_wp2)
    go_ret
    exact ⟨by first|rfl|(simp [errW_none,errW_some] <;> rfl)|(simp [*,errW_none,errW_some] <;> rfl),by repeat (first|(with_reducible first|exact HB.out|apply below_alloc|apply pw_below_drewN|apply below_drew1|refine below_set ?_ GE309.out|refine below_set ?_ GE310.out)|exact HB.out)⟩
   replace c17:=Bool.eq_false_iff.mpr c17
   subst c17
   have H1:(laws_wState.l0 kj2 (l0_1.length:Int) 0 a0_0 l0_1 l0_2 a1_0 l1_1 l1_2)=some r:=by rw [if_neg (show ¬ (false=true) by decide)] at H;exact H
   clear H
   have H:=H1
   clear H1
   have H':=Aside0.mk H
   clear H
   have hnb18:=NB309_310.out
   have hnc18:=NB310_309.out
   have hcz19_0:wc.cell? ⟨gb309,0,none⟩=some (.bool a0_0):=(blk_cell BK309.out 0).trans rfl
   have hcz19_1:wc.cell? ⟨gb309,1,none⟩=some (.slice A0_1 l0_1.length c0_1):=(blk_cell BK309.out 1).trans rfl
   have hcz19_2:wc.cell? ⟨gb309,2,none⟩=some (.slice A0_2 l0_2.length c0_2):=(blk_cell BK309.out 2).trans rfl
   have hfz19_0:=blk_frozen BK309.out 0
   have hfz19_1:=blk_frozen BK309.out 1
   have hfz19_2:=blk_frozen BK309.out 2
   go_wp2
   repeat (go_quiet (fail);try go_wp2)
   go_loopg [33] kj2 (fun kq v33 w'=>∃ (x33_2:Int),v33=.int .i64 x33_2∧Aside0 (laws_wState.l0 kq (l0_1.length:Int) x33_2 a0_0 l0_1 l0_2 a1_0 l1_1 l1_2=some r)∧Aside0 (kq≤kj2)∧Aside0 (w'.heap[gb309]?=some (.cells #[.bool a0_0,(.slice A0_1 l0_1.length c0_1),(.slice A0_2 l0_2.length c0_2)] 46 (0,0)))∧Aside0 (w'.heap[gb310]?=some (.cells #[.bool a1_0,(.slice A1_1 l1_1.length c1_1),(.slice A1_2 l1_2.length c1_2)] 46 (0,0)))∧Aside0 (Below w.heap.size w w'))
   case atStart=>exact ⟨(0),(by first|rfl|(simp;done)|(simp [*];done)),H',⟨Nat.le_refl _⟩,⟨by (with_reducible repeat (first|refine blk_drewN ?_ _|refine blk_drew ?_|refine blk_alloc ?_ _));exact BK309.out⟩,⟨by (with_reducible repeat (first|refine blk_drewN ?_ _|refine blk_drew ?_|refine blk_alloc ?_ _));exact BK310.out⟩,⟨by repeat (first|(with_reducible first|exact HB.out|apply below_alloc|apply pw_below_drewN|apply below_drew1|refine below_set ?_ GE309.out|refine below_set ?_ GE310.out)|exact HB.out)⟩⟩
   case round =>
    clear H'
    try clear c1
    try clear p2
    try clear c3
    try clear c6
    try clear c6b0
    try clear c6b1
    try clear c6b2
    try clear c7
    try clear c10
    try clear c10b0
    try clear c10b1
    try clear c10b2
    try clear c11
    try clear c14
    try clear c17
    try clear c18
    try clear hcz12_0
    try clear hcz12_1
    try clear hcz12_2
    try clear hcz13_0
    try clear hcz13_1
    try clear hcz13_2
    try clear hcz15_0
    try clear hcz15_1
    try clear hcz15_2
    try clear hcz16_0
    try clear hcz16_1
    try clear hcz16_2
    try clear hcz19_0
    try clear hcz19_1
    try clear hcz19_2
    try clear hcz8_0
    try clear hcz8_1
    try clear hcz8_2
    try clear hcz9_0
    try clear hcz9_1
    try clear hcz9_2
    try clear hfz12_0
    try clear hfz12_1
    try clear hfz12_2
    try clear hfz13_0
    try clear hfz13_1
    try clear hfz13_2
    try clear hfz15_0
    try clear hfz15_1
    try clear hfz15_2
    try clear hfz16_0
    try clear hfz16_1
    try clear hfz16_2
    try clear hfz19_0
    try clear hfz19_1
    try clear hfz19_2
    try clear hfz8_0
    try clear hfz8_1
    try clear hfz8_2
    try clear hfz9_0
    try clear hfz9_1
    try clear hfz9_2
    try clear p2
    obtain ⟨x33_2,rfl,HA,HK2,BK309,BK310,HB⟩:=hrel
    cases gk with
    | zero=>exact absurd HA.out (by simp [laws_wState.l0])
    | succ k2 =>
     have H:=HA.out
     clear HA
     simp only [laws_wState.l0] at H
     by_cases c20:x33_2<(l0_1.length:Int)
     ·rw [if_pos c20] at H
      have c20b0:decide (x33_2<(l0_1.length:Int))=true:=decide_eq_true c20
      clear c20
      by_cases c21:0≤x33_2
      ·rw [if_pos c21] at H
       have c21b0:decide (0≤x33_2)=true:=decide_eq_true c21
       clear c21
       by_cases c22:x33_2<(l0_1.length:Int)
       ·rw [if_pos c22] at H
        have c22b0:decide (x33_2<(l0_1.length:Int))=true:=decide_eq_true c22
        clear c22
        by_cases c23:x33_2<(l1_1.length:Int)
        ·rw [if_pos c23] at H
         have c23b0:decide (x33_2<(l1_1.length:Int))=true:=decide_eq_true c23
         clear c23
         by_cases c24:(!(((rd_T50 l0_1 x33_2).f0)==((rd_T50 l1_1 x33_2).f0)) || (!(((rd_T50 l0_1 x33_2).f1)==((rd_T50 l1_1 x33_2).f1)) || (!(((rd_T50 l0_1 x33_2).f2)==((rd_T50 l1_1 x33_2).f2)) || (!(((rd_T50 l0_1 x33_2).f3)==((rd_T50 l1_1 x33_2).f3)) || (!(((rd_T50 l0_1 x33_2).f4)==((rd_T50 l1_1 x33_2).f4)))))))=true
         ·rw [if_pos c24] at H
          have c24b0:(!(((rd_T50 l0_1 x33_2).f0)==((rd_T50 l1_1 x33_2).f0)) || (!(((rd_T50 l0_1 x33_2).f1)==((rd_T50 l1_1 x33_2).f1)) || (!(((rd_T50 l0_1 x33_2).f2)==((rd_T50 l1_1 x33_2).f2)) || (!(((rd_T50 l0_1 x33_2).f3)==((rd_T50 l1_1 x33_2).f3)) || (!(((rd_T50 l0_1 x33_2).f4)==((rd_T50 l1_1 x33_2).f4)))))))=true:=c24
          clear c24
          obtain rfl:=Option.some.inj H
          have hnb25:=NB309_310.out
          have hnc25:=NB310_309.out
          have hcz26_0:wr.cell? ⟨gb309,0,none⟩=some (.bool a0_0):=(blk_cell BK309.out 0).trans rfl
          have hcz26_1:wr.cell? ⟨gb309,1,none⟩=some (.slice A0_1 l0_1.length c0_1):=(blk_cell BK309.out 1).trans rfl
          have hcz26_2:wr.cell? ⟨gb309,2,none⟩=some (.slice A0_2 l0_2.length c0_2):=(blk_cell BK309.out 2).trans rfl
          have hfz26_0:=blk_frozen BK309.out 0
          have hfz26_1:=blk_frozen BK309.out 1
          have hfz26_2:=blk_frozen BK309.out 2
          have p311:0≤(x33_2:Int):=of_decide_eq_true (by first|(with_reducible assumption)|assumption)
          have q311:x33_2<(l0_1.length:Int):=of_decide_eq_true (by first|(with_reducible assumption)|assumption)
          obtain ⟨ad311,e311,hx311_0,hx311_1,hx311_2,hx311_3,hx311_4⟩:=at_T50 HR0_1.out x33_2 p311 q311
          cases e311
          replace hx311_0:=(HB.out.cell (World.block_lt_of_cell? w _ hx311_0)).trans hx311_0
          replace hx311_1:=(HB.out.cell (World.block_lt_of_cell? w _ hx311_1)).trans hx311_1
          replace hx311_2:=(HB.out.cell (World.block_lt_of_cell? w _ hx311_2)).trans hx311_2
          replace hx311_3:=(HB.out.cell (World.block_lt_of_cell? w _ hx311_3)).trans hx311_3
          replace hx311_4:=(HB.out.cell (World.block_lt_of_cell? w _ hx311_4)).trans hx311_4
          replace p311:=eq_true p311
          replace q311:=eq_true q311
          have hcz27_0:wr.cell? ⟨gb310,0,none⟩=some (.bool a1_0):=(blk_cell BK310.out 0).trans rfl
          have hcz27_1:wr.cell? ⟨gb310,1,none⟩=some (.slice A1_1 l1_1.length c1_1):=(blk_cell BK310.out 1).trans rfl
          have hcz27_2:wr.cell? ⟨gb310,2,none⟩=some (.slice A1_2 l1_2.length c1_2):=(blk_cell BK310.out 2).trans rfl
          have hfz27_0:=blk_frozen BK310.out 0
          have hfz27_1:=blk_frozen BK310.out 1
          have hfz27_2:=blk_frozen BK310.out 2
          have p312:0≤(x33_2:Int):=of_decide_eq_true (by first|(with_reducible assumption)|assumption)
          have q312:x33_2<(l1_1.length:Int):=of_decide_eq_true (by first|(with_reducible assumption)|assumption)
          obtain ⟨ad312,e312,hx312_0,hx312_1,hx312_2,hx312_3,hx312_4⟩:=at_T50 HR1_1.out x33_2 p312 q312
          cases e312
          replace hx312_0:=(HB.out.cell (World.block_lt_of_cell? w _ hx312_0)).trans hx312_0
          replace hx312_1:=(HB.out.cell (World.block_lt_of_cell? w _ hx312_1)).trans hx312_1
          replace hx312_2:=(HB.out.cell (World.block_lt_of_cell? w _ hx312_2)).trans hx312_2
          replace hx312_3:=(HB.out.cell (World.block_lt_of_cell? w _ hx312_3)).trans hx312_3
          replace hx312_4:=(HB.out.cell (World.block_lt_of_cell? w _ hx312_4)).trans hx312_4
          replace p312:=eq_true p312
          replace q312:=eq_true q312
          go_wp2
          repeat (go_quiet (fail);try go_wp2)
          go_ret
          exact ⟨by first|rfl|(simp [errW_none,errW_some] <;> rfl)|(simp [*,errW_none,errW_some] <;> rfl),by repeat (first|(with_reducible first|exact HB.out|apply below_alloc|apply pw_below_drewN|apply below_drew1|refine below_set ?_ GE309.out|refine below_set ?_ GE310.out)|exact HB.out)⟩
         rw [if_neg c24] at H
         have c24b0:(!(((rd_T50 l0_1 x33_2).f0)==((rd_T50 l1_1 x33_2).f0)) || (!(((rd_T50 l0_1 x33_2).f1)==((rd_T50 l1_1 x33_2).f1)) || (!(((rd_T50 l0_1 x33_2).f2)==((rd_T50 l1_1 x33_2).f2)) || (!(((rd_T50 l0_1 x33_2).f3)==((rd_T50 l1_1 x33_2).f3)) || (!(((rd_T50 l0_1 x33_2).f4)==((rd_T50 l1_1 x33_2).f4)))))))=false:=by simpa using c24
         clear c24
         have H':=Aside0.mk H
         clear H
         have hnb28:=NB309_310.out
         have hnc28:=NB310_309.out
         have hcz29_0:wr.cell? ⟨gb309,0,none⟩=some (.bool a0_0):=(blk_cell BK309.out 0).trans rfl
         have hcz29_1:wr.cell? ⟨gb309,1,none⟩=some (.slice A0_1 l0_1.length c0_1):=(blk_cell BK309.out 1).trans rfl
         have hcz29_2:wr.cell? ⟨gb309,2,none⟩=some (.slice A0_2 l0_2.length c0_2):=(blk_cell BK309.out 2).trans rfl
         have hfz29_0:=blk_frozen BK309.out 0
         have hfz29_1:=blk_frozen BK309.out 1
         have hfz29_2:=blk_frozen BK309.out 2
         have p311:0≤(x33_2:Int):=of_decide_eq_true (by first|(with_reducible assumption)|assumption)
         have q311:x33_2<(l0_1.length:Int):=of_decide_eq_true (by first|(with_reducible assumption)|assumption)
         obtain ⟨ad311,e311,hx311_0,hx311_1,hx311_2,hx311_3,hx311_4⟩:=at_T50 HR0_1.out x33_2 p311 q311
         cases e311
         replace hx311_0:=(HB.out.cell (World.block_lt_of_cell? w _ hx311_0)).trans hx311_0
         replace hx311_1:=(HB.out.cell (World.block_lt_of_cell? w _ hx311_1)).trans hx311_1
         replace hx311_2:=(HB.out.cell (World.block_lt_of_cell? w _ hx311_2)).trans hx311_2
         replace hx311_3:=(HB.out.cell (World.block_lt_of_cell? w _ hx311_3)).trans hx311_3
         replace hx311_4:=(HB.out.cell (World.block_lt_of_cell? w _ hx311_4)).trans hx311_4
         replace p311:=eq_true p311
         replace q311:=eq_true q311
         have hcz30_0:wr.cell? ⟨gb310,0,none⟩=some (.bool a1_0):=(blk_cell BK310.out 0).trans rfl
         have hcz30_1:wr.cell? ⟨gb310,1,none⟩=some (.slice A1_1 l1_1.length c1_1):=(blk_cell BK310.out 1).trans rfl
         have hcz30_2:wr.cell? ⟨gb310,2,none⟩=some (.slice A1_2 l1_2.length c1_2):=(blk_cell BK310.out 2).trans rfl
         have hfz30_0:=blk_frozen BK310.out 0
         have hfz30_1:=blk_frozen BK310.out 1
         have hfz30_2:=blk_frozen BK310.out 2
         have p312:0≤(x33_2:Int):=of_decide_eq_true (by first|(with_reducible assumption)|assumption)
         have q312:x33_2<(l1_1.length:Int):=of_decide_eq_true (by first|(with_reducible assumption)|assumption)
         obtain ⟨ad312,e312,hx312_0,hx312_1,hx312_2,hx312_3,hx312_4⟩:=at_T50 HR1_1.out x33_2 p312 q312
         cases e312
         replace hx312_0:=(HB.out.cell (World.block_lt_of_cell? w _ hx312_0)).trans hx312_0
         replace hx312_1:=(HB.out.cell (World.block_lt_of_cell? w _ hx312_1)).trans hx312_1
         replace hx312_2:=(HB.out.cell (World.block_lt_of_cell? w _ hx312_2)).trans hx312_2
         replace hx312_3:=(HB.out.cell (World.block_lt_of_cell? w _ hx312_3)).trans hx312_3
         replace hx312_4:=(HB.out.cell (World.block_lt_of_cell? w _ hx312_4)).trans hx312_4
         replace p312:=eq_true p312
         replace q312:=eq_true q312
         go_wp2
         repeat (go_quiet (fail);try go_wp2)
         go_roundg k2
         case measure=>have:=HJ2.out;have:=HK2.out;omega
         case rel=>exact ⟨(wrap64 (x33_2+1)),(by first|rfl|(simp;done)|(simp [*];done)),H',⟨by have:=HJ2.out;have:=HK2.out;omega⟩,⟨by (with_reducible repeat (first|refine blk_drewN ?_ _|refine blk_drew ?_|refine blk_alloc ?_ _));exact BK309.out⟩,⟨by (with_reducible repeat (first|refine blk_drewN ?_ _|refine blk_drew ?_|refine blk_alloc ?_ _));exact BK310.out⟩,⟨by repeat (first|(with_reducible first|exact HB.out|apply below_alloc|apply pw_below_drewN|apply below_drew1|refine below_set ?_ GE309.out|refine below_set ?_ GE310.out)|exact HB.out)⟩⟩
        rw [if_neg c23] at H
        exact absurd H (by simp)
       rw [if_neg c22] at H
       exact absurd H (by simp)
      rw [if_neg c21] at H
      exact absurd H (by simp)
     rw [if_neg c20] at H
     have c20b0:decide (x33_2<(l0_1.length:Int))=false:=decide_eq_false c20
     clear c20
     have H':=Aside0.mk H
     clear H
     have hnb31:=NB309_310.out
     have hnc31:=NB310_309.out
     have hcz32_0:wr.cell? ⟨gb309,0,none⟩=some (.bool a0_0):=(blk_cell BK309.out 0).trans rfl
     have hcz32_1:wr.cell? ⟨gb309,1,none⟩=some (.slice A0_1 l0_1.length c0_1):=(blk_cell BK309.out 1).trans rfl
     have hcz32_2:wr.cell? ⟨gb309,2,none⟩=some (.slice A0_2 l0_2.length c0_2):=(blk_cell BK309.out 2).trans rfl
     have hfz32_0:=blk_frozen BK309.out 0
     have hfz32_1:=blk_frozen BK309.out 1
     have hfz32_2:=blk_frozen BK309.out 2
     go_wp2
     repeat (go_quiet (fail);try go_wp2)
     go_loopg [51] k2 (fun kq v51 w'=>∃ (x51_3:Int),v51=.int .i64 x51_3∧Aside0 (laws_wState.l1 kq (l0_2.length:Int) x51_3 a0_0 l0_1 l0_2 a1_0 l1_1 l1_2=some r)∧Aside0 (kq≤k2)∧Aside0 (w'.heap[gb309]?=some (.cells #[.bool a0_0,(.slice A0_1 l0_1.length c0_1),(.slice A0_2 l0_2.length c0_2)] 46 (0,0)))∧Aside0 (w'.heap[gb310]?=some (.cells #[.bool a1_0,(.slice A1_1 l1_1.length c1_1),(.slice A1_2 l1_2.length c1_2)] 46 (0,0)))∧Aside0 (Below w.heap.size w w'))
     case atStart=>exact ⟨(0),(by first|rfl|(simp;done)|(simp [*];done)),H',⟨Nat.le_refl _⟩,⟨by (with_reducible repeat (first|refine blk_drewN ?_ _|refine blk_drew ?_|refine blk_alloc ?_ _));exact BK309.out⟩,⟨by (with_reducible repeat (first|refine blk_drewN ?_ _|refine blk_drew ?_|refine blk_alloc ?_ _));exact BK310.out⟩,⟨by repeat (first|(with_reducible first|exact HB.out|apply below_alloc|apply pw_below_drewN|apply below_drew1|refine below_set ?_ GE309.out|refine below_set ?_ GE310.out)|exact HB.out)⟩⟩
     case round =>
      clear H'
      try clear c1
      try clear c2
      try clear p2
      try clear c3
      try clear p3
      try clear q3
      try clear hx3
      try clear c6
      try clear c6b0
      try clear c6b1
      try clear c6b2
      try clear p6
      try clear c7
      try clear c10
      try clear c10b0
      try clear c10b1
      try clear c10b2
      try clear c11
      try clear c14
      try clear c17
      try clear c18
      try clear c20
      try clear c20b0
      try clear c21
      try clear c21b0
      try clear c22
      try clear c22b0
      try clear c23
      try clear c23b0
      try clear c24
      try clear c24b0
      try clear c25
      try clear c28
      try clear c31
      try clear p31
      try clear q31
      try clear hx31
      try clear hcz12_0
      try clear hcz12_1
      try clear hcz12_2
      try clear hcz13_0
      try clear hcz13_1
      try clear hcz13_2
      try clear hcz15_0
      try clear hcz15_1
      try clear hcz15_2
      try clear hcz16_0
      try clear hcz16_1
      try clear hcz16_2
      try clear hcz19_0
      try clear hcz19_1
      try clear hcz19_2
      try clear hcz26_0
      try clear hcz26_1
      try clear hcz26_2
      try clear hcz27_0
      try clear hcz27_1
      try clear hcz27_2
      try clear hcz29_0
      try clear hcz29_1
      try clear hcz29_2
      try clear hcz30_0
      try clear hcz30_1
      try clear hcz30_2
      try clear hcz32_0
      try clear hcz32_1
      try clear hcz32_2
      try clear hcz8_0
      try clear hcz8_1
      try clear hcz8_2
      try clear hcz9_0
      try clear hcz9_1
      try clear hcz9_2
      try clear hfz12_0
      try clear hfz12_1
      try clear hfz12_2
      try clear hfz13_0
      try clear hfz13_1
      try clear hfz13_2
      try clear hfz15_0
      try clear hfz15_1
      try clear hfz15_2
      try clear hfz16_0
      try clear hfz16_1
      try clear hfz16_2
      try clear hfz19_0
      try clear hfz19_1
      try clear hfz19_2
      try clear hfz26_0
      try clear hfz26_1
      try clear hfz26_2
      try clear hfz27_0
      try clear hfz27_1
      try clear hfz27_2
      try clear hfz29_0
      try clear hfz29_1
      try clear hfz29_2
      try clear hfz30_0
      try clear hfz30_1
      try clear hfz30_2
      try clear hfz32_0
      try clear hfz32_1
      try clear hfz32_2
      try clear hfz8_0
      try clear hfz8_1
      try clear hfz8_2
      try clear hfz9_0
      try clear hfz9_1
      try clear hfz9_2
      try clear hx311_0
      try clear hx311_1
      try clear hx311_2
      try clear hx311_3
      try clear hx311_4
      try clear hx312_0
      try clear hx312_1
      try clear hx312_2
      try clear hx312_3
      try clear hx312_4
      try clear p2
      try clear p311
      try clear p312
      try clear q311
      try clear q312
      obtain ⟨x51_3,rfl,HA,HK3,BK309,BK310,HB⟩:=hrel
      cases gk with
      | zero=>exact absurd HA.out (by simp [laws_wState.l1])
      | succ k3 =>
       have H:=HA.out
       clear HA
       simp only [laws_wState.l1] at H
       by_cases c33:x51_3<(l0_2.length:Int)
       ·rw [if_pos c33] at H
        have c33b0:decide (x51_3<(l0_2.length:Int))=true:=decide_eq_true c33
        clear c33
        by_cases c34:0≤x51_3
        ·rw [if_pos c34] at H
         have c34b0:decide (0≤x51_3)=true:=decide_eq_true c34
         clear c34
         by_cases c35:x51_3<(l0_2.length:Int)
         ·rw [if_pos c35] at H
          have c35b0:decide (x51_3<(l0_2.length:Int))=true:=decide_eq_true c35
          clear c35
          by_cases c36:x51_3<(l1_2.length:Int)
          ·rw [if_pos c36] at H
           have c36b0:decide (x51_3<(l1_2.length:Int))=true:=decide_eq_true c36
           clear c36
           by_cases c37:((rdOf false l0_2 x51_3) != (rdOf false l1_2 x51_3))=true
           ·rw [if_pos c37] at H
            have c37b0:((rdOf false l0_2 x51_3) != (rdOf false l1_2 x51_3))=true:=c37
            (try (have c37b1:decide ((rdOf false l0_2 x51_3)=(rdOf false l1_2 x51_3))=false:=by simpa using c37))
            (try (have c37b2:((rdOf false l0_2 x51_3)==(rdOf false l1_2 x51_3))=false:=by simpa using c37))
            (try (have c37b3:¬ ((rdOf false l0_2 x51_3)=(rdOf false l1_2 x51_3)):=by simpa using c37))
            clear c37
            obtain rfl:=Option.some.inj H
            have hnb38:=NB309_310.out
            have hnc38:=NB310_309.out
            have hcz39_0:wr.cell? ⟨gb309,0,none⟩=some (.bool a0_0):=(blk_cell BK309.out 0).trans rfl
            have hcz39_1:wr.cell? ⟨gb309,1,none⟩=some (.slice A0_1 l0_1.length c0_1):=(blk_cell BK309.out 1).trans rfl
            have hcz39_2:wr.cell? ⟨gb309,2,none⟩=some (.slice A0_2 l0_2.length c0_2):=(blk_cell BK309.out 2).trans rfl
            have hfz39_0:=blk_frozen BK309.out 0
            have hfz39_1:=blk_frozen BK309.out 1
            have hfz39_2:=blk_frozen BK309.out 2
            have p313:0≤(x51_3:Int):=of_decide_eq_true (by first|(with_reducible assumption)|assumption)
            have q313:x51_3<(l0_2.length:Int):=of_decide_eq_true (by first|(with_reducible assumption)|assumption)
            obtain ⟨ad313,e313,hx313_0⟩:=Kd.at_bool HR0_2.out x51_3 p313 q313
            cases e313
            replace hx313_0:=(HB.out.cell (World.block_lt_of_cell? w _ hx313_0)).trans hx313_0
            replace p313:=eq_true p313
            replace q313:=eq_true q313
            have hcz40_0:wr.cell? ⟨gb310,0,none⟩=some (.bool a1_0):=(blk_cell BK310.out 0).trans rfl
            have hcz40_1:wr.cell? ⟨gb310,1,none⟩=some (.slice A1_1 l1_1.length c1_1):=(blk_cell BK310.out 1).trans rfl
            have hcz40_2:wr.cell? ⟨gb310,2,none⟩=some (.slice A1_2 l1_2.length c1_2):=(blk_cell BK310.out 2).trans rfl
            have hfz40_0:=blk_frozen BK310.out 0
            have hfz40_1:=blk_frozen BK310.out 1
            have hfz40_2:=blk_frozen BK310.out 2
            have p314:0≤(x51_3:Int):=of_decide_eq_true (by first|(with_reducible assumption)|assumption)
            have q314:x51_3<(l1_2.length:Int):=of_decide_eq_true (by first|(with_reducible assumption)|assumption)
            obtain ⟨ad314,e314,hx314_0⟩:=Kd.at_bool HR1_2.out x51_3 p314 q314
            cases e314
            replace hx314_0:=(HB.out.cell (World.block_lt_of_cell? w _ hx314_0)).trans hx314_0
            replace p314:=eq_true p314
            replace q314:=eq_true q314
            go_wp2
            repeat (go_quiet (fail);try go_wp2)
            go_ret
            exact ⟨by first|rfl|(simp [errW_none,errW_some] <;> rfl)|(simp [*,errW_none,errW_some] <;> rfl),by repeat (first|(with_reducible first|exact HB.out|apply below_alloc|apply pw_below_drewN|apply below_drew1|refine below_set ?_ GE309.out|refine below_set ?_ GE310.out)|exact HB.out)⟩
           rw [if_neg c37] at H
           have c37b0:((rdOf false l0_2 x51_3) != (rdOf false l1_2 x51_3))=false:=by simpa using c37
           (try (have c37b1:decide ((rdOf false l0_2 x51_3)=(rdOf false l1_2 x51_3))=true:=by simpa using c37))
           (try (have c37b2:((rdOf false l0_2 x51_3)==(rdOf false l1_2 x51_3))=true:=by simpa using c37))
           clear c37
           have H':=Aside0.mk H
           clear H
           have hnb41:=NB309_310.out
           have hnc41:=NB310_309.out
           have hcz42_0:wr.cell? ⟨gb309,0,none⟩=some (.bool a0_0):=(blk_cell BK309.out 0).trans rfl
           have hcz42_1:wr.cell? ⟨gb309,1,none⟩=some (.slice A0_1 l0_1.length c0_1):=(blk_cell BK309.out 1).trans rfl
           have hcz42_2:wr.cell? ⟨gb309,2,none⟩=some (.slice A0_2 l0_2.length c0_2):=(blk_cell BK309.out 2).trans rfl
           have hfz42_0:=blk_frozen BK309.out 0
           have hfz42_1:=blk_frozen BK309.out 1
           have hfz42_2:=blk_frozen BK309.out 2
           have p313:0≤(x51_3:Int):=of_decide_eq_true (by first|(with_reducible assumption)|assumption)
           have q313:x51_3<(l0_2.length:Int):=of_decide_eq_true (by first|(with_reducible assumption)|assumption)
           obtain ⟨ad313,e313,hx313_0⟩:=Kd.at_bool HR0_2.out x51_3 p313 q313
           cases e313
           replace hx313_0:=(HB.out.cell (World.block_lt_of_cell? w _ hx313_0)).trans hx313_0
           replace p313:=eq_true p313
           replace q313:=eq_true q313
           have hcz43_0:wr.cell? ⟨gb310,0,none⟩=some (.bool a1_0):=(blk_cell BK310.out 0).trans rfl
           have hcz43_1:wr.cell? ⟨gb310,1,none⟩=some (.slice A1_1 l1_1.length c1_1):=(blk_cell BK310.out 1).trans rfl
           have hcz43_2:wr.cell? ⟨gb310,2,none⟩=some (.slice A1_2 l1_2.length c1_2):=(blk_cell BK310.out 2).trans rfl
           have hfz43_0:=blk_frozen BK310.out 0
           have hfz43_1:=blk_frozen BK310.out 1
           have hfz43_2:=blk_frozen BK310.out 2
           have p314:0≤(x51_3:Int):=of_decide_eq_true (by first|(with_reducible assumption)|assumption)
           have q314:x51_3<(l1_2.length:Int):=of_decide_eq_true (by first|(with_reducible assumption)|assumption)
           obtain ⟨ad314,e314,hx314_0⟩:=Kd.at_bool HR1_2.out x51_3 p314 q314
           cases e314
           replace hx314_0:=(HB.out.cell (World.block_lt_of_cell? w _ hx314_0)).trans hx314_0
           replace p314:=eq_true p314
           replace q314:=eq_true q314
           go_wp2
           repeat (go_quiet (fail);try go_wp2)
           go_roundg k3
           case measure=>have:=HJ2.out;have:=HK2.out;have:=HK3.out;omega
           case rel=>exact ⟨(wrap64 (x51_3+1)),(by first|rfl|(simp;done)|(simp [*];done)),H',⟨by have:=HJ2.out;have:=HK2.out;have:=HK3.out;omega⟩,⟨by (with_reducible repeat (first|refine blk_drewN ?_ _|refine blk_drew ?_|refine blk_alloc ?_ _));exact BK309.out⟩,⟨by (with_reducible repeat (first|refine blk_drewN ?_ _|refine blk_drew ?_|refine blk_alloc ?_ _));exact BK310.out⟩,⟨by repeat (first|(with_reducible first|exact HB.out|apply below_alloc|apply pw_below_drewN|apply below_drew1|refine below_set ?_ GE309.out|refine below_set ?_ GE310.out)|exact HB.out)⟩⟩
          rw [if_neg c36] at H
          exact absurd H (by simp)
         rw [if_neg c35] at H
         exact absurd H (by simp)
        rw [if_neg c34] at H
        exact absurd H (by simp)
       rw [if_neg c33] at H
       have c33b0:decide (x51_3<(l0_2.length:Int))=false:=decide_eq_false c33
       clear c33
       obtain rfl:=Option.some.inj H
       go_wp2
       repeat (go_quiet (fail);try go_wp2)
       go_ret
       exact ⟨by first|rfl|(simp [errW_none,errW_some] <;> rfl)|(simp [*,errW_none,errW_some] <;> rfl),by repeat (first|(with_reducible first|exact HB.out|apply below_alloc|apply pw_below_drewN|apply below_drew1|refine below_set ?_ GE309.out|refine below_set ?_ GE310.out)|exact HB.out)⟩
end Go.Proofs.Ytpdnabhpkdchjaa.P
namespace Go.Proofs.Ytpdnabhpkdchjaa.P
open Go.RowKit Go.Proofs.YtpdnabhpkdchjaaW.PrintWords Go.Proofs.YtpdnabhpkdchjaaW.PrintLast Go.Proofs.YtpdnabhpkdchjaaW.PrintMore
attribute [local go_sem] max2_int min2_int max_two min_two max_three min_three max_four min_four
set_option linter.unusedVariables false
set_option linter.unusedSimpArgs false
def laws_wDone.l0:Nat→List (S48)→List (S48)→Int→Int→Option (Bool)
 | 0,_,_,_,_=>none
 | k+1,x0,x1,x12,x13=>if x13<x12 then (if 0≤x13 then (if x13<(x0.length:Int) then (if x13<(x1.length:Int) then (if ((rd_T48 x0 x13).f0)=((rd_T48 x1 x13).f0) then ((laws_wState.f k ((rd_T48 x0 x13).f1.f0) ((rd_T48 x0 x13).f1.f1) ((rd_T48 x0 x13).f1.f2) ((rd_T48 x1 x13).f1.f0) ((rd_T48 x1 x13).f1.f1) ((rd_T48 x1 x13).f1.f2)).bind fun t319=>(if t319=true then (laws_wDone.l0 k x0 x1 x12 (wrap64 (x13+1))) else (some false))) else (some false)) else (none)) else (none)) else (none)) else (some true)
def laws_wDone.f (k:Nat) (l0:List (S48)) (l1:List (S48)):Option (Bool):=if (l0.length:Int)=(l1.length:Int) then (laws_wDone.l0 k l0 l1 (l0.length:Int) 0) else (some false)
def laws_wDone.T6:Bool × List (List Nat × List Nat):=(true,[([],[]),([],[]),([0,1],[0,1]),([2],[2]),([3],[3]),([],[]),([],[]),([5,6],[5,6]),([7],[7]),([8],[8]),([4,9],[4,9]),([10],[10]),([11],[11]),([11],[11]),([12,13,11],[11,12,13]),([14,11],[11,14]),([15,11],[11,15]),([11],[11]),([11],[11]),([17,18,11],[11,17,18]),([19,11],[11,19]),([20,11],[11,20]),([16,21,11,11],[11,16,21]),([22,11],[11,22]),([11,23],[11,23])])
def laws_wDone.B6:List Nat:=[0,0,3,7,15,0,0,96,224,480,1023,2047,4095,4095,16383,32767,65535,4095,4095,397311,921599,1970175,4194303,8388607,16777215]
theorem laws_wDone.tab6:rtab .any (opsOf Try.f30 6)=laws_wDone.T6:=by kernel_rfl
theorem laws_wDone.bits6:waitsOk laws_wDone.T6.2 laws_wDone.B6=true:=by kernel_rfl
set_option maxHeartbeats 8000000 in
set_option maxRecDepth 100000 in
theorem laws_wDone.calls (k:Nat) (A0:Option Addr) (c0:Nat) (l0:List (S48)) (A1:Option Addr) (c1:Nat) (l1:List (S48)) (r:Bool) (w:World) (hr0:Kd.C k48 w A0 l0.length l0) (hc0:l0.length≤c0) (hr1:Kd.C k48 w A1 l1.length l1) (hc1:l1.length≤c1) (h:laws_wDone.f k l0 l1=some r) :
  Calls Try.prog 30 #[.slice A0 l0.length c0,.slice A1 l1.length c1] w fun e w'=>e=.returned (.bool r)∧Below w.heap.size w w':=by
 have hu46:=Try.underlying46
 have HR0:=Aside0.mk hr0
 have HC0:=Aside0.mk hc0
 clear hr0 hc0
 have HR1:=Aside0.mk hr1
 have HC1:=Aside0.mk hc1
 clear hr1 hc1
 have HB:=Aside0.mk (Below.refl w.heap.size w)
 have H:(if (l0.length:Int)=(l1.length:Int) then (laws_wDone.l0 k l0 l1 (l0.length:Int) 0) else (some false))=some r:=h
 clear h
 by_cases c3:(l0.length:Int)=(l1.length:Int)
 ·rw [if_pos c3] at H
  have c3b0:((l0.length:Int)==(l1.length:Int))=true:=beq_iff_eq.mpr c3
  have c3b1:((l0.length:Int) != (l1.length:Int))=false:=bne_eq_false_iff_eq.mpr c3
  have c3b2:(l0.length==l1.length)=true:=by first|simpa using c3|(simp at c3 ⊢;omega)
  clear c3
  have H':=Aside0.mk H
  clear H
  go_enter Try.func30,Try.ntmps30
  go_wp2
  go_loopg [13] k (fun kq v13 w'=>∃ (x13_1:Int),v13=.int .i64 x13_1∧Aside0 (laws_wDone.l0 kq l0 l1 (l0.length:Int) x13_1=some r)∧Aside0 (kq≤k)∧Aside0 (Below w.heap.size w w'))
  case atStart=>exact ⟨(0),(by first|rfl|(simp;done)|(simp [*];done)),H',⟨Nat.le_refl _⟩,⟨by repeat (first|(with_reducible first|exact HB.out|apply below_alloc|apply pw_below_drewN|apply below_drew1)|exact HB.out)⟩⟩
  case round =>
   clear H'
   try clear c1
   try clear p2
   try clear c3
   try clear c3b0
   try clear c3b1
   try clear c3b2
   obtain ⟨x13_1,rfl,HA,HK1,HB⟩:=hrel
   cases gk with
   | zero=>exact absurd HA.out (by simp [laws_wDone.l0])
   | succ k1 =>
    have H:=HA.out
    clear HA
    simp only [laws_wDone.l0] at H
    by_cases c4:x13_1<(l0.length:Int)
    ·rw [if_pos c4] at H
     have c4b0:decide (x13_1<(l0.length:Int))=true:=decide_eq_true c4
     clear c4
     by_cases c5:0≤x13_1
     ·rw [if_pos c5] at H
      have c5b0:decide (0≤x13_1)=true:=decide_eq_true c5
      clear c5
      by_cases c6:x13_1<(l0.length:Int)
      ·rw [if_pos c6] at H
       have c6b0:decide (x13_1<(l0.length:Int))=true:=decide_eq_true c6
       clear c6
       by_cases c7:x13_1<(l1.length:Int)
       ·rw [if_pos c7] at H
        have c7b0:decide (x13_1<(l1.length:Int))=true:=decide_eq_true c7
        clear c7
        by_cases c8:((rd_T48 l0 x13_1).f0)=((rd_T48 l1 x13_1).f0)
        ·rw [if_pos c8] at H
         have c8b0:(((rd_T48 l0 x13_1).f0)==((rd_T48 l1 x13_1).f0))=true:=beq_iff_eq.mpr c8
         have c8b1:(((rd_T48 l0 x13_1).f0) != ((rd_T48 l1 x13_1).f0))=false:=bne_eq_false_iff_eq.mpr c8
         clear c8
         replace H:=Option.bind_eq_some_iff.mp H
         obtain ⟨t319,A90,H⟩:=H
         replace H:(if t319=true then (laws_wDone.l0 k1 l0 l1 (l0.length:Int) (wrap64 (x13_1+1))) else (some false))=some r:=H
         have A9:=Aside0.mk A90
         clear A90
         by_cases c10:t319=true
         ·subst c10
          have H1:(laws_wDone.l0 k1 l0 l1 (l0.length:Int) (wrap64 (x13_1+1)))=some r:=by rw [if_pos rfl] at H;exact H
          clear H
          have H:=H1
          clear H1
          have H':=Aside0.mk H
          clear H
          try go_wp2
          have n0_:=Aside0.mk (below_drew1 HB.out)
          clear HB
          have HB:=n0_
          clear n0_
          have p315:0≤(x13_1:Int):=of_decide_eq_true (by first|(with_reducible assumption)|assumption)
          have q315:x13_1<(l0.length:Int):=of_decide_eq_true (by first|(with_reducible assumption)|assumption)
          obtain ⟨ad315,A315_2,c315_2,A315_3,c315_3,e315,hx315_0,hx315_1,hx315_2,hx315_3,hl315_2,hi315_2,hl315_3,hi315_3⟩:=at_T48 HR0.out x13_1 p315 q315
          have hw315_3:=hx315_3
          have hw315_2:=hx315_2
          have hw315_1:=hx315_1
          have hw315_0:=hx315_0
          cases e315
          replace hx315_0:=(HB.out.cell (World.block_lt_of_cell? w _ hx315_0)).trans hx315_0
          replace hx315_1:=(HB.out.cell (World.block_lt_of_cell? w _ hx315_1)).trans hx315_1
          replace hx315_2:=(HB.out.cell (World.block_lt_of_cell? w _ hx315_2)).trans hx315_2
          replace hx315_3:=(HB.out.cell (World.block_lt_of_cell? w _ hx315_3)).trans hx315_3
          have HR315_2:=Aside0.mk hi315_2
          have HC315_2:=Aside0.mk hl315_2
          clear hi315_2 hl315_2
          have HR315_3:=Aside0.mk hi315_3
          have HC315_3:=Aside0.mk hl315_3
          clear hi315_3 hl315_3
          replace p315:=eq_true p315
          replace q315:=eq_true q315
          have p316:0≤(x13_1:Int):=of_decide_eq_true (by first|(with_reducible assumption)|assumption)
          have q316:x13_1<(l1.length:Int):=of_decide_eq_true (by first|(with_reducible assumption)|assumption)
          obtain ⟨ad316,A316_2,c316_2,A316_3,c316_3,e316,hx316_0,hx316_1,hx316_2,hx316_3,hl316_2,hi316_2,hl316_3,hi316_3⟩:=at_T48 HR1.out x13_1 p316 q316
          have hw316_3:=hx316_3
          have hw316_2:=hx316_2
          have hw316_1:=hx316_1
          have hw316_0:=hx316_0
          cases e316
          replace hx316_0:=(HB.out.cell (World.block_lt_of_cell? w _ hx316_0)).trans hx316_0
          replace hx316_1:=(HB.out.cell (World.block_lt_of_cell? w _ hx316_1)).trans hx316_1
          replace hx316_2:=(HB.out.cell (World.block_lt_of_cell? w _ hx316_2)).trans hx316_2
          replace hx316_3:=(HB.out.cell (World.block_lt_of_cell? w _ hx316_3)).trans hx316_3
          have HR316_2:=Aside0.mk hi316_2
          have HC316_2:=Aside0.mk hl316_2
          clear hi316_2 hl316_2
          have HR316_3:=Aside0.mk hi316_3
          have HC316_3:=Aside0.mk hl316_3
          clear hi316_3 hl316_3
          replace p316:=eq_true p316
          replace q316:=eq_true q316
          have p317:0≤(x13_1:Int):=of_decide_eq_true (by first|(with_reducible assumption)|assumption)
          have q317:x13_1<(l0.length:Int):=of_decide_eq_true (by first|(with_reducible assumption)|assumption)
          obtain ⟨ad317,A317_2,c317_2,A317_3,c317_3,e317,hx317_0,hx317_1,hx317_2,hx317_3,hl317_2,hi317_2,hl317_3,hi317_3⟩:=at_T48 HR0.out x13_1 p317 q317
          have hw317_3:=hx317_3
          have hw317_2:=hx317_2
          have hw317_1:=hx317_1
          have hw317_0:=hx317_0
          obtain rfl:ad315=ad317:=(by injection e317)
          replace hx317_0:=(HB.out.cell (World.block_lt_of_cell? w _ hx317_0)).trans hx317_0
          replace hx317_1:=(HB.out.cell (World.block_lt_of_cell? w _ hx317_1)).trans hx317_1
          replace hx317_2:=(HB.out.cell (World.block_lt_of_cell? w _ hx317_2)).trans hx317_2
          replace hx317_3:=(HB.out.cell (World.block_lt_of_cell? w _ hx317_3)).trans hx317_3
          have HR317_2:=Aside0.mk hi317_2
          have HC317_2:=Aside0.mk hl317_2
          clear hi317_2 hl317_2
          have HR317_3:=Aside0.mk hi317_3
          have HC317_3:=Aside0.mk hl317_3
          clear hi317_3 hl317_3
          replace p317:=eq_true p317
          replace q317:=eq_true q317
          have ea_:=Option.some.inj (hx315_2.symm.trans hx317_2)
          injection ea_ with ea_ en_ ec_
          subst ea_
          subst ec_
          clear en_
          have ea_:=Option.some.inj (hx315_3.symm.trans hx317_3)
          injection ea_ with ea_ en_ ec_
          subst ea_
          subst ec_
          clear en_
          have p318:0≤(x13_1:Int):=of_decide_eq_true (by first|(with_reducible assumption)|assumption)
          have q318:x13_1<(l1.length:Int):=of_decide_eq_true (by first|(with_reducible assumption)|assumption)
          obtain ⟨ad318,A318_2,c318_2,A318_3,c318_3,e318,hx318_0,hx318_1,hx318_2,hx318_3,hl318_2,hi318_2,hl318_3,hi318_3⟩:=at_T48 HR1.out x13_1 p318 q318
          have hw318_3:=hx318_3
          have hw318_2:=hx318_2
          have hw318_1:=hx318_1
          have hw318_0:=hx318_0
          obtain rfl:ad316=ad318:=(by injection e318)
          replace hx318_0:=(HB.out.cell (World.block_lt_of_cell? w _ hx318_0)).trans hx318_0
          replace hx318_1:=(HB.out.cell (World.block_lt_of_cell? w _ hx318_1)).trans hx318_1
          replace hx318_2:=(HB.out.cell (World.block_lt_of_cell? w _ hx318_2)).trans hx318_2
          replace hx318_3:=(HB.out.cell (World.block_lt_of_cell? w _ hx318_3)).trans hx318_3
          have HR318_2:=Aside0.mk hi318_2
          have HC318_2:=Aside0.mk hl318_2
          clear hi318_2 hl318_2
          have HR318_3:=Aside0.mk hi318_3
          have HC318_3:=Aside0.mk hl318_3
          clear hi318_3 hl318_3
          replace p318:=eq_true p318
          replace q318:=eq_true q318
          have ea_:=Option.some.inj (hx316_2.symm.trans hx318_2)
          injection ea_ with ea_ en_ ec_
          subst ea_
          subst ec_
          clear en_
          have ea_:=Option.some.inj (hx316_3.symm.trans hx318_3)
          injection ea_ with ea_ en_ ec_
          subst ea_
          subst ec_
          clear en_
          refine start_ (n:=25) (S:=fun w'=>w'.cell? (ad315.add ((x13_1).toNat * 4))=some (.int .i64 ((rd_T48 l0 x13_1).f0))∧w'.cell? ⟨(ad315.add ((x13_1).toNat * 4)).block,(ad315.add ((x13_1).toNat * 4)).off+1,none⟩=some (.bool ((rd_T48 l0 x13_1).f1.f0))∧w'.cell? ⟨(ad315.add ((x13_1).toNat * 4)).block,(ad315.add ((x13_1).toNat * 4)).off+2,none⟩=some (.slice A315_2 ((rd_T48 l0 x13_1).f1.f1).length c315_2)∧w'.cell? ⟨(ad315.add ((x13_1).toNat * 4)).block,(ad315.add ((x13_1).toNat * 4)).off+3,none⟩=some (.slice A315_3 ((rd_T48 l0 x13_1).f1.f2).length c315_3)∧w'.cell? (ad316.add ((x13_1).toNat * 4))=some (.int .i64 ((rd_T48 l1 x13_1).f0))∧w'.cell? ⟨(ad316.add ((x13_1).toNat * 4)).block,(ad316.add ((x13_1).toNat * 4)).off+1,none⟩=some (.bool ((rd_T48 l1 x13_1).f1.f0))∧w'.cell? ⟨(ad316.add ((x13_1).toNat * 4)).block,(ad316.add ((x13_1).toNat * 4)).off+2,none⟩=some (.slice A316_2 ((rd_T48 l1 x13_1).f1.f1).length c316_2)∧w'.cell? ⟨(ad316.add ((x13_1).toNat * 4)).block,(ad316.add ((x13_1).toNat * 4)).off+3,none⟩=some (.slice A316_3 ((rd_T48 l1 x13_1).f1.f2).length c316_3)∧w'.cell? (ad315.add ((x13_1).toNat * 4))=some (.int .i64 ((rd_T48 l0 x13_1).f0))∧w'.cell? ⟨(ad315.add ((x13_1).toNat * 4)).block,(ad315.add ((x13_1).toNat * 4)).off+1,none⟩=some (.bool ((rd_T48 l0 x13_1).f1.f0))∧w'.cell? ⟨(ad315.add ((x13_1).toNat * 4)).block,(ad315.add ((x13_1).toNat * 4)).off+2,none⟩=some (.slice A315_2 ((rd_T48 l0 x13_1).f1.f1).length c315_2)∧w'.cell? ⟨(ad315.add ((x13_1).toNat * 4)).block,(ad315.add ((x13_1).toNat * 4)).off+3,none⟩=some (.slice A315_3 ((rd_T48 l0 x13_1).f1.f2).length c315_3)∧w'.cell? (ad316.add ((x13_1).toNat * 4))=some (.int .i64 ((rd_T48 l1 x13_1).f0))∧w'.cell? ⟨(ad316.add ((x13_1).toNat * 4)).block,(ad316.add ((x13_1).toNat * 4)).off+1,none⟩=some (.bool ((rd_T48 l1 x13_1).f1.f0))∧w'.cell? ⟨(ad316.add ((x13_1).toNat * 4)).block,(ad316.add ((x13_1).toNat * 4)).off+2,none⟩=some (.slice A316_2 ((rd_T48 l1 x13_1).f1.f1).length c316_2)∧w'.cell? ⟨(ad316.add ((x13_1).toNat * 4)).block,(ad316.add ((x13_1).toNat * 4)).off+3,none⟩=some (.slice A316_3 ((rd_T48 l1 x13_1).f1.f2).length c316_3)) (ds:=[]) #[false,false,false,false,false,false,false,false,false,false,false,false,false,false,false,false,false,false,false,false,false,false,false,false,false] (by kernel_rfl) rfl rfl ⟨((HB.out.cell (World.block_lt_of_cell? w _ hw315_0)).trans hw315_0),((HB.out.cell (World.block_lt_of_cell? w _ hw315_1)).trans hw315_1),((HB.out.cell (World.block_lt_of_cell? w _ hw315_2)).trans hw315_2),((HB.out.cell (World.block_lt_of_cell? w _ hw315_3)).trans hw315_3),((HB.out.cell (World.block_lt_of_cell? w _ hw316_0)).trans hw316_0),((HB.out.cell (World.block_lt_of_cell? w _ hw316_1)).trans hw316_1),((HB.out.cell (World.block_lt_of_cell? w _ hw316_2)).trans hw316_2),((HB.out.cell (World.block_lt_of_cell? w _ hw316_3)).trans hw316_3),((HB.out.cell (World.block_lt_of_cell? w _ hw317_0)).trans hw317_0),((HB.out.cell (World.block_lt_of_cell? w _ hw317_1)).trans hw317_1),((HB.out.cell (World.block_lt_of_cell? w _ hw317_2)).trans hw317_2),((HB.out.cell (World.block_lt_of_cell? w _ hw317_3)).trans hw317_3),((HB.out.cell (World.block_lt_of_cell? w _ hw318_0)).trans hw318_0),((HB.out.cell (World.block_lt_of_cell? w _ hw318_1)).trans hw318_1),((HB.out.cell (World.block_lt_of_cell? w _ hw318_2)).trans hw318_2),((HB.out.cell (World.block_lt_of_cell? w _ hw318_3)).trans hw318_3)⟩ (fun hHeld=>?_);refine with_tabW laws_wDone.tab6 laws_wDone.bits6 (fun HT_ HW_=>?_)
          generalize wr.drew=w11 at HB HR315_2 HR315_3 HR316_2 HR316_3 HR317_2 HR317_3 HR318_2 HR318_3 hx315_0 hx315_1 hx315_2 hx315_3 hx316_0 hx316_1 hx316_2 hx316_3 hx317_0 hx317_1 hx317_2 hx317_3 hx318_0 hx318_1 hx318_2 hx318_3 hHeld ⊢
          refine pure_ (i:=0) (N:=some 16) (v:=?_) (a':=?_) #[true,false,false,false,false,false,false,false,false,false,false,false,false,false,false,false,false,false,false,false,false,false,false,false,false] rfl rfl (any_of HT_.out (by kernel_rfl)) (fun _ _ _ h=>h) (Or.inl ⟨by rfl,?_⟩) ?_ ?_
          rotate_left
          ·intro w'
           go_simp
           with_reducible rfl
          rotate_left
          ·simp only [Act.put,List.setIfInBounds_toArray,List.set_cons_zero,List.set_cons_succ,i64_w,i32_w]
           rfl
          refine pure_ (i:=1) (N:=some 17) (v:=?_) (a':=?_) #[true,true,false,false,false,false,false,false,false,false,false,false,false,false,false,false,false,false,false,false,false,false,false,false,false] rfl rfl (any_of HT_.out (by kernel_rfl)) (fun _ _ _ h=>h) (Or.inl ⟨by rfl,?_⟩) ?_ ?_
          rotate_left
          ·intro w'
           go_simp
           with_reducible rfl
          rotate_left
          ·simp only [Act.put,List.setIfInBounds_toArray,List.set_cons_zero,List.set_cons_succ,i64_w,i32_w]
           rfl
          refine pure_ (i:=2) (N:=some 18) (v:=?_) (a':=?_) #[true,true,true,false,false,false,false,false,false,false,false,false,false,false,false,false,false,false,false,false,false,false,false,false,false] rfl rfl (any_of HT_.out (by kernel_rfl)) (fun _ _ _ h=>h) (Or.inl ⟨by rfl,?_⟩) ?_ ?_
          rotate_left
          ·intro w'
           go_simp
           with_reducible rfl
          rotate_left
          ·simp only [Act.put,List.setIfInBounds_toArray,List.set_cons_zero,List.set_cons_succ,i64_w,i32_w]
           rfl
          refine pure_ (i:=3) (N:=some 19) (v:=?_) (a':=?_) #[true,true,true,true,false,false,false,false,false,false,false,false,false,false,false,false,false,false,false,false,false,false,false,false,false] rfl rfl (any_of HT_.out (by kernel_rfl)) (fun _ _ _ h=>h) (Or.inl ⟨by rfl,?_⟩) ?_ ?_
          rotate_left
          ·intro w'
           go_simp
           with_reducible rfl
          rotate_left
          ·simp only [Act.put,List.setIfInBounds_toArray,List.set_cons_zero,List.set_cons_succ,i64_w,i32_w]
           rfl
          refine pure_ (i:=5) (N:=some 21) (v:=?_) (a':=?_) #[true,true,true,true,false,true,false,false,false,false,false,false,false,false,false,false,false,false,false,false,false,false,false,false,false] rfl rfl (any_of HT_.out (by kernel_rfl)) (fun _ _ _ h=>h) (Or.inl ⟨by rfl,?_⟩) ?_ ?_
          rotate_left
          ·intro w'
           go_simp
           with_reducible rfl
          rotate_left
          ·simp only [Act.put,List.setIfInBounds_toArray,List.set_cons_zero,List.set_cons_succ,i64_w,i32_w]
           rfl
          refine pure_ (i:=6) (N:=some 22) (v:=?_) (a':=?_) #[true,true,true,true,false,true,true,false,false,false,false,false,false,false,false,false,false,false,false,false,false,false,false,false,false] rfl rfl (any_of HT_.out (by kernel_rfl)) (fun _ _ _ h=>h) (Or.inl ⟨by rfl,?_⟩) ?_ ?_
          rotate_left
          ·intro w'
           go_simp
           with_reducible rfl
          rotate_left
          ·simp only [Act.put,List.setIfInBounds_toArray,List.set_cons_zero,List.set_cons_succ,i64_w,i32_w]
           rfl
          refine pure_ (i:=7) (N:=some 23) (v:=?_) (a':=?_) #[true,true,true,true,false,true,true,true,false,false,false,false,false,false,false,false,false,false,false,false,false,false,false,false,false] rfl rfl (any_of HT_.out (by kernel_rfl)) (fun _ _ _ h=>h) (Or.inl ⟨by rfl,?_⟩) ?_ ?_
          rotate_left
          ·intro w'
           go_simp
           with_reducible rfl
          rotate_left
          ·simp only [Act.put,List.setIfInBounds_toArray,List.set_cons_zero,List.set_cons_succ,i64_w,i32_w]
           rfl
          refine pure_ (i:=8) (N:=some 24) (v:=?_) (a':=?_) #[true,true,true,true,false,true,true,true,true,false,false,false,false,false,false,false,false,false,false,false,false,false,false,false,false] rfl rfl (any_of HT_.out (by kernel_rfl)) (fun _ _ _ h=>h) (Or.inl ⟨by rfl,?_⟩) ?_ ?_
          rotate_left
          ·intro w'
           go_simp
           with_reducible rfl
          rotate_left
          ·simp only [Act.put,List.setIfInBounds_toArray,List.set_cons_zero,List.set_cons_succ,i64_w,i32_w]
           rfl
          refine take_ (i:=4) (N:=some 20) (v:=?_) (a':=?_) #[true,true,true,true,true,true,true,true,true,false,false,false,false,false,false,false,false,false,false,false,false,false,false,false,false] rfl rfl (take_ofW HT_.out HW_.out (by kernel_rfl)) (fun _ _ _ h=>h) (Or.inl ⟨by rfl,?_⟩) hHeld ?_ ?_
          rotate_left
          ·rintro w' ⟨s0,s1,s2,s3,s4,s5,s6,s7,s8,s9,s10,s11,s12,s13,s14,s15⟩
           go_simp
           with_reducible rfl
          rotate_left
          ·simp only [Act.put,List.setIfInBounds_toArray,List.set_cons_zero,List.set_cons_succ,i64_w,i32_w]
           rfl
          refine take_ (i:=9) (N:=some 25) (v:=?_) (a':=?_) #[true,true,true,true,true,true,true,true,true,true,false,false,false,false,false,false,false,false,false,false,false,false,false,false,false] rfl rfl (take_ofW HT_.out HW_.out (by kernel_rfl)) (fun _ _ _ h=>h) (Or.inl ⟨by rfl,?_⟩) hHeld ?_ ?_
          rotate_left
          ·rintro w' ⟨s0,s1,s2,s3,s4,s5,s6,s7,s8,s9,s10,s11,s12,s13,s14,s15⟩
           go_simp
           with_reducible rfl
          rotate_left
          ·simp only [Act.put,List.setIfInBounds_toArray,List.set_cons_zero,List.set_cons_succ,i64_w,i32_w]
           rfl
          refine pure_ (i:=10) (N:=some 26) (v:=?_) (a':=?_) #[true,true,true,true,true,true,true,true,true,true,true,false,false,false,false,false,false,false,false,false,false,false,false,false,false] rfl rfl (any_of HT_.out (by kernel_rfl)) (fun _ _ _ h=>h) (Or.inl ⟨by rfl,?_⟩) ?_ ?_
          rotate_left
          ·intro w'
           go_simp
           with_reducible rfl
          rotate_left
          ·simp only [Act.put,List.setIfInBounds_toArray,List.set_cons_zero,List.set_cons_succ,i64_w,i32_w]
           rfl
          refine pure_ (i:=11) (N:=some 27) (v:=?_) (a':=?_) #[true,true,true,true,true,true,true,true,true,true,true,true,false,false,false,false,false,false,false,false,false,false,false,false,false] rfl rfl (any_of HT_.out (by kernel_rfl)) (fun _ _ _ h=>h) (Or.inl ⟨by rfl,?_⟩) ?_ ?_
          rotate_left
          ·intro w'
           go_simp
           with_reducible rfl
          rotate_left
          ·simp only [Act.put,List.setIfInBounds_toArray,List.set_cons_zero,List.set_cons_succ,i64_w,i32_w]
           rfl
          refine pure_ (i:=12) (N:=some 28) (v:=?_) (a':=?_) #[true,true,true,true,true,true,true,true,true,true,true,true,true,false,false,false,false,false,false,false,false,false,false,false,false] rfl rfl (any_of HT_.out (by kernel_rfl)) (fun _ _ _ h=>h) (Or.inl ⟨by rfl,?_⟩) ?_ ?_
          rotate_left
          ·intro w'
           go_simp
           with_reducible rfl
          rotate_left
          ·simp only [Act.put,List.setIfInBounds_toArray,List.set_cons_zero,List.set_cons_succ,i64_w,i32_w]
           rfl
          refine pure_ (i:=13) (N:=some 29) (v:=?_) (a':=?_) #[true,true,true,true,true,true,true,true,true,true,true,true,true,true,false,false,false,false,false,false,false,false,false,false,false] rfl rfl (any_of HT_.out (by kernel_rfl)) (fun _ _ _ h=>h) (Or.inl ⟨by rfl,?_⟩) ?_ ?_
          rotate_left
          ·intro w'
           go_simp
           with_reducible rfl
          rotate_left
          ·simp only [Act.put,List.setIfInBounds_toArray,List.set_cons_zero,List.set_cons_succ,i64_w,i32_w]
           rfl
          refine pure_ (i:=14) (N:=some 30) (v:=?_) (a':=?_) #[true,true,true,true,true,true,true,true,true,true,true,true,true,true,true,false,false,false,false,false,false,false,false,false,false] rfl rfl (any_of HT_.out (by kernel_rfl)) (fun _ _ _ h=>h) (Or.inl ⟨by rfl,?_⟩) ?_ ?_
          rotate_left
          ·intro w'
           go_simp
           with_reducible rfl
          rotate_left
          ·simp only [Act.put,List.setIfInBounds_toArray,List.set_cons_zero,List.set_cons_succ,i64_w,i32_w]
           rfl
          refine pure_ (i:=15) (N:=some 31) (v:=?_) (a':=?_) #[true,true,true,true,true,true,true,true,true,true,true,true,true,true,true,true,false,false,false,false,false,false,false,false,false] rfl rfl (any_of HT_.out (by kernel_rfl)) (fun _ _ _ h=>h) (Or.inl ⟨by rfl,?_⟩) ?_ ?_
          rotate_left
          ·intro w'
           go_simp
           with_reducible rfl
          rotate_left
          ·simp only [Act.put,List.setIfInBounds_toArray,List.set_cons_zero,List.set_cons_succ,i64_w,i32_w]
           rfl
          refine pure_ (i:=17) (N:=some 33) (v:=?_) (a':=?_) #[true,true,true,true,true,true,true,true,true,true,true,true,true,true,true,true,false,true,false,false,false,false,false,false,false] rfl rfl (any_of HT_.out (by kernel_rfl)) (fun _ _ _ h=>h) (Or.inl ⟨by rfl,?_⟩) ?_ ?_
          rotate_left
          ·intro w'
           go_simp
           with_reducible rfl
          rotate_left
          ·simp only [Act.put,List.setIfInBounds_toArray,List.set_cons_zero,List.set_cons_succ,i64_w,i32_w]
           rfl
          refine pure_ (i:=18) (N:=some 34) (v:=?_) (a':=?_) #[true,true,true,true,true,true,true,true,true,true,true,true,true,true,true,true,false,true,true,false,false,false,false,false,false] rfl rfl (any_of HT_.out (by kernel_rfl)) (fun _ _ _ h=>h) (Or.inl ⟨by rfl,?_⟩) ?_ ?_
          rotate_left
          ·intro w'
           go_simp
           with_reducible rfl
          rotate_left
          ·simp only [Act.put,List.setIfInBounds_toArray,List.set_cons_zero,List.set_cons_succ,i64_w,i32_w]
           rfl
          refine pure_ (i:=19) (N:=some 35) (v:=?_) (a':=?_) #[true,true,true,true,true,true,true,true,true,true,true,true,true,true,true,true,false,true,true,true,false,false,false,false,false] rfl rfl (any_of HT_.out (by kernel_rfl)) (fun _ _ _ h=>h) (Or.inl ⟨by rfl,?_⟩) ?_ ?_
          rotate_left
          ·intro w'
           go_simp
           with_reducible rfl
          rotate_left
          ·simp only [Act.put,List.setIfInBounds_toArray,List.set_cons_zero,List.set_cons_succ,i64_w,i32_w]
           rfl
          refine pure_ (i:=20) (N:=some 36) (v:=?_) (a':=?_) #[true,true,true,true,true,true,true,true,true,true,true,true,true,true,true,true,false,true,true,true,true,false,false,false,false] rfl rfl (any_of HT_.out (by kernel_rfl)) (fun _ _ _ h=>h) (Or.inl ⟨by rfl,?_⟩) ?_ ?_
          rotate_left
          ·intro w'
           go_simp
           with_reducible rfl
          rotate_left
          ·simp only [Act.put,List.setIfInBounds_toArray,List.set_cons_zero,List.set_cons_succ,i64_w,i32_w]
           rfl
          refine take_ (i:=16) (N:=some 32) (v:=?_) (a':=?_) #[true,true,true,true,true,true,true,true,true,true,true,true,true,true,true,true,true,true,true,true,true,false,false,false,false] rfl rfl (take_ofW HT_.out HW_.out (by kernel_rfl)) (fun _ _ _ h=>h) (Or.inl ⟨by rfl,?_⟩) hHeld ?_ ?_
          rotate_left
          ·rintro w' ⟨s0,s1,s2,s3,s4,s5,s6,s7,s8,s9,s10,s11,s12,s13,s14,s15⟩
           go_simp
           with_reducible rfl
          rotate_left
          ·simp only [Act.put,List.setIfInBounds_toArray,List.set_cons_zero,List.set_cons_succ,i64_w,i32_w]
           rfl
          refine take_ (i:=21) (N:=some 37) (v:=?_) (a':=?_) #[true,true,true,true,true,true,true,true,true,true,true,true,true,true,true,true,true,true,true,true,true,true,false,false,false] rfl rfl (take_ofW HT_.out HW_.out (by kernel_rfl)) (fun _ _ _ h=>h) (Or.inl ⟨by rfl,?_⟩) hHeld ?_ ?_
          rotate_left
          ·rintro w' ⟨s0,s1,s2,s3,s4,s5,s6,s7,s8,s9,s10,s11,s12,s13,s14,s15⟩
           go_simp
           with_reducible rfl
          rotate_left
          ·simp only [Act.put,List.setIfInBounds_toArray,List.set_cons_zero,List.set_cons_succ,i64_w,i32_w]
           rfl
          refine one_ (i:=22) (N:=some 38) #[true,true,true,true,true,true,true,true,true,true,true,true,true,true,true,true,true,true,true,true,true,true,true,false,false] rfl rfl (one_of HT_.out (by kernel_rfl)) (by decide) (fun K hK=>?_)
          refine goes_ Try.func33 (by kernel_rfl) rfl #[.agg #[.bool ((rd_T48 l0 x13_1).f1.f0),.slice A315_2 ((rd_T48 l0 x13_1).f1.f1).length c315_2,.slice A315_3 ((rd_T48 l0 x13_1).f1.f2).length c315_3],.agg #[.bool ((rd_T48 l1 x13_1).f1.f0),.slice A316_2 ((rd_T48 l1 x13_1).f1.f1).length c316_2,.slice A316_3 ((rd_T48 l1 x13_1).f1.f2).length c316_3]] (by rfl) rfl rfl (by (try simp only [List.map_toArray,List.map_cons,List.map_nil]);first|done|rfl|(simp only [List.length_drop,List.length_take];rfl)) ?_
          with_reducible refine (laws_wState.calls k1 ((rd_T48 l0 x13_1).f1.f0) _ _ ((rd_T48 l0 x13_1).f1.f1) _ _ ((rd_T48 l0 x13_1).f1.f2) ((rd_T48 l1 x13_1).f1.f0) _ _ ((rd_T48 l1 x13_1).f1.f1) _ _ ((rd_T48 l1 x13_1).f1.f2) true _ ?side1 ?side2 ?side3 ?side4 ?side5 ?side6 ?side7 ?side8 A9.out).mono ?_
          (case side1=>repeat (first|exact (Kd.C_below HR317_2.out HB.out)|(with_reducible refine Kd.C_alloc ?_ _)|(with_reducible refine Kd.C_drewN ?_ _)|(with_reducible refine Kd.C_drew ?_)))
          (case side2=>exact HC317_2.out)
          (case side3=>repeat (first|exact (Kd.C_below HR317_3.out HB.out)|(with_reducible refine Kd.C_alloc ?_ _)|(with_reducible refine Kd.C_drewN ?_ _)|(with_reducible refine Kd.C_drew ?_)))
          (case side4=>exact HC317_3.out)
          (case side5=>repeat (first|exact (Kd.C_below HR318_2.out HB.out)|(with_reducible refine Kd.C_alloc ?_ _)|(with_reducible refine Kd.C_drewN ?_ _)|(with_reducible refine Kd.C_drew ?_)))
          (case side6=>exact HC318_2.out)
          (case side7=>repeat (first|exact (Kd.C_below HR318_3.out HB.out)|(with_reducible refine Kd.C_alloc ?_ _)|(with_reducible refine Kd.C_drewN ?_ _)|(with_reducible refine Kd.C_drew ?_)))
          (case side8=>exact HC318_3.out)
          rintro e w12 ⟨rfl,hb⟩
          refine ⟨_,rfl,?_⟩
          have n0_:=Aside0.mk (below_step (by repeat (first|(with_reducible first|exact HB.out|apply below_alloc|apply pw_below_drewN|apply below_drew1)|exact HB.out)) hb)
          clear HB
          have HB:=n0_
          clear n0_
          (try clear hb)
          (try clear hb2)
          (try clear hk)
          (try clear hi)
          refine hK.out _ _ ⟨((HB.out.cell (World.block_lt_of_cell? w _ hw315_0)).trans hw315_0),((HB.out.cell (World.block_lt_of_cell? w _ hw315_1)).trans hw315_1),((HB.out.cell (World.block_lt_of_cell? w _ hw315_2)).trans hw315_2),((HB.out.cell (World.block_lt_of_cell? w _ hw315_3)).trans hw315_3),((HB.out.cell (World.block_lt_of_cell? w _ hw316_0)).trans hw316_0),((HB.out.cell (World.block_lt_of_cell? w _ hw316_1)).trans hw316_1),((HB.out.cell (World.block_lt_of_cell? w _ hw316_2)).trans hw316_2),((HB.out.cell (World.block_lt_of_cell? w _ hw316_3)).trans hw316_3),((HB.out.cell (World.block_lt_of_cell? w _ hw317_0)).trans hw317_0),((HB.out.cell (World.block_lt_of_cell? w _ hw317_1)).trans hw317_1),((HB.out.cell (World.block_lt_of_cell? w _ hw317_2)).trans hw317_2),((HB.out.cell (World.block_lt_of_cell? w _ hw317_3)).trans hw317_3),((HB.out.cell (World.block_lt_of_cell? w _ hw318_0)).trans hw318_0),((HB.out.cell (World.block_lt_of_cell? w _ hw318_1)).trans hw318_1),((HB.out.cell (World.block_lt_of_cell? w _ hw318_2)).trans hw318_2),((HB.out.cell (World.block_lt_of_cell? w _ hw318_3)).trans hw318_3)⟩ (fun hHeld=>?_)
          clear hK K
          refine norm_ (a':=?_) ?_ ?_
          rotate_left
          ·show Act.put _ (some 38) _=_
           simp only [Act.put,List.setIfInBounds_toArray,List.set_cons_zero,List.set_cons_succ,i64_w,i32_w]
           rfl
          refine pure_ (i:=23) (N:=some 39) (v:=?_) (a':=?_) #[true,true,true,true,true,true,true,true,true,true,true,true,true,true,true,true,true,true,true,true,true,true,true,true,false] rfl rfl (any_of HT_.out (by kernel_rfl)) (fun _ _ _ h=>h) (Or.inl ⟨by rfl,?_⟩) ?_ ?_
          rotate_left
          ·intro w'
           go_simp
           with_reducible rfl
          rotate_left
          ·simp only [Act.put,List.setIfInBounds_toArray,List.set_cons_zero,List.set_cons_succ,i64_w,i32_w]
           rfl
          refine pure_ (i:=24) (N:=some 40) (v:=?_) (a':=?_) #[true,true,true,true,true,true,true,true,true,true,true,true,true,true,true,true,true,true,true,true,true,true,true,true,true] rfl rfl (any_of HT_.out (by kernel_rfl)) (fun _ _ _ h=>h) (Or.inl ⟨by rfl,?_⟩) ?_ ?_
          rotate_left
          ·intro w'
           go_simp
           with_reducible rfl
          rotate_left
          ·simp only [Act.put,List.setIfInBounds_toArray,List.set_cons_zero,List.set_cons_succ,i64_w,i32_w]
           rfl
          refine done_ (done_of HT_.out (by kernel_rfl)) ?_
          try go_wp2
          go_roundg k1
          case measure=>have:=HK1.out;omega
          case rel=>exact ⟨(wrap64 (x13_1+1)),(by first|rfl|(simp;done)|(simp [*];done)),H',⟨by have:=HK1.out;omega⟩,⟨by repeat (first|(with_reducible first|exact HB.out|apply below_alloc|apply pw_below_drewN|apply below_drew1)|exact HB.out)⟩⟩
         replace c10:=Bool.eq_false_iff.mpr c10
         subst c10
         have H1:(some false)=some r:=by rw [if_neg (show ¬ (false=true) by decide)] at H;exact H
         clear H
         have H:=H1
         clear H1
         obtain rfl:=Option.some.inj H
         try go_wp2
         have n0_:=Aside0.mk (below_drew1 HB.out)
         clear HB
         have HB:=n0_
         clear n0_
         have p315:0≤(x13_1:Int):=of_decide_eq_true (by first|(with_reducible assumption)|assumption)
         have q315:x13_1<(l0.length:Int):=of_decide_eq_true (by first|(with_reducible assumption)|assumption)
         obtain ⟨ad315,A315_2,c315_2,A315_3,c315_3,e315,hx315_0,hx315_1,hx315_2,hx315_3,hl315_2,hi315_2,hl315_3,hi315_3⟩:=at_T48 HR0.out x13_1 p315 q315
         have hw315_3:=hx315_3
         have hw315_2:=hx315_2
         have hw315_1:=hx315_1
         have hw315_0:=hx315_0
         cases e315
         replace hx315_0:=(HB.out.cell (World.block_lt_of_cell? w _ hx315_0)).trans hx315_0
         replace hx315_1:=(HB.out.cell (World.block_lt_of_cell? w _ hx315_1)).trans hx315_1
         replace hx315_2:=(HB.out.cell (World.block_lt_of_cell? w _ hx315_2)).trans hx315_2
         replace hx315_3:=(HB.out.cell (World.block_lt_of_cell? w _ hx315_3)).trans hx315_3
         have HR315_2:=Aside0.mk hi315_2
         have HC315_2:=Aside0.mk hl315_2
         clear hi315_2 hl315_2
         have HR315_3:=Aside0.mk hi315_3
         have HC315_3:=Aside0.mk hl315_3
         clear hi315_3 hl315_3
         replace p315:=eq_true p315
         replace q315:=eq_true q315
         have p316:0≤(x13_1:Int):=of_decide_eq_true (by first|(with_reducible assumption)|assumption)
         have q316:x13_1<(l1.length:Int):=of_decide_eq_true (by first|(with_reducible assumption)|assumption)
         obtain ⟨ad316,A316_2,c316_2,A316_3,c316_3,e316,hx316_0,hx316_1,hx316_2,hx316_3,hl316_2,hi316_2,hl316_3,hi316_3⟩:=at_T48 HR1.out x13_1 p316 q316
         have hw316_3:=hx316_3
         have hw316_2:=hx316_2
         have hw316_1:=hx316_1
         have hw316_0:=hx316_0
         cases e316
         replace hx316_0:=(HB.out.cell (World.block_lt_of_cell? w _ hx316_0)).trans hx316_0
         replace hx316_1:=(HB.out.cell (World.block_lt_of_cell? w _ hx316_1)).trans hx316_1
         replace hx316_2:=(HB.out.cell (World.block_lt_of_cell? w _ hx316_2)).trans hx316_2
         replace hx316_3:=(HB.out.cell (World.block_lt_of_cell? w _ hx316_3)).trans hx316_3
         have HR316_2:=Aside0.mk hi316_2
         have HC316_2:=Aside0.mk hl316_2
         clear hi316_2 hl316_2
         have HR316_3:=Aside0.mk hi316_3
         have HC316_3:=Aside0.mk hl316_3
         clear hi316_3 hl316_3
         replace p316:=eq_true p316
         replace q316:=eq_true q316
         have p317:0≤(x13_1:Int):=of_decide_eq_true (by first|(with_reducible assumption)|assumption)
         have q317:x13_1<(l0.length:Int):=of_decide_eq_true (by first|(with_reducible assumption)|assumption)
         obtain ⟨ad317,A317_2,c317_2,A317_3,c317_3,e317,hx317_0,hx317_1,hx317_2,hx317_3,hl317_2,hi317_2,hl317_3,hi317_3⟩:=at_T48 HR0.out x13_1 p317 q317
         have hw317_3:=hx317_3
         have hw317_2:=hx317_2
         have hw317_1:=hx317_1
         have hw317_0:=hx317_0
         obtain rfl:ad315=ad317:=(by injection e317)
         replace hx317_0:=(HB.out.cell (World.block_lt_of_cell? w _ hx317_0)).trans hx317_0
         replace hx317_1:=(HB.out.cell (World.block_lt_of_cell? w _ hx317_1)).trans hx317_1
         replace hx317_2:=(HB.out.cell (World.block_lt_of_cell? w _ hx317_2)).trans hx317_2
         replace hx317_3:=(HB.out.cell (World.block_lt_of_cell? w _ hx317_3)).trans hx317_3
         have HR317_2:=Aside0.mk hi317_2
         have HC317_2:=Aside0.mk hl317_2
         clear hi317_2 hl317_2
         have HR317_3:=Aside0.mk hi317_3
         have HC317_3:=Aside0.mk hl317_3
         clear hi317_3 hl317_3
         replace p317:=eq_true p317
         replace q317:=eq_true q317
         have ea_:=Option.some.inj (hx315_2.symm.trans hx317_2)
         injection ea_ with ea_ en_ ec_
         subst ea_
         subst ec_
         clear en_
         have ea_:=Option.some.inj (hx315_3.symm.trans hx317_3)
         injection ea_ with ea_ en_ ec_
         subst ea_
         subst ec_
         clear en_
         have p318:0≤(x13_1:Int):=of_decide_eq_true (by first|(with_reducible assumption)|assumption)
         have q318:x13_1<(l1.length:Int):=of_decide_eq_true (by first|(with_reducible assumption)|assumption)
         obtain ⟨ad318,A318_2,c318_2,A318_3,c318_3,e318,hx318_0,hx318_1,hx318_2,hx318_3,hl318_2,hi318_2,hl318_3,hi318_3⟩:=at_T48 HR1.out x13_1 p318 q318
         have hw318_3:=hx318_3
         have hw318_2:=hx318_2
         have hw318_1:=hx318_1
         have hw318_0:=hx318_0
         obtain rfl:ad316=ad318:=(by injection e318)
         replace hx318_0:=(HB.out.cell (World.block_lt_of_cell? w _ hx318_0)).trans hx318_0
         replace hx318_1:=(HB.out.cell (World.block_lt_of_cell? w _ hx318_1)).trans hx318_1
         replace hx318_2:=(HB.out.cell (World.block_lt_of_cell? w _ hx318_2)).trans hx318_2
         replace hx318_3:=(HB.out.cell (World.block_lt_of_cell? w _ hx318_3)).trans hx318_3
         have HR318_2:=Aside0.mk hi318_2
         have HC318_2:=Aside0.mk hl318_2
         clear hi318_2 hl318_2
         have HR318_3:=Aside0.mk hi318_3
         have HC318_3:=Aside0.mk hl318_3
         clear hi318_3 hl318_3
         replace p318:=eq_true p318
         replace q318:=eq_true q318
         have ea_:=Option.some.inj (hx316_2.symm.trans hx318_2)
         injection ea_ with ea_ en_ ec_
         subst ea_
         subst ec_
         clear en_
         have ea_:=Option.some.inj (hx316_3.symm.trans hx318_3)
         injection ea_ with ea_ en_ ec_
         subst ea_
         subst ec_
         clear en_
         refine start_ (n:=25) (S:=fun w'=>w'.cell? (ad315.add ((x13_1).toNat * 4))=some (.int .i64 ((rd_T48 l0 x13_1).f0))∧w'.cell? ⟨(ad315.add ((x13_1).toNat * 4)).block,(ad315.add ((x13_1).toNat * 4)).off+1,none⟩=some (.bool ((rd_T48 l0 x13_1).f1.f0))∧w'.cell? ⟨(ad315.add ((x13_1).toNat * 4)).block,(ad315.add ((x13_1).toNat * 4)).off+2,none⟩=some (.slice A315_2 ((rd_T48 l0 x13_1).f1.f1).length c315_2)∧w'.cell? ⟨(ad315.add ((x13_1).toNat * 4)).block,(ad315.add ((x13_1).toNat * 4)).off+3,none⟩=some (.slice A315_3 ((rd_T48 l0 x13_1).f1.f2).length c315_3)∧w'.cell? (ad316.add ((x13_1).toNat * 4))=some (.int .i64 ((rd_T48 l1 x13_1).f0))∧w'.cell? ⟨(ad316.add ((x13_1).toNat * 4)).block,(ad316.add ((x13_1).toNat * 4)).off+1,none⟩=some (.bool ((rd_T48 l1 x13_1).f1.f0))∧w'.cell? ⟨(ad316.add ((x13_1).toNat * 4)).block,(ad316.add ((x13_1).toNat * 4)).off+2,none⟩=some (.slice A316_2 ((rd_T48 l1 x13_1).f1.f1).length c316_2)∧w'.cell? ⟨(ad316.add ((x13_1).toNat * 4)).block,(ad316.add ((x13_1).toNat * 4)).off+3,none⟩=some (.slice A316_3 ((rd_T48 l1 x13_1).f1.f2).length c316_3)∧w'.cell? (ad315.add ((x13_1).toNat * 4))=some (.int .i64 ((rd_T48 l0 x13_1).f0))∧w'.cell? ⟨(ad315.add ((x13_1).toNat * 4)).block,(ad315.add ((x13_1).toNat * 4)).off+1,none⟩=some (.bool ((rd_T48 l0 x13_1).f1.f0))∧w'.cell? ⟨(ad315.add ((x13_1).toNat * 4)).block,(ad315.add ((x13_1).toNat * 4)).off+2,none⟩=some (.slice A315_2 ((rd_T48 l0 x13_1).f1.f1).length c315_2)∧w'.cell? ⟨(ad315.add ((x13_1).toNat * 4)).block,(ad315.add ((x13_1).toNat * 4)).off+3,none⟩=some (.slice A315_3 ((rd_T48 l0 x13_1).f1.f2).length c315_3)∧w'.cell? (ad316.add ((x13_1).toNat * 4))=some (.int .i64 ((rd_T48 l1 x13_1).f0))∧w'.cell? ⟨(ad316.add ((x13_1).toNat * 4)).block,(ad316.add ((x13_1).toNat * 4)).off+1,none⟩=some (.bool ((rd_T48 l1 x13_1).f1.f0))∧w'.cell? ⟨(ad316.add ((x13_1).toNat * 4)).block,(ad316.add ((x13_1).toNat * 4)).off+2,none⟩=some (.slice A316_2 ((rd_T48 l1 x13_1).f1.f1).length c316_2)∧w'.cell? ⟨(ad316.add ((x13_1).toNat * 4)).block,(ad316.add ((x13_1).toNat * 4)).off+3,none⟩=some (.slice A316_3 ((rd_T48 l1 x13_1).f1.f2).length c316_3)) (ds:=[]) #[false,false,false,false,false,false,false,false,false,false,false,false,false,false,false,false,false,false,false,false,false,false,false,false,false] (by kernel_rfl) rfl rfl ⟨((HB.out.cell (World.block_lt_of_cell? w _ hw315_0)).trans hw315_0),((HB.out.cell (World.block_lt_of_cell? w _ hw315_1)).trans hw315_1),((HB.out.cell (World.block_lt_of_cell? w _ hw315_2)).trans hw315_2),((HB.out.cell (World.block_lt_of_cell? w _ hw315_3)).trans hw315_3),((HB.out.cell (World.block_lt_of_cell? w _ hw316_0)).trans hw316_0),((HB.out.cell (World.block_lt_of_cell? w _ hw316_1)).trans hw316_1),((HB.out.cell (World.block_lt_of_cell? w _ hw316_2)).trans hw316_2),((HB.out.cell (World.block_lt_of_cell? w _ hw316_3)).trans hw316_3),((HB.out.cell (World.block_lt_of_cell? w _ hw317_0)).trans hw317_0),((HB.out.cell (World.block_lt_of_cell? w _ hw317_1)).trans hw317_1),((HB.out.cell (World.block_lt_of_cell? w _ hw317_2)).trans hw317_2),((HB.out.cell (World.block_lt_of_cell? w _ hw317_3)).trans hw317_3),((HB.out.cell (World.block_lt_of_cell? w _ hw318_0)).trans hw318_0),((HB.out.cell (World.block_lt_of_cell? w _ hw318_1)).trans hw318_1),((HB.out.cell (World.block_lt_of_cell? w _ hw318_2)).trans hw318_2),((HB.out.cell (World.block_lt_of_cell? w _ hw318_3)).trans hw318_3)⟩ (fun hHeld=>?_);refine with_tabW laws_wDone.tab6 laws_wDone.bits6 (fun HT_ HW_=>?_)
         generalize wr.drew=w13 at HB HR315_2 HR315_3 HR316_2 HR316_3 HR317_2 HR317_3 HR318_2 HR318_3 hx315_0 hx315_1 hx315_2 hx315_3 hx316_0 hx316_1 hx316_2 hx316_3 hx317_0 hx317_1 hx317_2 hx317_3 hx318_0 hx318_1 hx318_2 hx318_3 hHeld ⊢
         refine pure_ (i:=0) (N:=some 16) (v:=?_) (a':=?_) #[true,false,false,false,false,false,false,false,false,false,false,false,false,false,false,false,false,false,false,false,false,false,false,false,false] rfl rfl (any_of HT_.out (by kernel_rfl)) (fun _ _ _ h=>h) (Or.inl ⟨by rfl,?_⟩) ?_ ?_
         rotate_left
         ·intro w'
          go_simp
          with_reducible rfl
         rotate_left
         ·simp only [Act.put,List.setIfInBounds_toArray,List.set_cons_zero,List.set_cons_succ,i64_w,i32_w]
          rfl
         refine pure_ (i:=1) (N:=some 17) (v:=?_) (a':=?_) #[true,true,false,false,false,false,false,false,false,false,false,false,false,false,false,false,false,false,false,false,false,false,false,false,false] rfl rfl (any_of HT_.out (by kernel_rfl)) (fun _ _ _ h=>h) (Or.inl ⟨by rfl,?_⟩) ?_ ?_
         rotate_left
         ·intro w'
          go_simp
          with_reducible rfl
         rotate_left
         ·simp only [Act.put,List.setIfInBounds_toArray,List.set_cons_zero,List.set_cons_succ,i64_w,i32_w]
          rfl
         refine pure_ (i:=2) (N:=some 18) (v:=?_) (a':=?_) #[true,true,true,false,false,false,false,false,false,false,false,false,false,false,false,false,false,false,false,false,false,false,false,false,false] rfl rfl (any_of HT_.out (by kernel_rfl)) (fun _ _ _ h=>h) (Or.inl ⟨by rfl,?_⟩) ?_ ?_
         rotate_left
         ·intro w'
          go_simp
          with_reducible rfl
         rotate_left
         ·simp only [Act.put,List.setIfInBounds_toArray,List.set_cons_zero,List.set_cons_succ,i64_w,i32_w]
          rfl
         refine pure_ (i:=3) (N:=some 19) (v:=?_) (a':=?_) #[true,true,true,true,false,false,false,false,false,false,false,false,false,false,false,false,false,false,false,false,false,false,false,false,false] rfl rfl (any_of HT_.out (by kernel_rfl)) (fun _ _ _ h=>h) (Or.inl ⟨by rfl,?_⟩) ?_ ?_
         rotate_left
         ·intro w'
          go_simp
          with_reducible rfl
         rotate_left
         ·simp only [Act.put,List.setIfInBounds_toArray,List.set_cons_zero,List.set_cons_succ,i64_w,i32_w]
          rfl
         refine pure_ (i:=5) (N:=some 21) (v:=?_) (a':=?_) #[true,true,true,true,false,true,false,false,false,false,false,false,false,false,false,false,false,false,false,false,false,false,false,false,false] rfl rfl (any_of HT_.out (by kernel_rfl)) (fun _ _ _ h=>h) (Or.inl ⟨by rfl,?_⟩) ?_ ?_
         rotate_left
         ·intro w'
          go_simp
          with_reducible rfl
         rotate_left
         ·simp only [Act.put,List.setIfInBounds_toArray,List.set_cons_zero,List.set_cons_succ,i64_w,i32_w]
          rfl
         refine pure_ (i:=6) (N:=some 22) (v:=?_) (a':=?_) #[true,true,true,true,false,true,true,false,false,false,false,false,false,false,false,false,false,false,false,false,false,false,false,false,false] rfl rfl (any_of HT_.out (by kernel_rfl)) (fun _ _ _ h=>h) (Or.inl ⟨by rfl,?_⟩) ?_ ?_
         rotate_left
         ·intro w'
          go_simp
          with_reducible rfl
         rotate_left
         ·simp only [Act.put,List.setIfInBounds_toArray,List.set_cons_zero,List.set_cons_succ,i64_w,i32_w]
          rfl
         refine pure_ (i:=7) (N:=some 23) (v:=?_) (a':=?_) #[true,true,true,true,false,true,true,true,false,false,false,false,false,false,false,false,false,false,false,false,false,false,false,false,false] rfl rfl (any_of HT_.out (by kernel_rfl)) (fun _ _ _ h=>h) (Or.inl ⟨by rfl,?_⟩) ?_ ?_
         rotate_left
         ·intro w'
          go_simp
          with_reducible rfl
         rotate_left
         ·simp only [Act.put,List.setIfInBounds_toArray,List.set_cons_zero,List.set_cons_succ,i64_w,i32_w]
          rfl
         refine pure_ (i:=8) (N:=some 24) (v:=?_) (a':=?_) #[true,true,true,true,false,true,true,true,true,false,false,false,false,false,false,false,false,false,false,false,false,false,false,false,false] rfl rfl (any_of HT_.out (by kernel_rfl)) (fun _ _ _ h=>h) (Or.inl ⟨by rfl,?_⟩) ?_ ?_
         rotate_left
         ·intro w'
          go_simp
          with_reducible rfl
         rotate_left
         ·simp only [Act.put,List.setIfInBounds_toArray,List.set_cons_zero,List.set_cons_succ,i64_w,i32_w]
          rfl
         refine take_ (i:=4) (N:=some 20) (v:=?_) (a':=?_) #[true,true,true,true,true,true,true,true,true,false,false,false,false,false,false,false,false,false,false,false,false,false,false,false,false] rfl rfl (take_ofW HT_.out HW_.out (by kernel_rfl)) (fun _ _ _ h=>h) (Or.inl ⟨by rfl,?_⟩) hHeld ?_ ?_
         rotate_left
         ·rintro w' ⟨s0,s1,s2,s3,s4,s5,s6,s7,s8,s9,s10,s11,s12,s13,s14,s15⟩
          go_simp
          with_reducible rfl
         rotate_left
         ·simp only [Act.put,List.setIfInBounds_toArray,List.set_cons_zero,List.set_cons_succ,i64_w,i32_w]
          rfl
         refine take_ (i:=9) (N:=some 25) (v:=?_) (a':=?_) #[true,true,true,true,true,true,true,true,true,true,false,false,false,false,false,false,false,false,false,false,false,false,false,false,false] rfl rfl (take_ofW HT_.out HW_.out (by kernel_rfl)) (fun _ _ _ h=>h) (Or.inl ⟨by rfl,?_⟩) hHeld ?_ ?_
         rotate_left
         ·rintro w' ⟨s0,s1,s2,s3,s4,s5,s6,s7,s8,s9,s10,s11,s12,s13,s14,s15⟩
          go_simp
          with_reducible rfl
         rotate_left
         ·simp only [Act.put,List.setIfInBounds_toArray,List.set_cons_zero,List.set_cons_succ,i64_w,i32_w]
          rfl
         refine pure_ (i:=10) (N:=some 26) (v:=?_) (a':=?_) #[true,true,true,true,true,true,true,true,true,true,true,false,false,false,false,false,false,false,false,false,false,false,false,false,false] rfl rfl (any_of HT_.out (by kernel_rfl)) (fun _ _ _ h=>h) (Or.inl ⟨by rfl,?_⟩) ?_ ?_
         rotate_left
         ·intro w'
          go_simp
          with_reducible rfl
         rotate_left
         ·simp only [Act.put,List.setIfInBounds_toArray,List.set_cons_zero,List.set_cons_succ,i64_w,i32_w]
          rfl
         refine pure_ (i:=11) (N:=some 27) (v:=?_) (a':=?_) #[true,true,true,true,true,true,true,true,true,true,true,true,false,false,false,false,false,false,false,false,false,false,false,false,false] rfl rfl (any_of HT_.out (by kernel_rfl)) (fun _ _ _ h=>h) (Or.inl ⟨by rfl,?_⟩) ?_ ?_
         rotate_left
         ·intro w'
          go_simp
          with_reducible rfl
         rotate_left
         ·simp only [Act.put,List.setIfInBounds_toArray,List.set_cons_zero,List.set_cons_succ,i64_w,i32_w]
          rfl
         refine pure_ (i:=12) (N:=some 28) (v:=?_) (a':=?_) #[true,true,true,true,true,true,true,true,true,true,true,true,true,false,false,false,false,false,false,false,false,false,false,false,false] rfl rfl (any_of HT_.out (by kernel_rfl)) (fun _ _ _ h=>h) (Or.inl ⟨by rfl,?_⟩) ?_ ?_
         rotate_left
         ·intro w'
          go_simp
          with_reducible rfl
         rotate_left
         ·simp only [Act.put,List.setIfInBounds_toArray,List.set_cons_zero,List.set_cons_succ,i64_w,i32_w]
          rfl
         refine pure_ (i:=13) (N:=some 29) (v:=?_) (a':=?_) #[true,true,true,true,true,true,true,true,true,true,true,true,true,true,false,false,false,false,false,false,false,false,false,false,false] rfl rfl (any_of HT_.out (by kernel_rfl)) (fun _ _ _ h=>h) (Or.inl ⟨by rfl,?_⟩) ?_ ?_
         rotate_left
         ·intro w'
          go_simp
          with_reducible rfl
         rotate_left
         ·simp only [Act.put,List.setIfInBounds_toArray,List.set_cons_zero,List.set_cons_succ,i64_w,i32_w]
          rfl
         refine pure_ (i:=14) (N:=some 30) (v:=?_) (a':=?_) #[true,true,true,true,true,true,true,true,true,true,true,true,true,true,true,false,false,false,false,false,false,false,false,false,false] rfl rfl (any_of HT_.out (by kernel_rfl)) (fun _ _ _ h=>h) (Or.inl ⟨by rfl,?_⟩) ?_ ?_
         rotate_left
         ·intro w'
          go_simp
          with_reducible rfl
         rotate_left
         ·simp only [Act.put,List.setIfInBounds_toArray,List.set_cons_zero,List.set_cons_succ,i64_w,i32_w]
          rfl
         refine pure_ (i:=15) (N:=some 31) (v:=?_) (a':=?_) #[true,true,true,true,true,true,true,true,true,true,true,true,true,true,true,true,false,false,false,false,false,false,false,false,false] rfl rfl (any_of HT_.out (by kernel_rfl)) (fun _ _ _ h=>h) (Or.inl ⟨by rfl,?_⟩) ?_ ?_
         rotate_left
         ·intro w'
          go_simp
          with_reducible rfl
         rotate_left
         ·simp only [Act.put,List.setIfInBounds_toArray,List.set_cons_zero,List.set_cons_succ,i64_w,i32_w]
          rfl
         refine pure_ (i:=17) (N:=some 33) (v:=?_) (a':=?_) #[true,true,true,true,true,true,true,true,true,true,true,true,true,true,true,true,false,true,false,false,false,false,false,false,false] rfl rfl (any_of HT_.out (by kernel_rfl)) (fun _ _ _ h=>h) (Or.inl ⟨by rfl,?_⟩) ?_ ?_
         rotate_left
         ·intro w'
          go_simp
          with_reducible rfl
         rotate_left
         ·simp only [Act.put,List.setIfInBounds_toArray,List.set_cons_zero,List.set_cons_succ,i64_w,i32_w]
          rfl
         refine pure_ (i:=18) (N:=some 34) (v:=?_) (a':=?_) #[true,true,true,true,true,true,true,true,true,true,true,true,true,true,true,true,false,true,true,false,false,false,false,false,false] rfl rfl (any_of HT_.out (by kernel_rfl)) (fun _ _ _ h=>h) (Or.inl ⟨by rfl,?_⟩) ?_ ?_
         rotate_left
         ·intro w'
          go_simp
          with_reducible rfl
         rotate_left
         ·simp only [Act.put,List.setIfInBounds_toArray,List.set_cons_zero,List.set_cons_succ,i64_w,i32_w]
          rfl
         refine pure_ (i:=19) (N:=some 35) (v:=?_) (a':=?_) #[true,true,true,true,true,true,true,true,true,true,true,true,true,true,true,true,false,true,true,true,false,false,false,false,false] rfl rfl (any_of HT_.out (by kernel_rfl)) (fun _ _ _ h=>h) (Or.inl ⟨by rfl,?_⟩) ?_ ?_
         rotate_left
         ·intro w'
          go_simp
          with_reducible rfl
         rotate_left
         ·simp only [Act.put,List.setIfInBounds_toArray,List.set_cons_zero,List.set_cons_succ,i64_w,i32_w]
          rfl
         refine pure_ (i:=20) (N:=some 36) (v:=?_) (a':=?_) #[true,true,true,true,true,true,true,true,true,true,true,true,true,true,true,true,false,true,true,true,true,false,false,false,false] rfl rfl (any_of HT_.out (by kernel_rfl)) (fun _ _ _ h=>h) (Or.inl ⟨by rfl,?_⟩) ?_ ?_
         rotate_left
         ·intro w'
          go_simp
          with_reducible rfl
         rotate_left
         ·simp only [Act.put,List.setIfInBounds_toArray,List.set_cons_zero,List.set_cons_succ,i64_w,i32_w]
          rfl
         refine take_ (i:=16) (N:=some 32) (v:=?_) (a':=?_) #[true,true,true,true,true,true,true,true,true,true,true,true,true,true,true,true,true,true,true,true,true,false,false,false,false] rfl rfl (take_ofW HT_.out HW_.out (by kernel_rfl)) (fun _ _ _ h=>h) (Or.inl ⟨by rfl,?_⟩) hHeld ?_ ?_
         rotate_left
         ·rintro w' ⟨s0,s1,s2,s3,s4,s5,s6,s7,s8,s9,s10,s11,s12,s13,s14,s15⟩
          go_simp
          with_reducible rfl
         rotate_left
         ·simp only [Act.put,List.setIfInBounds_toArray,List.set_cons_zero,List.set_cons_succ,i64_w,i32_w]
          rfl
         refine take_ (i:=21) (N:=some 37) (v:=?_) (a':=?_) #[true,true,true,true,true,true,true,true,true,true,true,true,true,true,true,true,true,true,true,true,true,true,false,false,false] rfl rfl (take_ofW HT_.out HW_.out (by kernel_rfl)) (fun _ _ _ h=>h) (Or.inl ⟨by rfl,?_⟩) hHeld ?_ ?_
         rotate_left
         ·rintro w' ⟨s0,s1,s2,s3,s4,s5,s6,s7,s8,s9,s10,s11,s12,s13,s14,s15⟩
          go_simp
          with_reducible rfl
         rotate_left
         ·simp only [Act.put,List.setIfInBounds_toArray,List.set_cons_zero,List.set_cons_succ,i64_w,i32_w]
          rfl
         refine one_ (i:=22) (N:=some 38) #[true,true,true,true,true,true,true,true,true,true,true,true,true,true,true,true,true,true,true,true,true,true,true,false,false] rfl rfl (one_of HT_.out (by kernel_rfl)) (by decide) (fun K hK=>?_)
         refine goes_ Try.func33 (by kernel_rfl) rfl #[.agg #[.bool ((rd_T48 l0 x13_1).f1.f0),.slice A315_2 ((rd_T48 l0 x13_1).f1.f1).length c315_2,.slice A315_3 ((rd_T48 l0 x13_1).f1.f2).length c315_3],.agg #[.bool ((rd_T48 l1 x13_1).f1.f0),.slice A316_2 ((rd_T48 l1 x13_1).f1.f1).length c316_2,.slice A316_3 ((rd_T48 l1 x13_1).f1.f2).length c316_3]] (by rfl) rfl rfl (by (try simp only [List.map_toArray,List.map_cons,List.map_nil]);first|done|rfl|(simp only [List.length_drop,List.length_take];rfl)) ?_
         with_reducible refine (laws_wState.calls k1 ((rd_T48 l0 x13_1).f1.f0) _ _ ((rd_T48 l0 x13_1).f1.f1) _ _ ((rd_T48 l0 x13_1).f1.f2) ((rd_T48 l1 x13_1).f1.f0) _ _ ((rd_T48 l1 x13_1).f1.f1) _ _ ((rd_T48 l1 x13_1).f1.f2) false _ ?side1 ?side2 ?side3 ?side4 ?side5 ?side6 ?side7 ?side8 A9.out).mono ?_
         (case side1=>repeat (first|exact (Kd.C_below HR317_2.out HB.out)|(with_reducible refine Kd.C_alloc ?_ _)|(with_reducible refine Kd.C_drewN ?_ _)|(with_reducible refine Kd.C_drew ?_)))
         (case side2=>exact HC317_2.out)
         (case side3=>repeat (first|exact (Kd.C_below HR317_3.out HB.out)|(with_reducible refine Kd.C_alloc ?_ _)|(with_reducible refine Kd.C_drewN ?_ _)|(with_reducible refine Kd.C_drew ?_)))
         (case side4=>exact HC317_3.out)
         (case side5=>repeat (first|exact (Kd.C_below HR318_2.out HB.out)|(with_reducible refine Kd.C_alloc ?_ _)|(with_reducible refine Kd.C_drewN ?_ _)|(with_reducible refine Kd.C_drew ?_)))
         (case side6=>exact HC318_2.out)
         (case side7=>repeat (first|exact (Kd.C_below HR318_3.out HB.out)|(with_reducible refine Kd.C_alloc ?_ _)|(with_reducible refine Kd.C_drewN ?_ _)|(with_reducible refine Kd.C_drew ?_)))
         (case side8=>exact HC318_3.out)
         rintro e w14 ⟨rfl,hb⟩
         refine ⟨_,rfl,?_⟩
         have n0_:=Aside0.mk (below_step (by repeat (first|(with_reducible first|exact HB.out|apply below_alloc|apply pw_below_drewN|apply below_drew1)|exact HB.out)) hb)
         clear HB
         have HB:=n0_
         clear n0_
         (try clear hb)
         (try clear hb2)
         (try clear hk)
         (try clear hi)
         refine hK.out _ _ ⟨((HB.out.cell (World.block_lt_of_cell? w _ hw315_0)).trans hw315_0),((HB.out.cell (World.block_lt_of_cell? w _ hw315_1)).trans hw315_1),((HB.out.cell (World.block_lt_of_cell? w _ hw315_2)).trans hw315_2),((HB.out.cell (World.block_lt_of_cell? w _ hw315_3)).trans hw315_3),((HB.out.cell (World.block_lt_of_cell? w _ hw316_0)).trans hw316_0),((HB.out.cell (World.block_lt_of_cell? w _ hw316_1)).trans hw316_1),((HB.out.cell (World.block_lt_of_cell? w _ hw316_2)).trans hw316_2),((HB.out.cell (World.block_lt_of_cell? w _ hw316_3)).trans hw316_3),((HB.out.cell (World.block_lt_of_cell? w _ hw317_0)).trans hw317_0),((HB.out.cell (World.block_lt_of_cell? w _ hw317_1)).trans hw317_1),((HB.out.cell (World.block_lt_of_cell? w _ hw317_2)).trans hw317_2),((HB.out.cell (World.block_lt_of_cell? w _ hw317_3)).trans hw317_3),((HB.out.cell (World.block_lt_of_cell? w _ hw318_0)).trans hw318_0),((HB.out.cell (World.block_lt_of_cell? w _ hw318_1)).trans hw318_1),((HB.out.cell (World.block_lt_of_cell? w _ hw318_2)).trans hw318_2),((HB.out.cell (World.block_lt_of_cell? w _ hw318_3)).trans hw318_3)⟩ (fun hHeld=>?_)
         clear hK K
         refine norm_ (a':=?_) ?_ ?_
         rotate_left
         ·show Act.put _ (some 38) _=_
          simp only [Act.put,List.setIfInBounds_toArray,List.set_cons_zero,List.set_cons_succ,i64_w,i32_w]
          rfl
         refine pure_ (i:=23) (N:=some 39) (v:=?_) (a':=?_) #[true,true,true,true,true,true,true,true,true,true,true,true,true,true,true,true,true,true,true,true,true,true,true,true,false] rfl rfl (any_of HT_.out (by kernel_rfl)) (fun _ _ _ h=>h) (Or.inl ⟨by rfl,?_⟩) ?_ ?_
         rotate_left
         ·intro w'
          go_simp
          with_reducible rfl
         rotate_left
         ·simp only [Act.put,List.setIfInBounds_toArray,List.set_cons_zero,List.set_cons_succ,i64_w,i32_w]
          rfl
         refine pure_ (i:=24) (N:=some 40) (v:=?_) (a':=?_) #[true,true,true,true,true,true,true,true,true,true,true,true,true,true,true,true,true,true,true,true,true,true,true,true,true] rfl rfl (any_of HT_.out (by kernel_rfl)) (fun _ _ _ h=>h) (Or.inl ⟨by rfl,?_⟩) ?_ ?_
         rotate_left
         ·intro w'
          go_simp
          with_reducible rfl
         rotate_left
         ·simp only [Act.put,List.setIfInBounds_toArray,List.set_cons_zero,List.set_cons_succ,i64_w,i32_w]
          rfl
         refine done_ (done_of HT_.out (by kernel_rfl)) ?_
         try go_wp2
         go_ret
         exact ⟨by first|rfl|(simp [errW_none,errW_some] <;> rfl)|(simp [*,errW_none,errW_some] <;> rfl),by repeat (first|(with_reducible first|exact HB.out|apply below_alloc|apply pw_below_drewN|apply below_drew1)|exact HB.out)⟩
        rw [if_neg c8] at H
        have c8b0:(((rd_T48 l0 x13_1).f0)==((rd_T48 l1 x13_1).f0))=false:=beq_eq_false_iff_ne.mpr c8
        have c8b1:(((rd_T48 l0 x13_1).f0) != ((rd_T48 l1 x13_1).f0))=true:=bne_iff_ne.mpr c8
        obtain rfl:=Option.some.inj H
        try go_wp2
        have n0_:=Aside0.mk (below_drew1 HB.out)
        clear HB
        have HB:=n0_
        clear n0_
        have p315:0≤(x13_1:Int):=of_decide_eq_true (by first|(with_reducible assumption)|assumption)
        have q315:x13_1<(l0.length:Int):=of_decide_eq_true (by first|(with_reducible assumption)|assumption)
        obtain ⟨ad315,A315_2,c315_2,A315_3,c315_3,e315,hx315_0,hx315_1,hx315_2,hx315_3,hl315_2,hi315_2,hl315_3,hi315_3⟩:=at_T48 HR0.out x13_1 p315 q315
        have hw315_3:=hx315_3
        have hw315_2:=hx315_2
        have hw315_1:=hx315_1
        have hw315_0:=hx315_0
        cases e315
        replace hx315_0:=(HB.out.cell (World.block_lt_of_cell? w _ hx315_0)).trans hx315_0
        replace hx315_1:=(HB.out.cell (World.block_lt_of_cell? w _ hx315_1)).trans hx315_1
        replace hx315_2:=(HB.out.cell (World.block_lt_of_cell? w _ hx315_2)).trans hx315_2
        replace hx315_3:=(HB.out.cell (World.block_lt_of_cell? w _ hx315_3)).trans hx315_3
        have HR315_2:=Aside0.mk hi315_2
        have HC315_2:=Aside0.mk hl315_2
        clear hi315_2 hl315_2
        have HR315_3:=Aside0.mk hi315_3
        have HC315_3:=Aside0.mk hl315_3
        clear hi315_3 hl315_3
        replace p315:=eq_true p315
        replace q315:=eq_true q315
        have p316:0≤(x13_1:Int):=of_decide_eq_true (by first|(with_reducible assumption)|assumption)
        have q316:x13_1<(l1.length:Int):=of_decide_eq_true (by first|(with_reducible assumption)|assumption)
        obtain ⟨ad316,A316_2,c316_2,A316_3,c316_3,e316,hx316_0,hx316_1,hx316_2,hx316_3,hl316_2,hi316_2,hl316_3,hi316_3⟩:=at_T48 HR1.out x13_1 p316 q316
        have hw316_3:=hx316_3
        have hw316_2:=hx316_2
        have hw316_1:=hx316_1
        have hw316_0:=hx316_0
        cases e316
        replace hx316_0:=(HB.out.cell (World.block_lt_of_cell? w _ hx316_0)).trans hx316_0
        replace hx316_1:=(HB.out.cell (World.block_lt_of_cell? w _ hx316_1)).trans hx316_1
        replace hx316_2:=(HB.out.cell (World.block_lt_of_cell? w _ hx316_2)).trans hx316_2
        replace hx316_3:=(HB.out.cell (World.block_lt_of_cell? w _ hx316_3)).trans hx316_3
        have HR316_2:=Aside0.mk hi316_2
        have HC316_2:=Aside0.mk hl316_2
        clear hi316_2 hl316_2
        have HR316_3:=Aside0.mk hi316_3
        have HC316_3:=Aside0.mk hl316_3
        clear hi316_3 hl316_3
        replace p316:=eq_true p316
        replace q316:=eq_true q316
        refine start_ (n:=25) (S:=fun w'=>w'.cell? (ad315.add ((x13_1).toNat * 4))=some (.int .i64 ((rd_T48 l0 x13_1).f0))∧w'.cell? ⟨(ad315.add ((x13_1).toNat * 4)).block,(ad315.add ((x13_1).toNat * 4)).off+1,none⟩=some (.bool ((rd_T48 l0 x13_1).f1.f0))∧w'.cell? ⟨(ad315.add ((x13_1).toNat * 4)).block,(ad315.add ((x13_1).toNat * 4)).off+2,none⟩=some (.slice A315_2 ((rd_T48 l0 x13_1).f1.f1).length c315_2)∧w'.cell? ⟨(ad315.add ((x13_1).toNat * 4)).block,(ad315.add ((x13_1).toNat * 4)).off+3,none⟩=some (.slice A315_3 ((rd_T48 l0 x13_1).f1.f2).length c315_3)∧w'.cell? (ad316.add ((x13_1).toNat * 4))=some (.int .i64 ((rd_T48 l1 x13_1).f0))∧w'.cell? ⟨(ad316.add ((x13_1).toNat * 4)).block,(ad316.add ((x13_1).toNat * 4)).off+1,none⟩=some (.bool ((rd_T48 l1 x13_1).f1.f0))∧w'.cell? ⟨(ad316.add ((x13_1).toNat * 4)).block,(ad316.add ((x13_1).toNat * 4)).off+2,none⟩=some (.slice A316_2 ((rd_T48 l1 x13_1).f1.f1).length c316_2)∧w'.cell? ⟨(ad316.add ((x13_1).toNat * 4)).block,(ad316.add ((x13_1).toNat * 4)).off+3,none⟩=some (.slice A316_3 ((rd_T48 l1 x13_1).f1.f2).length c316_3)) (ds:=[]) #[false,false,false,false,false,false,false,false,false,false,false,false,false,false,false,false,false,false,false,false,false,false,false,false,false] (by kernel_rfl) rfl rfl ⟨((HB.out.cell (World.block_lt_of_cell? w _ hw315_0)).trans hw315_0),((HB.out.cell (World.block_lt_of_cell? w _ hw315_1)).trans hw315_1),((HB.out.cell (World.block_lt_of_cell? w _ hw315_2)).trans hw315_2),((HB.out.cell (World.block_lt_of_cell? w _ hw315_3)).trans hw315_3),((HB.out.cell (World.block_lt_of_cell? w _ hw316_0)).trans hw316_0),((HB.out.cell (World.block_lt_of_cell? w _ hw316_1)).trans hw316_1),((HB.out.cell (World.block_lt_of_cell? w _ hw316_2)).trans hw316_2),((HB.out.cell (World.block_lt_of_cell? w _ hw316_3)).trans hw316_3)⟩ (fun hHeld=>?_);refine with_tabW laws_wDone.tab6 laws_wDone.bits6 (fun HT_ HW_=>?_)
        generalize wr.drew=w15 at HB HR315_2 HR315_3 HR316_2 HR316_3 hx315_0 hx315_1 hx315_2 hx315_3 hx316_0 hx316_1 hx316_2 hx316_3 hHeld ⊢
        refine pure_ (i:=0) (N:=some 16) (v:=?_) (a':=?_) #[true,false,false,false,false,false,false,false,false,false,false,false,false,false,false,false,false,false,false,false,false,false,false,false,false] rfl rfl (any_of HT_.out (by kernel_rfl)) (fun _ _ _ h=>h) (Or.inl ⟨by rfl,?_⟩) ?_ ?_
        rotate_left
        ·intro w'
         go_simp
         with_reducible rfl
        rotate_left
        ·simp only [Act.put,List.setIfInBounds_toArray,List.set_cons_zero,List.set_cons_succ,i64_w,i32_w]
         rfl
        refine pure_ (i:=1) (N:=some 17) (v:=?_) (a':=?_) #[true,true,false,false,false,false,false,false,false,false,false,false,false,false,false,false,false,false,false,false,false,false,false,false,false] rfl rfl (any_of HT_.out (by kernel_rfl)) (fun _ _ _ h=>h) (Or.inl ⟨by rfl,?_⟩) ?_ ?_
        rotate_left
        ·intro w'
         go_simp
         with_reducible rfl
        rotate_left
        ·simp only [Act.put,List.setIfInBounds_toArray,List.set_cons_zero,List.set_cons_succ,i64_w,i32_w]
         rfl
        refine pure_ (i:=2) (N:=some 18) (v:=?_) (a':=?_) #[true,true,true,false,false,false,false,false,false,false,false,false,false,false,false,false,false,false,false,false,false,false,false,false,false] rfl rfl (any_of HT_.out (by kernel_rfl)) (fun _ _ _ h=>h) (Or.inl ⟨by rfl,?_⟩) ?_ ?_
        rotate_left
        ·intro w'
         go_simp
         with_reducible rfl
        rotate_left
        ·simp only [Act.put,List.setIfInBounds_toArray,List.set_cons_zero,List.set_cons_succ,i64_w,i32_w]
         rfl
        refine pure_ (i:=3) (N:=some 19) (v:=?_) (a':=?_) #[true,true,true,true,false,false,false,false,false,false,false,false,false,false,false,false,false,false,false,false,false,false,false,false,false] rfl rfl (any_of HT_.out (by kernel_rfl)) (fun _ _ _ h=>h) (Or.inl ⟨by rfl,?_⟩) ?_ ?_
        rotate_left
        ·intro w'
         go_simp
         with_reducible rfl
        rotate_left
        ·simp only [Act.put,List.setIfInBounds_toArray,List.set_cons_zero,List.set_cons_succ,i64_w,i32_w]
         rfl
        refine pure_ (i:=5) (N:=some 21) (v:=?_) (a':=?_) #[true,true,true,true,false,true,false,false,false,false,false,false,false,false,false,false,false,false,false,false,false,false,false,false,false] rfl rfl (any_of HT_.out (by kernel_rfl)) (fun _ _ _ h=>h) (Or.inl ⟨by rfl,?_⟩) ?_ ?_
        rotate_left
        ·intro w'
         go_simp
         with_reducible rfl
        rotate_left
        ·simp only [Act.put,List.setIfInBounds_toArray,List.set_cons_zero,List.set_cons_succ,i64_w,i32_w]
         rfl
        refine pure_ (i:=6) (N:=some 22) (v:=?_) (a':=?_) #[true,true,true,true,false,true,true,false,false,false,false,false,false,false,false,false,false,false,false,false,false,false,false,false,false] rfl rfl (any_of HT_.out (by kernel_rfl)) (fun _ _ _ h=>h) (Or.inl ⟨by rfl,?_⟩) ?_ ?_
        rotate_left
        ·intro w'
         go_simp
         with_reducible rfl
        rotate_left
        ·simp only [Act.put,List.setIfInBounds_toArray,List.set_cons_zero,List.set_cons_succ,i64_w,i32_w]
         rfl
        refine pure_ (i:=7) (N:=some 23) (v:=?_) (a':=?_) #[true,true,true,true,false,true,true,true,false,false,false,false,false,false,false,false,false,false,false,false,false,false,false,false,false] rfl rfl (any_of HT_.out (by kernel_rfl)) (fun _ _ _ h=>h) (Or.inl ⟨by rfl,?_⟩) ?_ ?_
        rotate_left
        ·intro w'
         go_simp
         with_reducible rfl
        rotate_left
        ·simp only [Act.put,List.setIfInBounds_toArray,List.set_cons_zero,List.set_cons_succ,i64_w,i32_w]
         rfl
        refine pure_ (i:=8) (N:=some 24) (v:=?_) (a':=?_) #[true,true,true,true,false,true,true,true,true,false,false,false,false,false,false,false,false,false,false,false,false,false,false,false,false] rfl rfl (any_of HT_.out (by kernel_rfl)) (fun _ _ _ h=>h) (Or.inl ⟨by rfl,?_⟩) ?_ ?_
        rotate_left
        ·intro w'
         go_simp
         with_reducible rfl
        rotate_left
        ·simp only [Act.put,List.setIfInBounds_toArray,List.set_cons_zero,List.set_cons_succ,i64_w,i32_w]
         rfl
        refine take_ (i:=4) (N:=some 20) (v:=?_) (a':=?_) #[true,true,true,true,true,true,true,true,true,false,false,false,false,false,false,false,false,false,false,false,false,false,false,false,false] rfl rfl (take_ofW HT_.out HW_.out (by kernel_rfl)) (fun _ _ _ h=>h) (Or.inl ⟨by rfl,?_⟩) hHeld ?_ ?_
        rotate_left
        ·rintro w' ⟨s0,s1,s2,s3,s4,s5,s6,s7⟩
         go_simp
         with_reducible rfl
        rotate_left
        ·simp only [Act.put,List.setIfInBounds_toArray,List.set_cons_zero,List.set_cons_succ,i64_w,i32_w]
         rfl
        refine take_ (i:=9) (N:=some 25) (v:=?_) (a':=?_) #[true,true,true,true,true,true,true,true,true,true,false,false,false,false,false,false,false,false,false,false,false,false,false,false,false] rfl rfl (take_ofW HT_.out HW_.out (by kernel_rfl)) (fun _ _ _ h=>h) (Or.inl ⟨by rfl,?_⟩) hHeld ?_ ?_
        rotate_left
        ·rintro w' ⟨s0,s1,s2,s3,s4,s5,s6,s7⟩
         go_simp
         with_reducible rfl
        rotate_left
        ·simp only [Act.put,List.setIfInBounds_toArray,List.set_cons_zero,List.set_cons_succ,i64_w,i32_w]
         rfl
        refine pure_ (i:=10) (N:=some 26) (v:=?_) (a':=?_) #[true,true,true,true,true,true,true,true,true,true,true,false,false,false,false,false,false,false,false,false,false,false,false,false,false] rfl rfl (any_of HT_.out (by kernel_rfl)) (fun _ _ _ h=>h) (Or.inl ⟨by rfl,?_⟩) ?_ ?_
        rotate_left
        ·intro w'
         go_simp
         with_reducible rfl
        rotate_left
        ·simp only [Act.put,List.setIfInBounds_toArray,List.set_cons_zero,List.set_cons_succ,i64_w,i32_w]
         rfl
        refine pure_ (i:=11) (N:=some 27) (v:=?_) (a':=?_) #[true,true,true,true,true,true,true,true,true,true,true,true,false,false,false,false,false,false,false,false,false,false,false,false,false] rfl rfl (any_of HT_.out (by kernel_rfl)) (fun _ _ _ h=>h) (Or.inl ⟨by rfl,?_⟩) ?_ ?_
        rotate_left
        ·intro w'
         go_simp
         with_reducible rfl
        rotate_left
        ·simp only [Act.put,List.setIfInBounds_toArray,List.set_cons_zero,List.set_cons_succ,i64_w,i32_w]
         rfl
        refine pure_ (i:=12) (N:=some 28) (v:=undef) (a':=?_) #[true,true,true,true,true,true,true,true,true,true,true,true,true,false,false,false,false,false,false,false,false,false,false,false,false] rfl rfl (any_of HT_.out (by kernel_rfl)) (fun _ _ _ h=>h) (Or.inr ⟨by rfl,rfl⟩) ?_ ?_
        rotate_left
        ·simp only [Act.put,List.setIfInBounds_toArray,List.set_cons_zero,List.set_cons_succ,i64_w,i32_w]
         rfl
        refine pure_ (i:=13) (N:=some 29) (v:=undef) (a':=?_) #[true,true,true,true,true,true,true,true,true,true,true,true,true,true,false,false,false,false,false,false,false,false,false,false,false] rfl rfl (any_of HT_.out (by kernel_rfl)) (fun _ _ _ h=>h) (Or.inr ⟨by rfl,rfl⟩) ?_ ?_
        rotate_left
        ·simp only [Act.put,List.setIfInBounds_toArray,List.set_cons_zero,List.set_cons_succ,i64_w,i32_w]
         rfl
        refine pure_ (i:=14) (N:=some 30) (v:=undef) (a':=?_) #[true,true,true,true,true,true,true,true,true,true,true,true,true,true,true,false,false,false,false,false,false,false,false,false,false] rfl rfl (any_of HT_.out (by kernel_rfl)) (fun _ _ _ h=>h) (Or.inr ⟨by rfl,rfl⟩) ?_ ?_
        rotate_left
        ·simp only [Act.put,List.setIfInBounds_toArray,List.set_cons_zero,List.set_cons_succ,i64_w,i32_w]
         rfl
        refine pure_ (i:=15) (N:=some 31) (v:=undef) (a':=?_) #[true,true,true,true,true,true,true,true,true,true,true,true,true,true,true,true,false,false,false,false,false,false,false,false,false] rfl rfl (any_of HT_.out (by kernel_rfl)) (fun _ _ _ h=>h) (Or.inr ⟨by rfl,rfl⟩) ?_ ?_
        rotate_left
        ·simp only [Act.put,List.setIfInBounds_toArray,List.set_cons_zero,List.set_cons_succ,i64_w,i32_w]
         rfl
        refine pure_ (i:=16) (N:=some 32) (v:=undef) (a':=?_) #[true,true,true,true,true,true,true,true,true,true,true,true,true,true,true,true,true,false,false,false,false,false,false,false,false] rfl rfl (any_of HT_.out (by kernel_rfl)) (fun _ _ _ h=>h) (Or.inr ⟨by rfl,rfl⟩) ?_ ?_
        rotate_left
        ·simp only [Act.put,List.setIfInBounds_toArray,List.set_cons_zero,List.set_cons_succ,i64_w,i32_w]
         rfl
        refine pure_ (i:=17) (N:=some 33) (v:=undef) (a':=?_) #[true,true,true,true,true,true,true,true,true,true,true,true,true,true,true,true,true,true,false,false,false,false,false,false,false] rfl rfl (any_of HT_.out (by kernel_rfl)) (fun _ _ _ h=>h) (Or.inr ⟨by rfl,rfl⟩) ?_ ?_
        rotate_left
        ·simp only [Act.put,List.setIfInBounds_toArray,List.set_cons_zero,List.set_cons_succ,i64_w,i32_w]
         rfl
        refine pure_ (i:=18) (N:=some 34) (v:=undef) (a':=?_) #[true,true,true,true,true,true,true,true,true,true,true,true,true,true,true,true,true,true,true,false,false,false,false,false,false] rfl rfl (any_of HT_.out (by kernel_rfl)) (fun _ _ _ h=>h) (Or.inr ⟨by rfl,rfl⟩) ?_ ?_
        rotate_left
        ·simp only [Act.put,List.setIfInBounds_toArray,List.set_cons_zero,List.set_cons_succ,i64_w,i32_w]
         rfl
        refine pure_ (i:=19) (N:=some 35) (v:=undef) (a':=?_) #[true,true,true,true,true,true,true,true,true,true,true,true,true,true,true,true,true,true,true,true,false,false,false,false,false] rfl rfl (any_of HT_.out (by kernel_rfl)) (fun _ _ _ h=>h) (Or.inr ⟨by rfl,rfl⟩) ?_ ?_
        rotate_left
        ·simp only [Act.put,List.setIfInBounds_toArray,List.set_cons_zero,List.set_cons_succ,i64_w,i32_w]
         rfl
        refine pure_ (i:=20) (N:=some 36) (v:=undef) (a':=?_) #[true,true,true,true,true,true,true,true,true,true,true,true,true,true,true,true,true,true,true,true,true,false,false,false,false] rfl rfl (any_of HT_.out (by kernel_rfl)) (fun _ _ _ h=>h) (Or.inr ⟨by rfl,rfl⟩) ?_ ?_
        rotate_left
        ·simp only [Act.put,List.setIfInBounds_toArray,List.set_cons_zero,List.set_cons_succ,i64_w,i32_w]
         rfl
        refine pure_ (i:=21) (N:=some 37) (v:=undef) (a':=?_) #[true,true,true,true,true,true,true,true,true,true,true,true,true,true,true,true,true,true,true,true,true,true,false,false,false] rfl rfl (any_of HT_.out (by kernel_rfl)) (fun _ _ _ h=>h) (Or.inr ⟨by rfl,rfl⟩) ?_ ?_
        rotate_left
        ·simp only [Act.put,List.setIfInBounds_toArray,List.set_cons_zero,List.set_cons_succ,i64_w,i32_w]
         rfl
        refine pure_ (i:=22) (N:=some 38) (v:=undef) (a':=?_) #[true,true,true,true,true,true,true,true,true,true,true,true,true,true,true,true,true,true,true,true,true,true,true,false,false] rfl rfl (any_of HT_.out (by kernel_rfl)) (fun _ _ _ h=>h) (Or.inr ⟨by rfl,rfl⟩) ?_ ?_
        rotate_left
        ·simp only [Act.put,List.setIfInBounds_toArray,List.set_cons_zero,List.set_cons_succ,i64_w,i32_w]
         rfl
        refine pure_ (i:=23) (N:=some 39) (v:=undef) (a':=?_) #[true,true,true,true,true,true,true,true,true,true,true,true,true,true,true,true,true,true,true,true,true,true,true,true,false] rfl rfl (any_of HT_.out (by kernel_rfl)) (fun _ _ _ h=>h) (Or.inr ⟨by rfl,rfl⟩) ?_ ?_
        rotate_left
        ·simp only [Act.put,List.setIfInBounds_toArray,List.set_cons_zero,List.set_cons_succ,i64_w,i32_w]
         rfl
        refine pure_ (i:=24) (N:=some 40) (v:=?_) (a':=?_) #[true,true,true,true,true,true,true,true,true,true,true,true,true,true,true,true,true,true,true,true,true,true,true,true,true] rfl rfl (any_of HT_.out (by kernel_rfl)) (fun _ _ _ h=>h) (Or.inl ⟨by rfl,?_⟩) ?_ ?_
        rotate_left
        ·intro w'
         go_simp
         with_reducible rfl
        rotate_left
        ·simp only [Act.put,List.setIfInBounds_toArray,List.set_cons_zero,List.set_cons_succ,i64_w,i32_w]
         rfl
        refine done_ (done_of HT_.out (by kernel_rfl)) ?_
        try go_wp2
        go_ret
        exact ⟨by first|rfl|(simp [errW_none,errW_some] <;> rfl)|(simp [*,errW_none,errW_some] <;> rfl),by repeat (first|(with_reducible first|exact HB.out|apply below_alloc|apply pw_below_drewN|apply below_drew1)|exact HB.out)⟩
       rw [if_neg c7] at H
       exact absurd H (by simp)
      rw [if_neg c6] at H
      exact absurd H (by simp)
     rw [if_neg c5] at H
     exact absurd H (by simp)
    rw [if_neg c4] at H
    have c4b0:decide (x13_1<(l0.length:Int))=false:=decide_eq_false c4
    clear c4
    obtain rfl:=Option.some.inj H
    go_wp2
    go_ret
    exact ⟨by first|rfl|(simp [errW_none,errW_some] <;> rfl)|(simp [*,errW_none,errW_some] <;> rfl),by repeat (first|(with_reducible first|exact HB.out|apply below_alloc|apply pw_below_drewN|apply below_drew1)|exact HB.out)⟩
 rw [if_neg c3] at H
 have c3b0:((l0.length:Int)==(l1.length:Int))=false:=beq_eq_false_iff_ne.mpr c3
 have c3b1:((l0.length:Int) != (l1.length:Int))=true:=bne_iff_ne.mpr c3
 have c3b2:(l0.length==l1.length)=false:=by first|simpa using c3|(simp at c3 ⊢;omega)
 obtain rfl:=Option.some.inj H
 go_enter Try.func30,Try.ntmps30
 go_wp2
 go_ret
 exact ⟨by first|rfl|(simp [errW_none,errW_some] <;> rfl)|(simp [*,errW_none,errW_some] <;> rfl),by repeat (first|(with_reducible first|exact HB.out|apply below_alloc|apply pw_below_drewN|apply below_drew1)|exact HB.out)⟩
end Go.Proofs.Ytpdnabhpkdchjaa.P
namespace Go.Proofs.Ytpdnabhpkdchjaa.P
open Go.RowKit Go.Proofs.YtpdnabhpkdchjaaW.PrintWords Go.Proofs.YtpdnabhpkdchjaaW.PrintLast Go.Proofs.YtpdnabhpkdchjaaW.PrintMore
attribute [local go_sem] max2_int min2_int max_two min_two max_three min_three max_four min_four
set_option linter.unusedVariables false
set_option linter.unusedSimpArgs false
theorem eqA56 (d:Nat) (w:World) (x0 y0:Int) (x1 y1:Int) (x2 y2:Int) :
  (Op.equalIn (d+2) 56 (.agg #[.int .i64 x0,.int .i64 x1,.int .i64 x2]) (.agg #[.int .i64 y0,.int .i64 y1,.int .i64 y2])).run Try.prog w=.ok (x0==y0 && (x1==y1 && (x2==y2))) w:=by
 refine eqA_of Try.underlying56 (by kernel_rfl) ?_
 refine eqf_cons (by rfl) (by go_simp;rfl) (by go_simp;rfl) (by go_simp) ?_
 refine eqf_cons (by rfl) (by go_simp;rfl) (by go_simp;rfl) (by go_simp) ?_
 exact eqf_last (by rfl) (by go_simp;rfl) (by go_simp;rfl) (by go_simp)
end Go.Proofs.Ytpdnabhpkdchjaa.P
namespace Go.Proofs.Ytpdnabhpkdchjaa.P
open Go.RowKit Go.Proofs.YtpdnabhpkdchjaaW.PrintWords Go.Proofs.YtpdnabhpkdchjaaW.PrintLast Go.Proofs.YtpdnabhpkdchjaaW.PrintMore
set_option linter.unusedVariables false
set_option linter.unusedSimpArgs false
theorem wState_l1 (b : Bool) (ss : List S50) (dd : List Bool) (hl : dd.length ≤ 1048576) (d : Nat) : ∀ (i : Nat), i + d = dd.length → Ev (fun k => laws_wState.l1 k (dd.length : Int) i b ss dd b ss dd) true := by
  induction d with
  | zero => intro i hi; refine Ev.step1 fun k => ?_; simp only [laws_wState.l1]; rw [if_neg (by omega)]
  | succ d ih =>
    intro i hi
    refine Ev.step (fun k => ?_) (ih (i + 1) (by omega))
    simp only [laws_wState.l1, bne_self_eq_false, Bool.false_eq_true, if_false]
    rw [if_pos (by omega), if_pos (by omega), if_pos (by omega), if_pos (by omega), wrap_succ (by omega)]
theorem wState_l0 (b : Bool) (ss : List S50) (dd : List Bool) (hs : ss.length ≤ 1048576) (hl : dd.length ≤ 1048576) (d : Nat) : ∀ (i : Nat), i + d = ss.length → Ev (fun k => laws_wState.l0 k (ss.length : Int) i b ss dd b ss dd) true := by
  induction d with
  | zero =>
    intro i hi
    refine Ev.step (fun k => ?_) (wState_l1 b ss dd hl dd.length 0 (by omega))
    simp only [laws_wState.l0]; rw [if_neg (by omega)]
    rfl
  | succ d ih =>
    intro i hi
    refine Ev.step (fun k => ?_) (ih (i + 1) (by omega))
    simp only [laws_wState.l0, beq_self_eq_true, Bool.not_true, Bool.or_self, Bool.false_eq_true, if_false]
    rw [if_pos (by omega), if_pos (by omega), if_pos (by omega), if_pos (by omega), wrap_succ (by omega)]
theorem wState_ev (b : Bool) (ss : List S50) (dd : List Bool) (hs : ss.length ≤ 1048576) (hl : dd.length ≤ 1048576) : Ev (fun k => laws_wState.f k b ss dd b ss dd) true := by
  unfold laws_wState.f
  simp only [bne_self_eq_false, Bool.false_eq_true, if_false]
  refine Ev.ite_pos trivial ?_
  refine Ev.step (fun k => ?_) (wState_l0 b ss dd hs hl ss.length 0 (by omega))
  simp only [laws_wState.j0, Bool.false_eq_true, if_false]
  rfl
theorem wDone_l0 (t : List S48) (hl : t.length ≤ 1000000000) (hr : ∀ x ∈ t, x.f1.f1.length ≤ 1048576 ∧ x.f1.f2.length ≤ 1048576) (d : Nat) : ∀ (i : Nat), i + d = t.length → Ev (fun k => laws_wDone.l0 k t t (t.length : Int) i) true := by
  induction d with
  | zero => intro i hi; refine Ev.step1 fun k => ?_; simp only [laws_wDone.l0]; rw [if_neg (by omega)]
  | succ d ih =>
    intro i hi
    have hlt : i < t.length := by omega
    have e : rd_T48 t (i : Int) = t[i] := by simp [rd_T48, hlt]
    have hx := hr t[i] (List.getElem_mem hlt)
    refine Ev.step (fun k => by simp only [laws_wDone.l0, e, wrap_succ (show i < 9223372036854775807 by omega)]; rw [if_pos (by omega), if_pos (by omega), if_pos (by omega), if_pos (by omega)]) ?_
    exact Ev.ite_pos trivial (Ev.bind (wState_ev _ _ _ hx.1 hx.2) (Ev.ite_pos rfl (ih (i + 1) (by omega))))
theorem wDone_ev (t : List S48) (hl : t.length ≤ 1000000000) (hr : ∀ x ∈ t, x.f1.f1.length ≤ 1048576 ∧ x.f1.f2.length ≤ 1048576) : Ev (fun k => laws_wDone.f k t t) true := by
  unfold laws_wDone.f
  exact Ev.ite_pos rfl (wDone_l0 t hl hr t.length 0 (by omega))
section
variable {w : World} {A A1 A2 B1 B2 : Option Addr} {c c1 c2 d1 d2 : Nat}
theorem wState_is {b : Bool} {ss : List S50} {dd : List Bool} (hs : ss.length ≤ 1048576) (hl : dd.length ≤ 1048576) (h1 : Kd.C k50 w A1 ss.length ss) (k1 : ss.length ≤ c1) (h2 : Kd.C Kd.bool w A2 dd.length dd) (k2 : dd.length ≤ c2) (h3 : Kd.C k50 w B1 ss.length ss) (k3 : ss.length ≤ d1) (h4 : Kd.C Kd.bool w B2 dd.length dd) (k4 : dd.length ≤ d2) :
    Calls Try.prog 33 #[.agg #[.bool b, .slice A1 ss.length c1, .slice A2 dd.length c2], .agg #[.bool b, .slice B1 ss.length d1, .slice B2 dd.length d2]] w fun e w' => e = .returned (.bool true) ∧ Below w.heap.size w w' := by
  obtain ⟨k, h⟩ := (wState_ev b ss dd hs hl).rounds
  exact laws_wState.calls k b A1 c1 ss A2 c2 dd b B1 d1 ss B2 d2 dd true w h1 k1 h2 k2 h3 k3 h4 k4 h
theorem wDone_is {t : List S48} (hl : t.length ≤ 1000000000) (hr : ∀ x ∈ t, x.f1.f1.length ≤ 1048576 ∧ x.f1.f2.length ≤ 1048576) (h1 : Kd.C k48 w A t.length t) (k1 : t.length ≤ c) (h2 : Kd.C k48 w A1 t.length t) (k2 : t.length ≤ c1) :
    Calls Try.prog 30 #[.slice A t.length c, .slice A1 t.length c1] w fun e w' => e = .returned (.bool true) ∧ Below w.heap.size w w' := by
  obtain ⟨k, h⟩ := (wDone_ev t hl hr).rounds
  exact laws_wDone.calls k A c t A1 c1 t true w h1 k1 h2 k2 h
end
theorem run_small (n : Int) (l : List S88) (es : List S56) : (run n l es).length ≤ 1000000000 ∧ ∀ x ∈ run n l es, x.f1.f1.length ≤ 1048576 ∧ x.f1.f2.length ≤ 1048576 := by
  by_cases h : layoutOk n l = 0 ∧ es.length ≤ 2000
  · have hn := lay_n h.1
    rw [run, if_pos h]
    refine ⟨by rw [runTo_length]; omega, fun x hx => ?_⟩
    simp only [runTo, List.mem_map, List.mem_range] at hx
    obtain ⟨j, hj, rfl⟩ := hx
    have h1 := runStep_len n l (stAt n l es j) (rd_T56 es (j : Int))
    have h2 := stAt_len n l es j
    rw [h1.1, h1.2.1, h2.1, h2.2.1]
    omega
  · rw [run, if_neg h]
    exact ⟨by simp, fun x hx => absurd hx (by simp)⟩
end Go.Proofs.Ytpdnabhpkdchjaa.P
namespace Go.Proofs.Ytpdnabhpkdchjaa.Open
open Go.RowKit Go.Proofs.YtpdnabhpkdchjaaW.PrintWords Go.Proofs.YtpdnabhpkdchjaaW.PrintLast Go.Proofs.YtpdnabhpkdchjaaW.PrintMore
open Go.ChangeShapes Go.WideShapes Go.ChangeAt P
set_option maxRecDepth 100000
set_option linter.unusedVariables false
def kB : Kd {x : Int // 0 ≤ x ∧ x < 256} := Kd.iso (Kd.int .u8) Subtype.val
theorem wf_u8 {n : Int} (h : (Lit.int .u8 n).wf = true) : 0 ≤ n ∧ n < 256 := by
  have e1 : IntKind.u8.min = 0 := rfl
  have e2 : IntKind.u8.max = 255 := rfl
  simp [Lit.wf, e1, e2] at h
  omega
theorem oB : Opens Try.prog 5 kB := by
  intro H enc w base spare held fuel cs x h
  obtain ⟨n, rfl, _, hw⟩ := DataW.trod_int Try.underlying5 h
  exact ⟨⟨n, wf_u8 hw⟩, rfl⟩
theorem oBs : Opens Try.prog 34 (Kd.slice 5 kB) := opens_slice Try.underlying34 (by kernel_rfl) oB
theorem C_map {α β : Type} {d : Kd α} {f : β → α} {w : World} {A : Option Addr} {n : Nat} {xs : List β} (h : Kd.C (Kd.iso d f) w A n xs) : Kd.C d w A n (xs.map f) := by
  obtain ⟨h1, h2, h3⟩ := h
  refine ⟨by simpa using h1, h2, fun hn => ?_⟩
  obtain ⟨ad, e, hc⟩ := h3 hn
  refine ⟨ad, e, fun j p hp => ?_⟩
  rw [List.getElem?_map, Option.map_eq_some_iff] at hp
  obtain ⟨q, hq, rfl⟩ := hp
  exact hc j q hq
section
variable {H : Type} {enc : TypeId × Value → H} {W : World} {base b0 : Nat} {spare : Nat → Bool} {held : Bool} {v : Value} {x : DataW H} {ps : List MemPlace} {r : Reach}
theorem arg_bytes (hv : Value.okWide Try.prog W r b0 34 v) (h : DataW.Trod enc Try.prog W base spare held 34 v x ps) :
    ∃ A c l, v = .slice A l.length c ∧ Kd.C (Kd.int .u8) W A l.length l ∧ l.length ≤ c ∧ ∀ x ∈ l, 0 ≤ x ∧ x < 256 := by
  obtain ⟨A, c, l, e, h1, h2⟩ := arg_slice Try.underlying34 oBs hv h
  refine ⟨A, c, l.map Subtype.val, by rw [e, List.length_map], by rw [List.length_map]; exact C_map h1, by rw [List.length_map]; exact h2, fun x hx => ?_⟩
  obtain ⟨y, _, rfl⟩ := List.mem_map.1 hx
  exact y.2
end
end Go.Proofs.Ytpdnabhpkdchjaa.Open
namespace Go.Proofs.Ytpdnabhpkdchjaa.P
open Go.RowKit Go.Proofs.YtpdnabhpkdchjaaW.PrintWords Go.Proofs.YtpdnabhpkdchjaaW.PrintLast Go.Proofs.YtpdnabhpkdchjaaW.PrintMore
attribute [local go_sem] max2_int min2_int max_two min_two max_three min_three max_four min_four
set_option linter.unusedVariables false
set_option linter.unusedSimpArgs false
def laws_wByte.f (l0:List Int) (a1:Int):Option (Int):=if (l0.length:Int)=0 then (some 0) else (if 0≤(Int.tmod a1 (l0.length:Int)) then (if (Int.tmod a1 (l0.length:Int))<(l0.length:Int) then (some (wrap64 (rd l0 (Int.tmod a1 (l0.length:Int))))) else (none)) else (none))
set_option maxHeartbeats 8000000 in
set_option maxRecDepth 100000 in
theorem laws_wByte.calls (A0:Option Addr) (c0:Nat) (l0:List Int) (a1:Int) (r:Int) (w:World) (hr0:Kd.C (Kd.int .u8) w A0 l0.length l0) (hc0:l0.length≤c0) (h:laws_wByte.f l0 a1=some r) :
  Calls Try.prog 64 #[.slice A0 l0.length c0,.int .i64 a1] w fun e w'=>e=.returned (.int .i64 r)∧Drawn0 w w':=by
 have HR0:=Aside0.mk hr0
 have HC0:=Aside0.mk hc0
 clear hr0 hc0
 have H:(if (l0.length:Int)=0 then (some 0) else (if 0≤(Int.tmod a1 (l0.length:Int)) then (if (Int.tmod a1 (l0.length:Int))<(l0.length:Int) then (some (wrap64 (rd l0 (Int.tmod a1 (l0.length:Int))))) else (none)) else (none)))=some r:=h
 clear h
 by_cases c3:(l0.length:Int)=0
 ·rw [if_pos c3] at H
  have c3b0:((l0.length:Int)==0)=true:=beq_iff_eq.mpr c3
  have c3b1:((l0.length:Int) != 0)=false:=bne_eq_false_iff_eq.mpr c3
  clear c3
  obtain rfl:=Option.some.inj H
  go_enter Try.func64,Try.ntmps64
  go_wp2
  go_ret
  exact ⟨by first|rfl|(simp;done)|(simp [*];done),by repeat (first|exact Drawn0.refl _|apply Drawn0.step)⟩
 rw [if_neg c3] at H
 have c3b0:((l0.length:Int)==0)=false:=beq_eq_false_iff_ne.mpr c3
 have c3b1:((l0.length:Int) != 0)=true:=bne_iff_ne.mpr c3
 have c3b2:¬ (l0=[]):=fun h_=>c3 (by rw [h_];rfl)
 obtain ⟨ji4,hji4⟩:∃ j_:Int,(Int.tmod a1 (l0.length:Int))=j_:=⟨_,rfl⟩
 replace H:(if 0≤(ji4) then (if (ji4)<(l0.length:Int) then (some (wrap64 (rd l0 (ji4)))) else (none)) else (none))=some r:=by first|(rw [hji4] at H;exact H)|(simp only [hji4] at H ⊢;exact H)
 by_cases c5:0≤(ji4)
 ·rw [if_pos c5] at H
  have c5b0:decide (0≤(ji4))=true:=decide_eq_true c5
  clear c5
  by_cases c6:(ji4)<(l0.length:Int)
  ·rw [if_pos c6] at H
   have c6b0:decide ((ji4)<(l0.length:Int))=true:=decide_eq_true c6
   clear c6
   obtain rfl:=Option.some.inj H
   have p902:0≤((ji4):Int):=of_decide_eq_true (by first|(with_reducible assumption)|assumption)
   have q902:(ji4)<(l0.length:Int):=of_decide_eq_true (by first|(with_reducible assumption)|assumption)
   obtain ⟨ad902,e902,hx902_0⟩:=Kd.at_int HR0.out (ji4) p902 q902
   cases e902
   replace p902:=eq_true p902
   replace q902:=eq_true q902
   go_enter Try.func64,Try.ntmps64
   go_wp2
   go_ret
   exact ⟨by first|rfl|(simp;done)|(simp only [← hji4] <;> (first|rfl|simp))|(simp [*];done),by repeat (first|exact Drawn0.refl _|apply Drawn0.step)⟩
  rw [if_neg c6] at H
  exact absurd H (by simp)
 rw [if_neg c5] at H
 exact absurd H (by simp)
end Go.Proofs.Ytpdnabhpkdchjaa.P
