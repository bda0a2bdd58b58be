/- The statement FnExactStateOk holds of the given program, for every argument; there are no conditions. (Part 5 of 6.) -/
import Derived.Test.YtpdnabhpkdchjaaBFnExactStateOk4
namespace Go.Proofs.Ytpdnabhpkdchjaa.P
open Go.RowKit Go.Proofs.YtpdnabhpkdchjaaW.PrintWords Go.Proofs.YtpdnabhpkdchjaaW.PrintLast Go.Proofs.YtpdnabhpkdchjaaW.PrintMore
attribute [local go_sem] max2_int min2_int max_two min_two max_three min_three max_four min_four
set_option linter.unusedVariables false
set_option linter.unusedSimpArgs false
mutual
def spec_StateOk.j0 : Nat → Bool → Int → List (S88) → Bool → List (S50) → List Bool → Option (Bool)
 | 0, _, _, _, _, _, _ => none
 | k + 1, x31, x244000, x244001, x245000, x245001, x245002 => if x31 = true then (some false) else (spec_StateOk.l0 k x245001 (x245001.length : Int) 0 x244000 x244001 x245000 x245001 x245002)
def spec_StateOk.l0 : Nat → List (S50) → Int → Int → Int → List (S88) → Bool → List (S50) → List Bool → Option (Bool)
 | 0, _, _, _, _, _, _, _, _ => none
 | k + 1, x33, x34, x35, x244000, x244001, x245000, x245001, x245002 => if x35 < x34 then (if 0 ≤ x35 then (if x35 < (x33.length : Int) then ((spec_l1in.f ((rd_T50 x33 x35).f1) (-1000000) 1000000).bind fun t248 => (if t248 = true then ((spec_l1in.f ((rd_T50 x33 x35).f4) (-1) 1).bind fun t249 => (if t249 = true then ((spec_l2told.f k x244000 x244001 x245002 x35 ((rd_T50 x33 x35).f0) ((rd_T50 x33 x35).f1) ((rd_T50 x33 x35).f2) ((rd_T50 x33 x35).f3) ((rd_T50 x33 x35).f4)).bind fun t250 => (spec_StateOk.j2 k x35 x33 x34 x35 (((rd_T50 x33 x35).f0) != t250) x244000 x244001 x245000 x245001 x245002 ((rd_T50 x33 x35).f0) ((rd_T50 x33 x35).f1) ((rd_T50 x33 x35).f2) ((rd_T50 x33 x35).f3) ((rd_T50 x33 x35).f4))) else (spec_StateOk.j2 k x35 x33 x34 x35 true x244000 x244001 x245000 x245001 x245002 ((rd_T50 x33 x35).f0) ((rd_T50 x33 x35).f1) ((rd_T50 x33 x35).f2) ((rd_T50 x33 x35).f3) ((rd_T50 x33 x35).f4)))) else (spec_StateOk.j2 k x35 x33 x34 x35 true x244000 x244001 x245000 x245001 x245002 ((rd_T50 x33 x35).f0) ((rd_T50 x33 x35).f1) ((rd_T50 x33 x35).f2) ((rd_T50 x33 x35).f3) ((rd_T50 x33 x35).f4)))) else (none)) else (none)) else (some true)
def spec_StateOk.j2 : Nat → Int → List (S50) → Int → Int → Bool → Int → List (S88) → Bool → List (S50) → List Bool → Int → Int → Bool → Bool → Int → Option (Bool)
 | 0, _, _, _, _, _, _, _, _, _, _, _, _, _, _, _ => none
 | k + 1, x5, x33, x34, x35, x60, x244000, x244001, x245000, x245001, x245002, x248000, x248001, x248002, x248003, x248004 => if x60 = true then (some false) else (if x248001 < 0 then (if x248002 = true then ((spec_l2dead.f k x244000 x244001 x245002 x5).bind fun t251 => (if t251 = true then (if x248003 = true then (if x248001 = 0 then (if x248004 = (-1) then (spec_StateOk.l0 k x33 x34 (wrap64 (x35 + 1)) x244000 x244001 x245000 x245001 x245002) else (spec_StateOk.l0 k x33 x34 (wrap64 (x35 + 1)) x244000 x244001 x245000 x245001 x245002)) else (spec_StateOk.l0 k x33 x34 (wrap64 (x35 + 1)) x244000 x244001 x245000 x245001 x245002)) else (spec_StateOk.l0 k x33 x34 (wrap64 (x35 + 1)) x244000 x244001 x245000 x245001 x245002)) else (if x248003 = true then (if x248001 = 0 then (if x248004 = (-1) then (spec_StateOk.l0 k x33 x34 (wrap64 (x35 + 1)) x244000 x244001 x245000 x245001 x245002) else (spec_StateOk.l0 k x33 x34 (wrap64 (x35 + 1)) x244000 x244001 x245000 x245001 x245002)) else (spec_StateOk.l0 k x33 x34 (wrap64 (x35 + 1)) x244000 x244001 x245000 x245001 x245002)) else (spec_StateOk.l0 k x33 x34 (wrap64 (x35 + 1)) x244000 x244001 x245000 x245001 x245002)))) else (some false)) else ((spec_l2dead.f k x244000 x244001 x245002 x5).bind fun t252 => (if t252 = true then (if x248002 = true then (if x248003 = true then (if x248001 = 0 then (if x248004 = (-1) then (spec_StateOk.l0 k x33 x34 (wrap64 (x35 + 1)) x244000 x244001 x245000 x245001 x245002) else (spec_StateOk.l0 k x33 x34 (wrap64 (x35 + 1)) x244000 x244001 x245000 x245001 x245002)) else (spec_StateOk.l0 k x33 x34 (wrap64 (x35 + 1)) x244000 x244001 x245000 x245001 x245002)) else (spec_StateOk.l0 k x33 x34 (wrap64 (x35 + 1)) x244000 x244001 x245000 x245001 x245002)) else (some false)) else (if x248003 = true then (if x248001 = 0 then (if x248004 = (-1) then (if x248002 = true then (spec_StateOk.l0 k x33 x34 (wrap64 (x35 + 1)) x244000 x244001 x245000 x245001 x245002) else (some false)) else (spec_StateOk.l0 k x33 x34 (wrap64 (x35 + 1)) x244000 x244001 x245000 x245001 x245002)) else (spec_StateOk.l0 k x33 x34 (wrap64 (x35 + 1)) x244000 x244001 x245000 x245001 x245002)) else (spec_StateOk.l0 k x33 x34 (wrap64 (x35 + 1)) x244000 x244001 x245000 x245001 x245002)))))
end
def spec_StateOk.f (k : Nat) (a0_0 : Int) (l0_1 : List (S88)) (a1_0 : Bool) (l1_1 : List (S50)) (l1_2 : List Bool) : Option (Bool) := (spec_LayoutOk.f k a0_0 l0_1).bind fun t245 => (if t245 = 0 then (if a1_0 = true then (if (l1_1.length : Int) = a0_0 then (spec_StateOk.j0 k ((l1_2.length : Int) != (l0_1.length : Int)) a0_0 l0_1 a1_0 l1_1 l1_2) else (spec_StateOk.j0 k true a0_0 l0_1 a1_0 l1_1 l1_2)) else (spec_StateOk.j0 k true a0_0 l0_1 a1_0 l1_1 l1_2)) else (spec_StateOk.j0 k true a0_0 l0_1 a1_0 l1_1 l1_2))
def spec_StateOk.T6 : Bool × List (List Nat × List Nat) := (true, [([], []), ([0], [0]), ([1], [1]), ([2], [2]), ([3, 2], [3]), ([4], [4]), ([5, 4], [4, 5]), ([6, 4, 4], [4, 6]), ([7, 4], [4, 7]), ([4, 8], [4, 8]), ([9, 7], [9]), ([10], [10]), ([11, 10], [10, 11]), ([10], [10]), ([10], [10]), ([14, 10], [10, 14]), ([10], [10]), ([10], [10]), ([13, 15, 16, 17, 10, 10], [10, 13, 15, 16, 17]), ([12, 18, 10], [10, 12, 18]), ([10, 19], [10, 19])])
def spec_StateOk.B6 : List Nat := [0, 1, 3, 7, 15, 31, 63, 127, 255, 511, 1023, 2047, 4095, 2047, 2047, 18431, 2047, 2047, 255999, 524287, 1048575]
theorem spec_StateOk.tab6 : rtab .any (opsOf Try.f56 6) = spec_StateOk.T6 := by kernel_rfl
theorem spec_StateOk.bits6 : waitsOk spec_StateOk.T6.2 spec_StateOk.B6 = true := by kernel_rfl
set_option maxHeartbeats 8000000 in
set_option maxRecDepth 100000 in
theorem spec_StateOk.calls (k : Nat) (a0_0 : Int) (A0_1 : Option Addr) (c0_1 : Nat) (l0_1 : List (S88)) (a1_0 : Bool) (A1_1 : Option Addr) (c1_1 : Nat) (l1_1 : List (S50)) (A1_2 : Option Addr) (c1_2 : Nat) (l1_2 : List Bool) (r : Bool) (w : World) (hr0_1 : Kd.C k88 w A0_1 l0_1.length l0_1) (hc0_1 : l0_1.length ≤ c0_1) (hr1_1 : Kd.C k50 w A1_1 l1_1.length l1_1) (hc1_1 : l1_1.length ≤ c1_1) (hr1_2 : Kd.C Kd.bool w A1_2 l1_2.length l1_2) (hc1_2 : l1_2.length ≤ c1_2) (h : spec_StateOk.f k a0_0 l0_1 a1_0 l1_1 l1_2 = some r) :
  Calls Try.prog 56 #[.agg #[.int .i64 a0_0, .slice A0_1 l0_1.length c0_1], .agg #[.bool a1_0, .slice A1_1 l1_1.length c1_1, .slice A1_2 l1_2.length c1_2]] w fun e w' => e = .returned (.bool r) ∧ Below w.heap.size w w' := by
 have hu30 := Try.underlying30
 have hu46 := Try.underlying46
 have hu50 := Try.underlying50
 have HR0_1 := Aside0.mk hr0_1
 have HC0_1 := Aside0.mk hc0_1
 clear hr0_1 hc0_1
 have HR1_1 := Aside0.mk hr1_1
 have HC1_1 := Aside0.mk hc1_1
 clear hr1_1 hc1_1
 have HR1_2 := Aside0.mk hr1_2
 have HC1_2 := Aside0.mk hc1_2
 clear hr1_2 hc1_2
 have HB := Aside0.mk (Below.refl w.heap.size w)
 have H : ((spec_LayoutOk.f k a0_0 l0_1).bind fun t245 => (if t245 = 0 then (if a1_0 = true then (if (l1_1.length : Int) = a0_0 then (spec_StateOk.j0 k ((l1_2.length : Int) != (l0_1.length : Int)) a0_0 l0_1 a1_0 l1_1 l1_2) else (spec_StateOk.j0 k true a0_0 l0_1 a1_0 l1_1 l1_2)) else (spec_StateOk.j0 k true a0_0 l0_1 a1_0 l1_1 l1_2)) else (spec_StateOk.j0 k true a0_0 l0_1 a1_0 l1_1 l1_2))) = some r := h
 clear h
 have HC3 := Aside0.mk H
 clear H
 go_enter Try.func56, Try.ntmps56
 go_upto_region 1 with (first | ((with_reducible refine gate_dst (N := 2) rfl ?_); (try (refine gate_guard (by rfl) ?_; dsimp only)); refine box_event ?hg (N := 2) ?hd (cs := #[.int .i64 a0_0, .slice A0_1 l0_1.length c0_1]) (t := 30) ?hr ?_; (case hd => rfl); (case hg => rfl); (case hr => first | (go_simp; done) | (go_simp; rfl)); intro gb243 hg w4 hbox hb; have n0_ := Aside0.mk (below_step (by repeat (first | (with_reducible first | exact HB.out | apply below_alloc | apply pw_below_drewN | apply below_drew1) | exact HB.out)) hb); have n1_ := Aside0.mk (hbox); have n2_ := Aside0.mk ((by rw [hg]; exact (below_size (by repeat (first | (with_reducible first | exact HB.out | apply below_alloc | apply pw_below_drewN | apply below_drew1) | exact HB.out))) : w.heap.size ≤ gb243)); have n3_ := Aside0.mk ((by rw [hg]; exact (below_size (by repeat (first | (with_reducible first | exact HB.out | apply below_alloc | apply pw_below_drewN | apply below_drew1) | exact HB.out))) : w.heap.size ≤ gb243)); clear HB; have HB := n0_; have BK243 := n1_; have GW243 := n2_; have GE243 := n3_; clear n0_ n1_ n2_ n3_; clear hb hbox hg) | ((with_reducible refine gate_dst (N := 3) rfl ?_); (try (refine gate_guard (by rfl) ?_; dsimp only)); refine box_event ?hg (N := 3) ?hd (cs := #[.bool a1_0, .slice A1_1 l1_1.length c1_1, .slice A1_2 l1_2.length c1_2]) (t := 46) ?hr ?_; (case hd => rfl); (case hg => rfl); (case hr => first | (go_simp; done) | (go_simp; rfl)); intro gb244 hg w5 hbox hb; have n0_ := Aside0.mk (blk_below (g := gb243) (o := .cells #[.int .i64 a0_0, .slice A0_1 l0_1.length c0_1] 30 (0, 0)) (by (with_reducible repeat (first | refine blk_drewN ?_ _ | refine blk_drew ?_ | refine blk_alloc ?_ _)); exact BK243.out) hb); have n1_ := Aside0.mk (below_step (by repeat (first | (with_reducible first | exact HB.out | apply below_alloc | apply pw_below_drewN | apply below_drew1 | refine below_set ?_ GE243.out) | exact HB.out)) hb); have n2_ := Aside0.mk (hbox); have n3_ := Aside0.mk ((by rw [hg]; exact (below_size (by repeat (first | (with_reducible first | exact HB.out | apply below_alloc | apply pw_below_drewN | apply below_drew1 | refine below_set ?_ GE243.out) | exact HB.out))) : w.heap.size ≤ gb244)); have n4_ := Aside0.mk ((by rw [hg]; exact (below_size (by repeat (first | (with_reducible first | exact HB.out | apply below_alloc | apply pw_below_drewN | apply below_drew1 | refine below_set ?_ GE243.out) | exact HB.out))) : w.heap.size ≤ gb244)); have n5_ := Aside0.mk ((by rw [hg]; exact Nat.ne_of_lt (blk_lt (g := gb243) (o := .cells #[.int .i64 a0_0, .slice A0_1 l0_1.length c0_1] 30 (0, 0)) (by (with_reducible repeat (first | refine blk_drewN ?_ _ | refine blk_drew ?_ | refine blk_alloc ?_ _)); exact BK243.out)) : gb243 ≠ gb244)); have n6_ := Aside0.mk ((by rw [hg]; exact Nat.ne_of_gt (blk_lt (g := gb243) (o := .cells #[.int .i64 a0_0, .slice A0_1 l0_1.length c0_1] 30 (0, 0)) (by (with_reducible repeat (first | refine blk_drewN ?_ _ | refine blk_drew ?_ | refine blk_alloc ?_ _)); exact BK243.out)) : gb244 ≠ gb243)); clear BK243; clear HB; have BK243 := n0_; have HB := n1_; have BK244 := n2_; have GW244 := n3_; have GE244 := n4_; have NB243_244 := n5_; have NB244_243 := n6_; clear n0_ n1_ n2_ n3_ n4_ n5_ n6_; clear hb hbox hg))
 (try simp only [Act.put, List.setIfInBounds_toArray, List.set_cons_zero, List.set_cons_succ])
 go_cut [31] (fun v31 wc => ∃ (kq : Nat) (x31_2 : Bool), v31 = .bool x31_2 ∧ Aside0 (spec_StateOk.j0 kq x31_2 a0_0 l0_1 a1_0 l1_1 l1_2 = some r) ∧ Aside0 (kq ≤ k) ∧ Aside0 (wc.heap[gb243]? = some (.cells #[.int .i64 a0_0, (.slice A0_1 l0_1.length c0_1)] 30 (0, 0))) ∧ Aside0 (wc.heap[gb244]? = some (.cells #[.bool a1_0, (.slice A1_1 l1_1.length c1_1), (.slice A1_2 l1_2.length c1_2)] 46 (0, 0))) ∧ Aside0 (Below w.heap.size w wc))
 case first =>
  have H := HC3.out
  clear HC3
  replace H := Option.bind_eq_some_iff.mp H
  obtain ⟨t245, A60, H⟩ := H
  replace H : (if t245 = 0 then (if a1_0 = true then (if (l1_1.length : Int) = a0_0 then (spec_StateOk.j0 k ((l1_2.length : Int) != (l0_1.length : Int)) a0_0 l0_1 a1_0 l1_1 l1_2) else (spec_StateOk.j0 k true a0_0 l0_1 a1_0 l1_1 l1_2)) else (spec_StateOk.j0 k true a0_0 l0_1 a1_0 l1_1 l1_2)) else (spec_StateOk.j0 k true a0_0 l0_1 a1_0 l1_1 l1_2)) = some r := H
  have A6 := Aside0.mk A60
  clear A60
  by_cases c7 : t245 = 0
  ·rw [if_pos c7] at H
   have c7b0 : (t245 == 0) = true := beq_iff_eq.mpr c7
   have c7b1 : (t245 != 0) = false := bne_eq_false_iff_eq.mpr c7
   clear c7
   (first | rw [c7b0] | (simp only [i64_w, i32_w]; rw [c7b0]) | skip)
   by_cases c8 : a1_0 = true
   ·subst c8
    have H1 : (if (l1_1.length : Int) = a0_0 then (spec_StateOk.j0 k ((l1_2.length : Int) != (l0_1.length : Int)) a0_0 l0_1 true l1_1 l1_2) else (spec_StateOk.j0 k true a0_0 l0_1 true l1_1 l1_2)) = some r := by rw [if_pos rfl] at H; exact H
    clear H
    have H := H1
    clear H1
    by_cases c9 : (l1_1.length : Int) = a0_0
    ·rw [if_pos c9] at H
     have c9b0 : ((l1_1.length : Int) == a0_0) = true := beq_iff_eq.mpr c9
     have c9b1 : ((l1_1.length : Int) != a0_0) = false := bne_eq_false_iff_eq.mpr c9
     clear c9
     have H' := Aside0.mk H
     clear H
     have hnb10 := NB243_244.out
     have hnc10 := NB244_243.out
     have hcz11_0 : w5.cell? ⟨gb243, 0, none⟩ = some (.int .i64 a0_0) := (blk_cell BK243.out 0).trans rfl
     have hcz11_1 : w5.cell? ⟨gb243, 1, none⟩ = some (.slice A0_1 l0_1.length c0_1) := (blk_cell BK243.out 1).trans rfl
     have hfz11_0 := blk_frozen BK243.out 0
     have hfz11_1 := blk_frozen BK243.out 1
     go_wp2_with (first | ((with_reducible refine gate_callee (f := 23) rfl ?_); refine goesL_ (some 8) rfl rfl Try.func23 (by kernel_rfl) rfl #[.agg #[.int .i64 a0_0, .slice A0_1 l0_1.length c0_1]] rfl (by (try simp only [List.map_toArray, List.map_cons, List.map_nil]); first | done | rfl | (simp only [List.length_drop, List.length_take]; rfl)) ?_; (with_reducible refine (spec_LayoutOk.calls k a0_0 _ _ l0_1 t245 _ ?side1 ?side2 A6.out).mono ?_); (case side1 => repeat (first | exact (Kd.C_below HR0_1.out HB.out) | (with_reducible refine Kd.C_alloc ?_ _) | (with_reducible refine Kd.C_drewN ?_ _) | (with_reducible refine Kd.C_drew ?_))); (case side2 => exact HC0_1.out); rintro e w12 ⟨rfl, hb⟩; refine ⟨_, rfl, ?_⟩; have n0_ := Aside0.mk (blk_below (g := gb243) (o := .cells #[.int .i64 a0_0, .slice A0_1 l0_1.length c0_1] 30 (0, 0)) (by (with_reducible repeat (first | refine blk_drewN ?_ _ | refine blk_drew ?_ | refine blk_alloc ?_ _)); exact BK243.out) hb); have n1_ := Aside0.mk (blk_below (g := gb244) (o := .cells #[.bool true, .slice A1_1 l1_1.length c1_1, .slice A1_2 l1_2.length c1_2] 46 (0, 0)) (by (with_reducible repeat (first | refine blk_drewN ?_ _ | refine blk_drew ?_ | refine blk_alloc ?_ _)); exact BK244.out) hb); have n2_ := Aside0.mk (below_step (by repeat (first | (with_reducible first | exact HB.out | apply below_alloc | apply pw_below_drewN | apply below_drew1 | refine below_set ?_ GE243.out | refine below_set ?_ GE244.out) | exact HB.out)) hb); clear BK243; clear BK244; clear HB; have BK243 := n0_; have BK244 := n1_; have HB := n2_; clear n0_ n1_ n2_; (try clear hb); (try clear hb2); (try clear hk); (try clear hi); have hcz13_0 : w12.cell? ⟨gb244, 0, none⟩ = some (.bool true) := (blk_cell BK244.out 0).trans rfl; have hcz13_1 : w12.cell? ⟨gb244, 1, none⟩ = some (.slice A1_1 l1_1.length c1_1) := (blk_cell BK244.out 1).trans rfl; have hcz13_2 : w12.cell? ⟨gb244, 2, none⟩ = some (.slice A1_2 l1_2.length c1_2) := (blk_cell BK244.out 2).trans rfl; have hfz13_0 := blk_frozen BK244.out 0; have hfz13_1 := blk_frozen BK244.out 1; have hfz13_2 := blk_frozen BK244.out 2; have hcz14_0 : w12.cell? ⟨gb243, 0, none⟩ = some (.int .i64 a0_0) := (blk_cell BK243.out 0).trans rfl; have hcz14_1 : w12.cell? ⟨gb243, 1, none⟩ = some (.slice A0_1 l0_1.length c0_1) := (blk_cell BK243.out 1).trans rfl; have hfz14_0 := blk_frozen BK243.out 0; have hfz14_1 := blk_frozen BK243.out 1))
     go_meet
     case rel => exact ⟨_, (((l1_2.length : Int) != (l0_1.length : Int))), (by first | rfl | (simp; done) | (simp [*]; done)), H', ⟨by first | omega | exact Nat.le_refl _⟩, ⟨by (with_reducible repeat (first | refine blk_drewN ?_ _ | refine blk_drew ?_ | refine blk_alloc ?_ _)); exact BK243.out⟩, ⟨by (with_reducible repeat (first | refine blk_drewN ?_ _ | refine blk_drew ?_ | refine blk_alloc ?_ _)); exact BK244.out⟩, ⟨by repeat (first | (with_reducible first | exact HB.out | apply below_alloc | apply pw_below_drewN | apply below_drew1 | refine below_set ?_ GE243.out | refine below_set ?_ GE244.out) | exact HB.out)⟩⟩
    ·rw [if_neg c9] at H
     have c9b0 : ((l1_1.length : Int) == a0_0) = false := beq_eq_false_iff_ne.mpr c9
     have c9b1 : ((l1_1.length : Int) != a0_0) = true := bne_iff_ne.mpr c9
     have H' := Aside0.mk H
     clear H
     have hnb15 := NB243_244.out
     have hnc15 := NB244_243.out
     have hcz16_0 : w5.cell? ⟨gb243, 0, none⟩ = some (.int .i64 a0_0) := (blk_cell BK243.out 0).trans rfl
     have hcz16_1 : w5.cell? ⟨gb243, 1, none⟩ = some (.slice A0_1 l0_1.length c0_1) := (blk_cell BK243.out 1).trans rfl
     have hfz16_0 := blk_frozen BK243.out 0
     have hfz16_1 := blk_frozen BK243.out 1
     go_wp2_with (first | ((with_reducible refine gate_callee (f := 23) rfl ?_); refine goesL_ (some 8) rfl rfl Try.func23 (by kernel_rfl) rfl #[.agg #[.int .i64 a0_0, .slice A0_1 l0_1.length c0_1]] rfl (by (try simp only [List.map_toArray, List.map_cons, List.map_nil]); first | done | rfl | (simp only [List.length_drop, List.length_take]; rfl)) ?_; (with_reducible refine (spec_LayoutOk.calls k a0_0 _ _ l0_1 t245 _ ?side1 ?side2 A6.out).mono ?_); (case side1 => repeat (first | exact (Kd.C_below HR0_1.out HB.out) | (with_reducible refine Kd.C_alloc ?_ _) | (with_reducible refine Kd.C_drewN ?_ _) | (with_reducible refine Kd.C_drew ?_))); (case side2 => exact HC0_1.out); rintro e w17 ⟨rfl, hb⟩; refine ⟨_, rfl, ?_⟩; have n0_ := Aside0.mk (blk_below (g := gb243) (o := .cells #[.int .i64 a0_0, .slice A0_1 l0_1.length c0_1] 30 (0, 0)) (by (with_reducible repeat (first | refine blk_drewN ?_ _ | refine blk_drew ?_ | refine blk_alloc ?_ _)); exact BK243.out) hb); have n1_ := Aside0.mk (blk_below (g := gb244) (o := .cells #[.bool true, .slice A1_1 l1_1.length c1_1, .slice A1_2 l1_2.length c1_2] 46 (0, 0)) (by (with_reducible repeat (first | refine blk_drewN ?_ _ | refine blk_drew ?_ | refine blk_alloc ?_ _)); exact BK244.out) hb); have n2_ := Aside0.mk (below_step (by repeat (first | (with_reducible first | exact HB.out | apply below_alloc | apply pw_below_drewN | apply below_drew1 | refine below_set ?_ GE243.out | refine below_set ?_ GE244.out) | exact HB.out)) hb); clear BK243; clear BK244; clear HB; have BK243 := n0_; have BK244 := n1_; have HB := n2_; clear n0_ n1_ n2_; (try clear hb); (try clear hb2); (try clear hk); (try clear hi); have hcz18_0 : w17.cell? ⟨gb244, 0, none⟩ = some (.bool true) := (blk_cell BK244.out 0).trans rfl; have hcz18_1 : w17.cell? ⟨gb244, 1, none⟩ = some (.slice A1_1 l1_1.length c1_1) := (blk_cell BK244.out 1).trans rfl; have hcz18_2 : w17.cell? ⟨gb244, 2, none⟩ = some (.slice A1_2 l1_2.length c1_2) := (blk_cell BK244.out 2).trans rfl; have hfz18_0 := blk_frozen BK244.out 0; have hfz18_1 := blk_frozen BK244.out 1; have hfz18_2 := blk_frozen BK244.out 2; have hcz19_0 : w17.cell? ⟨gb243, 0, none⟩ = some (.int .i64 a0_0) := (blk_cell BK243.out 0).trans rfl; have hcz19_1 : w17.cell? ⟨gb243, 1, none⟩ = some (.slice A0_1 l0_1.length c0_1) := (blk_cell BK243.out 1).trans rfl; have hfz19_0 := blk_frozen BK243.out 0; have hfz19_1 := blk_frozen BK243.out 1))
     go_meet
     case rel => exact ⟨_, (true), (by first | rfl | (simp; done) | (simp [*]; done)), H', ⟨by first | omega | exact Nat.le_refl _⟩, ⟨by (with_reducible repeat (first | refine blk_drewN ?_ _ | refine blk_drew ?_ | refine blk_alloc ?_ _)); exact BK243.out⟩, ⟨by (with_reducible repeat (first | refine blk_drewN ?_ _ | refine blk_drew ?_ | refine blk_alloc ?_ _)); exact BK244.out⟩, ⟨by repeat (first | (with_reducible first | exact HB.out | apply below_alloc | apply pw_below_drewN | apply below_drew1 | refine below_set ?_ GE243.out | refine below_set ?_ GE244.out) | exact HB.out)⟩⟩
   ·replace c8 := Bool.eq_false_iff.mpr c8
    subst c8
    have H1 : (spec_StateOk.j0 k true a0_0 l0_1 false l1_1 l1_2) = some r := by rw [if_neg (show ¬ (false = true) by decide)] at H; exact H
    clear H
    have H := H1
    clear H1
    have H' := Aside0.mk H
    clear H
    have hnb20 := NB243_244.out
    have hnc20 := NB244_243.out
    have hcz21_0 : w5.cell? ⟨gb243, 0, none⟩ = some (.int .i64 a0_0) := (blk_cell BK243.out 0).trans rfl
    have hcz21_1 : w5.cell? ⟨gb243, 1, none⟩ = some (.slice A0_1 l0_1.length c0_1) := (blk_cell BK243.out 1).trans rfl
    have hfz21_0 := blk_frozen BK243.out 0
    have hfz21_1 := blk_frozen BK243.out 1
    go_wp2_with (first | ((with_reducible refine gate_callee (f := 23) rfl ?_); refine goesL_ (some 8) rfl rfl Try.func23 (by kernel_rfl) rfl #[.agg #[.int .i64 a0_0, .slice A0_1 l0_1.length c0_1]] rfl (by (try simp only [List.map_toArray, List.map_cons, List.map_nil]); first | done | rfl | (simp only [List.length_drop, List.length_take]; rfl)) ?_; (with_reducible refine (spec_LayoutOk.calls k a0_0 _ _ l0_1 t245 _ ?side1 ?side2 A6.out).mono ?_); (case side1 => repeat (first | exact (Kd.C_below HR0_1.out HB.out) | (with_reducible refine Kd.C_alloc ?_ _) | (with_reducible refine Kd.C_drewN ?_ _) | (with_reducible refine Kd.C_drew ?_))); (case side2 => exact HC0_1.out); rintro e w22 ⟨rfl, hb⟩; refine ⟨_, rfl, ?_⟩; have n0_ := Aside0.mk (blk_below (g := gb243) (o := .cells #[.int .i64 a0_0, .slice A0_1 l0_1.length c0_1] 30 (0, 0)) (by (with_reducible repeat (first | refine blk_drewN ?_ _ | refine blk_drew ?_ | refine blk_alloc ?_ _)); exact BK243.out) hb); have n1_ := Aside0.mk (blk_below (g := gb244) (o := .cells #[.bool false, .slice A1_1 l1_1.length c1_1, .slice A1_2 l1_2.length c1_2] 46 (0, 0)) (by (with_reducible repeat (first | refine blk_drewN ?_ _ | refine blk_drew ?_ | refine blk_alloc ?_ _)); exact BK244.out) hb); have n2_ := Aside0.mk (below_step (by repeat (first | (with_reducible first | exact HB.out | apply below_alloc | apply pw_below_drewN | apply below_drew1 | refine below_set ?_ GE243.out | refine below_set ?_ GE244.out) | exact HB.out)) hb); clear BK243; clear BK244; clear HB; have BK243 := n0_; have BK244 := n1_; have HB := n2_; clear n0_ n1_ n2_; (try clear hb); (try clear hb2); (try clear hk); (try clear hi); have hcz23_0 : w22.cell? ⟨gb244, 0, none⟩ = some (.bool false) := (blk_cell BK244.out 0).trans rfl; have hcz23_1 : w22.cell? ⟨gb244, 1, none⟩ = some (.slice A1_1 l1_1.length c1_1) := (blk_cell BK244.out 1).trans rfl; have hcz23_2 : w22.cell? ⟨gb244, 2, none⟩ = some (.slice A1_2 l1_2.length c1_2) := (blk_cell BK244.out 2).trans rfl; have hfz23_0 := blk_frozen BK244.out 0; have hfz23_1 := blk_frozen BK244.out 1; have hfz23_2 := blk_frozen BK244.out 2))
    go_meet
    case rel => exact ⟨_, (true), (by first | rfl | (simp; done) | (simp [*]; done)), H', ⟨by first | omega | exact Nat.le_refl _⟩, ⟨by (with_reducible repeat (first | refine blk_drewN ?_ _ | refine blk_drew ?_ | refine blk_alloc ?_ _)); exact BK243.out⟩, ⟨by (with_reducible repeat (first | refine blk_drewN ?_ _ | refine blk_drew ?_ | refine blk_alloc ?_ _)); exact BK244.out⟩, ⟨by repeat (first | (with_reducible first | exact HB.out | apply below_alloc | apply pw_below_drewN | apply below_drew1 | refine below_set ?_ GE243.out | refine below_set ?_ GE244.out) | exact HB.out)⟩⟩
  ·rw [if_neg c7] at H
   have c7b0 : (t245 == 0) = false := beq_eq_false_iff_ne.mpr c7
   have c7b1 : (t245 != 0) = true := bne_iff_ne.mpr c7
   (first | rw [c7b0] | (simp only [i64_w, i32_w]; rw [c7b0]) | skip)
   have H' := Aside0.mk H
   clear H
   have hnb24 := NB243_244.out
   have hnc24 := NB244_243.out
   have hcz25_0 : w5.cell? ⟨gb243, 0, none⟩ = some (.int .i64 a0_0) := (blk_cell BK243.out 0).trans rfl
   have hcz25_1 : w5.cell? ⟨gb243, 1, none⟩ = some (.slice A0_1 l0_1.length c0_1) := (blk_cell BK243.out 1).trans rfl
   have hfz25_0 := blk_frozen BK243.out 0
   have hfz25_1 := blk_frozen BK243.out 1
   go_wp2_with (first | ((with_reducible refine gate_callee (f := 23) rfl ?_); refine goesL_ (some 8) rfl rfl Try.func23 (by kernel_rfl) rfl #[.agg #[.int .i64 a0_0, .slice A0_1 l0_1.length c0_1]] rfl (by (try simp only [List.map_toArray, List.map_cons, List.map_nil]); first | done | rfl | (simp only [List.length_drop, List.length_take]; rfl)) ?_; (with_reducible refine (spec_LayoutOk.calls k a0_0 _ _ l0_1 t245 _ ?side1 ?side2 A6.out).mono ?_); (case side1 => repeat (first | exact (Kd.C_below HR0_1.out HB.out) | (with_reducible refine Kd.C_alloc ?_ _) | (with_reducible refine Kd.C_drewN ?_ _) | (with_reducible refine Kd.C_drew ?_))); (case side2 => exact HC0_1.out); rintro e w26 ⟨rfl, hb⟩; refine ⟨_, rfl, ?_⟩; have n0_ := Aside0.mk (blk_below (g := gb243) (o := .cells #[.int .i64 a0_0, .slice A0_1 l0_1.length c0_1] 30 (0, 0)) (by (with_reducible repeat (first | refine blk_drewN ?_ _ | refine blk_drew ?_ | refine blk_alloc ?_ _)); exact BK243.out) hb); have n1_ := Aside0.mk (blk_below (g := gb244) (o := .cells #[.bool a1_0, .slice A1_1 l1_1.length c1_1, .slice A1_2 l1_2.length c1_2] 46 (0, 0)) (by (with_reducible repeat (first | refine blk_drewN ?_ _ | refine blk_drew ?_ | refine blk_alloc ?_ _)); exact BK244.out) hb); have n2_ := Aside0.mk (below_step (by repeat (first | (with_reducible first | exact HB.out | apply below_alloc | apply pw_below_drewN | apply below_drew1 | refine below_set ?_ GE243.out | refine below_set ?_ GE244.out) | exact HB.out)) hb); clear BK243; clear BK244; clear HB; have BK243 := n0_; have BK244 := n1_; have HB := n2_; clear n0_ n1_ n2_; (try clear hb); (try clear hb2); (try clear hk); (try clear hi)))
   go_meet
   case rel => exact ⟨_, (true), (by first | rfl | (simp; done) | (simp [*]; done)), H', ⟨by first | omega | exact Nat.le_refl _⟩, ⟨by (with_reducible repeat (first | refine blk_drewN ?_ _ | refine blk_drew ?_ | refine blk_alloc ?_ _)); exact BK243.out⟩, ⟨by (with_reducible repeat (first | refine blk_drewN ?_ _ | refine blk_drew ?_ | refine blk_alloc ?_ _)); exact BK244.out⟩, ⟨by repeat (first | (with_reducible first | exact HB.out | apply below_alloc | apply pw_below_drewN | apply below_drew1 | refine below_set ?_ GE243.out | refine below_set ?_ GE244.out) | exact HB.out)⟩⟩
 case rest =>
  clear HC3
  try clear c1
  try clear c2
  try clear p2
  try clear c5
  try clear c7
  try clear c7b0
  try clear c7b1
  try clear c8
  try clear c9
  try clear c9b0
  try clear c9b1
  try clear c10
  try clear c15
  try clear c20
  try clear c23
  try clear c24
  try clear hcz11_0
  try clear hcz11_1
  try clear hcz13_0
  try clear hcz13_1
  try clear hcz13_2
  try clear hcz14_0
  try clear hcz14_1
  try clear hcz16_0
  try clear hcz16_1
  try clear hcz18_0
  try clear hcz18_1
  try clear hcz18_2
  try clear hcz19_0
  try clear hcz19_1
  try clear hcz21_0
  try clear hcz21_1
  try clear hcz23_0
  try clear hcz23_1
  try clear hcz23_2
  try clear hcz25_0
  try clear hcz25_1
  try clear hfz11_0
  try clear hfz11_1
  try clear hfz13_0
  try clear hfz13_1
  try clear hfz13_2
  try clear hfz14_0
  try clear hfz14_1
  try clear hfz16_0
  try clear hfz16_1
  try clear hfz18_0
  try clear hfz18_1
  try clear hfz18_2
  try clear hfz19_0
  try clear hfz19_1
  try clear hfz21_0
  try clear hfz21_1
  try clear hfz23_0
  try clear hfz23_1
  try clear hfz23_2
  try clear hfz25_0
  try clear hfz25_1
  obtain ⟨kq, x31_2, rfl, HA, HJ2, BK243, BK244, HB⟩ := hcut
  cases kq with
  | zero => exact absurd HA.out (by simp [spec_StateOk.j0])
  | succ kj2 =>
   have H := HA.out
   clear HA
   simp only [spec_StateOk.j0] at H
   by_cases c27 : x31_2 = true
   ·subst c27
    have H1 : (some false) = some r := by rw [if_pos rfl] at H; exact H
    clear H
    have H := H1
    clear H1
    obtain rfl := Option.some.inj H
    go_wp2
    go_ret
    exact ⟨by first | rfl | (simp [errW_none, errW_some] <;> rfl) | (simp [*, errW_none, errW_some] <;> rfl), by repeat (first | (with_reducible first | exact HB.out | apply below_alloc | apply pw_below_drewN | apply below_drew1 | refine below_set ?_ GE243.out | refine below_set ?_ GE244.out) | exact HB.out)⟩
   ·replace c27 := Bool.eq_false_iff.mpr c27
    subst c27
    have H1 : (spec_StateOk.l0 kj2 l1_1 (l1_1.length : Int) 0 a0_0 l0_1 a1_0 l1_1 l1_2) = some r := by rw [if_neg (show ¬ (false = true) by decide)] at H; exact H
    clear H
    have H := H1
    clear H1
    have H' := Aside0.mk H
    clear H
    have hnb28 := NB244_243.out
    have hnc28 := NB243_244.out
    have hcz29_0 : wc.cell? ⟨gb244, 0, none⟩ = some (.bool a1_0) := (blk_cell BK244.out 0).trans rfl
    have hcz29_1 : wc.cell? ⟨gb244, 1, none⟩ = some (.slice A1_1 l1_1.length c1_1) := (blk_cell BK244.out 1).trans rfl
    have hcz29_2 : wc.cell? ⟨gb244, 2, none⟩ = some (.slice A1_2 l1_2.length c1_2) := (blk_cell BK244.out 2).trans rfl
    have hfz29_0 := blk_frozen BK244.out 0
    have hfz29_1 := blk_frozen BK244.out 1
    have hfz29_2 := blk_frozen BK244.out 2
    go_wp2
    go_loopg [35] kj2 (fun kq v35 w' => ∃ (x35_2 : Int), v35 = .int .i64 x35_2 ∧ Aside0 (spec_StateOk.l0 kq l1_1 (l1_1.length : Int) x35_2 a0_0 l0_1 a1_0 l1_1 l1_2 = some r) ∧ Aside0 (kq ≤ kj2) ∧ Aside0 (w'.heap[gb243]? = some (.cells #[.int .i64 a0_0, (.slice A0_1 l0_1.length c0_1)] 30 (0, 0))) ∧ Aside0 (w'.heap[gb244]? = some (.cells #[.bool a1_0, (.slice A1_1 l1_1.length c1_1), (.slice A1_2 l1_2.length c1_2)] 46 (0, 0))) ∧ Aside0 (Below w.heap.size w w'))
    case atStart => exact ⟨(0), (by first | rfl | (simp; done) | (simp [*]; done)), H', ⟨Nat.le_refl _⟩, ⟨by (with_reducible repeat (first | refine blk_drewN ?_ _ | refine blk_drew ?_ | refine blk_alloc ?_ _)); exact BK243.out⟩, ⟨by (with_reducible repeat (first | refine blk_drewN ?_ _ | refine blk_drew ?_ | refine blk_alloc ?_ _)); exact BK244.out⟩, ⟨by repeat (first | (with_reducible first | exact HB.out | apply below_alloc | apply pw_below_drewN | apply below_drew1 | refine below_set ?_ GE243.out | refine below_set ?_ GE244.out) | exact HB.out)⟩⟩
    case round =>
     clear H'
     try clear c1
     try clear c2
     try clear p2
     try clear c5
     try clear c7
     try clear c7b0
     try clear c7b1
     try clear c8
     try clear c9
     try clear c9b0
     try clear c9b1
     try clear c10
     try clear c15
     try clear c20
     try clear c23
     try clear c24
     try clear c27
     try clear c28
     try clear hcz11_0
     try clear hcz11_1
     try clear hcz13_0
     try clear hcz13_1
     try clear hcz13_2
     try clear hcz14_0
     try clear hcz14_1
     try clear hcz16_0
     try clear hcz16_1
     try clear hcz18_0
     try clear hcz18_1
     try clear hcz18_2
     try clear hcz19_0
     try clear hcz19_1
     try clear hcz21_0
     try clear hcz21_1
     try clear hcz23_0
     try clear hcz23_1
     try clear hcz23_2
     try clear hcz25_0
     try clear hcz25_1
     try clear hcz29_0
     try clear hcz29_1
     try clear hcz29_2
     try clear hfz11_0
     try clear hfz11_1
     try clear hfz13_0
     try clear hfz13_1
     try clear hfz13_2
     try clear hfz14_0
     try clear hfz14_1
     try clear hfz16_0
     try clear hfz16_1
     try clear hfz18_0
     try clear hfz18_1
     try clear hfz18_2
     try clear hfz19_0
     try clear hfz19_1
     try clear hfz21_0
     try clear hfz21_1
     try clear hfz23_0
     try clear hfz23_1
     try clear hfz23_2
     try clear hfz25_0
     try clear hfz25_1
     try clear hfz29_0
     try clear hfz29_1
     try clear hfz29_2
     try clear p2
     obtain ⟨x35_2, rfl, HA, HK2, BK243, BK244, HB⟩ := hrel
     cases gk with
     | zero => exact absurd HA.out (by simp [spec_StateOk.l0])
     | succ k2 =>
      have H := HA.out
      clear HA
      simp only [spec_StateOk.l0] at H
      by_cases c30 : x35_2 < (l1_1.length : Int)
      ·rw [if_pos c30] at H
       have c30b0 : decide (x35_2 < (l1_1.length : Int)) = true := decide_eq_true c30
       clear c30
       by_cases c31 : 0 ≤ x35_2
       ·rw [if_pos c31] at H
        have c31b0 : decide (0 ≤ x35_2) = true := decide_eq_true c31
        clear c31
        by_cases c32 : x35_2 < (l1_1.length : Int)
        ·rw [if_pos c32] at H
         have c32b0 : decide (x35_2 < (l1_1.length : Int)) = true := decide_eq_true c32
         clear c32
         have HC33 := Aside0.mk H
         clear H
         have p246 : 0 ≤ (x35_2 : Int) := of_decide_eq_true (by first | (with_reducible assumption) | assumption)
         have q246 : x35_2 < (l1_1.length : Int) := of_decide_eq_true (by first | (with_reducible assumption) | assumption)
         obtain ⟨ad246, e246, hx246_0, hx246_1, hx246_2, hx246_3, hx246_4⟩ := at_T50 HR1_1.out x35_2 p246 q246
         cases e246
         replace hx246_0 := (HB.out.cell (World.block_lt_of_cell? w _ hx246_0)).trans hx246_0
         replace hx246_1 := (HB.out.cell (World.block_lt_of_cell? w _ hx246_1)).trans hx246_1
         replace hx246_2 := (HB.out.cell (World.block_lt_of_cell? w _ hx246_2)).trans hx246_2
         replace hx246_3 := (HB.out.cell (World.block_lt_of_cell? w _ hx246_3)).trans hx246_3
         replace hx246_4 := (HB.out.cell (World.block_lt_of_cell? w _ hx246_4)).trans hx246_4
         replace p246 := eq_true p246
         replace q246 := eq_true q246
         go_upto_region 6 with (first | ((with_reducible refine gate_dst (N := 6) rfl ?_); (try (refine gate_guard (by rfl) ?_; dsimp only)); refine box_event ?hg (N := 6) ?hd (cs := #[.int .i64 0, .int .i64 0, .bool false, .bool false, .int .i64 0]) (t := 50) ?hr ?_; (case hd => rfl); (case hg => rfl); (case hr => first | (go_simp; done) | (go_simp; rfl)); intro gb247 hg w34 hbox hb; have n0_ := Aside0.mk (blk_below (g := gb243) (o := .cells #[.int .i64 a0_0, .slice A0_1 l0_1.length c0_1] 30 (0, 0)) (by (with_reducible repeat (first | refine blk_drewN ?_ _ | refine blk_drew ?_ | refine blk_alloc ?_ _)); exact BK243.out) hb); have n1_ := Aside0.mk (blk_below (g := gb244) (o := .cells #[.bool a1_0, .slice (some ad246) l1_1.length c1_1, .slice A1_2 l1_2.length c1_2] 46 (0, 0)) (by (with_reducible repeat (first | refine blk_drewN ?_ _ | refine blk_drew ?_ | refine blk_alloc ?_ _)); exact BK244.out) hb); have n2_ := Aside0.mk (below_step (by repeat (first | (with_reducible first | exact HB.out | apply below_alloc | apply pw_below_drewN | apply below_drew1 | refine below_set ?_ GE243.out | refine below_set ?_ GE244.out) | exact HB.out)) hb); have n3_ := Aside0.mk (hbox); have n4_ := Aside0.mk ((by rw [hg]; exact (below_size (by repeat (first | (with_reducible first | exact HB.out | apply below_alloc | apply pw_below_drewN | apply below_drew1 | refine below_set ?_ GE243.out | refine below_set ?_ GE244.out) | exact HB.out))) : w.heap.size ≤ gb247)); have n5_ := Aside0.mk ((by rw [hg]; exact (below_size (by repeat (first | (with_reducible first | exact HB.out | apply below_alloc | apply pw_below_drewN | apply below_drew1 | refine below_set ?_ GE243.out | refine below_set ?_ GE244.out) | exact HB.out))) : w.heap.size ≤ gb247)); have n6_ := Aside0.mk ((by rw [hg]; exact Nat.ne_of_lt (blk_lt (g := gb243) (o := .cells #[.int .i64 a0_0, .slice A0_1 l0_1.length c0_1] 30 (0, 0)) (by (with_reducible repeat (first | refine blk_drewN ?_ _ | refine blk_drew ?_ | refine blk_alloc ?_ _)); exact BK243.out)) : gb243 ≠ gb247)); have n7_ := Aside0.mk ((by rw [hg]; exact Nat.ne_of_gt (blk_lt (g := gb243) (o := .cells #[.int .i64 a0_0, .slice A0_1 l0_1.length c0_1] 30 (0, 0)) (by (with_reducible repeat (first | refine blk_drewN ?_ _ | refine blk_drew ?_ | refine blk_alloc ?_ _)); exact BK243.out)) : gb247 ≠ gb243)); have n8_ := Aside0.mk ((by rw [hg]; exact Nat.ne_of_lt (blk_lt (g := gb244) (o := .cells #[.bool a1_0, .slice (some ad246) l1_1.length c1_1, .slice A1_2 l1_2.length c1_2] 46 (0, 0)) (by (with_reducible repeat (first | refine blk_drewN ?_ _ | refine blk_drew ?_ | refine blk_alloc ?_ _)); exact BK244.out)) : gb244 ≠ gb247)); have n9_ := Aside0.mk ((by rw [hg]; exact Nat.ne_of_gt (blk_lt (g := gb244) (o := .cells #[.bool a1_0, .slice (some ad246) l1_1.length c1_1, .slice A1_2 l1_2.length c1_2] 46 (0, 0)) (by (with_reducible repeat (first | refine blk_drewN ?_ _ | refine blk_drew ?_ | refine blk_alloc ?_ _)); exact BK244.out)) : gb247 ≠ gb244)); clear BK243; clear BK244; clear HB; have BK243 := n0_; have BK244 := n1_; have HB := n2_; have BK247 := n3_; have GW247 := n4_; have GE247 := n5_; have NB243_247 := n6_; have NB247_243 := n7_; have NB244_247 := n8_; have NB247_244 := n9_; clear n0_ n1_ n2_ n3_ n4_ n5_ n6_ n7_ n8_ n9_; clear hb hbox hg; have hnb35 := NB247_243.out; have hnc35 := NB243_247.out; have hnb36 := NB247_244.out; have hnc36 := NB244_247.out; have hcz37_0 : w34.cell? ⟨gb247, 0, none⟩ = some (.int .i64 0) := (blk_cell BK247.out 0).trans rfl; have hcz37_1 : w34.cell? ⟨gb247, 1, none⟩ = some (.int .i64 0) := (blk_cell BK247.out 1).trans rfl; have hcz37_2 : w34.cell? ⟨gb247, 2, none⟩ = some (.bool false) := (blk_cell BK247.out 2).trans rfl; have hcz37_3 : w34.cell? ⟨gb247, 3, none⟩ = some (.bool false) := (blk_cell BK247.out 3).trans rfl; have hcz37_4 : w34.cell? ⟨gb247, 4, none⟩ = some (.int .i64 0) := (blk_cell BK247.out 4).trans rfl; have hfz37_0 := blk_frozen BK247.out 0; have hfz37_1 := blk_frozen BK247.out 1; have hfz37_2 := blk_frozen BK247.out 2; have hfz37_3 := blk_frozen BK247.out 3; have hfz37_4 := blk_frozen BK247.out 4))
         (try simp only [Act.put, List.setIfInBounds_toArray, List.set_cons_zero, List.set_cons_succ])
         go_cut [60] (fun v60 wc => ∃ (kq : Nat) (x60_32 : Bool), v60 = .bool x60_32 ∧ Aside0 (spec_StateOk.j2 kq x35_2 l1_1 (l1_1.length : Int) x35_2 x60_32 a0_0 l0_1 a1_0 l1_1 l1_2 ((rd_T50 l1_1 x35_2).f0) ((rd_T50 l1_1 x35_2).f1) ((rd_T50 l1_1 x35_2).f2) ((rd_T50 l1_1 x35_2).f3) ((rd_T50 l1_1 x35_2).f4) = some r) ∧ Aside0 (kq ≤ k2) ∧ Aside0 (wc.heap[gb243]? = some (.cells #[.int .i64 a0_0, (.slice A0_1 l0_1.length c0_1)] 30 (0, 0))) ∧ Aside0 (wc.heap[gb244]? = some (.cells #[.bool a1_0, (.slice (some ad246) l1_1.length c1_1), (.slice A1_2 l1_2.length c1_2)] 46 (0, 0))) ∧ Aside0 (wc.heap[gb247]? = some (.cells #[.int .i64 ((rd_T50 l1_1 x35_2).f0), .int .i64 ((rd_T50 l1_1 x35_2).f1), .bool ((rd_T50 l1_1 x35_2).f2), .bool ((rd_T50 l1_1 x35_2).f3), .int .i64 ((rd_T50 l1_1 x35_2).f4)] 50 (0, 0))) ∧ Aside0 (Below w.heap.size w wc))
         case first =>
          have H := HC33.out
          clear HC33
          replace H := Option.bind_eq_some_iff.mp H
          obtain ⟨t248, A380, H⟩ := H
          replace H : (if t248 = true then ((spec_l1in.f ((rd_T50 l1_1 x35_2).f4) (-1) 1).bind fun t249 => (if t249 = true then ((spec_l2told.f k2 a0_0 l0_1 l1_2 x35_2 ((rd_T50 l1_1 x35_2).f0) ((rd_T50 l1_1 x35_2).f1) ((rd_T50 l1_1 x35_2).f2) ((rd_T50 l1_1 x35_2).f3) ((rd_T50 l1_1 x35_2).f4)).bind fun t250 => (spec_StateOk.j2 k2 x35_2 l1_1 (l1_1.length : Int) x35_2 (((rd_T50 l1_1 x35_2).f0) != t250) a0_0 l0_1 a1_0 l1_1 l1_2 ((rd_T50 l1_1 x35_2).f0) ((rd_T50 l1_1 x35_2).f1) ((rd_T50 l1_1 x35_2).f2) ((rd_T50 l1_1 x35_2).f3) ((rd_T50 l1_1 x35_2).f4))) else (spec_StateOk.j2 k2 x35_2 l1_1 (l1_1.length : Int) x35_2 true a0_0 l0_1 a1_0 l1_1 l1_2 ((rd_T50 l1_1 x35_2).f0) ((rd_T50 l1_1 x35_2).f1) ((rd_T50 l1_1 x35_2).f2) ((rd_T50 l1_1 x35_2).f3) ((rd_T50 l1_1 x35_2).f4)))) else (spec_StateOk.j2 k2 x35_2 l1_1 (l1_1.length : Int) x35_2 true a0_0 l0_1 a1_0 l1_1 l1_2 ((rd_T50 l1_1 x35_2).f0) ((rd_T50 l1_1 x35_2).f1) ((rd_T50 l1_1 x35_2).f2) ((rd_T50 l1_1 x35_2).f3) ((rd_T50 l1_1 x35_2).f4))) = some r := H
          have A38 := Aside0.mk A380
          clear A380
          by_cases c39 : t248 = true
          ·subst c39
           have H1 : ((spec_l1in.f ((rd_T50 l1_1 x35_2).f4) (-1) 1).bind fun t249 => (if t249 = true then ((spec_l2told.f k2 a0_0 l0_1 l1_2 x35_2 ((rd_T50 l1_1 x35_2).f0) ((rd_T50 l1_1 x35_2).f1) ((rd_T50 l1_1 x35_2).f2) ((rd_T50 l1_1 x35_2).f3) ((rd_T50 l1_1 x35_2).f4)).bind fun t250 => (spec_StateOk.j2 k2 x35_2 l1_1 (l1_1.length : Int) x35_2 (((rd_T50 l1_1 x35_2).f0) != t250) a0_0 l0_1 a1_0 l1_1 l1_2 ((rd_T50 l1_1 x35_2).f0) ((rd_T50 l1_1 x35_2).f1) ((rd_T50 l1_1 x35_2).f2) ((rd_T50 l1_1 x35_2).f3) ((rd_T50 l1_1 x35_2).f4))) else (spec_StateOk.j2 k2 x35_2 l1_1 (l1_1.length : Int) x35_2 true a0_0 l0_1 a1_0 l1_1 l1_2 ((rd_T50 l1_1 x35_2).f0) ((rd_T50 l1_1 x35_2).f1) ((rd_T50 l1_1 x35_2).f2) ((rd_T50 l1_1 x35_2).f3) ((rd_T50 l1_1 x35_2).f4)))) = some r := by rw [if_pos rfl] at H; exact H
           clear H
           have H := H1
           clear H1
           replace H := Option.bind_eq_some_iff.mp H
           obtain ⟨t249, A400, H⟩ := H
           replace H : (if t249 = true then ((spec_l2told.f k2 a0_0 l0_1 l1_2 x35_2 ((rd_T50 l1_1 x35_2).f0) ((rd_T50 l1_1 x35_2).f1) ((rd_T50 l1_1 x35_2).f2) ((rd_T50 l1_1 x35_2).f3) ((rd_T50 l1_1 x35_2).f4)).bind fun t250 => (spec_StateOk.j2 k2 x35_2 l1_1 (l1_1.length : Int) x35_2 (((rd_T50 l1_1 x35_2).f0) != t250) a0_0 l0_1 a1_0 l1_1 l1_2 ((rd_T50 l1_1 x35_2).f0) ((rd_T50 l1_1 x35_2).f1) ((rd_T50 l1_1 x35_2).f2) ((rd_T50 l1_1 x35_2).f3) ((rd_T50 l1_1 x35_2).f4))) else (spec_StateOk.j2 k2 x35_2 l1_1 (l1_1.length : Int) x35_2 true a0_0 l0_1 a1_0 l1_1 l1_2 ((rd_T50 l1_1 x35_2).f0) ((rd_T50 l1_1 x35_2).f1) ((rd_T50 l1_1 x35_2).f2) ((rd_T50 l1_1 x35_2).f3) ((rd_T50 l1_1 x35_2).f4))) = some r := H
           have A40 := Aside0.mk A400
           clear A400
           by_cases c41 : t249 = true
           ·subst c41
            have H1 : ((spec_l2told.f k2 a0_0 l0_1 l1_2 x35_2 ((rd_T50 l1_1 x35_2).f0) ((rd_T50 l1_1 x35_2).f1) ((rd_T50 l1_1 x35_2).f2) ((rd_T50 l1_1 x35_2).f3) ((rd_T50 l1_1 x35_2).f4)).bind fun t250 => (spec_StateOk.j2 k2 x35_2 l1_1 (l1_1.length : Int) x35_2 (((rd_T50 l1_1 x35_2).f0) != t250) a0_0 l0_1 a1_0 l1_1 l1_2 ((rd_T50 l1_1 x35_2).f0) ((rd_T50 l1_1 x35_2).f1) ((rd_T50 l1_1 x35_2).f2) ((rd_T50 l1_1 x35_2).f3) ((rd_T50 l1_1 x35_2).f4))) = some r := by rw [if_pos rfl] at H; exact H
            clear H
            have H := H1
            clear H1
            replace H := Option.bind_eq_some_iff.mp H
            obtain ⟨t250, A420, H⟩ := H
            replace H : (spec_StateOk.j2 k2 x35_2 l1_1 (l1_1.length : Int) x35_2 (((rd_T50 l1_1 x35_2).f0) != t250) a0_0 l0_1 a1_0 l1_1 l1_2 ((rd_T50 l1_1 x35_2).f0) ((rd_T50 l1_1 x35_2).f1) ((rd_T50 l1_1 x35_2).f2) ((rd_T50 l1_1 x35_2).f3) ((rd_T50 l1_1 x35_2).f4)) = some r := H
            have A42 := Aside0.mk A420
            clear A420
            have H' := Aside0.mk H
            clear H
            try go_wp2
            have n0_ : Aside0 ((((((w34.setCell ⟨gb247, 0, none⟩ (.int .i64 ((rd_T50 l1_1 x35_2).f0))).setCell ⟨gb247, 1, none⟩ (.int .i64 ((rd_T50 l1_1 x35_2).f1))).setCell ⟨gb247, 2, none⟩ (.bool ((rd_T50 l1_1 x35_2).f2))).setCell ⟨gb247, 3, none⟩ (.bool ((rd_T50 l1_1 x35_2).f3))).setCell ⟨gb247, 4, none⟩ (.int .i64 ((rd_T50 l1_1 x35_2).f4))).heap[gb243]? = some (.cells #[.int .i64 a0_0, .slice A0_1 l0_1.length c0_1] 30 (0, 0))) := ⟨by (with_reducible repeat (first | refine blk_drewN ?_ _ | refine blk_drew ?_ | refine blk_alloc ?_ _)); refine blk_far ?_ NB243_247.out _; (with_reducible repeat (first | refine blk_drewN ?_ _ | refine blk_drew ?_ | refine blk_alloc ?_ _)); refine blk_far ?_ NB243_247.out _; (with_reducible repeat (first | refine blk_drewN ?_ _ | refine blk_drew ?_ | refine blk_alloc ?_ _)); refine blk_far ?_ NB243_247.out _; (with_reducible repeat (first | refine blk_drewN ?_ _ | refine blk_drew ?_ | refine blk_alloc ?_ _)); refine blk_far ?_ NB243_247.out _; (with_reducible repeat (first | refine blk_drewN ?_ _ | refine blk_drew ?_ | refine blk_alloc ?_ _)); refine blk_far ?_ NB243_247.out _; (with_reducible repeat (first | refine blk_drewN ?_ _ | refine blk_drew ?_ | refine blk_alloc ?_ _)); exact BK243.out⟩
            have n1_ : Aside0 ((((((w34.setCell ⟨gb247, 0, none⟩ (.int .i64 ((rd_T50 l1_1 x35_2).f0))).setCell ⟨gb247, 1, none⟩ (.int .i64 ((rd_T50 l1_1 x35_2).f1))).setCell ⟨gb247, 2, none⟩ (.bool ((rd_T50 l1_1 x35_2).f2))).setCell ⟨gb247, 3, none⟩ (.bool ((rd_T50 l1_1 x35_2).f3))).setCell ⟨gb247, 4, none⟩ (.int .i64 ((rd_T50 l1_1 x35_2).f4))).heap[gb244]? = some (.cells #[.bool a1_0, .slice (some ad246) l1_1.length c1_1, .slice A1_2 l1_2.length c1_2] 46 (0, 0))) := ⟨by (with_reducible repeat (first | refine blk_drewN ?_ _ | refine blk_drew ?_ | refine blk_alloc ?_ _)); refine blk_far ?_ NB244_247.out _; (with_reducible repeat (first | refine blk_drewN ?_ _ | refine blk_drew ?_ | refine blk_alloc ?_ _)); refine blk_far ?_ NB244_247.out _; (with_reducible repeat (first | refine blk_drewN ?_ _ | refine blk_drew ?_ | refine blk_alloc ?_ _)); refine blk_far ?_ NB244_247.out _; (with_reducible repeat (first | refine blk_drewN ?_ _ | refine blk_drew ?_ | refine blk_alloc ?_ _)); refine blk_far ?_ NB244_247.out _; (with_reducible repeat (first | refine blk_drewN ?_ _ | refine blk_drew ?_ | refine blk_alloc ?_ _)); refine blk_far ?_ NB244_247.out _; (with_reducible repeat (first | refine blk_drewN ?_ _ | refine blk_drew ?_ | refine blk_alloc ?_ _)); exact BK244.out⟩
            have n2_ : Aside0 ((((((w34.setCell ⟨gb247, 0, none⟩ (.int .i64 ((rd_T50 l1_1 x35_2).f0))).setCell ⟨gb247, 1, none⟩ (.int .i64 ((rd_T50 l1_1 x35_2).f1))).setCell ⟨gb247, 2, none⟩ (.bool ((rd_T50 l1_1 x35_2).f2))).setCell ⟨gb247, 3, none⟩ (.bool ((rd_T50 l1_1 x35_2).f3))).setCell ⟨gb247, 4, none⟩ (.int .i64 ((rd_T50 l1_1 x35_2).f4))).heap[gb247]? = some (.cells #[.int .i64 ((rd_T50 l1_1 x35_2).f0), .int .i64 ((rd_T50 l1_1 x35_2).f1), .bool ((rd_T50 l1_1 x35_2).f2), .bool ((rd_T50 l1_1 x35_2).f3), .int .i64 ((rd_T50 l1_1 x35_2).f4)] 50 (0, 0))) := ⟨by (with_reducible repeat (first | refine blk_drewN ?_ _ | refine blk_drew ?_ | refine blk_alloc ?_ _)); refine blk_put (cs := #[.int .i64 ((rd_T50 l1_1 x35_2).f0), .int .i64 ((rd_T50 l1_1 x35_2).f1), .bool ((rd_T50 l1_1 x35_2).f2), .bool ((rd_T50 l1_1 x35_2).f3), .int .i64 0]) ?_ 4 _ rfl; (with_reducible repeat (first | refine blk_drewN ?_ _ | refine blk_drew ?_ | refine blk_alloc ?_ _)); refine blk_put (cs := #[.int .i64 ((rd_T50 l1_1 x35_2).f0), .int .i64 ((rd_T50 l1_1 x35_2).f1), .bool ((rd_T50 l1_1 x35_2).f2), .bool false, .int .i64 0]) ?_ 3 _ rfl; (with_reducible repeat (first | refine blk_drewN ?_ _ | refine blk_drew ?_ | refine blk_alloc ?_ _)); refine blk_put (cs := #[.int .i64 ((rd_T50 l1_1 x35_2).f0), .int .i64 ((rd_T50 l1_1 x35_2).f1), .bool false, .bool false, .int .i64 0]) ?_ 2 _ rfl; (with_reducible repeat (first | refine blk_drewN ?_ _ | refine blk_drew ?_ | refine blk_alloc ?_ _)); refine blk_put (cs := #[.int .i64 ((rd_T50 l1_1 x35_2).f0), .int .i64 0, .bool false, .bool false, .int .i64 0]) ?_ 1 _ rfl; (with_reducible repeat (first | refine blk_drewN ?_ _ | refine blk_drew ?_ | refine blk_alloc ?_ _)); refine blk_put (cs := #[.int .i64 0, .int .i64 0, .bool false, .bool false, .int .i64 0]) ?_ 0 _ rfl; (with_reducible repeat (first | refine blk_drewN ?_ _ | refine blk_drew ?_ | refine blk_alloc ?_ _)); exact BK247.out⟩
            have n3_ : Aside0 (Below w.heap.size w (((((w34.setCell ⟨gb247, 0, none⟩ (.int .i64 ((rd_T50 l1_1 x35_2).f0))).setCell ⟨gb247, 1, none⟩ (.int .i64 ((rd_T50 l1_1 x35_2).f1))).setCell ⟨gb247, 2, none⟩ (.bool ((rd_T50 l1_1 x35_2).f2))).setCell ⟨gb247, 3, none⟩ (.bool ((rd_T50 l1_1 x35_2).f3))).setCell ⟨gb247, 4, none⟩ (.int .i64 ((rd_T50 l1_1 x35_2).f4)))) := ⟨by repeat (first | (with_reducible first | exact HB.out | apply below_alloc | apply pw_below_drewN | apply below_drew1 | refine below_set ?_ GE243.out | refine below_set ?_ GE244.out | refine below_set ?_ GE247.out) | exact HB.out)⟩
            (try clear BK243)
            (try clear BK244)
            (try clear BK247)
            (try clear HB)
            generalize (((((w34.setCell ⟨gb247, 0, none⟩ (.int .i64 ((rd_T50 l1_1 x35_2).f0))).setCell ⟨gb247, 1, none⟩ (.int .i64 ((rd_T50 l1_1 x35_2).f1))).setCell ⟨gb247, 2, none⟩ (.bool ((rd_T50 l1_1 x35_2).f2))).setCell ⟨gb247, 3, none⟩ (.bool ((rd_T50 l1_1 x35_2).f3))).setCell ⟨gb247, 4, none⟩ (.int .i64 ((rd_T50 l1_1 x35_2).f4))) = w43 at n0_ n1_ n2_ n3_ ⊢
            have BK243 := n0_
            have BK244 := n1_
            have BK247 := n2_
            have HB := n3_
            clear n0_ n1_ n2_ n3_
            have n0_ := Aside0.mk (blk_drew BK243.out)
            have n1_ := Aside0.mk (blk_drew BK244.out)
            have n2_ := Aside0.mk (blk_drew BK247.out)
            have n3_ := Aside0.mk (below_drew1 HB.out)
            clear BK243
            clear BK244
            clear BK247
            clear HB
            have BK243 := n0_
            have BK244 := n1_
            have BK247 := n2_
            have HB := n3_
            clear n0_ n1_ n2_ n3_
            refine start_ (n := 21) (S := fun w' => w'.cell? ⟨gb247, 0, none⟩ = some (.int .i64 ((rd_T50 l1_1 x35_2).f0)) ∧ w'.cell? ⟨gb247, 1, none⟩ = some (.int .i64 ((rd_T50 l1_1 x35_2).f1)) ∧ w'.cell? ⟨gb247, 2, none⟩ = some (.bool ((rd_T50 l1_1 x35_2).f2)) ∧ w'.cell? ⟨gb247, 3, none⟩ = some (.bool ((rd_T50 l1_1 x35_2).f3)) ∧ w'.cell? ⟨gb247, 4, none⟩ = some (.int .i64 ((rd_T50 l1_1 x35_2).f4)) ∧ w'.cell? ⟨gb243, 0, none⟩ = some (.int .i64 a0_0) ∧ w'.cell? ⟨gb243, 1, none⟩ = some (.slice A0_1 l0_1.length c0_1) ∧ w'.cell? ⟨gb244, 0, none⟩ = some (.bool a1_0) ∧ w'.cell? ⟨gb244, 1, none⟩ = some (.slice (some ad246) l1_1.length c1_1) ∧ w'.cell? ⟨gb244, 2, none⟩ = some (.slice A1_2 l1_2.length c1_2)) (ds := []) #[false, false, false, false, false, false, false, false, false, false, false, false, false, false, false, false, false, false, false, false, false] (by kernel_rfl) rfl rfl ⟨(blk_cell BK247.out 0).trans rfl, (blk_cell BK247.out 1).trans rfl, (blk_cell BK247.out 2).trans rfl, (blk_cell BK247.out 3).trans rfl, (blk_cell BK247.out 4).trans rfl, (blk_cell BK243.out 0).trans rfl, (blk_cell BK243.out 1).trans rfl, (blk_cell BK244.out 0).trans rfl, (blk_cell BK244.out 1).trans rfl, (blk_cell BK244.out 2).trans rfl⟩ (fun hHeld => ?_); refine with_tabW spec_StateOk.tab6 spec_StateOk.bits6 (fun HT_ HW_ => ?_)
            generalize w43.drew = w44 at BK243 BK244 BK247 HB hHeld ⊢
            refine pure_ (i := 0) (N := some 40) (v := ?_) (a' := ?_) #[true, false, false, false, false, false, false, false, false, false, false, false, false, false, false, false, false, false, false, false, false] rfl rfl (any_of HT_.out (by kernel_rfl)) (fun _ _ _ h => h) (Or.inl ⟨by rfl, ?_⟩) ?_ ?_
            rotate_left
            ·intro w'
             go_simp
             with_reducible rfl
            rotate_left
            ·simp only [Act.put, List.setIfInBounds_toArray, List.set_cons_zero, List.set_cons_succ, i64_w, i32_w]
             rfl
            refine take_ (i := 1) (N := some 41) (v := ?_) (a' := ?_) #[true, true, false, false, false, false, false, false, false, false, false, false, false, false, false, false, false, false, false, false, false] rfl rfl (take_ofW HT_.out HW_.out (by kernel_rfl)) (fun _ _ _ h => h) (Or.inl ⟨by rfl, ?_⟩) hHeld ?_ ?_
            rotate_left
            ·rintro w' ⟨s0, s1, s2, s3, s4, s5, s6, s7, s8, s9⟩
             go_simp
             with_reducible rfl
            rotate_left
            ·simp only [Act.put, List.setIfInBounds_toArray, List.set_cons_zero, List.set_cons_succ, i64_w, i32_w]
             rfl
            refine one_ (i := 2) (N := some 42) #[true, true, true, false, false, false, false, false, false, false, false, false, false, false, false, false, false, false, false, false, false] rfl rfl (one_of HT_.out (by kernel_rfl)) (by decide) (fun K hK => ?_)
            refine goes_ Try.func87 (by kernel_rfl) rfl #[.int .i64 ((rd_T50 l1_1 x35_2).f1), .int .i64 (-1000000), .int .i64 1000000] (by rfl) rfl rfl (by (try simp only [List.map_toArray, List.map_cons, List.map_nil]); first | done | rfl | (simp only [List.length_drop, List.length_take]; rfl)) ?_
            with_reducible refine (spec_l1in.calls ((rd_T50 l1_1 x35_2).f1) (-1000000) 1000000 true _ A38.out).mono ?_
            rintro e w' ⟨rfl, ⟨nd, rfl⟩⟩
            refine ⟨_, rfl, ?_⟩
            refine hK.out _ _ ⟨(blk_cell BK247.out 0).trans rfl, (blk_cell BK247.out 1).trans rfl, (blk_cell BK247.out 2).trans rfl, (blk_cell BK247.out 3).trans rfl, (blk_cell BK247.out 4).trans rfl, (blk_cell BK243.out 0).trans rfl, (blk_cell BK243.out 1).trans rfl, (blk_cell BK244.out 0).trans rfl, (blk_cell BK244.out 1).trans rfl, (blk_cell BK244.out 2).trans rfl⟩ (fun hHeld => ?_)
            clear hK K
            refine norm_ (a' := ?_) ?_ ?_
            rotate_left
            ·show Act.put _ (some 42) _ = _
             simp only [Act.put, List.setIfInBounds_toArray, List.set_cons_zero, List.set_cons_succ, i64_w, i32_w]
             rfl
            refine pure_ (i := 3) (N := some 43) (v := ?_) (a' := ?_) #[true, true, true, true, false, false, false, false, false, false, false, false, false, false, false, false, false, false, false, false, false] rfl rfl (any_of HT_.out (by kernel_rfl)) (fun _ _ _ h => h) (Or.inl ⟨by rfl, ?_⟩) ?_ ?_
            rotate_left
            ·intro w'
             go_simp
             with_reducible rfl
            rotate_left
            ·simp only [Act.put, List.setIfInBounds_toArray, List.set_cons_zero, List.set_cons_succ, i64_w, i32_w]
             rfl
            refine pure_ (i := 4) (N := some 44) (v := ?_) (a' := ?_) #[true, true, true, true, true, false, false, false, false, false, false, false, false, false, false, false, false, false, false, false, false] rfl rfl (any_of HT_.out (by kernel_rfl)) (fun _ _ _ h => h) (Or.inl ⟨by rfl, ?_⟩) ?_ ?_
            rotate_left
            ·intro w'
             go_simp
             with_reducible rfl
            rotate_left
            ·simp only [Act.put, List.setIfInBounds_toArray, List.set_cons_zero, List.set_cons_succ, i64_w, i32_w]
             rfl
            refine pure_ (i := 5) (N := some 45) (v := ?_) (a' := ?_) #[true, true, true, true, true, true, false, false, false, false, false, false, false, false, false, false, false, false, false, false, false] rfl rfl (any_of HT_.out (by kernel_rfl)) (fun _ _ _ h => h) (Or.inl ⟨by rfl, ?_⟩) ?_ ?_
            rotate_left
            ·intro w'
             go_simp
             with_reducible rfl
            rotate_left
            ·simp only [Act.put, List.setIfInBounds_toArray, List.set_cons_zero, List.set_cons_succ, i64_w, i32_w]
             rfl
            refine take_ (i := 6) (N := some 46) (v := ?_) (a' := ?_) #[true, true, true, true, true, true, true, false, false, false, false, false, false, false, false, false, false, false, false, false, false] rfl rfl (take_ofW HT_.out HW_.out (by kernel_rfl)) (fun _ _ _ h => h) (Or.inl ⟨by rfl, ?_⟩) hHeld ?_ ?_
            rotate_left
            ·rintro w' ⟨s0, s1, s2, s3, s4, s5, s6, s7, s8, s9⟩
             go_simp
             with_reducible rfl
            rotate_left
            ·simp only [Act.put, List.setIfInBounds_toArray, List.set_cons_zero, List.set_cons_succ, i64_w, i32_w]
             rfl
            refine one_ (i := 7) (N := some 47) #[true, true, true, true, true, true, true, true, false, false, false, false, false, false, false, false, false, false, false, false, false] rfl rfl (one_of HT_.out (by kernel_rfl)) (by decide) (fun K hK => ?_)
            refine goes_ Try.func87 (by kernel_rfl) rfl #[.int .i64 ((rd_T50 l1_1 x35_2).f4), .int .i64 (-1), .int .i64 1] (by rfl) rfl rfl (by (try simp only [List.map_toArray, List.map_cons, List.map_nil]); first | done | rfl | (simp only [List.length_drop, List.length_take]; rfl)) ?_
            with_reducible refine (spec_l1in.calls ((rd_T50 l1_1 x35_2).f4) (-1) 1 true _ A40.out).mono ?_
            rintro e w' ⟨rfl, ⟨nd, rfl⟩⟩
            refine ⟨_, rfl, ?_⟩
            refine hK.out _ _ ⟨(blk_cell BK247.out 0).trans rfl, (blk_cell BK247.out 1).trans rfl, (blk_cell BK247.out 2).trans rfl, (blk_cell BK247.out 3).trans rfl, (blk_cell BK247.out 4).trans rfl, (blk_cell BK243.out 0).trans rfl, (blk_cell BK243.out 1).trans rfl, (blk_cell BK244.out 0).trans rfl, (blk_cell BK244.out 1).trans rfl, (blk_cell BK244.out 2).trans rfl⟩ (fun hHeld => ?_)
            clear hK K
            refine norm_ (a' := ?_) ?_ ?_
            rotate_left
            ·show Act.put _ (some 47) _ = _
             simp only [Act.put, List.setIfInBounds_toArray, List.set_cons_zero, List.set_cons_succ, i64_w, i32_w]
             rfl
            refine pure_ (i := 8) (N := some 48) (v := ?_) (a' := ?_) #[true, true, true, true, true, true, true, true, true, false, false, false, false, false, false, false, false, false, false, false, false] rfl rfl (any_of HT_.out (by kernel_rfl)) (fun _ _ _ h => h) (Or.inl ⟨by rfl, ?_⟩) ?_ ?_
            rotate_left
            ·intro w'
             go_simp
             with_reducible rfl
            rotate_left
            ·simp only [Act.put, List.setIfInBounds_toArray, List.set_cons_zero, List.set_cons_succ, i64_w, i32_w]
             rfl
            refine pure_ (i := 9) (N := some 49) (v := ?_) (a' := ?_) #[true, true, true, true, true, true, true, true, true, true, false, false, false, false, false, false, false, false, false, false, false] rfl rfl (any_of HT_.out (by kernel_rfl)) (fun _ _ _ h => h) (Or.inl ⟨by rfl, ?_⟩) ?_ ?_
            rotate_left
            ·intro w'
             go_simp
             with_reducible rfl
            rotate_left
            ·simp only [Act.put, List.setIfInBounds_toArray, List.set_cons_zero, List.set_cons_succ, i64_w, i32_w]
             rfl
            refine pure_ (i := 10) (N := some 50) (v := ?_) (a' := ?_) #[true, true, true, true, true, true, true, true, true, true, true, false, false, false, false, false, false, false, false, false, false] rfl rfl (any_of HT_.out (by kernel_rfl)) (fun _ _ _ h => h) (Or.inl ⟨by rfl, ?_⟩) ?_ ?_
            rotate_left
            ·intro w'
             go_simp
             with_reducible rfl
            rotate_left
            ·simp only [Act.put, List.setIfInBounds_toArray, List.set_cons_zero, List.set_cons_succ, i64_w, i32_w]
             rfl
            refine pure_ (i := 11) (N := some 51) (v := ?_) (a' := ?_) #[true, true, true, true, true, true, true, true, true, true, true, true, false, false, false, false, false, false, false, false, false] rfl rfl (any_of HT_.out (by kernel_rfl)) (fun _ _ _ h => h) (Or.inl ⟨by rfl, ?_⟩) ?_ ?_
            rotate_left
            ·intro w'
             go_simp
             with_reducible rfl
            rotate_left
            ·simp only [Act.put, List.setIfInBounds_toArray, List.set_cons_zero, List.set_cons_succ, i64_w, i32_w]
             rfl
            refine pure_ (i := 14) (N := some 54) (v := ?_) (a' := ?_) #[true, true, true, true, true, true, true, true, true, true, true, true, false, false, true, false, false, false, false, false, false] rfl rfl (any_of HT_.out (by kernel_rfl)) (fun _ _ _ h => h) (Or.inl ⟨by rfl, ?_⟩) ?_ ?_
            rotate_left
            ·intro w'
             go_simp
             with_reducible rfl
            rotate_left
            ·simp only [Act.put, List.setIfInBounds_toArray, List.set_cons_zero, List.set_cons_succ, i64_w, i32_w]
             rfl
            refine pure_ (i := 16) (N := some 56) (v := ?_) (a' := ?_) #[true, true, true, true, true, true, true, true, true, true, true, true, false, false, true, false, true, false, false, false, false] rfl rfl (any_of HT_.out (by kernel_rfl)) (fun _ _ _ h => h) (Or.inl ⟨by rfl, ?_⟩) ?_ ?_
            rotate_left
            ·intro w'
             go_simp
             with_reducible rfl
            rotate_left
            ·simp only [Act.put, List.setIfInBounds_toArray, List.set_cons_zero, List.set_cons_succ, i64_w, i32_w]
             rfl
            refine take_ (i := 12) (N := some 52) (v := ?_) (a' := ?_) #[true, true, true, true, true, true, true, true, true, true, true, true, true, false, true, false, true, false, false, false, false] rfl rfl (take_ofW HT_.out HW_.out (by kernel_rfl)) (fun _ _ _ h => h) (Or.inl ⟨by rfl, ?_⟩) hHeld ?_ ?_
            rotate_left
            ·rintro w' ⟨s0, s1, s2, s3, s4, s5, s6, s7, s8, s9⟩
             go_simp
             with_reducible rfl
            rotate_left
            ·simp only [Act.put, List.setIfInBounds_toArray, List.set_cons_zero, List.set_cons_succ, i64_w, i32_w]
             rfl
            refine take_ (i := 13) (N := some 53) (v := ?_) (a' := ?_) #[true, true, true, true, true, true, true, true, true, true, true, true, true, true, true, false, true, false, false, false, false] rfl rfl (take_ofW HT_.out HW_.out (by kernel_rfl)) (fun _ _ _ h => h) (Or.inl ⟨by rfl, ?_⟩) hHeld ?_ ?_
            rotate_left
            ·rintro w' ⟨s0, s1, s2, s3, s4, s5, s6, s7, s8, s9⟩
             go_simp
             with_reducible rfl
            rotate_left
            ·simp only [Act.put, List.setIfInBounds_toArray, List.set_cons_zero, List.set_cons_succ, i64_w, i32_w]
             rfl
            refine take_ (i := 15) (N := some 55) (v := ?_) (a' := ?_) #[true, true, true, true, true, true, true, true, true, true, true, true, true, true, true, true, true, false, false, false, false] rfl rfl (take_ofW HT_.out HW_.out (by kernel_rfl)) (fun _ _ _ h => h) (Or.inl ⟨by rfl, ?_⟩) hHeld ?_ ?_
            rotate_left
            ·rintro w' ⟨s0, s1, s2, s3, s4, s5, s6, s7, s8, s9⟩
             go_simp
             with_reducible rfl
            rotate_left
            ·simp only [Act.put, List.setIfInBounds_toArray, List.set_cons_zero, List.set_cons_succ, i64_w, i32_w]
             rfl
            refine take_ (i := 17) (N := some 57) (v := ?_) (a' := ?_) #[true, true, true, true, true, true, true, true, true, true, true, true, true, true, true, true, true, true, false, false, false] rfl rfl (take_ofW HT_.out HW_.out (by kernel_rfl)) (fun _ _ _ h => h) (Or.inl ⟨by rfl, ?_⟩) hHeld ?_ ?_
            rotate_left
            ·rintro w' ⟨s0, s1, s2, s3, s4, s5, s6, s7, s8, s9⟩
             go_simp
             with_reducible rfl
            rotate_left
            ·simp only [Act.put, List.setIfInBounds_toArray, List.set_cons_zero, List.set_cons_succ, i64_w, i32_w]
             rfl
            refine one_ (i := 18) (N := some 58) #[true, true, true, true, true, true, true, true, true, true, true, true, true, true, true, true, true, true, true, false, false] rfl rfl (one_of HT_.out (by kernel_rfl)) (by decide) (fun K hK => ?_)
            refine goes_ Try.func113 (by kernel_rfl) rfl #[.agg #[.int .i64 a0_0, .slice A0_1 l0_1.length c0_1], .slice A1_2 l1_2.length c1_2, .int .i64 x35_2, .agg #[.int .i64 ((rd_T50 l1_1 x35_2).f0), .int .i64 ((rd_T50 l1_1 x35_2).f1), .bool ((rd_T50 l1_1 x35_2).f2), .bool ((rd_T50 l1_1 x35_2).f3), .int .i64 ((rd_T50 l1_1 x35_2).f4)]] (by rfl) rfl rfl (by (try simp only [List.map_toArray, List.map_cons, List.map_nil]); first | done | rfl | (simp only [List.length_drop, List.length_take]; rfl)) ?_
            with_reducible refine (spec_l2told.calls k2 a0_0 _ _ l0_1 _ _ l1_2 x35_2 ((rd_T50 l1_1 x35_2).f0) ((rd_T50 l1_1 x35_2).f1) ((rd_T50 l1_1 x35_2).f2) ((rd_T50 l1_1 x35_2).f3) ((rd_T50 l1_1 x35_2).f4) t250 _ ?side1 ?side2 ?side3 ?side4 A42.out).mono ?_
            (case side1 => repeat (first | exact (Kd.C_below HR0_1.out (by repeat (first | (with_reducible first | exact HB.out | apply below_alloc | apply pw_below_drewN | apply below_drew1 | refine below_set ?_ GE243.out | refine below_set ?_ GE244.out | refine below_set ?_ GE247.out) | exact HB.out))) | (with_reducible refine Kd.C_alloc ?_ _) | (with_reducible refine Kd.C_drewN ?_ _) | (with_reducible refine Kd.C_drew ?_)))
            (case side2 => exact HC0_1.out)
            (case side3 => repeat (first | exact (Kd.C_below HR1_2.out (by repeat (first | (with_reducible first | exact HB.out | apply below_alloc | apply pw_below_drewN | apply below_drew1 | refine below_set ?_ GE243.out | refine below_set ?_ GE244.out | refine below_set ?_ GE247.out) | exact HB.out))) | (with_reducible refine Kd.C_alloc ?_ _) | (with_reducible refine Kd.C_drewN ?_ _) | (with_reducible refine Kd.C_drew ?_)))
            (case side4 => exact HC1_2.out)
            rintro e w45 ⟨rfl, hb⟩
            refine ⟨_, rfl, ?_⟩
            have n0_ := Aside0.mk (blk_below (g := gb243) (o := .cells #[.int .i64 a0_0, .slice A0_1 l0_1.length c0_1] 30 (0, 0)) (by (with_reducible repeat (first | refine blk_drewN ?_ _ | refine blk_drew ?_ | refine blk_alloc ?_ _)); exact BK243.out) hb)
            have n1_ := Aside0.mk (blk_below (g := gb244) (o := .cells #[.bool a1_0, .slice (some ad246) l1_1.length c1_1, .slice A1_2 l1_2.length c1_2] 46 (0, 0)) (by (with_reducible repeat (first | refine blk_drewN ?_ _ | refine blk_drew ?_ | refine blk_alloc ?_ _)); exact BK244.out) hb)
            have n2_ := Aside0.mk (blk_below (g := gb247) (o := .cells #[.int .i64 ((rd_T50 l1_1 x35_2).f0), .int .i64 ((rd_T50 l1_1 x35_2).f1), .bool ((rd_T50 l1_1 x35_2).f2), .bool ((rd_T50 l1_1 x35_2).f3), .int .i64 ((rd_T50 l1_1 x35_2).f4)] 50 (0, 0)) (by (with_reducible repeat (first | refine blk_drewN ?_ _ | refine blk_drew ?_ | refine blk_alloc ?_ _)); exact BK247.out) hb)
            have n3_ := Aside0.mk (below_step (by repeat (first | (with_reducible first | exact HB.out | apply below_alloc | apply pw_below_drewN | apply below_drew1 | refine below_set ?_ GE243.out | refine below_set ?_ GE244.out | refine below_set ?_ GE247.out) | exact HB.out)) hb)
            clear BK243
            clear BK244
            clear BK247
            clear HB
            have BK243 := n0_
            have BK244 := n1_
            have BK247 := n2_
            have HB := n3_
            clear n0_ n1_ n2_ n3_
            (try clear hb)
            (try clear hb2)
            (try clear hk)
            (try clear hi)
            refine hK.out _ _ ⟨(blk_cell BK247.out 0).trans rfl, (blk_cell BK247.out 1).trans rfl, (blk_cell BK247.out 2).trans rfl, (blk_cell BK247.out 3).trans rfl, (blk_cell BK247.out 4).trans rfl, (blk_cell BK243.out 0).trans rfl, (blk_cell BK243.out 1).trans rfl, (blk_cell BK244.out 0).trans rfl, (blk_cell BK244.out 1).trans rfl, (blk_cell BK244.out 2).trans rfl⟩ (fun hHeld => ?_)
            clear hK K
            refine norm_ (a' := ?_) ?_ ?_
            rotate_left
            ·show Act.put _ (some 58) _ = _
             simp only [Act.put, List.setIfInBounds_toArray, List.set_cons_zero, List.set_cons_succ, i64_w, i32_w]
             rfl
            refine pure_ (i := 19) (N := some 59) (v := ?_) (a' := ?_) #[true, true, true, true, true, true, true, true, true, true, true, true, true, true, true, true, true, true, true, true, false] rfl rfl (any_of HT_.out (by kernel_rfl)) (fun _ _ _ h => h) (Or.inl ⟨by rfl, ?_⟩) ?_ ?_
            rotate_left
            ·intro w'
             go_simp
             with_reducible rfl
            rotate_left
            ·simp only [Act.put, List.setIfInBounds_toArray, List.set_cons_zero, List.set_cons_succ, i64_w, i32_w]
             rfl
            refine pure_ (i := 20) (N := some 60) (v := ?_) (a' := ?_) #[true, true, true, true, true, true, true, true, true, true, true, true, true, true, true, true, true, true, true, true, true] rfl rfl (any_of HT_.out (by kernel_rfl)) (fun _ _ _ h => h) (Or.inl ⟨by rfl, ?_⟩) ?_ ?_
            rotate_left
            ·intro w'
             go_simp
             with_reducible rfl
            rotate_left
            ·simp only [Act.put, List.setIfInBounds_toArray, List.set_cons_zero, List.set_cons_succ, i64_w, i32_w]
             rfl
            refine done_ (done_of HT_.out (by kernel_rfl)) ?_
            try go_wp2
            go_meet
            case rel => exact ⟨_, ((((rd_T50 l1_1 x35_2).f0) != t250)), (by first | rfl | (simp; done) | (simp [*]; done)), H', ⟨by have := HJ2.out; have := HK2.out; first | omega | exact Nat.le_refl _⟩, ⟨by (with_reducible repeat (first | refine blk_drewN ?_ _ | refine blk_drew ?_ | refine blk_alloc ?_ _)); exact BK243.out⟩, ⟨by (with_reducible repeat (first | refine blk_drewN ?_ _ | refine blk_drew ?_ | refine blk_alloc ?_ _)); exact BK244.out⟩, ⟨by (with_reducible repeat (first | refine blk_drewN ?_ _ | refine blk_drew ?_ | refine blk_alloc ?_ _)); exact BK247.out⟩, ⟨by repeat (first | (with_reducible first | exact HB.out | apply below_alloc | apply pw_below_drewN | apply below_drew1 | refine below_set ?_ GE243.out | refine below_set ?_ GE244.out | refine below_set ?_ GE247.out) | exact HB.out)⟩⟩
           ·replace c41 := Bool.eq_false_iff.mpr c41
            subst c41
            have H1 : (spec_StateOk.j2 k2 x35_2 l1_1 (l1_1.length : Int) x35_2 true a0_0 l0_1 a1_0 l1_1 l1_2 ((rd_T50 l1_1 x35_2).f0) ((rd_T50 l1_1 x35_2).f1) ((rd_T50 l1_1 x35_2).f2) ((rd_T50 l1_1 x35_2).f3) ((rd_T50 l1_1 x35_2).f4)) = some r := by rw [if_neg (show ¬ (false = true) by decide)] at H; exact H
            clear H
            have H := H1
            clear H1
            have H' := Aside0.mk H
            clear H
            try go_wp2
            have n0_ : Aside0 ((((((w34.setCell ⟨gb247, 0, none⟩ (.int .i64 ((rd_T50 l1_1 x35_2).f0))).setCell ⟨gb247, 1, none⟩ (.int .i64 ((rd_T50 l1_1 x35_2).f1))).setCell ⟨gb247, 2, none⟩ (.bool ((rd_T50 l1_1 x35_2).f2))).setCell ⟨gb247, 3, none⟩ (.bool ((rd_T50 l1_1 x35_2).f3))).setCell ⟨gb247, 4, none⟩ (.int .i64 ((rd_T50 l1_1 x35_2).f4))).heap[gb243]? = some (.cells #[.int .i64 a0_0, .slice A0_1 l0_1.length c0_1] 30 (0, 0))) := ⟨by (with_reducible repeat (first | refine blk_drewN ?_ _ | refine blk_drew ?_ | refine blk_alloc ?_ _)); refine blk_far ?_ NB243_247.out _; (with_reducible repeat (first | refine blk_drewN ?_ _ | refine blk_drew ?_ | refine blk_alloc ?_ _)); refine blk_far ?_ NB243_247.out _; (with_reducible repeat (first | refine blk_drewN ?_ _ | refine blk_drew ?_ | refine blk_alloc ?_ _)); refine blk_far ?_ NB243_247.out _; (with_reducible repeat (first | refine blk_drewN ?_ _ | refine blk_drew ?_ | refine blk_alloc ?_ _)); refine blk_far ?_ NB243_247.out _; (with_reducible repeat (first | refine blk_drewN ?_ _ | refine blk_drew ?_ | refine blk_alloc ?_ _)); refine blk_far ?_ NB243_247.out _; (with_reducible repeat (first | refine blk_drewN ?_ _ | refine blk_drew ?_ | refine blk_alloc ?_ _)); exact BK243.out⟩
            have n1_ : Aside0 ((((((w34.setCell ⟨gb247, 0, none⟩ (.int .i64 ((rd_T50 l1_1 x35_2).f0))).setCell ⟨gb247, 1, none⟩ (.int .i64 ((rd_T50 l1_1 x35_2).f1))).setCell ⟨gb247, 2, none⟩ (.bool ((rd_T50 l1_1 x35_2).f2))).setCell ⟨gb247, 3, none⟩ (.bool ((rd_T50 l1_1 x35_2).f3))).setCell ⟨gb247, 4, none⟩ (.int .i64 ((rd_T50 l1_1 x35_2).f4))).heap[gb244]? = some (.cells #[.bool a1_0, .slice (some ad246) l1_1.length c1_1, .slice A1_2 l1_2.length c1_2] 46 (0, 0))) := ⟨by (with_reducible repeat (first | refine blk_drewN ?_ _ | refine blk_drew ?_ | refine blk_alloc ?_ _)); refine blk_far ?_ NB244_247.out _; (with_reducible repeat (first | refine blk_drewN ?_ _ | refine blk_drew ?_ | refine blk_alloc ?_ _)); refine blk_far ?_ NB244_247.out _; (with_reducible repeat (first | refine blk_drewN ?_ _ | refine blk_drew ?_ | refine blk_alloc ?_ _)); refine blk_far ?_ NB244_247.out _; (with_reducible repeat (first | refine blk_drewN ?_ _ | refine blk_drew ?_ | refine blk_alloc ?_ _)); refine blk_far ?_ NB244_247.out _; (with_reducible repeat (first | refine blk_drewN ?_ _ | refine blk_drew ?_ | refine blk_alloc ?_ _)); refine blk_far ?_ NB244_247.out _; (with_reducible repeat (first | refine blk_drewN ?_ _ | refine blk_drew ?_ | refine blk_alloc ?_ _)); exact BK244.out⟩
            have n2_ : Aside0 ((((((w34.setCell ⟨gb247, 0, none⟩ (.int .i64 ((rd_T50 l1_1 x35_2).f0))).setCell ⟨gb247, 1, none⟩ (.int .i64 ((rd_T50 l1_1 x35_2).f1))).setCell ⟨gb247, 2, none⟩ (.bool ((rd_T50 l1_1 x35_2).f2))).setCell ⟨gb247, 3, none⟩ (.bool ((rd_T50 l1_1 x35_2).f3))).setCell ⟨gb247, 4, none⟩ (.int .i64 ((rd_T50 l1_1 x35_2).f4))).heap[gb247]? = some (.cells #[.int .i64 ((rd_T50 l1_1 x35_2).f0), .int .i64 ((rd_T50 l1_1 x35_2).f1), .bool ((rd_T50 l1_1 x35_2).f2), .bool ((rd_T50 l1_1 x35_2).f3), .int .i64 ((rd_T50 l1_1 x35_2).f4)] 50 (0, 0))) := ⟨by (with_reducible repeat (first | refine blk_drewN ?_ _ | refine blk_drew ?_ | refine blk_alloc ?_ _)); refine blk_put (cs := #[.int .i64 ((rd_T50 l1_1 x35_2).f0), .int .i64 ((rd_T50 l1_1 x35_2).f1), .bool ((rd_T50 l1_1 x35_2).f2), .bool ((rd_T50 l1_1 x35_2).f3), .int .i64 0]) ?_ 4 _ rfl; (with_reducible repeat (first | refine blk_drewN ?_ _ | refine blk_drew ?_ | refine blk_alloc ?_ _)); refine blk_put (cs := #[.int .i64 ((rd_T50 l1_1 x35_2).f0), .int .i64 ((rd_T50 l1_1 x35_2).f1), .bool ((rd_T50 l1_1 x35_2).f2), .bool false, .int .i64 0]) ?_ 3 _ rfl; (with_reducible repeat (first | refine blk_drewN ?_ _ | refine blk_drew ?_ | refine blk_alloc ?_ _)); refine blk_put (cs := #[.int .i64 ((rd_T50 l1_1 x35_2).f0), .int .i64 ((rd_T50 l1_1 x35_2).f1), .bool false, .bool false, .int .i64 0]) ?_ 2 _ rfl; (with_reducible repeat (first | refine blk_drewN ?_ _ | refine blk_drew ?_ | refine blk_alloc ?_ _)); refine blk_put (cs := #[.int .i64 ((rd_T50 l1_1 x35_2).f0), .int .i64 0, .bool false, .bool false, .int .i64 0]) ?_ 1 _ rfl; (with_reducible repeat (first | refine blk_drewN ?_ _ | refine blk_drew ?_ | refine blk_alloc ?_ _)); refine blk_put (cs := #[.int .i64 0, .int .i64 0, .bool false, .bool false, .int .i64 0]) ?_ 0 _ rfl; (with_reducible repeat (first | refine blk_drewN ?_ _ | refine blk_drew ?_ | refine blk_alloc ?_ _)); exact BK247.out⟩
            have n3_ : Aside0 (Below w.heap.size w (((((w34.setCell ⟨gb247, 0, none⟩ (.int .i64 ((rd_T50 l1_1 x35_2).f0))).setCell ⟨gb247, 1, none⟩ (.int .i64 ((rd_T50 l1_1 x35_2).f1))).setCell ⟨gb247, 2, none⟩ (.bool ((rd_T50 l1_1 x35_2).f2))).setCell ⟨gb247, 3, none⟩ (.bool ((rd_T50 l1_1 x35_2).f3))).setCell ⟨gb247, 4, none⟩ (.int .i64 ((rd_T50 l1_1 x35_2).f4)))) := ⟨by repeat (first | (with_reducible first | exact HB.out | apply below_alloc | apply pw_below_drewN | apply below_drew1 | refine below_set ?_ GE243.out | refine below_set ?_ GE244.out | refine below_set ?_ GE247.out) | exact HB.out)⟩
            (try clear BK243)
            (try clear BK244)
            (try clear BK247)
            (try clear HB)
            generalize (((((w34.setCell ⟨gb247, 0, none⟩ (.int .i64 ((rd_T50 l1_1 x35_2).f0))).setCell ⟨gb247, 1, none⟩ (.int .i64 ((rd_T50 l1_1 x35_2).f1))).setCell ⟨gb247, 2, none⟩ (.bool ((rd_T50 l1_1 x35_2).f2))).setCell ⟨gb247, 3, none⟩ (.bool ((rd_T50 l1_1 x35_2).f3))).setCell ⟨gb247, 4, none⟩ (.int .i64 ((rd_T50 l1_1 x35_2).f4))) = w46 at n0_ n1_ n2_ n3_ ⊢
            have BK243 := n0_
            have BK244 := n1_
            have BK247 := n2_
            have HB := n3_
            clear n0_ n1_ n2_ n3_
            have n0_ := Aside0.mk (blk_drew BK243.out)
            have n1_ := Aside0.mk (blk_drew BK244.out)
            have n2_ := Aside0.mk (blk_drew BK247.out)
            have n3_ := Aside0.mk (below_drew1 HB.out)
            clear BK243
            clear BK244
            clear BK247
            clear HB
            have BK243 := n0_
            have BK244 := n1_
            have BK247 := n2_
            have HB := n3_
            clear n0_ n1_ n2_ n3_
            refine start_ (n := 21) (S := fun w' => w'.cell? ⟨gb247, 0, none⟩ = some (.int .i64 ((rd_T50 l1_1 x35_2).f0)) ∧ w'.cell? ⟨gb247, 1, none⟩ = some (.int .i64 ((rd_T50 l1_1 x35_2).f1)) ∧ w'.cell? ⟨gb247, 2, none⟩ = some (.bool ((rd_T50 l1_1 x35_2).f2)) ∧ w'.cell? ⟨gb247, 3, none⟩ = some (.bool ((rd_T50 l1_1 x35_2).f3)) ∧ w'.cell? ⟨gb247, 4, none⟩ = some (.int .i64 ((rd_T50 l1_1 x35_2).f4))) (ds := []) #[false, false, false, false, false, false, false, false, false, false, false, false, false, false, false, false, false, false, false, false, false] (by kernel_rfl) rfl rfl ⟨(blk_cell BK247.out 0).trans rfl, (blk_cell BK247.out 1).trans rfl, (blk_cell BK247.out 2).trans rfl, (blk_cell BK247.out 3).trans rfl, (blk_cell BK247.out 4).trans rfl⟩ (fun hHeld => ?_); refine with_tabW spec_StateOk.tab6 spec_StateOk.bits6 (fun HT_ HW_ => ?_)
            generalize w46.drew = w47 at BK243 BK244 BK247 HB hHeld ⊢
            refine pure_ (i := 0) (N := some 40) (v := ?_) (a' := ?_) #[true, false, false, false, false, false, false, false, false, false, false, false, false, false, false, false, false, false, false, false, false] rfl rfl (any_of HT_.out (by kernel_rfl)) (fun _ _ _ h => h) (Or.inl ⟨by rfl, ?_⟩) ?_ ?_
            rotate_left
            ·intro w'
             go_simp
             with_reducible rfl
            rotate_left
            ·simp only [Act.put, List.setIfInBounds_toArray, List.set_cons_zero, List.set_cons_succ, i64_w, i32_w]
             rfl
            refine take_ (i := 1) (N := some 41) (v := ?_) (a' := ?_) #[true, true, false, false, false, false, false, false, false, false, false, false, false, false, false, false, false, false, false, false, false] rfl rfl (take_ofW HT_.out HW_.out (by kernel_rfl)) (fun _ _ _ h => h) (Or.inl ⟨by rfl, ?_⟩) hHeld ?_ ?_
            rotate_left
            ·rintro w' ⟨s0, s1, s2, s3, s4⟩
             go_simp
             with_reducible rfl
            rotate_left
            ·simp only [Act.put, List.setIfInBounds_toArray, List.set_cons_zero, List.set_cons_succ, i64_w, i32_w]
             rfl
            refine one_ (i := 2) (N := some 42) #[true, true, true, false, false, false, false, false, false, false, false, false, false, false, false, false, false, false, false, false, false] rfl rfl (one_of HT_.out (by kernel_rfl)) (by decide) (fun K hK => ?_)
            refine goes_ Try.func87 (by kernel_rfl) rfl #[.int .i64 ((rd_T50 l1_1 x35_2).f1), .int .i64 (-1000000), .int .i64 1000000] (by rfl) rfl rfl (by (try simp only [List.map_toArray, List.map_cons, List.map_nil]); first | done | rfl | (simp only [List.length_drop, List.length_take]; rfl)) ?_
            with_reducible refine (spec_l1in.calls ((rd_T50 l1_1 x35_2).f1) (-1000000) 1000000 true _ A38.out).mono ?_
            rintro e w' ⟨rfl, ⟨nd, rfl⟩⟩
            refine ⟨_, rfl, ?_⟩
            refine hK.out _ _ ⟨(blk_cell BK247.out 0).trans rfl, (blk_cell BK247.out 1).trans rfl, (blk_cell BK247.out 2).trans rfl, (blk_cell BK247.out 3).trans rfl, (blk_cell BK247.out 4).trans rfl⟩ (fun hHeld => ?_)
            clear hK K
            refine norm_ (a' := ?_) ?_ ?_
            rotate_left
            ·show Act.put _ (some 42) _ = _
             simp only [Act.put, List.setIfInBounds_toArray, List.set_cons_zero, List.set_cons_succ, i64_w, i32_w]
             rfl
            refine pure_ (i := 3) (N := some 43) (v := ?_) (a' := ?_) #[true, true, true, true, false, false, false, false, false, false, false, false, false, false, false, false, false, false, false, false, false] rfl rfl (any_of HT_.out (by kernel_rfl)) (fun _ _ _ h => h) (Or.inl ⟨by rfl, ?_⟩) ?_ ?_
            rotate_left
            ·intro w'
             go_simp
             with_reducible rfl
            rotate_left
            ·simp only [Act.put, List.setIfInBounds_toArray, List.set_cons_zero, List.set_cons_succ, i64_w, i32_w]
             rfl
            refine pure_ (i := 4) (N := some 44) (v := ?_) (a' := ?_) #[true, true, true, true, true, false, false, false, false, false, false, false, false, false, false, false, false, false, false, false, false] rfl rfl (any_of HT_.out (by kernel_rfl)) (fun _ _ _ h => h) (Or.inl ⟨by rfl, ?_⟩) ?_ ?_
            rotate_left
            ·intro w'
             go_simp
             with_reducible rfl
            rotate_left
            ·simp only [Act.put, List.setIfInBounds_toArray, List.set_cons_zero, List.set_cons_succ, i64_w, i32_w]
             rfl
            refine pure_ (i := 5) (N := some 45) (v := ?_) (a' := ?_) #[true, true, true, true, true, true, false, false, false, false, false, false, false, false, false, false, false, false, false, false, false] rfl rfl (any_of HT_.out (by kernel_rfl)) (fun _ _ _ h => h) (Or.inl ⟨by rfl, ?_⟩) ?_ ?_
            rotate_left
            ·intro w'
             go_simp
             with_reducible rfl
            rotate_left
            ·simp only [Act.put, List.setIfInBounds_toArray, List.set_cons_zero, List.set_cons_succ, i64_w, i32_w]
             rfl
            refine take_ (i := 6) (N := some 46) (v := ?_) (a' := ?_) #[true, true, true, true, true, true, true, false, false, false, false, false, false, false, false, false, false, false, false, false, false] rfl rfl (take_ofW HT_.out HW_.out (by kernel_rfl)) (fun _ _ _ h => h) (Or.inl ⟨by rfl, ?_⟩) hHeld ?_ ?_
            rotate_left
            ·rintro w' ⟨s0, s1, s2, s3, s4⟩
             go_simp
             with_reducible rfl
            rotate_left
            ·simp only [Act.put, List.setIfInBounds_toArray, List.set_cons_zero, List.set_cons_succ, i64_w, i32_w]
             rfl
            refine one_ (i := 7) (N := some 47) #[true, true, true, true, true, true, true, true, false, false, false, false, false, false, false, false, false, false, false, false, false] rfl rfl (one_of HT_.out (by kernel_rfl)) (by decide) (fun K hK => ?_)
            refine goes_ Try.func87 (by kernel_rfl) rfl #[.int .i64 ((rd_T50 l1_1 x35_2).f4), .int .i64 (-1), .int .i64 1] (by rfl) rfl rfl (by (try simp only [List.map_toArray, List.map_cons, List.map_nil]); first | done | rfl | (simp only [List.length_drop, List.length_take]; rfl)) ?_
            with_reducible refine (spec_l1in.calls ((rd_T50 l1_1 x35_2).f4) (-1) 1 false _ A40.out).mono ?_
            rintro e w' ⟨rfl, ⟨nd, rfl⟩⟩
            refine ⟨_, rfl, ?_⟩
            refine hK.out _ _ ⟨(blk_cell BK247.out 0).trans rfl, (blk_cell BK247.out 1).trans rfl, (blk_cell BK247.out 2).trans rfl, (blk_cell BK247.out 3).trans rfl, (blk_cell BK247.out 4).trans rfl⟩ (fun hHeld => ?_)
            clear hK K
            refine norm_ (a' := ?_) ?_ ?_
            rotate_left
            ·show Act.put _ (some 47) _ = _
             simp only [Act.put, List.setIfInBounds_toArray, List.set_cons_zero, List.set_cons_succ, i64_w, i32_w]
             rfl
            refine pure_ (i := 8) (N := some 48) (v := ?_) (a' := ?_) #[true, true, true, true, true, true, true, true, true, false, false, false, false, false, false, false, false, false, false, false, false] rfl rfl (any_of HT_.out (by kernel_rfl)) (fun _ _ _ h => h) (Or.inl ⟨by rfl, ?_⟩) ?_ ?_
            rotate_left
            ·intro w'
             go_simp
             with_reducible rfl
            rotate_left
            ·simp only [Act.put, List.setIfInBounds_toArray, List.set_cons_zero, List.set_cons_succ, i64_w, i32_w]
             rfl
            refine pure_ (i := 9) (N := some 49) (v := ?_) (a' := ?_) #[true, true, true, true, true, true, true, true, true, true, false, false, false, false, false, false, false, false, false, false, false] rfl rfl (any_of HT_.out (by kernel_rfl)) (fun _ _ _ h => h) (Or.inl ⟨by rfl, ?_⟩) ?_ ?_
            rotate_left
            ·intro w'
             go_simp
             with_reducible rfl
            rotate_left
            ·simp only [Act.put, List.setIfInBounds_toArray, List.set_cons_zero, List.set_cons_succ, i64_w, i32_w]
             rfl
            refine pure_ (i := 10) (N := some 50) (v := ?_) (a' := ?_) #[true, true, true, true, true, true, true, true, true, true, true, false, false, false, false, false, false, false, false, false, false] rfl rfl (any_of HT_.out (by kernel_rfl)) (fun _ _ _ h => h) (Or.inl ⟨by rfl, ?_⟩) ?_ ?_
            rotate_left
            ·intro w'
             go_simp
             with_reducible rfl
            rotate_left
            ·simp only [Act.put, List.setIfInBounds_toArray, List.set_cons_zero, List.set_cons_succ, i64_w, i32_w]
             rfl
            refine pure_ (i := 11) (N := some 51) (v := undef) (a' := ?_) #[true, true, true, true, true, true, true, true, true, true, true, true, false, false, false, false, false, false, false, false, false] rfl rfl (any_of HT_.out (by kernel_rfl)) (fun _ _ _ h => h) (Or.inr ⟨by rfl, rfl⟩) ?_ ?_
            rotate_left
            ·simp only [Act.put, List.setIfInBounds_toArray, List.set_cons_zero, List.set_cons_succ, i64_w, i32_w]
             rfl
            refine pure_ (i := 12) (N := some 52) (v := undef) (a' := ?_) #[true, true, true, true, true, true, true, true, true, true, true, true, true, false, false, false, false, false, false, false, false] rfl rfl (any_of HT_.out (by kernel_rfl)) (fun _ _ _ h => h) (Or.inr ⟨by rfl, rfl⟩) ?_ ?_
            rotate_left
            ·simp only [Act.put, List.setIfInBounds_toArray, List.set_cons_zero, List.set_cons_succ, i64_w, i32_w]
             rfl
            refine pure_ (i := 13) (N := some 53) (v := undef) (a' := ?_) #[true, true, true, true, true, true, true, true, true, true, true, true, true, true, false, false, false, false, false, false, false] rfl rfl (any_of HT_.out (by kernel_rfl)) (fun _ _ _ h => h) (Or.inr ⟨by rfl, rfl⟩) ?_ ?_
            rotate_left
            ·simp only [Act.put, List.setIfInBounds_toArray, List.set_cons_zero, List.set_cons_succ, i64_w, i32_w]
             rfl
            refine pure_ (i := 14) (N := some 54) (v := undef) (a' := ?_) #[true, true, true, true, true, true, true, true, true, true, true, true, true, true, true, false, false, false, false, false, false] rfl rfl (any_of HT_.out (by kernel_rfl)) (fun _ _ _ h => h) (Or.inr ⟨by rfl, rfl⟩) ?_ ?_
            rotate_left
            ·simp only [Act.put, List.setIfInBounds_toArray, List.set_cons_zero, List.set_cons_succ, i64_w, i32_w]
             rfl
            refine pure_ (i := 15) (N := some 55) (v := undef) (a' := ?_) #[true, true, true, true, true, true, true, true, true, true, true, true, true, true, true, true, false, false, false, false, false] rfl rfl (any_of HT_.out (by kernel_rfl)) (fun _ _ _ h => h) (Or.inr ⟨by rfl, rfl⟩) ?_ ?_
            rotate_left
            ·simp only [Act.put, List.setIfInBounds_toArray, List.set_cons_zero, List.set_cons_succ, i64_w, i32_w]
             rfl
            refine pure_ (i := 16) (N := some 56) (v := undef) (a' := ?_) #[true, true, true, true, true, true, true, true, true, true, true, true, true, true, true, true, true, false, false, false, false] rfl rfl (any_of HT_.out (by kernel_rfl)) (fun _ _ _ h => h) (Or.inr ⟨by rfl, rfl⟩) ?_ ?_
            rotate_left
            ·simp only [Act.put, List.setIfInBounds_toArray, List.set_cons_zero, List.set_cons_succ, i64_w, i32_w]
             rfl
            refine pure_ (i := 17) (N := some 57) (v := undef) (a' := ?_) #[true, true, true, true, true, true, true, true, true, true, true, true, true, true, true, true, true, true, false, false, false] rfl rfl (any_of HT_.out (by kernel_rfl)) (fun _ _ _ h => h) (Or.inr ⟨by rfl, rfl⟩) ?_ ?_
            rotate_left
            ·simp only [Act.put, List.setIfInBounds_toArray, List.set_cons_zero, List.set_cons_succ, i64_w, i32_w]
             rfl
            refine pure_ (i := 18) (N := some 58) (v := undef) (a' := ?_) #[true, true, true, true, true, true, true, true, true, true, true, true, true, true, true, true, true, true, true, false, false] rfl rfl (any_of HT_.out (by kernel_rfl)) (fun _ _ _ h => h) (Or.inr ⟨by rfl, rfl⟩) ?_ ?_
            rotate_left
            ·simp only [Act.put, List.setIfInBounds_toArray, List.set_cons_zero, List.set_cons_succ, i64_w, i32_w]
             rfl
            refine pure_ (i := 19) (N := some 59) (v := undef) (a' := ?_) #[true, true, true, true, true, true, true, true, true, true, true, true, true, true, true, true, true, true, true, true, false] rfl rfl (any_of HT_.out (by kernel_rfl)) (fun _ _ _ h => h) (Or.inr ⟨by rfl, rfl⟩) ?_ ?_
            rotate_left
            ·simp only [Act.put, List.setIfInBounds_toArray, List.set_cons_zero, List.set_cons_succ, i64_w, i32_w]
             rfl
            refine pure_ (i := 20) (N := some 60) (v := ?_) (a' := ?_) #[true, true, true, true, true, true, true, true, true, true, true, true, true, true, true, true, true, true, true, true, true] rfl rfl (any_of HT_.out (by kernel_rfl)) (fun _ _ _ h => h) (Or.inl ⟨by rfl, ?_⟩) ?_ ?_
            rotate_left
            ·intro w'
             go_simp
             with_reducible rfl
            rotate_left
            ·simp only [Act.put, List.setIfInBounds_toArray, List.set_cons_zero, List.set_cons_succ, i64_w, i32_w]
             rfl
            refine done_ (done_of HT_.out (by kernel_rfl)) ?_
            try go_wp2
            go_meet
            case rel => exact ⟨_, (true), (by first | rfl | (simp; done) | (simp [*]; done)), H', ⟨by have := HJ2.out; have := HK2.out; first | omega | exact Nat.le_refl _⟩, ⟨by (with_reducible repeat (first | refine blk_drewN ?_ _ | refine blk_drew ?_ | refine blk_alloc ?_ _)); exact BK243.out⟩, ⟨by (with_reducible repeat (first | refine blk_drewN ?_ _ | refine blk_drew ?_ | refine blk_alloc ?_ _)); exact BK244.out⟩, ⟨by (with_reducible repeat (first | refine blk_drewN ?_ _ | refine blk_drew ?_ | refine blk_alloc ?_ _)); exact BK247.out⟩, ⟨by repeat (first | (with_reducible first | exact HB.out | apply below_alloc | apply pw_below_drewN | apply below_drew1 | refine below_set ?_ GE243.out | refine below_set ?_ GE244.out | refine below_set ?_ GE247.out) | exact HB.out)⟩⟩
          ·replace c39 := Bool.eq_false_iff.mpr c39
           subst c39
           have H1 : (spec_StateOk.j2 k2 x35_2 l1_1 (l1_1.length : Int) x35_2 true a0_0 l0_1 a1_0 l1_1 l1_2 ((rd_T50 l1_1 x35_2).f0) ((rd_T50 l1_1 x35_2).f1) ((rd_T50 l1_1 x35_2).f2) ((rd_T50 l1_1 x35_2).f3) ((rd_T50 l1_1 x35_2).f4)) = some r := by rw [if_neg (show ¬ (false = true) by decide)] at H; exact H
           clear H
           have H := H1
           clear H1
           have H' := Aside0.mk H
           clear H
           try go_wp2
           have n0_ : Aside0 ((((((w34.setCell ⟨gb247, 0, none⟩ (.int .i64 ((rd_T50 l1_1 x35_2).f0))).setCell ⟨gb247, 1, none⟩ (.int .i64 ((rd_T50 l1_1 x35_2).f1))).setCell ⟨gb247, 2, none⟩ (.bool ((rd_T50 l1_1 x35_2).f2))).setCell ⟨gb247, 3, none⟩ (.bool ((rd_T50 l1_1 x35_2).f3))).setCell ⟨gb247, 4, none⟩ (.int .i64 ((rd_T50 l1_1 x35_2).f4))).heap[gb243]? = some (.cells #[.int .i64 a0_0, .slice A0_1 l0_1.length c0_1] 30 (0, 0))) := ⟨by (with_reducible repeat (first | refine blk_drewN ?_ _ | refine blk_drew ?_ | refine blk_alloc ?_ _)); refine blk_far ?_ NB243_247.out _; (with_reducible repeat (first | refine blk_drewN ?_ _ | refine blk_drew ?_ | refine blk_alloc ?_ _)); refine blk_far ?_ NB243_247.out _; (with_reducible repeat (first | refine blk_drewN ?_ _ | refine blk_drew ?_ | refine blk_alloc ?_ _)); refine blk_far ?_ NB243_247.out _; (with_reducible repeat (first | refine blk_drewN ?_ _ | refine blk_drew ?_ | refine blk_alloc ?_ _)); refine blk_far ?_ NB243_247.out _; (with_reducible repeat (first | refine blk_drewN ?_ _ | refine blk_drew ?_ | refine blk_alloc ?_ _)); refine blk_far ?_ NB243_247.out _; (with_reducible repeat (first | refine blk_drewN ?_ _ | refine blk_drew ?_ | refine blk_alloc ?_ _)); exact BK243.out⟩
           have n1_ : Aside0 ((((((w34.setCell ⟨gb247, 0, none⟩ (.int .i64 ((rd_T50 l1_1 x35_2).f0))).setCell ⟨gb247, 1, none⟩ (.int .i64 ((rd_T50 l1_1 x35_2).f1))).setCell ⟨gb247, 2, none⟩ (.bool ((rd_T50 l1_1 x35_2).f2))).setCell ⟨gb247, 3, none⟩ (.bool ((rd_T50 l1_1 x35_2).f3))).setCell ⟨gb247, 4, none⟩ (.int .i64 ((rd_T50 l1_1 x35_2).f4))).heap[gb244]? = some (.cells #[.bool a1_0, .slice (some ad246) l1_1.length c1_1, .slice A1_2 l1_2.length c1_2] 46 (0, 0))) := ⟨by (with_reducible repeat (first | refine blk_drewN ?_ _ | refine blk_drew ?_ | refine blk_alloc ?_ _)); refine blk_far ?_ NB244_247.out _; (with_reducible repeat (first | refine blk_drewN ?_ _ | refine blk_drew ?_ | refine blk_alloc ?_ _)); refine blk_far ?_ NB244_247.out _; (with_reducible repeat (first | refine blk_drewN ?_ _ | refine blk_drew ?_ | refine blk_alloc ?_ _)); refine blk_far ?_ NB244_247.out _; (with_reducible repeat (first | refine blk_drewN ?_ _ | refine blk_drew ?_ | refine blk_alloc ?_ _)); refine blk_far ?_ NB244_247.out _; (with_reducible repeat (first | refine blk_drewN ?_ _ | refine blk_drew ?_ | refine blk_alloc ?_ _)); refine blk_far ?_ NB244_247.out _; (with_reducible repeat (first | refine blk_drewN ?_ _ | refine blk_drew ?_ | refine blk_alloc ?_ _)); exact BK244.out⟩
           have n2_ : Aside0 ((((((w34.setCell ⟨gb247, 0, none⟩ (.int .i64 ((rd_T50 l1_1 x35_2).f0))).setCell ⟨gb247, 1, none⟩ (.int .i64 ((rd_T50 l1_1 x35_2).f1))).setCell ⟨gb247, 2, none⟩ (.bool ((rd_T50 l1_1 x35_2).f2))).setCell ⟨gb247, 3, none⟩ (.bool ((rd_T50 l1_1 x35_2).f3))).setCell ⟨gb247, 4, none⟩ (.int .i64 ((rd_T50 l1_1 x35_2).f4))).heap[gb247]? = some (.cells #[.int .i64 ((rd_T50 l1_1 x35_2).f0), .int .i64 ((rd_T50 l1_1 x35_2).f1), .bool ((rd_T50 l1_1 x35_2).f2), .bool ((rd_T50 l1_1 x35_2).f3), .int .i64 ((rd_T50 l1_1 x35_2).f4)] 50 (0, 0))) := ⟨by (with_reducible repeat (first | refine blk_drewN ?_ _ | refine blk_drew ?_ | refine blk_alloc ?_ _)); refine blk_put (cs := #[.int .i64 ((rd_T50 l1_1 x35_2).f0), .int .i64 ((rd_T50 l1_1 x35_2).f1), .bool ((rd_T50 l1_1 x35_2).f2), .bool ((rd_T50 l1_1 x35_2).f3), .int .i64 0]) ?_ 4 _ rfl; (with_reducible repeat (first | refine blk_drewN ?_ _ | refine blk_drew ?_ | refine blk_alloc ?_ _)); refine blk_put (cs := #[.int .i64 ((rd_T50 l1_1 x35_2).f0), .int .i64 ((rd_T50 l1_1 x35_2).f1), .bool ((rd_T50 l1_1 x35_2).f2), .bool false, .int .i64 0]) ?_ 3 _ rfl; (with_reducible repeat (first | refine blk_drewN ?_ _ | refine blk_drew ?_ | refine blk_alloc ?_ _)); refine blk_put (cs := #[.int .i64 ((rd_T50 l1_1 x35_2).f0), .int .i64 ((rd_T50 l1_1 x35_2).f1), .bool false, .bool false, .int .i64 0]) ?_ 2 _ rfl; (with_reducible repeat (first | refine blk_drewN ?_ _ | refine blk_drew ?_ | refine blk_alloc ?_ _)); refine blk_put (cs := #[.int .i64 ((rd_T50 l1_1 x35_2).f0), .int .i64 0, .bool false, .bool false, .int .i64 0]) ?_ 1 _ rfl; (with_reducible repeat (first | refine blk_drewN ?_ _ | refine blk_drew ?_ | refine blk_alloc ?_ _)); refine blk_put (cs := #[.int .i64 0, .int .i64 0, .bool false, .bool false, .int .i64 0]) ?_ 0 _ rfl; (with_reducible repeat (first | refine blk_drewN ?_ _ | refine blk_drew ?_ | refine blk_alloc ?_ _)); exact BK247.out⟩
           have n3_ : Aside0 (Below w.heap.size w (((((w34.setCell ⟨gb247, 0, none⟩ (.int .i64 ((rd_T50 l1_1 x35_2).f0))).setCell ⟨gb247, 1, none⟩ (.int .i64 ((rd_T50 l1_1 x35_2).f1))).setCell ⟨gb247, 2, none⟩ (.bool ((rd_T50 l1_1 x35_2).f2))).setCell ⟨gb247, 3, none⟩ (.bool ((rd_T50 l1_1 x35_2).f3))).setCell ⟨gb247, 4, none⟩ (.int .i64 ((rd_T50 l1_1 x35_2).f4)))) := ⟨by repeat (first | (with_reducible first | exact HB.out | apply below_alloc | apply pw_below_drewN | apply below_drew1 | refine below_set ?_ GE243.out | refine below_set ?_ GE244.out | refine below_set ?_ GE247.out) | exact HB.out)⟩
           (try clear BK243)
           (try clear BK244)
           (try clear BK247)
           (try clear HB)
           generalize (((((w34.setCell ⟨gb247, 0, none⟩ (.int .i64 ((rd_T50 l1_1 x35_2).f0))).setCell ⟨gb247, 1, none⟩ (.int .i64 ((rd_T50 l1_1 x35_2).f1))).setCell ⟨gb247, 2, none⟩ (.bool ((rd_T50 l1_1 x35_2).f2))).setCell ⟨gb247, 3, none⟩ (.bool ((rd_T50 l1_1 x35_2).f3))).setCell ⟨gb247, 4, none⟩ (.int .i64 ((rd_T50 l1_1 x35_2).f4))) = w48 at n0_ n1_ n2_ n3_ ⊢
           have BK243 := n0_
           have BK244 := n1_
           have BK247 := n2_
           have HB := n3_
           clear n0_ n1_ n2_ n3_
           have n0_ := Aside0.mk (blk_drew BK243.out)
           have n1_ := Aside0.mk (blk_drew BK244.out)
           have n2_ := Aside0.mk (blk_drew BK247.out)
           have n3_ := Aside0.mk (below_drew1 HB.out)
           clear BK243
           clear BK244
           clear BK247
           clear HB
           have BK243 := n0_
           have BK244 := n1_
           have BK247 := n2_
           have HB := n3_
           clear n0_ n1_ n2_ n3_
           refine start_ (n := 21) (S := fun w' => w'.cell? ⟨gb247, 0, none⟩ = some (.int .i64 ((rd_T50 l1_1 x35_2).f0)) ∧ w'.cell? ⟨gb247, 1, none⟩ = some (.int .i64 ((rd_T50 l1_1 x35_2).f1)) ∧ w'.cell? ⟨gb247, 2, none⟩ = some (.bool ((rd_T50 l1_1 x35_2).f2)) ∧ w'.cell? ⟨gb247, 3, none⟩ = some (.bool ((rd_T50 l1_1 x35_2).f3)) ∧ w'.cell? ⟨gb247, 4, none⟩ = some (.int .i64 ((rd_T50 l1_1 x35_2).f4))) (ds := []) #[false, false, false, false, false, false, false, false, false, false, false, false, false, false, false, false, false, false, false, false, false] (by kernel_rfl) rfl rfl ⟨(blk_cell BK247.out 0).trans rfl, (blk_cell BK247.out 1).trans rfl, (blk_cell BK247.out 2).trans rfl, (blk_cell BK247.out 3).trans rfl, (blk_cell BK247.out 4).trans rfl⟩ (fun hHeld => ?_); refine with_tabW spec_StateOk.tab6 spec_StateOk.bits6 (fun HT_ HW_ => ?_)
           generalize w48.drew = w49 at BK243 BK244 BK247 HB hHeld ⊢
           refine pure_ (i := 0) (N := some 40) (v := ?_) (a' := ?_) #[true, false, false, false, false, false, false, false, false, false, false, false, false, false, false, false, false, false, false, false, false] rfl rfl (any_of HT_.out (by kernel_rfl)) (fun _ _ _ h => h) (Or.inl ⟨by rfl, ?_⟩) ?_ ?_
           rotate_left
           ·intro w'
            go_simp
            with_reducible rfl
           rotate_left
           ·simp only [Act.put, List.setIfInBounds_toArray, List.set_cons_zero, List.set_cons_succ, i64_w, i32_w]
            rfl
           refine take_ (i := 1) (N := some 41) (v := ?_) (a' := ?_) #[true, true, false, false, false, false, false, false, false, false, false, false, false, false, false, false, false, false, false, false, false] rfl rfl (take_ofW HT_.out HW_.out (by kernel_rfl)) (fun _ _ _ h => h) (Or.inl ⟨by rfl, ?_⟩) hHeld ?_ ?_
           rotate_left
           ·rintro w' ⟨s0, s1, s2, s3, s4⟩
            go_simp
            with_reducible rfl
           rotate_left
           ·simp only [Act.put, List.setIfInBounds_toArray, List.set_cons_zero, List.set_cons_succ, i64_w, i32_w]
            rfl
           refine one_ (i := 2) (N := some 42) #[true, true, true, false, false, false, false, false, false, false, false, false, false, false, false, false, false, false, false, false, false] rfl rfl (one_of HT_.out (by kernel_rfl)) (by decide) (fun K hK => ?_)
           refine goes_ Try.func87 (by kernel_rfl) rfl #[.int .i64 ((rd_T50 l1_1 x35_2).f1), .int .i64 (-1000000), .int .i64 1000000] (by rfl) rfl rfl (by (try simp only [List.map_toArray, List.map_cons, List.map_nil]); first | done | rfl | (simp only [List.length_drop, List.length_take]; rfl)) ?_
           with_reducible refine (spec_l1in.calls ((rd_T50 l1_1 x35_2).f1) (-1000000) 1000000 false _ A38.out).mono ?_
           rintro e w' ⟨rfl, ⟨nd, rfl⟩⟩
           refine ⟨_, rfl, ?_⟩
           refine hK.out _ _ ⟨(blk_cell BK247.out 0).trans rfl, (blk_cell BK247.out 1).trans rfl, (blk_cell BK247.out 2).trans rfl, (blk_cell BK247.out 3).trans rfl, (blk_cell BK247.out 4).trans rfl⟩ (fun hHeld => ?_)
           clear hK K
           refine norm_ (a' := ?_) ?_ ?_
           rotate_left
           ·show Act.put _ (some 42) _ = _
            simp only [Act.put, List.setIfInBounds_toArray, List.set_cons_zero, List.set_cons_succ, i64_w, i32_w]
            rfl
           refine pure_ (i := 3) (N := some 43) (v := ?_) (a' := ?_) #[true, true, true, true, false, false, false, false, false, false, false, false, false, false, false, false, false, false, false, false, false] rfl rfl (any_of HT_.out (by kernel_rfl)) (fun _ _ _ h => h) (Or.inl ⟨by rfl, ?_⟩) ?_ ?_
           rotate_left
           ·intro w'
            go_simp
            with_reducible rfl
           rotate_left
           ·simp only [Act.put, List.setIfInBounds_toArray, List.set_cons_zero, List.set_cons_succ, i64_w, i32_w]
            rfl
           refine pure_ (i := 4) (N := some 44) (v := ?_) (a' := ?_) #[true, true, true, true, true, false, false, false, false, false, false, false, false, false, false, false, false, false, false, false, false] rfl rfl (any_of HT_.out (by kernel_rfl)) (fun _ _ _ h => h) (Or.inl ⟨by rfl, ?_⟩) ?_ ?_
           rotate_left
           ·intro w'
            go_simp
            with_reducible rfl
           rotate_left
           ·simp only [Act.put, List.setIfInBounds_toArray, List.set_cons_zero, List.set_cons_succ, i64_w, i32_w]
            rfl
           refine pure_ (i := 5) (N := some 45) (v := undef) (a' := ?_) #[true, true, true, true, true, true, false, false, false, false, false, false, false, false, false, false, false, false, false, false, false] rfl rfl (any_of HT_.out (by kernel_rfl)) (fun _ _ _ h => h) (Or.inr ⟨by rfl, rfl⟩) ?_ ?_
           rotate_left
           ·simp only [Act.put, List.setIfInBounds_toArray, List.set_cons_zero, List.set_cons_succ, i64_w, i32_w]
            rfl
           refine pure_ (i := 6) (N := some 46) (v := undef) (a' := ?_) #[true, true, true, true, true, true, true, false, false, false, false, false, false, false, false, false, false, false, false, false, false] rfl rfl (any_of HT_.out (by kernel_rfl)) (fun _ _ _ h => h) (Or.inr ⟨by rfl, rfl⟩) ?_ ?_
           rotate_left
           ·simp only [Act.put, List.setIfInBounds_toArray, List.set_cons_zero, List.set_cons_succ, i64_w, i32_w]
            rfl
           refine pure_ (i := 7) (N := some 47) (v := undef) (a' := ?_) #[true, true, true, true, true, true, true, true, false, false, false, false, false, false, false, false, false, false, false, false, false] rfl rfl (any_of HT_.out (by kernel_rfl)) (fun _ _ _ h => h) (Or.inr ⟨by rfl, rfl⟩) ?_ ?_
           rotate_left
           ·simp only [Act.put, List.setIfInBounds_toArray, List.set_cons_zero, List.set_cons_succ, i64_w, i32_w]
            rfl
           refine pure_ (i := 8) (N := some 48) (v := undef) (a' := ?_) #[true, true, true, true, true, true, true, true, true, false, false, false, false, false, false, false, false, false, false, false, false] rfl rfl (any_of HT_.out (by kernel_rfl)) (fun _ _ _ h => h) (Or.inr ⟨by rfl, rfl⟩) ?_ ?_
           rotate_left
           ·simp only [Act.put, List.setIfInBounds_toArray, List.set_cons_zero, List.set_cons_succ, i64_w, i32_w]
            rfl
           refine pure_ (i := 9) (N := some 49) (v := ?_) (a' := ?_) #[true, true, true, true, true, true, true, true, true, true, false, false, false, false, false, false, false, false, false, false, false] rfl rfl (any_of HT_.out (by kernel_rfl)) (fun _ _ _ h => h) (Or.inl ⟨by rfl, ?_⟩) ?_ ?_
           rotate_left
           ·intro w'
            go_simp
            with_reducible rfl
           rotate_left
           ·simp only [Act.put, List.setIfInBounds_toArray, List.set_cons_zero, List.set_cons_succ, i64_w, i32_w]
            rfl
           refine pure_ (i := 10) (N := some 50) (v := ?_) (a' := ?_) #[true, true, true, true, true, true, true, true, true, true, true, false, false, false, false, false, false, false, false, false, false] rfl rfl (any_of HT_.out (by kernel_rfl)) (fun _ _ _ h => h) (Or.inl ⟨by rfl, ?_⟩) ?_ ?_
           rotate_left
           ·intro w'
            go_simp
            with_reducible rfl
           rotate_left
           ·simp only [Act.put, List.setIfInBounds_toArray, List.set_cons_zero, List.set_cons_succ, i64_w, i32_w]
            rfl
           refine pure_ (i := 11) (N := some 51) (v := undef) (a' := ?_) #[true, true, true, true, true, true, true, true, true, true, true, true, false, false, false, false, false, false, false, false, false] rfl rfl (any_of HT_.out (by kernel_rfl)) (fun _ _ _ h => h) (Or.inr ⟨by rfl, rfl⟩) ?_ ?_
           rotate_left
           ·simp only [Act.put, List.setIfInBounds_toArray, List.set_cons_zero, List.set_cons_succ, i64_w, i32_w]
            rfl
           refine pure_ (i := 12) (N := some 52) (v := undef) (a' := ?_) #[true, true, true, true, true, true, true, true, true, true, true, true, true, false, false, false, false, false, false, false, false] rfl rfl (any_of HT_.out (by kernel_rfl)) (fun _ _ _ h => h) (Or.inr ⟨by rfl, rfl⟩) ?_ ?_
           rotate_left
           ·simp only [Act.put, List.setIfInBounds_toArray, List.set_cons_zero, List.set_cons_succ, i64_w, i32_w]
            rfl
           refine pure_ (i := 13) (N := some 53) (v := undef) (a' := ?_) #[true, true, true, true, true, true, true, true, true, true, true, true, true, true, false, false, false, false, false, false, false] rfl rfl (any_of HT_.out (by kernel_rfl)) (fun _ _ _ h => h) (Or.inr ⟨by rfl, rfl⟩) ?_ ?_
           rotate_left
           ·simp only [Act.put, List.setIfInBounds_toArray, List.set_cons_zero, List.set_cons_succ, i64_w, i32_w]
            rfl
           refine pure_ (i := 14) (N := some 54) (v := undef) (a' := ?_) #[true, true, true, true, true, true, true, true, true, true, true, true, true, true, true, false, false, false, false, false, false] rfl rfl (any_of HT_.out (by kernel_rfl)) (fun _ _ _ h => h) (Or.inr ⟨by rfl, rfl⟩) ?_ ?_
           rotate_left
           ·simp only [Act.put, List.setIfInBounds_toArray, List.set_cons_zero, List.set_cons_succ, i64_w, i32_w]
            rfl
           refine pure_ (i := 15) (N := some 55) (v := undef) (a' := ?_) #[true, true, true, true, true, true, true, true, true, true, true, true, true, true, true, true, false, false, false, false, false] rfl rfl (any_of HT_.out (by kernel_rfl)) (fun _ _ _ h => h) (Or.inr ⟨by rfl, rfl⟩) ?_ ?_
           rotate_left
           ·simp only [Act.put, List.setIfInBounds_toArray, List.set_cons_zero, List.set_cons_succ, i64_w, i32_w]
            rfl
           refine pure_ (i := 16) (N := some 56) (v := undef) (a' := ?_) #[true, true, true, true, true, true, true, true, true, true, true, true, true, true, true, true, true, false, false, false, false] rfl rfl (any_of HT_.out (by kernel_rfl)) (fun _ _ _ h => h) (Or.inr ⟨by rfl, rfl⟩) ?_ ?_
           rotate_left
           ·simp only [Act.put, List.setIfInBounds_toArray, List.set_cons_zero, List.set_cons_succ, i64_w, i32_w]
            rfl
           refine pure_ (i := 17) (N := some 57) (v := undef) (a' := ?_) #[true, true, true, true, true, true, true, true, true, true, true, true, true, true, true, true, true, true, false, false, false] rfl rfl (any_of HT_.out (by kernel_rfl)) (fun _ _ _ h => h) (Or.inr ⟨by rfl, rfl⟩) ?_ ?_
           rotate_left
           ·simp only [Act.put, List.setIfInBounds_toArray, List.set_cons_zero, List.set_cons_succ, i64_w, i32_w]
            rfl
           refine pure_ (i := 18) (N := some 58) (v := undef) (a' := ?_) #[true, true, true, true, true, true, true, true, true, true, true, true, true, true, true, true, true, true, true, false, false] rfl rfl (any_of HT_.out (by kernel_rfl)) (fun _ _ _ h => h) (Or.inr ⟨by rfl, rfl⟩) ?_ ?_
           rotate_left
           ·simp only [Act.put, List.setIfInBounds_toArray, List.set_cons_zero, List.set_cons_succ, i64_w, i32_w]
            rfl
           refine pure_ (i := 19) (N := some 59) (v := undef) (a' := ?_) #[true, true, true, true, true, true, true, true, true, true, true, true, true, true, true, true, true, true, true, true, false] rfl rfl (any_of HT_.out (by kernel_rfl)) (fun _ _ _ h => h) (Or.inr ⟨by rfl, rfl⟩) ?_ ?_
           rotate_left
           ·simp only [Act.put, List.setIfInBounds_toArray, List.set_cons_zero, List.set_cons_succ, i64_w, i32_w]
            rfl
           refine pure_ (i := 20) (N := some 60) (v := ?_) (a' := ?_) #[true, true, true, true, true, true, true, true, true, true, true, true, true, true, true, true, true, true, true, true, true] rfl rfl (any_of HT_.out (by kernel_rfl)) (fun _ _ _ h => h) (Or.inl ⟨by rfl, ?_⟩) ?_ ?_
           rotate_left
           ·intro w'
            go_simp
            with_reducible rfl
           rotate_left
           ·simp only [Act.put, List.setIfInBounds_toArray, List.set_cons_zero, List.set_cons_succ, i64_w, i32_w]
            rfl
           refine done_ (done_of HT_.out (by kernel_rfl)) ?_
           try go_wp2
           go_meet
           case rel => exact ⟨_, (true), (by first | rfl | (simp; done) | (simp [*]; done)), H', ⟨by have := HJ2.out; have := HK2.out; first | omega | exact Nat.le_refl _⟩, ⟨by (with_reducible repeat (first | refine blk_drewN ?_ _ | refine blk_drew ?_ | refine blk_alloc ?_ _)); exact BK243.out⟩, ⟨by (with_reducible repeat (first | refine blk_drewN ?_ _ | refine blk_drew ?_ | refine blk_alloc ?_ _)); exact BK244.out⟩, ⟨by (with_reducible repeat (first | refine blk_drewN ?_ _ | refine blk_drew ?_ | refine blk_alloc ?_ _)); exact BK247.out⟩, ⟨by repeat (first | (with_reducible first | exact HB.out | apply below_alloc | apply pw_below_drewN | apply below_drew1 | refine below_set ?_ GE243.out | refine below_set ?_ GE244.out | refine below_set ?_ GE247.out) | exact HB.out)⟩⟩
         case rest =>
          clear HC33
          try clear c1
          try clear p2
          try clear c3
          try clear c4
          try clear c8
          try clear c11
          try clear c39
          try clear c41
          obtain ⟨kq, x60_32, rfl, HA, HJ32, BK243, BK244, BK247, HB⟩ := hcut
          cases kq with
          | zero => exact absurd HA.out (by simp [spec_StateOk.j2])
          | succ kj32 =>
           have H := HA.out
           clear HA
           simp only [spec_StateOk.j2] at H
           by_cases c50 : x60_32 = true
           ·subst c50
            have H1 : (some false) = some r := by rw [if_pos rfl] at H; exact H
            clear H
            have H := H1
            clear H1
            obtain rfl := Option.some.inj H
            go_wp2
            go_ret
            exact ⟨by first | rfl | (simp [errW_none, errW_some] <;> rfl) | (simp [*, errW_none, errW_some] <;> rfl), by repeat (first | (with_reducible first | exact HB.out | apply below_alloc | apply pw_below_drewN | apply below_drew1 | refine below_set ?_ GE243.out | refine below_set ?_ GE244.out | refine below_set ?_ GE247.out) | exact HB.out)⟩
           ·replace c50 := Bool.eq_false_iff.mpr c50
            subst c50
            have H1 : (if ((rd_T50 l1_1 x35_2).f1) < 0 then (if ((rd_T50 l1_1 x35_2).f2) = true then ((spec_l2dead.f kj32 a0_0 l0_1 l1_2 x35_2).bind fun t251 => (if t251 = true then (if ((rd_T50 l1_1 x35_2).f3) = true then (if ((rd_T50 l1_1 x35_2).f1) = 0 then (if ((rd_T50 l1_1 x35_2).f4) = (-1) then (spec_StateOk.l0 kj32 l1_1 (l1_1.length : Int) (wrap64 (x35_2 + 1)) a0_0 l0_1 a1_0 l1_1 l1_2) else (spec_StateOk.l0 kj32 l1_1 (l1_1.length : Int) (wrap64 (x35_2 + 1)) a0_0 l0_1 a1_0 l1_1 l1_2)) else (spec_StateOk.l0 kj32 l1_1 (l1_1.length : Int) (wrap64 (x35_2 + 1)) a0_0 l0_1 a1_0 l1_1 l1_2)) else (spec_StateOk.l0 kj32 l1_1 (l1_1.length : Int) (wrap64 (x35_2 + 1)) a0_0 l0_1 a1_0 l1_1 l1_2)) else (if ((rd_T50 l1_1 x35_2).f3) = true then (if ((rd_T50 l1_1 x35_2).f1) = 0 then (if ((rd_T50 l1_1 x35_2).f4) = (-1) then (spec_StateOk.l0 kj32 l1_1 (l1_1.length : Int) (wrap64 (x35_2 + 1)) a0_0 l0_1 a1_0 l1_1 l1_2) else (spec_StateOk.l0 kj32 l1_1 (l1_1.length : Int) (wrap64 (x35_2 + 1)) a0_0 l0_1 a1_0 l1_1 l1_2)) else (spec_StateOk.l0 kj32 l1_1 (l1_1.length : Int) (wrap64 (x35_2 + 1)) a0_0 l0_1 a1_0 l1_1 l1_2)) else (spec_StateOk.l0 kj32 l1_1 (l1_1.length : Int) (wrap64 (x35_2 + 1)) a0_0 l0_1 a1_0 l1_1 l1_2)))) else (some false)) else ((spec_l2dead.f kj32 a0_0 l0_1 l1_2 x35_2).bind fun t252 => (if t252 = true then (if ((rd_T50 l1_1 x35_2).f2) = true then (if ((rd_T50 l1_1 x35_2).f3) = true then (if ((rd_T50 l1_1 x35_2).f1) = 0 then (if ((rd_T50 l1_1 x35_2).f4) = (-1) then (spec_StateOk.l0 kj32 l1_1 (l1_1.length : Int) (wrap64 (x35_2 + 1)) a0_0 l0_1 a1_0 l1_1 l1_2) else (spec_StateOk.l0 kj32 l1_1 (l1_1.length : Int) (wrap64 (x35_2 + 1)) a0_0 l0_1 a1_0 l1_1 l1_2)) else (spec_StateOk.l0 kj32 l1_1 (l1_1.length : Int) (wrap64 (x35_2 + 1)) a0_0 l0_1 a1_0 l1_1 l1_2)) else (spec_StateOk.l0 kj32 l1_1 (l1_1.length : Int) (wrap64 (x35_2 + 1)) a0_0 l0_1 a1_0 l1_1 l1_2)) else (some false)) else (if ((rd_T50 l1_1 x35_2).f3) = true then (if ((rd_T50 l1_1 x35_2).f1) = 0 then (if ((rd_T50 l1_1 x35_2).f4) = (-1) then (if ((rd_T50 l1_1 x35_2).f2) = true then (spec_StateOk.l0 kj32 l1_1 (l1_1.length : Int) (wrap64 (x35_2 + 1)) a0_0 l0_1 a1_0 l1_1 l1_2) else (some false)) else (spec_StateOk.l0 kj32 l1_1 (l1_1.length : Int) (wrap64 (x35_2 + 1)) a0_0 l0_1 a1_0 l1_1 l1_2)) else (spec_StateOk.l0 kj32 l1_1 (l1_1.length : Int) (wrap64 (x35_2 + 1)) a0_0 l0_1 a1_0 l1_1 l1_2)) else (spec_StateOk.l0 kj32 l1_1 (l1_1.length : Int) (wrap64 (x35_2 + 1)) a0_0 l0_1 a1_0 l1_1 l1_2))))) = some r := by rw [if_neg (show ¬ (false = true) by decide)] at H; exact H
            clear H
            have H := H1
            clear H1
            by_cases c51 : ((rd_T50 l1_1 x35_2).f1) < 0
            ·rw [if_pos c51] at H
             have c51b0 : decide (((rd_T50 l1_1 x35_2).f1) < 0) = true := decide_eq_true c51
             clear c51
             by_cases c52 : ((rd_T50 l1_1 x35_2).f2) = true
             ·rw [if_pos c52] at H
              have c52b0 : ((rd_T50 l1_1 x35_2).f2) = true := c52
              clear c52
              replace H := Option.bind_eq_some_iff.mp H
              obtain ⟨t251, A530, H⟩ := H
              replace H : (if t251 = true then (if ((rd_T50 l1_1 x35_2).f3) = true then (if ((rd_T50 l1_1 x35_2).f1) = 0 then (if ((rd_T50 l1_1 x35_2).f4) = (-1) then (spec_StateOk.l0 kj32 l1_1 (l1_1.length : Int) (wrap64 (x35_2 + 1)) a0_0 l0_1 a1_0 l1_1 l1_2) else (spec_StateOk.l0 kj32 l1_1 (l1_1.length : Int) (wrap64 (x35_2 + 1)) a0_0 l0_1 a1_0 l1_1 l1_2)) else (spec_StateOk.l0 kj32 l1_1 (l1_1.length : Int) (wrap64 (x35_2 + 1)) a0_0 l0_1 a1_0 l1_1 l1_2)) else (spec_StateOk.l0 kj32 l1_1 (l1_1.length : Int) (wrap64 (x35_2 + 1)) a0_0 l0_1 a1_0 l1_1 l1_2)) else (if ((rd_T50 l1_1 x35_2).f3) = true then (if ((rd_T50 l1_1 x35_2).f1) = 0 then (if ((rd_T50 l1_1 x35_2).f4) = (-1) then (spec_StateOk.l0 kj32 l1_1 (l1_1.length : Int) (wrap64 (x35_2 + 1)) a0_0 l0_1 a1_0 l1_1 l1_2) else (spec_StateOk.l0 kj32 l1_1 (l1_1.length : Int) (wrap64 (x35_2 + 1)) a0_0 l0_1 a1_0 l1_1 l1_2)) else (spec_StateOk.l0 kj32 l1_1 (l1_1.length : Int) (wrap64 (x35_2 + 1)) a0_0 l0_1 a1_0 l1_1 l1_2)) else (spec_StateOk.l0 kj32 l1_1 (l1_1.length : Int) (wrap64 (x35_2 + 1)) a0_0 l0_1 a1_0 l1_1 l1_2))) = some r := H
              have A53 := Aside0.mk A530
              clear A530
              by_cases c54 : t251 = true
              ·subst c54
               have H1 : (if ((rd_T50 l1_1 x35_2).f3) = true then (if ((rd_T50 l1_1 x35_2).f1) = 0 then (if ((rd_T50 l1_1 x35_2).f4) = (-1) then (spec_StateOk.l0 kj32 l1_1 (l1_1.length : Int) (wrap64 (x35_2 + 1)) a0_0 l0_1 a1_0 l1_1 l1_2) else (spec_StateOk.l0 kj32 l1_1 (l1_1.length : Int) (wrap64 (x35_2 + 1)) a0_0 l0_1 a1_0 l1_1 l1_2)) else (spec_StateOk.l0 kj32 l1_1 (l1_1.length : Int) (wrap64 (x35_2 + 1)) a0_0 l0_1 a1_0 l1_1 l1_2)) else (spec_StateOk.l0 kj32 l1_1 (l1_1.length : Int) (wrap64 (x35_2 + 1)) a0_0 l0_1 a1_0 l1_1 l1_2)) = some r := by rw [if_pos rfl] at H; exact H
               clear H
               have H := H1
               clear H1
               by_cases c55 : ((rd_T50 l1_1 x35_2).f3) = true
               ·rw [if_pos c55] at H
                have c55b0 : ((rd_T50 l1_1 x35_2).f3) = true := c55
                clear c55
                by_cases c56 : ((rd_T50 l1_1 x35_2).f1) = 0
                ·rw [if_pos c56] at H
                 have c56b0 : (((rd_T50 l1_1 x35_2).f1) == 0) = true := beq_iff_eq.mpr c56
                 have c56b1 : (((rd_T50 l1_1 x35_2).f1) != 0) = false := bne_eq_false_iff_eq.mpr c56
                 clear c56
                 by_cases c57 : ((rd_T50 l1_1 x35_2).f4) = (-1)
                 ·rw [if_pos c57] at H
                  have c57b0 : (((rd_T50 l1_1 x35_2).f4) == (-1)) = true := beq_iff_eq.mpr c57
                  have c57b1 : (((rd_T50 l1_1 x35_2).f4) != (-1)) = false := bne_eq_false_iff_eq.mpr c57
                  clear c57
                  have H' := Aside0.mk H
                  clear H
                  have hnb58 := NB247_243.out
                  have hnc58 := NB243_247.out
                  have hnb59 := NB247_244.out
                  have hnc59 := NB244_247.out
                  have hcz60_0 : wc.cell? ⟨gb247, 0, none⟩ = some (.int .i64 ((rd_T50 l1_1 x35_2).f0)) := (blk_cell BK247.out 0).trans rfl
                  have hcz60_1 : wc.cell? ⟨gb247, 1, none⟩ = some (.int .i64 ((rd_T50 l1_1 x35_2).f1)) := (blk_cell BK247.out 1).trans rfl
                  have hcz60_2 : wc.cell? ⟨gb247, 2, none⟩ = some (.bool ((rd_T50 l1_1 x35_2).f2)) := (blk_cell BK247.out 2).trans rfl
                  have hcz60_3 : wc.cell? ⟨gb247, 3, none⟩ = some (.bool ((rd_T50 l1_1 x35_2).f3)) := (blk_cell BK247.out 3).trans rfl
                  have hcz60_4 : wc.cell? ⟨gb247, 4, none⟩ = some (.int .i64 ((rd_T50 l1_1 x35_2).f4)) := (blk_cell BK247.out 4).trans rfl
                  have hfz60_0 := blk_frozen BK247.out 0
                  have hfz60_1 := blk_frozen BK247.out 1
                  have hfz60_2 := blk_frozen BK247.out 2
                  have hfz60_3 := blk_frozen BK247.out 3
                  have hfz60_4 := blk_frozen BK247.out 4
                  have hnb61 := NB243_244.out
                  have hnc61 := NB244_243.out
                  have hcz62_0 : wc.cell? ⟨gb243, 0, none⟩ = some (.int .i64 a0_0) := (blk_cell BK243.out 0).trans rfl
                  have hcz62_1 : wc.cell? ⟨gb243, 1, none⟩ = some (.slice A0_1 l0_1.length c0_1) := (blk_cell BK243.out 1).trans rfl
                  have hfz62_0 := blk_frozen BK243.out 0
                  have hfz62_1 := blk_frozen BK243.out 1
                  have hcz63_0 : wc.cell? ⟨gb244, 0, none⟩ = some (.bool a1_0) := (blk_cell BK244.out 0).trans rfl
                  have hcz63_1 : wc.cell? ⟨gb244, 1, none⟩ = some (.slice (some ad246) l1_1.length c1_1) := (blk_cell BK244.out 1).trans rfl
                  have hcz63_2 : wc.cell? ⟨gb244, 2, none⟩ = some (.slice A1_2 l1_2.length c1_2) := (blk_cell BK244.out 2).trans rfl
                  have hfz63_0 := blk_frozen BK244.out 0
                  have hfz63_1 := blk_frozen BK244.out 1
                  have hfz63_2 := blk_frozen BK244.out 2
                  go_wp2_with (first | (go_at_call 114; (with_reducible refine (spec_l2dead.calls kj32 a0_0 _ _ l0_1 _ _ l1_2 x35_2 true _ ?side1 ?side2 ?side3 ?side4 A53.out).mono ?_); (case side1 => repeat (first | exact (Kd.C_below HR0_1.out HB.out) | (with_reducible refine Kd.C_alloc ?_ _) | (with_reducible refine Kd.C_drewN ?_ _) | (with_reducible refine Kd.C_drew ?_))); (case side2 => exact HC0_1.out); (case side3 => repeat (first | exact (Kd.C_below HR1_2.out HB.out) | (with_reducible refine Kd.C_alloc ?_ _) | (with_reducible refine Kd.C_drewN ?_ _) | (with_reducible refine Kd.C_drew ?_))); (case side4 => exact HC1_2.out); rintro e w64 ⟨rfl, hb⟩; have n0_ := Aside0.mk (blk_below (g := gb243) (o := .cells #[.int .i64 a0_0, .slice A0_1 l0_1.length c0_1] 30 (0, 0)) (by (with_reducible repeat (first | refine blk_drewN ?_ _ | refine blk_drew ?_ | refine blk_alloc ?_ _)); exact BK243.out) hb); have n1_ := Aside0.mk (blk_below (g := gb244) (o := .cells #[.bool a1_0, .slice (some ad246) l1_1.length c1_1, .slice A1_2 l1_2.length c1_2] 46 (0, 0)) (by (with_reducible repeat (first | refine blk_drewN ?_ _ | refine blk_drew ?_ | refine blk_alloc ?_ _)); exact BK244.out) hb); have n2_ := Aside0.mk (blk_below (g := gb247) (o := .cells #[.int .i64 ((rd_T50 l1_1 x35_2).f0), .int .i64 ((rd_T50 l1_1 x35_2).f1), .bool ((rd_T50 l1_1 x35_2).f2), .bool ((rd_T50 l1_1 x35_2).f3), .int .i64 ((rd_T50 l1_1 x35_2).f4)] 50 (0, 0)) (by (with_reducible repeat (first | refine blk_drewN ?_ _ | refine blk_drew ?_ | refine blk_alloc ?_ _)); exact BK247.out) hb); have n3_ := Aside0.mk (below_step (by repeat (first | (with_reducible first | exact HB.out | apply below_alloc | apply pw_below_drewN | apply below_drew1 | refine below_set ?_ GE243.out | refine below_set ?_ GE244.out | refine below_set ?_ GE247.out) | exact HB.out)) hb); clear BK243; clear BK244; clear BK247; clear HB; have BK243 := n0_; have BK244 := n1_; have BK247 := n2_; have HB := n3_; clear n0_ n1_ n2_ n3_; (try clear hb); (try clear hb2); (try clear hk); (try clear hi); have hcz65_0 : w64.cell? ⟨gb247, 0, none⟩ = some (.int .i64 ((rd_T50 l1_1 x35_2).f0)) := (blk_cell BK247.out 0).trans rfl; have hcz65_1 : w64.cell? ⟨gb247, 1, none⟩ = some (.int .i64 ((rd_T50 l1_1 x35_2).f1)) := (blk_cell BK247.out 1).trans rfl; have hcz65_2 : w64.cell? ⟨gb247, 2, none⟩ = some (.bool ((rd_T50 l1_1 x35_2).f2)) := (blk_cell BK247.out 2).trans rfl; have hcz65_3 : w64.cell? ⟨gb247, 3, none⟩ = some (.bool ((rd_T50 l1_1 x35_2).f3)) := (blk_cell BK247.out 3).trans rfl; have hcz65_4 : w64.cell? ⟨gb247, 4, none⟩ = some (.int .i64 ((rd_T50 l1_1 x35_2).f4)) := (blk_cell BK247.out 4).trans rfl; have hfz65_0 := blk_frozen BK247.out 0; have hfz65_1 := blk_frozen BK247.out 1; have hfz65_2 := blk_frozen BK247.out 2; have hfz65_3 := blk_frozen BK247.out 3; have hfz65_4 := blk_frozen BK247.out 4))
                  go_roundg kj32
                  case measure => have := HJ2.out; have := HK2.out; have := HJ32.out; omega
                  case rel => exact ⟨(wrap64 (x35_2 + 1)), (by first | rfl | (simp; done) | (simp [*]; done)), H', ⟨by have := HJ2.out; have := HK2.out; have := HJ32.out; omega⟩, ⟨by (with_reducible repeat (first | refine blk_drewN ?_ _ | refine blk_drew ?_ | refine blk_alloc ?_ _)); exact BK243.out⟩, ⟨by (with_reducible repeat (first | refine blk_drewN ?_ _ | refine blk_drew ?_ | refine blk_alloc ?_ _)); exact BK244.out⟩, ⟨by repeat (first | (with_reducible first | exact HB.out | apply below_alloc | apply pw_below_drewN | apply below_drew1 | refine below_set ?_ GE243.out | refine below_set ?_ GE244.out | refine below_set ?_ GE247.out) | exact HB.out)⟩⟩
                 ·rw [if_neg c57] at H
                  have c57b0 : (((rd_T50 l1_1 x35_2).f4) == (-1)) = false := beq_eq_false_iff_ne.mpr c57
                  have c57b1 : (((rd_T50 l1_1 x35_2).f4) != (-1)) = true := bne_iff_ne.mpr c57
                  have H' := Aside0.mk H
                  clear H
                  have hnb66 := NB247_243.out
                  have hnc66 := NB243_247.out
                  have hnb67 := NB247_244.out
                  have hnc67 := NB244_247.out
                  have hcz68_0 : wc.cell? ⟨gb247, 0, none⟩ = some (.int .i64 ((rd_T50 l1_1 x35_2).f0)) := (blk_cell BK247.out 0).trans rfl
                  have hcz68_1 : wc.cell? ⟨gb247, 1, none⟩ = some (.int .i64 ((rd_T50 l1_1 x35_2).f1)) := (blk_cell BK247.out 1).trans rfl
                  have hcz68_2 : wc.cell? ⟨gb247, 2, none⟩ = some (.bool ((rd_T50 l1_1 x35_2).f2)) := (blk_cell BK247.out 2).trans rfl
                  have hcz68_3 : wc.cell? ⟨gb247, 3, none⟩ = some (.bool ((rd_T50 l1_1 x35_2).f3)) := (blk_cell BK247.out 3).trans rfl
                  have hcz68_4 : wc.cell? ⟨gb247, 4, none⟩ = some (.int .i64 ((rd_T50 l1_1 x35_2).f4)) := (blk_cell BK247.out 4).trans rfl
                  have hfz68_0 := blk_frozen BK247.out 0
                  have hfz68_1 := blk_frozen BK247.out 1
                  have hfz68_2 := blk_frozen BK247.out 2
                  have hfz68_3 := blk_frozen BK247.out 3
                  have hfz68_4 := blk_frozen BK247.out 4
                  have hnb69 := NB243_244.out
                  have hnc69 := NB244_243.out
                  have hcz70_0 : wc.cell? ⟨gb243, 0, none⟩ = some (.int .i64 a0_0) := (blk_cell BK243.out 0).trans rfl
                  have hcz70_1 : wc.cell? ⟨gb243, 1, none⟩ = some (.slice A0_1 l0_1.length c0_1) := (blk_cell BK243.out 1).trans rfl
                  have hfz70_0 := blk_frozen BK243.out 0
                  have hfz70_1 := blk_frozen BK243.out 1
                  have hcz71_0 : wc.cell? ⟨gb244, 0, none⟩ = some (.bool a1_0) := (blk_cell BK244.out 0).trans rfl
                  have hcz71_1 : wc.cell? ⟨gb244, 1, none⟩ = some (.slice (some ad246) l1_1.length c1_1) := (blk_cell BK244.out 1).trans rfl
                  have hcz71_2 : wc.cell? ⟨gb244, 2, none⟩ = some (.slice A1_2 l1_2.length c1_2) := (blk_cell BK244.out 2).trans rfl
                  have hfz71_0 := blk_frozen BK244.out 0
                  have hfz71_1 := blk_frozen BK244.out 1
                  have hfz71_2 := blk_frozen BK244.out 2
                  go_wp2_with (first | (go_at_call 114; (with_reducible refine (spec_l2dead.calls kj32 a0_0 _ _ l0_1 _ _ l1_2 x35_2 true _ ?side1 ?side2 ?side3 ?side4 A53.out).mono ?_); (case side1 => repeat (first | exact (Kd.C_below HR0_1.out HB.out) | (with_reducible refine Kd.C_alloc ?_ _) | (with_reducible refine Kd.C_drewN ?_ _) | (with_reducible refine Kd.C_drew ?_))); (case side2 => exact HC0_1.out); (case side3 => repeat (first | exact (Kd.C_below HR1_2.out HB.out) | (with_reducible refine Kd.C_alloc ?_ _) | (with_reducible refine Kd.C_drewN ?_ _) | (with_reducible refine Kd.C_drew ?_))); (case side4 => exact HC1_2.out); rintro e w72 ⟨rfl, hb⟩; have n0_ := Aside0.mk (blk_below (g := gb243) (o := .cells #[.int .i64 a0_0, .slice A0_1 l0_1.length c0_1] 30 (0, 0)) (by (with_reducible repeat (first | refine blk_drewN ?_ _ | refine blk_drew ?_ | refine blk_alloc ?_ _)); exact BK243.out) hb); have n1_ := Aside0.mk (blk_below (g := gb244) (o := .cells #[.bool a1_0, .slice (some ad246) l1_1.length c1_1, .slice A1_2 l1_2.length c1_2] 46 (0, 0)) (by (with_reducible repeat (first | refine blk_drewN ?_ _ | refine blk_drew ?_ | refine blk_alloc ?_ _)); exact BK244.out) hb); have n2_ := Aside0.mk (blk_below (g := gb247) (o := .cells #[.int .i64 ((rd_T50 l1_1 x35_2).f0), .int .i64 ((rd_T50 l1_1 x35_2).f1), .bool ((rd_T50 l1_1 x35_2).f2), .bool ((rd_T50 l1_1 x35_2).f3), .int .i64 ((rd_T50 l1_1 x35_2).f4)] 50 (0, 0)) (by (with_reducible repeat (first | refine blk_drewN ?_ _ | refine blk_drew ?_ | refine blk_alloc ?_ _)); exact BK247.out) hb); have n3_ := Aside0.mk (below_step (by repeat (first | (with_reducible first | exact HB.out | apply below_alloc | apply pw_below_drewN | apply below_drew1 | refine below_set ?_ GE243.out | refine below_set ?_ GE244.out | refine below_set ?_ GE247.out) | exact HB.out)) hb); clear BK243; clear BK244; clear BK247; clear HB; have BK243 := n0_; have BK244 := n1_; have BK247 := n2_; have HB := n3_; clear n0_ n1_ n2_ n3_; (try clear hb); (try clear hb2); (try clear hk); (try clear hi); have hcz73_0 : w72.cell? ⟨gb247, 0, none⟩ = some (.int .i64 ((rd_T50 l1_1 x35_2).f0)) := (blk_cell BK247.out 0).trans rfl; have hcz73_1 : w72.cell? ⟨gb247, 1, none⟩ = some (.int .i64 ((rd_T50 l1_1 x35_2).f1)) := (blk_cell BK247.out 1).trans rfl; have hcz73_2 : w72.cell? ⟨gb247, 2, none⟩ = some (.bool ((rd_T50 l1_1 x35_2).f2)) := (blk_cell BK247.out 2).trans rfl; have hcz73_3 : w72.cell? ⟨gb247, 3, none⟩ = some (.bool ((rd_T50 l1_1 x35_2).f3)) := (blk_cell BK247.out 3).trans rfl; have hcz73_4 : w72.cell? ⟨gb247, 4, none⟩ = some (.int .i64 ((rd_T50 l1_1 x35_2).f4)) := (blk_cell BK247.out 4).trans rfl; have hfz73_0 := blk_frozen BK247.out 0; have hfz73_1 := blk_frozen BK247.out 1; have hfz73_2 := blk_frozen BK247.out 2; have hfz73_3 := blk_frozen BK247.out 3; have hfz73_4 := blk_frozen BK247.out 4))
                  go_roundg kj32
                  case measure => have := HJ2.out; have := HK2.out; have := HJ32.out; omega
                  case rel => exact ⟨(wrap64 (x35_2 + 1)), (by first | rfl | (simp; done) | (simp [*]; done)), H', ⟨by have := HJ2.out; have := HK2.out; have := HJ32.out; omega⟩, ⟨by (with_reducible repeat (first | refine blk_drewN ?_ _ | refine blk_drew ?_ | refine blk_alloc ?_ _)); exact BK243.out⟩, ⟨by (with_reducible repeat (first | refine blk_drewN ?_ _ | refine blk_drew ?_ | refine blk_alloc ?_ _)); exact BK244.out⟩, ⟨by repeat (first | (with_reducible first | exact HB.out | apply below_alloc | apply pw_below_drewN | apply below_drew1 | refine below_set ?_ GE243.out | refine below_set ?_ GE244.out | refine below_set ?_ GE247.out) | exact HB.out)⟩⟩
                ·rw [if_neg c56] at H
                 have c56b0 : (((rd_T50 l1_1 x35_2).f1) == 0) = false := beq_eq_false_iff_ne.mpr c56
                 have c56b1 : (((rd_T50 l1_1 x35_2).f1) != 0) = true := bne_iff_ne.mpr c56
                 have H' := Aside0.mk H
                 clear H
                 have hnb74 := NB247_243.out
                 have hnc74 := NB243_247.out
                 have hnb75 := NB247_244.out
                 have hnc75 := NB244_247.out
                 have hcz76_0 : wc.cell? ⟨gb247, 0, none⟩ = some (.int .i64 ((rd_T50 l1_1 x35_2).f0)) := (blk_cell BK247.out 0).trans rfl
                 have hcz76_1 : wc.cell? ⟨gb247, 1, none⟩ = some (.int .i64 ((rd_T50 l1_1 x35_2).f1)) := (blk_cell BK247.out 1).trans rfl
                 have hcz76_2 : wc.cell? ⟨gb247, 2, none⟩ = some (.bool ((rd_T50 l1_1 x35_2).f2)) := (blk_cell BK247.out 2).trans rfl
                 have hcz76_3 : wc.cell? ⟨gb247, 3, none⟩ = some (.bool ((rd_T50 l1_1 x35_2).f3)) := (blk_cell BK247.out 3).trans rfl
                 have hcz76_4 : wc.cell? ⟨gb247, 4, none⟩ = some (.int .i64 ((rd_T50 l1_1 x35_2).f4)) := (blk_cell BK247.out 4).trans rfl
                 have hfz76_0 := blk_frozen BK247.out 0
                 have hfz76_1 := blk_frozen BK247.out 1
                 have hfz76_2 := blk_frozen BK247.out 2
                 have hfz76_3 := blk_frozen BK247.out 3
                 have hfz76_4 := blk_frozen BK247.out 4
                 have hnb77 := NB243_244.out
                 have hnc77 := NB244_243.out
                 have hcz78_0 : wc.cell? ⟨gb243, 0, none⟩ = some (.int .i64 a0_0) := (blk_cell BK243.out 0).trans rfl
                 have hcz78_1 : wc.cell? ⟨gb243, 1, none⟩ = some (.slice A0_1 l0_1.length c0_1) := (blk_cell BK243.out 1).trans rfl
                 have hfz78_0 := blk_frozen BK243.out 0
                 have hfz78_1 := blk_frozen BK243.out 1
                 have hcz79_0 : wc.cell? ⟨gb244, 0, none⟩ = some (.bool a1_0) := (blk_cell BK244.out 0).trans rfl
                 have hcz79_1 : wc.cell? ⟨gb244, 1, none⟩ = some (.slice (some ad246) l1_1.length c1_1) := (blk_cell BK244.out 1).trans rfl
                 have hcz79_2 : wc.cell? ⟨gb244, 2, none⟩ = some (.slice A1_2 l1_2.length c1_2) := (blk_cell BK244.out 2).trans rfl
                 have hfz79_0 := blk_frozen BK244.out 0
                 have hfz79_1 := blk_frozen BK244.out 1
                 have hfz79_2 := blk_frozen BK244.out 2
                 go_wp2_with (first | (go_at_call 114; (with_reducible refine (spec_l2dead.calls kj32 a0_0 _ _ l0_1 _ _ l1_2 x35_2 true _ ?side1 ?side2 ?side3 ?side4 A53.out).mono ?_); (case side1 => repeat (first | exact (Kd.C_below HR0_1.out HB.out) | (with_reducible refine Kd.C_alloc ?_ _) | (with_reducible refine Kd.C_drewN ?_ _) | (with_reducible refine Kd.C_drew ?_))); (case side2 => exact HC0_1.out); (case side3 => repeat (first | exact (Kd.C_below HR1_2.out HB.out) | (with_reducible refine Kd.C_alloc ?_ _) | (with_reducible refine Kd.C_drewN ?_ _) | (with_reducible refine Kd.C_drew ?_))); (case side4 => exact HC1_2.out); rintro e w80 ⟨rfl, hb⟩; have n0_ := Aside0.mk (blk_below (g := gb243) (o := .cells #[.int .i64 a0_0, .slice A0_1 l0_1.length c0_1] 30 (0, 0)) (by (with_reducible repeat (first | refine blk_drewN ?_ _ | refine blk_drew ?_ | refine blk_alloc ?_ _)); exact BK243.out) hb); have n1_ := Aside0.mk (blk_below (g := gb244) (o := .cells #[.bool a1_0, .slice (some ad246) l1_1.length c1_1, .slice A1_2 l1_2.length c1_2] 46 (0, 0)) (by (with_reducible repeat (first | refine blk_drewN ?_ _ | refine blk_drew ?_ | refine blk_alloc ?_ _)); exact BK244.out) hb); have n2_ := Aside0.mk (blk_below (g := gb247) (o := .cells #[.int .i64 ((rd_T50 l1_1 x35_2).f0), .int .i64 ((rd_T50 l1_1 x35_2).f1), .bool ((rd_T50 l1_1 x35_2).f2), .bool ((rd_T50 l1_1 x35_2).f3), .int .i64 ((rd_T50 l1_1 x35_2).f4)] 50 (0, 0)) (by (with_reducible repeat (first | refine blk_drewN ?_ _ | refine blk_drew ?_ | refine blk_alloc ?_ _)); exact BK247.out) hb); have n3_ := Aside0.mk (below_step (by repeat (first | (with_reducible first | exact HB.out | apply below_alloc | apply pw_below_drewN | apply below_drew1 | refine below_set ?_ GE243.out | refine below_set ?_ GE244.out | refine below_set ?_ GE247.out) | exact HB.out)) hb); clear BK243; clear BK244; clear BK247; clear HB; have BK243 := n0_; have BK244 := n1_; have BK247 := n2_; have HB := n3_; clear n0_ n1_ n2_ n3_; (try clear hb); (try clear hb2); (try clear hk); (try clear hi); have hcz81_0 : w80.cell? ⟨gb247, 0, none⟩ = some (.int .i64 ((rd_T50 l1_1 x35_2).f0)) := (blk_cell BK247.out 0).trans rfl; have hcz81_1 : w80.cell? ⟨gb247, 1, none⟩ = some (.int .i64 ((rd_T50 l1_1 x35_2).f1)) := (blk_cell BK247.out 1).trans rfl; have hcz81_2 : w80.cell? ⟨gb247, 2, none⟩ = some (.bool ((rd_T50 l1_1 x35_2).f2)) := (blk_cell BK247.out 2).trans rfl; have hcz81_3 : w80.cell? ⟨gb247, 3, none⟩ = some (.bool ((rd_T50 l1_1 x35_2).f3)) := (blk_cell BK247.out 3).trans rfl; have hcz81_4 : w80.cell? ⟨gb247, 4, none⟩ = some (.int .i64 ((rd_T50 l1_1 x35_2).f4)) := (blk_cell BK247.out 4).trans rfl; have hfz81_0 := blk_frozen BK247.out 0; have hfz81_1 := blk_frozen BK247.out 1; have hfz81_2 := blk_frozen BK247.out 2; have hfz81_3 := blk_frozen BK247.out 3; have hfz81_4 := blk_frozen BK247.out 4))
                 go_roundg kj32
                 case measure => have := HJ2.out; have := HK2.out; have := HJ32.out; omega
                 case rel => exact ⟨(wrap64 (x35_2 + 1)), (by first | rfl | (simp; done) | (simp [*]; done)), H', ⟨by have := HJ2.out; have := HK2.out; have := HJ32.out; omega⟩, ⟨by (with_reducible repeat (first | refine blk_drewN ?_ _ | refine blk_drew ?_ | refine blk_alloc ?_ _)); exact BK243.out⟩, ⟨by (with_reducible repeat (first | refine blk_drewN ?_ _ | refine blk_drew ?_ | refine blk_alloc ?_ _)); exact BK244.out⟩, ⟨by repeat (first | (with_reducible first | exact HB.out | apply below_alloc | apply pw_below_drewN | apply below_drew1 | refine below_set ?_ GE243.out | refine below_set ?_ GE244.out | refine below_set ?_ GE247.out) | exact HB.out)⟩⟩
               ·rw [if_neg c55] at H
                have c55b0 : ((rd_T50 l1_1 x35_2).f3) = false := by simpa using c55
                clear c55
                have H' := Aside0.mk H
                clear H
                have hnb82 := NB247_243.out
                have hnc82 := NB243_247.out
                have hnb83 := NB247_244.out
                have hnc83 := NB244_247.out
                have hcz84_0 : wc.cell? ⟨gb247, 0, none⟩ = some (.int .i64 ((rd_T50 l1_1 x35_2).f0)) := (blk_cell BK247.out 0).trans rfl
                have hcz84_1 : wc.cell? ⟨gb247, 1, none⟩ = some (.int .i64 ((rd_T50 l1_1 x35_2).f1)) := (blk_cell BK247.out 1).trans rfl
                have hcz84_2 : wc.cell? ⟨gb247, 2, none⟩ = some (.bool ((rd_T50 l1_1 x35_2).f2)) := (blk_cell BK247.out 2).trans rfl
                have hcz84_3 : wc.cell? ⟨gb247, 3, none⟩ = some (.bool ((rd_T50 l1_1 x35_2).f3)) := (blk_cell BK247.out 3).trans rfl
                have hcz84_4 : wc.cell? ⟨gb247, 4, none⟩ = some (.int .i64 ((rd_T50 l1_1 x35_2).f4)) := (blk_cell BK247.out 4).trans rfl
                have hfz84_0 := blk_frozen BK247.out 0
                have hfz84_1 := blk_frozen BK247.out 1
                have hfz84_2 := blk_frozen BK247.out 2
                have hfz84_3 := blk_frozen BK247.out 3
                have hfz84_4 := blk_frozen BK247.out 4
                have hnb85 := NB243_244.out
                have hnc85 := NB244_243.out
                have hcz86_0 : wc.cell? ⟨gb243, 0, none⟩ = some (.int .i64 a0_0) := (blk_cell BK243.out 0).trans rfl
                have hcz86_1 : wc.cell? ⟨gb243, 1, none⟩ = some (.slice A0_1 l0_1.length c0_1) := (blk_cell BK243.out 1).trans rfl
                have hfz86_0 := blk_frozen BK243.out 0
                have hfz86_1 := blk_frozen BK243.out 1
                have hcz87_0 : wc.cell? ⟨gb244, 0, none⟩ = some (.bool a1_0) := (blk_cell BK244.out 0).trans rfl
                have hcz87_1 : wc.cell? ⟨gb244, 1, none⟩ = some (.slice (some ad246) l1_1.length c1_1) := (blk_cell BK244.out 1).trans rfl
                have hcz87_2 : wc.cell? ⟨gb244, 2, none⟩ = some (.slice A1_2 l1_2.length c1_2) := (blk_cell BK244.out 2).trans rfl
                have hfz87_0 := blk_frozen BK244.out 0
                have hfz87_1 := blk_frozen BK244.out 1
                have hfz87_2 := blk_frozen BK244.out 2
                go_wp2_with (first | (go_at_call 114; (with_reducible refine (spec_l2dead.calls kj32 a0_0 _ _ l0_1 _ _ l1_2 x35_2 true _ ?side1 ?side2 ?side3 ?side4 A53.out).mono ?_); (case side1 => repeat (first | exact (Kd.C_below HR0_1.out HB.out) | (with_reducible refine Kd.C_alloc ?_ _) | (with_reducible refine Kd.C_drewN ?_ _) | (with_reducible refine Kd.C_drew ?_))); (case side2 => exact HC0_1.out); (case side3 => repeat (first | exact (Kd.C_below HR1_2.out HB.out) | (with_reducible refine Kd.C_alloc ?_ _) | (with_reducible refine Kd.C_drewN ?_ _) | (with_reducible refine Kd.C_drew ?_))); (case side4 => exact HC1_2.out); rintro e w88 ⟨rfl, hb⟩; have n0_ := Aside0.mk (blk_below (g := gb243) (o := .cells #[.int .i64 a0_0, .slice A0_1 l0_1.length c0_1] 30 (0, 0)) (by (with_reducible repeat (first | refine blk_drewN ?_ _ | refine blk_drew ?_ | refine blk_alloc ?_ _)); exact BK243.out) hb); have n1_ := Aside0.mk (blk_below (g := gb244) (o := .cells #[.bool a1_0, .slice (some ad246) l1_1.length c1_1, .slice A1_2 l1_2.length c1_2] 46 (0, 0)) (by (with_reducible repeat (first | refine blk_drewN ?_ _ | refine blk_drew ?_ | refine blk_alloc ?_ _)); exact BK244.out) hb); have n2_ := Aside0.mk (blk_below (g := gb247) (o := .cells #[.int .i64 ((rd_T50 l1_1 x35_2).f0), .int .i64 ((rd_T50 l1_1 x35_2).f1), .bool ((rd_T50 l1_1 x35_2).f2), .bool ((rd_T50 l1_1 x35_2).f3), .int .i64 ((rd_T50 l1_1 x35_2).f4)] 50 (0, 0)) (by (with_reducible repeat (first | refine blk_drewN ?_ _ | refine blk_drew ?_ | refine blk_alloc ?_ _)); exact BK247.out) hb); have n3_ := Aside0.mk (below_step (by repeat (first | (with_reducible first | exact HB.out | apply below_alloc | apply pw_below_drewN | apply below_drew1 | refine below_set ?_ GE243.out | refine below_set ?_ GE244.out | refine below_set ?_ GE247.out) | exact HB.out)) hb); clear BK243; clear BK244; clear BK247; clear HB; have BK243 := n0_; have BK244 := n1_; have BK247 := n2_; have HB := n3_; clear n0_ n1_ n2_ n3_; (try clear hb); (try clear hb2); (try clear hk); (try clear hi); have hcz89_0 : w88.cell? ⟨gb247, 0, none⟩ = some (.int .i64 ((rd_T50 l1_1 x35_2).f0)) := (blk_cell BK247.out 0).trans rfl; have hcz89_1 : w88.cell? ⟨gb247, 1, none⟩ = some (.int .i64 ((rd_T50 l1_1 x35_2).f1)) := (blk_cell BK247.out 1).trans rfl; have hcz89_2 : w88.cell? ⟨gb247, 2, none⟩ = some (.bool ((rd_T50 l1_1 x35_2).f2)) := (blk_cell BK247.out 2).trans rfl; have hcz89_3 : w88.cell? ⟨gb247, 3, none⟩ = some (.bool ((rd_T50 l1_1 x35_2).f3)) := (blk_cell BK247.out 3).trans rfl; have hcz89_4 : w88.cell? ⟨gb247, 4, none⟩ = some (.int .i64 ((rd_T50 l1_1 x35_2).f4)) := (blk_cell BK247.out 4).trans rfl; have hfz89_0 := blk_frozen BK247.out 0; have hfz89_1 := blk_frozen BK247.out 1; have hfz89_2 := blk_frozen BK247.out 2; have hfz89_3 := blk_frozen BK247.out 3; have hfz89_4 := blk_frozen BK247.out 4))
                go_roundg kj32
                case measure => have := HJ2.out; have := HK2.out; have := HJ32.out; omega
                case rel => exact ⟨(wrap64 (x35_2 + 1)), (by first | rfl | (simp; done) | (simp [*]; done)), H', ⟨by have := HJ2.out; have := HK2.out; have := HJ32.out; omega⟩, ⟨by (with_reducible repeat (first | refine blk_drewN ?_ _ | refine blk_drew ?_ | refine blk_alloc ?_ _)); exact BK243.out⟩, ⟨by (with_reducible repeat (first | refine blk_drewN ?_ _ | refine blk_drew ?_ | refine blk_alloc ?_ _)); exact BK244.out⟩, ⟨by repeat (first | (with_reducible first | exact HB.out | apply below_alloc | apply pw_below_drewN | apply below_drew1 | refine below_set ?_ GE243.out | refine below_set ?_ GE244.out | refine below_set ?_ GE247.out) | exact HB.out)⟩⟩
              ·replace c54 := Bool.eq_false_iff.mpr c54
               subst c54
               have H1 : (if ((rd_T50 l1_1 x35_2).f3) = true then (if ((rd_T50 l1_1 x35_2).f1) = 0 then (if ((rd_T50 l1_1 x35_2).f4) = (-1) then (spec_StateOk.l0 kj32 l1_1 (l1_1.length : Int) (wrap64 (x35_2 + 1)) a0_0 l0_1 a1_0 l1_1 l1_2) else (spec_StateOk.l0 kj32 l1_1 (l1_1.length : Int) (wrap64 (x35_2 + 1)) a0_0 l0_1 a1_0 l1_1 l1_2)) else (spec_StateOk.l0 kj32 l1_1 (l1_1.length : Int) (wrap64 (x35_2 + 1)) a0_0 l0_1 a1_0 l1_1 l1_2)) else (spec_StateOk.l0 kj32 l1_1 (l1_1.length : Int) (wrap64 (x35_2 + 1)) a0_0 l0_1 a1_0 l1_1 l1_2)) = some r := by rw [if_neg (show ¬ (false = true) by decide)] at H; exact H
               clear H
               have H := H1
               clear H1
               by_cases c90 : ((rd_T50 l1_1 x35_2).f3) = true
               ·rw [if_pos c90] at H
                have c90b0 : ((rd_T50 l1_1 x35_2).f3) = true := c90
                clear c90
                by_cases c91 : ((rd_T50 l1_1 x35_2).f1) = 0
                ·rw [if_pos c91] at H
                 have c91b0 : (((rd_T50 l1_1 x35_2).f1) == 0) = true := beq_iff_eq.mpr c91
                 have c91b1 : (((rd_T50 l1_1 x35_2).f1) != 0) = false := bne_eq_false_iff_eq.mpr c91
                 clear c91
                 by_cases c92 : ((rd_T50 l1_1 x35_2).f4) = (-1)
                 ·rw [if_pos c92] at H
                  have c92b0 : (((rd_T50 l1_1 x35_2).f4) == (-1)) = true := beq_iff_eq.mpr c92
                  have c92b1 : (((rd_T50 l1_1 x35_2).f4) != (-1)) = false := bne_eq_false_iff_eq.mpr c92
                  clear c92
                  have H' := Aside0.mk H
                  clear H
                  have hnb93 := NB247_243.out
                  have hnc93 := NB243_247.out
                  have hnb94 := NB247_244.out
                  have hnc94 := NB244_247.out
                  have hcz95_0 : wc.cell? ⟨gb247, 0, none⟩ = some (.int .i64 ((rd_T50 l1_1 x35_2).f0)) := (blk_cell BK247.out 0).trans rfl
                  have hcz95_1 : wc.cell? ⟨gb247, 1, none⟩ = some (.int .i64 ((rd_T50 l1_1 x35_2).f1)) := (blk_cell BK247.out 1).trans rfl
                  have hcz95_2 : wc.cell? ⟨gb247, 2, none⟩ = some (.bool ((rd_T50 l1_1 x35_2).f2)) := (blk_cell BK247.out 2).trans rfl
                  have hcz95_3 : wc.cell? ⟨gb247, 3, none⟩ = some (.bool ((rd_T50 l1_1 x35_2).f3)) := (blk_cell BK247.out 3).trans rfl
                  have hcz95_4 : wc.cell? ⟨gb247, 4, none⟩ = some (.int .i64 ((rd_T50 l1_1 x35_2).f4)) := (blk_cell BK247.out 4).trans rfl
                  have hfz95_0 := blk_frozen BK247.out 0
                  have hfz95_1 := blk_frozen BK247.out 1
                  have hfz95_2 := blk_frozen BK247.out 2
                  have hfz95_3 := blk_frozen BK247.out 3
                  have hfz95_4 := blk_frozen BK247.out 4
                  have hnb96 := NB243_244.out
                  have hnc96 := NB244_243.out
                  have hcz97_0 : wc.cell? ⟨gb243, 0, none⟩ = some (.int .i64 a0_0) := (blk_cell BK243.out 0).trans rfl
                  have hcz97_1 : wc.cell? ⟨gb243, 1, none⟩ = some (.slice A0_1 l0_1.length c0_1) := (blk_cell BK243.out 1).trans rfl
                  have hfz97_0 := blk_frozen BK243.out 0
                  have hfz97_1 := blk_frozen BK243.out 1
                  have hcz98_0 : wc.cell? ⟨gb244, 0, none⟩ = some (.bool a1_0) := (blk_cell BK244.out 0).trans rfl
                  have hcz98_1 : wc.cell? ⟨gb244, 1, none⟩ = some (.slice (some ad246) l1_1.length c1_1) := (blk_cell BK244.out 1).trans rfl
                  have hcz98_2 : wc.cell? ⟨gb244, 2, none⟩ = some (.slice A1_2 l1_2.length c1_2) := (blk_cell BK244.out 2).trans rfl
                  have hfz98_0 := blk_frozen BK244.out 0
                  have hfz98_1 := blk_frozen BK244.out 1
                  have hfz98_2 := blk_frozen BK244.out 2
                  go_wp2_with (first | (go_at_call 114; (with_reducible refine (spec_l2dead.calls kj32 a0_0 _ _ l0_1 _ _ l1_2 x35_2 false _ ?side1 ?side2 ?side3 ?side4 A53.out).mono ?_); (case side1 => repeat (first | exact (Kd.C_below HR0_1.out HB.out) | (with_reducible refine Kd.C_alloc ?_ _) | (with_reducible refine Kd.C_drewN ?_ _) | (with_reducible refine Kd.C_drew ?_))); (case side2 => exact HC0_1.out); (case side3 => repeat (first | exact (Kd.C_below HR1_2.out HB.out) | (with_reducible refine Kd.C_alloc ?_ _) | (with_reducible refine Kd.C_drewN ?_ _) | (with_reducible refine Kd.C_drew ?_))); (case side4 => exact HC1_2.out); rintro e w99 ⟨rfl, hb⟩; have n0_ := Aside0.mk (blk_below (g := gb243) (o := .cells #[.int .i64 a0_0, .slice A0_1 l0_1.length c0_1] 30 (0, 0)) (by (with_reducible repeat (first | refine blk_drewN ?_ _ | refine blk_drew ?_ | refine blk_alloc ?_ _)); exact BK243.out) hb); have n1_ := Aside0.mk (blk_below (g := gb244) (o := .cells #[.bool a1_0, .slice (some ad246) l1_1.length c1_1, .slice A1_2 l1_2.length c1_2] 46 (0, 0)) (by (with_reducible repeat (first | refine blk_drewN ?_ _ | refine blk_drew ?_ | refine blk_alloc ?_ _)); exact BK244.out) hb); have n2_ := Aside0.mk (blk_below (g := gb247) (o := .cells #[.int .i64 ((rd_T50 l1_1 x35_2).f0), .int .i64 ((rd_T50 l1_1 x35_2).f1), .bool ((rd_T50 l1_1 x35_2).f2), .bool ((rd_T50 l1_1 x35_2).f3), .int .i64 ((rd_T50 l1_1 x35_2).f4)] 50 (0, 0)) (by (with_reducible repeat (first | refine blk_drewN ?_ _ | refine blk_drew ?_ | refine blk_alloc ?_ _)); exact BK247.out) hb); have n3_ := Aside0.mk (below_step (by repeat (first | (with_reducible first | exact HB.out | apply below_alloc | apply pw_below_drewN | apply below_drew1 | refine below_set ?_ GE243.out | refine below_set ?_ GE244.out | refine below_set ?_ GE247.out) | exact HB.out)) hb); clear BK243; clear BK244; clear BK247; clear HB; have BK243 := n0_; have BK244 := n1_; have BK247 := n2_; have HB := n3_; clear n0_ n1_ n2_ n3_; (try clear hb); (try clear hb2); (try clear hk); (try clear hi); have hcz100_0 : w99.cell? ⟨gb247, 0, none⟩ = some (.int .i64 ((rd_T50 l1_1 x35_2).f0)) := (blk_cell BK247.out 0).trans rfl; have hcz100_1 : w99.cell? ⟨gb247, 1, none⟩ = some (.int .i64 ((rd_T50 l1_1 x35_2).f1)) := (blk_cell BK247.out 1).trans rfl; have hcz100_2 : w99.cell? ⟨gb247, 2, none⟩ = some (.bool ((rd_T50 l1_1 x35_2).f2)) := (blk_cell BK247.out 2).trans rfl; have hcz100_3 : w99.cell? ⟨gb247, 3, none⟩ = some (.bool ((rd_T50 l1_1 x35_2).f3)) := (blk_cell BK247.out 3).trans rfl; have hcz100_4 : w99.cell? ⟨gb247, 4, none⟩ = some (.int .i64 ((rd_T50 l1_1 x35_2).f4)) := (blk_cell BK247.out 4).trans rfl; have hfz100_0 := blk_frozen BK247.out 0; have hfz100_1 := blk_frozen BK247.out 1; have hfz100_2 := blk_frozen BK247.out 2; have hfz100_3 := blk_frozen BK247.out 3; have hfz100_4 := blk_frozen BK247.out 4))
                  go_roundg kj32
                  case measure => have := HJ2.out; have := HK2.out; have := HJ32.out; omega
                  case rel => exact ⟨(wrap64 (x35_2 + 1)), (by first | rfl | (simp; done) | (simp [*]; done)), H', ⟨by have := HJ2.out; have := HK2.out; have := HJ32.out; omega⟩, ⟨by (with_reducible repeat (first | refine blk_drewN ?_ _ | refine blk_drew ?_ | refine blk_alloc ?_ _)); exact BK243.out⟩, ⟨by (with_reducible repeat (first | refine blk_drewN ?_ _ | refine blk_drew ?_ | refine blk_alloc ?_ _)); exact BK244.out⟩, ⟨by repeat (first | (with_reducible first | exact HB.out | apply below_alloc | apply pw_below_drewN | apply below_drew1 | refine below_set ?_ GE243.out | refine below_set ?_ GE244.out | refine below_set ?_ GE247.out) | exact HB.out)⟩⟩
                 ·rw [if_neg c92] at H
                  have c92b0 : (((rd_T50 l1_1 x35_2).f4) == (-1)) = false := beq_eq_false_iff_ne.mpr c92
                  have c92b1 : (((rd_T50 l1_1 x35_2).f4) != (-1)) = true := bne_iff_ne.mpr c92
                  have H' := Aside0.mk H
                  clear H
                  have hnb101 := NB247_243.out
                  have hnc101 := NB243_247.out
                  have hnb102 := NB247_244.out
                  have hnc102 := NB244_247.out
                  have hcz103_0 : wc.cell? ⟨gb247, 0, none⟩ = some (.int .i64 ((rd_T50 l1_1 x35_2).f0)) := (blk_cell BK247.out 0).trans rfl
                  have hcz103_1 : wc.cell? ⟨gb247, 1, none⟩ = some (.int .i64 ((rd_T50 l1_1 x35_2).f1)) := (blk_cell BK247.out 1).trans rfl
                  have hcz103_2 : wc.cell? ⟨gb247, 2, none⟩ = some (.bool ((rd_T50 l1_1 x35_2).f2)) := (blk_cell BK247.out 2).trans rfl
                  have hcz103_3 : wc.cell? ⟨gb247, 3, none⟩ = some (.bool ((rd_T50 l1_1 x35_2).f3)) := (blk_cell BK247.out 3).trans rfl
                  have hcz103_4 : wc.cell? ⟨gb247, 4, none⟩ = some (.int .i64 ((rd_T50 l1_1 x35_2).f4)) := (blk_cell BK247.out 4).trans rfl
                  have hfz103_0 := blk_frozen BK247.out 0
                  have hfz103_1 := blk_frozen BK247.out 1
                  have hfz103_2 := blk_frozen BK247.out 2
                  have hfz103_3 := blk_frozen BK247.out 3
                  have hfz103_4 := blk_frozen BK247.out 4
                  have hnb104 := NB243_244.out
                  have hnc104 := NB244_243.out
                  have hcz105_0 : wc.cell? ⟨gb243, 0, none⟩ = some (.int .i64 a0_0) := (blk_cell BK243.out 0).trans rfl
                  have hcz105_1 : wc.cell? ⟨gb243, 1, none⟩ = some (.slice A0_1 l0_1.length c0_1) := (blk_cell BK243.out 1).trans rfl
                  have hfz105_0 := blk_frozen BK243.out 0
                  have hfz105_1 := blk_frozen BK243.out 1
                  have hcz106_0 : wc.cell? ⟨gb244, 0, none⟩ = some (.bool a1_0) := (blk_cell BK244.out 0).trans rfl
                  have hcz106_1 : wc.cell? ⟨gb244, 1, none⟩ = some (.slice (some ad246) l1_1.length c1_1) := (blk_cell BK244.out 1).trans rfl
                  have hcz106_2 : wc.cell? ⟨gb244, 2, none⟩ = some (.slice A1_2 l1_2.length c1_2) := (blk_cell BK244.out 2).trans rfl
                  have hfz106_0 := blk_frozen BK244.out 0
                  have hfz106_1 := blk_frozen BK244.out 1
                  have hfz106_2 := blk_frozen BK244.out 2
                  go_wp2_with (first | (go_at_call 114; (with_reducible refine (spec_l2dead.calls kj32 a0_0 _ _ l0_1 _ _ l1_2 x35_2 false _ ?side1 ?side2 ?side3 ?side4 A53.out).mono ?_); (case side1 => repeat (first | exact (Kd.C_below HR0_1.out HB.out) | (with_reducible refine Kd.C_alloc ?_ _) | (with_reducible refine Kd.C_drewN ?_ _) | (with_reducible refine Kd.C_drew ?_))); (case side2 => exact HC0_1.out); (case side3 => repeat (first | exact (Kd.C_below HR1_2.out HB.out) | (with_reducible refine Kd.C_alloc ?_ _) | (with_reducible refine Kd.C_drewN ?_ _) | (with_reducible refine Kd.C_drew ?_))); (case side4 => exact HC1_2.out); rintro e w107 ⟨rfl, hb⟩; have n0_ := Aside0.mk (blk_below (g := gb243) (o := .cells #[.int .i64 a0_0, .slice A0_1 l0_1.length c0_1] 30 (0, 0)) (by (with_reducible repeat (first | refine blk_drewN ?_ _ | refine blk_drew ?_ | refine blk_alloc ?_ _)); exact BK243.out) hb); have n1_ := Aside0.mk (blk_below (g := gb244) (o := .cells #[.bool a1_0, .slice (some ad246) l1_1.length c1_1, .slice A1_2 l1_2.length c1_2] 46 (0, 0)) (by (with_reducible repeat (first | refine blk_drewN ?_ _ | refine blk_drew ?_ | refine blk_alloc ?_ _)); exact BK244.out) hb); have n2_ := Aside0.mk (blk_below (g := gb247) (o := .cells #[.int .i64 ((rd_T50 l1_1 x35_2).f0), .int .i64 ((rd_T50 l1_1 x35_2).f1), .bool ((rd_T50 l1_1 x35_2).f2), .bool ((rd_T50 l1_1 x35_2).f3), .int .i64 ((rd_T50 l1_1 x35_2).f4)] 50 (0, 0)) (by (with_reducible repeat (first | refine blk_drewN ?_ _ | refine blk_drew ?_ | refine blk_alloc ?_ _)); exact BK247.out) hb); have n3_ := Aside0.mk (below_step (by repeat (first | (with_reducible first | exact HB.out | apply below_alloc | apply pw_below_drewN | apply below_drew1 | refine below_set ?_ GE243.out | refine below_set ?_ GE244.out | refine below_set ?_ GE247.out) | exact HB.out)) hb); clear BK243; clear BK244; clear BK247; clear HB; have BK243 := n0_; have BK244 := n1_; have BK247 := n2_; have HB := n3_; clear n0_ n1_ n2_ n3_; (try clear hb); (try clear hb2); (try clear hk); (try clear hi); have hcz108_0 : w107.cell? ⟨gb247, 0, none⟩ = some (.int .i64 ((rd_T50 l1_1 x35_2).f0)) := (blk_cell BK247.out 0).trans rfl; have hcz108_1 : w107.cell? ⟨gb247, 1, none⟩ = some (.int .i64 ((rd_T50 l1_1 x35_2).f1)) := (blk_cell BK247.out 1).trans rfl; have hcz108_2 : w107.cell? ⟨gb247, 2, none⟩ = some (.bool ((rd_T50 l1_1 x35_2).f2)) := (blk_cell BK247.out 2).trans rfl; have hcz108_3 : w107.cell? ⟨gb247, 3, none⟩ = some (.bool ((rd_T50 l1_1 x35_2).f3)) := (blk_cell BK247.out 3).trans rfl; have hcz108_4 : w107.cell? ⟨gb247, 4, none⟩ = some (.int .i64 ((rd_T50 l1_1 x35_2).f4)) := (blk_cell BK247.out 4).trans rfl; have hfz108_0 := blk_frozen BK247.out 0; have hfz108_1 := blk_frozen BK247.out 1; have hfz108_2 := blk_frozen BK247.out 2; have hfz108_3 := blk_frozen BK247.out 3; have hfz108_4 := blk_frozen BK247.out 4))
                  go_roundg kj32
                  case measure => have := HJ2.out; have := HK2.out; have := HJ32.out; omega
                  case rel => exact ⟨(wrap64 (x35_2 + 1)), (by first | rfl | (simp; done) | (simp [*]; done)), H', ⟨by have := HJ2.out; have := HK2.out; have := HJ32.out; omega⟩, ⟨by (with_reducible repeat (first | refine blk_drewN ?_ _ | refine blk_drew ?_ | refine blk_alloc ?_ _)); exact BK243.out⟩, ⟨by (with_reducible repeat (first | refine blk_drewN ?_ _ | refine blk_drew ?_ | refine blk_alloc ?_ _)); exact BK244.out⟩, ⟨by repeat (first | (with_reducible first | exact HB.out | apply below_alloc | apply pw_below_drewN | apply below_drew1 | refine below_set ?_ GE243.out | refine below_set ?_ GE244.out | refine below_set ?_ GE247.out) | exact HB.out)⟩⟩
                ·rw [if_neg c91] at H
                 have c91b0 : (((rd_T50 l1_1 x35_2).f1) == 0) = false := beq_eq_false_iff_ne.mpr c91
                 have c91b1 : (((rd_T50 l1_1 x35_2).f1) != 0) = true := bne_iff_ne.mpr c91
                 have H' := Aside0.mk H
                 clear H
                 have hnb109 := NB247_243.out
                 have hnc109 := NB243_247.out
                 have hnb110 := NB247_244.out
                 have hnc110 := NB244_247.out
                 have hcz111_0 : wc.cell? ⟨gb247, 0, none⟩ = some (.int .i64 ((rd_T50 l1_1 x35_2).f0)) := (blk_cell BK247.out 0).trans rfl
                 have hcz111_1 : wc.cell? ⟨gb247, 1, none⟩ = some (.int .i64 ((rd_T50 l1_1 x35_2).f1)) := (blk_cell BK247.out 1).trans rfl
                 have hcz111_2 : wc.cell? ⟨gb247, 2, none⟩ = some (.bool ((rd_T50 l1_1 x35_2).f2)) := (blk_cell BK247.out 2).trans rfl
                 have hcz111_3 : wc.cell? ⟨gb247, 3, none⟩ = some (.bool ((rd_T50 l1_1 x35_2).f3)) := (blk_cell BK247.out 3).trans rfl
                 have hcz111_4 : wc.cell? ⟨gb247, 4, none⟩ = some (.int .i64 ((rd_T50 l1_1 x35_2).f4)) := (blk_cell BK247.out 4).trans rfl
                 have hfz111_0 := blk_frozen BK247.out 0
                 have hfz111_1 := blk_frozen BK247.out 1
                 have hfz111_2 := blk_frozen BK247.out 2
                 have hfz111_3 := blk_frozen BK247.out 3
                 have hfz111_4 := blk_frozen BK247.out 4
                 have hnb112 := NB243_244.out
                 have hnc112 := NB244_243.out
                 have hcz113_0 : wc.cell? ⟨gb243, 0, none⟩ = some (.int .i64 a0_0) := (blk_cell BK243.out 0).trans rfl
                 have hcz113_1 : wc.cell? ⟨gb243, 1, none⟩ = some (.slice A0_1 l0_1.length c0_1) := (blk_cell BK243.out 1).trans rfl
                 have hfz113_0 := blk_frozen BK243.out 0
                 have hfz113_1 := blk_frozen BK243.out 1
                 have hcz114_0 : wc.cell? ⟨gb244, 0, none⟩ = some (.bool a1_0) := (blk_cell BK244.out 0).trans rfl
                 have hcz114_1 : wc.cell? ⟨gb244, 1, none⟩ = some (.slice (some ad246) l1_1.length c1_1) := (blk_cell BK244.out 1).trans rfl
                 have hcz114_2 : wc.cell? ⟨gb244, 2, none⟩ = some (.slice A1_2 l1_2.length c1_2) := (blk_cell BK244.out 2).trans rfl
                 have hfz114_0 := blk_frozen BK244.out 0
                 have hfz114_1 := blk_frozen BK244.out 1
                 have hfz114_2 := blk_frozen BK244.out 2
                 go_wp2_with (first | (go_at_call 114; (with_reducible refine (spec_l2dead.calls kj32 a0_0 _ _ l0_1 _ _ l1_2 x35_2 false _ ?side1 ?side2 ?side3 ?side4 A53.out).mono ?_); (case side1 => repeat (first | exact (Kd.C_below HR0_1.out HB.out) | (with_reducible refine Kd.C_alloc ?_ _) | (with_reducible refine Kd.C_drewN ?_ _) | (with_reducible refine Kd.C_drew ?_))); (case side2 => exact HC0_1.out); (case side3 => repeat (first | exact (Kd.C_below HR1_2.out HB.out) | (with_reducible refine Kd.C_alloc ?_ _) | (with_reducible refine Kd.C_drewN ?_ _) | (with_reducible refine Kd.C_drew ?_))); (case side4 => exact HC1_2.out); rintro e w115 ⟨rfl, hb⟩; have n0_ := Aside0.mk (blk_below (g := gb243) (o := .cells #[.int .i64 a0_0, .slice A0_1 l0_1.length c0_1] 30 (0, 0)) (by (with_reducible repeat (first | refine blk_drewN ?_ _ | refine blk_drew ?_ | refine blk_alloc ?_ _)); exact BK243.out) hb); have n1_ := Aside0.mk (blk_below (g := gb244) (o := .cells #[.bool a1_0, .slice (some ad246) l1_1.length c1_1, .slice A1_2 l1_2.length c1_2] 46 (0, 0)) (by (with_reducible repeat (first | refine blk_drewN ?_ _ | refine blk_drew ?_ | refine blk_alloc ?_ _)); exact BK244.out) hb); have n2_ := Aside0.mk (blk_below (g := gb247) (o := .cells #[.int .i64 ((rd_T50 l1_1 x35_2).f0), .int .i64 ((rd_T50 l1_1 x35_2).f1), .bool ((rd_T50 l1_1 x35_2).f2), .bool ((rd_T50 l1_1 x35_2).f3), .int .i64 ((rd_T50 l1_1 x35_2).f4)] 50 (0, 0)) (by (with_reducible repeat (first | refine blk_drewN ?_ _ | refine blk_drew ?_ | refine blk_alloc ?_ _)); exact BK247.out) hb); have n3_ := Aside0.mk (below_step (by repeat (first | (with_reducible first | exact HB.out | apply below_alloc | apply pw_below_drewN | apply below_drew1 | refine below_set ?_ GE243.out | refine below_set ?_ GE244.out | refine below_set ?_ GE247.out) | exact HB.out)) hb); clear BK243; clear BK244; clear BK247; clear HB; have BK243 := n0_; have BK244 := n1_; have BK247 := n2_; have HB := n3_; clear n0_ n1_ n2_ n3_; (try clear hb); (try clear hb2); (try clear hk); (try clear hi); have hcz116_0 : w115.cell? ⟨gb247, 0, none⟩ = some (.int .i64 ((rd_T50 l1_1 x35_2).f0)) := (blk_cell BK247.out 0).trans rfl; have hcz116_1 : w115.cell? ⟨gb247, 1, none⟩ = some (.int .i64 ((rd_T50 l1_1 x35_2).f1)) := (blk_cell BK247.out 1).trans rfl; have hcz116_2 : w115.cell? ⟨gb247, 2, none⟩ = some (.bool ((rd_T50 l1_1 x35_2).f2)) := (blk_cell BK247.out 2).trans rfl; have hcz116_3 : w115.cell? ⟨gb247, 3, none⟩ = some (.bool ((rd_T50 l1_1 x35_2).f3)) := (blk_cell BK247.out 3).trans rfl; have hcz116_4 : w115.cell? ⟨gb247, 4, none⟩ = some (.int .i64 ((rd_T50 l1_1 x35_2).f4)) := (blk_cell BK247.out 4).trans rfl; have hfz116_0 := blk_frozen BK247.out 0; have hfz116_1 := blk_frozen BK247.out 1; have hfz116_2 := blk_frozen BK247.out 2; have hfz116_3 := blk_frozen BK247.out 3; have hfz116_4 := blk_frozen BK247.out 4))
                 go_roundg kj32
                 case measure => have := HJ2.out; have := HK2.out; have := HJ32.out; omega
                 case rel => exact ⟨(wrap64 (x35_2 + 1)), (by first | rfl | (simp; done) | (simp [*]; done)), H', ⟨by have := HJ2.out; have := HK2.out; have := HJ32.out; omega⟩, ⟨by (with_reducible repeat (first | refine blk_drewN ?_ _ | refine blk_drew ?_ | refine blk_alloc ?_ _)); exact BK243.out⟩, ⟨by (with_reducible repeat (first | refine blk_drewN ?_ _ | refine blk_drew ?_ | refine blk_alloc ?_ _)); exact BK244.out⟩, ⟨by repeat (first | (with_reducible first | exact HB.out | apply below_alloc | apply pw_below_drewN | apply below_drew1 | refine below_set ?_ GE243.out | refine below_set ?_ GE244.out | refine below_set ?_ GE247.out) | exact HB.out)⟩⟩
               ·rw [if_neg c90] at H
                have c90b0 : ((rd_T50 l1_1 x35_2).f3) = false := by simpa using c90
                clear c90
                have H' := Aside0.mk H
                clear H
                have hnb117 := NB247_243.out
                have hnc117 := NB243_247.out
                have hnb118 := NB247_244.out
                have hnc118 := NB244_247.out
                have hcz119_0 : wc.cell? ⟨gb247, 0, none⟩ = some (.int .i64 ((rd_T50 l1_1 x35_2).f0)) := (blk_cell BK247.out 0).trans rfl
                have hcz119_1 : wc.cell? ⟨gb247, 1, none⟩ = some (.int .i64 ((rd_T50 l1_1 x35_2).f1)) := (blk_cell BK247.out 1).trans rfl
                have hcz119_2 : wc.cell? ⟨gb247, 2, none⟩ = some (.bool ((rd_T50 l1_1 x35_2).f2)) := (blk_cell BK247.out 2).trans rfl
                have hcz119_3 : wc.cell? ⟨gb247, 3, none⟩ = some (.bool ((rd_T50 l1_1 x35_2).f3)) := (blk_cell BK247.out 3).trans rfl
                have hcz119_4 : wc.cell? ⟨gb247, 4, none⟩ = some (.int .i64 ((rd_T50 l1_1 x35_2).f4)) := (blk_cell BK247.out 4).trans rfl
                have hfz119_0 := blk_frozen BK247.out 0
                have hfz119_1 := blk_frozen BK247.out 1
                have hfz119_2 := blk_frozen BK247.out 2
                have hfz119_3 := blk_frozen BK247.out 3
                have hfz119_4 := blk_frozen BK247.out 4
                have hnb120 := NB243_244.out
                have hnc120 := NB244_243.out
                have hcz121_0 : wc.cell? ⟨gb243, 0, none⟩ = some (.int .i64 a0_0) := (blk_cell BK243.out 0).trans rfl
                have hcz121_1 : wc.cell? ⟨gb243, 1, none⟩ = some (.slice A0_1 l0_1.length c0_1) := (blk_cell BK243.out 1).trans rfl
                have hfz121_0 := blk_frozen BK243.out 0
                have hfz121_1 := blk_frozen BK243.out 1
                have hcz122_0 : wc.cell? ⟨gb244, 0, none⟩ = some (.bool a1_0) := (blk_cell BK244.out 0).trans rfl
                have hcz122_1 : wc.cell? ⟨gb244, 1, none⟩ = some (.slice (some ad246) l1_1.length c1_1) := (blk_cell BK244.out 1).trans rfl
                have hcz122_2 : wc.cell? ⟨gb244, 2, none⟩ = some (.slice A1_2 l1_2.length c1_2) := (blk_cell BK244.out 2).trans rfl
                have hfz122_0 := blk_frozen BK244.out 0
                have hfz122_1 := blk_frozen BK244.out 1
                have hfz122_2 := blk_frozen BK244.out 2
                go_wp2_with (first | (go_at_call 114; (with_reducible refine (spec_l2dead.calls kj32 a0_0 _ _ l0_1 _ _ l1_2 x35_2 false _ ?side1 ?side2 ?side3 ?side4 A53.out).mono ?_); (case side1 => repeat (first | exact (Kd.C_below HR0_1.out HB.out) | (with_reducible refine Kd.C_alloc ?_ _) | (with_reducible refine Kd.C_drewN ?_ _) | (with_reducible refine Kd.C_drew ?_))); (case side2 => exact HC0_1.out); (case side3 => repeat (first | exact (Kd.C_below HR1_2.out HB.out) | (with_reducible refine Kd.C_alloc ?_ _) | (with_reducible refine Kd.C_drewN ?_ _) | (with_reducible refine Kd.C_drew ?_))); (case side4 => exact HC1_2.out); rintro e w123 ⟨rfl, hb⟩; have n0_ := Aside0.mk (blk_below (g := gb243) (o := .cells #[.int .i64 a0_0, .slice A0_1 l0_1.length c0_1] 30 (0, 0)) (by (with_reducible repeat (first | refine blk_drewN ?_ _ | refine blk_drew ?_ | refine blk_alloc ?_ _)); exact BK243.out) hb); have n1_ := Aside0.mk (blk_below (g := gb244) (o := .cells #[.bool a1_0, .slice (some ad246) l1_1.length c1_1, .slice A1_2 l1_2.length c1_2] 46 (0, 0)) (by (with_reducible repeat (first | refine blk_drewN ?_ _ | refine blk_drew ?_ | refine blk_alloc ?_ _)); exact BK244.out) hb); have n2_ := Aside0.mk (blk_below (g := gb247) (o := .cells #[.int .i64 ((rd_T50 l1_1 x35_2).f0), .int .i64 ((rd_T50 l1_1 x35_2).f1), .bool ((rd_T50 l1_1 x35_2).f2), .bool ((rd_T50 l1_1 x35_2).f3), .int .i64 ((rd_T50 l1_1 x35_2).f4)] 50 (0, 0)) (by (with_reducible repeat (first | refine blk_drewN ?_ _ | refine blk_drew ?_ | refine blk_alloc ?_ _)); exact BK247.out) hb); have n3_ := Aside0.mk (below_step (by repeat (first | (with_reducible first | exact HB.out | apply below_alloc | apply pw_below_drewN | apply below_drew1 | refine below_set ?_ GE243.out | refine below_set ?_ GE244.out | refine below_set ?_ GE247.out) | exact HB.out)) hb); clear BK243; clear BK244; clear BK247; clear HB; have BK243 := n0_; have BK244 := n1_; have BK247 := n2_; have HB := n3_; clear n0_ n1_ n2_ n3_; (try clear hb); (try clear hb2); (try clear hk); (try clear hi); have hcz124_0 : w123.cell? ⟨gb247, 0, none⟩ = some (.int .i64 ((rd_T50 l1_1 x35_2).f0)) := (blk_cell BK247.out 0).trans rfl; have hcz124_1 : w123.cell? ⟨gb247, 1, none⟩ = some (.int .i64 ((rd_T50 l1_1 x35_2).f1)) := (blk_cell BK247.out 1).trans rfl; have hcz124_2 : w123.cell? ⟨gb247, 2, none⟩ = some (.bool ((rd_T50 l1_1 x35_2).f2)) := (blk_cell BK247.out 2).trans rfl; have hcz124_3 : w123.cell? ⟨gb247, 3, none⟩ = some (.bool ((rd_T50 l1_1 x35_2).f3)) := (blk_cell BK247.out 3).trans rfl; have hcz124_4 : w123.cell? ⟨gb247, 4, none⟩ = some (.int .i64 ((rd_T50 l1_1 x35_2).f4)) := (blk_cell BK247.out 4).trans rfl; have hfz124_0 := blk_frozen BK247.out 0; have hfz124_1 := blk_frozen BK247.out 1; have hfz124_2 := blk_frozen BK247.out 2; have hfz124_3 := blk_frozen BK247.out 3; have hfz124_4 := blk_frozen BK247.out 4))
                go_roundg kj32
                case measure => have := HJ2.out; have := HK2.out; have := HJ32.out; omega
                case rel => exact ⟨(wrap64 (x35_2 + 1)), (by first | rfl | (simp; done) | (simp [*]; done)), H', ⟨by have := HJ2.out; have := HK2.out; have := HJ32.out; omega⟩, ⟨by (with_reducible repeat (first | refine blk_drewN ?_ _ | refine blk_drew ?_ | refine blk_alloc ?_ _)); exact BK243.out⟩, ⟨by (with_reducible repeat (first | refine blk_drewN ?_ _ | refine blk_drew ?_ | refine blk_alloc ?_ _)); exact BK244.out⟩, ⟨by repeat (first | (with_reducible first | exact HB.out | apply below_alloc | apply pw_below_drewN | apply below_drew1 | refine below_set ?_ GE243.out | refine below_set ?_ GE244.out | refine below_set ?_ GE247.out) | exact HB.out)⟩⟩
             ·rw [if_neg c52] at H
              have c52b0 : ((rd_T50 l1_1 x35_2).f2) = false := by simpa using c52
              clear c52
              obtain rfl := Option.some.inj H
              have hnb125 := NB247_243.out
              have hnc125 := NB243_247.out
              have hnb126 := NB247_244.out
              have hnc126 := NB244_247.out
              have hcz127_0 : wc.cell? ⟨gb247, 0, none⟩ = some (.int .i64 ((rd_T50 l1_1 x35_2).f0)) := (blk_cell BK247.out 0).trans rfl
              have hcz127_1 : wc.cell? ⟨gb247, 1, none⟩ = some (.int .i64 ((rd_T50 l1_1 x35_2).f1)) := (blk_cell BK247.out 1).trans rfl
              have hcz127_2 : wc.cell? ⟨gb247, 2, none⟩ = some (.bool ((rd_T50 l1_1 x35_2).f2)) := (blk_cell BK247.out 2).trans rfl
              have hcz127_3 : wc.cell? ⟨gb247, 3, none⟩ = some (.bool ((rd_T50 l1_1 x35_2).f3)) := (blk_cell BK247.out 3).trans rfl
              have hcz127_4 : wc.cell? ⟨gb247, 4, none⟩ = some (.int .i64 ((rd_T50 l1_1 x35_2).f4)) := (blk_cell BK247.out 4).trans rfl
              have hfz127_0 := blk_frozen BK247.out 0
              have hfz127_1 := blk_frozen BK247.out 1
              have hfz127_2 := blk_frozen BK247.out 2
              have hfz127_3 := blk_frozen BK247.out 3
              have hfz127_4 := blk_frozen BK247.out 4
              go_wp2
              go_ret
              exact ⟨by first | rfl | (simp [errW_none, errW_some] <;> rfl) | (simp [*, errW_none, errW_some] <;> rfl), by repeat (first | (with_reducible first | exact HB.out | apply below_alloc | apply pw_below_drewN | apply below_drew1 | refine below_set ?_ GE243.out | refine below_set ?_ GE244.out | refine below_set ?_ GE247.out) | exact HB.out)⟩
            ·rw [if_neg c51] at H
             have c51b0 : decide (((rd_T50 l1_1 x35_2).f1) < 0) = false := decide_eq_false c51
             clear c51
             replace H := Option.bind_eq_some_iff.mp H
             obtain ⟨t252, A1280, H⟩ := H
             replace H : (if t252 = true then (if ((rd_T50 l1_1 x35_2).f2) = true then (if ((rd_T50 l1_1 x35_2).f3) = true then (if ((rd_T50 l1_1 x35_2).f1) = 0 then (if ((rd_T50 l1_1 x35_2).f4) = (-1) then (spec_StateOk.l0 kj32 l1_1 (l1_1.length : Int) (wrap64 (x35_2 + 1)) a0_0 l0_1 a1_0 l1_1 l1_2) else (spec_StateOk.l0 kj32 l1_1 (l1_1.length : Int) (wrap64 (x35_2 + 1)) a0_0 l0_1 a1_0 l1_1 l1_2)) else (spec_StateOk.l0 kj32 l1_1 (l1_1.length : Int) (wrap64 (x35_2 + 1)) a0_0 l0_1 a1_0 l1_1 l1_2)) else (spec_StateOk.l0 kj32 l1_1 (l1_1.length : Int) (wrap64 (x35_2 + 1)) a0_0 l0_1 a1_0 l1_1 l1_2)) else (some false)) else (if ((rd_T50 l1_1 x35_2).f3) = true then (if ((rd_T50 l1_1 x35_2).f1) = 0 then (if ((rd_T50 l1_1 x35_2).f4) = (-1) then (if ((rd_T50 l1_1 x35_2).f2) = true then (spec_StateOk.l0 kj32 l1_1 (l1_1.length : Int) (wrap64 (x35_2 + 1)) a0_0 l0_1 a1_0 l1_1 l1_2) else (some false)) else (spec_StateOk.l0 kj32 l1_1 (l1_1.length : Int) (wrap64 (x35_2 + 1)) a0_0 l0_1 a1_0 l1_1 l1_2)) else (spec_StateOk.l0 kj32 l1_1 (l1_1.length : Int) (wrap64 (x35_2 + 1)) a0_0 l0_1 a1_0 l1_1 l1_2)) else (spec_StateOk.l0 kj32 l1_1 (l1_1.length : Int) (wrap64 (x35_2 + 1)) a0_0 l0_1 a1_0 l1_1 l1_2))) = some r := H
             have A128 := Aside0.mk A1280
             clear A1280
             by_cases c129 : t252 = true
             ·subst c129
              have H1 : (if ((rd_T50 l1_1 x35_2).f2) = true then (if ((rd_T50 l1_1 x35_2).f3) = true then (if ((rd_T50 l1_1 x35_2).f1) = 0 then (if ((rd_T50 l1_1 x35_2).f4) = (-1) then (spec_StateOk.l0 kj32 l1_1 (l1_1.length : Int) (wrap64 (x35_2 + 1)) a0_0 l0_1 a1_0 l1_1 l1_2) else (spec_StateOk.l0 kj32 l1_1 (l1_1.length : Int) (wrap64 (x35_2 + 1)) a0_0 l0_1 a1_0 l1_1 l1_2)) else (spec_StateOk.l0 kj32 l1_1 (l1_1.length : Int) (wrap64 (x35_2 + 1)) a0_0 l0_1 a1_0 l1_1 l1_2)) else (spec_StateOk.l0 kj32 l1_1 (l1_1.length : Int) (wrap64 (x35_2 + 1)) a0_0 l0_1 a1_0 l1_1 l1_2)) else (some false)) = some r := by rw [if_pos rfl] at H; exact H
              clear H
              have H := H1
              clear H1
              by_cases c130 : ((rd_T50 l1_1 x35_2).f2) = true
              ·rw [if_pos c130] at H
               have c130b0 : ((rd_T50 l1_1 x35_2).f2) = true := c130
               clear c130
               by_cases c131 : ((rd_T50 l1_1 x35_2).f3) = true
               ·rw [if_pos c131] at H
                have c131b0 : ((rd_T50 l1_1 x35_2).f3) = true := c131
                clear c131
                by_cases c132 : ((rd_T50 l1_1 x35_2).f1) = 0
                ·rw [if_pos c132] at H
                 have c132b0 : (((rd_T50 l1_1 x35_2).f1) == 0) = true := beq_iff_eq.mpr c132
                 have c132b1 : (((rd_T50 l1_1 x35_2).f1) != 0) = false := bne_eq_false_iff_eq.mpr c132
                 clear c132
                 by_cases c133 : ((rd_T50 l1_1 x35_2).f4) = (-1)
                 ·rw [if_pos c133] at H
                  have c133b0 : (((rd_T50 l1_1 x35_2).f4) == (-1)) = true := beq_iff_eq.mpr c133
                  have c133b1 : (((rd_T50 l1_1 x35_2).f4) != (-1)) = false := bne_eq_false_iff_eq.mpr c133
                  clear c133
                  have H' := Aside0.mk H
                  clear H
                  have hnb134 := NB247_243.out
                  have hnc134 := NB243_247.out
                  have hnb135 := NB247_244.out
                  have hnc135 := NB244_247.out
                  have hcz136_0 : wc.cell? ⟨gb247, 0, none⟩ = some (.int .i64 ((rd_T50 l1_1 x35_2).f0)) := (blk_cell BK247.out 0).trans rfl
                  have hcz136_1 : wc.cell? ⟨gb247, 1, none⟩ = some (.int .i64 ((rd_T50 l1_1 x35_2).f1)) := (blk_cell BK247.out 1).trans rfl
                  have hcz136_2 : wc.cell? ⟨gb247, 2, none⟩ = some (.bool ((rd_T50 l1_1 x35_2).f2)) := (blk_cell BK247.out 2).trans rfl
                  have hcz136_3 : wc.cell? ⟨gb247, 3, none⟩ = some (.bool ((rd_T50 l1_1 x35_2).f3)) := (blk_cell BK247.out 3).trans rfl
                  have hcz136_4 : wc.cell? ⟨gb247, 4, none⟩ = some (.int .i64 ((rd_T50 l1_1 x35_2).f4)) := (blk_cell BK247.out 4).trans rfl
                  have hfz136_0 := blk_frozen BK247.out 0
                  have hfz136_1 := blk_frozen BK247.out 1
                  have hfz136_2 := blk_frozen BK247.out 2
                  have hfz136_3 := blk_frozen BK247.out 3
                  have hfz136_4 := blk_frozen BK247.out 4
                  have hnb137 := NB243_244.out
                  have hnc137 := NB244_243.out
                  have hcz138_0 : wc.cell? ⟨gb243, 0, none⟩ = some (.int .i64 a0_0) := (blk_cell BK243.out 0).trans rfl
                  have hcz138_1 : wc.cell? ⟨gb243, 1, none⟩ = some (.slice A0_1 l0_1.length c0_1) := (blk_cell BK243.out 1).trans rfl
                  have hfz138_0 := blk_frozen BK243.out 0
                  have hfz138_1 := blk_frozen BK243.out 1
                  have hcz139_0 : wc.cell? ⟨gb244, 0, none⟩ = some (.bool a1_0) := (blk_cell BK244.out 0).trans rfl
                  have hcz139_1 : wc.cell? ⟨gb244, 1, none⟩ = some (.slice (some ad246) l1_1.length c1_1) := (blk_cell BK244.out 1).trans rfl
                  have hcz139_2 : wc.cell? ⟨gb244, 2, none⟩ = some (.slice A1_2 l1_2.length c1_2) := (blk_cell BK244.out 2).trans rfl
                  have hfz139_0 := blk_frozen BK244.out 0
                  have hfz139_1 := blk_frozen BK244.out 1
                  have hfz139_2 := blk_frozen BK244.out 2
                  go_wp2_with (first | (go_at_call 114; (with_reducible refine (spec_l2dead.calls kj32 a0_0 _ _ l0_1 _ _ l1_2 x35_2 true _ ?side1 ?side2 ?side3 ?side4 A128.out).mono ?_); (case side1 => repeat (first | exact (Kd.C_below HR0_1.out HB.out) | (with_reducible refine Kd.C_alloc ?_ _) | (with_reducible refine Kd.C_drewN ?_ _) | (with_reducible refine Kd.C_drew ?_))); (case side2 => exact HC0_1.out); (case side3 => repeat (first | exact (Kd.C_below HR1_2.out HB.out) | (with_reducible refine Kd.C_alloc ?_ _) | (with_reducible refine Kd.C_drewN ?_ _) | (with_reducible refine Kd.C_drew ?_))); (case side4 => exact HC1_2.out); rintro e w140 ⟨rfl, hb⟩; have n0_ := Aside0.mk (blk_below (g := gb243) (o := .cells #[.int .i64 a0_0, .slice A0_1 l0_1.length c0_1] 30 (0, 0)) (by (with_reducible repeat (first | refine blk_drewN ?_ _ | refine blk_drew ?_ | refine blk_alloc ?_ _)); exact BK243.out) hb); have n1_ := Aside0.mk (blk_below (g := gb244) (o := .cells #[.bool a1_0, .slice (some ad246) l1_1.length c1_1, .slice A1_2 l1_2.length c1_2] 46 (0, 0)) (by (with_reducible repeat (first | refine blk_drewN ?_ _ | refine blk_drew ?_ | refine blk_alloc ?_ _)); exact BK244.out) hb); have n2_ := Aside0.mk (blk_below (g := gb247) (o := .cells #[.int .i64 ((rd_T50 l1_1 x35_2).f0), .int .i64 ((rd_T50 l1_1 x35_2).f1), .bool ((rd_T50 l1_1 x35_2).f2), .bool ((rd_T50 l1_1 x35_2).f3), .int .i64 ((rd_T50 l1_1 x35_2).f4)] 50 (0, 0)) (by (with_reducible repeat (first | refine blk_drewN ?_ _ | refine blk_drew ?_ | refine blk_alloc ?_ _)); exact BK247.out) hb); have n3_ := Aside0.mk (below_step (by repeat (first | (with_reducible first | exact HB.out | apply below_alloc | apply pw_below_drewN | apply below_drew1 | refine below_set ?_ GE243.out | refine below_set ?_ GE244.out | refine below_set ?_ GE247.out) | exact HB.out)) hb); clear BK243; clear BK244; clear BK247; clear HB; have BK243 := n0_; have BK244 := n1_; have BK247 := n2_; have HB := n3_; clear n0_ n1_ n2_ n3_; (try clear hb); (try clear hb2); (try clear hk); (try clear hi); have hcz141_0 : w140.cell? ⟨gb247, 0, none⟩ = some (.int .i64 ((rd_T50 l1_1 x35_2).f0)) := (blk_cell BK247.out 0).trans rfl; have hcz141_1 : w140.cell? ⟨gb247, 1, none⟩ = some (.int .i64 ((rd_T50 l1_1 x35_2).f1)) := (blk_cell BK247.out 1).trans rfl; have hcz141_2 : w140.cell? ⟨gb247, 2, none⟩ = some (.bool ((rd_T50 l1_1 x35_2).f2)) := (blk_cell BK247.out 2).trans rfl; have hcz141_3 : w140.cell? ⟨gb247, 3, none⟩ = some (.bool ((rd_T50 l1_1 x35_2).f3)) := (blk_cell BK247.out 3).trans rfl; have hcz141_4 : w140.cell? ⟨gb247, 4, none⟩ = some (.int .i64 ((rd_T50 l1_1 x35_2).f4)) := (blk_cell BK247.out 4).trans rfl; have hfz141_0 := blk_frozen BK247.out 0; have hfz141_1 := blk_frozen BK247.out 1; have hfz141_2 := blk_frozen BK247.out 2; have hfz141_3 := blk_frozen BK247.out 3; have hfz141_4 := blk_frozen BK247.out 4))
                  go_roundg kj32
                  case measure => have := HJ2.out; have := HK2.out; have := HJ32.out; omega
                  case rel => exact ⟨(wrap64 (x35_2 + 1)), (by first | rfl | (simp; done) | (simp [*]; done)), H', ⟨by have := HJ2.out; have := HK2.out; have := HJ32.out; omega⟩, ⟨by (with_reducible repeat (first | refine blk_drewN ?_ _ | refine blk_drew ?_ | refine blk_alloc ?_ _)); exact BK243.out⟩, ⟨by (with_reducible repeat (first | refine blk_drewN ?_ _ | refine blk_drew ?_ | refine blk_alloc ?_ _)); exact BK244.out⟩, ⟨by repeat (first | (with_reducible first | exact HB.out | apply below_alloc | apply pw_below_drewN | apply below_drew1 | refine below_set ?_ GE243.out | refine below_set ?_ GE244.out | refine below_set ?_ GE247.out) | exact HB.out)⟩⟩
                 ·rw [if_neg c133] at H
                  have c133b0 : (((rd_T50 l1_1 x35_2).f4) == (-1)) = false := beq_eq_false_iff_ne.mpr c133
                  have c133b1 : (((rd_T50 l1_1 x35_2).f4) != (-1)) = true := bne_iff_ne.mpr c133
                  have H' := Aside0.mk H
                  clear H
                  have hnb142 := NB247_243.out
                  have hnc142 := NB243_247.out
                  have hnb143 := NB247_244.out
                  have hnc143 := NB244_247.out
                  have hcz144_0 : wc.cell? ⟨gb247, 0, none⟩ = some (.int .i64 ((rd_T50 l1_1 x35_2).f0)) := (blk_cell BK247.out 0).trans rfl
                  have hcz144_1 : wc.cell? ⟨gb247, 1, none⟩ = some (.int .i64 ((rd_T50 l1_1 x35_2).f1)) := (blk_cell BK247.out 1).trans rfl
                  have hcz144_2 : wc.cell? ⟨gb247, 2, none⟩ = some (.bool ((rd_T50 l1_1 x35_2).f2)) := (blk_cell BK247.out 2).trans rfl
                  have hcz144_3 : wc.cell? ⟨gb247, 3, none⟩ = some (.bool ((rd_T50 l1_1 x35_2).f3)) := (blk_cell BK247.out 3).trans rfl
                  have hcz144_4 : wc.cell? ⟨gb247, 4, none⟩ = some (.int .i64 ((rd_T50 l1_1 x35_2).f4)) := (blk_cell BK247.out 4).trans rfl
                  have hfz144_0 := blk_frozen BK247.out 0
                  have hfz144_1 := blk_frozen BK247.out 1
                  have hfz144_2 := blk_frozen BK247.out 2
                  have hfz144_3 := blk_frozen BK247.out 3
                  have hfz144_4 := blk_frozen BK247.out 4
                  have hnb145 := NB243_244.out
                  have hnc145 := NB244_243.out
                  have hcz146_0 : wc.cell? ⟨gb243, 0, none⟩ = some (.int .i64 a0_0) := (blk_cell BK243.out 0).trans rfl
                  have hcz146_1 : wc.cell? ⟨gb243, 1, none⟩ = some (.slice A0_1 l0_1.length c0_1) := (blk_cell BK243.out 1).trans rfl
                  have hfz146_0 := blk_frozen BK243.out 0
                  have hfz146_1 := blk_frozen BK243.out 1
                  have hcz147_0 : wc.cell? ⟨gb244, 0, none⟩ = some (.bool a1_0) := (blk_cell BK244.out 0).trans rfl
                  have hcz147_1 : wc.cell? ⟨gb244, 1, none⟩ = some (.slice (some ad246) l1_1.length c1_1) := (blk_cell BK244.out 1).trans rfl
                  have hcz147_2 : wc.cell? ⟨gb244, 2, none⟩ = some (.slice A1_2 l1_2.length c1_2) := (blk_cell BK244.out 2).trans rfl
                  have hfz147_0 := blk_frozen BK244.out 0
                  have hfz147_1 := blk_frozen BK244.out 1
                  have hfz147_2 := blk_frozen BK244.out 2
                  go_wp2_with (first | (go_at_call 114; (with_reducible refine (spec_l2dead.calls kj32 a0_0 _ _ l0_1 _ _ l1_2 x35_2 true _ ?side1 ?side2 ?side3 ?side4 A128.out).mono ?_); (case side1 => repeat (first | exact (Kd.C_below HR0_1.out HB.out) | (with_reducible refine Kd.C_alloc ?_ _) | (with_reducible refine Kd.C_drewN ?_ _) | (with_reducible refine Kd.C_drew ?_))); (case side2 => exact HC0_1.out); (case side3 => repeat (first | exact (Kd.C_below HR1_2.out HB.out) | (with_reducible refine Kd.C_alloc ?_ _) | (with_reducible refine Kd.C_drewN ?_ _) | (with_reducible refine Kd.C_drew ?_))); (case side4 => exact HC1_2.out); rintro e w148 ⟨rfl, hb⟩; have n0_ := Aside0.mk (blk_below (g := gb243) (o := .cells #[.int .i64 a0_0, .slice A0_1 l0_1.length c0_1] 30 (0, 0)) (by (with_reducible repeat (first | refine blk_drewN ?_ _ | refine blk_drew ?_ | refine blk_alloc ?_ _)); exact BK243.out) hb); have n1_ := Aside0.mk (blk_below (g := gb244) (o := .cells #[.bool a1_0, .slice (some ad246) l1_1.length c1_1, .slice A1_2 l1_2.length c1_2] 46 (0, 0)) (by (with_reducible repeat (first | refine blk_drewN ?_ _ | refine blk_drew ?_ | refine blk_alloc ?_ _)); exact BK244.out) hb); have n2_ := Aside0.mk (blk_below (g := gb247) (o := .cells #[.int .i64 ((rd_T50 l1_1 x35_2).f0), .int .i64 ((rd_T50 l1_1 x35_2).f1), .bool ((rd_T50 l1_1 x35_2).f2), .bool ((rd_T50 l1_1 x35_2).f3), .int .i64 ((rd_T50 l1_1 x35_2).f4)] 50 (0, 0)) (by (with_reducible repeat (first | refine blk_drewN ?_ _ | refine blk_drew ?_ | refine blk_alloc ?_ _)); exact BK247.out) hb); have n3_ := Aside0.mk (below_step (by repeat (first | (with_reducible first | exact HB.out | apply below_alloc | apply pw_below_drewN | apply below_drew1 | refine below_set ?_ GE243.out | refine below_set ?_ GE244.out | refine below_set ?_ GE247.out) | exact HB.out)) hb); clear BK243; clear BK244; clear BK247; clear HB; have BK243 := n0_; have BK244 := n1_; have BK247 := n2_; have HB := n3_; clear n0_ n1_ n2_ n3_; (try clear hb); (try clear hb2); (try clear hk); (try clear hi); have hcz149_0 : w148.cell? ⟨gb247, 0, none⟩ = some (.int .i64 ((rd_T50 l1_1 x35_2).f0)) := (blk_cell BK247.out 0).trans rfl; have hcz149_1 : w148.cell? ⟨gb247, 1, none⟩ = some (.int .i64 ((rd_T50 l1_1 x35_2).f1)) := (blk_cell BK247.out 1).trans rfl; have hcz149_2 : w148.cell? ⟨gb247, 2, none⟩ = some (.bool ((rd_T50 l1_1 x35_2).f2)) := (blk_cell BK247.out 2).trans rfl; have hcz149_3 : w148.cell? ⟨gb247, 3, none⟩ = some (.bool ((rd_T50 l1_1 x35_2).f3)) := (blk_cell BK247.out 3).trans rfl; have hcz149_4 : w148.cell? ⟨gb247, 4, none⟩ = some (.int .i64 ((rd_T50 l1_1 x35_2).f4)) := (blk_cell BK247.out 4).trans rfl; have hfz149_0 := blk_frozen BK247.out 0; have hfz149_1 := blk_frozen BK247.out 1; have hfz149_2 := blk_frozen BK247.out 2; have hfz149_3 := blk_frozen BK247.out 3; have hfz149_4 := blk_frozen BK247.out 4))
                  go_roundg kj32
                  case measure => have := HJ2.out; have := HK2.out; have := HJ32.out; omega
                  case rel => exact ⟨(wrap64 (x35_2 + 1)), (by first | rfl | (simp; done) | (simp [*]; done)), H', ⟨by have := HJ2.out; have := HK2.out; have := HJ32.out; omega⟩, ⟨by (with_reducible repeat (first | refine blk_drewN ?_ _ | refine blk_drew ?_ | refine blk_alloc ?_ _)); exact BK243.out⟩, ⟨by (with_reducible repeat (first | refine blk_drewN ?_ _ | refine blk_drew ?_ | refine blk_alloc ?_ _)); exact BK244.out⟩, ⟨by repeat (first | (with_reducible first | exact HB.out | apply below_alloc | apply pw_below_drewN | apply below_drew1 | refine below_set ?_ GE243.out | refine below_set ?_ GE244.out | refine below_set ?_ GE247.out) | exact HB.out)⟩⟩
                ·rw [if_neg c132] at H
                 have c132b0 : (((rd_T50 l1_1 x35_2).f1) == 0) = false := beq_eq_false_iff_ne.mpr c132
                 have c132b1 : (((rd_T50 l1_1 x35_2).f1) != 0) = true := bne_iff_ne.mpr c132
                 have H' := Aside0.mk H
                 clear H
                 have hnb150 := NB247_243.out
                 have hnc150 := NB243_247.out
                 have hnb151 := NB247_244.out
                 have hnc151 := NB244_247.out
                 have hcz152_0 : wc.cell? ⟨gb247, 0, none⟩ = some (.int .i64 ((rd_T50 l1_1 x35_2).f0)) := (blk_cell BK247.out 0).trans rfl
                 have hcz152_1 : wc.cell? ⟨gb247, 1, none⟩ = some (.int .i64 ((rd_T50 l1_1 x35_2).f1)) := (blk_cell BK247.out 1).trans rfl
                 have hcz152_2 : wc.cell? ⟨gb247, 2, none⟩ = some (.bool ((rd_T50 l1_1 x35_2).f2)) := (blk_cell BK247.out 2).trans rfl
                 have hcz152_3 : wc.cell? ⟨gb247, 3, none⟩ = some (.bool ((rd_T50 l1_1 x35_2).f3)) := (blk_cell BK247.out 3).trans rfl
                 have hcz152_4 : wc.cell? ⟨gb247, 4, none⟩ = some (.int .i64 ((rd_T50 l1_1 x35_2).f4)) := (blk_cell BK247.out 4).trans rfl
                 have hfz152_0 := blk_frozen BK247.out 0
                 have hfz152_1 := blk_frozen BK247.out 1
                 have hfz152_2 := blk_frozen BK247.out 2
                 have hfz152_3 := blk_frozen BK247.out 3
                 have hfz152_4 := blk_frozen BK247.out 4
                 have hnb153 := NB243_244.out
                 have hnc153 := NB244_243.out
                 have hcz154_0 : wc.cell? ⟨gb243, 0, none⟩ = some (.int .i64 a0_0) := (blk_cell BK243.out 0).trans rfl
                 have hcz154_1 : wc.cell? ⟨gb243, 1, none⟩ = some (.slice A0_1 l0_1.length c0_1) := (blk_cell BK243.out 1).trans rfl
                 have hfz154_0 := blk_frozen BK243.out 0
                 have hfz154_1 := blk_frozen BK243.out 1
                 have hcz155_0 : wc.cell? ⟨gb244, 0, none⟩ = some (.bool a1_0) := (blk_cell BK244.out 0).trans rfl
                 have hcz155_1 : wc.cell? ⟨gb244, 1, none⟩ = some (.slice (some ad246) l1_1.length c1_1) := (blk_cell BK244.out 1).trans rfl
                 have hcz155_2 : wc.cell? ⟨gb244, 2, none⟩ = some (.slice A1_2 l1_2.length c1_2) := (blk_cell BK244.out 2).trans rfl
                 have hfz155_0 := blk_frozen BK244.out 0
                 have hfz155_1 := blk_frozen BK244.out 1
                 have hfz155_2 := blk_frozen BK244.out 2
                 go_wp2_with (first | (go_at_call 114; (with_reducible refine (spec_l2dead.calls kj32 a0_0 _ _ l0_1 _ _ l1_2 x35_2 true _ ?side1 ?side2 ?side3 ?side4 A128.out).mono ?_); (case side1 => repeat (first | exact (Kd.C_below HR0_1.out HB.out) | (with_reducible refine Kd.C_alloc ?_ _) | (with_reducible refine Kd.C_drewN ?_ _) | (with_reducible refine Kd.C_drew ?_))); (case side2 => exact HC0_1.out); (case side3 => repeat (first | exact (Kd.C_below HR1_2.out HB.out) | (with_reducible refine Kd.C_alloc ?_ _) | (with_reducible refine Kd.C_drewN ?_ _) | (with_reducible refine Kd.C_drew ?_))); (case side4 => exact HC1_2.out); rintro e w156 ⟨rfl, hb⟩; have n0_ := Aside0.mk (blk_below (g := gb243) (o := .cells #[.int .i64 a0_0, .slice A0_1 l0_1.length c0_1] 30 (0, 0)) (by (with_reducible repeat (first | refine blk_drewN ?_ _ | refine blk_drew ?_ | refine blk_alloc ?_ _)); exact BK243.out) hb); have n1_ := Aside0.mk (blk_below (g := gb244) (o := .cells #[.bool a1_0, .slice (some ad246) l1_1.length c1_1, .slice A1_2 l1_2.length c1_2] 46 (0, 0)) (by (with_reducible repeat (first | refine blk_drewN ?_ _ | refine blk_drew ?_ | refine blk_alloc ?_ _)); exact BK244.out) hb); have n2_ := Aside0.mk (blk_below (g := gb247) (o := .cells #[.int .i64 ((rd_T50 l1_1 x35_2).f0), .int .i64 ((rd_T50 l1_1 x35_2).f1), .bool ((rd_T50 l1_1 x35_2).f2), .bool ((rd_T50 l1_1 x35_2).f3), .int .i64 ((rd_T50 l1_1 x35_2).f4)] 50 (0, 0)) (by (with_reducible repeat (first | refine blk_drewN ?_ _ | refine blk_drew ?_ | refine blk_alloc ?_ _)); exact BK247.out) hb); have n3_ := Aside0.mk (below_step (by repeat (first | (with_reducible first | exact HB.out | apply below_alloc | apply pw_below_drewN | apply below_drew1 | refine below_set ?_ GE243.out | refine below_set ?_ GE244.out | refine below_set ?_ GE247.out) | exact HB.out)) hb); clear BK243; clear BK244; clear BK247; clear HB; have BK243 := n0_; have BK244 := n1_; have BK247 := n2_; have HB := n3_; clear n0_ n1_ n2_ n3_; (try clear hb); (try clear hb2); (try clear hk); (try clear hi); have hcz157_0 : w156.cell? ⟨gb247, 0, none⟩ = some (.int .i64 ((rd_T50 l1_1 x35_2).f0)) := (blk_cell BK247.out 0).trans rfl; have hcz157_1 : w156.cell? ⟨gb247, 1, none⟩ = some (.int .i64 ((rd_T50 l1_1 x35_2).f1)) := (blk_cell BK247.out 1).trans rfl; have hcz157_2 : w156.cell? ⟨gb247, 2, none⟩ = some (.bool ((rd_T50 l1_1 x35_2).f2)) := (blk_cell BK247.out 2).trans rfl; have hcz157_3 : w156.cell? ⟨gb247, 3, none⟩ = some (.bool ((rd_T50 l1_1 x35_2).f3)) := (blk_cell BK247.out 3).trans rfl; have hcz157_4 : w156.cell? ⟨gb247, 4, none⟩ = some (.int .i64 ((rd_T50 l1_1 x35_2).f4)) := (blk_cell BK247.out 4).trans rfl; have hfz157_0 := blk_frozen BK247.out 0; have hfz157_1 := blk_frozen BK247.out 1; have hfz157_2 := blk_frozen BK247.out 2; have hfz157_3 := blk_frozen BK247.out 3; have hfz157_4 := blk_frozen BK247.out 4))
                 go_roundg kj32
                 case measure => have := HJ2.out; have := HK2.out; have := HJ32.out; omega
                 case rel => exact ⟨(wrap64 (x35_2 + 1)), (by first | rfl | (simp; done) | (simp [*]; done)), H', ⟨by have := HJ2.out; have := HK2.out; have := HJ32.out; omega⟩, ⟨by (with_reducible repeat (first | refine blk_drewN ?_ _ | refine blk_drew ?_ | refine blk_alloc ?_ _)); exact BK243.out⟩, ⟨by (with_reducible repeat (first | refine blk_drewN ?_ _ | refine blk_drew ?_ | refine blk_alloc ?_ _)); exact BK244.out⟩, ⟨by repeat (first | (with_reducible first | exact HB.out | apply below_alloc | apply pw_below_drewN | apply below_drew1 | refine below_set ?_ GE243.out | refine below_set ?_ GE244.out | refine below_set ?_ GE247.out) | exact HB.out)⟩⟩
               ·rw [if_neg c131] at H
                have c131b0 : ((rd_T50 l1_1 x35_2).f3) = false := by simpa using c131
                clear c131
                have H' := Aside0.mk H
                clear H
                have hnb158 := NB247_243.out
                have hnc158 := NB243_247.out
                have hnb159 := NB247_244.out
                have hnc159 := NB244_247.out
                have hcz160_0 : wc.cell? ⟨gb247, 0, none⟩ = some (.int .i64 ((rd_T50 l1_1 x35_2).f0)) := (blk_cell BK247.out 0).trans rfl
                have hcz160_1 : wc.cell? ⟨gb247, 1, none⟩ = some (.int .i64 ((rd_T50 l1_1 x35_2).f1)) := (blk_cell BK247.out 1).trans rfl
                have hcz160_2 : wc.cell? ⟨gb247, 2, none⟩ = some (.bool ((rd_T50 l1_1 x35_2).f2)) := (blk_cell BK247.out 2).trans rfl
                have hcz160_3 : wc.cell? ⟨gb247, 3, none⟩ = some (.bool ((rd_T50 l1_1 x35_2).f3)) := (blk_cell BK247.out 3).trans rfl
                have hcz160_4 : wc.cell? ⟨gb247, 4, none⟩ = some (.int .i64 ((rd_T50 l1_1 x35_2).f4)) := (blk_cell BK247.out 4).trans rfl
                have hfz160_0 := blk_frozen BK247.out 0
                have hfz160_1 := blk_frozen BK247.out 1
                have hfz160_2 := blk_frozen BK247.out 2
                have hfz160_3 := blk_frozen BK247.out 3
                have hfz160_4 := blk_frozen BK247.out 4
                have hnb161 := NB243_244.out
                have hnc161 := NB244_243.out
                have hcz162_0 : wc.cell? ⟨gb243, 0, none⟩ = some (.int .i64 a0_0) := (blk_cell BK243.out 0).trans rfl
                have hcz162_1 : wc.cell? ⟨gb243, 1, none⟩ = some (.slice A0_1 l0_1.length c0_1) := (blk_cell BK243.out 1).trans rfl
                have hfz162_0 := blk_frozen BK243.out 0
                have hfz162_1 := blk_frozen BK243.out 1
                have hcz163_0 : wc.cell? ⟨gb244, 0, none⟩ = some (.bool a1_0) := (blk_cell BK244.out 0).trans rfl
                have hcz163_1 : wc.cell? ⟨gb244, 1, none⟩ = some (.slice (some ad246) l1_1.length c1_1) := (blk_cell BK244.out 1).trans rfl
                have hcz163_2 : wc.cell? ⟨gb244, 2, none⟩ = some (.slice A1_2 l1_2.length c1_2) := (blk_cell BK244.out 2).trans rfl
                have hfz163_0 := blk_frozen BK244.out 0
                have hfz163_1 := blk_frozen BK244.out 1
                have hfz163_2 := blk_frozen BK244.out 2
                go_wp2_with (first | (go_at_call 114; (with_reducible refine (spec_l2dead.calls kj32 a0_0 _ _ l0_1 _ _ l1_2 x35_2 true _ ?side1 ?side2 ?side3 ?side4 A128.out).mono ?_); (case side1 => repeat (first | exact (Kd.C_below HR0_1.out HB.out) | (with_reducible refine Kd.C_alloc ?_ _) | (with_reducible refine Kd.C_drewN ?_ _) | (with_reducible refine Kd.C_drew ?_))); (case side2 => exact HC0_1.out); (case side3 => repeat (first | exact (Kd.C_below HR1_2.out HB.out) | (with_reducible refine Kd.C_alloc ?_ _) | (with_reducible refine Kd.C_drewN ?_ _) | (with_reducible refine Kd.C_drew ?_))); (case side4 => exact HC1_2.out); rintro e w164 ⟨rfl, hb⟩; have n0_ := Aside0.mk (blk_below (g := gb243) (o := .cells #[.int .i64 a0_0, .slice A0_1 l0_1.length c0_1] 30 (0, 0)) (by (with_reducible repeat (first | refine blk_drewN ?_ _ | refine blk_drew ?_ | refine blk_alloc ?_ _)); exact BK243.out) hb); have n1_ := Aside0.mk (blk_below (g := gb244) (o := .cells #[.bool a1_0, .slice (some ad246) l1_1.length c1_1, .slice A1_2 l1_2.length c1_2] 46 (0, 0)) (by (with_reducible repeat (first | refine blk_drewN ?_ _ | refine blk_drew ?_ | refine blk_alloc ?_ _)); exact BK244.out) hb); have n2_ := Aside0.mk (blk_below (g := gb247) (o := .cells #[.int .i64 ((rd_T50 l1_1 x35_2).f0), .int .i64 ((rd_T50 l1_1 x35_2).f1), .bool ((rd_T50 l1_1 x35_2).f2), .bool ((rd_T50 l1_1 x35_2).f3), .int .i64 ((rd_T50 l1_1 x35_2).f4)] 50 (0, 0)) (by (with_reducible repeat (first | refine blk_drewN ?_ _ | refine blk_drew ?_ | refine blk_alloc ?_ _)); exact BK247.out) hb); have n3_ := Aside0.mk (below_step (by repeat (first | (with_reducible first | exact HB.out | apply below_alloc | apply pw_below_drewN | apply below_drew1 | refine below_set ?_ GE243.out | refine below_set ?_ GE244.out | refine below_set ?_ GE247.out) | exact HB.out)) hb); clear BK243; clear BK244; clear BK247; clear HB; have BK243 := n0_; have BK244 := n1_; have BK247 := n2_; have HB := n3_; clear n0_ n1_ n2_ n3_; (try clear hb); (try clear hb2); (try clear hk); (try clear hi); have hcz165_0 : w164.cell? ⟨gb247, 0, none⟩ = some (.int .i64 ((rd_T50 l1_1 x35_2).f0)) := (blk_cell BK247.out 0).trans rfl; have hcz165_1 : w164.cell? ⟨gb247, 1, none⟩ = some (.int .i64 ((rd_T50 l1_1 x35_2).f1)) := (blk_cell BK247.out 1).trans rfl; have hcz165_2 : w164.cell? ⟨gb247, 2, none⟩ = some (.bool ((rd_T50 l1_1 x35_2).f2)) := (blk_cell BK247.out 2).trans rfl; have hcz165_3 : w164.cell? ⟨gb247, 3, none⟩ = some (.bool ((rd_T50 l1_1 x35_2).f3)) := (blk_cell BK247.out 3).trans rfl; have hcz165_4 : w164.cell? ⟨gb247, 4, none⟩ = some (.int .i64 ((rd_T50 l1_1 x35_2).f4)) := (blk_cell BK247.out 4).trans rfl; have hfz165_0 := blk_frozen BK247.out 0; have hfz165_1 := blk_frozen BK247.out 1; have hfz165_2 := blk_frozen BK247.out 2; have hfz165_3 := blk_frozen BK247.out 3; have hfz165_4 := blk_frozen BK247.out 4))
                go_roundg kj32
                case measure => have := HJ2.out; have := HK2.out; have := HJ32.out; omega
                case rel => exact ⟨(wrap64 (x35_2 + 1)), (by first | rfl | (simp; done) | (simp [*]; done)), H', ⟨by have := HJ2.out; have := HK2.out; have := HJ32.out; omega⟩, ⟨by (with_reducible repeat (first | refine blk_drewN ?_ _ | refine blk_drew ?_ | refine blk_alloc ?_ _)); exact BK243.out⟩, ⟨by (with_reducible repeat (first | refine blk_drewN ?_ _ | refine blk_drew ?_ | refine blk_alloc ?_ _)); exact BK244.out⟩, ⟨by repeat (first | (with_reducible first | exact HB.out | apply below_alloc | apply pw_below_drewN | apply below_drew1 | refine below_set ?_ GE243.out | refine below_set ?_ GE244.out | refine below_set ?_ GE247.out) | exact HB.out)⟩⟩
              ·rw [if_neg c130] at H
               have c130b0 : ((rd_T50 l1_1 x35_2).f2) = false := by simpa using c130
               clear c130
               obtain rfl := Option.some.inj H
               have hnb166 := NB247_243.out
               have hnc166 := NB243_247.out
               have hnb167 := NB247_244.out
               have hnc167 := NB244_247.out
               have hcz168_0 : wc.cell? ⟨gb247, 0, none⟩ = some (.int .i64 ((rd_T50 l1_1 x35_2).f0)) := (blk_cell BK247.out 0).trans rfl
               have hcz168_1 : wc.cell? ⟨gb247, 1, none⟩ = some (.int .i64 ((rd_T50 l1_1 x35_2).f1)) := (blk_cell BK247.out 1).trans rfl
               have hcz168_2 : wc.cell? ⟨gb247, 2, none⟩ = some (.bool ((rd_T50 l1_1 x35_2).f2)) := (blk_cell BK247.out 2).trans rfl
               have hcz168_3 : wc.cell? ⟨gb247, 3, none⟩ = some (.bool ((rd_T50 l1_1 x35_2).f3)) := (blk_cell BK247.out 3).trans rfl
               have hcz168_4 : wc.cell? ⟨gb247, 4, none⟩ = some (.int .i64 ((rd_T50 l1_1 x35_2).f4)) := (blk_cell BK247.out 4).trans rfl
               have hfz168_0 := blk_frozen BK247.out 0
               have hfz168_1 := blk_frozen BK247.out 1
               have hfz168_2 := blk_frozen BK247.out 2
               have hfz168_3 := blk_frozen BK247.out 3
               have hfz168_4 := blk_frozen BK247.out 4
               have hnb169 := NB243_244.out
               have hnc169 := NB244_243.out
               have hcz170_0 : wc.cell? ⟨gb243, 0, none⟩ = some (.int .i64 a0_0) := (blk_cell BK243.out 0).trans rfl
               have hcz170_1 : wc.cell? ⟨gb243, 1, none⟩ = some (.slice A0_1 l0_1.length c0_1) := (blk_cell BK243.out 1).trans rfl
               have hfz170_0 := blk_frozen BK243.out 0
               have hfz170_1 := blk_frozen BK243.out 1
               have hcz171_0 : wc.cell? ⟨gb244, 0, none⟩ = some (.bool a1_0) := (blk_cell BK244.out 0).trans rfl
               have hcz171_1 : wc.cell? ⟨gb244, 1, none⟩ = some (.slice (some ad246) l1_1.length c1_1) := (blk_cell BK244.out 1).trans rfl
               have hcz171_2 : wc.cell? ⟨gb244, 2, none⟩ = some (.slice A1_2 l1_2.length c1_2) := (blk_cell BK244.out 2).trans rfl
               have hfz171_0 := blk_frozen BK244.out 0
               have hfz171_1 := blk_frozen BK244.out 1
               have hfz171_2 := blk_frozen BK244.out 2
               go_wp2_with (first | (go_at_call 114; (with_reducible refine (spec_l2dead.calls kj32 a0_0 _ _ l0_1 _ _ l1_2 x35_2 true _ ?side1 ?side2 ?side3 ?side4 A128.out).mono ?_); (case side1 => repeat (first | exact (Kd.C_below HR0_1.out HB.out) | (with_reducible refine Kd.C_alloc ?_ _) | (with_reducible refine Kd.C_drewN ?_ _) | (with_reducible refine Kd.C_drew ?_))); (case side2 => exact HC0_1.out); (case side3 => repeat (first | exact (Kd.C_below HR1_2.out HB.out) | (with_reducible refine Kd.C_alloc ?_ _) | (with_reducible refine Kd.C_drewN ?_ _) | (with_reducible refine Kd.C_drew ?_))); (case side4 => exact HC1_2.out); rintro e w172 ⟨rfl, hb⟩; have n0_ := Aside0.mk (blk_below (g := gb243) (o := .cells #[.int .i64 a0_0, .slice A0_1 l0_1.length c0_1] 30 (0, 0)) (by (with_reducible repeat (first | refine blk_drewN ?_ _ | refine blk_drew ?_ | refine blk_alloc ?_ _)); exact BK243.out) hb); have n1_ := Aside0.mk (blk_below (g := gb244) (o := .cells #[.bool a1_0, .slice (some ad246) l1_1.length c1_1, .slice A1_2 l1_2.length c1_2] 46 (0, 0)) (by (with_reducible repeat (first | refine blk_drewN ?_ _ | refine blk_drew ?_ | refine blk_alloc ?_ _)); exact BK244.out) hb); have n2_ := Aside0.mk (blk_below (g := gb247) (o := .cells #[.int .i64 ((rd_T50 l1_1 x35_2).f0), .int .i64 ((rd_T50 l1_1 x35_2).f1), .bool ((rd_T50 l1_1 x35_2).f2), .bool ((rd_T50 l1_1 x35_2).f3), .int .i64 ((rd_T50 l1_1 x35_2).f4)] 50 (0, 0)) (by (with_reducible repeat (first | refine blk_drewN ?_ _ | refine blk_drew ?_ | refine blk_alloc ?_ _)); exact BK247.out) hb); have n3_ := Aside0.mk (below_step (by repeat (first | (with_reducible first | exact HB.out | apply below_alloc | apply pw_below_drewN | apply below_drew1 | refine below_set ?_ GE243.out | refine below_set ?_ GE244.out | refine below_set ?_ GE247.out) | exact HB.out)) hb); clear BK243; clear BK244; clear BK247; clear HB; have BK243 := n0_; have BK244 := n1_; have BK247 := n2_; have HB := n3_; clear n0_ n1_ n2_ n3_; (try clear hb); (try clear hb2); (try clear hk); (try clear hi); have hcz173_0 : w172.cell? ⟨gb247, 0, none⟩ = some (.int .i64 ((rd_T50 l1_1 x35_2).f0)) := (blk_cell BK247.out 0).trans rfl; have hcz173_1 : w172.cell? ⟨gb247, 1, none⟩ = some (.int .i64 ((rd_T50 l1_1 x35_2).f1)) := (blk_cell BK247.out 1).trans rfl; have hcz173_2 : w172.cell? ⟨gb247, 2, none⟩ = some (.bool ((rd_T50 l1_1 x35_2).f2)) := (blk_cell BK247.out 2).trans rfl; have hcz173_3 : w172.cell? ⟨gb247, 3, none⟩ = some (.bool ((rd_T50 l1_1 x35_2).f3)) := (blk_cell BK247.out 3).trans rfl; have hcz173_4 : w172.cell? ⟨gb247, 4, none⟩ = some (.int .i64 ((rd_T50 l1_1 x35_2).f4)) := (blk_cell BK247.out 4).trans rfl; have hfz173_0 := blk_frozen BK247.out 0; have hfz173_1 := blk_frozen BK247.out 1; have hfz173_2 := blk_frozen BK247.out 2; have hfz173_3 := blk_frozen BK247.out 3; have hfz173_4 := blk_frozen BK247.out 4))
               go_ret
               exact ⟨by first | rfl | (simp [errW_none, errW_some] <;> rfl) | (simp [*, errW_none, errW_some] <;> rfl), by repeat (first | (with_reducible first | exact HB.out | apply below_alloc | apply pw_below_drewN | apply below_drew1 | refine below_set ?_ GE243.out | refine below_set ?_ GE244.out | refine below_set ?_ GE247.out) | exact HB.out)⟩
             ·replace c129 := Bool.eq_false_iff.mpr c129
              subst c129
              have H1 : (if ((rd_T50 l1_1 x35_2).f3) = true then (if ((rd_T50 l1_1 x35_2).f1) = 0 then (if ((rd_T50 l1_1 x35_2).f4) = (-1) then (if ((rd_T50 l1_1 x35_2).f2) = true then (spec_StateOk.l0 kj32 l1_1 (l1_1.length : Int) (wrap64 (x35_2 + 1)) a0_0 l0_1 a1_0 l1_1 l1_2) else (some false)) else (spec_StateOk.l0 kj32 l1_1 (l1_1.length : Int) (wrap64 (x35_2 + 1)) a0_0 l0_1 a1_0 l1_1 l1_2)) else (spec_StateOk.l0 kj32 l1_1 (l1_1.length : Int) (wrap64 (x35_2 + 1)) a0_0 l0_1 a1_0 l1_1 l1_2)) else (spec_StateOk.l0 kj32 l1_1 (l1_1.length : Int) (wrap64 (x35_2 + 1)) a0_0 l0_1 a1_0 l1_1 l1_2)) = some r := by rw [if_neg (show ¬ (false = true) by decide)] at H; exact H
              clear H
              have H := H1
              clear H1
              by_cases c174 : ((rd_T50 l1_1 x35_2).f3) = true
              ·rw [if_pos c174] at H
               have c174b0 : ((rd_T50 l1_1 x35_2).f3) = true := c174
               clear c174
               by_cases c175 : ((rd_T50 l1_1 x35_2).f1) = 0
               ·rw [if_pos c175] at H
                have c175b0 : (((rd_T50 l1_1 x35_2).f1) == 0) = true := beq_iff_eq.mpr c175
                have c175b1 : (((rd_T50 l1_1 x35_2).f1) != 0) = false := bne_eq_false_iff_eq.mpr c175
                clear c175
                by_cases c176 : ((rd_T50 l1_1 x35_2).f4) = (-1)
                ·rw [if_pos c176] at H
                 have c176b0 : (((rd_T50 l1_1 x35_2).f4) == (-1)) = true := beq_iff_eq.mpr c176
                 have c176b1 : (((rd_T50 l1_1 x35_2).f4) != (-1)) = false := bne_eq_false_iff_eq.mpr c176
                 clear c176
                 by_cases c177 : ((rd_T50 l1_1 x35_2).f2) = true
                 ·rw [if_pos c177] at H
                  have c177b0 : ((rd_T50 l1_1 x35_2).f2) = true := c177
                  clear c177
                  have H' := Aside0.mk H
                  clear H
                  have hnb178 := NB247_243.out
                  have hnc178 := NB243_247.out
                  have hnb179 := NB247_244.out
                  have hnc179 := NB244_247.out
                  have hcz180_0 : wc.cell? ⟨gb247, 0, none⟩ = some (.int .i64 ((rd_T50 l1_1 x35_2).f0)) := (blk_cell BK247.out 0).trans rfl
                  have hcz180_1 : wc.cell? ⟨gb247, 1, none⟩ = some (.int .i64 ((rd_T50 l1_1 x35_2).f1)) := (blk_cell BK247.out 1).trans rfl
                  have hcz180_2 : wc.cell? ⟨gb247, 2, none⟩ = some (.bool ((rd_T50 l1_1 x35_2).f2)) := (blk_cell BK247.out 2).trans rfl
                  have hcz180_3 : wc.cell? ⟨gb247, 3, none⟩ = some (.bool ((rd_T50 l1_1 x35_2).f3)) := (blk_cell BK247.out 3).trans rfl
                  have hcz180_4 : wc.cell? ⟨gb247, 4, none⟩ = some (.int .i64 ((rd_T50 l1_1 x35_2).f4)) := (blk_cell BK247.out 4).trans rfl
                  have hfz180_0 := blk_frozen BK247.out 0
                  have hfz180_1 := blk_frozen BK247.out 1
                  have hfz180_2 := blk_frozen BK247.out 2
                  have hfz180_3 := blk_frozen BK247.out 3
                  have hfz180_4 := blk_frozen BK247.out 4
                  have hnb181 := NB243_244.out
                  have hnc181 := NB244_243.out
                  have hcz182_0 : wc.cell? ⟨gb243, 0, none⟩ = some (.int .i64 a0_0) := (blk_cell BK243.out 0).trans rfl
                  have hcz182_1 : wc.cell? ⟨gb243, 1, none⟩ = some (.slice A0_1 l0_1.length c0_1) := (blk_cell BK243.out 1).trans rfl
                  have hfz182_0 := blk_frozen BK243.out 0
                  have hfz182_1 := blk_frozen BK243.out 1
                  have hcz183_0 : wc.cell? ⟨gb244, 0, none⟩ = some (.bool a1_0) := (blk_cell BK244.out 0).trans rfl
                  have hcz183_1 : wc.cell? ⟨gb244, 1, none⟩ = some (.slice (some ad246) l1_1.length c1_1) := (blk_cell BK244.out 1).trans rfl
                  have hcz183_2 : wc.cell? ⟨gb244, 2, none⟩ = some (.slice A1_2 l1_2.length c1_2) := (blk_cell BK244.out 2).trans rfl
                  have hfz183_0 := blk_frozen BK244.out 0
                  have hfz183_1 := blk_frozen BK244.out 1
                  have hfz183_2 := blk_frozen BK244.out 2
                  go_wp2_with (first | (go_at_call 114; (with_reducible refine (spec_l2dead.calls kj32 a0_0 _ _ l0_1 _ _ l1_2 x35_2 false _ ?side1 ?side2 ?side3 ?side4 A128.out).mono ?_); (case side1 => repeat (first | exact (Kd.C_below HR0_1.out HB.out) | (with_reducible refine Kd.C_alloc ?_ _) | (with_reducible refine Kd.C_drewN ?_ _) | (with_reducible refine Kd.C_drew ?_))); (case side2 => exact HC0_1.out); (case side3 => repeat (first | exact (Kd.C_below HR1_2.out HB.out) | (with_reducible refine Kd.C_alloc ?_ _) | (with_reducible refine Kd.C_drewN ?_ _) | (with_reducible refine Kd.C_drew ?_))); (case side4 => exact HC1_2.out); rintro e w184 ⟨rfl, hb⟩; have n0_ := Aside0.mk (blk_below (g := gb243) (o := .cells #[.int .i64 a0_0, .slice A0_1 l0_1.length c0_1] 30 (0, 0)) (by (with_reducible repeat (first | refine blk_drewN ?_ _ | refine blk_drew ?_ | refine blk_alloc ?_ _)); exact BK243.out) hb); have n1_ := Aside0.mk (blk_below (g := gb244) (o := .cells #[.bool a1_0, .slice (some ad246) l1_1.length c1_1, .slice A1_2 l1_2.length c1_2] 46 (0, 0)) (by (with_reducible repeat (first | refine blk_drewN ?_ _ | refine blk_drew ?_ | refine blk_alloc ?_ _)); exact BK244.out) hb); have n2_ := Aside0.mk (blk_below (g := gb247) (o := .cells #[.int .i64 ((rd_T50 l1_1 x35_2).f0), .int .i64 ((rd_T50 l1_1 x35_2).f1), .bool ((rd_T50 l1_1 x35_2).f2), .bool ((rd_T50 l1_1 x35_2).f3), .int .i64 ((rd_T50 l1_1 x35_2).f4)] 50 (0, 0)) (by (with_reducible repeat (first | refine blk_drewN ?_ _ | refine blk_drew ?_ | refine blk_alloc ?_ _)); exact BK247.out) hb); have n3_ := Aside0.mk (below_step (by repeat (first | (with_reducible first | exact HB.out | apply below_alloc | apply pw_below_drewN | apply below_drew1 | refine below_set ?_ GE243.out | refine below_set ?_ GE244.out | refine below_set ?_ GE247.out) | exact HB.out)) hb); clear BK243; clear BK244; clear BK247; clear HB; have BK243 := n0_; have BK244 := n1_; have BK247 := n2_; have HB := n3_; clear n0_ n1_ n2_ n3_; (try clear hb); (try clear hb2); (try clear hk); (try clear hi); have hcz185_0 : w184.cell? ⟨gb247, 0, none⟩ = some (.int .i64 ((rd_T50 l1_1 x35_2).f0)) := (blk_cell BK247.out 0).trans rfl; have hcz185_1 : w184.cell? ⟨gb247, 1, none⟩ = some (.int .i64 ((rd_T50 l1_1 x35_2).f1)) := (blk_cell BK247.out 1).trans rfl; have hcz185_2 : w184.cell? ⟨gb247, 2, none⟩ = some (.bool ((rd_T50 l1_1 x35_2).f2)) := (blk_cell BK247.out 2).trans rfl; have hcz185_3 : w184.cell? ⟨gb247, 3, none⟩ = some (.bool ((rd_T50 l1_1 x35_2).f3)) := (blk_cell BK247.out 3).trans rfl; have hcz185_4 : w184.cell? ⟨gb247, 4, none⟩ = some (.int .i64 ((rd_T50 l1_1 x35_2).f4)) := (blk_cell BK247.out 4).trans rfl; have hfz185_0 := blk_frozen BK247.out 0; have hfz185_1 := blk_frozen BK247.out 1; have hfz185_2 := blk_frozen BK247.out 2; have hfz185_3 := blk_frozen BK247.out 3; have hfz185_4 := blk_frozen BK247.out 4))
                  go_roundg kj32
                  case measure => have := HJ2.out; have := HK2.out; have := HJ32.out; omega
                  case rel => exact ⟨(wrap64 (x35_2 + 1)), (by first | rfl | (simp; done) | (simp [*]; done)), H', ⟨by have := HJ2.out; have := HK2.out; have := HJ32.out; omega⟩, ⟨by (with_reducible repeat (first | refine blk_drewN ?_ _ | refine blk_drew ?_ | refine blk_alloc ?_ _)); exact BK243.out⟩, ⟨by (with_reducible repeat (first | refine blk_drewN ?_ _ | refine blk_drew ?_ | refine blk_alloc ?_ _)); exact BK244.out⟩, ⟨by repeat (first | (with_reducible first | exact HB.out | apply below_alloc | apply pw_below_drewN | apply below_drew1 | refine below_set ?_ GE243.out | refine below_set ?_ GE244.out | refine below_set ?_ GE247.out) | exact HB.out)⟩⟩
                 ·rw [if_neg c177] at H
                  have c177b0 : ((rd_T50 l1_1 x35_2).f2) = false := by simpa using c177
                  clear c177
                  obtain rfl := Option.some.inj H
                  have hnb186 := NB247_243.out
                  have hnc186 := NB243_247.out
                  have hnb187 := NB247_244.out
                  have hnc187 := NB244_247.out
                  have hcz188_0 : wc.cell? ⟨gb247, 0, none⟩ = some (.int .i64 ((rd_T50 l1_1 x35_2).f0)) := (blk_cell BK247.out 0).trans rfl
                  have hcz188_1 : wc.cell? ⟨gb247, 1, none⟩ = some (.int .i64 ((rd_T50 l1_1 x35_2).f1)) := (blk_cell BK247.out 1).trans rfl
                  have hcz188_2 : wc.cell? ⟨gb247, 2, none⟩ = some (.bool ((rd_T50 l1_1 x35_2).f2)) := (blk_cell BK247.out 2).trans rfl
                  have hcz188_3 : wc.cell? ⟨gb247, 3, none⟩ = some (.bool ((rd_T50 l1_1 x35_2).f3)) := (blk_cell BK247.out 3).trans rfl
                  have hcz188_4 : wc.cell? ⟨gb247, 4, none⟩ = some (.int .i64 ((rd_T50 l1_1 x35_2).f4)) := (blk_cell BK247.out 4).trans rfl
                  have hfz188_0 := blk_frozen BK247.out 0
                  have hfz188_1 := blk_frozen BK247.out 1
                  have hfz188_2 := blk_frozen BK247.out 2
                  have hfz188_3 := blk_frozen BK247.out 3
                  have hfz188_4 := blk_frozen BK247.out 4
                  have hnb189 := NB243_244.out
                  have hnc189 := NB244_243.out
                  have hcz190_0 : wc.cell? ⟨gb243, 0, none⟩ = some (.int .i64 a0_0) := (blk_cell BK243.out 0).trans rfl
                  have hcz190_1 : wc.cell? ⟨gb243, 1, none⟩ = some (.slice A0_1 l0_1.length c0_1) := (blk_cell BK243.out 1).trans rfl
                  have hfz190_0 := blk_frozen BK243.out 0
                  have hfz190_1 := blk_frozen BK243.out 1
                  have hcz191_0 : wc.cell? ⟨gb244, 0, none⟩ = some (.bool a1_0) := (blk_cell BK244.out 0).trans rfl
                  have hcz191_1 : wc.cell? ⟨gb244, 1, none⟩ = some (.slice (some ad246) l1_1.length c1_1) := (blk_cell BK244.out 1).trans rfl
                  have hcz191_2 : wc.cell? ⟨gb244, 2, none⟩ = some (.slice A1_2 l1_2.length c1_2) := (blk_cell BK244.out 2).trans rfl
                  have hfz191_0 := blk_frozen BK244.out 0
                  have hfz191_1 := blk_frozen BK244.out 1
                  have hfz191_2 := blk_frozen BK244.out 2
                  go_wp2_with (first | (go_at_call 114; (with_reducible refine (spec_l2dead.calls kj32 a0_0 _ _ l0_1 _ _ l1_2 x35_2 false _ ?side1 ?side2 ?side3 ?side4 A128.out).mono ?_); (case side1 => repeat (first | exact (Kd.C_below HR0_1.out HB.out) | (with_reducible refine Kd.C_alloc ?_ _) | (with_reducible refine Kd.C_drewN ?_ _) | (with_reducible refine Kd.C_drew ?_))); (case side2 => exact HC0_1.out); (case side3 => repeat (first | exact (Kd.C_below HR1_2.out HB.out) | (with_reducible refine Kd.C_alloc ?_ _) | (with_reducible refine Kd.C_drewN ?_ _) | (with_reducible refine Kd.C_drew ?_))); (case side4 => exact HC1_2.out); rintro e w192 ⟨rfl, hb⟩; have n0_ := Aside0.mk (blk_below (g := gb243) (o := .cells #[.int .i64 a0_0, .slice A0_1 l0_1.length c0_1] 30 (0, 0)) (by (with_reducible repeat (first | refine blk_drewN ?_ _ | refine blk_drew ?_ | refine blk_alloc ?_ _)); exact BK243.out) hb); have n1_ := Aside0.mk (blk_below (g := gb244) (o := .cells #[.bool a1_0, .slice (some ad246) l1_1.length c1_1, .slice A1_2 l1_2.length c1_2] 46 (0, 0)) (by (with_reducible repeat (first | refine blk_drewN ?_ _ | refine blk_drew ?_ | refine blk_alloc ?_ _)); exact BK244.out) hb); have n2_ := Aside0.mk (blk_below (g := gb247) (o := .cells #[.int .i64 ((rd_T50 l1_1 x35_2).f0), .int .i64 ((rd_T50 l1_1 x35_2).f1), .bool ((rd_T50 l1_1 x35_2).f2), .bool ((rd_T50 l1_1 x35_2).f3), .int .i64 ((rd_T50 l1_1 x35_2).f4)] 50 (0, 0)) (by (with_reducible repeat (first | refine blk_drewN ?_ _ | refine blk_drew ?_ | refine blk_alloc ?_ _)); exact BK247.out) hb); have n3_ := Aside0.mk (below_step (by repeat (first | (with_reducible first | exact HB.out | apply below_alloc | apply pw_below_drewN | apply below_drew1 | refine below_set ?_ GE243.out | refine below_set ?_ GE244.out | refine below_set ?_ GE247.out) | exact HB.out)) hb); clear BK243; clear BK244; clear BK247; clear HB; have BK243 := n0_; have BK244 := n1_; have BK247 := n2_; have HB := n3_; clear n0_ n1_ n2_ n3_; (try clear hb); (try clear hb2); (try clear hk); (try clear hi); have hcz193_0 : w192.cell? ⟨gb247, 0, none⟩ = some (.int .i64 ((rd_T50 l1_1 x35_2).f0)) := (blk_cell BK247.out 0).trans rfl; have hcz193_1 : w192.cell? ⟨gb247, 1, none⟩ = some (.int .i64 ((rd_T50 l1_1 x35_2).f1)) := (blk_cell BK247.out 1).trans rfl; have hcz193_2 : w192.cell? ⟨gb247, 2, none⟩ = some (.bool ((rd_T50 l1_1 x35_2).f2)) := (blk_cell BK247.out 2).trans rfl; have hcz193_3 : w192.cell? ⟨gb247, 3, none⟩ = some (.bool ((rd_T50 l1_1 x35_2).f3)) := (blk_cell BK247.out 3).trans rfl; have hcz193_4 : w192.cell? ⟨gb247, 4, none⟩ = some (.int .i64 ((rd_T50 l1_1 x35_2).f4)) := (blk_cell BK247.out 4).trans rfl; have hfz193_0 := blk_frozen BK247.out 0; have hfz193_1 := blk_frozen BK247.out 1; have hfz193_2 := blk_frozen BK247.out 2; have hfz193_3 := blk_frozen BK247.out 3; have hfz193_4 := blk_frozen BK247.out 4))
                  go_ret
                  exact ⟨by first | rfl | (simp [errW_none, errW_some] <;> rfl) | (simp [*, errW_none, errW_some] <;> rfl), by repeat (first | (with_reducible first | exact HB.out | apply below_alloc | apply pw_below_drewN | apply below_drew1 | refine below_set ?_ GE243.out | refine below_set ?_ GE244.out | refine below_set ?_ GE247.out) | exact HB.out)⟩
                ·rw [if_neg c176] at H
                 have c176b0 : (((rd_T50 l1_1 x35_2).f4) == (-1)) = false := beq_eq_false_iff_ne.mpr c176
                 have c176b1 : (((rd_T50 l1_1 x35_2).f4) != (-1)) = true := bne_iff_ne.mpr c176
                 have H' := Aside0.mk H
                 clear H
                 have hnb194 := NB247_243.out
                 have hnc194 := NB243_247.out
                 have hnb195 := NB247_244.out
                 have hnc195 := NB244_247.out
                 have hcz196_0 : wc.cell? ⟨gb247, 0, none⟩ = some (.int .i64 ((rd_T50 l1_1 x35_2).f0)) := (blk_cell BK247.out 0).trans rfl
                 have hcz196_1 : wc.cell? ⟨gb247, 1, none⟩ = some (.int .i64 ((rd_T50 l1_1 x35_2).f1)) := (blk_cell BK247.out 1).trans rfl
                 have hcz196_2 : wc.cell? ⟨gb247, 2, none⟩ = some (.bool ((rd_T50 l1_1 x35_2).f2)) := (blk_cell BK247.out 2).trans rfl
                 have hcz196_3 : wc.cell? ⟨gb247, 3, none⟩ = some (.bool ((rd_T50 l1_1 x35_2).f3)) := (blk_cell BK247.out 3).trans rfl
                 have hcz196_4 : wc.cell? ⟨gb247, 4, none⟩ = some (.int .i64 ((rd_T50 l1_1 x35_2).f4)) := (blk_cell BK247.out 4).trans rfl
                 have hfz196_0 := blk_frozen BK247.out 0
                 have hfz196_1 := blk_frozen BK247.out 1
                 have hfz196_2 := blk_frozen BK247.out 2
                 have hfz196_3 := blk_frozen BK247.out 3
                 have hfz196_4 := blk_frozen BK247.out 4
                 have hnb197 := NB243_244.out
                 have hnc197 := NB244_243.out
                 have hcz198_0 : wc.cell? ⟨gb243, 0, none⟩ = some (.int .i64 a0_0) := (blk_cell BK243.out 0).trans rfl
                 have hcz198_1 : wc.cell? ⟨gb243, 1, none⟩ = some (.slice A0_1 l0_1.length c0_1) := (blk_cell BK243.out 1).trans rfl
                 have hfz198_0 := blk_frozen BK243.out 0
                 have hfz198_1 := blk_frozen BK243.out 1
                 have hcz199_0 : wc.cell? ⟨gb244, 0, none⟩ = some (.bool a1_0) := (blk_cell BK244.out 0).trans rfl
                 have hcz199_1 : wc.cell? ⟨gb244, 1, none⟩ = some (.slice (some ad246) l1_1.length c1_1) := (blk_cell BK244.out 1).trans rfl
                 have hcz199_2 : wc.cell? ⟨gb244, 2, none⟩ = some (.slice A1_2 l1_2.length c1_2) := (blk_cell BK244.out 2).trans rfl
                 have hfz199_0 := blk_frozen BK244.out 0
                 have hfz199_1 := blk_frozen BK244.out 1
                 have hfz199_2 := blk_frozen BK244.out 2
                 go_wp2_with (first | (go_at_call 114; (with_reducible refine (spec_l2dead.calls kj32 a0_0 _ _ l0_1 _ _ l1_2 x35_2 false _ ?side1 ?side2 ?side3 ?side4 A128.out).mono ?_); (case side1 => repeat (first | exact (Kd.C_below HR0_1.out HB.out) | (with_reducible refine Kd.C_alloc ?_ _) | (with_reducible refine Kd.C_drewN ?_ _) | (with_reducible refine Kd.C_drew ?_))); (case side2 => exact HC0_1.out); (case side3 => repeat (first | exact (Kd.C_below HR1_2.out HB.out) | (with_reducible refine Kd.C_alloc ?_ _) | (with_reducible refine Kd.C_drewN ?_ _) | (with_reducible refine Kd.C_drew ?_))); (case side4 => exact HC1_2.out); rintro e w200 ⟨rfl, hb⟩; have n0_ := Aside0.mk (blk_below (g := gb243) (o := .cells #[.int .i64 a0_0, .slice A0_1 l0_1.length c0_1] 30 (0, 0)) (by (with_reducible repeat (first | refine blk_drewN ?_ _ | refine blk_drew ?_ | refine blk_alloc ?_ _)); exact BK243.out) hb); have n1_ := Aside0.mk (blk_below (g := gb244) (o := .cells #[.bool a1_0, .slice (some ad246) l1_1.length c1_1, .slice A1_2 l1_2.length c1_2] 46 (0, 0)) (by (with_reducible repeat (first | refine blk_drewN ?_ _ | refine blk_drew ?_ | refine blk_alloc ?_ _)); exact BK244.out) hb); have n2_ := Aside0.mk (blk_below (g := gb247) (o := .cells #[.int .i64 ((rd_T50 l1_1 x35_2).f0), .int .i64 ((rd_T50 l1_1 x35_2).f1), .bool ((rd_T50 l1_1 x35_2).f2), .bool ((rd_T50 l1_1 x35_2).f3), .int .i64 ((rd_T50 l1_1 x35_2).f4)] 50 (0, 0)) (by (with_reducible repeat (first | refine blk_drewN ?_ _ | refine blk_drew ?_ | refine blk_alloc ?_ _)); exact BK247.out) hb); have n3_ := Aside0.mk (below_step (by repeat (first | (with_reducible first | exact HB.out | apply below_alloc | apply pw_below_drewN | apply below_drew1 | refine below_set ?_ GE243.out | refine below_set ?_ GE244.out | refine below_set ?_ GE247.out) | exact HB.out)) hb); clear BK243; clear BK244; clear BK247; clear HB; have BK243 := n0_; have BK244 := n1_; have BK247 := n2_; have HB := n3_; clear n0_ n1_ n2_ n3_; (try clear hb); (try clear hb2); (try clear hk); (try clear hi); have hcz201_0 : w200.cell? ⟨gb247, 0, none⟩ = some (.int .i64 ((rd_T50 l1_1 x35_2).f0)) := (blk_cell BK247.out 0).trans rfl; have hcz201_1 : w200.cell? ⟨gb247, 1, none⟩ = some (.int .i64 ((rd_T50 l1_1 x35_2).f1)) := (blk_cell BK247.out 1).trans rfl; have hcz201_2 : w200.cell? ⟨gb247, 2, none⟩ = some (.bool ((rd_T50 l1_1 x35_2).f2)) := (blk_cell BK247.out 2).trans rfl; have hcz201_3 : w200.cell? ⟨gb247, 3, none⟩ = some (.bool ((rd_T50 l1_1 x35_2).f3)) := (blk_cell BK247.out 3).trans rfl; have hcz201_4 : w200.cell? ⟨gb247, 4, none⟩ = some (.int .i64 ((rd_T50 l1_1 x35_2).f4)) := (blk_cell BK247.out 4).trans rfl; have hfz201_0 := blk_frozen BK247.out 0; have hfz201_1 := blk_frozen BK247.out 1; have hfz201_2 := blk_frozen BK247.out 2; have hfz201_3 := blk_frozen BK247.out 3; have hfz201_4 := blk_frozen BK247.out 4))
                 go_roundg kj32
                 case measure => have := HJ2.out; have := HK2.out; have := HJ32.out; omega
                 case rel => exact ⟨(wrap64 (x35_2 + 1)), (by first | rfl | (simp; done) | (simp [*]; done)), H', ⟨by have := HJ2.out; have := HK2.out; have := HJ32.out; omega⟩, ⟨by (with_reducible repeat (first | refine blk_drewN ?_ _ | refine blk_drew ?_ | refine blk_alloc ?_ _)); exact BK243.out⟩, ⟨by (with_reducible repeat (first | refine blk_drewN ?_ _ | refine blk_drew ?_ | refine blk_alloc ?_ _)); exact BK244.out⟩, ⟨by repeat (first | (with_reducible first | exact HB.out | apply below_alloc | apply pw_below_drewN | apply below_drew1 | refine below_set ?_ GE243.out | refine below_set ?_ GE244.out | refine below_set ?_ GE247.out) | exact HB.out)⟩⟩
               ·rw [if_neg c175] at H
                have c175b0 : (((rd_T50 l1_1 x35_2).f1) == 0) = false := beq_eq_false_iff_ne.mpr c175
                have c175b1 : (((rd_T50 l1_1 x35_2).f1) != 0) = true := bne_iff_ne.mpr c175
                have H' := Aside0.mk H
                clear H
                have hnb202 := NB247_243.out
                have hnc202 := NB243_247.out
                have hnb203 := NB247_244.out
                have hnc203 := NB244_247.out
                have hcz204_0 : wc.cell? ⟨gb247, 0, none⟩ = some (.int .i64 ((rd_T50 l1_1 x35_2).f0)) := (blk_cell BK247.out 0).trans rfl
                have hcz204_1 : wc.cell? ⟨gb247, 1, none⟩ = some (.int .i64 ((rd_T50 l1_1 x35_2).f1)) := (blk_cell BK247.out 1).trans rfl
                have hcz204_2 : wc.cell? ⟨gb247, 2, none⟩ = some (.bool ((rd_T50 l1_1 x35_2).f2)) := (blk_cell BK247.out 2).trans rfl
                have hcz204_3 : wc.cell? ⟨gb247, 3, none⟩ = some (.bool ((rd_T50 l1_1 x35_2).f3)) := (blk_cell BK247.out 3).trans rfl
                have hcz204_4 : wc.cell? ⟨gb247, 4, none⟩ = some (.int .i64 ((rd_T50 l1_1 x35_2).f4)) := (blk_cell BK247.out 4).trans rfl
                have hfz204_0 := blk_frozen BK247.out 0
                have hfz204_1 := blk_frozen BK247.out 1
                have hfz204_2 := blk_frozen BK247.out 2
                have hfz204_3 := blk_frozen BK247.out 3
                have hfz204_4 := blk_frozen BK247.out 4
                have hnb205 := NB243_244.out
                have hnc205 := NB244_243.out
                have hcz206_0 : wc.cell? ⟨gb243, 0, none⟩ = some (.int .i64 a0_0) := (blk_cell BK243.out 0).trans rfl
                have hcz206_1 : wc.cell? ⟨gb243, 1, none⟩ = some (.slice A0_1 l0_1.length c0_1) := (blk_cell BK243.out 1).trans rfl
                have hfz206_0 := blk_frozen BK243.out 0
                have hfz206_1 := blk_frozen BK243.out 1
                have hcz207_0 : wc.cell? ⟨gb244, 0, none⟩ = some (.bool a1_0) := (blk_cell BK244.out 0).trans rfl
                have hcz207_1 : wc.cell? ⟨gb244, 1, none⟩ = some (.slice (some ad246) l1_1.length c1_1) := (blk_cell BK244.out 1).trans rfl
                have hcz207_2 : wc.cell? ⟨gb244, 2, none⟩ = some (.slice A1_2 l1_2.length c1_2) := (blk_cell BK244.out 2).trans rfl
                have hfz207_0 := blk_frozen BK244.out 0
                have hfz207_1 := blk_frozen BK244.out 1
                have hfz207_2 := blk_frozen BK244.out 2
                go_wp2_with (first | (go_at_call 114; (with_reducible refine (spec_l2dead.calls kj32 a0_0 _ _ l0_1 _ _ l1_2 x35_2 false _ ?side1 ?side2 ?side3 ?side4 A128.out).mono ?_); (case side1 => repeat (first | exact (Kd.C_below HR0_1.out HB.out) | (with_reducible refine Kd.C_alloc ?_ _) | (with_reducible refine Kd.C_drewN ?_ _) | (with_reducible refine Kd.C_drew ?_))); (case side2 => exact HC0_1.out); (case side3 => repeat (first | exact (Kd.C_below HR1_2.out HB.out) | (with_reducible refine Kd.C_alloc ?_ _) | (with_reducible refine Kd.C_drewN ?_ _) | (with_reducible refine Kd.C_drew ?_))); (case side4 => exact HC1_2.out); rintro e w208 ⟨rfl, hb⟩; have n0_ := Aside0.mk (blk_below (g := gb243) (o := .cells #[.int .i64 a0_0, .slice A0_1 l0_1.length c0_1] 30 (0, 0)) (by (with_reducible repeat (first | refine blk_drewN ?_ _ | refine blk_drew ?_ | refine blk_alloc ?_ _)); exact BK243.out) hb); have n1_ := Aside0.mk (blk_below (g := gb244) (o := .cells #[.bool a1_0, .slice (some ad246) l1_1.length c1_1, .slice A1_2 l1_2.length c1_2] 46 (0, 0)) (by (with_reducible repeat (first | refine blk_drewN ?_ _ | refine blk_drew ?_ | refine blk_alloc ?_ _)); exact BK244.out) hb); have n2_ := Aside0.mk (blk_below (g := gb247) (o := .cells #[.int .i64 ((rd_T50 l1_1 x35_2).f0), .int .i64 ((rd_T50 l1_1 x35_2).f1), .bool ((rd_T50 l1_1 x35_2).f2), .bool ((rd_T50 l1_1 x35_2).f3), .int .i64 ((rd_T50 l1_1 x35_2).f4)] 50 (0, 0)) (by (with_reducible repeat (first | refine blk_drewN ?_ _ | refine blk_drew ?_ | refine blk_alloc ?_ _)); exact BK247.out) hb); have n3_ := Aside0.mk (below_step (by repeat (first | (with_reducible first | exact HB.out | apply below_alloc | apply pw_below_drewN | apply below_drew1 | refine below_set ?_ GE243.out | refine below_set ?_ GE244.out | refine below_set ?_ GE247.out) | exact HB.out)) hb); clear BK243; clear BK244; clear BK247; clear HB; have BK243 := n0_; have BK244 := n1_; have BK247 := n2_; have HB := n3_; clear n0_ n1_ n2_ n3_; (try clear hb); (try clear hb2); (try clear hk); (try clear hi); have hcz209_0 : w208.cell? ⟨gb247, 0, none⟩ = some (.int .i64 ((rd_T50 l1_1 x35_2).f0)) := (blk_cell BK247.out 0).trans rfl; have hcz209_1 : w208.cell? ⟨gb247, 1, none⟩ = some (.int .i64 ((rd_T50 l1_1 x35_2).f1)) := (blk_cell BK247.out 1).trans rfl; have hcz209_2 : w208.cell? ⟨gb247, 2, none⟩ = some (.bool ((rd_T50 l1_1 x35_2).f2)) := (blk_cell BK247.out 2).trans rfl; have hcz209_3 : w208.cell? ⟨gb247, 3, none⟩ = some (.bool ((rd_T50 l1_1 x35_2).f3)) := (blk_cell BK247.out 3).trans rfl; have hcz209_4 : w208.cell? ⟨gb247, 4, none⟩ = some (.int .i64 ((rd_T50 l1_1 x35_2).f4)) := (blk_cell BK247.out 4).trans rfl; have hfz209_0 := blk_frozen BK247.out 0; have hfz209_1 := blk_frozen BK247.out 1; have hfz209_2 := blk_frozen BK247.out 2; have hfz209_3 := blk_frozen BK247.out 3; have hfz209_4 := blk_frozen BK247.out 4))
                go_roundg kj32
                case measure => have := HJ2.out; have := HK2.out; have := HJ32.out; omega
                case rel => exact ⟨(wrap64 (x35_2 + 1)), (by first | rfl | (simp; done) | (simp [*]; done)), H', ⟨by have := HJ2.out; have := HK2.out; have := HJ32.out; omega⟩, ⟨by (with_reducible repeat (first | refine blk_drewN ?_ _ | refine blk_drew ?_ | refine blk_alloc ?_ _)); exact BK243.out⟩, ⟨by (with_reducible repeat (first | refine blk_drewN ?_ _ | refine blk_drew ?_ | refine blk_alloc ?_ _)); exact BK244.out⟩, ⟨by repeat (first | (with_reducible first | exact HB.out | apply below_alloc | apply pw_below_drewN | apply below_drew1 | refine below_set ?_ GE243.out | refine below_set ?_ GE244.out | refine below_set ?_ GE247.out) | exact HB.out)⟩⟩
              ·rw [if_neg c174] at H
               have c174b0 : ((rd_T50 l1_1 x35_2).f3) = false := by simpa using c174
               clear c174
               have H' := Aside0.mk H
               clear H
               have hnb210 := NB247_243.out
               have hnc210 := NB243_247.out
               have hnb211 := NB247_244.out
               have hnc211 := NB244_247.out
               have hcz212_0 : wc.cell? ⟨gb247, 0, none⟩ = some (.int .i64 ((rd_T50 l1_1 x35_2).f0)) := (blk_cell BK247.out 0).trans rfl
               have hcz212_1 : wc.cell? ⟨gb247, 1, none⟩ = some (.int .i64 ((rd_T50 l1_1 x35_2).f1)) := (blk_cell BK247.out 1).trans rfl
               have hcz212_2 : wc.cell? ⟨gb247, 2, none⟩ = some (.bool ((rd_T50 l1_1 x35_2).f2)) := (blk_cell BK247.out 2).trans rfl
               have hcz212_3 : wc.cell? ⟨gb247, 3, none⟩ = some (.bool ((rd_T50 l1_1 x35_2).f3)) := (blk_cell BK247.out 3).trans rfl
               have hcz212_4 : wc.cell? ⟨gb247, 4, none⟩ = some (.int .i64 ((rd_T50 l1_1 x35_2).f4)) := (blk_cell BK247.out 4).trans rfl
               have hfz212_0 := blk_frozen BK247.out 0
               have hfz212_1 := blk_frozen BK247.out 1
               have hfz212_2 := blk_frozen BK247.out 2
               have hfz212_3 := blk_frozen BK247.out 3
               have hfz212_4 := blk_frozen BK247.out 4
               have hnb213 := NB243_244.out
               have hnc213 := NB244_243.out
               have hcz214_0 : wc.cell? ⟨gb243, 0, none⟩ = some (.int .i64 a0_0) := (blk_cell BK243.out 0).trans rfl
               have hcz214_1 : wc.cell? ⟨gb243, 1, none⟩ = some (.slice A0_1 l0_1.length c0_1) := (blk_cell BK243.out 1).trans rfl
               have hfz214_0 := blk_frozen BK243.out 0
               have hfz214_1 := blk_frozen BK243.out 1
               have hcz215_0 : wc.cell? ⟨gb244, 0, none⟩ = some (.bool a1_0) := (blk_cell BK244.out 0).trans rfl
               have hcz215_1 : wc.cell? ⟨gb244, 1, none⟩ = some (.slice (some ad246) l1_1.length c1_1) := (blk_cell BK244.out 1).trans rfl
               have hcz215_2 : wc.cell? ⟨gb244, 2, none⟩ = some (.slice A1_2 l1_2.length c1_2) := (blk_cell BK244.out 2).trans rfl
               have hfz215_0 := blk_frozen BK244.out 0
               have hfz215_1 := blk_frozen BK244.out 1
               have hfz215_2 := blk_frozen BK244.out 2
               go_wp2_with (first | (go_at_call 114; (with_reducible refine (spec_l2dead.calls kj32 a0_0 _ _ l0_1 _ _ l1_2 x35_2 false _ ?side1 ?side2 ?side3 ?side4 A128.out).mono ?_); (case side1 => repeat (first | exact (Kd.C_below HR0_1.out HB.out) | (with_reducible refine Kd.C_alloc ?_ _) | (with_reducible refine Kd.C_drewN ?_ _) | (with_reducible refine Kd.C_drew ?_))); (case side2 => exact HC0_1.out); (case side3 => repeat (first | exact (Kd.C_below HR1_2.out HB.out) | (with_reducible refine Kd.C_alloc ?_ _) | (with_reducible refine Kd.C_drewN ?_ _) | (with_reducible refine Kd.C_drew ?_))); (case side4 => exact HC1_2.out); rintro e w216 ⟨rfl, hb⟩; have n0_ := Aside0.mk (blk_below (g := gb243) (o := .cells #[.int .i64 a0_0, .slice A0_1 l0_1.length c0_1] 30 (0, 0)) (by (with_reducible repeat (first | refine blk_drewN ?_ _ | refine blk_drew ?_ | refine blk_alloc ?_ _)); exact BK243.out) hb); have n1_ := Aside0.mk (blk_below (g := gb244) (o := .cells #[.bool a1_0, .slice (some ad246) l1_1.length c1_1, .slice A1_2 l1_2.length c1_2] 46 (0, 0)) (by (with_reducible repeat (first | refine blk_drewN ?_ _ | refine blk_drew ?_ | refine blk_alloc ?_ _)); exact BK244.out) hb); have n2_ := Aside0.mk (blk_below (g := gb247) (o := .cells #[.int .i64 ((rd_T50 l1_1 x35_2).f0), .int .i64 ((rd_T50 l1_1 x35_2).f1), .bool ((rd_T50 l1_1 x35_2).f2), .bool ((rd_T50 l1_1 x35_2).f3), .int .i64 ((rd_T50 l1_1 x35_2).f4)] 50 (0, 0)) (by (with_reducible repeat (first | refine blk_drewN ?_ _ | refine blk_drew ?_ | refine blk_alloc ?_ _)); exact BK247.out) hb); have n3_ := Aside0.mk (below_step (by repeat (first | (with_reducible first | exact HB.out | apply below_alloc | apply pw_below_drewN | apply below_drew1 | refine below_set ?_ GE243.out | refine below_set ?_ GE244.out | refine below_set ?_ GE247.out) | exact HB.out)) hb); clear BK243; clear BK244; clear BK247; clear HB; have BK243 := n0_; have BK244 := n1_; have BK247 := n2_; have HB := n3_; clear n0_ n1_ n2_ n3_; (try clear hb); (try clear hb2); (try clear hk); (try clear hi); have hcz217_0 : w216.cell? ⟨gb247, 0, none⟩ = some (.int .i64 ((rd_T50 l1_1 x35_2).f0)) := (blk_cell BK247.out 0).trans rfl; have hcz217_1 : w216.cell? ⟨gb247, 1, none⟩ = some (.int .i64 ((rd_T50 l1_1 x35_2).f1)) := (blk_cell BK247.out 1).trans rfl; have hcz217_2 : w216.cell? ⟨gb247, 2, none⟩ = some (.bool ((rd_T50 l1_1 x35_2).f2)) := (blk_cell BK247.out 2).trans rfl; have hcz217_3 : w216.cell? ⟨gb247, 3, none⟩ = some (.bool ((rd_T50 l1_1 x35_2).f3)) := (blk_cell BK247.out 3).trans rfl; have hcz217_4 : w216.cell? ⟨gb247, 4, none⟩ = some (.int .i64 ((rd_T50 l1_1 x35_2).f4)) := (blk_cell BK247.out 4).trans rfl; have hfz217_0 := blk_frozen BK247.out 0; have hfz217_1 := blk_frozen BK247.out 1; have hfz217_2 := blk_frozen BK247.out 2; have hfz217_3 := blk_frozen BK247.out 3; have hfz217_4 := blk_frozen BK247.out 4))
               go_roundg kj32
               case measure => have := HJ2.out; have := HK2.out; have := HJ32.out; omega
               case rel => exact ⟨(wrap64 (x35_2 + 1)), (by first | rfl | (simp; done) | (simp [*]; done)), H', ⟨by have := HJ2.out; have := HK2.out; have := HJ32.out; omega⟩, ⟨by (with_reducible repeat (first | refine blk_drewN ?_ _ | refine blk_drew ?_ | refine blk_alloc ?_ _)); exact BK243.out⟩, ⟨by (with_reducible repeat (first | refine blk_drewN ?_ _ | refine blk_drew ?_ | refine blk_alloc ?_ _)); exact BK244.out⟩, ⟨by repeat (first | (with_reducible first | exact HB.out | apply below_alloc | apply pw_below_drewN | apply below_drew1 | refine below_set ?_ GE243.out | refine below_set ?_ GE244.out | refine below_set ?_ GE247.out) | exact HB.out)⟩⟩
        ·rw [if_neg c32] at H
         exact absurd H (by simp)
       ·rw [if_neg c31] at H
        exact absurd H (by simp)
      ·rw [if_neg c30] at H
       have c30b0 : decide (x35_2 < (l1_1.length : Int)) = false := decide_eq_false c30
       clear c30
       obtain rfl := Option.some.inj H
       go_wp2
       go_ret
       exact ⟨by first | rfl | (simp [errW_none, errW_some] <;> rfl) | (simp [*, errW_none, errW_some] <;> rfl), by repeat (first | (with_reducible first | exact HB.out | apply below_alloc | apply pw_below_drewN | apply below_drew1 | refine below_set ?_ GE243.out | refine below_set ?_ GE244.out) | exact HB.out)⟩
end Go.Proofs.Ytpdnabhpkdchjaa.P
namespace Go.Proofs.Ytpdnabhpkdchjaa.P
open Go.RowKit Go.Proofs.YtpdnabhpkdchjaaW.PrintWords Go.Proofs.YtpdnabhpkdchjaaW.PrintLast
set_option linter.unusedVariables false
set_option linter.unusedSimpArgs false
def secRange (x : S50) : Bool := decide (-1000000 ≤ x.f1) && decide (x.f1 ≤ 1000000) && decide (-1 ≤ x.f4) && decide (x.f4 ≤ 1)
def secRest (dd : Bool) (x : S50) : Bool := !((decide (x.f1 < 0) || dd) && !x.f2) && !(x.f3 && decide (x.f1 = 0) && decide (x.f4 = -1) && !x.f2)
def secOk (l : List S88) (dead : List Bool) (s : Int) (x : S50) : Bool := secRange x && decide (x.f0 = toldC l dead s x) && secRest (deadAt l dead s) x
def secsFrom (l : List S88) (dead : List Bool) (secs : List S50) (d : Nat) (i : Nat) : Bool :=
  match d with
  | 0 => true
  | d + 1 => secOk l dead i (rd_T50 secs (i : Int)) && secsFrom l dead secs d (i + 1)
def stateOk (n : Int) (l : List S88) (ok : Bool) (secs : List S50) (dead : List Bool) : Bool :=
  decide (layoutOk n l = 0) && ok && decide ((secs.length : Int) = n) && decide (dead.length = l.length) && secsFrom l dead secs secs.length 0
section
variable {n : Int} {l : List S88} {ok : Bool} {secs : List S50} {dead : List Bool}
theorem impl_j2 (hl : l.length ≤ 1048576) (hd : dead.length = l.length) (i : Nat) (hi : i + 1 < 9223372036854775807) (x : S50) (bad : Bool) (R : Bool) (hrest : Ev (fun k => impl_StateOk.l0 k secs (secs.length : Int) ((i + 1 : Nat) : Int) n l ok secs dead) R) :
    Ev (fun k => impl_StateOk.j2 k (i : Int) secs (secs.length : Int) (i : Int) bad n l ok secs dead x.f0 x.f1 x.f2 x.f3 x.f4) (!bad && secRest (deadAt l dead i) x && R) := by
  have hw : wrap64 ((i : Int) + 1) = ((i + 1 : Nat) : Int) := wrap_succ (by omega)
  refine Ev.step (fun k => by simp only [impl_StateOk.j2, hw]; rfl) ?_
  cases bad with
  | true => exact Ev.now _
  | false =>
    simp only [Bool.false_eq_true, if_false, Bool.not_false, Bool.true_and]
    have hdd := implDead_ev n l dead ok secs (i : Int) hl hd
    by_cases h1 : x.f1 < 0
    · have h1' : ¬ x.f1 = 0 := by omega
      simp only [h1, h1', if_true, if_false, secRest, decide_true, decide_false, Bool.true_or, Bool.true_and, Bool.and_false, Bool.false_and, Bool.not_false, Bool.and_true]
      cases hx2 : x.f2 with
      | true =>
        simp only [if_true, Bool.not_true, Bool.and_false, Bool.not_false, Bool.true_and]
        by_cases h3 : x.f3 = true
        · simp only [h3, if_true]; exact hrest
        · simp only [h3, if_false]; exact hrest
      | false =>
        simp only [Bool.false_eq_true, if_false, Bool.not_false, Bool.and_true, Bool.not_true, Bool.false_and]
        exact Ev.now _
    · simp only [h1, if_false]
      refine Ev.bind hdd ?_
      simp only [secRest, h1, decide_false, Bool.false_or]
      cases hda : deadAt l dead (i : Int) with
      | true =>
        simp only [if_true, Bool.true_and]
        cases hx2 : x.f2 with
        | true =>
          simp only [if_true, Bool.not_true, Bool.and_false, Bool.not_false, Bool.true_and]
          by_cases h3 : x.f3 = true
          · by_cases h4 : x.f1 = 0
            · by_cases h5 : x.f4 = -1
              · simp only [h3, h4, h5, if_true]; exact hrest
              · simp only [h3, h4, h5, if_true, if_false]; exact hrest
            · simp only [h3, h4, if_true, if_false]; exact hrest
          · simp only [h3, if_false]; exact hrest
        | false =>
          simp only [Bool.false_eq_true, if_false, Bool.not_false, Bool.not_true, Bool.false_and]
          exact Ev.now _
      | false =>
        simp only [Bool.false_eq_true, if_false, Bool.false_and, Bool.not_false, Bool.true_and]
        by_cases h3 : x.f3 = true
        · by_cases h4 : x.f1 = 0
          · by_cases h5 : x.f4 = -1
            · cases hx2 : x.f2 with
              | true => simp only [h3, h4, h5, if_true, decide_true, Bool.true_and, Bool.not_true, Bool.not_false]; exact hrest
              | false => simp only [h3, h4, h5, if_true, decide_true, Bool.true_and, Bool.not_true, Bool.not_false, Bool.false_eq_true, if_false, Bool.false_and]; exact Ev.now _
            · simp only [h3, h4, h5, if_true, if_false, decide_true, decide_false, Bool.true_and, Bool.and_false, Bool.false_and, Bool.not_false]; exact hrest
          · simp only [h3, h4, if_true, if_false, decide_false, Bool.and_false, Bool.false_and, Bool.not_false, Bool.true_and]; exact hrest
        · have h3' : x.f3 = false := by simpa using h3
          simp only [h3', Bool.false_eq_true, if_false, Bool.false_and, Bool.not_false, Bool.true_and]; exact hrest
theorem impl_secs (hl : l.length ≤ 1048576) (hd : dead.length = l.length) (hs : secs.length ≤ 1048576) (d : Nat) : ∀ (i : Nat), i + d = secs.length →
    Ev (fun k => impl_StateOk.l0 k secs (secs.length : Int) (i : Int) n l ok secs dead) (secsFrom l dead secs d i) := by
  induction d with
  | zero => intro i hi; refine Ev.step1 fun k => ?_; simp only [impl_StateOk.l0]; rw [if_neg (by omega)]; rfl
  | succ d ih =>
    intro i hi
    have hj := fun bad => impl_j2 (n := n) (ok := ok) hl hd i (by omega) (rd_T50 secs (i : Int)) bad _ (ih (i + 1) (by omega))
    simp only [secsFrom, secOk]
    refine Ev.step (fun k => by simp only [impl_StateOk.l0]; rw [if_pos (by omega), if_pos (by omega), if_pos (by omega)]) ?_
    have bad : ∀ {r : Bool}, secRange (rd_T50 secs (i : Int)) = false → Ev (fun k => impl_StateOk.j2 k (i : Int) secs (secs.length : Int) (i : Int) true n l ok secs dead (rd_T50 secs (i : Int)).f0 (rd_T50 secs (i : Int)).f1 (rd_T50 secs (i : Int)).f2 (rd_T50 secs (i : Int)).f3 (rd_T50 secs (i : Int)).f4) (secRange (rd_T50 secs (i : Int)) && decide ((rd_T50 secs (i : Int)).f0 = toldC l dead i (rd_T50 secs (i : Int))) && secRest (deadAt l dead i) (rd_T50 secs (i : Int)) && secsFrom l dead secs d (i + 1)) := by
      intro r h
      rw [h]
      exact hj true
    by_cases h1 : (rd_T50 secs (i : Int)).f1 < -1000000
    · exact Ev.ite_pos h1 (bad (r := true) (by simp [secRange, show ¬ -1000000 ≤ (rd_T50 secs (i : Int)).f1 by omega]))
    · refine Ev.ite_neg h1 ?_
      by_cases h2 : (rd_T50 secs (i : Int)).f1 > 1000000
      · exact Ev.ite_pos h2 (bad (r := true) (by simp [secRange, show ¬ (rd_T50 secs (i : Int)).f1 ≤ 1000000 by omega]))
      · refine Ev.ite_neg h2 ?_
        by_cases h3 : (rd_T50 secs (i : Int)).f4 < -1
        · exact Ev.ite_pos h3 (bad (r := true) (by simp [secRange, show ¬ -1 ≤ (rd_T50 secs (i : Int)).f4 by omega]))
        · refine Ev.ite_neg h3 ?_
          by_cases h4 : (rd_T50 secs (i : Int)).f4 > 1
          · exact Ev.ite_pos h4 (bad (r := true) (by simp [secRange, show ¬ (rd_T50 secs (i : Int)).f4 ≤ 1 by omega]))
          · refine Ev.ite_neg h4 (Ev.bind (implTold_ev n l dead ok secs (i : Int) hl hd (by omega) (by omega)) ?_)
            have hr : secRange (rd_T50 secs (i : Int)) = true := by
              simp only [secRange, Bool.and_eq_true, decide_eq_true_eq]
              omega
            have hb := hj ((rd_T50 secs (i : Int)).f0 != toldC l dead (i : Int) (rd_T50 secs (i : Int)))
            have e : (!((rd_T50 secs (i : Int)).f0 != toldC l dead (i : Int) (rd_T50 secs (i : Int)))) = decide ((rd_T50 secs (i : Int)).f0 = toldC l dead (i : Int) (rd_T50 secs (i : Int))) := by
              by_cases h : (rd_T50 secs (i : Int)).f0 = toldC l dead (i : Int) (rd_T50 secs (i : Int)) <;> simp [h]
            rw [e] at hb
            rw [hr, Bool.true_and]
            exact hb
theorem implStateOk_ev (hl : l.length ≤ 1048576) (hs : secs.length ≤ 1048576) : Ev (fun k => impl_StateOk.f k n l ok secs dead) (stateOk n l ok secs dead) := by
  unfold impl_StateOk.f
  refine Ev.call (a := layoutOk n l) rfl ?_
  have bad : stateOk n l ok secs dead = false → Ev (fun k => impl_StateOk.j0 k true n l ok secs dead) (stateOk n l ok secs dead) := by
    intro h
    rw [h]
    refine Ev.step1 fun k => ?_
    simp only [impl_StateOk.j0, if_true]
  by_cases h0 : layoutOk n l = 0
  · refine Ev.ite_pos h0 ?_
    by_cases h1 : ok = true
    · refine Ev.ite_pos h1 ?_
      by_cases h2 : (secs.length : Int) = n
      · refine Ev.ite_pos h2 ?_
        by_cases h3 : dead.length = l.length
        · have e : stateOk n l ok secs dead = secsFrom l dead secs secs.length 0 := by simp [stateOk, h0, h1, h2, h3]
          rw [e]
          refine Ev.step (fun k => ?_) (impl_secs (n := n) (ok := ok) hl h3 hs secs.length 0 (by omega))
          simp only [impl_StateOk.j0, h3]
          rw [if_neg (by simp)]
          rfl
        · have e : ((dead.length : Int) != (l.length : Int)) = true := by simp; omega
          rw [e]
          exact bad (by simp [stateOk, h3])
      · exact Ev.ite_neg h2 (bad (by simp [stateOk, h2]))
    · exact Ev.ite_neg h1 (bad (by simp [stateOk, h1]))
  · exact Ev.ite_neg h0 (bad (by simp [stateOk, h0]))
theorem spec_j2 (h0 : layoutOk n l = 0) (hd : dead.length = l.length) (i : Nat) (hin : (i : Int) < n) (x : S50) (bad : Bool) (R : Bool) (hrest : Ev (fun k => spec_StateOk.l0 k secs (secs.length : Int) ((i + 1 : Nat) : Int) n l ok secs dead) R) :
    Ev (fun k => spec_StateOk.j2 k (i : Int) secs (secs.length : Int) (i : Int) bad n l ok secs dead x.f0 x.f1 x.f2 x.f3 x.f4) (!bad && secRest (deadAt l dead i) x && R) := by
  have hw : wrap64 ((i : Int) + 1) = ((i + 1 : Nat) : Int) := wrap_succ (by have := lay_n h0; omega)
  refine Ev.step (fun k => by simp only [spec_StateOk.j2, hw]; rfl) ?_
  cases bad with
  | true => exact Ev.now _
  | false =>
    simp only [Bool.false_eq_true, if_false, Bool.not_false, Bool.true_and]
    have hdd := specDead_ev n l dead (i : Int) h0 ⟨by omega, hin⟩ hd
    by_cases h1 : x.f1 < 0
    · have h1' : ¬ x.f1 = 0 := by omega
      simp only [h1, h1', if_true, if_false, secRest, decide_true, decide_false, Bool.true_or, Bool.true_and, Bool.and_false, Bool.false_and, Bool.not_false, Bool.and_true]
      cases hx2 : x.f2 with
      | true =>
        simp only [if_true, Bool.not_true, Bool.and_false, Bool.not_false, Bool.true_and]
        refine Ev.bind hdd ?_
        by_cases h3 : x.f3 = true
        · simp only [h3, if_true, ite_self]; exact hrest
        · simp only [h3, if_false, ite_self]; exact hrest
      | false =>
        simp only [Bool.false_eq_true, if_false, Bool.not_false, Bool.and_true, Bool.not_true, Bool.false_and]
        exact Ev.now _
    · simp only [h1, if_false]
      refine Ev.bind hdd ?_
      simp only [secRest, h1, decide_false, Bool.false_or]
      cases hda : deadAt l dead (i : Int) with
      | true =>
        simp only [if_true, Bool.true_and]
        cases hx2 : x.f2 with
        | true =>
          simp only [if_true, Bool.not_true, Bool.and_false, Bool.not_false, Bool.true_and]
          by_cases h3 : x.f3 = true
          · by_cases h4 : x.f1 = 0
            · by_cases h5 : x.f4 = -1
              · simp only [h3, h4, h5, if_true]; exact hrest
              · simp only [h3, h4, h5, if_true, if_false]; exact hrest
            · simp only [h3, h4, if_true, if_false]; exact hrest
          · simp only [h3, if_false]; exact hrest
        | false =>
          simp only [Bool.false_eq_true, if_false, Bool.not_false, Bool.not_true, Bool.false_and]
          exact Ev.now _
      | false =>
        simp only [Bool.false_eq_true, if_false, Bool.false_and, Bool.not_false, Bool.true_and]
        by_cases h3 : x.f3 = true
        · by_cases h4 : x.f1 = 0
          · by_cases h5 : x.f4 = -1
            · cases hx2 : x.f2 with
              | true => simp only [h3, h4, h5, if_true, decide_true, Bool.true_and, Bool.not_true, Bool.not_false]; exact hrest
              | false => simp only [h3, h4, h5, if_true, decide_true, Bool.true_and, Bool.not_true, Bool.not_false, Bool.false_eq_true, if_false, Bool.false_and]; exact Ev.now _
            · simp only [h3, h4, h5, if_true, if_false, decide_true, decide_false, Bool.true_and, Bool.and_false, Bool.false_and, Bool.not_false]; exact hrest
          · simp only [h3, h4, if_true, if_false, decide_false, Bool.and_false, Bool.false_and, Bool.not_false, Bool.true_and]; exact hrest
        · have h3' : x.f3 = false := by simpa using h3
          simp only [h3', Bool.false_eq_true, if_false, Bool.false_and, Bool.not_false, Bool.true_and]; exact hrest
theorem spec_secs (h0 : layoutOk n l = 0) (hd : dead.length = l.length) (hs : (secs.length : Int) = n) (d : Nat) : ∀ (i : Nat), i + d = secs.length →
    Ev (fun k => spec_StateOk.l0 k secs (secs.length : Int) (i : Int) n l ok secs dead) (secsFrom l dead secs d i) := by
  induction d with
  | zero => intro i hi; refine Ev.step1 fun k => ?_; simp only [spec_StateOk.l0]; rw [if_neg (by omega)]; rfl
  | succ d ih =>
    intro i hi
    have hj := fun bad => spec_j2 (n := n) (ok := ok) h0 hd i (by omega) (rd_T50 secs (i : Int)) bad _ (ih (i + 1) (by omega))
    simp only [secsFrom, secOk]
    refine Ev.step (fun k => by simp only [spec_StateOk.l0, l1in_eq, Option.bind_some]; rw [if_pos (by omega), if_pos (by omega), if_pos (by omega)]) ?_
    have bad : ∀ {r : Bool}, secRange (rd_T50 secs (i : Int)) = false → Ev (fun k => spec_StateOk.j2 k (i : Int) secs (secs.length : Int) (i : Int) true n l ok secs dead (rd_T50 secs (i : Int)).f0 (rd_T50 secs (i : Int)).f1 (rd_T50 secs (i : Int)).f2 (rd_T50 secs (i : Int)).f3 (rd_T50 secs (i : Int)).f4) (secRange (rd_T50 secs (i : Int)) && decide ((rd_T50 secs (i : Int)).f0 = toldC l dead i (rd_T50 secs (i : Int))) && secRest (deadAt l dead i) (rd_T50 secs (i : Int)) && secsFrom l dead secs d (i + 1)) := by
      intro r h
      rw [h]
      exact hj true
    by_cases h1 : (decide (-1000000 ≤ (rd_T50 secs (i : Int)).f1) && decide ((rd_T50 secs (i : Int)).f1 ≤ 1000000)) = true
    · refine Ev.ite_pos h1 ?_
      by_cases h2 : (decide (-1 ≤ (rd_T50 secs (i : Int)).f4) && decide ((rd_T50 secs (i : Int)).f4 ≤ 1)) = true
      · refine Ev.ite_pos h2 (Ev.bind (specTold_ev n l dead (i : Int) (rd_T50 secs (i : Int)) h0 ⟨by omega, by omega⟩ hd) ?_)
        have hr : secRange (rd_T50 secs (i : Int)) = true := by
          simp only [secRange, Bool.and_eq_true, decide_eq_true_eq] at h1 h2 ⊢
          omega
        have hb := hj ((rd_T50 secs (i : Int)).f0 != toldC l dead (i : Int) (rd_T50 secs (i : Int)))
        have e : (!((rd_T50 secs (i : Int)).f0 != toldC l dead (i : Int) (rd_T50 secs (i : Int)))) = decide ((rd_T50 secs (i : Int)).f0 = toldC l dead (i : Int) (rd_T50 secs (i : Int))) := by
          by_cases h : (rd_T50 secs (i : Int)).f0 = toldC l dead (i : Int) (rd_T50 secs (i : Int)) <;> simp [h]
        rw [e] at hb
        rw [hr, Bool.true_and]
        exact hb
      · refine Ev.ite_neg h2 (bad (r := true) ?_)
        simp only [secRange, Bool.and_assoc]
        have h2' : (decide (-1 ≤ (rd_T50 secs (i : Int)).f4) && decide ((rd_T50 secs (i : Int)).f4 ≤ 1)) = false := by simpa using h2
        rw [h2']; simp
    · refine Ev.ite_neg h1 (bad (r := true) ?_)
      have h1' : (decide (-1000000 ≤ (rd_T50 secs (i : Int)).f1) && decide ((rd_T50 secs (i : Int)).f1 ≤ 1000000)) = false := by simpa using h1
      simp only [secRange]
      rw [h1']; rfl
theorem specStateOk_ev : Ev (fun k => spec_StateOk.f k n l ok secs dead) (stateOk n l ok secs dead) := by
  unfold spec_StateOk.f
  refine Ev.bind (specLayoutOk_ev n l) ?_
  have bad : stateOk n l ok secs dead = false → Ev (fun k => spec_StateOk.j0 k true n l ok secs dead) (stateOk n l ok secs dead) := by
    intro h
    rw [h]
    refine Ev.step1 fun k => ?_
    simp only [spec_StateOk.j0, if_true]
  by_cases h0 : layoutOk n l = 0
  · refine Ev.ite_pos h0 ?_
    by_cases h1 : ok = true
    · refine Ev.ite_pos h1 ?_
      by_cases h2 : (secs.length : Int) = n
      · refine Ev.ite_pos h2 ?_
        by_cases h3 : dead.length = l.length
        · have e : stateOk n l ok secs dead = secsFrom l dead secs secs.length 0 := by simp [stateOk, h0, h1, h2, h3]
          rw [e]
          refine Ev.step (fun k => ?_) (spec_secs (n := n) (ok := ok) h0 h3 h2 secs.length 0 (by omega))
          simp only [spec_StateOk.j0, h3]
          rw [if_neg (by simp)]
          rfl
        · have e : ((dead.length : Int) != (l.length : Int)) = true := by simp; omega
          rw [e]
          exact bad (by simp [stateOk, h3])
      · exact Ev.ite_neg h2 (bad (by simp [stateOk, h2]))
    · exact Ev.ite_neg h1 (bad (by simp [stateOk, h1]))
  · exact Ev.ite_neg h0 (bad (by simp [stateOk, h0]))
end
end Go.Proofs.Ytpdnabhpkdchjaa.P
namespace Go.Proofs.Ytpdnabhpkdchjaa.P
open Go.RowKit Go.Proofs.YtpdnabhpkdchjaaW.PrintWords Go.Proofs.YtpdnabhpkdchjaaW.PrintLast Go.Proofs.YtpdnabhpkdchjaaW.PrintMore
attribute [local go_sem] max2_int min2_int max_two min_two max_three min_three max_four min_four
set_option linter.unusedVariables false
set_option linter.unusedSimpArgs false
def laws_eqSection.f (a0_0 : Int) (a0_1 : Int) (a0_2 : Bool) (a0_3 : Bool) (a0_4 : Int) (a1_0 : Int) (a1_1 : Int) (a1_2 : Bool) (a1_3 : Bool) (a1_4 : Int) : Option (Bool) := if a0_0 = a1_0 then (if a0_1 = a1_1 then (if (a0_2 != a1_2) = true then (some false) else (if (a0_3 != a1_3) = true then (some false) else (if a0_4 = a1_4 then (some true) else (some false)))) else (some false)) else (some false)
set_option maxHeartbeats 8000000 in
set_option maxRecDepth 100000 in
theorem laws_eqSection.calls (a0_0 : Int) (a0_1 : Int) (a0_2 : Bool) (a0_3 : Bool) (a0_4 : Int) (a1_0 : Int) (a1_1 : Int) (a1_2 : Bool) (a1_3 : Bool) (a1_4 : Int) (r : Bool) (w : World) (h : laws_eqSection.f a0_0 a0_1 a0_2 a0_3 a0_4 a1_0 a1_1 a1_2 a1_3 a1_4 = some r) :
  Calls Try.prog 132 #[.agg #[.int .i64 a0_0, .int .i64 a0_1, .bool a0_2, .bool a0_3, .int .i64 a0_4], .agg #[.int .i64 a1_0, .int .i64 a1_1, .bool a1_2, .bool a1_3, .int .i64 a1_4]] w fun e w' => e = .returned (.bool r) ∧ Below w.heap.size w w' := by
 have hu50 := Try.underlying50
 have HB := Aside0.mk (Below.refl w.heap.size w)
 have H : (if a0_0 = a1_0 then (if a0_1 = a1_1 then (if (a0_2 != a1_2) = true then (some false) else (if (a0_3 != a1_3) = true then (some false) else (if a0_4 = a1_4 then (some true) else (some false)))) else (some false)) else (some false)) = some r := h
 clear h
 by_cases c3 : a0_0 = a1_0
 ·rw [if_pos c3] at H
  have c3b0 : (a0_0 == a1_0) = true := beq_iff_eq.mpr c3
  have c3b1 : (a0_0 != a1_0) = false := bne_eq_false_iff_eq.mpr c3
  clear c3
  by_cases c4 : a0_1 = a1_1
  ·rw [if_pos c4] at H
   have c4b0 : (a0_1 == a1_1) = true := beq_iff_eq.mpr c4
   have c4b1 : (a0_1 != a1_1) = false := bne_eq_false_iff_eq.mpr c4
   clear c4
   by_cases c5 : (a0_2 != a1_2) = true
   ·rw [if_pos c5] at H
    have c5b0 : (a0_2 != a1_2) = true := c5
    (try (have c5b1 : decide (a0_2 = a1_2) = false := by simpa using c5))
    (try (have c5b2 : (a0_2 == a1_2) = false := by simpa using c5))
    (try (have c5b3 : ¬ (a0_2 = a1_2) := by simpa using c5))
    clear c5
    obtain rfl := Option.some.inj H
    go_enter Try.func132, Try.ntmps132
    go_wp2_with (first | ((with_reducible refine gate_dst (N := 2) rfl ?_); refine box_event ?hg (N := 2) ?hd (cs := #[.int .i64 a0_0, .int .i64 a0_1, .bool a0_2, .bool a0_3, .int .i64 a0_4]) (t := 50) ?hr ?_; (case hd => rfl); (case hg => rfl); (case hr => first | (go_simp; done) | (go_simp; rfl)); intro gb483 hg w6 hbox hb; have n0_ := Aside0.mk (below_step (by repeat (first | (with_reducible first | exact HB.out | apply below_alloc | apply pw_below_drewN | apply below_drew1) | exact HB.out)) hb); have n1_ := Aside0.mk (hbox); have n2_ := Aside0.mk ((by rw [hg]; exact (below_size (by repeat (first | (with_reducible first | exact HB.out | apply below_alloc | apply pw_below_drewN | apply below_drew1) | exact HB.out))) : w.heap.size ≤ gb483)); have n3_ := Aside0.mk ((by rw [hg]; exact (below_size (by repeat (first | (with_reducible first | exact HB.out | apply below_alloc | apply pw_below_drewN | apply below_drew1) | exact HB.out))) : w.heap.size ≤ gb483)); clear HB; have HB := n0_; have BK483 := n1_; have GW483 := n2_; have GE483 := n3_; clear n0_ n1_ n2_ n3_; clear hb hbox hg) | ((with_reducible refine gate_dst (N := 3) rfl ?_); refine box_event ?hg (N := 3) ?hd (cs := #[.int .i64 a1_0, .int .i64 a1_1, .bool a1_2, .bool a1_3, .int .i64 a1_4]) (t := 50) ?hr ?_; (case hd => rfl); (case hg => rfl); (case hr => first | (go_simp; done) | (go_simp; rfl)); intro gb484 hg w7 hbox hb; have n0_ := Aside0.mk (blk_below (g := gb483) (o := .cells #[.int .i64 a0_0, .int .i64 a0_1, .bool a0_2, .bool a0_3, .int .i64 a0_4] 50 (0, 0)) (by (with_reducible repeat (first | refine blk_drewN ?_ _ | refine blk_drew ?_ | refine blk_alloc ?_ _)); exact BK483.out) hb); have n1_ := Aside0.mk (below_step (by repeat (first | (with_reducible first | exact HB.out | apply below_alloc | apply pw_below_drewN | apply below_drew1 | refine below_set ?_ GE483.out) | exact HB.out)) hb); have n2_ := Aside0.mk (hbox); have n3_ := Aside0.mk ((by rw [hg]; exact (below_size (by repeat (first | (with_reducible first | exact HB.out | apply below_alloc | apply pw_below_drewN | apply below_drew1 | refine below_set ?_ GE483.out) | exact HB.out))) : w.heap.size ≤ gb484)); have n4_ := Aside0.mk ((by rw [hg]; exact (below_size (by repeat (first | (with_reducible first | exact HB.out | apply below_alloc | apply pw_below_drewN | apply below_drew1 | refine below_set ?_ GE483.out) | exact HB.out))) : w.heap.size ≤ gb484)); have n5_ := Aside0.mk ((by rw [hg]; exact Nat.ne_of_lt (blk_lt (g := gb483) (o := .cells #[.int .i64 a0_0, .int .i64 a0_1, .bool a0_2, .bool a0_3, .int .i64 a0_4] 50 (0, 0)) (by (with_reducible repeat (first | refine blk_drewN ?_ _ | refine blk_drew ?_ | refine blk_alloc ?_ _)); exact BK483.out)) : gb483 ≠ gb484)); have n6_ := Aside0.mk ((by rw [hg]; exact Nat.ne_of_gt (blk_lt (g := gb483) (o := .cells #[.int .i64 a0_0, .int .i64 a0_1, .bool a0_2, .bool a0_3, .int .i64 a0_4] 50 (0, 0)) (by (with_reducible repeat (first | refine blk_drewN ?_ _ | refine blk_drew ?_ | refine blk_alloc ?_ _)); exact BK483.out)) : gb484 ≠ gb483)); clear BK483; clear HB; have BK483 := n0_; have HB := n1_; have BK484 := n2_; have GW484 := n3_; have GE484 := n4_; have NB483_484 := n5_; have NB484_483 := n6_; clear n0_ n1_ n2_ n3_ n4_ n5_ n6_; clear hb hbox hg; have hnb8 := NB483_484.out; have hnc8 := NB484_483.out; have hcz9_0 : w7.cell? ⟨gb483, 0, none⟩ = some (.int .i64 a0_0) := (blk_cell BK483.out 0).trans rfl; have hcz9_1 : w7.cell? ⟨gb483, 1, none⟩ = some (.int .i64 a0_1) := (blk_cell BK483.out 1).trans rfl; have hcz9_2 : w7.cell? ⟨gb483, 2, none⟩ = some (.bool a0_2) := (blk_cell BK483.out 2).trans rfl; have hcz9_3 : w7.cell? ⟨gb483, 3, none⟩ = some (.bool a0_3) := (blk_cell BK483.out 3).trans rfl; have hcz9_4 : w7.cell? ⟨gb483, 4, none⟩ = some (.int .i64 a0_4) := (blk_cell BK483.out 4).trans rfl; have hfz9_0 := blk_frozen BK483.out 0; have hfz9_1 := blk_frozen BK483.out 1; have hfz9_2 := blk_frozen BK483.out 2; have hfz9_3 := blk_frozen BK483.out 3; have hfz9_4 := blk_frozen BK483.out 4; have hcz10_0 : w7.cell? ⟨gb484, 0, none⟩ = some (.int .i64 a1_0) := (blk_cell BK484.out 0).trans rfl; have hcz10_1 : w7.cell? ⟨gb484, 1, none⟩ = some (.int .i64 a1_1) := (blk_cell BK484.out 1).trans rfl; have hcz10_2 : w7.cell? ⟨gb484, 2, none⟩ = some (.bool a1_2) := (blk_cell BK484.out 2).trans rfl; have hcz10_3 : w7.cell? ⟨gb484, 3, none⟩ = some (.bool a1_3) := (blk_cell BK484.out 3).trans rfl; have hcz10_4 : w7.cell? ⟨gb484, 4, none⟩ = some (.int .i64 a1_4) := (blk_cell BK484.out 4).trans rfl; have hfz10_0 := blk_frozen BK484.out 0; have hfz10_1 := blk_frozen BK484.out 1; have hfz10_2 := blk_frozen BK484.out 2; have hfz10_3 := blk_frozen BK484.out 3; have hfz10_4 := blk_frozen BK484.out 4))
    go_ret
    exact ⟨by first | rfl | (simp [errW_none, errW_some] <;> rfl) | (simp [*, errW_none, errW_some] <;> rfl), by repeat (first | (with_reducible first | exact HB.out | apply below_alloc | apply pw_below_drewN | apply below_drew1 | refine below_set ?_ GE483.out | refine below_set ?_ GE484.out) | exact HB.out)⟩
   ·rw [if_neg c5] at H
    have c5b0 : (a0_2 != a1_2) = false := by simpa using c5
    (try (have c5b1 : decide (a0_2 = a1_2) = true := by simpa using c5))
    (try (have c5b2 : (a0_2 == a1_2) = true := by simpa using c5))
    clear c5
    by_cases c11 : (a0_3 != a1_3) = true
    ·rw [if_pos c11] at H
     have c11b0 : (a0_3 != a1_3) = true := c11
     (try (have c11b1 : decide (a0_3 = a1_3) = false := by simpa using c11))
     (try (have c11b2 : (a0_3 == a1_3) = false := by simpa using c11))
     (try (have c11b3 : ¬ (a0_3 = a1_3) := by simpa using c11))
     clear c11
     obtain rfl := Option.some.inj H
     go_enter Try.func132, Try.ntmps132
     go_wp2_with (first | ((with_reducible refine gate_dst (N := 2) rfl ?_); refine box_event ?hg (N := 2) ?hd (cs := #[.int .i64 a0_0, .int .i64 a0_1, .bool a0_2, .bool a0_3, .int .i64 a0_4]) (t := 50) ?hr ?_; (case hd => rfl); (case hg => rfl); (case hr => first | (go_simp; done) | (go_simp; rfl)); intro gb483 hg w12 hbox hb; have n0_ := Aside0.mk (below_step (by repeat (first | (with_reducible first | exact HB.out | apply below_alloc | apply pw_below_drewN | apply below_drew1) | exact HB.out)) hb); have n1_ := Aside0.mk (hbox); have n2_ := Aside0.mk ((by rw [hg]; exact (below_size (by repeat (first | (with_reducible first | exact HB.out | apply below_alloc | apply pw_below_drewN | apply below_drew1) | exact HB.out))) : w.heap.size ≤ gb483)); have n3_ := Aside0.mk ((by rw [hg]; exact (below_size (by repeat (first | (with_reducible first | exact HB.out | apply below_alloc | apply pw_below_drewN | apply below_drew1) | exact HB.out))) : w.heap.size ≤ gb483)); clear HB; have HB := n0_; have BK483 := n1_; have GW483 := n2_; have GE483 := n3_; clear n0_ n1_ n2_ n3_; clear hb hbox hg) | ((with_reducible refine gate_dst (N := 3) rfl ?_); refine box_event ?hg (N := 3) ?hd (cs := #[.int .i64 a1_0, .int .i64 a1_1, .bool a1_2, .bool a1_3, .int .i64 a1_4]) (t := 50) ?hr ?_; (case hd => rfl); (case hg => rfl); (case hr => first | (go_simp; done) | (go_simp; rfl)); intro gb484 hg w13 hbox hb; have n0_ := Aside0.mk (blk_below (g := gb483) (o := .cells #[.int .i64 a0_0, .int .i64 a0_1, .bool a0_2, .bool a0_3, .int .i64 a0_4] 50 (0, 0)) (by (with_reducible repeat (first | refine blk_drewN ?_ _ | refine blk_drew ?_ | refine blk_alloc ?_ _)); exact BK483.out) hb); have n1_ := Aside0.mk (below_step (by repeat (first | (with_reducible first | exact HB.out | apply below_alloc | apply pw_below_drewN | apply below_drew1 | refine below_set ?_ GE483.out) | exact HB.out)) hb); have n2_ := Aside0.mk (hbox); have n3_ := Aside0.mk ((by rw [hg]; exact (below_size (by repeat (first | (with_reducible first | exact HB.out | apply below_alloc | apply pw_below_drewN | apply below_drew1 | refine below_set ?_ GE483.out) | exact HB.out))) : w.heap.size ≤ gb484)); have n4_ := Aside0.mk ((by rw [hg]; exact (below_size (by repeat (first | (with_reducible first | exact HB.out | apply below_alloc | apply pw_below_drewN | apply below_drew1 | refine below_set ?_ GE483.out) | exact HB.out))) : w.heap.size ≤ gb484)); have n5_ := Aside0.mk ((by rw [hg]; exact Nat.ne_of_lt (blk_lt (g := gb483) (o := .cells #[.int .i64 a0_0, .int .i64 a0_1, .bool a0_2, .bool a0_3, .int .i64 a0_4] 50 (0, 0)) (by (with_reducible repeat (first | refine blk_drewN ?_ _ | refine blk_drew ?_ | refine blk_alloc ?_ _)); exact BK483.out)) : gb483 ≠ gb484)); have n6_ := Aside0.mk ((by rw [hg]; exact Nat.ne_of_gt (blk_lt (g := gb483) (o := .cells #[.int .i64 a0_0, .int .i64 a0_1, .bool a0_2, .bool a0_3, .int .i64 a0_4] 50 (0, 0)) (by (with_reducible repeat (first | refine blk_drewN ?_ _ | refine blk_drew ?_ | refine blk_alloc ?_ _)); exact BK483.out)) : gb484 ≠ gb483)); clear BK483; clear HB; have BK483 := n0_; have HB := n1_; have BK484 := n2_; have GW484 := n3_; have GE484 := n4_; have NB483_484 := n5_; have NB484_483 := n6_; clear n0_ n1_ n2_ n3_ n4_ n5_ n6_; clear hb hbox hg; have hnb14 := NB483_484.out; have hnc14 := NB484_483.out; have hcz15_0 : w13.cell? ⟨gb483, 0, none⟩ = some (.int .i64 a0_0) := (blk_cell BK483.out 0).trans rfl; have hcz15_1 : w13.cell? ⟨gb483, 1, none⟩ = some (.int .i64 a0_1) := (blk_cell BK483.out 1).trans rfl; have hcz15_2 : w13.cell? ⟨gb483, 2, none⟩ = some (.bool a0_2) := (blk_cell BK483.out 2).trans rfl; have hcz15_3 : w13.cell? ⟨gb483, 3, none⟩ = some (.bool a0_3) := (blk_cell BK483.out 3).trans rfl; have hcz15_4 : w13.cell? ⟨gb483, 4, none⟩ = some (.int .i64 a0_4) := (blk_cell BK483.out 4).trans rfl; have hfz15_0 := blk_frozen BK483.out 0; have hfz15_1 := blk_frozen BK483.out 1; have hfz15_2 := blk_frozen BK483.out 2; have hfz15_3 := blk_frozen BK483.out 3; have hfz15_4 := blk_frozen BK483.out 4; have hcz16_0 : w13.cell? ⟨gb484, 0, none⟩ = some (.int .i64 a1_0) := (blk_cell BK484.out 0).trans rfl; have hcz16_1 : w13.cell? ⟨gb484, 1, none⟩ = some (.int .i64 a1_1) := (blk_cell BK484.out 1).trans rfl; have hcz16_2 : w13.cell? ⟨gb484, 2, none⟩ = some (.bool a1_2) := (blk_cell BK484.out 2).trans rfl; have hcz16_3 : w13.cell? ⟨gb484, 3, none⟩ = some (.bool a1_3) := (blk_cell BK484.out 3).trans rfl; have hcz16_4 : w13.cell? ⟨gb484, 4, none⟩ = some (.int .i64 a1_4) := (blk_cell BK484.out 4).trans rfl; have hfz16_0 := blk_frozen BK484.out 0; have hfz16_1 := blk_frozen BK484.out 1; have hfz16_2 := blk_frozen BK484.out 2; have hfz16_3 := blk_frozen BK484.out 3; have hfz16_4 := blk_frozen BK484.out 4))
     go_ret
     exact ⟨by first | rfl | (simp [errW_none, errW_some] <;> rfl) | (simp [*, errW_none, errW_some] <;> rfl), by repeat (first | (with_reducible first | exact HB.out | apply below_alloc | apply pw_below_drewN | apply below_drew1 | refine below_set ?_ GE483.out | refine below_set ?_ GE484.out) | exact HB.out)⟩
    ·rw [if_neg c11] at H
     have c11b0 : (a0_3 != a1_3) = false := by simpa using c11
     (try (have c11b1 : decide (a0_3 = a1_3) = true := by simpa using c11))
     (try (have c11b2 : (a0_3 == a1_3) = true := by simpa using c11))
     clear c11
     by_cases c17 : a0_4 = a1_4
     ·rw [if_pos c17] at H
      have c17b0 : (a0_4 == a1_4) = true := beq_iff_eq.mpr c17
      have c17b1 : (a0_4 != a1_4) = false := bne_eq_false_iff_eq.mpr c17
      clear c17
      obtain rfl := Option.some.inj H
      go_enter Try.func132, Try.ntmps132
      go_wp2_with (first | ((with_reducible refine gate_dst (N := 2) rfl ?_); refine box_event ?hg (N := 2) ?hd (cs := #[.int .i64 a0_0, .int .i64 a0_1, .bool a0_2, .bool a0_3, .int .i64 a0_4]) (t := 50) ?hr ?_; (case hd => rfl); (case hg => rfl); (case hr => first | (go_simp; done) | (go_simp; rfl)); intro gb483 hg w18 hbox hb; have n0_ := Aside0.mk (below_step (by repeat (first | (with_reducible first | exact HB.out | apply below_alloc | apply pw_below_drewN | apply below_drew1) | exact HB.out)) hb); have n1_ := Aside0.mk (hbox); have n2_ := Aside0.mk ((by rw [hg]; exact (below_size (by repeat (first | (with_reducible first | exact HB.out | apply below_alloc | apply pw_below_drewN | apply below_drew1) | exact HB.out))) : w.heap.size ≤ gb483)); have n3_ := Aside0.mk ((by rw [hg]; exact (below_size (by repeat (first | (with_reducible first | exact HB.out | apply below_alloc | apply pw_below_drewN | apply below_drew1) | exact HB.out))) : w.heap.size ≤ gb483)); clear HB; have HB := n0_; have BK483 := n1_; have GW483 := n2_; have GE483 := n3_; clear n0_ n1_ n2_ n3_; clear hb hbox hg) | ((with_reducible refine gate_dst (N := 3) rfl ?_); refine box_event ?hg (N := 3) ?hd (cs := #[.int .i64 a1_0, .int .i64 a1_1, .bool a1_2, .bool a1_3, .int .i64 a1_4]) (t := 50) ?hr ?_; (case hd => rfl); (case hg => rfl); (case hr => first | (go_simp; done) | (go_simp; rfl)); intro gb484 hg w19 hbox hb; have n0_ := Aside0.mk (blk_below (g := gb483) (o := .cells #[.int .i64 a0_0, .int .i64 a0_1, .bool a0_2, .bool a0_3, .int .i64 a0_4] 50 (0, 0)) (by (with_reducible repeat (first | refine blk_drewN ?_ _ | refine blk_drew ?_ | refine blk_alloc ?_ _)); exact BK483.out) hb); have n1_ := Aside0.mk (below_step (by repeat (first | (with_reducible first | exact HB.out | apply below_alloc | apply pw_below_drewN | apply below_drew1 | refine below_set ?_ GE483.out) | exact HB.out)) hb); have n2_ := Aside0.mk (hbox); have n3_ := Aside0.mk ((by rw [hg]; exact (below_size (by repeat (first | (with_reducible first | exact HB.out | apply below_alloc | apply pw_below_drewN | apply below_drew1 | refine below_set ?_ GE483.out) | exact HB.out))) : w.heap.size ≤ gb484)); have n4_ := Aside0.mk ((by rw [hg]; exact (below_size (by repeat (first | (with_reducible first | exact HB.out | apply below_alloc | apply pw_below_drewN | apply below_drew1 | refine below_set ?_ GE483.out) | exact HB.out))) : w.heap.size ≤ gb484)); have n5_ := Aside0.mk ((by rw [hg]; exact Nat.ne_of_lt (blk_lt (g := gb483) (o := .cells #[.int .i64 a0_0, .int .i64 a0_1, .bool a0_2, .bool a0_3, .int .i64 a0_4] 50 (0, 0)) (by (with_reducible repeat (first | refine blk_drewN ?_ _ | refine blk_drew ?_ | refine blk_alloc ?_ _)); exact BK483.out)) : gb483 ≠ gb484)); have n6_ := Aside0.mk ((by rw [hg]; exact Nat.ne_of_gt (blk_lt (g := gb483) (o := .cells #[.int .i64 a0_0, .int .i64 a0_1, .bool a0_2, .bool a0_3, .int .i64 a0_4] 50 (0, 0)) (by (with_reducible repeat (first | refine blk_drewN ?_ _ | refine blk_drew ?_ | refine blk_alloc ?_ _)); exact BK483.out)) : gb484 ≠ gb483)); clear BK483; clear HB; have BK483 := n0_; have HB := n1_; have BK484 := n2_; have GW484 := n3_; have GE484 := n4_; have NB483_484 := n5_; have NB484_483 := n6_; clear n0_ n1_ n2_ n3_ n4_ n5_ n6_; clear hb hbox hg; have hnb20 := NB483_484.out; have hnc20 := NB484_483.out; have hcz21_0 : w19.cell? ⟨gb483, 0, none⟩ = some (.int .i64 a0_0) := (blk_cell BK483.out 0).trans rfl; have hcz21_1 : w19.cell? ⟨gb483, 1, none⟩ = some (.int .i64 a0_1) := (blk_cell BK483.out 1).trans rfl; have hcz21_2 : w19.cell? ⟨gb483, 2, none⟩ = some (.bool a0_2) := (blk_cell BK483.out 2).trans rfl; have hcz21_3 : w19.cell? ⟨gb483, 3, none⟩ = some (.bool a0_3) := (blk_cell BK483.out 3).trans rfl; have hcz21_4 : w19.cell? ⟨gb483, 4, none⟩ = some (.int .i64 a0_4) := (blk_cell BK483.out 4).trans rfl; have hfz21_0 := blk_frozen BK483.out 0; have hfz21_1 := blk_frozen BK483.out 1; have hfz21_2 := blk_frozen BK483.out 2; have hfz21_3 := blk_frozen BK483.out 3; have hfz21_4 := blk_frozen BK483.out 4; have hcz22_0 : w19.cell? ⟨gb484, 0, none⟩ = some (.int .i64 a1_0) := (blk_cell BK484.out 0).trans rfl; have hcz22_1 : w19.cell? ⟨gb484, 1, none⟩ = some (.int .i64 a1_1) := (blk_cell BK484.out 1).trans rfl; have hcz22_2 : w19.cell? ⟨gb484, 2, none⟩ = some (.bool a1_2) := (blk_cell BK484.out 2).trans rfl; have hcz22_3 : w19.cell? ⟨gb484, 3, none⟩ = some (.bool a1_3) := (blk_cell BK484.out 3).trans rfl; have hcz22_4 : w19.cell? ⟨gb484, 4, none⟩ = some (.int .i64 a1_4) := (blk_cell BK484.out 4).trans rfl; have hfz22_0 := blk_frozen BK484.out 0; have hfz22_1 := blk_frozen BK484.out 1; have hfz22_2 := blk_frozen BK484.out 2; have hfz22_3 := blk_frozen BK484.out 3; have hfz22_4 := blk_frozen BK484.out 4))
      go_ret
      exact ⟨by first | rfl | (simp [errW_none, errW_some] <;> rfl) | (simp [*, errW_none, errW_some] <;> rfl), by repeat (first | (with_reducible first | exact HB.out | apply below_alloc | apply pw_below_drewN | apply below_drew1 | refine below_set ?_ GE483.out | refine below_set ?_ GE484.out) | exact HB.out)⟩
     ·rw [if_neg c17] at H
      have c17b0 : (a0_4 == a1_4) = false := beq_eq_false_iff_ne.mpr c17
      have c17b1 : (a0_4 != a1_4) = true := bne_iff_ne.mpr c17
      obtain rfl := Option.some.inj H
      go_enter Try.func132, Try.ntmps132
      go_wp2_with (first | ((with_reducible refine gate_dst (N := 2) rfl ?_); refine box_event ?hg (N := 2) ?hd (cs := #[.int .i64 a0_0, .int .i64 a0_1, .bool a0_2, .bool a0_3, .int .i64 a0_4]) (t := 50) ?hr ?_; (case hd => rfl); (case hg => rfl); (case hr => first | (go_simp; done) | (go_simp; rfl)); intro gb483 hg w23 hbox hb; have n0_ := Aside0.mk (below_step (by repeat (first | (with_reducible first | exact HB.out | apply below_alloc | apply pw_below_drewN | apply below_drew1) | exact HB.out)) hb); have n1_ := Aside0.mk (hbox); have n2_ := Aside0.mk ((by rw [hg]; exact (below_size (by repeat (first | (with_reducible first | exact HB.out | apply below_alloc | apply pw_below_drewN | apply below_drew1) | exact HB.out))) : w.heap.size ≤ gb483)); have n3_ := Aside0.mk ((by rw [hg]; exact (below_size (by repeat (first | (with_reducible first | exact HB.out | apply below_alloc | apply pw_below_drewN | apply below_drew1) | exact HB.out))) : w.heap.size ≤ gb483)); clear HB; have HB := n0_; have BK483 := n1_; have GW483 := n2_; have GE483 := n3_; clear n0_ n1_ n2_ n3_; clear hb hbox hg) | ((with_reducible refine gate_dst (N := 3) rfl ?_); refine box_event ?hg (N := 3) ?hd (cs := #[.int .i64 a1_0, .int .i64 a1_1, .bool a1_2, .bool a1_3, .int .i64 a1_4]) (t := 50) ?hr ?_; (case hd => rfl); (case hg => rfl); (case hr => first | (go_simp; done) | (go_simp; rfl)); intro gb484 hg w24 hbox hb; have n0_ := Aside0.mk (blk_below (g := gb483) (o := .cells #[.int .i64 a0_0, .int .i64 a0_1, .bool a0_2, .bool a0_3, .int .i64 a0_4] 50 (0, 0)) (by (with_reducible repeat (first | refine blk_drewN ?_ _ | refine blk_drew ?_ | refine blk_alloc ?_ _)); exact BK483.out) hb); have n1_ := Aside0.mk (below_step (by repeat (first | (with_reducible first | exact HB.out | apply below_alloc | apply pw_below_drewN | apply below_drew1 | refine below_set ?_ GE483.out) | exact HB.out)) hb); have n2_ := Aside0.mk (hbox); have n3_ := Aside0.mk ((by rw [hg]; exact (below_size (by repeat (first | (with_reducible first | exact HB.out | apply below_alloc | apply pw_below_drewN | apply below_drew1 | refine below_set ?_ GE483.out) | exact HB.out))) : w.heap.size ≤ gb484)); have n4_ := Aside0.mk ((by rw [hg]; exact (below_size (by repeat (first | (with_reducible first | exact HB.out | apply below_alloc | apply pw_below_drewN | apply below_drew1 | refine below_set ?_ GE483.out) | exact HB.out))) : w.heap.size ≤ gb484)); have n5_ := Aside0.mk ((by rw [hg]; exact Nat.ne_of_lt (blk_lt (g := gb483) (o := .cells #[.int .i64 a0_0, .int .i64 a0_1, .bool a0_2, .bool a0_3, .int .i64 a0_4] 50 (0, 0)) (by (with_reducible repeat (first | refine blk_drewN ?_ _ | refine blk_drew ?_ | refine blk_alloc ?_ _)); exact BK483.out)) : gb483 ≠ gb484)); have n6_ := Aside0.mk ((by rw [hg]; exact Nat.ne_of_gt (blk_lt (g := gb483) (o := .cells #[.int .i64 a0_0, .int .i64 a0_1, .bool a0_2, .bool a0_3, .int .i64 a0_4] 50 (0, 0)) (by (with_reducible repeat (first | refine blk_drewN ?_ _ | refine blk_drew ?_ | refine blk_alloc ?_ _)); exact BK483.out)) : gb484 ≠ gb483)); clear BK483; clear HB; have BK483 := n0_; have HB := n1_; have BK484 := n2_; have GW484 := n3_; have GE484 := n4_; have NB483_484 := n5_; have NB484_483 := n6_; clear n0_ n1_ n2_ n3_ n4_ n5_ n6_; clear hb hbox hg; have hnb25 := NB483_484.out; have hnc25 := NB484_483.out; have hcz26_0 : w24.cell? ⟨gb483, 0, none⟩ = some (.int .i64 a0_0) := (blk_cell BK483.out 0).trans rfl; have hcz26_1 : w24.cell? ⟨gb483, 1, none⟩ = some (.int .i64 a0_1) := (blk_cell BK483.out 1).trans rfl; have hcz26_2 : w24.cell? ⟨gb483, 2, none⟩ = some (.bool a0_2) := (blk_cell BK483.out 2).trans rfl; have hcz26_3 : w24.cell? ⟨gb483, 3, none⟩ = some (.bool a0_3) := (blk_cell BK483.out 3).trans rfl; have hcz26_4 : w24.cell? ⟨gb483, 4, none⟩ = some (.int .i64 a0_4) := (blk_cell BK483.out 4).trans rfl; have hfz26_0 := blk_frozen BK483.out 0; have hfz26_1 := blk_frozen BK483.out 1; have hfz26_2 := blk_frozen BK483.out 2; have hfz26_3 := blk_frozen BK483.out 3; have hfz26_4 := blk_frozen BK483.out 4; have hcz27_0 : w24.cell? ⟨gb484, 0, none⟩ = some (.int .i64 a1_0) := (blk_cell BK484.out 0).trans rfl; have hcz27_1 : w24.cell? ⟨gb484, 1, none⟩ = some (.int .i64 a1_1) := (blk_cell BK484.out 1).trans rfl; have hcz27_2 : w24.cell? ⟨gb484, 2, none⟩ = some (.bool a1_2) := (blk_cell BK484.out 2).trans rfl; have hcz27_3 : w24.cell? ⟨gb484, 3, none⟩ = some (.bool a1_3) := (blk_cell BK484.out 3).trans rfl; have hcz27_4 : w24.cell? ⟨gb484, 4, none⟩ = some (.int .i64 a1_4) := (blk_cell BK484.out 4).trans rfl; have hfz27_0 := blk_frozen BK484.out 0; have hfz27_1 := blk_frozen BK484.out 1; have hfz27_2 := blk_frozen BK484.out 2; have hfz27_3 := blk_frozen BK484.out 3; have hfz27_4 := blk_frozen BK484.out 4))
      go_ret
      exact ⟨by first | rfl | (simp [errW_none, errW_some] <;> rfl) | (simp [*, errW_none, errW_some] <;> rfl), by repeat (first | (with_reducible first | exact HB.out | apply below_alloc | apply pw_below_drewN | apply below_drew1 | refine below_set ?_ GE483.out | refine below_set ?_ GE484.out) | exact HB.out)⟩
  ·rw [if_neg c4] at H
   have c4b0 : (a0_1 == a1_1) = false := beq_eq_false_iff_ne.mpr c4
   have c4b1 : (a0_1 != a1_1) = true := bne_iff_ne.mpr c4
   obtain rfl := Option.some.inj H
   go_enter Try.func132, Try.ntmps132
   go_wp2_with (first | ((with_reducible refine gate_dst (N := 2) rfl ?_); refine box_event ?hg (N := 2) ?hd (cs := #[.int .i64 a0_0, .int .i64 a0_1, .bool a0_2, .bool a0_3, .int .i64 a0_4]) (t := 50) ?hr ?_; (case hd => rfl); (case hg => rfl); (case hr => first | (go_simp; done) | (go_simp; rfl)); intro gb483 hg w28 hbox hb; have n0_ := Aside0.mk (below_step (by repeat (first | (with_reducible first | exact HB.out | apply below_alloc | apply pw_below_drewN | apply below_drew1) | exact HB.out)) hb); have n1_ := Aside0.mk (hbox); have n2_ := Aside0.mk ((by rw [hg]; exact (below_size (by repeat (first | (with_reducible first | exact HB.out | apply below_alloc | apply pw_below_drewN | apply below_drew1) | exact HB.out))) : w.heap.size ≤ gb483)); have n3_ := Aside0.mk ((by rw [hg]; exact (below_size (by repeat (first | (with_reducible first | exact HB.out | apply below_alloc | apply pw_below_drewN | apply below_drew1) | exact HB.out))) : w.heap.size ≤ gb483)); clear HB; have HB := n0_; have BK483 := n1_; have GW483 := n2_; have GE483 := n3_; clear n0_ n1_ n2_ n3_; clear hb hbox hg) | ((with_reducible refine gate_dst (N := 3) rfl ?_); refine box_event ?hg (N := 3) ?hd (cs := #[.int .i64 a1_0, .int .i64 a1_1, .bool a1_2, .bool a1_3, .int .i64 a1_4]) (t := 50) ?hr ?_; (case hd => rfl); (case hg => rfl); (case hr => first | (go_simp; done) | (go_simp; rfl)); intro gb484 hg w29 hbox hb; have n0_ := Aside0.mk (blk_below (g := gb483) (o := .cells #[.int .i64 a0_0, .int .i64 a0_1, .bool a0_2, .bool a0_3, .int .i64 a0_4] 50 (0, 0)) (by (with_reducible repeat (first | refine blk_drewN ?_ _ | refine blk_drew ?_ | refine blk_alloc ?_ _)); exact BK483.out) hb); have n1_ := Aside0.mk (below_step (by repeat (first | (with_reducible first | exact HB.out | apply below_alloc | apply pw_below_drewN | apply below_drew1 | refine below_set ?_ GE483.out) | exact HB.out)) hb); have n2_ := Aside0.mk (hbox); have n3_ := Aside0.mk ((by rw [hg]; exact (below_size (by repeat (first | (with_reducible first | exact HB.out | apply below_alloc | apply pw_below_drewN | apply below_drew1 | refine below_set ?_ GE483.out) | exact HB.out))) : w.heap.size ≤ gb484)); have n4_ := Aside0.mk ((by rw [hg]; exact (below_size (by repeat (first | (with_reducible first | exact HB.out | apply below_alloc | apply pw_below_drewN | apply below_drew1 | refine below_set ?_ GE483.out) | exact HB.out))) : w.heap.size ≤ gb484)); have n5_ := Aside0.mk ((by rw [hg]; exact Nat.ne_of_lt (blk_lt (g := gb483) (o := .cells #[.int .i64 a0_0, .int .i64 a0_1, .bool a0_2, .bool a0_3, .int .i64 a0_4] 50 (0, 0)) (by (with_reducible repeat (first | refine blk_drewN ?_ _ | refine blk_drew ?_ | refine blk_alloc ?_ _)); exact BK483.out)) : gb483 ≠ gb484)); have n6_ := Aside0.mk ((by rw [hg]; exact Nat.ne_of_gt (blk_lt (g := gb483) (o := .cells #[.int .i64 a0_0, .int .i64 a0_1, .bool a0_2, .bool a0_3, .int .i64 a0_4] 50 (0, 0)) (by (with_reducible repeat (first | refine blk_drewN ?_ _ | refine blk_drew ?_ | refine blk_alloc ?_ _)); exact BK483.out)) : gb484 ≠ gb483)); clear BK483; clear HB; have BK483 := n0_; have HB := n1_; have BK484 := n2_; have GW484 := n3_; have GE484 := n4_; have NB483_484 := n5_; have NB484_483 := n6_; clear n0_ n1_ n2_ n3_ n4_ n5_ n6_; clear hb hbox hg; have hnb30 := NB483_484.out; have hnc30 := NB484_483.out; have hcz31_0 : w29.cell? ⟨gb483, 0, none⟩ = some (.int .i64 a0_0) := (blk_cell BK483.out 0).trans rfl; have hcz31_1 : w29.cell? ⟨gb483, 1, none⟩ = some (.int .i64 a0_1) := (blk_cell BK483.out 1).trans rfl; have hcz31_2 : w29.cell? ⟨gb483, 2, none⟩ = some (.bool a0_2) := (blk_cell BK483.out 2).trans rfl; have hcz31_3 : w29.cell? ⟨gb483, 3, none⟩ = some (.bool a0_3) := (blk_cell BK483.out 3).trans rfl; have hcz31_4 : w29.cell? ⟨gb483, 4, none⟩ = some (.int .i64 a0_4) := (blk_cell BK483.out 4).trans rfl; have hfz31_0 := blk_frozen BK483.out 0; have hfz31_1 := blk_frozen BK483.out 1; have hfz31_2 := blk_frozen BK483.out 2; have hfz31_3 := blk_frozen BK483.out 3; have hfz31_4 := blk_frozen BK483.out 4; have hcz32_0 : w29.cell? ⟨gb484, 0, none⟩ = some (.int .i64 a1_0) := (blk_cell BK484.out 0).trans rfl; have hcz32_1 : w29.cell? ⟨gb484, 1, none⟩ = some (.int .i64 a1_1) := (blk_cell BK484.out 1).trans rfl; have hcz32_2 : w29.cell? ⟨gb484, 2, none⟩ = some (.bool a1_2) := (blk_cell BK484.out 2).trans rfl; have hcz32_3 : w29.cell? ⟨gb484, 3, none⟩ = some (.bool a1_3) := (blk_cell BK484.out 3).trans rfl; have hcz32_4 : w29.cell? ⟨gb484, 4, none⟩ = some (.int .i64 a1_4) := (blk_cell BK484.out 4).trans rfl; have hfz32_0 := blk_frozen BK484.out 0; have hfz32_1 := blk_frozen BK484.out 1; have hfz32_2 := blk_frozen BK484.out 2; have hfz32_3 := blk_frozen BK484.out 3; have hfz32_4 := blk_frozen BK484.out 4))
   go_ret
   exact ⟨by first | rfl | (simp [errW_none, errW_some] <;> rfl) | (simp [*, errW_none, errW_some] <;> rfl), by repeat (first | (with_reducible first | exact HB.out | apply below_alloc | apply pw_below_drewN | apply below_drew1 | refine below_set ?_ GE483.out | refine below_set ?_ GE484.out) | exact HB.out)⟩
 ·rw [if_neg c3] at H
  have c3b0 : (a0_0 == a1_0) = false := beq_eq_false_iff_ne.mpr c3
  have c3b1 : (a0_0 != a1_0) = true := bne_iff_ne.mpr c3
  obtain rfl := Option.some.inj H
  go_enter Try.func132, Try.ntmps132
  go_wp2_with (first | ((with_reducible refine gate_dst (N := 2) rfl ?_); refine box_event ?hg (N := 2) ?hd (cs := #[.int .i64 a0_0, .int .i64 a0_1, .bool a0_2, .bool a0_3, .int .i64 a0_4]) (t := 50) ?hr ?_; (case hd => rfl); (case hg => rfl); (case hr => first | (go_simp; done) | (go_simp; rfl)); intro gb483 hg w33 hbox hb; have n0_ := Aside0.mk (below_step (by repeat (first | (with_reducible first | exact HB.out | apply below_alloc | apply pw_below_drewN | apply below_drew1) | exact HB.out)) hb); have n1_ := Aside0.mk (hbox); have n2_ := Aside0.mk ((by rw [hg]; exact (below_size (by repeat (first | (with_reducible first | exact HB.out | apply below_alloc | apply pw_below_drewN | apply below_drew1) | exact HB.out))) : w.heap.size ≤ gb483)); have n3_ := Aside0.mk ((by rw [hg]; exact (below_size (by repeat (first | (with_reducible first | exact HB.out | apply below_alloc | apply pw_below_drewN | apply below_drew1) | exact HB.out))) : w.heap.size ≤ gb483)); clear HB; have HB := n0_; have BK483 := n1_; have GW483 := n2_; have GE483 := n3_; clear n0_ n1_ n2_ n3_; clear hb hbox hg) | ((with_reducible refine gate_dst (N := 3) rfl ?_); refine box_event ?hg (N := 3) ?hd (cs := #[.int .i64 a1_0, .int .i64 a1_1, .bool a1_2, .bool a1_3, .int .i64 a1_4]) (t := 50) ?hr ?_; (case hd => rfl); (case hg => rfl); (case hr => first | (go_simp; done) | (go_simp; rfl)); intro gb484 hg w34 hbox hb; have n0_ := Aside0.mk (blk_below (g := gb483) (o := .cells #[.int .i64 a0_0, .int .i64 a0_1, .bool a0_2, .bool a0_3, .int .i64 a0_4] 50 (0, 0)) (by (with_reducible repeat (first | refine blk_drewN ?_ _ | refine blk_drew ?_ | refine blk_alloc ?_ _)); exact BK483.out) hb); have n1_ := Aside0.mk (below_step (by repeat (first | (with_reducible first | exact HB.out | apply below_alloc | apply pw_below_drewN | apply below_drew1 | refine below_set ?_ GE483.out) | exact HB.out)) hb); have n2_ := Aside0.mk (hbox); have n3_ := Aside0.mk ((by rw [hg]; exact (below_size (by repeat (first | (with_reducible first | exact HB.out | apply below_alloc | apply pw_below_drewN | apply below_drew1 | refine below_set ?_ GE483.out) | exact HB.out))) : w.heap.size ≤ gb484)); have n4_ := Aside0.mk ((by rw [hg]; exact (below_size (by repeat (first | (with_reducible first | exact HB.out | apply below_alloc | apply pw_below_drewN | apply below_drew1 | refine below_set ?_ GE483.out) | exact HB.out))) : w.heap.size ≤ gb484)); have n5_ := Aside0.mk ((by rw [hg]; exact Nat.ne_of_lt (blk_lt (g := gb483) (o := .cells #[.int .i64 a0_0, .int .i64 a0_1, .bool a0_2, .bool a0_3, .int .i64 a0_4] 50 (0, 0)) (by (with_reducible repeat (first | refine blk_drewN ?_ _ | refine blk_drew ?_ | refine blk_alloc ?_ _)); exact BK483.out)) : gb483 ≠ gb484)); have n6_ := Aside0.mk ((by rw [hg]; exact Nat.ne_of_gt (blk_lt (g := gb483) (o := .cells #[.int .i64 a0_0, .int .i64 a0_1, .bool a0_2, .bool a0_3, .int .i64 a0_4] 50 (0, 0)) (by (with_reducible repeat (first | refine blk_drewN ?_ _ | refine blk_drew ?_ | refine blk_alloc ?_ _)); exact BK483.out)) : gb484 ≠ gb483)); clear BK483; clear HB; have BK483 := n0_; have HB := n1_; have BK484 := n2_; have GW484 := n3_; have GE484 := n4_; have NB483_484 := n5_; have NB484_483 := n6_; clear n0_ n1_ n2_ n3_ n4_ n5_ n6_; clear hb hbox hg; have hnb35 := NB483_484.out; have hnc35 := NB484_483.out; have hcz36_0 : w34.cell? ⟨gb483, 0, none⟩ = some (.int .i64 a0_0) := (blk_cell BK483.out 0).trans rfl; have hcz36_1 : w34.cell? ⟨gb483, 1, none⟩ = some (.int .i64 a0_1) := (blk_cell BK483.out 1).trans rfl; have hcz36_2 : w34.cell? ⟨gb483, 2, none⟩ = some (.bool a0_2) := (blk_cell BK483.out 2).trans rfl; have hcz36_3 : w34.cell? ⟨gb483, 3, none⟩ = some (.bool a0_3) := (blk_cell BK483.out 3).trans rfl; have hcz36_4 : w34.cell? ⟨gb483, 4, none⟩ = some (.int .i64 a0_4) := (blk_cell BK483.out 4).trans rfl; have hfz36_0 := blk_frozen BK483.out 0; have hfz36_1 := blk_frozen BK483.out 1; have hfz36_2 := blk_frozen BK483.out 2; have hfz36_3 := blk_frozen BK483.out 3; have hfz36_4 := blk_frozen BK483.out 4; have hcz37_0 : w34.cell? ⟨gb484, 0, none⟩ = some (.int .i64 a1_0) := (blk_cell BK484.out 0).trans rfl; have hcz37_1 : w34.cell? ⟨gb484, 1, none⟩ = some (.int .i64 a1_1) := (blk_cell BK484.out 1).trans rfl; have hcz37_2 : w34.cell? ⟨gb484, 2, none⟩ = some (.bool a1_2) := (blk_cell BK484.out 2).trans rfl; have hcz37_3 : w34.cell? ⟨gb484, 3, none⟩ = some (.bool a1_3) := (blk_cell BK484.out 3).trans rfl; have hcz37_4 : w34.cell? ⟨gb484, 4, none⟩ = some (.int .i64 a1_4) := (blk_cell BK484.out 4).trans rfl; have hfz37_0 := blk_frozen BK484.out 0; have hfz37_1 := blk_frozen BK484.out 1; have hfz37_2 := blk_frozen BK484.out 2; have hfz37_3 := blk_frozen BK484.out 3; have hfz37_4 := blk_frozen BK484.out 4))
  go_ret
  exact ⟨by first | rfl | (simp [errW_none, errW_some] <;> rfl) | (simp [*, errW_none, errW_some] <;> rfl), by repeat (first | (with_reducible first | exact HB.out | apply below_alloc | apply pw_below_drewN | apply below_drew1 | refine below_set ?_ GE483.out | refine below_set ?_ GE484.out) | exact HB.out)⟩
end Go.Proofs.Ytpdnabhpkdchjaa.P
