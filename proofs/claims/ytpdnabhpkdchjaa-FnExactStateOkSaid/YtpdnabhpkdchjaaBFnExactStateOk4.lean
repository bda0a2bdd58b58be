/- The statement FnExactStateOk holds of the given program, for every argument; there are no conditions. (Part 4 of 6.) -/
import Derived.Test.YtpdnabhpkdchjaaBFnExactStateOk3
namespace Go.Proofs.Ytpdnabhpkdchjaa.P
open Go.RowKit Go.Proofs.YtpdnabhpkdchjaaW.PrintWords Go.Proofs.YtpdnabhpkdchjaaW.PrintLast Go.Proofs.YtpdnabhpkdchjaaW.PrintMore
attribute [local go_sem] max2_int min2_int max_two min_two max_three min_three max_four min_four
set_option linter.unusedVariables false
set_option linter.unusedSimpArgs false
mutual
def impl_StateOk.j0 : Nat → Bool → Int → List (S88) → Bool → List (S50) → List Bool → Option (Bool)
 | 0, _, _, _, _, _, _ => none
 | k + 1, x31, x392000, x392001, x393000, x393001, x393002 => if x31 = true then (some false) else (impl_StateOk.l0 k x393001 (x393001.length : Int) 0 x392000 x392001 x393000 x393001 x393002)
def impl_StateOk.l0 : Nat → List (S50) → Int → Int → Int → List (S88) → Bool → List (S50) → List Bool → Option (Bool)
 | 0, _, _, _, _, _, _, _, _ => none
 | k + 1, x33, x34, x35, x392000, x392001, x393000, x393001, x393002 => if x35 < x34 then (if 0 ≤ x35 then (if x35 < (x33.length : Int) then (if ((rd_T50 x33 x35).f1) < (-1000000) then (impl_StateOk.j2 k x35 x33 x34 x35 true x392000 x392001 x393000 x393001 x393002 ((rd_T50 x33 x35).f0) ((rd_T50 x33 x35).f1) ((rd_T50 x33 x35).f2) ((rd_T50 x33 x35).f3) ((rd_T50 x33 x35).f4)) else (if ((rd_T50 x33 x35).f1) > 1000000 then (impl_StateOk.j2 k x35 x33 x34 x35 true x392000 x392001 x393000 x393001 x393002 ((rd_T50 x33 x35).f0) ((rd_T50 x33 x35).f1) ((rd_T50 x33 x35).f2) ((rd_T50 x33 x35).f3) ((rd_T50 x33 x35).f4)) else (if ((rd_T50 x33 x35).f4) < (-1) then (impl_StateOk.j2 k x35 x33 x34 x35 true x392000 x392001 x393000 x393001 x393002 ((rd_T50 x33 x35).f0) ((rd_T50 x33 x35).f1) ((rd_T50 x33 x35).f2) ((rd_T50 x33 x35).f3) ((rd_T50 x33 x35).f4)) else (if ((rd_T50 x33 x35).f4) > 1 then (impl_StateOk.j2 k x35 x33 x34 x35 true x392000 x392001 x393000 x393001 x393002 ((rd_T50 x33 x35).f0) ((rd_T50 x33 x35).f1) ((rd_T50 x33 x35).f2) ((rd_T50 x33 x35).f3) ((rd_T50 x33 x35).f4)) else ((impl_told.f k x392000 x392001 x393000 x393001 x393002 x35).bind fun t396 => (impl_StateOk.j2 k x35 x33 x34 x35 (((rd_T50 x33 x35).f0) != t396) x392000 x392001 x393000 x393001 x393002 ((rd_T50 x33 x35).f0) ((rd_T50 x33 x35).f1) ((rd_T50 x33 x35).f2) ((rd_T50 x33 x35).f3) ((rd_T50 x33 x35).f4))))))) else (none)) else (none)) else (some true)
def impl_StateOk.j2 : Nat → Int → List (S50) → Int → Int → Bool → Int → List (S88) → Bool → List (S50) → List Bool → Int → Int → Bool → Bool → Int → Option (Bool)
 | 0, _, _, _, _, _, _, _, _, _, _, _, _, _, _, _ => none
 | k + 1, x5, x33, x34, x35, x66, x392000, x392001, x393000, x393001, x393002, x396000, x396001, x396002, x396003, x396004 => if x66 = true then (some false) else (if x396001 < 0 then (if x396002 = true then (if x396003 = true then (if x396001 = 0 then (if x396004 = (-1) then (impl_StateOk.l0 k x33 x34 (wrap64 (x35 + 1)) x392000 x392001 x393000 x393001 x393002) else (impl_StateOk.l0 k x33 x34 (wrap64 (x35 + 1)) x392000 x392001 x393000 x393001 x393002)) else (impl_StateOk.l0 k x33 x34 (wrap64 (x35 + 1)) x392000 x392001 x393000 x393001 x393002)) else (impl_StateOk.l0 k x33 x34 (wrap64 (x35 + 1)) x392000 x392001 x393000 x393001 x393002)) else (some false)) else ((impl_dead.f k x392000 x392001 x393000 x393001 x393002 x5).bind fun t397 => (if t397 = true then (if x396002 = true then (if x396003 = true then (if x396001 = 0 then (if x396004 = (-1) then (impl_StateOk.l0 k x33 x34 (wrap64 (x35 + 1)) x392000 x392001 x393000 x393001 x393002) else (impl_StateOk.l0 k x33 x34 (wrap64 (x35 + 1)) x392000 x392001 x393000 x393001 x393002)) else (impl_StateOk.l0 k x33 x34 (wrap64 (x35 + 1)) x392000 x392001 x393000 x393001 x393002)) else (impl_StateOk.l0 k x33 x34 (wrap64 (x35 + 1)) x392000 x392001 x393000 x393001 x393002)) else (some false)) else (if x396003 = true then (if x396001 = 0 then (if x396004 = (-1) then (if x396002 = true then (impl_StateOk.l0 k x33 x34 (wrap64 (x35 + 1)) x392000 x392001 x393000 x393001 x393002) else (some false)) else (impl_StateOk.l0 k x33 x34 (wrap64 (x35 + 1)) x392000 x392001 x393000 x393001 x393002)) else (impl_StateOk.l0 k x33 x34 (wrap64 (x35 + 1)) x392000 x392001 x393000 x393001 x393002)) else (impl_StateOk.l0 k x33 x34 (wrap64 (x35 + 1)) x392000 x392001 x393000 x393001 x393002)))))
end
def impl_StateOk.f (k : Nat) (a0_0 : Int) (l0_1 : List (S88)) (a1_0 : Bool) (l1_1 : List (S50)) (l1_2 : List Bool) : Option (Bool) := (impl_LayoutOk.f a0_0 l0_1).bind fun t393 => (if t393 = 0 then (if a1_0 = true then (if (l1_1.length : Int) = a0_0 then (impl_StateOk.j0 k ((l1_2.length : Int) != (l0_1.length : Int)) a0_0 l0_1 a1_0 l1_1 l1_2) else (impl_StateOk.j0 k true a0_0 l0_1 a1_0 l1_1 l1_2)) else (impl_StateOk.j0 k true a0_0 l0_1 a1_0 l1_1 l1_2)) else (impl_StateOk.j0 k true a0_0 l0_1 a1_0 l1_1 l1_2))
def impl_StateOk.T6 : Bool × List (List Nat × List Nat) := (true, [([], []), ([0], [0]), ([1], [1]), ([2], [2]), ([3], [3]), ([4, 3], [3, 4]), ([5, 3], [3, 5]), ([3, 6], [3, 6]), ([7, 3], [7]), ([8], [8]), ([9, 8], [8, 9]), ([10, 8], [8, 10]), ([8, 11], [8, 11]), ([12, 8], [12]), ([13], [13]), ([14, 13], [13, 14]), ([15, 13], [13, 15]), ([13, 16], [13, 16]), ([17, 13], [17]), ([18], [18]), ([19, 18], [18, 19]), ([18], [18]), ([18], [18]), ([18], [18]), ([21, 22, 23, 18, 18], [18, 21, 22, 23]), ([20, 24, 18], [18, 20, 24]), ([18, 25], [18, 25])])
def impl_StateOk.B6 : List Nat := [0, 1, 3, 7, 15, 31, 63, 127, 255, 511, 1023, 2047, 4095, 8191, 16383, 32767, 65535, 131071, 262143, 524287, 1048575, 524287, 524287, 524287, 15204351, 33554431, 67108863]
theorem impl_StateOk.tab6 : rtab .any (opsOf Try.f32 6) = impl_StateOk.T6 := by kernel_rfl
theorem impl_StateOk.bits6 : waitsOk impl_StateOk.T6.2 impl_StateOk.B6 = true := by kernel_rfl
set_option maxHeartbeats 8000000 in
set_option maxRecDepth 100000 in
theorem impl_StateOk.calls (k : Nat) (a0_0 : Int) (A0_1 : Option Addr) (c0_1 : Nat) (l0_1 : List (S88)) (a1_0 : Bool) (A1_1 : Option Addr) (c1_1 : Nat) (l1_1 : List (S50)) (A1_2 : Option Addr) (c1_2 : Nat) (l1_2 : List Bool) (r : Bool) (w : World) (hr0_1 : Kd.C k88 w A0_1 l0_1.length l0_1) (hc0_1 : l0_1.length ≤ c0_1) (hr1_1 : Kd.C k50 w A1_1 l1_1.length l1_1) (hc1_1 : l1_1.length ≤ c1_1) (hr1_2 : Kd.C Kd.bool w A1_2 l1_2.length l1_2) (hc1_2 : l1_2.length ≤ c1_2) (h : impl_StateOk.f k a0_0 l0_1 a1_0 l1_1 l1_2 = some r) :
  Calls Try.prog 32 #[.agg #[.int .i64 a0_0, .slice A0_1 l0_1.length c0_1], .agg #[.bool a1_0, .slice A1_1 l1_1.length c1_1, .slice A1_2 l1_2.length c1_2]] w fun e w' => e = .returned (.bool r) ∧ Below w.heap.size w w' := by
 have hu30 := Try.underlying30
 have hu46 := Try.underlying46
 have hu50 := Try.underlying50
 have HR0_1 := Aside0.mk hr0_1
 have HC0_1 := Aside0.mk hc0_1
 clear hr0_1 hc0_1
 have HR1_1 := Aside0.mk hr1_1
 have HC1_1 := Aside0.mk hc1_1
 clear hr1_1 hc1_1
 have HR1_2 := Aside0.mk hr1_2
 have HC1_2 := Aside0.mk hc1_2
 clear hr1_2 hc1_2
 have HB := Aside0.mk (Below.refl w.heap.size w)
 have H : ((impl_LayoutOk.f a0_0 l0_1).bind fun t393 => (if t393 = 0 then (if a1_0 = true then (if (l1_1.length : Int) = a0_0 then (impl_StateOk.j0 k ((l1_2.length : Int) != (l0_1.length : Int)) a0_0 l0_1 a1_0 l1_1 l1_2) else (impl_StateOk.j0 k true a0_0 l0_1 a1_0 l1_1 l1_2)) else (impl_StateOk.j0 k true a0_0 l0_1 a1_0 l1_1 l1_2)) else (impl_StateOk.j0 k true a0_0 l0_1 a1_0 l1_1 l1_2))) = some r := h
 clear h
 have HC3 := Aside0.mk H
 clear H
 go_enter Try.func32, Try.ntmps32
 go_upto_region 1 with (first | ((with_reducible refine gate_dst (N := 2) rfl ?_); (try (refine gate_guard (by rfl) ?_; dsimp only)); refine box_event ?hg (N := 2) ?hd (cs := #[.int .i64 a0_0, .slice A0_1 l0_1.length c0_1]) (t := 30) ?hr ?_; (case hd => rfl); (case hg => rfl); (case hr => first | (go_simp; done) | (go_simp; rfl)); intro gb391 hg w4 hbox hb; have n0_ := Aside0.mk (below_step (by repeat (first | (with_reducible first | exact HB.out | apply below_alloc | apply pw_below_drewN | apply below_drew1) | exact HB.out)) hb); have n1_ := Aside0.mk (hbox); have n2_ := Aside0.mk ((by rw [hg]; exact (below_size (by repeat (first | (with_reducible first | exact HB.out | apply below_alloc | apply pw_below_drewN | apply below_drew1) | exact HB.out))) : w.heap.size ≤ gb391)); have n3_ := Aside0.mk ((by rw [hg]; exact (below_size (by repeat (first | (with_reducible first | exact HB.out | apply below_alloc | apply pw_below_drewN | apply below_drew1) | exact HB.out))) : w.heap.size ≤ gb391)); clear HB; have HB := n0_; have BK391 := n1_; have GW391 := n2_; have GE391 := n3_; clear n0_ n1_ n2_ n3_; clear hb hbox hg) | ((with_reducible refine gate_dst (N := 3) rfl ?_); (try (refine gate_guard (by rfl) ?_; dsimp only)); refine box_event ?hg (N := 3) ?hd (cs := #[.bool a1_0, .slice A1_1 l1_1.length c1_1, .slice A1_2 l1_2.length c1_2]) (t := 46) ?hr ?_; (case hd => rfl); (case hg => rfl); (case hr => first | (go_simp; done) | (go_simp; rfl)); intro gb392 hg w5 hbox hb; have n0_ := Aside0.mk (blk_below (g := gb391) (o := .cells #[.int .i64 a0_0, .slice A0_1 l0_1.length c0_1] 30 (0, 0)) (by (with_reducible repeat (first | refine blk_drewN ?_ _ | refine blk_drew ?_ | refine blk_alloc ?_ _)); exact BK391.out) hb); have n1_ := Aside0.mk (below_step (by repeat (first | (with_reducible first | exact HB.out | apply below_alloc | apply pw_below_drewN | apply below_drew1 | refine below_set ?_ GE391.out) | exact HB.out)) hb); have n2_ := Aside0.mk (hbox); have n3_ := Aside0.mk ((by rw [hg]; exact (below_size (by repeat (first | (with_reducible first | exact HB.out | apply below_alloc | apply pw_below_drewN | apply below_drew1 | refine below_set ?_ GE391.out) | exact HB.out))) : w.heap.size ≤ gb392)); have n4_ := Aside0.mk ((by rw [hg]; exact (below_size (by repeat (first | (with_reducible first | exact HB.out | apply below_alloc | apply pw_below_drewN | apply below_drew1 | refine below_set ?_ GE391.out) | exact HB.out))) : w.heap.size ≤ gb392)); have n5_ := Aside0.mk ((by rw [hg]; exact Nat.ne_of_lt (blk_lt (g := gb391) (o := .cells #[.int .i64 a0_0, .slice A0_1 l0_1.length c0_1] 30 (0, 0)) (by (with_reducible repeat (first | refine blk_drewN ?_ _ | refine blk_drew ?_ | refine blk_alloc ?_ _)); exact BK391.out)) : gb391 ≠ gb392)); have n6_ := Aside0.mk ((by rw [hg]; exact Nat.ne_of_gt (blk_lt (g := gb391) (o := .cells #[.int .i64 a0_0, .slice A0_1 l0_1.length c0_1] 30 (0, 0)) (by (with_reducible repeat (first | refine blk_drewN ?_ _ | refine blk_drew ?_ | refine blk_alloc ?_ _)); exact BK391.out)) : gb392 ≠ gb391)); clear BK391; clear HB; have BK391 := n0_; have HB := n1_; have BK392 := n2_; have GW392 := n3_; have GE392 := n4_; have NB391_392 := n5_; have NB392_391 := n6_; clear n0_ n1_ n2_ n3_ n4_ n5_ n6_; clear hb hbox hg))
 (try simp only [Act.put, List.setIfInBounds_toArray, List.set_cons_zero, List.set_cons_succ])
 go_cut [31] (fun v31 wc => ∃ (kq : Nat) (x31_2 : Bool), v31 = .bool x31_2 ∧ Aside0 (impl_StateOk.j0 kq x31_2 a0_0 l0_1 a1_0 l1_1 l1_2 = some r) ∧ Aside0 (kq ≤ k) ∧ Aside0 (wc.heap[gb391]? = some (.cells #[.int .i64 a0_0, (.slice A0_1 l0_1.length c0_1)] 30 (0, 0))) ∧ Aside0 (wc.heap[gb392]? = some (.cells #[.bool a1_0, (.slice A1_1 l1_1.length c1_1), (.slice A1_2 l1_2.length c1_2)] 46 (0, 0))) ∧ Aside0 (Below w.heap.size w wc))
 case first =>
  have H := HC3.out
  clear HC3
  replace H := Option.bind_eq_some_iff.mp H
  obtain ⟨t393, A60, H⟩ := H
  replace H : (if t393 = 0 then (if a1_0 = true then (if (l1_1.length : Int) = a0_0 then (impl_StateOk.j0 k ((l1_2.length : Int) != (l0_1.length : Int)) a0_0 l0_1 a1_0 l1_1 l1_2) else (impl_StateOk.j0 k true a0_0 l0_1 a1_0 l1_1 l1_2)) else (impl_StateOk.j0 k true a0_0 l0_1 a1_0 l1_1 l1_2)) else (impl_StateOk.j0 k true a0_0 l0_1 a1_0 l1_1 l1_2)) = some r := H
  have A6 := Aside0.mk A60
  clear A60
  by_cases c7 : t393 = 0
  ·rw [if_pos c7] at H
   have c7b0 : (t393 == 0) = true := beq_iff_eq.mpr c7
   have c7b1 : (t393 != 0) = false := bne_eq_false_iff_eq.mpr c7
   clear c7
   (first | rw [c7b0] | (simp only [i64_w, i32_w]; rw [c7b0]) | skip)
   by_cases c8 : a1_0 = true
   ·subst c8
    have H1 : (if (l1_1.length : Int) = a0_0 then (impl_StateOk.j0 k ((l1_2.length : Int) != (l0_1.length : Int)) a0_0 l0_1 true l1_1 l1_2) else (impl_StateOk.j0 k true a0_0 l0_1 true l1_1 l1_2)) = some r := by rw [if_pos rfl] at H; exact H
    clear H
    have H := H1
    clear H1
    by_cases c9 : (l1_1.length : Int) = a0_0
    ·rw [if_pos c9] at H
     have c9b0 : ((l1_1.length : Int) == a0_0) = true := beq_iff_eq.mpr c9
     have c9b1 : ((l1_1.length : Int) != a0_0) = false := bne_eq_false_iff_eq.mpr c9
     clear c9
     have H' := Aside0.mk H
     clear H
     have hnb10 := NB391_392.out
     have hnc10 := NB392_391.out
     have hcz11_0 : w5.cell? ⟨gb391, 0, none⟩ = some (.int .i64 a0_0) := (blk_cell BK391.out 0).trans rfl
     have hcz11_1 : w5.cell? ⟨gb391, 1, none⟩ = some (.slice A0_1 l0_1.length c0_1) := (blk_cell BK391.out 1).trans rfl
     have hfz11_0 := blk_frozen BK391.out 0
     have hfz11_1 := blk_frozen BK391.out 1
     go_wp2_with (first | ((with_reducible refine gate_callee (f := 25) rfl ?_); refine goesL_ (some 8) rfl rfl Try.func25 (by kernel_rfl) rfl #[.agg #[.int .i64 a0_0, .slice A0_1 l0_1.length c0_1]] rfl (by (try simp only [List.map_toArray, List.map_cons, List.map_nil]); first | done | rfl | (simp only [List.length_drop, List.length_take]; rfl)) ?_; (with_reducible refine (impl_LayoutOk.calls a0_0 _ _ l0_1 t393 _ ?side1 ?side2 A6.out).mono ?_); (case side1 => repeat (first | exact (Kd.C_below HR0_1.out HB.out) | (with_reducible refine Kd.C_alloc ?_ _) | (with_reducible refine Kd.C_drewN ?_ _) | (with_reducible refine Kd.C_drew ?_))); (case side2 => exact HC0_1.out); rintro e w12 ⟨rfl, hb⟩; refine ⟨_, rfl, ?_⟩; have n0_ := Aside0.mk (blk_below (g := gb391) (o := .cells #[.int .i64 a0_0, .slice A0_1 l0_1.length c0_1] 30 (0, 0)) (by (with_reducible repeat (first | refine blk_drewN ?_ _ | refine blk_drew ?_ | refine blk_alloc ?_ _)); exact BK391.out) hb); have n1_ := Aside0.mk (blk_below (g := gb392) (o := .cells #[.bool true, .slice A1_1 l1_1.length c1_1, .slice A1_2 l1_2.length c1_2] 46 (0, 0)) (by (with_reducible repeat (first | refine blk_drewN ?_ _ | refine blk_drew ?_ | refine blk_alloc ?_ _)); exact BK392.out) hb); have n2_ := Aside0.mk (below_step (by repeat (first | (with_reducible first | exact HB.out | apply below_alloc | apply pw_below_drewN | apply below_drew1 | refine below_set ?_ GE391.out | refine below_set ?_ GE392.out) | exact HB.out)) hb); clear BK391; clear BK392; clear HB; have BK391 := n0_; have BK392 := n1_; have HB := n2_; clear n0_ n1_ n2_; (try clear hb); (try clear hb2); (try clear hk); (try clear hi); have hcz13_0 : w12.cell? ⟨gb392, 0, none⟩ = some (.bool true) := (blk_cell BK392.out 0).trans rfl; have hcz13_1 : w12.cell? ⟨gb392, 1, none⟩ = some (.slice A1_1 l1_1.length c1_1) := (blk_cell BK392.out 1).trans rfl; have hcz13_2 : w12.cell? ⟨gb392, 2, none⟩ = some (.slice A1_2 l1_2.length c1_2) := (blk_cell BK392.out 2).trans rfl; have hfz13_0 := blk_frozen BK392.out 0; have hfz13_1 := blk_frozen BK392.out 1; have hfz13_2 := blk_frozen BK392.out 2; have hcz14_0 : w12.cell? ⟨gb391, 0, none⟩ = some (.int .i64 a0_0) := (blk_cell BK391.out 0).trans rfl; have hcz14_1 : w12.cell? ⟨gb391, 1, none⟩ = some (.slice A0_1 l0_1.length c0_1) := (blk_cell BK391.out 1).trans rfl; have hfz14_0 := blk_frozen BK391.out 0; have hfz14_1 := blk_frozen BK391.out 1))
     go_meet
     case rel => exact ⟨_, (((l1_2.length : Int) != (l0_1.length : Int))), (by first | rfl | (simp; done) | (simp [*]; done)), H', ⟨by first | omega | exact Nat.le_refl _⟩, ⟨by (with_reducible repeat (first | refine blk_drewN ?_ _ | refine blk_drew ?_ | refine blk_alloc ?_ _)); exact BK391.out⟩, ⟨by (with_reducible repeat (first | refine blk_drewN ?_ _ | refine blk_drew ?_ | refine blk_alloc ?_ _)); exact BK392.out⟩, ⟨by repeat (first | (with_reducible first | exact HB.out | apply below_alloc | apply pw_below_drewN | apply below_drew1 | refine below_set ?_ GE391.out | refine below_set ?_ GE392.out) | exact HB.out)⟩⟩
    ·rw [if_neg c9] at H
     have c9b0 : ((l1_1.length : Int) == a0_0) = false := beq_eq_false_iff_ne.mpr c9
     have c9b1 : ((l1_1.length : Int) != a0_0) = true := bne_iff_ne.mpr c9
     have H' := Aside0.mk H
     clear H
     have hnb15 := NB391_392.out
     have hnc15 := NB392_391.out
     have hcz16_0 : w5.cell? ⟨gb391, 0, none⟩ = some (.int .i64 a0_0) := (blk_cell BK391.out 0).trans rfl
     have hcz16_1 : w5.cell? ⟨gb391, 1, none⟩ = some (.slice A0_1 l0_1.length c0_1) := (blk_cell BK391.out 1).trans rfl
     have hfz16_0 := blk_frozen BK391.out 0
     have hfz16_1 := blk_frozen BK391.out 1
     go_wp2_with (first | ((with_reducible refine gate_callee (f := 25) rfl ?_); refine goesL_ (some 8) rfl rfl Try.func25 (by kernel_rfl) rfl #[.agg #[.int .i64 a0_0, .slice A0_1 l0_1.length c0_1]] rfl (by (try simp only [List.map_toArray, List.map_cons, List.map_nil]); first | done | rfl | (simp only [List.length_drop, List.length_take]; rfl)) ?_; (with_reducible refine (impl_LayoutOk.calls a0_0 _ _ l0_1 t393 _ ?side1 ?side2 A6.out).mono ?_); (case side1 => repeat (first | exact (Kd.C_below HR0_1.out HB.out) | (with_reducible refine Kd.C_alloc ?_ _) | (with_reducible refine Kd.C_drewN ?_ _) | (with_reducible refine Kd.C_drew ?_))); (case side2 => exact HC0_1.out); rintro e w17 ⟨rfl, hb⟩; refine ⟨_, rfl, ?_⟩; have n0_ := Aside0.mk (blk_below (g := gb391) (o := .cells #[.int .i64 a0_0, .slice A0_1 l0_1.length c0_1] 30 (0, 0)) (by (with_reducible repeat (first | refine blk_drewN ?_ _ | refine blk_drew ?_ | refine blk_alloc ?_ _)); exact BK391.out) hb); have n1_ := Aside0.mk (blk_below (g := gb392) (o := .cells #[.bool true, .slice A1_1 l1_1.length c1_1, .slice A1_2 l1_2.length c1_2] 46 (0, 0)) (by (with_reducible repeat (first | refine blk_drewN ?_ _ | refine blk_drew ?_ | refine blk_alloc ?_ _)); exact BK392.out) hb); have n2_ := Aside0.mk (below_step (by repeat (first | (with_reducible first | exact HB.out | apply below_alloc | apply pw_below_drewN | apply below_drew1 | refine below_set ?_ GE391.out | refine below_set ?_ GE392.out) | exact HB.out)) hb); clear BK391; clear BK392; clear HB; have BK391 := n0_; have BK392 := n1_; have HB := n2_; clear n0_ n1_ n2_; (try clear hb); (try clear hb2); (try clear hk); (try clear hi); have hcz18_0 : w17.cell? ⟨gb392, 0, none⟩ = some (.bool true) := (blk_cell BK392.out 0).trans rfl; have hcz18_1 : w17.cell? ⟨gb392, 1, none⟩ = some (.slice A1_1 l1_1.length c1_1) := (blk_cell BK392.out 1).trans rfl; have hcz18_2 : w17.cell? ⟨gb392, 2, none⟩ = some (.slice A1_2 l1_2.length c1_2) := (blk_cell BK392.out 2).trans rfl; have hfz18_0 := blk_frozen BK392.out 0; have hfz18_1 := blk_frozen BK392.out 1; have hfz18_2 := blk_frozen BK392.out 2; have hcz19_0 : w17.cell? ⟨gb391, 0, none⟩ = some (.int .i64 a0_0) := (blk_cell BK391.out 0).trans rfl; have hcz19_1 : w17.cell? ⟨gb391, 1, none⟩ = some (.slice A0_1 l0_1.length c0_1) := (blk_cell BK391.out 1).trans rfl; have hfz19_0 := blk_frozen BK391.out 0; have hfz19_1 := blk_frozen BK391.out 1))
     go_meet
     case rel => exact ⟨_, (true), (by first | rfl | (simp; done) | (simp [*]; done)), H', ⟨by first | omega | exact Nat.le_refl _⟩, ⟨by (with_reducible repeat (first | refine blk_drewN ?_ _ | refine blk_drew ?_ | refine blk_alloc ?_ _)); exact BK391.out⟩, ⟨by (with_reducible repeat (first | refine blk_drewN ?_ _ | refine blk_drew ?_ | refine blk_alloc ?_ _)); exact BK392.out⟩, ⟨by repeat (first | (with_reducible first | exact HB.out | apply below_alloc | apply pw_below_drewN | apply below_drew1 | refine below_set ?_ GE391.out | refine below_set ?_ GE392.out) | exact HB.out)⟩⟩
   ·replace c8 := Bool.eq_false_iff.mpr c8
    subst c8
    have H1 : (impl_StateOk.j0 k true a0_0 l0_1 false l1_1 l1_2) = some r := by rw [if_neg (show ¬ (false = true) by decide)] at H; exact H
    clear H
    have H := H1
    clear H1
    have H' := Aside0.mk H
    clear H
    have hnb20 := NB391_392.out
    have hnc20 := NB392_391.out
    have hcz21_0 : w5.cell? ⟨gb391, 0, none⟩ = some (.int .i64 a0_0) := (blk_cell BK391.out 0).trans rfl
    have hcz21_1 : w5.cell? ⟨gb391, 1, none⟩ = some (.slice A0_1 l0_1.length c0_1) := (blk_cell BK391.out 1).trans rfl
    have hfz21_0 := blk_frozen BK391.out 0
    have hfz21_1 := blk_frozen BK391.out 1
    go_wp2_with (first | ((with_reducible refine gate_callee (f := 25) rfl ?_); refine goesL_ (some 8) rfl rfl Try.func25 (by kernel_rfl) rfl #[.agg #[.int .i64 a0_0, .slice A0_1 l0_1.length c0_1]] rfl (by (try simp only [List.map_toArray, List.map_cons, List.map_nil]); first | done | rfl | (simp only [List.length_drop, List.length_take]; rfl)) ?_; (with_reducible refine (impl_LayoutOk.calls a0_0 _ _ l0_1 t393 _ ?side1 ?side2 A6.out).mono ?_); (case side1 => repeat (first | exact (Kd.C_below HR0_1.out HB.out) | (with_reducible refine Kd.C_alloc ?_ _) | (with_reducible refine Kd.C_drewN ?_ _) | (with_reducible refine Kd.C_drew ?_))); (case side2 => exact HC0_1.out); rintro e w22 ⟨rfl, hb⟩; refine ⟨_, rfl, ?_⟩; have n0_ := Aside0.mk (blk_below (g := gb391) (o := .cells #[.int .i64 a0_0, .slice A0_1 l0_1.length c0_1] 30 (0, 0)) (by (with_reducible repeat (first | refine blk_drewN ?_ _ | refine blk_drew ?_ | refine blk_alloc ?_ _)); exact BK391.out) hb); have n1_ := Aside0.mk (blk_below (g := gb392) (o := .cells #[.bool false, .slice A1_1 l1_1.length c1_1, .slice A1_2 l1_2.length c1_2] 46 (0, 0)) (by (with_reducible repeat (first | refine blk_drewN ?_ _ | refine blk_drew ?_ | refine blk_alloc ?_ _)); exact BK392.out) hb); have n2_ := Aside0.mk (below_step (by repeat (first | (with_reducible first | exact HB.out | apply below_alloc | apply pw_below_drewN | apply below_drew1 | refine below_set ?_ GE391.out | refine below_set ?_ GE392.out) | exact HB.out)) hb); clear BK391; clear BK392; clear HB; have BK391 := n0_; have BK392 := n1_; have HB := n2_; clear n0_ n1_ n2_; (try clear hb); (try clear hb2); (try clear hk); (try clear hi); have hcz23_0 : w22.cell? ⟨gb392, 0, none⟩ = some (.bool false) := (blk_cell BK392.out 0).trans rfl; have hcz23_1 : w22.cell? ⟨gb392, 1, none⟩ = some (.slice A1_1 l1_1.length c1_1) := (blk_cell BK392.out 1).trans rfl; have hcz23_2 : w22.cell? ⟨gb392, 2, none⟩ = some (.slice A1_2 l1_2.length c1_2) := (blk_cell BK392.out 2).trans rfl; have hfz23_0 := blk_frozen BK392.out 0; have hfz23_1 := blk_frozen BK392.out 1; have hfz23_2 := blk_frozen BK392.out 2))
    go_meet
    case rel => exact ⟨_, (true), (by first | rfl | (simp; done) | (simp [*]; done)), H', ⟨by first | omega | exact Nat.le_refl _⟩, ⟨by (with_reducible repeat (first | refine blk_drewN ?_ _ | refine blk_drew ?_ | refine blk_alloc ?_ _)); exact BK391.out⟩, ⟨by (with_reducible repeat (first | refine blk_drewN ?_ _ | refine blk_drew ?_ | refine blk_alloc ?_ _)); exact BK392.out⟩, ⟨by repeat (first | (with_reducible first | exact HB.out | apply below_alloc | apply pw_below_drewN | apply below_drew1 | refine below_set ?_ GE391.out | refine below_set ?_ GE392.out) | exact HB.out)⟩⟩
  ·rw [if_neg c7] at H
   have c7b0 : (t393 == 0) = false := beq_eq_false_iff_ne.mpr c7
   have c7b1 : (t393 != 0) = true := bne_iff_ne.mpr c7
   (first | rw [c7b0] | (simp only [i64_w, i32_w]; rw [c7b0]) | skip)
   have H' := Aside0.mk H
   clear H
   have hnb24 := NB391_392.out
   have hnc24 := NB392_391.out
   have hcz25_0 : w5.cell? ⟨gb391, 0, none⟩ = some (.int .i64 a0_0) := (blk_cell BK391.out 0).trans rfl
   have hcz25_1 : w5.cell? ⟨gb391, 1, none⟩ = some (.slice A0_1 l0_1.length c0_1) := (blk_cell BK391.out 1).trans rfl
   have hfz25_0 := blk_frozen BK391.out 0
   have hfz25_1 := blk_frozen BK391.out 1
   go_wp2_with (first | ((with_reducible refine gate_callee (f := 25) rfl ?_); refine goesL_ (some 8) rfl rfl Try.func25 (by kernel_rfl) rfl #[.agg #[.int .i64 a0_0, .slice A0_1 l0_1.length c0_1]] rfl (by (try simp only [List.map_toArray, List.map_cons, List.map_nil]); first | done | rfl | (simp only [List.length_drop, List.length_take]; rfl)) ?_; (with_reducible refine (impl_LayoutOk.calls a0_0 _ _ l0_1 t393 _ ?side1 ?side2 A6.out).mono ?_); (case side1 => repeat (first | exact (Kd.C_below HR0_1.out HB.out) | (with_reducible refine Kd.C_alloc ?_ _) | (with_reducible refine Kd.C_drewN ?_ _) | (with_reducible refine Kd.C_drew ?_))); (case side2 => exact HC0_1.out); rintro e w26 ⟨rfl, hb⟩; refine ⟨_, rfl, ?_⟩; have n0_ := Aside0.mk (blk_below (g := gb391) (o := .cells #[.int .i64 a0_0, .slice A0_1 l0_1.length c0_1] 30 (0, 0)) (by (with_reducible repeat (first | refine blk_drewN ?_ _ | refine blk_drew ?_ | refine blk_alloc ?_ _)); exact BK391.out) hb); have n1_ := Aside0.mk (blk_below (g := gb392) (o := .cells #[.bool a1_0, .slice A1_1 l1_1.length c1_1, .slice A1_2 l1_2.length c1_2] 46 (0, 0)) (by (with_reducible repeat (first | refine blk_drewN ?_ _ | refine blk_drew ?_ | refine blk_alloc ?_ _)); exact BK392.out) hb); have n2_ := Aside0.mk (below_step (by repeat (first | (with_reducible first | exact HB.out | apply below_alloc | apply pw_below_drewN | apply below_drew1 | refine below_set ?_ GE391.out | refine below_set ?_ GE392.out) | exact HB.out)) hb); clear BK391; clear BK392; clear HB; have BK391 := n0_; have BK392 := n1_; have HB := n2_; clear n0_ n1_ n2_; (try clear hb); (try clear hb2); (try clear hk); (try clear hi)))
   go_meet
   case rel => exact ⟨_, (true), (by first | rfl | (simp; done) | (simp [*]; done)), H', ⟨by first | omega | exact Nat.le_refl _⟩, ⟨by (with_reducible repeat (first | refine blk_drewN ?_ _ | refine blk_drew ?_ | refine blk_alloc ?_ _)); exact BK391.out⟩, ⟨by (with_reducible repeat (first | refine blk_drewN ?_ _ | refine blk_drew ?_ | refine blk_alloc ?_ _)); exact BK392.out⟩, ⟨by repeat (first | (with_reducible first | exact HB.out | apply below_alloc | apply pw_below_drewN | apply below_drew1 | refine below_set ?_ GE391.out | refine below_set ?_ GE392.out) | exact HB.out)⟩⟩
 case rest =>
  clear HC3
  try clear c1
  try clear c2
  try clear p2
  try clear c3
  try clear c7
  try clear c7b0
  try clear c7b1
  try clear c8
  try clear c9
  try clear c9b0
  try clear c9b1
  try clear c10
  try clear c15
  try clear c20
  try clear c24
  try clear c25
  try clear hcz11_0
  try clear hcz11_1
  try clear hcz13_0
  try clear hcz13_1
  try clear hcz13_2
  try clear hcz14_0
  try clear hcz14_1
  try clear hcz16_0
  try clear hcz16_1
  try clear hcz18_0
  try clear hcz18_1
  try clear hcz18_2
  try clear hcz19_0
  try clear hcz19_1
  try clear hcz21_0
  try clear hcz21_1
  try clear hcz23_0
  try clear hcz23_1
  try clear hcz23_2
  try clear hcz25_0
  try clear hcz25_1
  try clear hfz11_0
  try clear hfz11_1
  try clear hfz13_0
  try clear hfz13_1
  try clear hfz13_2
  try clear hfz14_0
  try clear hfz14_1
  try clear hfz16_0
  try clear hfz16_1
  try clear hfz18_0
  try clear hfz18_1
  try clear hfz18_2
  try clear hfz19_0
  try clear hfz19_1
  try clear hfz21_0
  try clear hfz21_1
  try clear hfz23_0
  try clear hfz23_1
  try clear hfz23_2
  try clear hfz25_0
  try clear hfz25_1
  obtain ⟨kq, x31_2, rfl, HA, HJ2, BK391, BK392, HB⟩ := hcut
  cases kq with
  | zero => exact absurd HA.out (by simp [impl_StateOk.j0])
  | succ kj2 =>
   have H := HA.out
   clear HA
   simp only [impl_StateOk.j0] at H
   by_cases c27 : x31_2 = true
   ·subst c27
    have H1 : (some false) = some r := by rw [if_pos rfl] at H; exact H
    clear H
    have H := H1
    clear H1
    obtain rfl := Option.some.inj H
    go_wp2
    go_ret
    exact ⟨by first | rfl | (simp [errW_none, errW_some] <;> rfl) | (simp [*, errW_none, errW_some] <;> rfl), by repeat (first | (with_reducible first | exact HB.out | apply below_alloc | apply pw_below_drewN | apply below_drew1 | refine below_set ?_ GE391.out | refine below_set ?_ GE392.out) | exact HB.out)⟩
   ·replace c27 := Bool.eq_false_iff.mpr c27
    subst c27
    have H1 : (impl_StateOk.l0 kj2 l1_1 (l1_1.length : Int) 0 a0_0 l0_1 a1_0 l1_1 l1_2) = some r := by rw [if_neg (show ¬ (false = true) by decide)] at H; exact H
    clear H
    have H := H1
    clear H1
    have H' := Aside0.mk H
    clear H
    have hnb28 := NB392_391.out
    have hnc28 := NB391_392.out
    have hcz29_0 : wc.cell? ⟨gb392, 0, none⟩ = some (.bool a1_0) := (blk_cell BK392.out 0).trans rfl
    have hcz29_1 : wc.cell? ⟨gb392, 1, none⟩ = some (.slice A1_1 l1_1.length c1_1) := (blk_cell BK392.out 1).trans rfl
    have hcz29_2 : wc.cell? ⟨gb392, 2, none⟩ = some (.slice A1_2 l1_2.length c1_2) := (blk_cell BK392.out 2).trans rfl
    have hfz29_0 := blk_frozen BK392.out 0
    have hfz29_1 := blk_frozen BK392.out 1
    have hfz29_2 := blk_frozen BK392.out 2
    go_wp2
    go_loopg [35] kj2 (fun kq v35 w' => ∃ (x35_2 : Int), v35 = .int .i64 x35_2 ∧ Aside0 (impl_StateOk.l0 kq l1_1 (l1_1.length : Int) x35_2 a0_0 l0_1 a1_0 l1_1 l1_2 = some r) ∧ Aside0 (kq ≤ kj2) ∧ Aside0 (w'.heap[gb391]? = some (.cells #[.int .i64 a0_0, (.slice A0_1 l0_1.length c0_1)] 30 (0, 0))) ∧ Aside0 (w'.heap[gb392]? = some (.cells #[.bool a1_0, (.slice A1_1 l1_1.length c1_1), (.slice A1_2 l1_2.length c1_2)] 46 (0, 0))) ∧ Aside0 (Below w.heap.size w w'))
    case atStart => exact ⟨(0), (by first | rfl | (simp; done) | (simp [*]; done)), H', ⟨Nat.le_refl _⟩, ⟨by (with_reducible repeat (first | refine blk_drewN ?_ _ | refine blk_drew ?_ | refine blk_alloc ?_ _)); exact BK391.out⟩, ⟨by (with_reducible repeat (first | refine blk_drewN ?_ _ | refine blk_drew ?_ | refine blk_alloc ?_ _)); exact BK392.out⟩, ⟨by repeat (first | (with_reducible first | exact HB.out | apply below_alloc | apply pw_below_drewN | apply below_drew1 | refine below_set ?_ GE391.out | refine below_set ?_ GE392.out) | exact HB.out)⟩⟩
    case round =>
     clear H'
     try clear c1
     try clear c2
     try clear p2
     try clear c3
     try clear c7
     try clear c7b0
     try clear c7b1
     try clear c8
     try clear c9
     try clear c9b0
     try clear c9b1
     try clear c10
     try clear c15
     try clear c20
     try clear c24
     try clear c25
     try clear c27
     try clear c28
     try clear hcz11_0
     try clear hcz11_1
     try clear hcz13_0
     try clear hcz13_1
     try clear hcz13_2
     try clear hcz14_0
     try clear hcz14_1
     try clear hcz16_0
     try clear hcz16_1
     try clear hcz18_0
     try clear hcz18_1
     try clear hcz18_2
     try clear hcz19_0
     try clear hcz19_1
     try clear hcz21_0
     try clear hcz21_1
     try clear hcz23_0
     try clear hcz23_1
     try clear hcz23_2
     try clear hcz25_0
     try clear hcz25_1
     try clear hcz29_0
     try clear hcz29_1
     try clear hcz29_2
     try clear hfz11_0
     try clear hfz11_1
     try clear hfz13_0
     try clear hfz13_1
     try clear hfz13_2
     try clear hfz14_0
     try clear hfz14_1
     try clear hfz16_0
     try clear hfz16_1
     try clear hfz18_0
     try clear hfz18_1
     try clear hfz18_2
     try clear hfz19_0
     try clear hfz19_1
     try clear hfz21_0
     try clear hfz21_1
     try clear hfz23_0
     try clear hfz23_1
     try clear hfz23_2
     try clear hfz25_0
     try clear hfz25_1
     try clear hfz29_0
     try clear hfz29_1
     try clear hfz29_2
     try clear p2
     obtain ⟨x35_2, rfl, HA, HK2, BK391, BK392, HB⟩ := hrel
     cases gk with
     | zero => exact absurd HA.out (by simp [impl_StateOk.l0])
     | succ k2 =>
      have H := HA.out
      clear HA
      simp only [impl_StateOk.l0] at H
      by_cases c30 : x35_2 < (l1_1.length : Int)
      ·rw [if_pos c30] at H
       have c30b0 : decide (x35_2 < (l1_1.length : Int)) = true := decide_eq_true c30
       clear c30
       by_cases c31 : 0 ≤ x35_2
       ·rw [if_pos c31] at H
        have c31b0 : decide (0 ≤ x35_2) = true := decide_eq_true c31
        clear c31
        by_cases c32 : x35_2 < (l1_1.length : Int)
        ·rw [if_pos c32] at H
         have c32b0 : decide (x35_2 < (l1_1.length : Int)) = true := decide_eq_true c32
         clear c32
         have HC33 := Aside0.mk H
         clear H
         have p394 : 0 ≤ (x35_2 : Int) := of_decide_eq_true (by first | (with_reducible assumption) | assumption)
         have q394 : x35_2 < (l1_1.length : Int) := of_decide_eq_true (by first | (with_reducible assumption) | assumption)
         obtain ⟨ad394, e394, hx394_0, hx394_1, hx394_2, hx394_3, hx394_4⟩ := at_T50 HR1_1.out x35_2 p394 q394
         cases e394
         replace hx394_0 := (HB.out.cell (World.block_lt_of_cell? w _ hx394_0)).trans hx394_0
         replace hx394_1 := (HB.out.cell (World.block_lt_of_cell? w _ hx394_1)).trans hx394_1
         replace hx394_2 := (HB.out.cell (World.block_lt_of_cell? w _ hx394_2)).trans hx394_2
         replace hx394_3 := (HB.out.cell (World.block_lt_of_cell? w _ hx394_3)).trans hx394_3
         replace hx394_4 := (HB.out.cell (World.block_lt_of_cell? w _ hx394_4)).trans hx394_4
         replace p394 := eq_true p394
         replace q394 := eq_true q394
         go_upto_region 6 with (first | ((with_reducible refine gate_dst (N := 6) rfl ?_); (try (refine gate_guard (by rfl) ?_; dsimp only)); refine box_event ?hg (N := 6) ?hd (cs := #[.int .i64 0, .int .i64 0, .bool false, .bool false, .int .i64 0]) (t := 50) ?hr ?_; (case hd => rfl); (case hg => rfl); (case hr => first | (go_simp; done) | (go_simp; rfl)); intro gb395 hg w34 hbox hb; have n0_ := Aside0.mk (blk_below (g := gb391) (o := .cells #[.int .i64 a0_0, .slice A0_1 l0_1.length c0_1] 30 (0, 0)) (by (with_reducible repeat (first | refine blk_drewN ?_ _ | refine blk_drew ?_ | refine blk_alloc ?_ _)); exact BK391.out) hb); have n1_ := Aside0.mk (blk_below (g := gb392) (o := .cells #[.bool a1_0, .slice (some ad394) l1_1.length c1_1, .slice A1_2 l1_2.length c1_2] 46 (0, 0)) (by (with_reducible repeat (first | refine blk_drewN ?_ _ | refine blk_drew ?_ | refine blk_alloc ?_ _)); exact BK392.out) hb); have n2_ := Aside0.mk (below_step (by repeat (first | (with_reducible first | exact HB.out | apply below_alloc | apply pw_below_drewN | apply below_drew1 | refine below_set ?_ GE391.out | refine below_set ?_ GE392.out) | exact HB.out)) hb); have n3_ := Aside0.mk (hbox); have n4_ := Aside0.mk ((by rw [hg]; exact (below_size (by repeat (first | (with_reducible first | exact HB.out | apply below_alloc | apply pw_below_drewN | apply below_drew1 | refine below_set ?_ GE391.out | refine below_set ?_ GE392.out) | exact HB.out))) : w.heap.size ≤ gb395)); have n5_ := Aside0.mk ((by rw [hg]; exact (below_size (by repeat (first | (with_reducible first | exact HB.out | apply below_alloc | apply pw_below_drewN | apply below_drew1 | refine below_set ?_ GE391.out | refine below_set ?_ GE392.out) | exact HB.out))) : w.heap.size ≤ gb395)); have n6_ := Aside0.mk ((by rw [hg]; exact Nat.ne_of_lt (blk_lt (g := gb391) (o := .cells #[.int .i64 a0_0, .slice A0_1 l0_1.length c0_1] 30 (0, 0)) (by (with_reducible repeat (first | refine blk_drewN ?_ _ | refine blk_drew ?_ | refine blk_alloc ?_ _)); exact BK391.out)) : gb391 ≠ gb395)); have n7_ := Aside0.mk ((by rw [hg]; exact Nat.ne_of_gt (blk_lt (g := gb391) (o := .cells #[.int .i64 a0_0, .slice A0_1 l0_1.length c0_1] 30 (0, 0)) (by (with_reducible repeat (first | refine blk_drewN ?_ _ | refine blk_drew ?_ | refine blk_alloc ?_ _)); exact BK391.out)) : gb395 ≠ gb391)); have n8_ := Aside0.mk ((by rw [hg]; exact Nat.ne_of_lt (blk_lt (g := gb392) (o := .cells #[.bool a1_0, .slice (some ad394) l1_1.length c1_1, .slice A1_2 l1_2.length c1_2] 46 (0, 0)) (by (with_reducible repeat (first | refine blk_drewN ?_ _ | refine blk_drew ?_ | refine blk_alloc ?_ _)); exact BK392.out)) : gb392 ≠ gb395)); have n9_ := Aside0.mk ((by rw [hg]; exact Nat.ne_of_gt (blk_lt (g := gb392) (o := .cells #[.bool a1_0, .slice (some ad394) l1_1.length c1_1, .slice A1_2 l1_2.length c1_2] 46 (0, 0)) (by (with_reducible repeat (first | refine blk_drewN ?_ _ | refine blk_drew ?_ | refine blk_alloc ?_ _)); exact BK392.out)) : gb395 ≠ gb392)); clear BK391; clear BK392; clear HB; have BK391 := n0_; have BK392 := n1_; have HB := n2_; have BK395 := n3_; have GW395 := n4_; have GE395 := n5_; have NB391_395 := n6_; have NB395_391 := n7_; have NB392_395 := n8_; have NB395_392 := n9_; clear n0_ n1_ n2_ n3_ n4_ n5_ n6_ n7_ n8_ n9_; clear hb hbox hg; have hnb35 := NB395_391.out; have hnc35 := NB391_395.out; have hnb36 := NB395_392.out; have hnc36 := NB392_395.out; have hcz37_0 : w34.cell? ⟨gb395, 0, none⟩ = some (.int .i64 0) := (blk_cell BK395.out 0).trans rfl; have hcz37_1 : w34.cell? ⟨gb395, 1, none⟩ = some (.int .i64 0) := (blk_cell BK395.out 1).trans rfl; have hcz37_2 : w34.cell? ⟨gb395, 2, none⟩ = some (.bool false) := (blk_cell BK395.out 2).trans rfl; have hcz37_3 : w34.cell? ⟨gb395, 3, none⟩ = some (.bool false) := (blk_cell BK395.out 3).trans rfl; have hcz37_4 : w34.cell? ⟨gb395, 4, none⟩ = some (.int .i64 0) := (blk_cell BK395.out 4).trans rfl; have hfz37_0 := blk_frozen BK395.out 0; have hfz37_1 := blk_frozen BK395.out 1; have hfz37_2 := blk_frozen BK395.out 2; have hfz37_3 := blk_frozen BK395.out 3; have hfz37_4 := blk_frozen BK395.out 4))
         (try simp only [Act.put, List.setIfInBounds_toArray, List.set_cons_zero, List.set_cons_succ])
         go_cut [66] (fun v66 wc => ∃ (kq : Nat) (x66_32 : Bool), v66 = .bool x66_32 ∧ Aside0 (impl_StateOk.j2 kq x35_2 l1_1 (l1_1.length : Int) x35_2 x66_32 a0_0 l0_1 a1_0 l1_1 l1_2 ((rd_T50 l1_1 x35_2).f0) ((rd_T50 l1_1 x35_2).f1) ((rd_T50 l1_1 x35_2).f2) ((rd_T50 l1_1 x35_2).f3) ((rd_T50 l1_1 x35_2).f4) = some r) ∧ Aside0 (kq ≤ k2) ∧ Aside0 (wc.heap[gb391]? = some (.cells #[.int .i64 a0_0, (.slice A0_1 l0_1.length c0_1)] 30 (0, 0))) ∧ Aside0 (wc.heap[gb392]? = some (.cells #[.bool a1_0, (.slice (some ad394) l1_1.length c1_1), (.slice A1_2 l1_2.length c1_2)] 46 (0, 0))) ∧ Aside0 (wc.heap[gb395]? = some (.cells #[.int .i64 ((rd_T50 l1_1 x35_2).f0), .int .i64 ((rd_T50 l1_1 x35_2).f1), .bool ((rd_T50 l1_1 x35_2).f2), .bool ((rd_T50 l1_1 x35_2).f3), .int .i64 ((rd_T50 l1_1 x35_2).f4)] 50 (0, 0))) ∧ Aside0 (Below w.heap.size w wc))
         case first =>
          have H := HC33.out
          clear HC33
          by_cases c38 : ((rd_T50 l1_1 x35_2).f1) < (-1000000)
          ·rw [if_pos c38] at H
           have c38b0 : decide (((rd_T50 l1_1 x35_2).f1) < (-1000000)) = true := decide_eq_true c38
           clear c38
           (first | rw [c38b0] | (simp only [i64_w, i32_w]; rw [c38b0]) | skip)
           have H' := Aside0.mk H
           clear H
           try go_wp2
           have n0_ : Aside0 ((((((w34.setCell ⟨gb395, 0, none⟩ (.int .i64 ((rd_T50 l1_1 x35_2).f0))).setCell ⟨gb395, 1, none⟩ (.int .i64 ((rd_T50 l1_1 x35_2).f1))).setCell ⟨gb395, 2, none⟩ (.bool ((rd_T50 l1_1 x35_2).f2))).setCell ⟨gb395, 3, none⟩ (.bool ((rd_T50 l1_1 x35_2).f3))).setCell ⟨gb395, 4, none⟩ (.int .i64 ((rd_T50 l1_1 x35_2).f4))).heap[gb391]? = some (.cells #[.int .i64 a0_0, .slice A0_1 l0_1.length c0_1] 30 (0, 0))) := ⟨by (with_reducible repeat (first | refine blk_drewN ?_ _ | refine blk_drew ?_ | refine blk_alloc ?_ _)); refine blk_far ?_ NB391_395.out _; (with_reducible repeat (first | refine blk_drewN ?_ _ | refine blk_drew ?_ | refine blk_alloc ?_ _)); refine blk_far ?_ NB391_395.out _; (with_reducible repeat (first | refine blk_drewN ?_ _ | refine blk_drew ?_ | refine blk_alloc ?_ _)); refine blk_far ?_ NB391_395.out _; (with_reducible repeat (first | refine blk_drewN ?_ _ | refine blk_drew ?_ | refine blk_alloc ?_ _)); refine blk_far ?_ NB391_395.out _; (with_reducible repeat (first | refine blk_drewN ?_ _ | refine blk_drew ?_ | refine blk_alloc ?_ _)); refine blk_far ?_ NB391_395.out _; (with_reducible repeat (first | refine blk_drewN ?_ _ | refine blk_drew ?_ | refine blk_alloc ?_ _)); exact BK391.out⟩
           have n1_ : Aside0 ((((((w34.setCell ⟨gb395, 0, none⟩ (.int .i64 ((rd_T50 l1_1 x35_2).f0))).setCell ⟨gb395, 1, none⟩ (.int .i64 ((rd_T50 l1_1 x35_2).f1))).setCell ⟨gb395, 2, none⟩ (.bool ((rd_T50 l1_1 x35_2).f2))).setCell ⟨gb395, 3, none⟩ (.bool ((rd_T50 l1_1 x35_2).f3))).setCell ⟨gb395, 4, none⟩ (.int .i64 ((rd_T50 l1_1 x35_2).f4))).heap[gb392]? = some (.cells #[.bool a1_0, .slice (some ad394) l1_1.length c1_1, .slice A1_2 l1_2.length c1_2] 46 (0, 0))) := ⟨by (with_reducible repeat (first | refine blk_drewN ?_ _ | refine blk_drew ?_ | refine blk_alloc ?_ _)); refine blk_far ?_ NB392_395.out _; (with_reducible repeat (first | refine blk_drewN ?_ _ | refine blk_drew ?_ | refine blk_alloc ?_ _)); refine blk_far ?_ NB392_395.out _; (with_reducible repeat (first | refine blk_drewN ?_ _ | refine blk_drew ?_ | refine blk_alloc ?_ _)); refine blk_far ?_ NB392_395.out _; (with_reducible repeat (first | refine blk_drewN ?_ _ | refine blk_drew ?_ | refine blk_alloc ?_ _)); refine blk_far ?_ NB392_395.out _; (with_reducible repeat (first | refine blk_drewN ?_ _ | refine blk_drew ?_ | refine blk_alloc ?_ _)); refine blk_far ?_ NB392_395.out _; (with_reducible repeat (first | refine blk_drewN ?_ _ | refine blk_drew ?_ | refine blk_alloc ?_ _)); exact BK392.out⟩
           have n2_ : Aside0 ((((((w34.setCell ⟨gb395, 0, none⟩ (.int .i64 ((rd_T50 l1_1 x35_2).f0))).setCell ⟨gb395, 1, none⟩ (.int .i64 ((rd_T50 l1_1 x35_2).f1))).setCell ⟨gb395, 2, none⟩ (.bool ((rd_T50 l1_1 x35_2).f2))).setCell ⟨gb395, 3, none⟩ (.bool ((rd_T50 l1_1 x35_2).f3))).setCell ⟨gb395, 4, none⟩ (.int .i64 ((rd_T50 l1_1 x35_2).f4))).heap[gb395]? = some (.cells #[.int .i64 ((rd_T50 l1_1 x35_2).f0), .int .i64 ((rd_T50 l1_1 x35_2).f1), .bool ((rd_T50 l1_1 x35_2).f2), .bool ((rd_T50 l1_1 x35_2).f3), .int .i64 ((rd_T50 l1_1 x35_2).f4)] 50 (0, 0))) := ⟨by (with_reducible repeat (first | refine blk_drewN ?_ _ | refine blk_drew ?_ | refine blk_alloc ?_ _)); refine blk_put (cs := #[.int .i64 ((rd_T50 l1_1 x35_2).f0), .int .i64 ((rd_T50 l1_1 x35_2).f1), .bool ((rd_T50 l1_1 x35_2).f2), .bool ((rd_T50 l1_1 x35_2).f3), .int .i64 0]) ?_ 4 _ rfl; (with_reducible repeat (first | refine blk_drewN ?_ _ | refine blk_drew ?_ | refine blk_alloc ?_ _)); refine blk_put (cs := #[.int .i64 ((rd_T50 l1_1 x35_2).f0), .int .i64 ((rd_T50 l1_1 x35_2).f1), .bool ((rd_T50 l1_1 x35_2).f2), .bool false, .int .i64 0]) ?_ 3 _ rfl; (with_reducible repeat (first | refine blk_drewN ?_ _ | refine blk_drew ?_ | refine blk_alloc ?_ _)); refine blk_put (cs := #[.int .i64 ((rd_T50 l1_1 x35_2).f0), .int .i64 ((rd_T50 l1_1 x35_2).f1), .bool false, .bool false, .int .i64 0]) ?_ 2 _ rfl; (with_reducible repeat (first | refine blk_drewN ?_ _ | refine blk_drew ?_ | refine blk_alloc ?_ _)); refine blk_put (cs := #[.int .i64 ((rd_T50 l1_1 x35_2).f0), .int .i64 0, .bool false, .bool false, .int .i64 0]) ?_ 1 _ rfl; (with_reducible repeat (first | refine blk_drewN ?_ _ | refine blk_drew ?_ | refine blk_alloc ?_ _)); refine blk_put (cs := #[.int .i64 0, .int .i64 0, .bool false, .bool false, .int .i64 0]) ?_ 0 _ rfl; (with_reducible repeat (first | refine blk_drewN ?_ _ | refine blk_drew ?_ | refine blk_alloc ?_ _)); exact BK395.out⟩
           have n3_ : Aside0 (Below w.heap.size w (((((w34.setCell ⟨gb395, 0, none⟩ (.int .i64 ((rd_T50 l1_1 x35_2).f0))).setCell ⟨gb395, 1, none⟩ (.int .i64 ((rd_T50 l1_1 x35_2).f1))).setCell ⟨gb395, 2, none⟩ (.bool ((rd_T50 l1_1 x35_2).f2))).setCell ⟨gb395, 3, none⟩ (.bool ((rd_T50 l1_1 x35_2).f3))).setCell ⟨gb395, 4, none⟩ (.int .i64 ((rd_T50 l1_1 x35_2).f4)))) := ⟨by repeat (first | (with_reducible first | exact HB.out | apply below_alloc | apply pw_below_drewN | apply below_drew1 | refine below_set ?_ GE391.out | refine below_set ?_ GE392.out | refine below_set ?_ GE395.out) | exact HB.out)⟩
           (try clear BK391)
           (try clear BK392)
           (try clear BK395)
           (try clear HB)
           generalize (((((w34.setCell ⟨gb395, 0, none⟩ (.int .i64 ((rd_T50 l1_1 x35_2).f0))).setCell ⟨gb395, 1, none⟩ (.int .i64 ((rd_T50 l1_1 x35_2).f1))).setCell ⟨gb395, 2, none⟩ (.bool ((rd_T50 l1_1 x35_2).f2))).setCell ⟨gb395, 3, none⟩ (.bool ((rd_T50 l1_1 x35_2).f3))).setCell ⟨gb395, 4, none⟩ (.int .i64 ((rd_T50 l1_1 x35_2).f4))) = w39 at n0_ n1_ n2_ n3_ ⊢
           have BK391 := n0_
           have BK392 := n1_
           have BK395 := n2_
           have HB := n3_
           clear n0_ n1_ n2_ n3_
           have n0_ := Aside0.mk (blk_drew BK391.out)
           have n1_ := Aside0.mk (blk_drew BK392.out)
           have n2_ := Aside0.mk (blk_drew BK395.out)
           have n3_ := Aside0.mk (below_drew1 HB.out)
           clear BK391
           clear BK392
           clear BK395
           clear HB
           have BK391 := n0_
           have BK392 := n1_
           have BK395 := n2_
           have HB := n3_
           clear n0_ n1_ n2_ n3_
           refine start_ (n := 27) (S := fun w' => w'.cell? ⟨gb395, 0, none⟩ = some (.int .i64 ((rd_T50 l1_1 x35_2).f0)) ∧ w'.cell? ⟨gb395, 1, none⟩ = some (.int .i64 ((rd_T50 l1_1 x35_2).f1)) ∧ w'.cell? ⟨gb395, 2, none⟩ = some (.bool ((rd_T50 l1_1 x35_2).f2)) ∧ w'.cell? ⟨gb395, 3, none⟩ = some (.bool ((rd_T50 l1_1 x35_2).f3)) ∧ w'.cell? ⟨gb395, 4, none⟩ = some (.int .i64 ((rd_T50 l1_1 x35_2).f4))) (ds := []) #[false, false, false, false, false, false, false, false, false, false, false, false, false, false, false, false, false, false, false, false, false, false, false, false, false, false, false] (by kernel_rfl) rfl rfl ⟨(blk_cell BK395.out 0).trans rfl, (blk_cell BK395.out 1).trans rfl, (blk_cell BK395.out 2).trans rfl, (blk_cell BK395.out 3).trans rfl, (blk_cell BK395.out 4).trans rfl⟩ (fun hHeld => ?_); refine with_tabW impl_StateOk.tab6 impl_StateOk.bits6 (fun HT_ HW_ => ?_)
           generalize w39.drew = w40 at BK391 BK392 BK395 HB hHeld ⊢
           refine pure_ (i := 0) (N := some 40) (v := ?_) (a' := ?_) #[true, false, false, false, false, false, false, false, false, false, false, false, false, false, false, false, false, false, false, false, false, false, false, false, false, false, false] rfl rfl (any_of HT_.out (by kernel_rfl)) (fun _ _ _ h => h) (Or.inl ⟨by rfl, ?_⟩) ?_ ?_
           rotate_left
           ·intro w'
            go_simp
            with_reducible rfl
           rotate_left
           ·simp only [Act.put, List.setIfInBounds_toArray, List.set_cons_zero, List.set_cons_succ, i64_w, i32_w]
            rfl
           refine take_ (i := 1) (N := some 41) (v := ?_) (a' := ?_) #[true, true, false, false, false, false, false, false, false, false, false, false, false, false, false, false, false, false, false, false, false, false, false, false, false, false, false] rfl rfl (take_ofW HT_.out HW_.out (by kernel_rfl)) (fun _ _ _ h => h) (Or.inl ⟨by rfl, ?_⟩) hHeld ?_ ?_
           rotate_left
           ·rintro w' ⟨s0, s1, s2, s3, s4⟩
            go_simp
            with_reducible rfl
           rotate_left
           ·simp only [Act.put, List.setIfInBounds_toArray, List.set_cons_zero, List.set_cons_succ, i64_w, i32_w]
            rfl
           refine pure_ (i := 2) (N := some 42) (v := ?_) (a' := ?_) #[true, true, true, false, false, false, false, false, false, false, false, false, false, false, false, false, false, false, false, false, false, false, false, false, false, false, false] rfl rfl (any_of HT_.out (by kernel_rfl)) (fun _ _ _ h => h) (Or.inl ⟨by rfl, ?_⟩) ?_ ?_
           rotate_left
           ·intro w'
            go_simp
            with_reducible rfl
           rotate_left
           ·simp only [Act.put, List.setIfInBounds_toArray, List.set_cons_zero, List.set_cons_succ, i64_w, i32_w]
            rfl
           refine pure_ (i := 3) (N := some 43) (v := ?_) (a' := ?_) #[true, true, true, true, false, false, false, false, false, false, false, false, false, false, false, false, false, false, false, false, false, false, false, false, false, false, false] rfl rfl (any_of HT_.out (by kernel_rfl)) (fun _ _ _ h => h) (Or.inl ⟨by rfl, ?_⟩) ?_ ?_
           rotate_left
           ·intro w'
            go_simp
            with_reducible rfl
           rotate_left
           ·simp only [Act.put, List.setIfInBounds_toArray, List.set_cons_zero, List.set_cons_succ, i64_w, i32_w]
            rfl
           refine pure_ (i := 4) (N := some 44) (v := undef) (a' := ?_) #[true, true, true, true, true, false, false, false, false, false, false, false, false, false, false, false, false, false, false, false, false, false, false, false, false, false, false] rfl rfl (any_of HT_.out (by kernel_rfl)) (fun _ _ _ h => h) (Or.inr ⟨by rfl, rfl⟩) ?_ ?_
           rotate_left
           ·simp only [Act.put, List.setIfInBounds_toArray, List.set_cons_zero, List.set_cons_succ, i64_w, i32_w]
            rfl
           refine pure_ (i := 5) (N := some 45) (v := undef) (a' := ?_) #[true, true, true, true, true, true, false, false, false, false, false, false, false, false, false, false, false, false, false, false, false, false, false, false, false, false, false] rfl rfl (any_of HT_.out (by kernel_rfl)) (fun _ _ _ h => h) (Or.inr ⟨by rfl, rfl⟩) ?_ ?_
           rotate_left
           ·simp only [Act.put, List.setIfInBounds_toArray, List.set_cons_zero, List.set_cons_succ, i64_w, i32_w]
            rfl
           refine pure_ (i := 6) (N := some 46) (v := undef) (a' := ?_) #[true, true, true, true, true, true, true, false, false, false, false, false, false, false, false, false, false, false, false, false, false, false, false, false, false, false, false] rfl rfl (any_of HT_.out (by kernel_rfl)) (fun _ _ _ h => h) (Or.inr ⟨by rfl, rfl⟩) ?_ ?_
           rotate_left
           ·simp only [Act.put, List.setIfInBounds_toArray, List.set_cons_zero, List.set_cons_succ, i64_w, i32_w]
            rfl
           refine pure_ (i := 7) (N := some 47) (v := ?_) (a' := ?_) #[true, true, true, true, true, true, true, true, false, false, false, false, false, false, false, false, false, false, false, false, false, false, false, false, false, false, false] rfl rfl (any_of HT_.out (by kernel_rfl)) (fun _ _ _ h => h) (Or.inl ⟨by rfl, ?_⟩) ?_ ?_
           rotate_left
           ·intro w'
            go_simp
            with_reducible rfl
           rotate_left
           ·simp only [Act.put, List.setIfInBounds_toArray, List.set_cons_zero, List.set_cons_succ, i64_w, i32_w]
            rfl
           refine pure_ (i := 8) (N := some 48) (v := ?_) (a' := ?_) #[true, true, true, true, true, true, true, true, true, false, false, false, false, false, false, false, false, false, false, false, false, false, false, false, false, false, false] rfl rfl (any_of HT_.out (by kernel_rfl)) (fun _ _ _ h => h) (Or.inl ⟨by rfl, ?_⟩) ?_ ?_
           rotate_left
           ·intro w'
            go_simp
            with_reducible rfl
           rotate_left
           ·simp only [Act.put, List.setIfInBounds_toArray, List.set_cons_zero, List.set_cons_succ, i64_w, i32_w]
            rfl
           refine pure_ (i := 9) (N := some 49) (v := undef) (a' := ?_) #[true, true, true, true, true, true, true, true, true, true, false, false, false, false, false, false, false, false, false, false, false, false, false, false, false, false, false] rfl rfl (any_of HT_.out (by kernel_rfl)) (fun _ _ _ h => h) (Or.inr ⟨by rfl, rfl⟩) ?_ ?_
           rotate_left
           ·simp only [Act.put, List.setIfInBounds_toArray, List.set_cons_zero, List.set_cons_succ, i64_w, i32_w]
            rfl
           refine pure_ (i := 10) (N := some 50) (v := undef) (a' := ?_) #[true, true, true, true, true, true, true, true, true, true, true, false, false, false, false, false, false, false, false, false, false, false, false, false, false, false, false] rfl rfl (any_of HT_.out (by kernel_rfl)) (fun _ _ _ h => h) (Or.inr ⟨by rfl, rfl⟩) ?_ ?_
           rotate_left
           ·simp only [Act.put, List.setIfInBounds_toArray, List.set_cons_zero, List.set_cons_succ, i64_w, i32_w]
            rfl
           refine pure_ (i := 11) (N := some 51) (v := undef) (a' := ?_) #[true, true, true, true, true, true, true, true, true, true, true, true, false, false, false, false, false, false, false, false, false, false, false, false, false, false, false] rfl rfl (any_of HT_.out (by kernel_rfl)) (fun _ _ _ h => h) (Or.inr ⟨by rfl, rfl⟩) ?_ ?_
           rotate_left
           ·simp only [Act.put, List.setIfInBounds_toArray, List.set_cons_zero, List.set_cons_succ, i64_w, i32_w]
            rfl
           refine pure_ (i := 12) (N := some 52) (v := ?_) (a' := ?_) #[true, true, true, true, true, true, true, true, true, true, true, true, true, false, false, false, false, false, false, false, false, false, false, false, false, false, false] rfl rfl (any_of HT_.out (by kernel_rfl)) (fun _ _ _ h => h) (Or.inl ⟨by rfl, ?_⟩) ?_ ?_
           rotate_left
           ·intro w'
            go_simp
            with_reducible rfl
           rotate_left
           ·simp only [Act.put, List.setIfInBounds_toArray, List.set_cons_zero, List.set_cons_succ, i64_w, i32_w]
            rfl
           refine pure_ (i := 13) (N := some 53) (v := ?_) (a' := ?_) #[true, true, true, true, true, true, true, true, true, true, true, true, true, true, false, false, false, false, false, false, false, false, false, false, false, false, false] rfl rfl (any_of HT_.out (by kernel_rfl)) (fun _ _ _ h => h) (Or.inl ⟨by rfl, ?_⟩) ?_ ?_
           rotate_left
           ·intro w'
            go_simp
            with_reducible rfl
           rotate_left
           ·simp only [Act.put, List.setIfInBounds_toArray, List.set_cons_zero, List.set_cons_succ, i64_w, i32_w]
            rfl
           refine pure_ (i := 14) (N := some 54) (v := undef) (a' := ?_) #[true, true, true, true, true, true, true, true, true, true, true, true, true, true, true, false, false, false, false, false, false, false, false, false, false, false, false] rfl rfl (any_of HT_.out (by kernel_rfl)) (fun _ _ _ h => h) (Or.inr ⟨by rfl, rfl⟩) ?_ ?_
           rotate_left
           ·simp only [Act.put, List.setIfInBounds_toArray, List.set_cons_zero, List.set_cons_succ, i64_w, i32_w]
            rfl
           refine pure_ (i := 15) (N := some 55) (v := undef) (a' := ?_) #[true, true, true, true, true, true, true, true, true, true, true, true, true, true, true, true, false, false, false, false, false, false, false, false, false, false, false] rfl rfl (any_of HT_.out (by kernel_rfl)) (fun _ _ _ h => h) (Or.inr ⟨by rfl, rfl⟩) ?_ ?_
           rotate_left
           ·simp only [Act.put, List.setIfInBounds_toArray, List.set_cons_zero, List.set_cons_succ, i64_w, i32_w]
            rfl
           refine pure_ (i := 16) (N := some 56) (v := undef) (a' := ?_) #[true, true, true, true, true, true, true, true, true, true, true, true, true, true, true, true, true, false, false, false, false, false, false, false, false, false, false] rfl rfl (any_of HT_.out (by kernel_rfl)) (fun _ _ _ h => h) (Or.inr ⟨by rfl, rfl⟩) ?_ ?_
           rotate_left
           ·simp only [Act.put, List.setIfInBounds_toArray, List.set_cons_zero, List.set_cons_succ, i64_w, i32_w]
            rfl
           refine pure_ (i := 17) (N := some 57) (v := ?_) (a' := ?_) #[true, true, true, true, true, true, true, true, true, true, true, true, true, true, true, true, true, true, false, false, false, false, false, false, false, false, false] rfl rfl (any_of HT_.out (by kernel_rfl)) (fun _ _ _ h => h) (Or.inl ⟨by rfl, ?_⟩) ?_ ?_
           rotate_left
           ·intro w'
            go_simp
            with_reducible rfl
           rotate_left
           ·simp only [Act.put, List.setIfInBounds_toArray, List.set_cons_zero, List.set_cons_succ, i64_w, i32_w]
            rfl
           refine pure_ (i := 18) (N := some 58) (v := ?_) (a' := ?_) #[true, true, true, true, true, true, true, true, true, true, true, true, true, true, true, true, true, true, true, false, false, false, false, false, false, false, false] rfl rfl (any_of HT_.out (by kernel_rfl)) (fun _ _ _ h => h) (Or.inl ⟨by rfl, ?_⟩) ?_ ?_
           rotate_left
           ·intro w'
            go_simp
            with_reducible rfl
           rotate_left
           ·simp only [Act.put, List.setIfInBounds_toArray, List.set_cons_zero, List.set_cons_succ, i64_w, i32_w]
            rfl
           refine pure_ (i := 19) (N := some 59) (v := undef) (a' := ?_) #[true, true, true, true, true, true, true, true, true, true, true, true, true, true, true, true, true, true, true, true, false, false, false, false, false, false, false] rfl rfl (any_of HT_.out (by kernel_rfl)) (fun _ _ _ h => h) (Or.inr ⟨by rfl, rfl⟩) ?_ ?_
           rotate_left
           ·simp only [Act.put, List.setIfInBounds_toArray, List.set_cons_zero, List.set_cons_succ, i64_w, i32_w]
            rfl
           refine pure_ (i := 20) (N := some 60) (v := undef) (a' := ?_) #[true, true, true, true, true, true, true, true, true, true, true, true, true, true, true, true, true, true, true, true, true, false, false, false, false, false, false] rfl rfl (any_of HT_.out (by kernel_rfl)) (fun _ _ _ h => h) (Or.inr ⟨by rfl, rfl⟩) ?_ ?_
           rotate_left
           ·simp only [Act.put, List.setIfInBounds_toArray, List.set_cons_zero, List.set_cons_succ, i64_w, i32_w]
            rfl
           refine pure_ (i := 21) (N := some 61) (v := undef) (a' := ?_) #[true, true, true, true, true, true, true, true, true, true, true, true, true, true, true, true, true, true, true, true, true, true, false, false, false, false, false] rfl rfl (any_of HT_.out (by kernel_rfl)) (fun _ _ _ h => h) (Or.inr ⟨by rfl, rfl⟩) ?_ ?_
           rotate_left
           ·simp only [Act.put, List.setIfInBounds_toArray, List.set_cons_zero, List.set_cons_succ, i64_w, i32_w]
            rfl
           refine pure_ (i := 22) (N := some 62) (v := undef) (a' := ?_) #[true, true, true, true, true, true, true, true, true, true, true, true, true, true, true, true, true, true, true, true, true, true, true, false, false, false, false] rfl rfl (any_of HT_.out (by kernel_rfl)) (fun _ _ _ h => h) (Or.inr ⟨by rfl, rfl⟩) ?_ ?_
           rotate_left
           ·simp only [Act.put, List.setIfInBounds_toArray, List.set_cons_zero, List.set_cons_succ, i64_w, i32_w]
            rfl
           refine pure_ (i := 23) (N := some 63) (v := undef) (a' := ?_) #[true, true, true, true, true, true, true, true, true, true, true, true, true, true, true, true, true, true, true, true, true, true, true, true, false, false, false] rfl rfl (any_of HT_.out (by kernel_rfl)) (fun _ _ _ h => h) (Or.inr ⟨by rfl, rfl⟩) ?_ ?_
           rotate_left
           ·simp only [Act.put, List.setIfInBounds_toArray, List.set_cons_zero, List.set_cons_succ, i64_w, i32_w]
            rfl
           refine pure_ (i := 24) (N := some 64) (v := undef) (a' := ?_) #[true, true, true, true, true, true, true, true, true, true, true, true, true, true, true, true, true, true, true, true, true, true, true, true, true, false, false] rfl rfl (any_of HT_.out (by kernel_rfl)) (fun _ _ _ h => h) (Or.inr ⟨by rfl, rfl⟩) ?_ ?_
           rotate_left
           ·simp only [Act.put, List.setIfInBounds_toArray, List.set_cons_zero, List.set_cons_succ, i64_w, i32_w]
            rfl
           refine pure_ (i := 25) (N := some 65) (v := undef) (a' := ?_) #[true, true, true, true, true, true, true, true, true, true, true, true, true, true, true, true, true, true, true, true, true, true, true, true, true, true, false] rfl rfl (any_of HT_.out (by kernel_rfl)) (fun _ _ _ h => h) (Or.inr ⟨by rfl, rfl⟩) ?_ ?_
           rotate_left
           ·simp only [Act.put, List.setIfInBounds_toArray, List.set_cons_zero, List.set_cons_succ, i64_w, i32_w]
            rfl
           refine pure_ (i := 26) (N := some 66) (v := ?_) (a' := ?_) #[true, true, true, true, true, true, true, true, true, true, true, true, true, true, true, true, true, true, true, true, true, true, true, true, true, true, true] rfl rfl (any_of HT_.out (by kernel_rfl)) (fun _ _ _ h => h) (Or.inl ⟨by rfl, ?_⟩) ?_ ?_
           rotate_left
           ·intro w'
            go_simp
            with_reducible rfl
           rotate_left
           ·simp only [Act.put, List.setIfInBounds_toArray, List.set_cons_zero, List.set_cons_succ, i64_w, i32_w]
            rfl
           refine done_ (done_of HT_.out (by kernel_rfl)) ?_
           try go_wp2
           go_meet
           case rel => exact ⟨_, (true), (by first | rfl | (simp; done) | (simp [*]; done)), H', ⟨by have := HJ2.out; have := HK2.out; first | omega | exact Nat.le_refl _⟩, ⟨by (with_reducible repeat (first | refine blk_drewN ?_ _ | refine blk_drew ?_ | refine blk_alloc ?_ _)); exact BK391.out⟩, ⟨by (with_reducible repeat (first | refine blk_drewN ?_ _ | refine blk_drew ?_ | refine blk_alloc ?_ _)); exact BK392.out⟩, ⟨by (with_reducible repeat (first | refine blk_drewN ?_ _ | refine blk_drew ?_ | refine blk_alloc ?_ _)); exact BK395.out⟩, ⟨by repeat (first | (with_reducible first | exact HB.out | apply below_alloc | apply pw_below_drewN | apply below_drew1 | refine below_set ?_ GE391.out | refine below_set ?_ GE392.out | refine below_set ?_ GE395.out) | exact HB.out)⟩⟩
          ·rw [if_neg c38] at H
           have c38b0 : decide (((rd_T50 l1_1 x35_2).f1) < (-1000000)) = false := decide_eq_false c38
           clear c38
           (first | rw [c38b0] | (simp only [i64_w, i32_w]; rw [c38b0]) | skip)
           by_cases c41 : ((rd_T50 l1_1 x35_2).f1) > 1000000
           ·rw [if_pos c41] at H
            have c41b0 : decide (1000000 < ((rd_T50 l1_1 x35_2).f1)) = true := decide_eq_true c41
            clear c41
            have H' := Aside0.mk H
            clear H
            try go_wp2
            have n0_ : Aside0 ((((((w34.setCell ⟨gb395, 0, none⟩ (.int .i64 ((rd_T50 l1_1 x35_2).f0))).setCell ⟨gb395, 1, none⟩ (.int .i64 ((rd_T50 l1_1 x35_2).f1))).setCell ⟨gb395, 2, none⟩ (.bool ((rd_T50 l1_1 x35_2).f2))).setCell ⟨gb395, 3, none⟩ (.bool ((rd_T50 l1_1 x35_2).f3))).setCell ⟨gb395, 4, none⟩ (.int .i64 ((rd_T50 l1_1 x35_2).f4))).heap[gb391]? = some (.cells #[.int .i64 a0_0, .slice A0_1 l0_1.length c0_1] 30 (0, 0))) := ⟨by (with_reducible repeat (first | refine blk_drewN ?_ _ | refine blk_drew ?_ | refine blk_alloc ?_ _)); refine blk_far ?_ NB391_395.out _; (with_reducible repeat (first | refine blk_drewN ?_ _ | refine blk_drew ?_ | refine blk_alloc ?_ _)); refine blk_far ?_ NB391_395.out _; (with_reducible repeat (first | refine blk_drewN ?_ _ | refine blk_drew ?_ | refine blk_alloc ?_ _)); refine blk_far ?_ NB391_395.out _; (with_reducible repeat (first | refine blk_drewN ?_ _ | refine blk_drew ?_ | refine blk_alloc ?_ _)); refine blk_far ?_ NB391_395.out _; (with_reducible repeat (first | refine blk_drewN ?_ _ | refine blk_drew ?_ | refine blk_alloc ?_ _)); refine blk_far ?_ NB391_395.out _; (with_reducible repeat (first | refine blk_drewN ?_ _ | refine blk_drew ?_ | refine blk_alloc ?_ _)); exact BK391.out⟩
            have n1_ : Aside0 ((((((w34.setCell ⟨gb395, 0, none⟩ (.int .i64 ((rd_T50 l1_1 x35_2).f0))).setCell ⟨gb395, 1, none⟩ (.int .i64 ((rd_T50 l1_1 x35_2).f1))).setCell ⟨gb395, 2, none⟩ (.bool ((rd_T50 l1_1 x35_2).f2))).setCell ⟨gb395, 3, none⟩ (.bool ((rd_T50 l1_1 x35_2).f3))).setCell ⟨gb395, 4, none⟩ (.int .i64 ((rd_T50 l1_1 x35_2).f4))).heap[gb392]? = some (.cells #[.bool a1_0, .slice (some ad394) l1_1.length c1_1, .slice A1_2 l1_2.length c1_2] 46 (0, 0))) := ⟨by (with_reducible repeat (first | refine blk_drewN ?_ _ | refine blk_drew ?_ | refine blk_alloc ?_ _)); refine blk_far ?_ NB392_395.out _; (with_reducible repeat (first | refine blk_drewN ?_ _ | refine blk_drew ?_ | refine blk_alloc ?_ _)); refine blk_far ?_ NB392_395.out _; (with_reducible repeat (first | refine blk_drewN ?_ _ | refine blk_drew ?_ | refine blk_alloc ?_ _)); refine blk_far ?_ NB392_395.out _; (with_reducible repeat (first | refine blk_drewN ?_ _ | refine blk_drew ?_ | refine blk_alloc ?_ _)); refine blk_far ?_ NB392_395.out _; (with_reducible repeat (first | refine blk_drewN ?_ _ | refine blk_drew ?_ | refine blk_alloc ?_ _)); refine blk_far ?_ NB392_395.out _; (with_reducible repeat (first | refine blk_drewN ?_ _ | refine blk_drew ?_ | refine blk_alloc ?_ _)); exact BK392.out⟩
            have n2_ : Aside0 ((((((w34.setCell ⟨gb395, 0, none⟩ (.int .i64 ((rd_T50 l1_1 x35_2).f0))).setCell ⟨gb395, 1, none⟩ (.int .i64 ((rd_T50 l1_1 x35_2).f1))).setCell ⟨gb395, 2, none⟩ (.bool ((rd_T50 l1_1 x35_2).f2))).setCell ⟨gb395, 3, none⟩ (.bool ((rd_T50 l1_1 x35_2).f3))).setCell ⟨gb395, 4, none⟩ (.int .i64 ((rd_T50 l1_1 x35_2).f4))).heap[gb395]? = some (.cells #[.int .i64 ((rd_T50 l1_1 x35_2).f0), .int .i64 ((rd_T50 l1_1 x35_2).f1), .bool ((rd_T50 l1_1 x35_2).f2), .bool ((rd_T50 l1_1 x35_2).f3), .int .i64 ((rd_T50 l1_1 x35_2).f4)] 50 (0, 0))) := ⟨by (with_reducible repeat (first | refine blk_drewN ?_ _ | refine blk_drew ?_ | refine blk_alloc ?_ _)); refine blk_put (cs := #[.int .i64 ((rd_T50 l1_1 x35_2).f0), .int .i64 ((rd_T50 l1_1 x35_2).f1), .bool ((rd_T50 l1_1 x35_2).f2), .bool ((rd_T50 l1_1 x35_2).f3), .int .i64 0]) ?_ 4 _ rfl; (with_reducible repeat (first | refine blk_drewN ?_ _ | refine blk_drew ?_ | refine blk_alloc ?_ _)); refine blk_put (cs := #[.int .i64 ((rd_T50 l1_1 x35_2).f0), .int .i64 ((rd_T50 l1_1 x35_2).f1), .bool ((rd_T50 l1_1 x35_2).f2), .bool false, .int .i64 0]) ?_ 3 _ rfl; (with_reducible repeat (first | refine blk_drewN ?_ _ | refine blk_drew ?_ | refine blk_alloc ?_ _)); refine blk_put (cs := #[.int .i64 ((rd_T50 l1_1 x35_2).f0), .int .i64 ((rd_T50 l1_1 x35_2).f1), .bool false, .bool false, .int .i64 0]) ?_ 2 _ rfl; (with_reducible repeat (first | refine blk_drewN ?_ _ | refine blk_drew ?_ | refine blk_alloc ?_ _)); refine blk_put (cs := #[.int .i64 ((rd_T50 l1_1 x35_2).f0), .int .i64 0, .bool false, .bool false, .int .i64 0]) ?_ 1 _ rfl; (with_reducible repeat (first | refine blk_drewN ?_ _ | refine blk_drew ?_ | refine blk_alloc ?_ _)); refine blk_put (cs := #[.int .i64 0, .int .i64 0, .bool false, .bool false, .int .i64 0]) ?_ 0 _ rfl; (with_reducible repeat (first | refine blk_drewN ?_ _ | refine blk_drew ?_ | refine blk_alloc ?_ _)); exact BK395.out⟩
            have n3_ : Aside0 (Below w.heap.size w (((((w34.setCell ⟨gb395, 0, none⟩ (.int .i64 ((rd_T50 l1_1 x35_2).f0))).setCell ⟨gb395, 1, none⟩ (.int .i64 ((rd_T50 l1_1 x35_2).f1))).setCell ⟨gb395, 2, none⟩ (.bool ((rd_T50 l1_1 x35_2).f2))).setCell ⟨gb395, 3, none⟩ (.bool ((rd_T50 l1_1 x35_2).f3))).setCell ⟨gb395, 4, none⟩ (.int .i64 ((rd_T50 l1_1 x35_2).f4)))) := ⟨by repeat (first | (with_reducible first | exact HB.out | apply below_alloc | apply pw_below_drewN | apply below_drew1 | refine below_set ?_ GE391.out | refine below_set ?_ GE392.out | refine below_set ?_ GE395.out) | exact HB.out)⟩
            (try clear BK391)
            (try clear BK392)
            (try clear BK395)
            (try clear HB)
            generalize (((((w34.setCell ⟨gb395, 0, none⟩ (.int .i64 ((rd_T50 l1_1 x35_2).f0))).setCell ⟨gb395, 1, none⟩ (.int .i64 ((rd_T50 l1_1 x35_2).f1))).setCell ⟨gb395, 2, none⟩ (.bool ((rd_T50 l1_1 x35_2).f2))).setCell ⟨gb395, 3, none⟩ (.bool ((rd_T50 l1_1 x35_2).f3))).setCell ⟨gb395, 4, none⟩ (.int .i64 ((rd_T50 l1_1 x35_2).f4))) = w42 at n0_ n1_ n2_ n3_ ⊢
            have BK391 := n0_
            have BK392 := n1_
            have BK395 := n2_
            have HB := n3_
            clear n0_ n1_ n2_ n3_
            have n0_ := Aside0.mk (blk_drew BK391.out)
            have n1_ := Aside0.mk (blk_drew BK392.out)
            have n2_ := Aside0.mk (blk_drew BK395.out)
            have n3_ := Aside0.mk (below_drew1 HB.out)
            clear BK391
            clear BK392
            clear BK395
            clear HB
            have BK391 := n0_
            have BK392 := n1_
            have BK395 := n2_
            have HB := n3_
            clear n0_ n1_ n2_ n3_
            refine start_ (n := 27) (S := fun w' => w'.cell? ⟨gb395, 0, none⟩ = some (.int .i64 ((rd_T50 l1_1 x35_2).f0)) ∧ w'.cell? ⟨gb395, 1, none⟩ = some (.int .i64 ((rd_T50 l1_1 x35_2).f1)) ∧ w'.cell? ⟨gb395, 2, none⟩ = some (.bool ((rd_T50 l1_1 x35_2).f2)) ∧ w'.cell? ⟨gb395, 3, none⟩ = some (.bool ((rd_T50 l1_1 x35_2).f3)) ∧ w'.cell? ⟨gb395, 4, none⟩ = some (.int .i64 ((rd_T50 l1_1 x35_2).f4))) (ds := []) #[false, false, false, false, false, false, false, false, false, false, false, false, false, false, false, false, false, false, false, false, false, false, false, false, false, false, false] (by kernel_rfl) rfl rfl ⟨(blk_cell BK395.out 0).trans rfl, (blk_cell BK395.out 1).trans rfl, (blk_cell BK395.out 2).trans rfl, (blk_cell BK395.out 3).trans rfl, (blk_cell BK395.out 4).trans rfl⟩ (fun hHeld => ?_); refine with_tabW impl_StateOk.tab6 impl_StateOk.bits6 (fun HT_ HW_ => ?_)
            generalize w42.drew = w43 at BK391 BK392 BK395 HB hHeld ⊢
            refine pure_ (i := 0) (N := some 40) (v := ?_) (a' := ?_) #[true, false, false, false, false, false, false, false, false, false, false, false, false, false, false, false, false, false, false, false, false, false, false, false, false, false, false] rfl rfl (any_of HT_.out (by kernel_rfl)) (fun _ _ _ h => h) (Or.inl ⟨by rfl, ?_⟩) ?_ ?_
            rotate_left
            ·intro w'
             go_simp
             with_reducible rfl
            rotate_left
            ·simp only [Act.put, List.setIfInBounds_toArray, List.set_cons_zero, List.set_cons_succ, i64_w, i32_w]
             rfl
            refine take_ (i := 1) (N := some 41) (v := ?_) (a' := ?_) #[true, true, false, false, false, false, false, false, false, false, false, false, false, false, false, false, false, false, false, false, false, false, false, false, false, false, false] rfl rfl (take_ofW HT_.out HW_.out (by kernel_rfl)) (fun _ _ _ h => h) (Or.inl ⟨by rfl, ?_⟩) hHeld ?_ ?_
            rotate_left
            ·rintro w' ⟨s0, s1, s2, s3, s4⟩
             go_simp
             with_reducible rfl
            rotate_left
            ·simp only [Act.put, List.setIfInBounds_toArray, List.set_cons_zero, List.set_cons_succ, i64_w, i32_w]
             rfl
            refine pure_ (i := 2) (N := some 42) (v := ?_) (a' := ?_) #[true, true, true, false, false, false, false, false, false, false, false, false, false, false, false, false, false, false, false, false, false, false, false, false, false, false, false] rfl rfl (any_of HT_.out (by kernel_rfl)) (fun _ _ _ h => h) (Or.inl ⟨by rfl, ?_⟩) ?_ ?_
            rotate_left
            ·intro w'
             go_simp
             with_reducible rfl
            rotate_left
            ·simp only [Act.put, List.setIfInBounds_toArray, List.set_cons_zero, List.set_cons_succ, i64_w, i32_w]
             rfl
            refine pure_ (i := 3) (N := some 43) (v := ?_) (a' := ?_) #[true, true, true, true, false, false, false, false, false, false, false, false, false, false, false, false, false, false, false, false, false, false, false, false, false, false, false] rfl rfl (any_of HT_.out (by kernel_rfl)) (fun _ _ _ h => h) (Or.inl ⟨by rfl, ?_⟩) ?_ ?_
            rotate_left
            ·intro w'
             go_simp
             with_reducible rfl
            rotate_left
            ·simp only [Act.put, List.setIfInBounds_toArray, List.set_cons_zero, List.set_cons_succ, i64_w, i32_w]
             rfl
            refine pure_ (i := 4) (N := some 44) (v := ?_) (a' := ?_) #[true, true, true, true, true, false, false, false, false, false, false, false, false, false, false, false, false, false, false, false, false, false, false, false, false, false, false] rfl rfl (any_of HT_.out (by kernel_rfl)) (fun _ _ _ h => h) (Or.inl ⟨by rfl, ?_⟩) ?_ ?_
            rotate_left
            ·intro w'
             go_simp
             with_reducible rfl
            rotate_left
            ·simp only [Act.put, List.setIfInBounds_toArray, List.set_cons_zero, List.set_cons_succ, i64_w, i32_w]
             rfl
            refine take_ (i := 5) (N := some 45) (v := ?_) (a' := ?_) #[true, true, true, true, true, true, false, false, false, false, false, false, false, false, false, false, false, false, false, false, false, false, false, false, false, false, false] rfl rfl (take_ofW HT_.out HW_.out (by kernel_rfl)) (fun _ _ _ h => h) (Or.inl ⟨by rfl, ?_⟩) hHeld ?_ ?_
            rotate_left
            ·rintro w' ⟨s0, s1, s2, s3, s4⟩
             go_simp
             with_reducible rfl
            rotate_left
            ·simp only [Act.put, List.setIfInBounds_toArray, List.set_cons_zero, List.set_cons_succ, i64_w, i32_w]
             rfl
            refine pure_ (i := 6) (N := some 46) (v := ?_) (a' := ?_) #[true, true, true, true, true, true, true, false, false, false, false, false, false, false, false, false, false, false, false, false, false, false, false, false, false, false, false] rfl rfl (any_of HT_.out (by kernel_rfl)) (fun _ _ _ h => h) (Or.inl ⟨by rfl, ?_⟩) ?_ ?_
            rotate_left
            ·intro w'
             go_simp
             with_reducible rfl
            rotate_left
            ·simp only [Act.put, List.setIfInBounds_toArray, List.set_cons_zero, List.set_cons_succ, i64_w, i32_w]
             rfl
            refine pure_ (i := 7) (N := some 47) (v := ?_) (a' := ?_) #[true, true, true, true, true, true, true, true, false, false, false, false, false, false, false, false, false, false, false, false, false, false, false, false, false, false, false] rfl rfl (any_of HT_.out (by kernel_rfl)) (fun _ _ _ h => h) (Or.inl ⟨by rfl, ?_⟩) ?_ ?_
            rotate_left
            ·intro w'
             go_simp
             with_reducible rfl
            rotate_left
            ·simp only [Act.put, List.setIfInBounds_toArray, List.set_cons_zero, List.set_cons_succ, i64_w, i32_w]
             rfl
            refine pure_ (i := 8) (N := some 48) (v := ?_) (a' := ?_) #[true, true, true, true, true, true, true, true, true, false, false, false, false, false, false, false, false, false, false, false, false, false, false, false, false, false, false] rfl rfl (any_of HT_.out (by kernel_rfl)) (fun _ _ _ h => h) (Or.inl ⟨by rfl, ?_⟩) ?_ ?_
            rotate_left
            ·intro w'
             go_simp
             with_reducible rfl
            rotate_left
            ·simp only [Act.put, List.setIfInBounds_toArray, List.set_cons_zero, List.set_cons_succ, i64_w, i32_w]
             rfl
            refine pure_ (i := 9) (N := some 49) (v := undef) (a' := ?_) #[true, true, true, true, true, true, true, true, true, true, false, false, false, false, false, false, false, false, false, false, false, false, false, false, false, false, false] rfl rfl (any_of HT_.out (by kernel_rfl)) (fun _ _ _ h => h) (Or.inr ⟨by rfl, rfl⟩) ?_ ?_
            rotate_left
            ·simp only [Act.put, List.setIfInBounds_toArray, List.set_cons_zero, List.set_cons_succ, i64_w, i32_w]
             rfl
            refine pure_ (i := 10) (N := some 50) (v := undef) (a' := ?_) #[true, true, true, true, true, true, true, true, true, true, true, false, false, false, false, false, false, false, false, false, false, false, false, false, false, false, false] rfl rfl (any_of HT_.out (by kernel_rfl)) (fun _ _ _ h => h) (Or.inr ⟨by rfl, rfl⟩) ?_ ?_
            rotate_left
            ·simp only [Act.put, List.setIfInBounds_toArray, List.set_cons_zero, List.set_cons_succ, i64_w, i32_w]
             rfl
            refine pure_ (i := 11) (N := some 51) (v := undef) (a' := ?_) #[true, true, true, true, true, true, true, true, true, true, true, true, false, false, false, false, false, false, false, false, false, false, false, false, false, false, false] rfl rfl (any_of HT_.out (by kernel_rfl)) (fun _ _ _ h => h) (Or.inr ⟨by rfl, rfl⟩) ?_ ?_
            rotate_left
            ·simp only [Act.put, List.setIfInBounds_toArray, List.set_cons_zero, List.set_cons_succ, i64_w, i32_w]
             rfl
            refine pure_ (i := 12) (N := some 52) (v := ?_) (a' := ?_) #[true, true, true, true, true, true, true, true, true, true, true, true, true, false, false, false, false, false, false, false, false, false, false, false, false, false, false] rfl rfl (any_of HT_.out (by kernel_rfl)) (fun _ _ _ h => h) (Or.inl ⟨by rfl, ?_⟩) ?_ ?_
            rotate_left
            ·intro w'
             go_simp
             with_reducible rfl
            rotate_left
            ·simp only [Act.put, List.setIfInBounds_toArray, List.set_cons_zero, List.set_cons_succ, i64_w, i32_w]
             rfl
            refine pure_ (i := 13) (N := some 53) (v := ?_) (a' := ?_) #[true, true, true, true, true, true, true, true, true, true, true, true, true, true, false, false, false, false, false, false, false, false, false, false, false, false, false] rfl rfl (any_of HT_.out (by kernel_rfl)) (fun _ _ _ h => h) (Or.inl ⟨by rfl, ?_⟩) ?_ ?_
            rotate_left
            ·intro w'
             go_simp
             with_reducible rfl
            rotate_left
            ·simp only [Act.put, List.setIfInBounds_toArray, List.set_cons_zero, List.set_cons_succ, i64_w, i32_w]
             rfl
            refine pure_ (i := 14) (N := some 54) (v := undef) (a' := ?_) #[true, true, true, true, true, true, true, true, true, true, true, true, true, true, true, false, false, false, false, false, false, false, false, false, false, false, false] rfl rfl (any_of HT_.out (by kernel_rfl)) (fun _ _ _ h => h) (Or.inr ⟨by rfl, rfl⟩) ?_ ?_
            rotate_left
            ·simp only [Act.put, List.setIfInBounds_toArray, List.set_cons_zero, List.set_cons_succ, i64_w, i32_w]
             rfl
            refine pure_ (i := 15) (N := some 55) (v := undef) (a' := ?_) #[true, true, true, true, true, true, true, true, true, true, true, true, true, true, true, true, false, false, false, false, false, false, false, false, false, false, false] rfl rfl (any_of HT_.out (by kernel_rfl)) (fun _ _ _ h => h) (Or.inr ⟨by rfl, rfl⟩) ?_ ?_
            rotate_left
            ·simp only [Act.put, List.setIfInBounds_toArray, List.set_cons_zero, List.set_cons_succ, i64_w, i32_w]
             rfl
            refine pure_ (i := 16) (N := some 56) (v := undef) (a' := ?_) #[true, true, true, true, true, true, true, true, true, true, true, true, true, true, true, true, true, false, false, false, false, false, false, false, false, false, false] rfl rfl (any_of HT_.out (by kernel_rfl)) (fun _ _ _ h => h) (Or.inr ⟨by rfl, rfl⟩) ?_ ?_
            rotate_left
            ·simp only [Act.put, List.setIfInBounds_toArray, List.set_cons_zero, List.set_cons_succ, i64_w, i32_w]
             rfl
            refine pure_ (i := 17) (N := some 57) (v := ?_) (a' := ?_) #[true, true, true, true, true, true, true, true, true, true, true, true, true, true, true, true, true, true, false, false, false, false, false, false, false, false, false] rfl rfl (any_of HT_.out (by kernel_rfl)) (fun _ _ _ h => h) (Or.inl ⟨by rfl, ?_⟩) ?_ ?_
            rotate_left
            ·intro w'
             go_simp
             with_reducible rfl
            rotate_left
            ·simp only [Act.put, List.setIfInBounds_toArray, List.set_cons_zero, List.set_cons_succ, i64_w, i32_w]
             rfl
            refine pure_ (i := 18) (N := some 58) (v := ?_) (a' := ?_) #[true, true, true, true, true, true, true, true, true, true, true, true, true, true, true, true, true, true, true, false, false, false, false, false, false, false, false] rfl rfl (any_of HT_.out (by kernel_rfl)) (fun _ _ _ h => h) (Or.inl ⟨by rfl, ?_⟩) ?_ ?_
            rotate_left
            ·intro w'
             go_simp
             with_reducible rfl
            rotate_left
            ·simp only [Act.put, List.setIfInBounds_toArray, List.set_cons_zero, List.set_cons_succ, i64_w, i32_w]
             rfl
            refine pure_ (i := 19) (N := some 59) (v := undef) (a' := ?_) #[true, true, true, true, true, true, true, true, true, true, true, true, true, true, true, true, true, true, true, true, false, false, false, false, false, false, false] rfl rfl (any_of HT_.out (by kernel_rfl)) (fun _ _ _ h => h) (Or.inr ⟨by rfl, rfl⟩) ?_ ?_
            rotate_left
            ·simp only [Act.put, List.setIfInBounds_toArray, List.set_cons_zero, List.set_cons_succ, i64_w, i32_w]
             rfl
            refine pure_ (i := 20) (N := some 60) (v := undef) (a' := ?_) #[true, true, true, true, true, true, true, true, true, true, true, true, true, true, true, true, true, true, true, true, true, false, false, false, false, false, false] rfl rfl (any_of HT_.out (by kernel_rfl)) (fun _ _ _ h => h) (Or.inr ⟨by rfl, rfl⟩) ?_ ?_
            rotate_left
            ·simp only [Act.put, List.setIfInBounds_toArray, List.set_cons_zero, List.set_cons_succ, i64_w, i32_w]
             rfl
            refine pure_ (i := 21) (N := some 61) (v := undef) (a' := ?_) #[true, true, true, true, true, true, true, true, true, true, true, true, true, true, true, true, true, true, true, true, true, true, false, false, false, false, false] rfl rfl (any_of HT_.out (by kernel_rfl)) (fun _ _ _ h => h) (Or.inr ⟨by rfl, rfl⟩) ?_ ?_
            rotate_left
            ·simp only [Act.put, List.setIfInBounds_toArray, List.set_cons_zero, List.set_cons_succ, i64_w, i32_w]
             rfl
            refine pure_ (i := 22) (N := some 62) (v := undef) (a' := ?_) #[true, true, true, true, true, true, true, true, true, true, true, true, true, true, true, true, true, true, true, true, true, true, true, false, false, false, false] rfl rfl (any_of HT_.out (by kernel_rfl)) (fun _ _ _ h => h) (Or.inr ⟨by rfl, rfl⟩) ?_ ?_
            rotate_left
            ·simp only [Act.put, List.setIfInBounds_toArray, List.set_cons_zero, List.set_cons_succ, i64_w, i32_w]
             rfl
            refine pure_ (i := 23) (N := some 63) (v := undef) (a' := ?_) #[true, true, true, true, true, true, true, true, true, true, true, true, true, true, true, true, true, true, true, true, true, true, true, true, false, false, false] rfl rfl (any_of HT_.out (by kernel_rfl)) (fun _ _ _ h => h) (Or.inr ⟨by rfl, rfl⟩) ?_ ?_
            rotate_left
            ·simp only [Act.put, List.setIfInBounds_toArray, List.set_cons_zero, List.set_cons_succ, i64_w, i32_w]
             rfl
            refine pure_ (i := 24) (N := some 64) (v := undef) (a' := ?_) #[true, true, true, true, true, true, true, true, true, true, true, true, true, true, true, true, true, true, true, true, true, true, true, true, true, false, false] rfl rfl (any_of HT_.out (by kernel_rfl)) (fun _ _ _ h => h) (Or.inr ⟨by rfl, rfl⟩) ?_ ?_
            rotate_left
            ·simp only [Act.put, List.setIfInBounds_toArray, List.set_cons_zero, List.set_cons_succ, i64_w, i32_w]
             rfl
            refine pure_ (i := 25) (N := some 65) (v := undef) (a' := ?_) #[true, true, true, true, true, true, true, true, true, true, true, true, true, true, true, true, true, true, true, true, true, true, true, true, true, true, false] rfl rfl (any_of HT_.out (by kernel_rfl)) (fun _ _ _ h => h) (Or.inr ⟨by rfl, rfl⟩) ?_ ?_
            rotate_left
            ·simp only [Act.put, List.setIfInBounds_toArray, List.set_cons_zero, List.set_cons_succ, i64_w, i32_w]
             rfl
            refine pure_ (i := 26) (N := some 66) (v := ?_) (a' := ?_) #[true, true, true, true, true, true, true, true, true, true, true, true, true, true, true, true, true, true, true, true, true, true, true, true, true, true, true] rfl rfl (any_of HT_.out (by kernel_rfl)) (fun _ _ _ h => h) (Or.inl ⟨by rfl, ?_⟩) ?_ ?_
            rotate_left
            ·intro w'
             go_simp
             with_reducible rfl
            rotate_left
            ·simp only [Act.put, List.setIfInBounds_toArray, List.set_cons_zero, List.set_cons_succ, i64_w, i32_w]
             rfl
            refine done_ (done_of HT_.out (by kernel_rfl)) ?_
            try go_wp2
            go_meet
            case rel => exact ⟨_, (true), (by first | rfl | (simp; done) | (simp [*]; done)), H', ⟨by have := HJ2.out; have := HK2.out; first | omega | exact Nat.le_refl _⟩, ⟨by (with_reducible repeat (first | refine blk_drewN ?_ _ | refine blk_drew ?_ | refine blk_alloc ?_ _)); exact BK391.out⟩, ⟨by (with_reducible repeat (first | refine blk_drewN ?_ _ | refine blk_drew ?_ | refine blk_alloc ?_ _)); exact BK392.out⟩, ⟨by (with_reducible repeat (first | refine blk_drewN ?_ _ | refine blk_drew ?_ | refine blk_alloc ?_ _)); exact BK395.out⟩, ⟨by repeat (first | (with_reducible first | exact HB.out | apply below_alloc | apply pw_below_drewN | apply below_drew1 | refine below_set ?_ GE391.out | refine below_set ?_ GE392.out | refine below_set ?_ GE395.out) | exact HB.out)⟩⟩
           ·rw [if_neg c41] at H
            have c41b0 : decide (1000000 < ((rd_T50 l1_1 x35_2).f1)) = false := decide_eq_false c41
            clear c41
            by_cases c44 : ((rd_T50 l1_1 x35_2).f4) < (-1)
            ·rw [if_pos c44] at H
             have c44b0 : decide (((rd_T50 l1_1 x35_2).f4) < (-1)) = true := decide_eq_true c44
             clear c44
             have H' := Aside0.mk H
             clear H
             try go_wp2
             have n0_ : Aside0 ((((((w34.setCell ⟨gb395, 0, none⟩ (.int .i64 ((rd_T50 l1_1 x35_2).f0))).setCell ⟨gb395, 1, none⟩ (.int .i64 ((rd_T50 l1_1 x35_2).f1))).setCell ⟨gb395, 2, none⟩ (.bool ((rd_T50 l1_1 x35_2).f2))).setCell ⟨gb395, 3, none⟩ (.bool ((rd_T50 l1_1 x35_2).f3))).setCell ⟨gb395, 4, none⟩ (.int .i64 ((rd_T50 l1_1 x35_2).f4))).heap[gb391]? = some (.cells #[.int .i64 a0_0, .slice A0_1 l0_1.length c0_1] 30 (0, 0))) := ⟨by (with_reducible repeat (first | refine blk_drewN ?_ _ | refine blk_drew ?_ | refine blk_alloc ?_ _)); refine blk_far ?_ NB391_395.out _; (with_reducible repeat (first | refine blk_drewN ?_ _ | refine blk_drew ?_ | refine blk_alloc ?_ _)); refine blk_far ?_ NB391_395.out _; (with_reducible repeat (first | refine blk_drewN ?_ _ | refine blk_drew ?_ | refine blk_alloc ?_ _)); refine blk_far ?_ NB391_395.out _; (with_reducible repeat (first | refine blk_drewN ?_ _ | refine blk_drew ?_ | refine blk_alloc ?_ _)); refine blk_far ?_ NB391_395.out _; (with_reducible repeat (first | refine blk_drewN ?_ _ | refine blk_drew ?_ | refine blk_alloc ?_ _)); refine blk_far ?_ NB391_395.out _; (with_reducible repeat (first | refine blk_drewN ?_ _ | refine blk_drew ?_ | refine blk_alloc ?_ _)); exact BK391.out⟩
             have n1_ : Aside0 ((((((w34.setCell ⟨gb395, 0, none⟩ (.int .i64 ((rd_T50 l1_1 x35_2).f0))).setCell ⟨gb395, 1, none⟩ (.int .i64 ((rd_T50 l1_1 x35_2).f1))).setCell ⟨gb395, 2, none⟩ (.bool ((rd_T50 l1_1 x35_2).f2))).setCell ⟨gb395, 3, none⟩ (.bool ((rd_T50 l1_1 x35_2).f3))).setCell ⟨gb395, 4, none⟩ (.int .i64 ((rd_T50 l1_1 x35_2).f4))).heap[gb392]? = some (.cells #[.bool a1_0, .slice (some ad394) l1_1.length c1_1, .slice A1_2 l1_2.length c1_2] 46 (0, 0))) := ⟨by (with_reducible repeat (first | refine blk_drewN ?_ _ | refine blk_drew ?_ | refine blk_alloc ?_ _)); refine blk_far ?_ NB392_395.out _; (with_reducible repeat (first | refine blk_drewN ?_ _ | refine blk_drew ?_ | refine blk_alloc ?_ _)); refine blk_far ?_ NB392_395.out _; (with_reducible repeat (first | refine blk_drewN ?_ _ | refine blk_drew ?_ | refine blk_alloc ?_ _)); refine blk_far ?_ NB392_395.out _; (with_reducible repeat (first | refine blk_drewN ?_ _ | refine blk_drew ?_ | refine blk_alloc ?_ _)); refine blk_far ?_ NB392_395.out _; (with_reducible repeat (first | refine blk_drewN ?_ _ | refine blk_drew ?_ | refine blk_alloc ?_ _)); refine blk_far ?_ NB392_395.out _; (with_reducible repeat (first | refine blk_drewN ?_ _ | refine blk_drew ?_ | refine blk_alloc ?_ _)); exact BK392.out⟩
             have n2_ : Aside0 ((((((w34.setCell ⟨gb395, 0, none⟩ (.int .i64 ((rd_T50 l1_1 x35_2).f0))).setCell ⟨gb395, 1, none⟩ (.int .i64 ((rd_T50 l1_1 x35_2).f1))).setCell ⟨gb395, 2, none⟩ (.bool ((rd_T50 l1_1 x35_2).f2))).setCell ⟨gb395, 3, none⟩ (.bool ((rd_T50 l1_1 x35_2).f3))).setCell ⟨gb395, 4, none⟩ (.int .i64 ((rd_T50 l1_1 x35_2).f4))).heap[gb395]? = some (.cells #[.int .i64 ((rd_T50 l1_1 x35_2).f0), .int .i64 ((rd_T50 l1_1 x35_2).f1), .bool ((rd_T50 l1_1 x35_2).f2), .bool ((rd_T50 l1_1 x35_2).f3), .int .i64 ((rd_T50 l1_1 x35_2).f4)] 50 (0, 0))) := ⟨by (with_reducible repeat (first | refine blk_drewN ?_ _ | refine blk_drew ?_ | refine blk_alloc ?_ _)); refine blk_put (cs := #[.int .i64 ((rd_T50 l1_1 x35_2).f0), .int .i64 ((rd_T50 l1_1 x35_2).f1), .bool ((rd_T50 l1_1 x35_2).f2), .bool ((rd_T50 l1_1 x35_2).f3), .int .i64 0]) ?_ 4 _ rfl; (with_reducible repeat (first | refine blk_drewN ?_ _ | refine blk_drew ?_ | refine blk_alloc ?_ _)); refine blk_put (cs := #[.int .i64 ((rd_T50 l1_1 x35_2).f0), .int .i64 ((rd_T50 l1_1 x35_2).f1), .bool ((rd_T50 l1_1 x35_2).f2), .bool false, .int .i64 0]) ?_ 3 _ rfl; (with_reducible repeat (first | refine blk_drewN ?_ _ | refine blk_drew ?_ | refine blk_alloc ?_ _)); refine blk_put (cs := #[.int .i64 ((rd_T50 l1_1 x35_2).f0), .int .i64 ((rd_T50 l1_1 x35_2).f1), .bool false, .bool false, .int .i64 0]) ?_ 2 _ rfl; (with_reducible repeat (first | refine blk_drewN ?_ _ | refine blk_drew ?_ | refine blk_alloc ?_ _)); refine blk_put (cs := #[.int .i64 ((rd_T50 l1_1 x35_2).f0), .int .i64 0, .bool false, .bool false, .int .i64 0]) ?_ 1 _ rfl; (with_reducible repeat (first | refine blk_drewN ?_ _ | refine blk_drew ?_ | refine blk_alloc ?_ _)); refine blk_put (cs := #[.int .i64 0, .int .i64 0, .bool false, .bool false, .int .i64 0]) ?_ 0 _ rfl; (with_reducible repeat (first | refine blk_drewN ?_ _ | refine blk_drew ?_ | refine blk_alloc ?_ _)); exact BK395.out⟩
             have n3_ : Aside0 (Below w.heap.size w (((((w34.setCell ⟨gb395, 0, none⟩ (.int .i64 ((rd_T50 l1_1 x35_2).f0))).setCell ⟨gb395, 1, none⟩ (.int .i64 ((rd_T50 l1_1 x35_2).f1))).setCell ⟨gb395, 2, none⟩ (.bool ((rd_T50 l1_1 x35_2).f2))).setCell ⟨gb395, 3, none⟩ (.bool ((rd_T50 l1_1 x35_2).f3))).setCell ⟨gb395, 4, none⟩ (.int .i64 ((rd_T50 l1_1 x35_2).f4)))) := ⟨by repeat (first | (with_reducible first | exact HB.out | apply below_alloc | apply pw_below_drewN | apply below_drew1 | refine below_set ?_ GE391.out | refine below_set ?_ GE392.out | refine below_set ?_ GE395.out) | exact HB.out)⟩
             (try clear BK391)
             (try clear BK392)
             (try clear BK395)
             (try clear HB)
             generalize (((((w34.setCell ⟨gb395, 0, none⟩ (.int .i64 ((rd_T50 l1_1 x35_2).f0))).setCell ⟨gb395, 1, none⟩ (.int .i64 ((rd_T50 l1_1 x35_2).f1))).setCell ⟨gb395, 2, none⟩ (.bool ((rd_T50 l1_1 x35_2).f2))).setCell ⟨gb395, 3, none⟩ (.bool ((rd_T50 l1_1 x35_2).f3))).setCell ⟨gb395, 4, none⟩ (.int .i64 ((rd_T50 l1_1 x35_2).f4))) = w45 at n0_ n1_ n2_ n3_ ⊢
             have BK391 := n0_
             have BK392 := n1_
             have BK395 := n2_
             have HB := n3_
             clear n0_ n1_ n2_ n3_
             have n0_ := Aside0.mk (blk_drew BK391.out)
             have n1_ := Aside0.mk (blk_drew BK392.out)
             have n2_ := Aside0.mk (blk_drew BK395.out)
             have n3_ := Aside0.mk (below_drew1 HB.out)
             clear BK391
             clear BK392
             clear BK395
             clear HB
             have BK391 := n0_
             have BK392 := n1_
             have BK395 := n2_
             have HB := n3_
             clear n0_ n1_ n2_ n3_
             refine start_ (n := 27) (S := fun w' => w'.cell? ⟨gb395, 0, none⟩ = some (.int .i64 ((rd_T50 l1_1 x35_2).f0)) ∧ w'.cell? ⟨gb395, 1, none⟩ = some (.int .i64 ((rd_T50 l1_1 x35_2).f1)) ∧ w'.cell? ⟨gb395, 2, none⟩ = some (.bool ((rd_T50 l1_1 x35_2).f2)) ∧ w'.cell? ⟨gb395, 3, none⟩ = some (.bool ((rd_T50 l1_1 x35_2).f3)) ∧ w'.cell? ⟨gb395, 4, none⟩ = some (.int .i64 ((rd_T50 l1_1 x35_2).f4))) (ds := []) #[false, false, false, false, false, false, false, false, false, false, false, false, false, false, false, false, false, false, false, false, false, false, false, false, false, false, false] (by kernel_rfl) rfl rfl ⟨(blk_cell BK395.out 0).trans rfl, (blk_cell BK395.out 1).trans rfl, (blk_cell BK395.out 2).trans rfl, (blk_cell BK395.out 3).trans rfl, (blk_cell BK395.out 4).trans rfl⟩ (fun hHeld => ?_); refine with_tabW impl_StateOk.tab6 impl_StateOk.bits6 (fun HT_ HW_ => ?_)
             generalize w45.drew = w46 at BK391 BK392 BK395 HB hHeld ⊢
             refine pure_ (i := 0) (N := some 40) (v := ?_) (a' := ?_) #[true, false, false, false, false, false, false, false, false, false, false, false, false, false, false, false, false, false, false, false, false, false, false, false, false, false, false] rfl rfl (any_of HT_.out (by kernel_rfl)) (fun _ _ _ h => h) (Or.inl ⟨by rfl, ?_⟩) ?_ ?_
             rotate_left
             ·intro w'
              go_simp
              with_reducible rfl
             rotate_left
             ·simp only [Act.put, List.setIfInBounds_toArray, List.set_cons_zero, List.set_cons_succ, i64_w, i32_w]
              rfl
             refine take_ (i := 1) (N := some 41) (v := ?_) (a' := ?_) #[true, true, false, false, false, false, false, false, false, false, false, false, false, false, false, false, false, false, false, false, false, false, false, false, false, false, false] rfl rfl (take_ofW HT_.out HW_.out (by kernel_rfl)) (fun _ _ _ h => h) (Or.inl ⟨by rfl, ?_⟩) hHeld ?_ ?_
             rotate_left
             ·rintro w' ⟨s0, s1, s2, s3, s4⟩
              go_simp
              with_reducible rfl
             rotate_left
             ·simp only [Act.put, List.setIfInBounds_toArray, List.set_cons_zero, List.set_cons_succ, i64_w, i32_w]
              rfl
             refine pure_ (i := 2) (N := some 42) (v := ?_) (a' := ?_) #[true, true, true, false, false, false, false, false, false, false, false, false, false, false, false, false, false, false, false, false, false, false, false, false, false, false, false] rfl rfl (any_of HT_.out (by kernel_rfl)) (fun _ _ _ h => h) (Or.inl ⟨by rfl, ?_⟩) ?_ ?_
             rotate_left
             ·intro w'
              go_simp
              with_reducible rfl
             rotate_left
             ·simp only [Act.put, List.setIfInBounds_toArray, List.set_cons_zero, List.set_cons_succ, i64_w, i32_w]
              rfl
             refine pure_ (i := 3) (N := some 43) (v := ?_) (a' := ?_) #[true, true, true, true, false, false, false, false, false, false, false, false, false, false, false, false, false, false, false, false, false, false, false, false, false, false, false] rfl rfl (any_of HT_.out (by kernel_rfl)) (fun _ _ _ h => h) (Or.inl ⟨by rfl, ?_⟩) ?_ ?_
             rotate_left
             ·intro w'
              go_simp
              with_reducible rfl
             rotate_left
             ·simp only [Act.put, List.setIfInBounds_toArray, List.set_cons_zero, List.set_cons_succ, i64_w, i32_w]
              rfl
             refine pure_ (i := 4) (N := some 44) (v := ?_) (a' := ?_) #[true, true, true, true, true, false, false, false, false, false, false, false, false, false, false, false, false, false, false, false, false, false, false, false, false, false, false] rfl rfl (any_of HT_.out (by kernel_rfl)) (fun _ _ _ h => h) (Or.inl ⟨by rfl, ?_⟩) ?_ ?_
             rotate_left
             ·intro w'
              go_simp
              with_reducible rfl
             rotate_left
             ·simp only [Act.put, List.setIfInBounds_toArray, List.set_cons_zero, List.set_cons_succ, i64_w, i32_w]
              rfl
             refine take_ (i := 5) (N := some 45) (v := ?_) (a' := ?_) #[true, true, true, true, true, true, false, false, false, false, false, false, false, false, false, false, false, false, false, false, false, false, false, false, false, false, false] rfl rfl (take_ofW HT_.out HW_.out (by kernel_rfl)) (fun _ _ _ h => h) (Or.inl ⟨by rfl, ?_⟩) hHeld ?_ ?_
             rotate_left
             ·rintro w' ⟨s0, s1, s2, s3, s4⟩
              go_simp
              with_reducible rfl
             rotate_left
             ·simp only [Act.put, List.setIfInBounds_toArray, List.set_cons_zero, List.set_cons_succ, i64_w, i32_w]
              rfl
             refine pure_ (i := 6) (N := some 46) (v := ?_) (a' := ?_) #[true, true, true, true, true, true, true, false, false, false, false, false, false, false, false, false, false, false, false, false, false, false, false, false, false, false, false] rfl rfl (any_of HT_.out (by kernel_rfl)) (fun _ _ _ h => h) (Or.inl ⟨by rfl, ?_⟩) ?_ ?_
             rotate_left
             ·intro w'
              go_simp
              with_reducible rfl
             rotate_left
             ·simp only [Act.put, List.setIfInBounds_toArray, List.set_cons_zero, List.set_cons_succ, i64_w, i32_w]
              rfl
             refine pure_ (i := 7) (N := some 47) (v := ?_) (a' := ?_) #[true, true, true, true, true, true, true, true, false, false, false, false, false, false, false, false, false, false, false, false, false, false, false, false, false, false, false] rfl rfl (any_of HT_.out (by kernel_rfl)) (fun _ _ _ h => h) (Or.inl ⟨by rfl, ?_⟩) ?_ ?_
             rotate_left
             ·intro w'
              go_simp
              with_reducible rfl
             rotate_left
             ·simp only [Act.put, List.setIfInBounds_toArray, List.set_cons_zero, List.set_cons_succ, i64_w, i32_w]
              rfl
             refine pure_ (i := 8) (N := some 48) (v := ?_) (a' := ?_) #[true, true, true, true, true, true, true, true, true, false, false, false, false, false, false, false, false, false, false, false, false, false, false, false, false, false, false] rfl rfl (any_of HT_.out (by kernel_rfl)) (fun _ _ _ h => h) (Or.inl ⟨by rfl, ?_⟩) ?_ ?_
             rotate_left
             ·intro w'
              go_simp
              with_reducible rfl
             rotate_left
             ·simp only [Act.put, List.setIfInBounds_toArray, List.set_cons_zero, List.set_cons_succ, i64_w, i32_w]
              rfl
             refine pure_ (i := 9) (N := some 49) (v := ?_) (a' := ?_) #[true, true, true, true, true, true, true, true, true, true, false, false, false, false, false, false, false, false, false, false, false, false, false, false, false, false, false] rfl rfl (any_of HT_.out (by kernel_rfl)) (fun _ _ _ h => h) (Or.inl ⟨by rfl, ?_⟩) ?_ ?_
             rotate_left
             ·intro w'
              go_simp
              with_reducible rfl
             rotate_left
             ·simp only [Act.put, List.setIfInBounds_toArray, List.set_cons_zero, List.set_cons_succ, i64_w, i32_w]
              rfl
             refine take_ (i := 10) (N := some 50) (v := ?_) (a' := ?_) #[true, true, true, true, true, true, true, true, true, true, true, false, false, false, false, false, false, false, false, false, false, false, false, false, false, false, false] rfl rfl (take_ofW HT_.out HW_.out (by kernel_rfl)) (fun _ _ _ h => h) (Or.inl ⟨by rfl, ?_⟩) hHeld ?_ ?_
             rotate_left
             ·rintro w' ⟨s0, s1, s2, s3, s4⟩
              go_simp
              with_reducible rfl
             rotate_left
             ·simp only [Act.put, List.setIfInBounds_toArray, List.set_cons_zero, List.set_cons_succ, i64_w, i32_w]
              rfl
             refine pure_ (i := 11) (N := some 51) (v := ?_) (a' := ?_) #[true, true, true, true, true, true, true, true, true, true, true, true, false, false, false, false, false, false, false, false, false, false, false, false, false, false, false] rfl rfl (any_of HT_.out (by kernel_rfl)) (fun _ _ _ h => h) (Or.inl ⟨by rfl, ?_⟩) ?_ ?_
             rotate_left
             ·intro w'
              go_simp
              with_reducible rfl
             rotate_left
             ·simp only [Act.put, List.setIfInBounds_toArray, List.set_cons_zero, List.set_cons_succ, i64_w, i32_w]
              rfl
             refine pure_ (i := 12) (N := some 52) (v := ?_) (a' := ?_) #[true, true, true, true, true, true, true, true, true, true, true, true, true, false, false, false, false, false, false, false, false, false, false, false, false, false, false] rfl rfl (any_of HT_.out (by kernel_rfl)) (fun _ _ _ h => h) (Or.inl ⟨by rfl, ?_⟩) ?_ ?_
             rotate_left
             ·intro w'
              go_simp
              with_reducible rfl
             rotate_left
             ·simp only [Act.put, List.setIfInBounds_toArray, List.set_cons_zero, List.set_cons_succ, i64_w, i32_w]
              rfl
             refine pure_ (i := 13) (N := some 53) (v := ?_) (a' := ?_) #[true, true, true, true, true, true, true, true, true, true, true, true, true, true, false, false, false, false, false, false, false, false, false, false, false, false, false] rfl rfl (any_of HT_.out (by kernel_rfl)) (fun _ _ _ h => h) (Or.inl ⟨by rfl, ?_⟩) ?_ ?_
             rotate_left
             ·intro w'
              go_simp
              with_reducible rfl
             rotate_left
             ·simp only [Act.put, List.setIfInBounds_toArray, List.set_cons_zero, List.set_cons_succ, i64_w, i32_w]
              rfl
             refine pure_ (i := 14) (N := some 54) (v := undef) (a' := ?_) #[true, true, true, true, true, true, true, true, true, true, true, true, true, true, true, false, false, false, false, false, false, false, false, false, false, false, false] rfl rfl (any_of HT_.out (by kernel_rfl)) (fun _ _ _ h => h) (Or.inr ⟨by rfl, rfl⟩) ?_ ?_
             rotate_left
             ·simp only [Act.put, List.setIfInBounds_toArray, List.set_cons_zero, List.set_cons_succ, i64_w, i32_w]
              rfl
             refine pure_ (i := 15) (N := some 55) (v := undef) (a' := ?_) #[true, true, true, true, true, true, true, true, true, true, true, true, true, true, true, true, false, false, false, false, false, false, false, false, false, false, false] rfl rfl (any_of HT_.out (by kernel_rfl)) (fun _ _ _ h => h) (Or.inr ⟨by rfl, rfl⟩) ?_ ?_
             rotate_left
             ·simp only [Act.put, List.setIfInBounds_toArray, List.set_cons_zero, List.set_cons_succ, i64_w, i32_w]
              rfl
             refine pure_ (i := 16) (N := some 56) (v := undef) (a' := ?_) #[true, true, true, true, true, true, true, true, true, true, true, true, true, true, true, true, true, false, false, false, false, false, false, false, false, false, false] rfl rfl (any_of HT_.out (by kernel_rfl)) (fun _ _ _ h => h) (Or.inr ⟨by rfl, rfl⟩) ?_ ?_
             rotate_left
             ·simp only [Act.put, List.setIfInBounds_toArray, List.set_cons_zero, List.set_cons_succ, i64_w, i32_w]
              rfl
             refine pure_ (i := 17) (N := some 57) (v := ?_) (a' := ?_) #[true, true, true, true, true, true, true, true, true, true, true, true, true, true, true, true, true, true, false, false, false, false, false, false, false, false, false] rfl rfl (any_of HT_.out (by kernel_rfl)) (fun _ _ _ h => h) (Or.inl ⟨by rfl, ?_⟩) ?_ ?_
             rotate_left
             ·intro w'
              go_simp
              with_reducible rfl
             rotate_left
             ·simp only [Act.put, List.setIfInBounds_toArray, List.set_cons_zero, List.set_cons_succ, i64_w, i32_w]
              rfl
             refine pure_ (i := 18) (N := some 58) (v := ?_) (a' := ?_) #[true, true, true, true, true, true, true, true, true, true, true, true, true, true, true, true, true, true, true, false, false, false, false, false, false, false, false] rfl rfl (any_of HT_.out (by kernel_rfl)) (fun _ _ _ h => h) (Or.inl ⟨by rfl, ?_⟩) ?_ ?_
             rotate_left
             ·intro w'
              go_simp
              with_reducible rfl
             rotate_left
             ·simp only [Act.put, List.setIfInBounds_toArray, List.set_cons_zero, List.set_cons_succ, i64_w, i32_w]
              rfl
             refine pure_ (i := 19) (N := some 59) (v := undef) (a' := ?_) #[true, true, true, true, true, true, true, true, true, true, true, true, true, true, true, true, true, true, true, true, false, false, false, false, false, false, false] rfl rfl (any_of HT_.out (by kernel_rfl)) (fun _ _ _ h => h) (Or.inr ⟨by rfl, rfl⟩) ?_ ?_
             rotate_left
             ·simp only [Act.put, List.setIfInBounds_toArray, List.set_cons_zero, List.set_cons_succ, i64_w, i32_w]
              rfl
             refine pure_ (i := 20) (N := some 60) (v := undef) (a' := ?_) #[true, true, true, true, true, true, true, true, true, true, true, true, true, true, true, true, true, true, true, true, true, false, false, false, false, false, false] rfl rfl (any_of HT_.out (by kernel_rfl)) (fun _ _ _ h => h) (Or.inr ⟨by rfl, rfl⟩) ?_ ?_
             rotate_left
             ·simp only [Act.put, List.setIfInBounds_toArray, List.set_cons_zero, List.set_cons_succ, i64_w, i32_w]
              rfl
             refine pure_ (i := 21) (N := some 61) (v := undef) (a' := ?_) #[true, true, true, true, true, true, true, true, true, true, true, true, true, true, true, true, true, true, true, true, true, true, false, false, false, false, false] rfl rfl (any_of HT_.out (by kernel_rfl)) (fun _ _ _ h => h) (Or.inr ⟨by rfl, rfl⟩) ?_ ?_
             rotate_left
             ·simp only [Act.put, List.setIfInBounds_toArray, List.set_cons_zero, List.set_cons_succ, i64_w, i32_w]
              rfl
             refine pure_ (i := 22) (N := some 62) (v := undef) (a' := ?_) #[true, true, true, true, true, true, true, true, true, true, true, true, true, true, true, true, true, true, true, true, true, true, true, false, false, false, false] rfl rfl (any_of HT_.out (by kernel_rfl)) (fun _ _ _ h => h) (Or.inr ⟨by rfl, rfl⟩) ?_ ?_
             rotate_left
             ·simp only [Act.put, List.setIfInBounds_toArray, List.set_cons_zero, List.set_cons_succ, i64_w, i32_w]
              rfl
             refine pure_ (i := 23) (N := some 63) (v := undef) (a' := ?_) #[true, true, true, true, true, true, true, true, true, true, true, true, true, true, true, true, true, true, true, true, true, true, true, true, false, false, false] rfl rfl (any_of HT_.out (by kernel_rfl)) (fun _ _ _ h => h) (Or.inr ⟨by rfl, rfl⟩) ?_ ?_
             rotate_left
             ·simp only [Act.put, List.setIfInBounds_toArray, List.set_cons_zero, List.set_cons_succ, i64_w, i32_w]
              rfl
             refine pure_ (i := 24) (N := some 64) (v := undef) (a' := ?_) #[true, true, true, true, true, true, true, true, true, true, true, true, true, true, true, true, true, true, true, true, true, true, true, true, true, false, false] rfl rfl (any_of HT_.out (by kernel_rfl)) (fun _ _ _ h => h) (Or.inr ⟨by rfl, rfl⟩) ?_ ?_
             rotate_left
             ·simp only [Act.put, List.setIfInBounds_toArray, List.set_cons_zero, List.set_cons_succ, i64_w, i32_w]
              rfl
             refine pure_ (i := 25) (N := some 65) (v := undef) (a' := ?_) #[true, true, true, true, true, true, true, true, true, true, true, true, true, true, true, true, true, true, true, true, true, true, true, true, true, true, false] rfl rfl (any_of HT_.out (by kernel_rfl)) (fun _ _ _ h => h) (Or.inr ⟨by rfl, rfl⟩) ?_ ?_
             rotate_left
             ·simp only [Act.put, List.setIfInBounds_toArray, List.set_cons_zero, List.set_cons_succ, i64_w, i32_w]
              rfl
             refine pure_ (i := 26) (N := some 66) (v := ?_) (a' := ?_) #[true, true, true, true, true, true, true, true, true, true, true, true, true, true, true, true, true, true, true, true, true, true, true, true, true, true, true] rfl rfl (any_of HT_.out (by kernel_rfl)) (fun _ _ _ h => h) (Or.inl ⟨by rfl, ?_⟩) ?_ ?_
             rotate_left
             ·intro w'
              go_simp
              with_reducible rfl
             rotate_left
             ·simp only [Act.put, List.setIfInBounds_toArray, List.set_cons_zero, List.set_cons_succ, i64_w, i32_w]
              rfl
             refine done_ (done_of HT_.out (by kernel_rfl)) ?_
             try go_wp2
             go_meet
             case rel => exact ⟨_, (true), (by first | rfl | (simp; done) | (simp [*]; done)), H', ⟨by have := HJ2.out; have := HK2.out; first | omega | exact Nat.le_refl _⟩, ⟨by (with_reducible repeat (first | refine blk_drewN ?_ _ | refine blk_drew ?_ | refine blk_alloc ?_ _)); exact BK391.out⟩, ⟨by (with_reducible repeat (first | refine blk_drewN ?_ _ | refine blk_drew ?_ | refine blk_alloc ?_ _)); exact BK392.out⟩, ⟨by (with_reducible repeat (first | refine blk_drewN ?_ _ | refine blk_drew ?_ | refine blk_alloc ?_ _)); exact BK395.out⟩, ⟨by repeat (first | (with_reducible first | exact HB.out | apply below_alloc | apply pw_below_drewN | apply below_drew1 | refine below_set ?_ GE391.out | refine below_set ?_ GE392.out | refine below_set ?_ GE395.out) | exact HB.out)⟩⟩
            ·rw [if_neg c44] at H
             have c44b0 : decide (((rd_T50 l1_1 x35_2).f4) < (-1)) = false := decide_eq_false c44
             clear c44
             by_cases c47 : ((rd_T50 l1_1 x35_2).f4) > 1
             ·rw [if_pos c47] at H
              have c47b0 : decide (1 < ((rd_T50 l1_1 x35_2).f4)) = true := decide_eq_true c47
              clear c47
              have H' := Aside0.mk H
              clear H
              try go_wp2
              have n0_ : Aside0 ((((((w34.setCell ⟨gb395, 0, none⟩ (.int .i64 ((rd_T50 l1_1 x35_2).f0))).setCell ⟨gb395, 1, none⟩ (.int .i64 ((rd_T50 l1_1 x35_2).f1))).setCell ⟨gb395, 2, none⟩ (.bool ((rd_T50 l1_1 x35_2).f2))).setCell ⟨gb395, 3, none⟩ (.bool ((rd_T50 l1_1 x35_2).f3))).setCell ⟨gb395, 4, none⟩ (.int .i64 ((rd_T50 l1_1 x35_2).f4))).heap[gb391]? = some (.cells #[.int .i64 a0_0, .slice A0_1 l0_1.length c0_1] 30 (0, 0))) := ⟨by (with_reducible repeat (first | refine blk_drewN ?_ _ | refine blk_drew ?_ | refine blk_alloc ?_ _)); refine blk_far ?_ NB391_395.out _; (with_reducible repeat (first | refine blk_drewN ?_ _ | refine blk_drew ?_ | refine blk_alloc ?_ _)); refine blk_far ?_ NB391_395.out _; (with_reducible repeat (first | refine blk_drewN ?_ _ | refine blk_drew ?_ | refine blk_alloc ?_ _)); refine blk_far ?_ NB391_395.out _; (with_reducible repeat (first | refine blk_drewN ?_ _ | refine blk_drew ?_ | refine blk_alloc ?_ _)); refine blk_far ?_ NB391_395.out _; (with_reducible repeat (first | refine blk_drewN ?_ _ | refine blk_drew ?_ | refine blk_alloc ?_ _)); refine blk_far ?_ NB391_395.out _; (with_reducible repeat (first | refine blk_drewN ?_ _ | refine blk_drew ?_ | refine blk_alloc ?_ _)); exact BK391.out⟩
              have n1_ : Aside0 ((((((w34.setCell ⟨gb395, 0, none⟩ (.int .i64 ((rd_T50 l1_1 x35_2).f0))).setCell ⟨gb395, 1, none⟩ (.int .i64 ((rd_T50 l1_1 x35_2).f1))).setCell ⟨gb395, 2, none⟩ (.bool ((rd_T50 l1_1 x35_2).f2))).setCell ⟨gb395, 3, none⟩ (.bool ((rd_T50 l1_1 x35_2).f3))).setCell ⟨gb395, 4, none⟩ (.int .i64 ((rd_T50 l1_1 x35_2).f4))).heap[gb392]? = some (.cells #[.bool a1_0, .slice (some ad394) l1_1.length c1_1, .slice A1_2 l1_2.length c1_2] 46 (0, 0))) := ⟨by (with_reducible repeat (first | refine blk_drewN ?_ _ | refine blk_drew ?_ | refine blk_alloc ?_ _)); refine blk_far ?_ NB392_395.out _; (with_reducible repeat (first | refine blk_drewN ?_ _ | refine blk_drew ?_ | refine blk_alloc ?_ _)); refine blk_far ?_ NB392_395.out _; (with_reducible repeat (first | refine blk_drewN ?_ _ | refine blk_drew ?_ | refine blk_alloc ?_ _)); refine blk_far ?_ NB392_395.out _; (with_reducible repeat (first | refine blk_drewN ?_ _ | refine blk_drew ?_ | refine blk_alloc ?_ _)); refine blk_far ?_ NB392_395.out _; (with_reducible repeat (first | refine blk_drewN ?_ _ | refine blk_drew ?_ | refine blk_alloc ?_ _)); refine blk_far ?_ NB392_395.out _; (with_reducible repeat (first | refine blk_drewN ?_ _ | refine blk_drew ?_ | refine blk_alloc ?_ _)); exact BK392.out⟩
              have n2_ : Aside0 ((((((w34.setCell ⟨gb395, 0, none⟩ (.int .i64 ((rd_T50 l1_1 x35_2).f0))).setCell ⟨gb395, 1, none⟩ (.int .i64 ((rd_T50 l1_1 x35_2).f1))).setCell ⟨gb395, 2, none⟩ (.bool ((rd_T50 l1_1 x35_2).f2))).setCell ⟨gb395, 3, none⟩ (.bool ((rd_T50 l1_1 x35_2).f3))).setCell ⟨gb395, 4, none⟩ (.int .i64 ((rd_T50 l1_1 x35_2).f4))).heap[gb395]? = some (.cells #[.int .i64 ((rd_T50 l1_1 x35_2).f0), .int .i64 ((rd_T50 l1_1 x35_2).f1), .bool ((rd_T50 l1_1 x35_2).f2), .bool ((rd_T50 l1_1 x35_2).f3), .int .i64 ((rd_T50 l1_1 x35_2).f4)] 50 (0, 0))) := ⟨by (with_reducible repeat (first | refine blk_drewN ?_ _ | refine blk_drew ?_ | refine blk_alloc ?_ _)); refine blk_put (cs := #[.int .i64 ((rd_T50 l1_1 x35_2).f0), .int .i64 ((rd_T50 l1_1 x35_2).f1), .bool ((rd_T50 l1_1 x35_2).f2), .bool ((rd_T50 l1_1 x35_2).f3), .int .i64 0]) ?_ 4 _ rfl; (with_reducible repeat (first | refine blk_drewN ?_ _ | refine blk_drew ?_ | refine blk_alloc ?_ _)); refine blk_put (cs := #[.int .i64 ((rd_T50 l1_1 x35_2).f0), .int .i64 ((rd_T50 l1_1 x35_2).f1), .bool ((rd_T50 l1_1 x35_2).f2), .bool false, .int .i64 0]) ?_ 3 _ rfl; (with_reducible repeat (first | refine blk_drewN ?_ _ | refine blk_drew ?_ | refine blk_alloc ?_ _)); refine blk_put (cs := #[.int .i64 ((rd_T50 l1_1 x35_2).f0), .int .i64 ((rd_T50 l1_1 x35_2).f1), .bool false, .bool false, .int .i64 0]) ?_ 2 _ rfl; (with_reducible repeat (first | refine blk_drewN ?_ _ | refine blk_drew ?_ | refine blk_alloc ?_ _)); refine blk_put (cs := #[.int .i64 ((rd_T50 l1_1 x35_2).f0), .int .i64 0, .bool false, .bool false, .int .i64 0]) ?_ 1 _ rfl; (with_reducible repeat (first | refine blk_drewN ?_ _ | refine blk_drew ?_ | refine blk_alloc ?_ _)); refine blk_put (cs := #[.int .i64 0, .int .i64 0, .bool false, .bool false, .int .i64 0]) ?_ 0 _ rfl; (with_reducible repeat (first | refine blk_drewN ?_ _ | refine blk_drew ?_ | refine blk_alloc ?_ _)); exact BK395.out⟩
              have n3_ : Aside0 (Below w.heap.size w (((((w34.setCell ⟨gb395, 0, none⟩ (.int .i64 ((rd_T50 l1_1 x35_2).f0))).setCell ⟨gb395, 1, none⟩ (.int .i64 ((rd_T50 l1_1 x35_2).f1))).setCell ⟨gb395, 2, none⟩ (.bool ((rd_T50 l1_1 x35_2).f2))).setCell ⟨gb395, 3, none⟩ (.bool ((rd_T50 l1_1 x35_2).f3))).setCell ⟨gb395, 4, none⟩ (.int .i64 ((rd_T50 l1_1 x35_2).f4)))) := ⟨by repeat (first | (with_reducible first | exact HB.out | apply below_alloc | apply pw_below_drewN | apply below_drew1 | refine below_set ?_ GE391.out | refine below_set ?_ GE392.out | refine below_set ?_ GE395.out) | exact HB.out)⟩
              (try clear BK391)
              (try clear BK392)
              (try clear BK395)
              (try clear HB)
              generalize (((((w34.setCell ⟨gb395, 0, none⟩ (.int .i64 ((rd_T50 l1_1 x35_2).f0))).setCell ⟨gb395, 1, none⟩ (.int .i64 ((rd_T50 l1_1 x35_2).f1))).setCell ⟨gb395, 2, none⟩ (.bool ((rd_T50 l1_1 x35_2).f2))).setCell ⟨gb395, 3, none⟩ (.bool ((rd_T50 l1_1 x35_2).f3))).setCell ⟨gb395, 4, none⟩ (.int .i64 ((rd_T50 l1_1 x35_2).f4))) = w48 at n0_ n1_ n2_ n3_ ⊢
              have BK391 := n0_
              have BK392 := n1_
              have BK395 := n2_
              have HB := n3_
              clear n0_ n1_ n2_ n3_
              have n0_ := Aside0.mk (blk_drew BK391.out)
              have n1_ := Aside0.mk (blk_drew BK392.out)
              have n2_ := Aside0.mk (blk_drew BK395.out)
              have n3_ := Aside0.mk (below_drew1 HB.out)
              clear BK391
              clear BK392
              clear BK395
              clear HB
              have BK391 := n0_
              have BK392 := n1_
              have BK395 := n2_
              have HB := n3_
              clear n0_ n1_ n2_ n3_
              refine start_ (n := 27) (S := fun w' => w'.cell? ⟨gb395, 0, none⟩ = some (.int .i64 ((rd_T50 l1_1 x35_2).f0)) ∧ w'.cell? ⟨gb395, 1, none⟩ = some (.int .i64 ((rd_T50 l1_1 x35_2).f1)) ∧ w'.cell? ⟨gb395, 2, none⟩ = some (.bool ((rd_T50 l1_1 x35_2).f2)) ∧ w'.cell? ⟨gb395, 3, none⟩ = some (.bool ((rd_T50 l1_1 x35_2).f3)) ∧ w'.cell? ⟨gb395, 4, none⟩ = some (.int .i64 ((rd_T50 l1_1 x35_2).f4))) (ds := []) #[false, false, false, false, false, false, false, false, false, false, false, false, false, false, false, false, false, false, false, false, false, false, false, false, false, false, false] (by kernel_rfl) rfl rfl ⟨(blk_cell BK395.out 0).trans rfl, (blk_cell BK395.out 1).trans rfl, (blk_cell BK395.out 2).trans rfl, (blk_cell BK395.out 3).trans rfl, (blk_cell BK395.out 4).trans rfl⟩ (fun hHeld => ?_); refine with_tabW impl_StateOk.tab6 impl_StateOk.bits6 (fun HT_ HW_ => ?_)
              generalize w48.drew = w49 at BK391 BK392 BK395 HB hHeld ⊢
              refine pure_ (i := 0) (N := some 40) (v := ?_) (a' := ?_) #[true, false, false, false, false, false, false, false, false, false, false, false, false, false, false, false, false, false, false, false, false, false, false, false, false, false, false] rfl rfl (any_of HT_.out (by kernel_rfl)) (fun _ _ _ h => h) (Or.inl ⟨by rfl, ?_⟩) ?_ ?_
              rotate_left
              ·intro w'
               go_simp
               with_reducible rfl
              rotate_left
              ·simp only [Act.put, List.setIfInBounds_toArray, List.set_cons_zero, List.set_cons_succ, i64_w, i32_w]
               rfl
              refine take_ (i := 1) (N := some 41) (v := ?_) (a' := ?_) #[true, true, false, false, false, false, false, false, false, false, false, false, false, false, false, false, false, false, false, false, false, false, false, false, false, false, false] rfl rfl (take_ofW HT_.out HW_.out (by kernel_rfl)) (fun _ _ _ h => h) (Or.inl ⟨by rfl, ?_⟩) hHeld ?_ ?_
              rotate_left
              ·rintro w' ⟨s0, s1, s2, s3, s4⟩
               go_simp
               with_reducible rfl
              rotate_left
              ·simp only [Act.put, List.setIfInBounds_toArray, List.set_cons_zero, List.set_cons_succ, i64_w, i32_w]
               rfl
              refine pure_ (i := 2) (N := some 42) (v := ?_) (a' := ?_) #[true, true, true, false, false, false, false, false, false, false, false, false, false, false, false, false, false, false, false, false, false, false, false, false, false, false, false] rfl rfl (any_of HT_.out (by kernel_rfl)) (fun _ _ _ h => h) (Or.inl ⟨by rfl, ?_⟩) ?_ ?_
              rotate_left
              ·intro w'
               go_simp
               with_reducible rfl
              rotate_left
              ·simp only [Act.put, List.setIfInBounds_toArray, List.set_cons_zero, List.set_cons_succ, i64_w, i32_w]
               rfl
              refine pure_ (i := 3) (N := some 43) (v := ?_) (a' := ?_) #[true, true, true, true, false, false, false, false, false, false, false, false, false, false, false, false, false, false, false, false, false, false, false, false, false, false, false] rfl rfl (any_of HT_.out (by kernel_rfl)) (fun _ _ _ h => h) (Or.inl ⟨by rfl, ?_⟩) ?_ ?_
              rotate_left
              ·intro w'
               go_simp
               with_reducible rfl
              rotate_left
              ·simp only [Act.put, List.setIfInBounds_toArray, List.set_cons_zero, List.set_cons_succ, i64_w, i32_w]
               rfl
              refine pure_ (i := 4) (N := some 44) (v := ?_) (a' := ?_) #[true, true, true, true, true, false, false, false, false, false, false, false, false, false, false, false, false, false, false, false, false, false, false, false, false, false, false] rfl rfl (any_of HT_.out (by kernel_rfl)) (fun _ _ _ h => h) (Or.inl ⟨by rfl, ?_⟩) ?_ ?_
              rotate_left
              ·intro w'
               go_simp
               with_reducible rfl
              rotate_left
              ·simp only [Act.put, List.setIfInBounds_toArray, List.set_cons_zero, List.set_cons_succ, i64_w, i32_w]
               rfl
              refine take_ (i := 5) (N := some 45) (v := ?_) (a' := ?_) #[true, true, true, true, true, true, false, false, false, false, false, false, false, false, false, false, false, false, false, false, false, false, false, false, false, false, false] rfl rfl (take_ofW HT_.out HW_.out (by kernel_rfl)) (fun _ _ _ h => h) (Or.inl ⟨by rfl, ?_⟩) hHeld ?_ ?_
              rotate_left
              ·rintro w' ⟨s0, s1, s2, s3, s4⟩
               go_simp
               with_reducible rfl
              rotate_left
              ·simp only [Act.put, List.setIfInBounds_toArray, List.set_cons_zero, List.set_cons_succ, i64_w, i32_w]
               rfl
              refine pure_ (i := 6) (N := some 46) (v := ?_) (a' := ?_) #[true, true, true, true, true, true, true, false, false, false, false, false, false, false, false, false, false, false, false, false, false, false, false, false, false, false, false] rfl rfl (any_of HT_.out (by kernel_rfl)) (fun _ _ _ h => h) (Or.inl ⟨by rfl, ?_⟩) ?_ ?_
              rotate_left
              ·intro w'
               go_simp
               with_reducible rfl
              rotate_left
              ·simp only [Act.put, List.setIfInBounds_toArray, List.set_cons_zero, List.set_cons_succ, i64_w, i32_w]
               rfl
              refine pure_ (i := 7) (N := some 47) (v := ?_) (a' := ?_) #[true, true, true, true, true, true, true, true, false, false, false, false, false, false, false, false, false, false, false, false, false, false, false, false, false, false, false] rfl rfl (any_of HT_.out (by kernel_rfl)) (fun _ _ _ h => h) (Or.inl ⟨by rfl, ?_⟩) ?_ ?_
              rotate_left
              ·intro w'
               go_simp
               with_reducible rfl
              rotate_left
              ·simp only [Act.put, List.setIfInBounds_toArray, List.set_cons_zero, List.set_cons_succ, i64_w, i32_w]
               rfl
              refine pure_ (i := 8) (N := some 48) (v := ?_) (a' := ?_) #[true, true, true, true, true, true, true, true, true, false, false, false, false, false, false, false, false, false, false, false, false, false, false, false, false, false, false] rfl rfl (any_of HT_.out (by kernel_rfl)) (fun _ _ _ h => h) (Or.inl ⟨by rfl, ?_⟩) ?_ ?_
              rotate_left
              ·intro w'
               go_simp
               with_reducible rfl
              rotate_left
              ·simp only [Act.put, List.setIfInBounds_toArray, List.set_cons_zero, List.set_cons_succ, i64_w, i32_w]
               rfl
              refine pure_ (i := 9) (N := some 49) (v := ?_) (a' := ?_) #[true, true, true, true, true, true, true, true, true, true, false, false, false, false, false, false, false, false, false, false, false, false, false, false, false, false, false] rfl rfl (any_of HT_.out (by kernel_rfl)) (fun _ _ _ h => h) (Or.inl ⟨by rfl, ?_⟩) ?_ ?_
              rotate_left
              ·intro w'
               go_simp
               with_reducible rfl
              rotate_left
              ·simp only [Act.put, List.setIfInBounds_toArray, List.set_cons_zero, List.set_cons_succ, i64_w, i32_w]
               rfl
              refine take_ (i := 10) (N := some 50) (v := ?_) (a' := ?_) #[true, true, true, true, true, true, true, true, true, true, true, false, false, false, false, false, false, false, false, false, false, false, false, false, false, false, false] rfl rfl (take_ofW HT_.out HW_.out (by kernel_rfl)) (fun _ _ _ h => h) (Or.inl ⟨by rfl, ?_⟩) hHeld ?_ ?_
              rotate_left
              ·rintro w' ⟨s0, s1, s2, s3, s4⟩
               go_simp
               with_reducible rfl
              rotate_left
              ·simp only [Act.put, List.setIfInBounds_toArray, List.set_cons_zero, List.set_cons_succ, i64_w, i32_w]
               rfl
              refine pure_ (i := 11) (N := some 51) (v := ?_) (a' := ?_) #[true, true, true, true, true, true, true, true, true, true, true, true, false, false, false, false, false, false, false, false, false, false, false, false, false, false, false] rfl rfl (any_of HT_.out (by kernel_rfl)) (fun _ _ _ h => h) (Or.inl ⟨by rfl, ?_⟩) ?_ ?_
              rotate_left
              ·intro w'
               go_simp
               with_reducible rfl
              rotate_left
              ·simp only [Act.put, List.setIfInBounds_toArray, List.set_cons_zero, List.set_cons_succ, i64_w, i32_w]
               rfl
              refine pure_ (i := 12) (N := some 52) (v := ?_) (a' := ?_) #[true, true, true, true, true, true, true, true, true, true, true, true, true, false, false, false, false, false, false, false, false, false, false, false, false, false, false] rfl rfl (any_of HT_.out (by kernel_rfl)) (fun _ _ _ h => h) (Or.inl ⟨by rfl, ?_⟩) ?_ ?_
              rotate_left
              ·intro w'
               go_simp
               with_reducible rfl
              rotate_left
              ·simp only [Act.put, List.setIfInBounds_toArray, List.set_cons_zero, List.set_cons_succ, i64_w, i32_w]
               rfl
              refine pure_ (i := 13) (N := some 53) (v := ?_) (a' := ?_) #[true, true, true, true, true, true, true, true, true, true, true, true, true, true, false, false, false, false, false, false, false, false, false, false, false, false, false] rfl rfl (any_of HT_.out (by kernel_rfl)) (fun _ _ _ h => h) (Or.inl ⟨by rfl, ?_⟩) ?_ ?_
              rotate_left
              ·intro w'
               go_simp
               with_reducible rfl
              rotate_left
              ·simp only [Act.put, List.setIfInBounds_toArray, List.set_cons_zero, List.set_cons_succ, i64_w, i32_w]
               rfl
              refine pure_ (i := 14) (N := some 54) (v := ?_) (a' := ?_) #[true, true, true, true, true, true, true, true, true, true, true, true, true, true, true, false, false, false, false, false, false, false, false, false, false, false, false] rfl rfl (any_of HT_.out (by kernel_rfl)) (fun _ _ _ h => h) (Or.inl ⟨by rfl, ?_⟩) ?_ ?_
              rotate_left
              ·intro w'
               go_simp
               with_reducible rfl
              rotate_left
              ·simp only [Act.put, List.setIfInBounds_toArray, List.set_cons_zero, List.set_cons_succ, i64_w, i32_w]
               rfl
              refine take_ (i := 15) (N := some 55) (v := ?_) (a' := ?_) #[true, true, true, true, true, true, true, true, true, true, true, true, true, true, true, true, false, false, false, false, false, false, false, false, false, false, false] rfl rfl (take_ofW HT_.out HW_.out (by kernel_rfl)) (fun _ _ _ h => h) (Or.inl ⟨by rfl, ?_⟩) hHeld ?_ ?_
              rotate_left
              ·rintro w' ⟨s0, s1, s2, s3, s4⟩
               go_simp
               with_reducible rfl
              rotate_left
              ·simp only [Act.put, List.setIfInBounds_toArray, List.set_cons_zero, List.set_cons_succ, i64_w, i32_w]
               rfl
              refine pure_ (i := 16) (N := some 56) (v := ?_) (a' := ?_) #[true, true, true, true, true, true, true, true, true, true, true, true, true, true, true, true, true, false, false, false, false, false, false, false, false, false, false] rfl rfl (any_of HT_.out (by kernel_rfl)) (fun _ _ _ h => h) (Or.inl ⟨by rfl, ?_⟩) ?_ ?_
              rotate_left
              ·intro w'
               go_simp
               with_reducible rfl
              rotate_left
              ·simp only [Act.put, List.setIfInBounds_toArray, List.set_cons_zero, List.set_cons_succ, i64_w, i32_w]
               rfl
              refine pure_ (i := 17) (N := some 57) (v := ?_) (a' := ?_) #[true, true, true, true, true, true, true, true, true, true, true, true, true, true, true, true, true, true, false, false, false, false, false, false, false, false, false] rfl rfl (any_of HT_.out (by kernel_rfl)) (fun _ _ _ h => h) (Or.inl ⟨by rfl, ?_⟩) ?_ ?_
              rotate_left
              ·intro w'
               go_simp
               with_reducible rfl
              rotate_left
              ·simp only [Act.put, List.setIfInBounds_toArray, List.set_cons_zero, List.set_cons_succ, i64_w, i32_w]
               rfl
              refine pure_ (i := 18) (N := some 58) (v := ?_) (a' := ?_) #[true, true, true, true, true, true, true, true, true, true, true, true, true, true, true, true, true, true, true, false, false, false, false, false, false, false, false] rfl rfl (any_of HT_.out (by kernel_rfl)) (fun _ _ _ h => h) (Or.inl ⟨by rfl, ?_⟩) ?_ ?_
              rotate_left
              ·intro w'
               go_simp
               with_reducible rfl
              rotate_left
              ·simp only [Act.put, List.setIfInBounds_toArray, List.set_cons_zero, List.set_cons_succ, i64_w, i32_w]
               rfl
              refine pure_ (i := 19) (N := some 59) (v := undef) (a' := ?_) #[true, true, true, true, true, true, true, true, true, true, true, true, true, true, true, true, true, true, true, true, false, false, false, false, false, false, false] rfl rfl (any_of HT_.out (by kernel_rfl)) (fun _ _ _ h => h) (Or.inr ⟨by rfl, rfl⟩) ?_ ?_
              rotate_left
              ·simp only [Act.put, List.setIfInBounds_toArray, List.set_cons_zero, List.set_cons_succ, i64_w, i32_w]
               rfl
              refine pure_ (i := 20) (N := some 60) (v := undef) (a' := ?_) #[true, true, true, true, true, true, true, true, true, true, true, true, true, true, true, true, true, true, true, true, true, false, false, false, false, false, false] rfl rfl (any_of HT_.out (by kernel_rfl)) (fun _ _ _ h => h) (Or.inr ⟨by rfl, rfl⟩) ?_ ?_
              rotate_left
              ·simp only [Act.put, List.setIfInBounds_toArray, List.set_cons_zero, List.set_cons_succ, i64_w, i32_w]
               rfl
              refine pure_ (i := 21) (N := some 61) (v := undef) (a' := ?_) #[true, true, true, true, true, true, true, true, true, true, true, true, true, true, true, true, true, true, true, true, true, true, false, false, false, false, false] rfl rfl (any_of HT_.out (by kernel_rfl)) (fun _ _ _ h => h) (Or.inr ⟨by rfl, rfl⟩) ?_ ?_
              rotate_left
              ·simp only [Act.put, List.setIfInBounds_toArray, List.set_cons_zero, List.set_cons_succ, i64_w, i32_w]
               rfl
              refine pure_ (i := 22) (N := some 62) (v := undef) (a' := ?_) #[true, true, true, true, true, true, true, true, true, true, true, true, true, true, true, true, true, true, true, true, true, true, true, false, false, false, false] rfl rfl (any_of HT_.out (by kernel_rfl)) (fun _ _ _ h => h) (Or.inr ⟨by rfl, rfl⟩) ?_ ?_
              rotate_left
              ·simp only [Act.put, List.setIfInBounds_toArray, List.set_cons_zero, List.set_cons_succ, i64_w, i32_w]
               rfl
              refine pure_ (i := 23) (N := some 63) (v := undef) (a' := ?_) #[true, true, true, true, true, true, true, true, true, true, true, true, true, true, true, true, true, true, true, true, true, true, true, true, false, false, false] rfl rfl (any_of HT_.out (by kernel_rfl)) (fun _ _ _ h => h) (Or.inr ⟨by rfl, rfl⟩) ?_ ?_
              rotate_left
              ·simp only [Act.put, List.setIfInBounds_toArray, List.set_cons_zero, List.set_cons_succ, i64_w, i32_w]
               rfl
              refine pure_ (i := 24) (N := some 64) (v := undef) (a' := ?_) #[true, true, true, true, true, true, true, true, true, true, true, true, true, true, true, true, true, true, true, true, true, true, true, true, true, false, false] rfl rfl (any_of HT_.out (by kernel_rfl)) (fun _ _ _ h => h) (Or.inr ⟨by rfl, rfl⟩) ?_ ?_
              rotate_left
              ·simp only [Act.put, List.setIfInBounds_toArray, List.set_cons_zero, List.set_cons_succ, i64_w, i32_w]
               rfl
              refine pure_ (i := 25) (N := some 65) (v := undef) (a' := ?_) #[true, true, true, true, true, true, true, true, true, true, true, true, true, true, true, true, true, true, true, true, true, true, true, true, true, true, false] rfl rfl (any_of HT_.out (by kernel_rfl)) (fun _ _ _ h => h) (Or.inr ⟨by rfl, rfl⟩) ?_ ?_
              rotate_left
              ·simp only [Act.put, List.setIfInBounds_toArray, List.set_cons_zero, List.set_cons_succ, i64_w, i32_w]
               rfl
              refine pure_ (i := 26) (N := some 66) (v := ?_) (a' := ?_) #[true, true, true, true, true, true, true, true, true, true, true, true, true, true, true, true, true, true, true, true, true, true, true, true, true, true, true] rfl rfl (any_of HT_.out (by kernel_rfl)) (fun _ _ _ h => h) (Or.inl ⟨by rfl, ?_⟩) ?_ ?_
              rotate_left
              ·intro w'
               go_simp
               with_reducible rfl
              rotate_left
              ·simp only [Act.put, List.setIfInBounds_toArray, List.set_cons_zero, List.set_cons_succ, i64_w, i32_w]
               rfl
              refine done_ (done_of HT_.out (by kernel_rfl)) ?_
              try go_wp2
              go_meet
              case rel => exact ⟨_, (true), (by first | rfl | (simp; done) | (simp [*]; done)), H', ⟨by have := HJ2.out; have := HK2.out; first | omega | exact Nat.le_refl _⟩, ⟨by (with_reducible repeat (first | refine blk_drewN ?_ _ | refine blk_drew ?_ | refine blk_alloc ?_ _)); exact BK391.out⟩, ⟨by (with_reducible repeat (first | refine blk_drewN ?_ _ | refine blk_drew ?_ | refine blk_alloc ?_ _)); exact BK392.out⟩, ⟨by (with_reducible repeat (first | refine blk_drewN ?_ _ | refine blk_drew ?_ | refine blk_alloc ?_ _)); exact BK395.out⟩, ⟨by repeat (first | (with_reducible first | exact HB.out | apply below_alloc | apply pw_below_drewN | apply below_drew1 | refine below_set ?_ GE391.out | refine below_set ?_ GE392.out | refine below_set ?_ GE395.out) | exact HB.out)⟩⟩
             ·rw [if_neg c47] at H
              have c47b0 : decide (1 < ((rd_T50 l1_1 x35_2).f4)) = false := decide_eq_false c47
              clear c47
              replace H := Option.bind_eq_some_iff.mp H
              obtain ⟨t396, A500, H⟩ := H
              replace H : (impl_StateOk.j2 k2 x35_2 l1_1 (l1_1.length : Int) x35_2 (((rd_T50 l1_1 x35_2).f0) != t396) a0_0 l0_1 a1_0 l1_1 l1_2 ((rd_T50 l1_1 x35_2).f0) ((rd_T50 l1_1 x35_2).f1) ((rd_T50 l1_1 x35_2).f2) ((rd_T50 l1_1 x35_2).f3) ((rd_T50 l1_1 x35_2).f4)) = some r := H
              have A50 := Aside0.mk A500
              clear A500
              have H' := Aside0.mk H
              clear H
              try go_wp2
              have n0_ : Aside0 ((((((w34.setCell ⟨gb395, 0, none⟩ (.int .i64 ((rd_T50 l1_1 x35_2).f0))).setCell ⟨gb395, 1, none⟩ (.int .i64 ((rd_T50 l1_1 x35_2).f1))).setCell ⟨gb395, 2, none⟩ (.bool ((rd_T50 l1_1 x35_2).f2))).setCell ⟨gb395, 3, none⟩ (.bool ((rd_T50 l1_1 x35_2).f3))).setCell ⟨gb395, 4, none⟩ (.int .i64 ((rd_T50 l1_1 x35_2).f4))).heap[gb391]? = some (.cells #[.int .i64 a0_0, .slice A0_1 l0_1.length c0_1] 30 (0, 0))) := ⟨by (with_reducible repeat (first | refine blk_drewN ?_ _ | refine blk_drew ?_ | refine blk_alloc ?_ _)); refine blk_far ?_ NB391_395.out _; (with_reducible repeat (first | refine blk_drewN ?_ _ | refine blk_drew ?_ | refine blk_alloc ?_ _)); refine blk_far ?_ NB391_395.out _; (with_reducible repeat (first | refine blk_drewN ?_ _ | refine blk_drew ?_ | refine blk_alloc ?_ _)); refine blk_far ?_ NB391_395.out _; (with_reducible repeat (first | refine blk_drewN ?_ _ | refine blk_drew ?_ | refine blk_alloc ?_ _)); refine blk_far ?_ NB391_395.out _; (with_reducible repeat (first | refine blk_drewN ?_ _ | refine blk_drew ?_ | refine blk_alloc ?_ _)); refine blk_far ?_ NB391_395.out _; (with_reducible repeat (first | refine blk_drewN ?_ _ | refine blk_drew ?_ | refine blk_alloc ?_ _)); exact BK391.out⟩
              have n1_ : Aside0 ((((((w34.setCell ⟨gb395, 0, none⟩ (.int .i64 ((rd_T50 l1_1 x35_2).f0))).setCell ⟨gb395, 1, none⟩ (.int .i64 ((rd_T50 l1_1 x35_2).f1))).setCell ⟨gb395, 2, none⟩ (.bool ((rd_T50 l1_1 x35_2).f2))).setCell ⟨gb395, 3, none⟩ (.bool ((rd_T50 l1_1 x35_2).f3))).setCell ⟨gb395, 4, none⟩ (.int .i64 ((rd_T50 l1_1 x35_2).f4))).heap[gb392]? = some (.cells #[.bool a1_0, .slice (some ad394) l1_1.length c1_1, .slice A1_2 l1_2.length c1_2] 46 (0, 0))) := ⟨by (with_reducible repeat (first | refine blk_drewN ?_ _ | refine blk_drew ?_ | refine blk_alloc ?_ _)); refine blk_far ?_ NB392_395.out _; (with_reducible repeat (first | refine blk_drewN ?_ _ | refine blk_drew ?_ | refine blk_alloc ?_ _)); refine blk_far ?_ NB392_395.out _; (with_reducible repeat (first | refine blk_drewN ?_ _ | refine blk_drew ?_ | refine blk_alloc ?_ _)); refine blk_far ?_ NB392_395.out _; (with_reducible repeat (first | refine blk_drewN ?_ _ | refine blk_drew ?_ | refine blk_alloc ?_ _)); refine blk_far ?_ NB392_395.out _; (with_reducible repeat (first | refine blk_drewN ?_ _ | refine blk_drew ?_ | refine blk_alloc ?_ _)); refine blk_far ?_ NB392_395.out _; (with_reducible repeat (first | refine blk_drewN ?_ _ | refine blk_drew ?_ | refine blk_alloc ?_ _)); exact BK392.out⟩
              have n2_ : Aside0 ((((((w34.setCell ⟨gb395, 0, none⟩ (.int .i64 ((rd_T50 l1_1 x35_2).f0))).setCell ⟨gb395, 1, none⟩ (.int .i64 ((rd_T50 l1_1 x35_2).f1))).setCell ⟨gb395, 2, none⟩ (.bool ((rd_T50 l1_1 x35_2).f2))).setCell ⟨gb395, 3, none⟩ (.bool ((rd_T50 l1_1 x35_2).f3))).setCell ⟨gb395, 4, none⟩ (.int .i64 ((rd_T50 l1_1 x35_2).f4))).heap[gb395]? = some (.cells #[.int .i64 ((rd_T50 l1_1 x35_2).f0), .int .i64 ((rd_T50 l1_1 x35_2).f1), .bool ((rd_T50 l1_1 x35_2).f2), .bool ((rd_T50 l1_1 x35_2).f3), .int .i64 ((rd_T50 l1_1 x35_2).f4)] 50 (0, 0))) := ⟨by (with_reducible repeat (first | refine blk_drewN ?_ _ | refine blk_drew ?_ | refine blk_alloc ?_ _)); refine blk_put (cs := #[.int .i64 ((rd_T50 l1_1 x35_2).f0), .int .i64 ((rd_T50 l1_1 x35_2).f1), .bool ((rd_T50 l1_1 x35_2).f2), .bool ((rd_T50 l1_1 x35_2).f3), .int .i64 0]) ?_ 4 _ rfl; (with_reducible repeat (first | refine blk_drewN ?_ _ | refine blk_drew ?_ | refine blk_alloc ?_ _)); refine blk_put (cs := #[.int .i64 ((rd_T50 l1_1 x35_2).f0), .int .i64 ((rd_T50 l1_1 x35_2).f1), .bool ((rd_T50 l1_1 x35_2).f2), .bool false, .int .i64 0]) ?_ 3 _ rfl; (with_reducible repeat (first | refine blk_drewN ?_ _ | refine blk_drew ?_ | refine blk_alloc ?_ _)); refine blk_put (cs := #[.int .i64 ((rd_T50 l1_1 x35_2).f0), .int .i64 ((rd_T50 l1_1 x35_2).f1), .bool false, .bool false, .int .i64 0]) ?_ 2 _ rfl; (with_reducible repeat (first | refine blk_drewN ?_ _ | refine blk_drew ?_ | refine blk_alloc ?_ _)); refine blk_put (cs := #[.int .i64 ((rd_T50 l1_1 x35_2).f0), .int .i64 0, .bool false, .bool false, .int .i64 0]) ?_ 1 _ rfl; (with_reducible repeat (first | refine blk_drewN ?_ _ | refine blk_drew ?_ | refine blk_alloc ?_ _)); refine blk_put (cs := #[.int .i64 0, .int .i64 0, .bool false, .bool false, .int .i64 0]) ?_ 0 _ rfl; (with_reducible repeat (first | refine blk_drewN ?_ _ | refine blk_drew ?_ | refine blk_alloc ?_ _)); exact BK395.out⟩
              have n3_ : Aside0 (Below w.heap.size w (((((w34.setCell ⟨gb395, 0, none⟩ (.int .i64 ((rd_T50 l1_1 x35_2).f0))).setCell ⟨gb395, 1, none⟩ (.int .i64 ((rd_T50 l1_1 x35_2).f1))).setCell ⟨gb395, 2, none⟩ (.bool ((rd_T50 l1_1 x35_2).f2))).setCell ⟨gb395, 3, none⟩ (.bool ((rd_T50 l1_1 x35_2).f3))).setCell ⟨gb395, 4, none⟩ (.int .i64 ((rd_T50 l1_1 x35_2).f4)))) := ⟨by repeat (first | (with_reducible first | exact HB.out | apply below_alloc | apply pw_below_drewN | apply below_drew1 | refine below_set ?_ GE391.out | refine below_set ?_ GE392.out | refine below_set ?_ GE395.out) | exact HB.out)⟩
              (try clear BK391)
              (try clear BK392)
              (try clear BK395)
              (try clear HB)
              generalize (((((w34.setCell ⟨gb395, 0, none⟩ (.int .i64 ((rd_T50 l1_1 x35_2).f0))).setCell ⟨gb395, 1, none⟩ (.int .i64 ((rd_T50 l1_1 x35_2).f1))).setCell ⟨gb395, 2, none⟩ (.bool ((rd_T50 l1_1 x35_2).f2))).setCell ⟨gb395, 3, none⟩ (.bool ((rd_T50 l1_1 x35_2).f3))).setCell ⟨gb395, 4, none⟩ (.int .i64 ((rd_T50 l1_1 x35_2).f4))) = w51 at n0_ n1_ n2_ n3_ ⊢
              have BK391 := n0_
              have BK392 := n1_
              have BK395 := n2_
              have HB := n3_
              clear n0_ n1_ n2_ n3_
              have n0_ := Aside0.mk (blk_drew BK391.out)
              have n1_ := Aside0.mk (blk_drew BK392.out)
              have n2_ := Aside0.mk (blk_drew BK395.out)
              have n3_ := Aside0.mk (below_drew1 HB.out)
              clear BK391
              clear BK392
              clear BK395
              clear HB
              have BK391 := n0_
              have BK392 := n1_
              have BK395 := n2_
              have HB := n3_
              clear n0_ n1_ n2_ n3_
              refine start_ (n := 27) (S := fun w' => w'.cell? ⟨gb395, 0, none⟩ = some (.int .i64 ((rd_T50 l1_1 x35_2).f0)) ∧ w'.cell? ⟨gb395, 1, none⟩ = some (.int .i64 ((rd_T50 l1_1 x35_2).f1)) ∧ w'.cell? ⟨gb395, 2, none⟩ = some (.bool ((rd_T50 l1_1 x35_2).f2)) ∧ w'.cell? ⟨gb395, 3, none⟩ = some (.bool ((rd_T50 l1_1 x35_2).f3)) ∧ w'.cell? ⟨gb395, 4, none⟩ = some (.int .i64 ((rd_T50 l1_1 x35_2).f4)) ∧ w'.cell? ⟨gb391, 0, none⟩ = some (.int .i64 a0_0) ∧ w'.cell? ⟨gb391, 1, none⟩ = some (.slice A0_1 l0_1.length c0_1) ∧ w'.cell? ⟨gb392, 0, none⟩ = some (.bool a1_0) ∧ w'.cell? ⟨gb392, 1, none⟩ = some (.slice (some ad394) l1_1.length c1_1) ∧ w'.cell? ⟨gb392, 2, none⟩ = some (.slice A1_2 l1_2.length c1_2)) (ds := []) #[false, false, false, false, false, false, false, false, false, false, false, false, false, false, false, false, false, false, false, false, false, false, false, false, false, false, false] (by kernel_rfl) rfl rfl ⟨(blk_cell BK395.out 0).trans rfl, (blk_cell BK395.out 1).trans rfl, (blk_cell BK395.out 2).trans rfl, (blk_cell BK395.out 3).trans rfl, (blk_cell BK395.out 4).trans rfl, (blk_cell BK391.out 0).trans rfl, (blk_cell BK391.out 1).trans rfl, (blk_cell BK392.out 0).trans rfl, (blk_cell BK392.out 1).trans rfl, (blk_cell BK392.out 2).trans rfl⟩ (fun hHeld => ?_); refine with_tabW impl_StateOk.tab6 impl_StateOk.bits6 (fun HT_ HW_ => ?_)
              generalize w51.drew = w52 at BK391 BK392 BK395 HB hHeld ⊢
              refine pure_ (i := 0) (N := some 40) (v := ?_) (a' := ?_) #[true, false, false, false, false, false, false, false, false, false, false, false, false, false, false, false, false, false, false, false, false, false, false, false, false, false, false] rfl rfl (any_of HT_.out (by kernel_rfl)) (fun _ _ _ h => h) (Or.inl ⟨by rfl, ?_⟩) ?_ ?_
              rotate_left
              ·intro w'
               go_simp
               with_reducible rfl
              rotate_left
              ·simp only [Act.put, List.setIfInBounds_toArray, List.set_cons_zero, List.set_cons_succ, i64_w, i32_w]
               rfl
              refine take_ (i := 1) (N := some 41) (v := ?_) (a' := ?_) #[true, true, false, false, false, false, false, false, false, false, false, false, false, false, false, false, false, false, false, false, false, false, false, false, false, false, false] rfl rfl (take_ofW HT_.out HW_.out (by kernel_rfl)) (fun _ _ _ h => h) (Or.inl ⟨by rfl, ?_⟩) hHeld ?_ ?_
              rotate_left
              ·rintro w' ⟨s0, s1, s2, s3, s4, s5, s6, s7, s8, s9⟩
               go_simp
               with_reducible rfl
              rotate_left
              ·simp only [Act.put, List.setIfInBounds_toArray, List.set_cons_zero, List.set_cons_succ, i64_w, i32_w]
               rfl
              refine pure_ (i := 2) (N := some 42) (v := ?_) (a' := ?_) #[true, true, true, false, false, false, false, false, false, false, false, false, false, false, false, false, false, false, false, false, false, false, false, false, false, false, false] rfl rfl (any_of HT_.out (by kernel_rfl)) (fun _ _ _ h => h) (Or.inl ⟨by rfl, ?_⟩) ?_ ?_
              rotate_left
              ·intro w'
               go_simp
               with_reducible rfl
              rotate_left
              ·simp only [Act.put, List.setIfInBounds_toArray, List.set_cons_zero, List.set_cons_succ, i64_w, i32_w]
               rfl
              refine pure_ (i := 3) (N := some 43) (v := ?_) (a' := ?_) #[true, true, true, true, false, false, false, false, false, false, false, false, false, false, false, false, false, false, false, false, false, false, false, false, false, false, false] rfl rfl (any_of HT_.out (by kernel_rfl)) (fun _ _ _ h => h) (Or.inl ⟨by rfl, ?_⟩) ?_ ?_
              rotate_left
              ·intro w'
               go_simp
               with_reducible rfl
              rotate_left
              ·simp only [Act.put, List.setIfInBounds_toArray, List.set_cons_zero, List.set_cons_succ, i64_w, i32_w]
               rfl
              refine pure_ (i := 4) (N := some 44) (v := ?_) (a' := ?_) #[true, true, true, true, true, false, false, false, false, false, false, false, false, false, false, false, false, false, false, false, false, false, false, false, false, false, false] rfl rfl (any_of HT_.out (by kernel_rfl)) (fun _ _ _ h => h) (Or.inl ⟨by rfl, ?_⟩) ?_ ?_
              rotate_left
              ·intro w'
               go_simp
               with_reducible rfl
              rotate_left
              ·simp only [Act.put, List.setIfInBounds_toArray, List.set_cons_zero, List.set_cons_succ, i64_w, i32_w]
               rfl
              refine take_ (i := 5) (N := some 45) (v := ?_) (a' := ?_) #[true, true, true, true, true, true, false, false, false, false, false, false, false, false, false, false, false, false, false, false, false, false, false, false, false, false, false] rfl rfl (take_ofW HT_.out HW_.out (by kernel_rfl)) (fun _ _ _ h => h) (Or.inl ⟨by rfl, ?_⟩) hHeld ?_ ?_
              rotate_left
              ·rintro w' ⟨s0, s1, s2, s3, s4, s5, s6, s7, s8, s9⟩
               go_simp
               with_reducible rfl
              rotate_left
              ·simp only [Act.put, List.setIfInBounds_toArray, List.set_cons_zero, List.set_cons_succ, i64_w, i32_w]
               rfl
              refine pure_ (i := 6) (N := some 46) (v := ?_) (a' := ?_) #[true, true, true, true, true, true, true, false, false, false, false, false, false, false, false, false, false, false, false, false, false, false, false, false, false, false, false] rfl rfl (any_of HT_.out (by kernel_rfl)) (fun _ _ _ h => h) (Or.inl ⟨by rfl, ?_⟩) ?_ ?_
              rotate_left
              ·intro w'
               go_simp
               with_reducible rfl
              rotate_left
              ·simp only [Act.put, List.setIfInBounds_toArray, List.set_cons_zero, List.set_cons_succ, i64_w, i32_w]
               rfl
              refine pure_ (i := 7) (N := some 47) (v := ?_) (a' := ?_) #[true, true, true, true, true, true, true, true, false, false, false, false, false, false, false, false, false, false, false, false, false, false, false, false, false, false, false] rfl rfl (any_of HT_.out (by kernel_rfl)) (fun _ _ _ h => h) (Or.inl ⟨by rfl, ?_⟩) ?_ ?_
              rotate_left
              ·intro w'
               go_simp
               with_reducible rfl
              rotate_left
              ·simp only [Act.put, List.setIfInBounds_toArray, List.set_cons_zero, List.set_cons_succ, i64_w, i32_w]
               rfl
              refine pure_ (i := 8) (N := some 48) (v := ?_) (a' := ?_) #[true, true, true, true, true, true, true, true, true, false, false, false, false, false, false, false, false, false, false, false, false, false, false, false, false, false, false] rfl rfl (any_of HT_.out (by kernel_rfl)) (fun _ _ _ h => h) (Or.inl ⟨by rfl, ?_⟩) ?_ ?_
              rotate_left
              ·intro w'
               go_simp
               with_reducible rfl
              rotate_left
              ·simp only [Act.put, List.setIfInBounds_toArray, List.set_cons_zero, List.set_cons_succ, i64_w, i32_w]
               rfl
              refine pure_ (i := 9) (N := some 49) (v := ?_) (a' := ?_) #[true, true, true, true, true, true, true, true, true, true, false, false, false, false, false, false, false, false, false, false, false, false, false, false, false, false, false] rfl rfl (any_of HT_.out (by kernel_rfl)) (fun _ _ _ h => h) (Or.inl ⟨by rfl, ?_⟩) ?_ ?_
              rotate_left
              ·intro w'
               go_simp
               with_reducible rfl
              rotate_left
              ·simp only [Act.put, List.setIfInBounds_toArray, List.set_cons_zero, List.set_cons_succ, i64_w, i32_w]
               rfl
              refine take_ (i := 10) (N := some 50) (v := ?_) (a' := ?_) #[true, true, true, true, true, true, true, true, true, true, true, false, false, false, false, false, false, false, false, false, false, false, false, false, false, false, false] rfl rfl (take_ofW HT_.out HW_.out (by kernel_rfl)) (fun _ _ _ h => h) (Or.inl ⟨by rfl, ?_⟩) hHeld ?_ ?_
              rotate_left
              ·rintro w' ⟨s0, s1, s2, s3, s4, s5, s6, s7, s8, s9⟩
               go_simp
               with_reducible rfl
              rotate_left
              ·simp only [Act.put, List.setIfInBounds_toArray, List.set_cons_zero, List.set_cons_succ, i64_w, i32_w]
               rfl
              refine pure_ (i := 11) (N := some 51) (v := ?_) (a' := ?_) #[true, true, true, true, true, true, true, true, true, true, true, true, false, false, false, false, false, false, false, false, false, false, false, false, false, false, false] rfl rfl (any_of HT_.out (by kernel_rfl)) (fun _ _ _ h => h) (Or.inl ⟨by rfl, ?_⟩) ?_ ?_
              rotate_left
              ·intro w'
               go_simp
               with_reducible rfl
              rotate_left
              ·simp only [Act.put, List.setIfInBounds_toArray, List.set_cons_zero, List.set_cons_succ, i64_w, i32_w]
               rfl
              refine pure_ (i := 12) (N := some 52) (v := ?_) (a' := ?_) #[true, true, true, true, true, true, true, true, true, true, true, true, true, false, false, false, false, false, false, false, false, false, false, false, false, false, false] rfl rfl (any_of HT_.out (by kernel_rfl)) (fun _ _ _ h => h) (Or.inl ⟨by rfl, ?_⟩) ?_ ?_
              rotate_left
              ·intro w'
               go_simp
               with_reducible rfl
              rotate_left
              ·simp only [Act.put, List.setIfInBounds_toArray, List.set_cons_zero, List.set_cons_succ, i64_w, i32_w]
               rfl
              refine pure_ (i := 13) (N := some 53) (v := ?_) (a' := ?_) #[true, true, true, true, true, true, true, true, true, true, true, true, true, true, false, false, false, false, false, false, false, false, false, false, false, false, false] rfl rfl (any_of HT_.out (by kernel_rfl)) (fun _ _ _ h => h) (Or.inl ⟨by rfl, ?_⟩) ?_ ?_
              rotate_left
              ·intro w'
               go_simp
               with_reducible rfl
              rotate_left
              ·simp only [Act.put, List.setIfInBounds_toArray, List.set_cons_zero, List.set_cons_succ, i64_w, i32_w]
               rfl
              refine pure_ (i := 14) (N := some 54) (v := ?_) (a' := ?_) #[true, true, true, true, true, true, true, true, true, true, true, true, true, true, true, false, false, false, false, false, false, false, false, false, false, false, false] rfl rfl (any_of HT_.out (by kernel_rfl)) (fun _ _ _ h => h) (Or.inl ⟨by rfl, ?_⟩) ?_ ?_
              rotate_left
              ·intro w'
               go_simp
               with_reducible rfl
              rotate_left
              ·simp only [Act.put, List.setIfInBounds_toArray, List.set_cons_zero, List.set_cons_succ, i64_w, i32_w]
               rfl
              refine take_ (i := 15) (N := some 55) (v := ?_) (a' := ?_) #[true, true, true, true, true, true, true, true, true, true, true, true, true, true, true, true, false, false, false, false, false, false, false, false, false, false, false] rfl rfl (take_ofW HT_.out HW_.out (by kernel_rfl)) (fun _ _ _ h => h) (Or.inl ⟨by rfl, ?_⟩) hHeld ?_ ?_
              rotate_left
              ·rintro w' ⟨s0, s1, s2, s3, s4, s5, s6, s7, s8, s9⟩
               go_simp
               with_reducible rfl
              rotate_left
              ·simp only [Act.put, List.setIfInBounds_toArray, List.set_cons_zero, List.set_cons_succ, i64_w, i32_w]
               rfl
              refine pure_ (i := 16) (N := some 56) (v := ?_) (a' := ?_) #[true, true, true, true, true, true, true, true, true, true, true, true, true, true, true, true, true, false, false, false, false, false, false, false, false, false, false] rfl rfl (any_of HT_.out (by kernel_rfl)) (fun _ _ _ h => h) (Or.inl ⟨by rfl, ?_⟩) ?_ ?_
              rotate_left
              ·intro w'
               go_simp
               with_reducible rfl
              rotate_left
              ·simp only [Act.put, List.setIfInBounds_toArray, List.set_cons_zero, List.set_cons_succ, i64_w, i32_w]
               rfl
              refine pure_ (i := 17) (N := some 57) (v := ?_) (a' := ?_) #[true, true, true, true, true, true, true, true, true, true, true, true, true, true, true, true, true, true, false, false, false, false, false, false, false, false, false] rfl rfl (any_of HT_.out (by kernel_rfl)) (fun _ _ _ h => h) (Or.inl ⟨by rfl, ?_⟩) ?_ ?_
              rotate_left
              ·intro w'
               go_simp
               with_reducible rfl
              rotate_left
              ·simp only [Act.put, List.setIfInBounds_toArray, List.set_cons_zero, List.set_cons_succ, i64_w, i32_w]
               rfl
              refine pure_ (i := 18) (N := some 58) (v := ?_) (a' := ?_) #[true, true, true, true, true, true, true, true, true, true, true, true, true, true, true, true, true, true, true, false, false, false, false, false, false, false, false] rfl rfl (any_of HT_.out (by kernel_rfl)) (fun _ _ _ h => h) (Or.inl ⟨by rfl, ?_⟩) ?_ ?_
              rotate_left
              ·intro w'
               go_simp
               with_reducible rfl
              rotate_left
              ·simp only [Act.put, List.setIfInBounds_toArray, List.set_cons_zero, List.set_cons_succ, i64_w, i32_w]
               rfl
              refine pure_ (i := 19) (N := some 59) (v := ?_) (a' := ?_) #[true, true, true, true, true, true, true, true, true, true, true, true, true, true, true, true, true, true, true, true, false, false, false, false, false, false, false] rfl rfl (any_of HT_.out (by kernel_rfl)) (fun _ _ _ h => h) (Or.inl ⟨by rfl, ?_⟩) ?_ ?_
              rotate_left
              ·intro w'
               go_simp
               with_reducible rfl
              rotate_left
              ·simp only [Act.put, List.setIfInBounds_toArray, List.set_cons_zero, List.set_cons_succ, i64_w, i32_w]
               rfl
              refine pure_ (i := 23) (N := some 63) (v := ?_) (a' := ?_) #[true, true, true, true, true, true, true, true, true, true, true, true, true, true, true, true, true, true, true, true, false, false, false, true, false, false, false] rfl rfl (any_of HT_.out (by kernel_rfl)) (fun _ _ _ h => h) (Or.inl ⟨by rfl, ?_⟩) ?_ ?_
              rotate_left
              ·intro w'
               go_simp
               with_reducible rfl
              rotate_left
              ·simp only [Act.put, List.setIfInBounds_toArray, List.set_cons_zero, List.set_cons_succ, i64_w, i32_w]
               rfl
              refine take_ (i := 20) (N := some 60) (v := ?_) (a' := ?_) #[true, true, true, true, true, true, true, true, true, true, true, true, true, true, true, true, true, true, true, true, true, false, false, true, false, false, false] rfl rfl (take_ofW HT_.out HW_.out (by kernel_rfl)) (fun _ _ _ h => h) (Or.inl ⟨by rfl, ?_⟩) hHeld ?_ ?_
              rotate_left
              ·rintro w' ⟨s0, s1, s2, s3, s4, s5, s6, s7, s8, s9⟩
               go_simp
               with_reducible rfl
              rotate_left
              ·simp only [Act.put, List.setIfInBounds_toArray, List.set_cons_zero, List.set_cons_succ, i64_w, i32_w]
               rfl
              refine take_ (i := 21) (N := some 61) (v := ?_) (a' := ?_) #[true, true, true, true, true, true, true, true, true, true, true, true, true, true, true, true, true, true, true, true, true, true, false, true, false, false, false] rfl rfl (take_ofW HT_.out HW_.out (by kernel_rfl)) (fun _ _ _ h => h) (Or.inl ⟨by rfl, ?_⟩) hHeld ?_ ?_
              rotate_left
              ·rintro w' ⟨s0, s1, s2, s3, s4, s5, s6, s7, s8, s9⟩
               go_simp
               with_reducible rfl
              rotate_left
              ·simp only [Act.put, List.setIfInBounds_toArray, List.set_cons_zero, List.set_cons_succ, i64_w, i32_w]
               rfl
              refine take_ (i := 22) (N := some 62) (v := ?_) (a' := ?_) #[true, true, true, true, true, true, true, true, true, true, true, true, true, true, true, true, true, true, true, true, true, true, true, true, false, false, false] rfl rfl (take_ofW HT_.out HW_.out (by kernel_rfl)) (fun _ _ _ h => h) (Or.inl ⟨by rfl, ?_⟩) hHeld ?_ ?_
              rotate_left
              ·rintro w' ⟨s0, s1, s2, s3, s4, s5, s6, s7, s8, s9⟩
               go_simp
               with_reducible rfl
              rotate_left
              ·simp only [Act.put, List.setIfInBounds_toArray, List.set_cons_zero, List.set_cons_succ, i64_w, i32_w]
               rfl
              refine one_ (i := 24) (N := some 64) #[true, true, true, true, true, true, true, true, true, true, true, true, true, true, true, true, true, true, true, true, true, true, true, true, true, false, false] rfl rfl (one_of HT_.out (by kernel_rfl)) (by decide) (fun K hK => ?_)
              refine goes_ Try.func97 (by kernel_rfl) rfl #[.agg #[.int .i64 a0_0, .slice A0_1 l0_1.length c0_1], .agg #[.bool a1_0, .slice (some ad394) l1_1.length c1_1, .slice A1_2 l1_2.length c1_2], .int .i64 x35_2] (by rfl) rfl rfl (by (try simp only [List.map_toArray, List.map_cons, List.map_nil]); first | done | rfl | (simp only [List.length_drop, List.length_take]; rfl)) ?_
              with_reducible refine (impl_told.calls k2 a0_0 _ _ l0_1 a1_0 _ _ l1_1 _ _ l1_2 x35_2 t396 _ ?side1 ?side2 ?side3 ?side4 ?side5 ?side6 A50.out).mono ?_
              (case side1 => repeat (first | exact (Kd.C_below HR0_1.out HB.out) | (with_reducible refine Kd.C_alloc ?_ _) | (with_reducible refine Kd.C_drewN ?_ _) | (with_reducible refine Kd.C_drew ?_)))
              (case side2 => exact HC0_1.out)
              (case side3 => repeat (first | exact (Kd.C_below HR1_1.out HB.out) | (with_reducible refine Kd.C_alloc ?_ _) | (with_reducible refine Kd.C_drewN ?_ _) | (with_reducible refine Kd.C_drew ?_)))
              (case side4 => exact HC1_1.out)
              (case side5 => repeat (first | exact (Kd.C_below HR1_2.out HB.out) | (with_reducible refine Kd.C_alloc ?_ _) | (with_reducible refine Kd.C_drewN ?_ _) | (with_reducible refine Kd.C_drew ?_)))
              (case side6 => exact HC1_2.out)
              rintro e w53 ⟨rfl, hb⟩
              refine ⟨_, rfl, ?_⟩
              have n0_ := Aside0.mk (blk_below (g := gb391) (o := .cells #[.int .i64 a0_0, .slice A0_1 l0_1.length c0_1] 30 (0, 0)) (by (with_reducible repeat (first | refine blk_drewN ?_ _ | refine blk_drew ?_ | refine blk_alloc ?_ _)); exact BK391.out) hb)
              have n1_ := Aside0.mk (blk_below (g := gb392) (o := .cells #[.bool a1_0, .slice (some ad394) l1_1.length c1_1, .slice A1_2 l1_2.length c1_2] 46 (0, 0)) (by (with_reducible repeat (first | refine blk_drewN ?_ _ | refine blk_drew ?_ | refine blk_alloc ?_ _)); exact BK392.out) hb)
              have n2_ := Aside0.mk (blk_below (g := gb395) (o := .cells #[.int .i64 ((rd_T50 l1_1 x35_2).f0), .int .i64 ((rd_T50 l1_1 x35_2).f1), .bool ((rd_T50 l1_1 x35_2).f2), .bool ((rd_T50 l1_1 x35_2).f3), .int .i64 ((rd_T50 l1_1 x35_2).f4)] 50 (0, 0)) (by (with_reducible repeat (first | refine blk_drewN ?_ _ | refine blk_drew ?_ | refine blk_alloc ?_ _)); exact BK395.out) hb)
              have n3_ := Aside0.mk (below_step (by repeat (first | (with_reducible first | exact HB.out | apply below_alloc | apply pw_below_drewN | apply below_drew1 | refine below_set ?_ GE391.out | refine below_set ?_ GE392.out | refine below_set ?_ GE395.out) | exact HB.out)) hb)
              clear BK391
              clear BK392
              clear BK395
              clear HB
              have BK391 := n0_
              have BK392 := n1_
              have BK395 := n2_
              have HB := n3_
              clear n0_ n1_ n2_ n3_
              (try clear hb)
              (try clear hb2)
              (try clear hk)
              (try clear hi)
              refine hK.out _ _ ⟨(blk_cell BK395.out 0).trans rfl, (blk_cell BK395.out 1).trans rfl, (blk_cell BK395.out 2).trans rfl, (blk_cell BK395.out 3).trans rfl, (blk_cell BK395.out 4).trans rfl, (blk_cell BK391.out 0).trans rfl, (blk_cell BK391.out 1).trans rfl, (blk_cell BK392.out 0).trans rfl, (blk_cell BK392.out 1).trans rfl, (blk_cell BK392.out 2).trans rfl⟩ (fun hHeld => ?_)
              clear hK K
              refine norm_ (a' := ?_) ?_ ?_
              rotate_left
              ·show Act.put _ (some 64) _ = _
               simp only [Act.put, List.setIfInBounds_toArray, List.set_cons_zero, List.set_cons_succ, i64_w, i32_w]
               rfl
              refine pure_ (i := 25) (N := some 65) (v := ?_) (a' := ?_) #[true, true, true, true, true, true, true, true, true, true, true, true, true, true, true, true, true, true, true, true, true, true, true, true, true, true, false] rfl rfl (any_of HT_.out (by kernel_rfl)) (fun _ _ _ h => h) (Or.inl ⟨by rfl, ?_⟩) ?_ ?_
              rotate_left
              ·intro w'
               go_simp
               with_reducible rfl
              rotate_left
              ·simp only [Act.put, List.setIfInBounds_toArray, List.set_cons_zero, List.set_cons_succ, i64_w, i32_w]
               rfl
              refine pure_ (i := 26) (N := some 66) (v := ?_) (a' := ?_) #[true, true, true, true, true, true, true, true, true, true, true, true, true, true, true, true, true, true, true, true, true, true, true, true, true, true, true] rfl rfl (any_of HT_.out (by kernel_rfl)) (fun _ _ _ h => h) (Or.inl ⟨by rfl, ?_⟩) ?_ ?_
              rotate_left
              ·intro w'
               go_simp
               with_reducible rfl
              rotate_left
              ·simp only [Act.put, List.setIfInBounds_toArray, List.set_cons_zero, List.set_cons_succ, i64_w, i32_w]
               rfl
              refine done_ (done_of HT_.out (by kernel_rfl)) ?_
              try go_wp2
              go_meet
              case rel => exact ⟨_, ((((rd_T50 l1_1 x35_2).f0) != t396)), (by first | rfl | (simp; done) | (simp [*]; done)), H', ⟨by have := HJ2.out; have := HK2.out; first | omega | exact Nat.le_refl _⟩, ⟨by (with_reducible repeat (first | refine blk_drewN ?_ _ | refine blk_drew ?_ | refine blk_alloc ?_ _)); exact BK391.out⟩, ⟨by (with_reducible repeat (first | refine blk_drewN ?_ _ | refine blk_drew ?_ | refine blk_alloc ?_ _)); exact BK392.out⟩, ⟨by (with_reducible repeat (first | refine blk_drewN ?_ _ | refine blk_drew ?_ | refine blk_alloc ?_ _)); exact BK395.out⟩, ⟨by repeat (first | (with_reducible first | exact HB.out | apply below_alloc | apply pw_below_drewN | apply below_drew1 | refine below_set ?_ GE391.out | refine below_set ?_ GE392.out | refine below_set ?_ GE395.out) | exact HB.out)⟩⟩
         case rest =>
          clear HC33
          try clear c1
          try clear p2
          try clear c4
          try clear c9
          try clear c44
          try clear c44b0
          try clear c47
          try clear c47b0
          obtain ⟨kq, x66_32, rfl, HA, HJ32, BK391, BK392, BK395, HB⟩ := hcut
          cases kq with
          | zero => exact absurd HA.out (by simp [impl_StateOk.j2])
          | succ kj32 =>
           have H := HA.out
           clear HA
           simp only [impl_StateOk.j2] at H
           by_cases c54 : x66_32 = true
           ·subst c54
            have H1 : (some false) = some r := by rw [if_pos rfl] at H; exact H
            clear H
            have H := H1
            clear H1
            obtain rfl := Option.some.inj H
            go_wp2
            go_ret
            exact ⟨by first | rfl | (simp [errW_none, errW_some] <;> rfl) | (simp [*, errW_none, errW_some] <;> rfl), by repeat (first | (with_reducible first | exact HB.out | apply below_alloc | apply pw_below_drewN | apply below_drew1 | refine below_set ?_ GE391.out | refine below_set ?_ GE392.out | refine below_set ?_ GE395.out) | exact HB.out)⟩
           ·replace c54 := Bool.eq_false_iff.mpr c54
            subst c54
            have H1 : (if ((rd_T50 l1_1 x35_2).f1) < 0 then (if ((rd_T50 l1_1 x35_2).f2) = true then (if ((rd_T50 l1_1 x35_2).f3) = true then (if ((rd_T50 l1_1 x35_2).f1) = 0 then (if ((rd_T50 l1_1 x35_2).f4) = (-1) then (impl_StateOk.l0 kj32 l1_1 (l1_1.length : Int) (wrap64 (x35_2 + 1)) a0_0 l0_1 a1_0 l1_1 l1_2) else (impl_StateOk.l0 kj32 l1_1 (l1_1.length : Int) (wrap64 (x35_2 + 1)) a0_0 l0_1 a1_0 l1_1 l1_2)) else (impl_StateOk.l0 kj32 l1_1 (l1_1.length : Int) (wrap64 (x35_2 + 1)) a0_0 l0_1 a1_0 l1_1 l1_2)) else (impl_StateOk.l0 kj32 l1_1 (l1_1.length : Int) (wrap64 (x35_2 + 1)) a0_0 l0_1 a1_0 l1_1 l1_2)) else (some false)) else ((impl_dead.f kj32 a0_0 l0_1 a1_0 l1_1 l1_2 x35_2).bind fun t397 => (if t397 = true then (if ((rd_T50 l1_1 x35_2).f2) = true then (if ((rd_T50 l1_1 x35_2).f3) = true then (if ((rd_T50 l1_1 x35_2).f1) = 0 then (if ((rd_T50 l1_1 x35_2).f4) = (-1) then (impl_StateOk.l0 kj32 l1_1 (l1_1.length : Int) (wrap64 (x35_2 + 1)) a0_0 l0_1 a1_0 l1_1 l1_2) else (impl_StateOk.l0 kj32 l1_1 (l1_1.length : Int) (wrap64 (x35_2 + 1)) a0_0 l0_1 a1_0 l1_1 l1_2)) else (impl_StateOk.l0 kj32 l1_1 (l1_1.length : Int) (wrap64 (x35_2 + 1)) a0_0 l0_1 a1_0 l1_1 l1_2)) else (impl_StateOk.l0 kj32 l1_1 (l1_1.length : Int) (wrap64 (x35_2 + 1)) a0_0 l0_1 a1_0 l1_1 l1_2)) else (some false)) else (if ((rd_T50 l1_1 x35_2).f3) = true then (if ((rd_T50 l1_1 x35_2).f1) = 0 then (if ((rd_T50 l1_1 x35_2).f4) = (-1) then (if ((rd_T50 l1_1 x35_2).f2) = true then (impl_StateOk.l0 kj32 l1_1 (l1_1.length : Int) (wrap64 (x35_2 + 1)) a0_0 l0_1 a1_0 l1_1 l1_2) else (some false)) else (impl_StateOk.l0 kj32 l1_1 (l1_1.length : Int) (wrap64 (x35_2 + 1)) a0_0 l0_1 a1_0 l1_1 l1_2)) else (impl_StateOk.l0 kj32 l1_1 (l1_1.length : Int) (wrap64 (x35_2 + 1)) a0_0 l0_1 a1_0 l1_1 l1_2)) else (impl_StateOk.l0 kj32 l1_1 (l1_1.length : Int) (wrap64 (x35_2 + 1)) a0_0 l0_1 a1_0 l1_1 l1_2))))) = some r := by rw [if_neg (show ¬ (false = true) by decide)] at H; exact H
            clear H
            have H := H1
            clear H1
            by_cases c55 : ((rd_T50 l1_1 x35_2).f1) < 0
            ·rw [if_pos c55] at H
             have c55b0 : decide (((rd_T50 l1_1 x35_2).f1) < 0) = true := decide_eq_true c55
             clear c55
             by_cases c56 : ((rd_T50 l1_1 x35_2).f2) = true
             ·rw [if_pos c56] at H
              have c56b0 : ((rd_T50 l1_1 x35_2).f2) = true := c56
              clear c56
              by_cases c57 : ((rd_T50 l1_1 x35_2).f3) = true
              ·rw [if_pos c57] at H
               have c57b0 : ((rd_T50 l1_1 x35_2).f3) = true := c57
               clear c57
               by_cases c58 : ((rd_T50 l1_1 x35_2).f1) = 0
               ·rw [if_pos c58] at H
                have c58b0 : (((rd_T50 l1_1 x35_2).f1) == 0) = true := beq_iff_eq.mpr c58
                have c58b1 : (((rd_T50 l1_1 x35_2).f1) != 0) = false := bne_eq_false_iff_eq.mpr c58
                clear c58
                by_cases c59 : ((rd_T50 l1_1 x35_2).f4) = (-1)
                ·rw [if_pos c59] at H
                 have c59b0 : (((rd_T50 l1_1 x35_2).f4) == (-1)) = true := beq_iff_eq.mpr c59
                 have c59b1 : (((rd_T50 l1_1 x35_2).f4) != (-1)) = false := bne_eq_false_iff_eq.mpr c59
                 clear c59
                 have H' := Aside0.mk H
                 clear H
                 have hnb60 := NB395_391.out
                 have hnc60 := NB391_395.out
                 have hnb61 := NB395_392.out
                 have hnc61 := NB392_395.out
                 have hcz62_0 : wc.cell? ⟨gb395, 0, none⟩ = some (.int .i64 ((rd_T50 l1_1 x35_2).f0)) := (blk_cell BK395.out 0).trans rfl
                 have hcz62_1 : wc.cell? ⟨gb395, 1, none⟩ = some (.int .i64 ((rd_T50 l1_1 x35_2).f1)) := (blk_cell BK395.out 1).trans rfl
                 have hcz62_2 : wc.cell? ⟨gb395, 2, none⟩ = some (.bool ((rd_T50 l1_1 x35_2).f2)) := (blk_cell BK395.out 2).trans rfl
                 have hcz62_3 : wc.cell? ⟨gb395, 3, none⟩ = some (.bool ((rd_T50 l1_1 x35_2).f3)) := (blk_cell BK395.out 3).trans rfl
                 have hcz62_4 : wc.cell? ⟨gb395, 4, none⟩ = some (.int .i64 ((rd_T50 l1_1 x35_2).f4)) := (blk_cell BK395.out 4).trans rfl
                 have hfz62_0 := blk_frozen BK395.out 0
                 have hfz62_1 := blk_frozen BK395.out 1
                 have hfz62_2 := blk_frozen BK395.out 2
                 have hfz62_3 := blk_frozen BK395.out 3
                 have hfz62_4 := blk_frozen BK395.out 4
                 go_wp2
                 go_roundg kj32
                 case measure => have := HJ2.out; have := HK2.out; have := HJ32.out; omega
                 case rel => exact ⟨(wrap64 (x35_2 + 1)), (by first | rfl | (simp; done) | (simp [*]; done)), H', ⟨by have := HJ2.out; have := HK2.out; have := HJ32.out; omega⟩, ⟨by (with_reducible repeat (first | refine blk_drewN ?_ _ | refine blk_drew ?_ | refine blk_alloc ?_ _)); exact BK391.out⟩, ⟨by (with_reducible repeat (first | refine blk_drewN ?_ _ | refine blk_drew ?_ | refine blk_alloc ?_ _)); exact BK392.out⟩, ⟨by repeat (first | (with_reducible first | exact HB.out | apply below_alloc | apply pw_below_drewN | apply below_drew1 | refine below_set ?_ GE391.out | refine below_set ?_ GE392.out | refine below_set ?_ GE395.out) | exact HB.out)⟩⟩
                ·rw [if_neg c59] at H
                 have c59b0 : (((rd_T50 l1_1 x35_2).f4) == (-1)) = false := beq_eq_false_iff_ne.mpr c59
                 have c59b1 : (((rd_T50 l1_1 x35_2).f4) != (-1)) = true := bne_iff_ne.mpr c59
                 have H' := Aside0.mk H
                 clear H
                 have hnb63 := NB395_391.out
                 have hnc63 := NB391_395.out
                 have hnb64 := NB395_392.out
                 have hnc64 := NB392_395.out
                 have hcz65_0 : wc.cell? ⟨gb395, 0, none⟩ = some (.int .i64 ((rd_T50 l1_1 x35_2).f0)) := (blk_cell BK395.out 0).trans rfl
                 have hcz65_1 : wc.cell? ⟨gb395, 1, none⟩ = some (.int .i64 ((rd_T50 l1_1 x35_2).f1)) := (blk_cell BK395.out 1).trans rfl
                 have hcz65_2 : wc.cell? ⟨gb395, 2, none⟩ = some (.bool ((rd_T50 l1_1 x35_2).f2)) := (blk_cell BK395.out 2).trans rfl
                 have hcz65_3 : wc.cell? ⟨gb395, 3, none⟩ = some (.bool ((rd_T50 l1_1 x35_2).f3)) := (blk_cell BK395.out 3).trans rfl
                 have hcz65_4 : wc.cell? ⟨gb395, 4, none⟩ = some (.int .i64 ((rd_T50 l1_1 x35_2).f4)) := (blk_cell BK395.out 4).trans rfl
                 have hfz65_0 := blk_frozen BK395.out 0
                 have hfz65_1 := blk_frozen BK395.out 1
                 have hfz65_2 := blk_frozen BK395.out 2
                 have hfz65_3 := blk_frozen BK395.out 3
                 have hfz65_4 := blk_frozen BK395.out 4
                 go_wp2
                 go_roundg kj32
                 case measure => have := HJ2.out; have := HK2.out; have := HJ32.out; omega
                 case rel => exact ⟨(wrap64 (x35_2 + 1)), (by first | rfl | (simp; done) | (simp [*]; done)), H', ⟨by have := HJ2.out; have := HK2.out; have := HJ32.out; omega⟩, ⟨by (with_reducible repeat (first | refine blk_drewN ?_ _ | refine blk_drew ?_ | refine blk_alloc ?_ _)); exact BK391.out⟩, ⟨by (with_reducible repeat (first | refine blk_drewN ?_ _ | refine blk_drew ?_ | refine blk_alloc ?_ _)); exact BK392.out⟩, ⟨by repeat (first | (with_reducible first | exact HB.out | apply below_alloc | apply pw_below_drewN | apply below_drew1 | refine below_set ?_ GE391.out | refine below_set ?_ GE392.out | refine below_set ?_ GE395.out) | exact HB.out)⟩⟩
               ·rw [if_neg c58] at H
                have c58b0 : (((rd_T50 l1_1 x35_2).f1) == 0) = false := beq_eq_false_iff_ne.mpr c58
                have c58b1 : (((rd_T50 l1_1 x35_2).f1) != 0) = true := bne_iff_ne.mpr c58
                have H' := Aside0.mk H
                clear H
                have hnb66 := NB395_391.out
                have hnc66 := NB391_395.out
                have hnb67 := NB395_392.out
                have hnc67 := NB392_395.out
                have hcz68_0 : wc.cell? ⟨gb395, 0, none⟩ = some (.int .i64 ((rd_T50 l1_1 x35_2).f0)) := (blk_cell BK395.out 0).trans rfl
                have hcz68_1 : wc.cell? ⟨gb395, 1, none⟩ = some (.int .i64 ((rd_T50 l1_1 x35_2).f1)) := (blk_cell BK395.out 1).trans rfl
                have hcz68_2 : wc.cell? ⟨gb395, 2, none⟩ = some (.bool ((rd_T50 l1_1 x35_2).f2)) := (blk_cell BK395.out 2).trans rfl
                have hcz68_3 : wc.cell? ⟨gb395, 3, none⟩ = some (.bool ((rd_T50 l1_1 x35_2).f3)) := (blk_cell BK395.out 3).trans rfl
                have hcz68_4 : wc.cell? ⟨gb395, 4, none⟩ = some (.int .i64 ((rd_T50 l1_1 x35_2).f4)) := (blk_cell BK395.out 4).trans rfl
                have hfz68_0 := blk_frozen BK395.out 0
                have hfz68_1 := blk_frozen BK395.out 1
                have hfz68_2 := blk_frozen BK395.out 2
                have hfz68_3 := blk_frozen BK395.out 3
                have hfz68_4 := blk_frozen BK395.out 4
                go_wp2
                go_roundg kj32
                case measure => have := HJ2.out; have := HK2.out; have := HJ32.out; omega
                case rel => exact ⟨(wrap64 (x35_2 + 1)), (by first | rfl | (simp; done) | (simp [*]; done)), H', ⟨by have := HJ2.out; have := HK2.out; have := HJ32.out; omega⟩, ⟨by (with_reducible repeat (first | refine blk_drewN ?_ _ | refine blk_drew ?_ | refine blk_alloc ?_ _)); exact BK391.out⟩, ⟨by (with_reducible repeat (first | refine blk_drewN ?_ _ | refine blk_drew ?_ | refine blk_alloc ?_ _)); exact BK392.out⟩, ⟨by repeat (first | (with_reducible first | exact HB.out | apply below_alloc | apply pw_below_drewN | apply below_drew1 | refine below_set ?_ GE391.out | refine below_set ?_ GE392.out | refine below_set ?_ GE395.out) | exact HB.out)⟩⟩
              ·rw [if_neg c57] at H
               have c57b0 : ((rd_T50 l1_1 x35_2).f3) = false := by simpa using c57
               clear c57
               have H' := Aside0.mk H
               clear H
               have hnb69 := NB395_391.out
               have hnc69 := NB391_395.out
               have hnb70 := NB395_392.out
               have hnc70 := NB392_395.out
               have hcz71_0 : wc.cell? ⟨gb395, 0, none⟩ = some (.int .i64 ((rd_T50 l1_1 x35_2).f0)) := (blk_cell BK395.out 0).trans rfl
               have hcz71_1 : wc.cell? ⟨gb395, 1, none⟩ = some (.int .i64 ((rd_T50 l1_1 x35_2).f1)) := (blk_cell BK395.out 1).trans rfl
               have hcz71_2 : wc.cell? ⟨gb395, 2, none⟩ = some (.bool ((rd_T50 l1_1 x35_2).f2)) := (blk_cell BK395.out 2).trans rfl
               have hcz71_3 : wc.cell? ⟨gb395, 3, none⟩ = some (.bool ((rd_T50 l1_1 x35_2).f3)) := (blk_cell BK395.out 3).trans rfl
               have hcz71_4 : wc.cell? ⟨gb395, 4, none⟩ = some (.int .i64 ((rd_T50 l1_1 x35_2).f4)) := (blk_cell BK395.out 4).trans rfl
               have hfz71_0 := blk_frozen BK395.out 0
               have hfz71_1 := blk_frozen BK395.out 1
               have hfz71_2 := blk_frozen BK395.out 2
               have hfz71_3 := blk_frozen BK395.out 3
               have hfz71_4 := blk_frozen BK395.out 4
               go_wp2
               go_roundg kj32
               case measure => have := HJ2.out; have := HK2.out; have := HJ32.out; omega
               case rel => exact ⟨(wrap64 (x35_2 + 1)), (by first | rfl | (simp; done) | (simp [*]; done)), H', ⟨by have := HJ2.out; have := HK2.out; have := HJ32.out; omega⟩, ⟨by (with_reducible repeat (first | refine blk_drewN ?_ _ | refine blk_drew ?_ | refine blk_alloc ?_ _)); exact BK391.out⟩, ⟨by (with_reducible repeat (first | refine blk_drewN ?_ _ | refine blk_drew ?_ | refine blk_alloc ?_ _)); exact BK392.out⟩, ⟨by repeat (first | (with_reducible first | exact HB.out | apply below_alloc | apply pw_below_drewN | apply below_drew1 | refine below_set ?_ GE391.out | refine below_set ?_ GE392.out | refine below_set ?_ GE395.out) | exact HB.out)⟩⟩
             ·rw [if_neg c56] at H
              have c56b0 : ((rd_T50 l1_1 x35_2).f2) = false := by simpa using c56
              clear c56
              obtain rfl := Option.some.inj H
              have hnb72 := NB395_391.out
              have hnc72 := NB391_395.out
              have hnb73 := NB395_392.out
              have hnc73 := NB392_395.out
              have hcz74_0 : wc.cell? ⟨gb395, 0, none⟩ = some (.int .i64 ((rd_T50 l1_1 x35_2).f0)) := (blk_cell BK395.out 0).trans rfl
              have hcz74_1 : wc.cell? ⟨gb395, 1, none⟩ = some (.int .i64 ((rd_T50 l1_1 x35_2).f1)) := (blk_cell BK395.out 1).trans rfl
              have hcz74_2 : wc.cell? ⟨gb395, 2, none⟩ = some (.bool ((rd_T50 l1_1 x35_2).f2)) := (blk_cell BK395.out 2).trans rfl
              have hcz74_3 : wc.cell? ⟨gb395, 3, none⟩ = some (.bool ((rd_T50 l1_1 x35_2).f3)) := (blk_cell BK395.out 3).trans rfl
              have hcz74_4 : wc.cell? ⟨gb395, 4, none⟩ = some (.int .i64 ((rd_T50 l1_1 x35_2).f4)) := (blk_cell BK395.out 4).trans rfl
              have hfz74_0 := blk_frozen BK395.out 0
              have hfz74_1 := blk_frozen BK395.out 1
              have hfz74_2 := blk_frozen BK395.out 2
              have hfz74_3 := blk_frozen BK395.out 3
              have hfz74_4 := blk_frozen BK395.out 4
              go_wp2
              go_ret
              exact ⟨by first | rfl | (simp [errW_none, errW_some] <;> rfl) | (simp [*, errW_none, errW_some] <;> rfl), by repeat (first | (with_reducible first | exact HB.out | apply below_alloc | apply pw_below_drewN | apply below_drew1 | refine below_set ?_ GE391.out | refine below_set ?_ GE392.out | refine below_set ?_ GE395.out) | exact HB.out)⟩
            ·rw [if_neg c55] at H
             have c55b0 : decide (((rd_T50 l1_1 x35_2).f1) < 0) = false := decide_eq_false c55
             clear c55
             replace H := Option.bind_eq_some_iff.mp H
             obtain ⟨t397, A750, H⟩ := H
             replace H : (if t397 = true then (if ((rd_T50 l1_1 x35_2).f2) = true then (if ((rd_T50 l1_1 x35_2).f3) = true then (if ((rd_T50 l1_1 x35_2).f1) = 0 then (if ((rd_T50 l1_1 x35_2).f4) = (-1) then (impl_StateOk.l0 kj32 l1_1 (l1_1.length : Int) (wrap64 (x35_2 + 1)) a0_0 l0_1 a1_0 l1_1 l1_2) else (impl_StateOk.l0 kj32 l1_1 (l1_1.length : Int) (wrap64 (x35_2 + 1)) a0_0 l0_1 a1_0 l1_1 l1_2)) else (impl_StateOk.l0 kj32 l1_1 (l1_1.length : Int) (wrap64 (x35_2 + 1)) a0_0 l0_1 a1_0 l1_1 l1_2)) else (impl_StateOk.l0 kj32 l1_1 (l1_1.length : Int) (wrap64 (x35_2 + 1)) a0_0 l0_1 a1_0 l1_1 l1_2)) else (some false)) else (if ((rd_T50 l1_1 x35_2).f3) = true then (if ((rd_T50 l1_1 x35_2).f1) = 0 then (if ((rd_T50 l1_1 x35_2).f4) = (-1) then (if ((rd_T50 l1_1 x35_2).f2) = true then (impl_StateOk.l0 kj32 l1_1 (l1_1.length : Int) (wrap64 (x35_2 + 1)) a0_0 l0_1 a1_0 l1_1 l1_2) else (some false)) else (impl_StateOk.l0 kj32 l1_1 (l1_1.length : Int) (wrap64 (x35_2 + 1)) a0_0 l0_1 a1_0 l1_1 l1_2)) else (impl_StateOk.l0 kj32 l1_1 (l1_1.length : Int) (wrap64 (x35_2 + 1)) a0_0 l0_1 a1_0 l1_1 l1_2)) else (impl_StateOk.l0 kj32 l1_1 (l1_1.length : Int) (wrap64 (x35_2 + 1)) a0_0 l0_1 a1_0 l1_1 l1_2))) = some r := H
             have A75 := Aside0.mk A750
             clear A750
             by_cases c76 : t397 = true
             ·subst c76
              have H1 : (if ((rd_T50 l1_1 x35_2).f2) = true then (if ((rd_T50 l1_1 x35_2).f3) = true then (if ((rd_T50 l1_1 x35_2).f1) = 0 then (if ((rd_T50 l1_1 x35_2).f4) = (-1) then (impl_StateOk.l0 kj32 l1_1 (l1_1.length : Int) (wrap64 (x35_2 + 1)) a0_0 l0_1 a1_0 l1_1 l1_2) else (impl_StateOk.l0 kj32 l1_1 (l1_1.length : Int) (wrap64 (x35_2 + 1)) a0_0 l0_1 a1_0 l1_1 l1_2)) else (impl_StateOk.l0 kj32 l1_1 (l1_1.length : Int) (wrap64 (x35_2 + 1)) a0_0 l0_1 a1_0 l1_1 l1_2)) else (impl_StateOk.l0 kj32 l1_1 (l1_1.length : Int) (wrap64 (x35_2 + 1)) a0_0 l0_1 a1_0 l1_1 l1_2)) else (some false)) = some r := by rw [if_pos rfl] at H; exact H
              clear H
              have H := H1
              clear H1
              by_cases c77 : ((rd_T50 l1_1 x35_2).f2) = true
              ·rw [if_pos c77] at H
               have c77b0 : ((rd_T50 l1_1 x35_2).f2) = true := c77
               clear c77
               by_cases c78 : ((rd_T50 l1_1 x35_2).f3) = true
               ·rw [if_pos c78] at H
                have c78b0 : ((rd_T50 l1_1 x35_2).f3) = true := c78
                clear c78
                by_cases c79 : ((rd_T50 l1_1 x35_2).f1) = 0
                ·rw [if_pos c79] at H
                 have c79b0 : (((rd_T50 l1_1 x35_2).f1) == 0) = true := beq_iff_eq.mpr c79
                 have c79b1 : (((rd_T50 l1_1 x35_2).f1) != 0) = false := bne_eq_false_iff_eq.mpr c79
                 clear c79
                 by_cases c80 : ((rd_T50 l1_1 x35_2).f4) = (-1)
                 ·rw [if_pos c80] at H
                  have c80b0 : (((rd_T50 l1_1 x35_2).f4) == (-1)) = true := beq_iff_eq.mpr c80
                  have c80b1 : (((rd_T50 l1_1 x35_2).f4) != (-1)) = false := bne_eq_false_iff_eq.mpr c80
                  clear c80
                  have H' := Aside0.mk H
                  clear H
                  have hnb81 := NB395_391.out
                  have hnc81 := NB391_395.out
                  have hnb82 := NB395_392.out
                  have hnc82 := NB392_395.out
                  have hcz83_0 : wc.cell? ⟨gb395, 0, none⟩ = some (.int .i64 ((rd_T50 l1_1 x35_2).f0)) := (blk_cell BK395.out 0).trans rfl
                  have hcz83_1 : wc.cell? ⟨gb395, 1, none⟩ = some (.int .i64 ((rd_T50 l1_1 x35_2).f1)) := (blk_cell BK395.out 1).trans rfl
                  have hcz83_2 : wc.cell? ⟨gb395, 2, none⟩ = some (.bool ((rd_T50 l1_1 x35_2).f2)) := (blk_cell BK395.out 2).trans rfl
                  have hcz83_3 : wc.cell? ⟨gb395, 3, none⟩ = some (.bool ((rd_T50 l1_1 x35_2).f3)) := (blk_cell BK395.out 3).trans rfl
                  have hcz83_4 : wc.cell? ⟨gb395, 4, none⟩ = some (.int .i64 ((rd_T50 l1_1 x35_2).f4)) := (blk_cell BK395.out 4).trans rfl
                  have hfz83_0 := blk_frozen BK395.out 0
                  have hfz83_1 := blk_frozen BK395.out 1
                  have hfz83_2 := blk_frozen BK395.out 2
                  have hfz83_3 := blk_frozen BK395.out 3
                  have hfz83_4 := blk_frozen BK395.out 4
                  have hnb84 := NB391_392.out
                  have hnc84 := NB392_391.out
                  have hcz85_0 : wc.cell? ⟨gb391, 0, none⟩ = some (.int .i64 a0_0) := (blk_cell BK391.out 0).trans rfl
                  have hcz85_1 : wc.cell? ⟨gb391, 1, none⟩ = some (.slice A0_1 l0_1.length c0_1) := (blk_cell BK391.out 1).trans rfl
                  have hfz85_0 := blk_frozen BK391.out 0
                  have hfz85_1 := blk_frozen BK391.out 1
                  have hcz86_0 : wc.cell? ⟨gb392, 0, none⟩ = some (.bool a1_0) := (blk_cell BK392.out 0).trans rfl
                  have hcz86_1 : wc.cell? ⟨gb392, 1, none⟩ = some (.slice (some ad394) l1_1.length c1_1) := (blk_cell BK392.out 1).trans rfl
                  have hcz86_2 : wc.cell? ⟨gb392, 2, none⟩ = some (.slice A1_2 l1_2.length c1_2) := (blk_cell BK392.out 2).trans rfl
                  have hfz86_0 := blk_frozen BK392.out 0
                  have hfz86_1 := blk_frozen BK392.out 1
                  have hfz86_2 := blk_frozen BK392.out 2
                  go_wp2_with (first | (go_at_call 98; (with_reducible refine (impl_dead.calls kj32 a0_0 _ _ l0_1 a1_0 _ _ l1_1 _ _ l1_2 x35_2 true _ ?side1 ?side2 ?side3 ?side4 ?side5 ?side6 A75.out).mono ?_); (case side1 => repeat (first | exact (Kd.C_below HR0_1.out HB.out) | (with_reducible refine Kd.C_alloc ?_ _) | (with_reducible refine Kd.C_drewN ?_ _) | (with_reducible refine Kd.C_drew ?_))); (case side2 => exact HC0_1.out); (case side3 => repeat (first | exact (Kd.C_below HR1_1.out HB.out) | (with_reducible refine Kd.C_alloc ?_ _) | (with_reducible refine Kd.C_drewN ?_ _) | (with_reducible refine Kd.C_drew ?_))); (case side4 => exact HC1_1.out); (case side5 => repeat (first | exact (Kd.C_below HR1_2.out HB.out) | (with_reducible refine Kd.C_alloc ?_ _) | (with_reducible refine Kd.C_drewN ?_ _) | (with_reducible refine Kd.C_drew ?_))); (case side6 => exact HC1_2.out); rintro e w87 ⟨rfl, hb⟩; have n0_ := Aside0.mk (blk_below (g := gb391) (o := .cells #[.int .i64 a0_0, .slice A0_1 l0_1.length c0_1] 30 (0, 0)) (by (with_reducible repeat (first | refine blk_drewN ?_ _ | refine blk_drew ?_ | refine blk_alloc ?_ _)); exact BK391.out) hb); have n1_ := Aside0.mk (blk_below (g := gb392) (o := .cells #[.bool a1_0, .slice (some ad394) l1_1.length c1_1, .slice A1_2 l1_2.length c1_2] 46 (0, 0)) (by (with_reducible repeat (first | refine blk_drewN ?_ _ | refine blk_drew ?_ | refine blk_alloc ?_ _)); exact BK392.out) hb); have n2_ := Aside0.mk (blk_below (g := gb395) (o := .cells #[.int .i64 ((rd_T50 l1_1 x35_2).f0), .int .i64 ((rd_T50 l1_1 x35_2).f1), .bool ((rd_T50 l1_1 x35_2).f2), .bool ((rd_T50 l1_1 x35_2).f3), .int .i64 ((rd_T50 l1_1 x35_2).f4)] 50 (0, 0)) (by (with_reducible repeat (first | refine blk_drewN ?_ _ | refine blk_drew ?_ | refine blk_alloc ?_ _)); exact BK395.out) hb); have n3_ := Aside0.mk (below_step (by repeat (first | (with_reducible first | exact HB.out | apply below_alloc | apply pw_below_drewN | apply below_drew1 | refine below_set ?_ GE391.out | refine below_set ?_ GE392.out | refine below_set ?_ GE395.out) | exact HB.out)) hb); clear BK391; clear BK392; clear BK395; clear HB; have BK391 := n0_; have BK392 := n1_; have BK395 := n2_; have HB := n3_; clear n0_ n1_ n2_ n3_; (try clear hb); (try clear hb2); (try clear hk); (try clear hi); have hcz88_0 : w87.cell? ⟨gb395, 0, none⟩ = some (.int .i64 ((rd_T50 l1_1 x35_2).f0)) := (blk_cell BK395.out 0).trans rfl; have hcz88_1 : w87.cell? ⟨gb395, 1, none⟩ = some (.int .i64 ((rd_T50 l1_1 x35_2).f1)) := (blk_cell BK395.out 1).trans rfl; have hcz88_2 : w87.cell? ⟨gb395, 2, none⟩ = some (.bool ((rd_T50 l1_1 x35_2).f2)) := (blk_cell BK395.out 2).trans rfl; have hcz88_3 : w87.cell? ⟨gb395, 3, none⟩ = some (.bool ((rd_T50 l1_1 x35_2).f3)) := (blk_cell BK395.out 3).trans rfl; have hcz88_4 : w87.cell? ⟨gb395, 4, none⟩ = some (.int .i64 ((rd_T50 l1_1 x35_2).f4)) := (blk_cell BK395.out 4).trans rfl; have hfz88_0 := blk_frozen BK395.out 0; have hfz88_1 := blk_frozen BK395.out 1; have hfz88_2 := blk_frozen BK395.out 2; have hfz88_3 := blk_frozen BK395.out 3; have hfz88_4 := blk_frozen BK395.out 4))
                  go_roundg kj32
                  case measure => have := HJ2.out; have := HK2.out; have := HJ32.out; omega
                  case rel => exact ⟨(wrap64 (x35_2 + 1)), (by first | rfl | (simp; done) | (simp [*]; done)), H', ⟨by have := HJ2.out; have := HK2.out; have := HJ32.out; omega⟩, ⟨by (with_reducible repeat (first | refine blk_drewN ?_ _ | refine blk_drew ?_ | refine blk_alloc ?_ _)); exact BK391.out⟩, ⟨by (with_reducible repeat (first | refine blk_drewN ?_ _ | refine blk_drew ?_ | refine blk_alloc ?_ _)); exact BK392.out⟩, ⟨by repeat (first | (with_reducible first | exact HB.out | apply below_alloc | apply pw_below_drewN | apply below_drew1 | refine below_set ?_ GE391.out | refine below_set ?_ GE392.out | refine below_set ?_ GE395.out) | exact HB.out)⟩⟩
                 ·rw [if_neg c80] at H
                  have c80b0 : (((rd_T50 l1_1 x35_2).f4) == (-1)) = false := beq_eq_false_iff_ne.mpr c80
                  have c80b1 : (((rd_T50 l1_1 x35_2).f4) != (-1)) = true := bne_iff_ne.mpr c80
                  have H' := Aside0.mk H
                  clear H
                  have hnb89 := NB395_391.out
                  have hnc89 := NB391_395.out
                  have hnb90 := NB395_392.out
                  have hnc90 := NB392_395.out
                  have hcz91_0 : wc.cell? ⟨gb395, 0, none⟩ = some (.int .i64 ((rd_T50 l1_1 x35_2).f0)) := (blk_cell BK395.out 0).trans rfl
                  have hcz91_1 : wc.cell? ⟨gb395, 1, none⟩ = some (.int .i64 ((rd_T50 l1_1 x35_2).f1)) := (blk_cell BK395.out 1).trans rfl
                  have hcz91_2 : wc.cell? ⟨gb395, 2, none⟩ = some (.bool ((rd_T50 l1_1 x35_2).f2)) := (blk_cell BK395.out 2).trans rfl
                  have hcz91_3 : wc.cell? ⟨gb395, 3, none⟩ = some (.bool ((rd_T50 l1_1 x35_2).f3)) := (blk_cell BK395.out 3).trans rfl
                  have hcz91_4 : wc.cell? ⟨gb395, 4, none⟩ = some (.int .i64 ((rd_T50 l1_1 x35_2).f4)) := (blk_cell BK395.out 4).trans rfl
                  have hfz91_0 := blk_frozen BK395.out 0
                  have hfz91_1 := blk_frozen BK395.out 1
                  have hfz91_2 := blk_frozen BK395.out 2
                  have hfz91_3 := blk_frozen BK395.out 3
                  have hfz91_4 := blk_frozen BK395.out 4
                  have hnb92 := NB391_392.out
                  have hnc92 := NB392_391.out
                  have hcz93_0 : wc.cell? ⟨gb391, 0, none⟩ = some (.int .i64 a0_0) := (blk_cell BK391.out 0).trans rfl
                  have hcz93_1 : wc.cell? ⟨gb391, 1, none⟩ = some (.slice A0_1 l0_1.length c0_1) := (blk_cell BK391.out 1).trans rfl
                  have hfz93_0 := blk_frozen BK391.out 0
                  have hfz93_1 := blk_frozen BK391.out 1
                  have hcz94_0 : wc.cell? ⟨gb392, 0, none⟩ = some (.bool a1_0) := (blk_cell BK392.out 0).trans rfl
                  have hcz94_1 : wc.cell? ⟨gb392, 1, none⟩ = some (.slice (some ad394) l1_1.length c1_1) := (blk_cell BK392.out 1).trans rfl
                  have hcz94_2 : wc.cell? ⟨gb392, 2, none⟩ = some (.slice A1_2 l1_2.length c1_2) := (blk_cell BK392.out 2).trans rfl
                  have hfz94_0 := blk_frozen BK392.out 0
                  have hfz94_1 := blk_frozen BK392.out 1
                  have hfz94_2 := blk_frozen BK392.out 2
                  go_wp2_with (first | (go_at_call 98; (with_reducible refine (impl_dead.calls kj32 a0_0 _ _ l0_1 a1_0 _ _ l1_1 _ _ l1_2 x35_2 true _ ?side1 ?side2 ?side3 ?side4 ?side5 ?side6 A75.out).mono ?_); (case side1 => repeat (first | exact (Kd.C_below HR0_1.out HB.out) | (with_reducible refine Kd.C_alloc ?_ _) | (with_reducible refine Kd.C_drewN ?_ _) | (with_reducible refine Kd.C_drew ?_))); (case side2 => exact HC0_1.out); (case side3 => repeat (first | exact (Kd.C_below HR1_1.out HB.out) | (with_reducible refine Kd.C_alloc ?_ _) | (with_reducible refine Kd.C_drewN ?_ _) | (with_reducible refine Kd.C_drew ?_))); (case side4 => exact HC1_1.out); (case side5 => repeat (first | exact (Kd.C_below HR1_2.out HB.out) | (with_reducible refine Kd.C_alloc ?_ _) | (with_reducible refine Kd.C_drewN ?_ _) | (with_reducible refine Kd.C_drew ?_))); (case side6 => exact HC1_2.out); rintro e w95 ⟨rfl, hb⟩; have n0_ := Aside0.mk (blk_below (g := gb391) (o := .cells #[.int .i64 a0_0, .slice A0_1 l0_1.length c0_1] 30 (0, 0)) (by (with_reducible repeat (first | refine blk_drewN ?_ _ | refine blk_drew ?_ | refine blk_alloc ?_ _)); exact BK391.out) hb); have n1_ := Aside0.mk (blk_below (g := gb392) (o := .cells #[.bool a1_0, .slice (some ad394) l1_1.length c1_1, .slice A1_2 l1_2.length c1_2] 46 (0, 0)) (by (with_reducible repeat (first | refine blk_drewN ?_ _ | refine blk_drew ?_ | refine blk_alloc ?_ _)); exact BK392.out) hb); have n2_ := Aside0.mk (blk_below (g := gb395) (o := .cells #[.int .i64 ((rd_T50 l1_1 x35_2).f0), .int .i64 ((rd_T50 l1_1 x35_2).f1), .bool ((rd_T50 l1_1 x35_2).f2), .bool ((rd_T50 l1_1 x35_2).f3), .int .i64 ((rd_T50 l1_1 x35_2).f4)] 50 (0, 0)) (by (with_reducible repeat (first | refine blk_drewN ?_ _ | refine blk_drew ?_ | refine blk_alloc ?_ _)); exact BK395.out) hb); have n3_ := Aside0.mk (below_step (by repeat (first | (with_reducible first | exact HB.out | apply below_alloc | apply pw_below_drewN | apply below_drew1 | refine below_set ?_ GE391.out | refine below_set ?_ GE392.out | refine below_set ?_ GE395.out) | exact HB.out)) hb); clear BK391; clear BK392; clear BK395; clear HB; have BK391 := n0_; have BK392 := n1_; have BK395 := n2_; have HB := n3_; clear n0_ n1_ n2_ n3_; (try clear hb); (try clear hb2); (try clear hk); (try clear hi); have hcz96_0 : w95.cell? ⟨gb395, 0, none⟩ = some (.int .i64 ((rd_T50 l1_1 x35_2).f0)) := (blk_cell BK395.out 0).trans rfl; have hcz96_1 : w95.cell? ⟨gb395, 1, none⟩ = some (.int .i64 ((rd_T50 l1_1 x35_2).f1)) := (blk_cell BK395.out 1).trans rfl; have hcz96_2 : w95.cell? ⟨gb395, 2, none⟩ = some (.bool ((rd_T50 l1_1 x35_2).f2)) := (blk_cell BK395.out 2).trans rfl; have hcz96_3 : w95.cell? ⟨gb395, 3, none⟩ = some (.bool ((rd_T50 l1_1 x35_2).f3)) := (blk_cell BK395.out 3).trans rfl; have hcz96_4 : w95.cell? ⟨gb395, 4, none⟩ = some (.int .i64 ((rd_T50 l1_1 x35_2).f4)) := (blk_cell BK395.out 4).trans rfl; have hfz96_0 := blk_frozen BK395.out 0; have hfz96_1 := blk_frozen BK395.out 1; have hfz96_2 := blk_frozen BK395.out 2; have hfz96_3 := blk_frozen BK395.out 3; have hfz96_4 := blk_frozen BK395.out 4))
                  go_roundg kj32
                  case measure => have := HJ2.out; have := HK2.out; have := HJ32.out; omega
                  case rel => exact ⟨(wrap64 (x35_2 + 1)), (by first | rfl | (simp; done) | (simp [*]; done)), H', ⟨by have := HJ2.out; have := HK2.out; have := HJ32.out; omega⟩, ⟨by (with_reducible repeat (first | refine blk_drewN ?_ _ | refine blk_drew ?_ | refine blk_alloc ?_ _)); exact BK391.out⟩, ⟨by (with_reducible repeat (first | refine blk_drewN ?_ _ | refine blk_drew ?_ | refine blk_alloc ?_ _)); exact BK392.out⟩, ⟨by repeat (first | (with_reducible first | exact HB.out | apply below_alloc | apply pw_below_drewN | apply below_drew1 | refine below_set ?_ GE391.out | refine below_set ?_ GE392.out | refine below_set ?_ GE395.out) | exact HB.out)⟩⟩
                ·rw [if_neg c79] at H
                 have c79b0 : (((rd_T50 l1_1 x35_2).f1) == 0) = false := beq_eq_false_iff_ne.mpr c79
                 have c79b1 : (((rd_T50 l1_1 x35_2).f1) != 0) = true := bne_iff_ne.mpr c79
                 have H' := Aside0.mk H
                 clear H
                 have hnb97 := NB395_391.out
                 have hnc97 := NB391_395.out
                 have hnb98 := NB395_392.out
                 have hnc98 := NB392_395.out
                 have hcz99_0 : wc.cell? ⟨gb395, 0, none⟩ = some (.int .i64 ((rd_T50 l1_1 x35_2).f0)) := (blk_cell BK395.out 0).trans rfl
                 have hcz99_1 : wc.cell? ⟨gb395, 1, none⟩ = some (.int .i64 ((rd_T50 l1_1 x35_2).f1)) := (blk_cell BK395.out 1).trans rfl
                 have hcz99_2 : wc.cell? ⟨gb395, 2, none⟩ = some (.bool ((rd_T50 l1_1 x35_2).f2)) := (blk_cell BK395.out 2).trans rfl
                 have hcz99_3 : wc.cell? ⟨gb395, 3, none⟩ = some (.bool ((rd_T50 l1_1 x35_2).f3)) := (blk_cell BK395.out 3).trans rfl
                 have hcz99_4 : wc.cell? ⟨gb395, 4, none⟩ = some (.int .i64 ((rd_T50 l1_1 x35_2).f4)) := (blk_cell BK395.out 4).trans rfl
                 have hfz99_0 := blk_frozen BK395.out 0
                 have hfz99_1 := blk_frozen BK395.out 1
                 have hfz99_2 := blk_frozen BK395.out 2
                 have hfz99_3 := blk_frozen BK395.out 3
                 have hfz99_4 := blk_frozen BK395.out 4
                 have hnb100 := NB391_392.out
                 have hnc100 := NB392_391.out
                 have hcz101_0 : wc.cell? ⟨gb391, 0, none⟩ = some (.int .i64 a0_0) := (blk_cell BK391.out 0).trans rfl
                 have hcz101_1 : wc.cell? ⟨gb391, 1, none⟩ = some (.slice A0_1 l0_1.length c0_1) := (blk_cell BK391.out 1).trans rfl
                 have hfz101_0 := blk_frozen BK391.out 0
                 have hfz101_1 := blk_frozen BK391.out 1
                 have hcz102_0 : wc.cell? ⟨gb392, 0, none⟩ = some (.bool a1_0) := (blk_cell BK392.out 0).trans rfl
                 have hcz102_1 : wc.cell? ⟨gb392, 1, none⟩ = some (.slice (some ad394) l1_1.length c1_1) := (blk_cell BK392.out 1).trans rfl
                 have hcz102_2 : wc.cell? ⟨gb392, 2, none⟩ = some (.slice A1_2 l1_2.length c1_2) := (blk_cell BK392.out 2).trans rfl
                 have hfz102_0 := blk_frozen BK392.out 0
                 have hfz102_1 := blk_frozen BK392.out 1
                 have hfz102_2 := blk_frozen BK392.out 2
                 go_wp2_with (first | (go_at_call 98; (with_reducible refine (impl_dead.calls kj32 a0_0 _ _ l0_1 a1_0 _ _ l1_1 _ _ l1_2 x35_2 true _ ?side1 ?side2 ?side3 ?side4 ?side5 ?side6 A75.out).mono ?_); (case side1 => repeat (first | exact (Kd.C_below HR0_1.out HB.out) | (with_reducible refine Kd.C_alloc ?_ _) | (with_reducible refine Kd.C_drewN ?_ _) | (with_reducible refine Kd.C_drew ?_))); (case side2 => exact HC0_1.out); (case side3 => repeat (first | exact (Kd.C_below HR1_1.out HB.out) | (with_reducible refine Kd.C_alloc ?_ _) | (with_reducible refine Kd.C_drewN ?_ _) | (with_reducible refine Kd.C_drew ?_))); (case side4 => exact HC1_1.out); (case side5 => repeat (first | exact (Kd.C_below HR1_2.out HB.out) | (with_reducible refine Kd.C_alloc ?_ _) | (with_reducible refine Kd.C_drewN ?_ _) | (with_reducible refine Kd.C_drew ?_))); (case side6 => exact HC1_2.out); rintro e w103 ⟨rfl, hb⟩; have n0_ := Aside0.mk (blk_below (g := gb391) (o := .cells #[.int .i64 a0_0, .slice A0_1 l0_1.length c0_1] 30 (0, 0)) (by (with_reducible repeat (first | refine blk_drewN ?_ _ | refine blk_drew ?_ | refine blk_alloc ?_ _)); exact BK391.out) hb); have n1_ := Aside0.mk (blk_below (g := gb392) (o := .cells #[.bool a1_0, .slice (some ad394) l1_1.length c1_1, .slice A1_2 l1_2.length c1_2] 46 (0, 0)) (by (with_reducible repeat (first | refine blk_drewN ?_ _ | refine blk_drew ?_ | refine blk_alloc ?_ _)); exact BK392.out) hb); have n2_ := Aside0.mk (blk_below (g := gb395) (o := .cells #[.int .i64 ((rd_T50 l1_1 x35_2).f0), .int .i64 ((rd_T50 l1_1 x35_2).f1), .bool ((rd_T50 l1_1 x35_2).f2), .bool ((rd_T50 l1_1 x35_2).f3), .int .i64 ((rd_T50 l1_1 x35_2).f4)] 50 (0, 0)) (by (with_reducible repeat (first | refine blk_drewN ?_ _ | refine blk_drew ?_ | refine blk_alloc ?_ _)); exact BK395.out) hb); have n3_ := Aside0.mk (below_step (by repeat (first | (with_reducible first | exact HB.out | apply below_alloc | apply pw_below_drewN | apply below_drew1 | refine below_set ?_ GE391.out | refine below_set ?_ GE392.out | refine below_set ?_ GE395.out) | exact HB.out)) hb); clear BK391; clear BK392; clear BK395; clear HB; have BK391 := n0_; have BK392 := n1_; have BK395 := n2_; have HB := n3_; clear n0_ n1_ n2_ n3_; (try clear hb); (try clear hb2); (try clear hk); (try clear hi); have hcz104_0 : w103.cell? ⟨gb395, 0, none⟩ = some (.int .i64 ((rd_T50 l1_1 x35_2).f0)) := (blk_cell BK395.out 0).trans rfl; have hcz104_1 : w103.cell? ⟨gb395, 1, none⟩ = some (.int .i64 ((rd_T50 l1_1 x35_2).f1)) := (blk_cell BK395.out 1).trans rfl; have hcz104_2 : w103.cell? ⟨gb395, 2, none⟩ = some (.bool ((rd_T50 l1_1 x35_2).f2)) := (blk_cell BK395.out 2).trans rfl; have hcz104_3 : w103.cell? ⟨gb395, 3, none⟩ = some (.bool ((rd_T50 l1_1 x35_2).f3)) := (blk_cell BK395.out 3).trans rfl; have hcz104_4 : w103.cell? ⟨gb395, 4, none⟩ = some (.int .i64 ((rd_T50 l1_1 x35_2).f4)) := (blk_cell BK395.out 4).trans rfl; have hfz104_0 := blk_frozen BK395.out 0; have hfz104_1 := blk_frozen BK395.out 1; have hfz104_2 := blk_frozen BK395.out 2; have hfz104_3 := blk_frozen BK395.out 3; have hfz104_4 := blk_frozen BK395.out 4))
                 go_roundg kj32
                 case measure => have := HJ2.out; have := HK2.out; have := HJ32.out; omega
                 case rel => exact ⟨(wrap64 (x35_2 + 1)), (by first | rfl | (simp; done) | (simp [*]; done)), H', ⟨by have := HJ2.out; have := HK2.out; have := HJ32.out; omega⟩, ⟨by (with_reducible repeat (first | refine blk_drewN ?_ _ | refine blk_drew ?_ | refine blk_alloc ?_ _)); exact BK391.out⟩, ⟨by (with_reducible repeat (first | refine blk_drewN ?_ _ | refine blk_drew ?_ | refine blk_alloc ?_ _)); exact BK392.out⟩, ⟨by repeat (first | (with_reducible first | exact HB.out | apply below_alloc | apply pw_below_drewN | apply below_drew1 | refine below_set ?_ GE391.out | refine below_set ?_ GE392.out | refine below_set ?_ GE395.out) | exact HB.out)⟩⟩
               ·rw [if_neg c78] at H
                have c78b0 : ((rd_T50 l1_1 x35_2).f3) = false := by simpa using c78
                clear c78
                have H' := Aside0.mk H
                clear H
                have hnb105 := NB395_391.out
                have hnc105 := NB391_395.out
                have hnb106 := NB395_392.out
                have hnc106 := NB392_395.out
                have hcz107_0 : wc.cell? ⟨gb395, 0, none⟩ = some (.int .i64 ((rd_T50 l1_1 x35_2).f0)) := (blk_cell BK395.out 0).trans rfl
                have hcz107_1 : wc.cell? ⟨gb395, 1, none⟩ = some (.int .i64 ((rd_T50 l1_1 x35_2).f1)) := (blk_cell BK395.out 1).trans rfl
                have hcz107_2 : wc.cell? ⟨gb395, 2, none⟩ = some (.bool ((rd_T50 l1_1 x35_2).f2)) := (blk_cell BK395.out 2).trans rfl
                have hcz107_3 : wc.cell? ⟨gb395, 3, none⟩ = some (.bool ((rd_T50 l1_1 x35_2).f3)) := (blk_cell BK395.out 3).trans rfl
                have hcz107_4 : wc.cell? ⟨gb395, 4, none⟩ = some (.int .i64 ((rd_T50 l1_1 x35_2).f4)) := (blk_cell BK395.out 4).trans rfl
                have hfz107_0 := blk_frozen BK395.out 0
                have hfz107_1 := blk_frozen BK395.out 1
                have hfz107_2 := blk_frozen BK395.out 2
                have hfz107_3 := blk_frozen BK395.out 3
                have hfz107_4 := blk_frozen BK395.out 4
                have hnb108 := NB391_392.out
                have hnc108 := NB392_391.out
                have hcz109_0 : wc.cell? ⟨gb391, 0, none⟩ = some (.int .i64 a0_0) := (blk_cell BK391.out 0).trans rfl
                have hcz109_1 : wc.cell? ⟨gb391, 1, none⟩ = some (.slice A0_1 l0_1.length c0_1) := (blk_cell BK391.out 1).trans rfl
                have hfz109_0 := blk_frozen BK391.out 0
                have hfz109_1 := blk_frozen BK391.out 1
                have hcz110_0 : wc.cell? ⟨gb392, 0, none⟩ = some (.bool a1_0) := (blk_cell BK392.out 0).trans rfl
                have hcz110_1 : wc.cell? ⟨gb392, 1, none⟩ = some (.slice (some ad394) l1_1.length c1_1) := (blk_cell BK392.out 1).trans rfl
                have hcz110_2 : wc.cell? ⟨gb392, 2, none⟩ = some (.slice A1_2 l1_2.length c1_2) := (blk_cell BK392.out 2).trans rfl
                have hfz110_0 := blk_frozen BK392.out 0
                have hfz110_1 := blk_frozen BK392.out 1
                have hfz110_2 := blk_frozen BK392.out 2
                go_wp2_with (first | (go_at_call 98; (with_reducible refine (impl_dead.calls kj32 a0_0 _ _ l0_1 a1_0 _ _ l1_1 _ _ l1_2 x35_2 true _ ?side1 ?side2 ?side3 ?side4 ?side5 ?side6 A75.out).mono ?_); (case side1 => repeat (first | exact (Kd.C_below HR0_1.out HB.out) | (with_reducible refine Kd.C_alloc ?_ _) | (with_reducible refine Kd.C_drewN ?_ _) | (with_reducible refine Kd.C_drew ?_))); (case side2 => exact HC0_1.out); (case side3 => repeat (first | exact (Kd.C_below HR1_1.out HB.out) | (with_reducible refine Kd.C_alloc ?_ _) | (with_reducible refine Kd.C_drewN ?_ _) | (with_reducible refine Kd.C_drew ?_))); (case side4 => exact HC1_1.out); (case side5 => repeat (first | exact (Kd.C_below HR1_2.out HB.out) | (with_reducible refine Kd.C_alloc ?_ _) | (with_reducible refine Kd.C_drewN ?_ _) | (with_reducible refine Kd.C_drew ?_))); (case side6 => exact HC1_2.out); rintro e w111 ⟨rfl, hb⟩; have n0_ := Aside0.mk (blk_below (g := gb391) (o := .cells #[.int .i64 a0_0, .slice A0_1 l0_1.length c0_1] 30 (0, 0)) (by (with_reducible repeat (first | refine blk_drewN ?_ _ | refine blk_drew ?_ | refine blk_alloc ?_ _)); exact BK391.out) hb); have n1_ := Aside0.mk (blk_below (g := gb392) (o := .cells #[.bool a1_0, .slice (some ad394) l1_1.length c1_1, .slice A1_2 l1_2.length c1_2] 46 (0, 0)) (by (with_reducible repeat (first | refine blk_drewN ?_ _ | refine blk_drew ?_ | refine blk_alloc ?_ _)); exact BK392.out) hb); have n2_ := Aside0.mk (blk_below (g := gb395) (o := .cells #[.int .i64 ((rd_T50 l1_1 x35_2).f0), .int .i64 ((rd_T50 l1_1 x35_2).f1), .bool ((rd_T50 l1_1 x35_2).f2), .bool ((rd_T50 l1_1 x35_2).f3), .int .i64 ((rd_T50 l1_1 x35_2).f4)] 50 (0, 0)) (by (with_reducible repeat (first | refine blk_drewN ?_ _ | refine blk_drew ?_ | refine blk_alloc ?_ _)); exact BK395.out) hb); have n3_ := Aside0.mk (below_step (by repeat (first | (with_reducible first | exact HB.out | apply below_alloc | apply pw_below_drewN | apply below_drew1 | refine below_set ?_ GE391.out | refine below_set ?_ GE392.out | refine below_set ?_ GE395.out) | exact HB.out)) hb); clear BK391; clear BK392; clear BK395; clear HB; have BK391 := n0_; have BK392 := n1_; have BK395 := n2_; have HB := n3_; clear n0_ n1_ n2_ n3_; (try clear hb); (try clear hb2); (try clear hk); (try clear hi); have hcz112_0 : w111.cell? ⟨gb395, 0, none⟩ = some (.int .i64 ((rd_T50 l1_1 x35_2).f0)) := (blk_cell BK395.out 0).trans rfl; have hcz112_1 : w111.cell? ⟨gb395, 1, none⟩ = some (.int .i64 ((rd_T50 l1_1 x35_2).f1)) := (blk_cell BK395.out 1).trans rfl; have hcz112_2 : w111.cell? ⟨gb395, 2, none⟩ = some (.bool ((rd_T50 l1_1 x35_2).f2)) := (blk_cell BK395.out 2).trans rfl; have hcz112_3 : w111.cell? ⟨gb395, 3, none⟩ = some (.bool ((rd_T50 l1_1 x35_2).f3)) := (blk_cell BK395.out 3).trans rfl; have hcz112_4 : w111.cell? ⟨gb395, 4, none⟩ = some (.int .i64 ((rd_T50 l1_1 x35_2).f4)) := (blk_cell BK395.out 4).trans rfl; have hfz112_0 := blk_frozen BK395.out 0; have hfz112_1 := blk_frozen BK395.out 1; have hfz112_2 := blk_frozen BK395.out 2; have hfz112_3 := blk_frozen BK395.out 3; have hfz112_4 := blk_frozen BK395.out 4))
                go_roundg kj32
                case measure => have := HJ2.out; have := HK2.out; have := HJ32.out; omega
                case rel => exact ⟨(wrap64 (x35_2 + 1)), (by first | rfl | (simp; done) | (simp [*]; done)), H', ⟨by have := HJ2.out; have := HK2.out; have := HJ32.out; omega⟩, ⟨by (with_reducible repeat (first | refine blk_drewN ?_ _ | refine blk_drew ?_ | refine blk_alloc ?_ _)); exact BK391.out⟩, ⟨by (with_reducible repeat (first | refine blk_drewN ?_ _ | refine blk_drew ?_ | refine blk_alloc ?_ _)); exact BK392.out⟩, ⟨by repeat (first | (with_reducible first | exact HB.out | apply below_alloc | apply pw_below_drewN | apply below_drew1 | refine below_set ?_ GE391.out | refine below_set ?_ GE392.out | refine below_set ?_ GE395.out) | exact HB.out)⟩⟩
              ·rw [if_neg c77] at H
               have c77b0 : ((rd_T50 l1_1 x35_2).f2) = false := by simpa using c77
               clear c77
               obtain rfl := Option.some.inj H
               have hnb113 := NB395_391.out
               have hnc113 := NB391_395.out
               have hnb114 := NB395_392.out
               have hnc114 := NB392_395.out
               have hcz115_0 : wc.cell? ⟨gb395, 0, none⟩ = some (.int .i64 ((rd_T50 l1_1 x35_2).f0)) := (blk_cell BK395.out 0).trans rfl
               have hcz115_1 : wc.cell? ⟨gb395, 1, none⟩ = some (.int .i64 ((rd_T50 l1_1 x35_2).f1)) := (blk_cell BK395.out 1).trans rfl
               have hcz115_2 : wc.cell? ⟨gb395, 2, none⟩ = some (.bool ((rd_T50 l1_1 x35_2).f2)) := (blk_cell BK395.out 2).trans rfl
               have hcz115_3 : wc.cell? ⟨gb395, 3, none⟩ = some (.bool ((rd_T50 l1_1 x35_2).f3)) := (blk_cell BK395.out 3).trans rfl
               have hcz115_4 : wc.cell? ⟨gb395, 4, none⟩ = some (.int .i64 ((rd_T50 l1_1 x35_2).f4)) := (blk_cell BK395.out 4).trans rfl
               have hfz115_0 := blk_frozen BK395.out 0
               have hfz115_1 := blk_frozen BK395.out 1
               have hfz115_2 := blk_frozen BK395.out 2
               have hfz115_3 := blk_frozen BK395.out 3
               have hfz115_4 := blk_frozen BK395.out 4
               have hnb116 := NB391_392.out
               have hnc116 := NB392_391.out
               have hcz117_0 : wc.cell? ⟨gb391, 0, none⟩ = some (.int .i64 a0_0) := (blk_cell BK391.out 0).trans rfl
               have hcz117_1 : wc.cell? ⟨gb391, 1, none⟩ = some (.slice A0_1 l0_1.length c0_1) := (blk_cell BK391.out 1).trans rfl
               have hfz117_0 := blk_frozen BK391.out 0
               have hfz117_1 := blk_frozen BK391.out 1
               have hcz118_0 : wc.cell? ⟨gb392, 0, none⟩ = some (.bool a1_0) := (blk_cell BK392.out 0).trans rfl
               have hcz118_1 : wc.cell? ⟨gb392, 1, none⟩ = some (.slice (some ad394) l1_1.length c1_1) := (blk_cell BK392.out 1).trans rfl
               have hcz118_2 : wc.cell? ⟨gb392, 2, none⟩ = some (.slice A1_2 l1_2.length c1_2) := (blk_cell BK392.out 2).trans rfl
               have hfz118_0 := blk_frozen BK392.out 0
               have hfz118_1 := blk_frozen BK392.out 1
               have hfz118_2 := blk_frozen BK392.out 2
               go_wp2_with (first | (go_at_call 98; (with_reducible refine (impl_dead.calls kj32 a0_0 _ _ l0_1 a1_0 _ _ l1_1 _ _ l1_2 x35_2 true _ ?side1 ?side2 ?side3 ?side4 ?side5 ?side6 A75.out).mono ?_); (case side1 => repeat (first | exact (Kd.C_below HR0_1.out HB.out) | (with_reducible refine Kd.C_alloc ?_ _) | (with_reducible refine Kd.C_drewN ?_ _) | (with_reducible refine Kd.C_drew ?_))); (case side2 => exact HC0_1.out); (case side3 => repeat (first | exact (Kd.C_below HR1_1.out HB.out) | (with_reducible refine Kd.C_alloc ?_ _) | (with_reducible refine Kd.C_drewN ?_ _) | (with_reducible refine Kd.C_drew ?_))); (case side4 => exact HC1_1.out); (case side5 => repeat (first | exact (Kd.C_below HR1_2.out HB.out) | (with_reducible refine Kd.C_alloc ?_ _) | (with_reducible refine Kd.C_drewN ?_ _) | (with_reducible refine Kd.C_drew ?_))); (case side6 => exact HC1_2.out); rintro e w119 ⟨rfl, hb⟩; have n0_ := Aside0.mk (blk_below (g := gb391) (o := .cells #[.int .i64 a0_0, .slice A0_1 l0_1.length c0_1] 30 (0, 0)) (by (with_reducible repeat (first | refine blk_drewN ?_ _ | refine blk_drew ?_ | refine blk_alloc ?_ _)); exact BK391.out) hb); have n1_ := Aside0.mk (blk_below (g := gb392) (o := .cells #[.bool a1_0, .slice (some ad394) l1_1.length c1_1, .slice A1_2 l1_2.length c1_2] 46 (0, 0)) (by (with_reducible repeat (first | refine blk_drewN ?_ _ | refine blk_drew ?_ | refine blk_alloc ?_ _)); exact BK392.out) hb); have n2_ := Aside0.mk (blk_below (g := gb395) (o := .cells #[.int .i64 ((rd_T50 l1_1 x35_2).f0), .int .i64 ((rd_T50 l1_1 x35_2).f1), .bool ((rd_T50 l1_1 x35_2).f2), .bool ((rd_T50 l1_1 x35_2).f3), .int .i64 ((rd_T50 l1_1 x35_2).f4)] 50 (0, 0)) (by (with_reducible repeat (first | refine blk_drewN ?_ _ | refine blk_drew ?_ | refine blk_alloc ?_ _)); exact BK395.out) hb); have n3_ := Aside0.mk (below_step (by repeat (first | (with_reducible first | exact HB.out | apply below_alloc | apply pw_below_drewN | apply below_drew1 | refine below_set ?_ GE391.out | refine below_set ?_ GE392.out | refine below_set ?_ GE395.out) | exact HB.out)) hb); clear BK391; clear BK392; clear BK395; clear HB; have BK391 := n0_; have BK392 := n1_; have BK395 := n2_; have HB := n3_; clear n0_ n1_ n2_ n3_; (try clear hb); (try clear hb2); (try clear hk); (try clear hi); have hcz120_0 : w119.cell? ⟨gb395, 0, none⟩ = some (.int .i64 ((rd_T50 l1_1 x35_2).f0)) := (blk_cell BK395.out 0).trans rfl; have hcz120_1 : w119.cell? ⟨gb395, 1, none⟩ = some (.int .i64 ((rd_T50 l1_1 x35_2).f1)) := (blk_cell BK395.out 1).trans rfl; have hcz120_2 : w119.cell? ⟨gb395, 2, none⟩ = some (.bool ((rd_T50 l1_1 x35_2).f2)) := (blk_cell BK395.out 2).trans rfl; have hcz120_3 : w119.cell? ⟨gb395, 3, none⟩ = some (.bool ((rd_T50 l1_1 x35_2).f3)) := (blk_cell BK395.out 3).trans rfl; have hcz120_4 : w119.cell? ⟨gb395, 4, none⟩ = some (.int .i64 ((rd_T50 l1_1 x35_2).f4)) := (blk_cell BK395.out 4).trans rfl; have hfz120_0 := blk_frozen BK395.out 0; have hfz120_1 := blk_frozen BK395.out 1; have hfz120_2 := blk_frozen BK395.out 2; have hfz120_3 := blk_frozen BK395.out 3; have hfz120_4 := blk_frozen BK395.out 4))
               go_ret
               exact ⟨by first | rfl | (simp [errW_none, errW_some] <;> rfl) | (simp [*, errW_none, errW_some] <;> rfl), by repeat (first | (with_reducible first | exact HB.out | apply below_alloc | apply pw_below_drewN | apply below_drew1 | refine below_set ?_ GE391.out | refine below_set ?_ GE392.out | refine below_set ?_ GE395.out) | exact HB.out)⟩
             ·replace c76 := Bool.eq_false_iff.mpr c76
              subst c76
              have H1 : (if ((rd_T50 l1_1 x35_2).f3) = true then (if ((rd_T50 l1_1 x35_2).f1) = 0 then (if ((rd_T50 l1_1 x35_2).f4) = (-1) then (if ((rd_T50 l1_1 x35_2).f2) = true then (impl_StateOk.l0 kj32 l1_1 (l1_1.length : Int) (wrap64 (x35_2 + 1)) a0_0 l0_1 a1_0 l1_1 l1_2) else (some false)) else (impl_StateOk.l0 kj32 l1_1 (l1_1.length : Int) (wrap64 (x35_2 + 1)) a0_0 l0_1 a1_0 l1_1 l1_2)) else (impl_StateOk.l0 kj32 l1_1 (l1_1.length : Int) (wrap64 (x35_2 + 1)) a0_0 l0_1 a1_0 l1_1 l1_2)) else (impl_StateOk.l0 kj32 l1_1 (l1_1.length : Int) (wrap64 (x35_2 + 1)) a0_0 l0_1 a1_0 l1_1 l1_2)) = some r := by rw [if_neg (show ¬ (false = true) by decide)] at H; exact H
              clear H
              have H := H1
              clear H1
              by_cases c121 : ((rd_T50 l1_1 x35_2).f3) = true
              ·rw [if_pos c121] at H
               have c121b0 : ((rd_T50 l1_1 x35_2).f3) = true := c121
               clear c121
               by_cases c122 : ((rd_T50 l1_1 x35_2).f1) = 0
               ·rw [if_pos c122] at H
                have c122b0 : (((rd_T50 l1_1 x35_2).f1) == 0) = true := beq_iff_eq.mpr c122
                have c122b1 : (((rd_T50 l1_1 x35_2).f1) != 0) = false := bne_eq_false_iff_eq.mpr c122
                clear c122
                by_cases c123 : ((rd_T50 l1_1 x35_2).f4) = (-1)
                ·rw [if_pos c123] at H
                 have c123b0 : (((rd_T50 l1_1 x35_2).f4) == (-1)) = true := beq_iff_eq.mpr c123
                 have c123b1 : (((rd_T50 l1_1 x35_2).f4) != (-1)) = false := bne_eq_false_iff_eq.mpr c123
                 clear c123
                 by_cases c124 : ((rd_T50 l1_1 x35_2).f2) = true
                 ·rw [if_pos c124] at H
                  have c124b0 : ((rd_T50 l1_1 x35_2).f2) = true := c124
                  clear c124
                  have H' := Aside0.mk H
                  clear H
                  have hnb125 := NB395_391.out
                  have hnc125 := NB391_395.out
                  have hnb126 := NB395_392.out
                  have hnc126 := NB392_395.out
                  have hcz127_0 : wc.cell? ⟨gb395, 0, none⟩ = some (.int .i64 ((rd_T50 l1_1 x35_2).f0)) := (blk_cell BK395.out 0).trans rfl
                  have hcz127_1 : wc.cell? ⟨gb395, 1, none⟩ = some (.int .i64 ((rd_T50 l1_1 x35_2).f1)) := (blk_cell BK395.out 1).trans rfl
                  have hcz127_2 : wc.cell? ⟨gb395, 2, none⟩ = some (.bool ((rd_T50 l1_1 x35_2).f2)) := (blk_cell BK395.out 2).trans rfl
                  have hcz127_3 : wc.cell? ⟨gb395, 3, none⟩ = some (.bool ((rd_T50 l1_1 x35_2).f3)) := (blk_cell BK395.out 3).trans rfl
                  have hcz127_4 : wc.cell? ⟨gb395, 4, none⟩ = some (.int .i64 ((rd_T50 l1_1 x35_2).f4)) := (blk_cell BK395.out 4).trans rfl
                  have hfz127_0 := blk_frozen BK395.out 0
                  have hfz127_1 := blk_frozen BK395.out 1
                  have hfz127_2 := blk_frozen BK395.out 2
                  have hfz127_3 := blk_frozen BK395.out 3
                  have hfz127_4 := blk_frozen BK395.out 4
                  have hnb128 := NB391_392.out
                  have hnc128 := NB392_391.out
                  have hcz129_0 : wc.cell? ⟨gb391, 0, none⟩ = some (.int .i64 a0_0) := (blk_cell BK391.out 0).trans rfl
                  have hcz129_1 : wc.cell? ⟨gb391, 1, none⟩ = some (.slice A0_1 l0_1.length c0_1) := (blk_cell BK391.out 1).trans rfl
                  have hfz129_0 := blk_frozen BK391.out 0
                  have hfz129_1 := blk_frozen BK391.out 1
                  have hcz130_0 : wc.cell? ⟨gb392, 0, none⟩ = some (.bool a1_0) := (blk_cell BK392.out 0).trans rfl
                  have hcz130_1 : wc.cell? ⟨gb392, 1, none⟩ = some (.slice (some ad394) l1_1.length c1_1) := (blk_cell BK392.out 1).trans rfl
                  have hcz130_2 : wc.cell? ⟨gb392, 2, none⟩ = some (.slice A1_2 l1_2.length c1_2) := (blk_cell BK392.out 2).trans rfl
                  have hfz130_0 := blk_frozen BK392.out 0
                  have hfz130_1 := blk_frozen BK392.out 1
                  have hfz130_2 := blk_frozen BK392.out 2
                  go_wp2_with (first | (go_at_call 98; (with_reducible refine (impl_dead.calls kj32 a0_0 _ _ l0_1 a1_0 _ _ l1_1 _ _ l1_2 x35_2 false _ ?side1 ?side2 ?side3 ?side4 ?side5 ?side6 A75.out).mono ?_); (case side1 => repeat (first | exact (Kd.C_below HR0_1.out HB.out) | (with_reducible refine Kd.C_alloc ?_ _) | (with_reducible refine Kd.C_drewN ?_ _) | (with_reducible refine Kd.C_drew ?_))); (case side2 => exact HC0_1.out); (case side3 => repeat (first | exact (Kd.C_below HR1_1.out HB.out) | (with_reducible refine Kd.C_alloc ?_ _) | (with_reducible refine Kd.C_drewN ?_ _) | (with_reducible refine Kd.C_drew ?_))); (case side4 => exact HC1_1.out); (case side5 => repeat (first | exact (Kd.C_below HR1_2.out HB.out) | (with_reducible refine Kd.C_alloc ?_ _) | (with_reducible refine Kd.C_drewN ?_ _) | (with_reducible refine Kd.C_drew ?_))); (case side6 => exact HC1_2.out); rintro e w131 ⟨rfl, hb⟩; have n0_ := Aside0.mk (blk_below (g := gb391) (o := .cells #[.int .i64 a0_0, .slice A0_1 l0_1.length c0_1] 30 (0, 0)) (by (with_reducible repeat (first | refine blk_drewN ?_ _ | refine blk_drew ?_ | refine blk_alloc ?_ _)); exact BK391.out) hb); have n1_ := Aside0.mk (blk_below (g := gb392) (o := .cells #[.bool a1_0, .slice (some ad394) l1_1.length c1_1, .slice A1_2 l1_2.length c1_2] 46 (0, 0)) (by (with_reducible repeat (first | refine blk_drewN ?_ _ | refine blk_drew ?_ | refine blk_alloc ?_ _)); exact BK392.out) hb); have n2_ := Aside0.mk (blk_below (g := gb395) (o := .cells #[.int .i64 ((rd_T50 l1_1 x35_2).f0), .int .i64 ((rd_T50 l1_1 x35_2).f1), .bool ((rd_T50 l1_1 x35_2).f2), .bool ((rd_T50 l1_1 x35_2).f3), .int .i64 ((rd_T50 l1_1 x35_2).f4)] 50 (0, 0)) (by (with_reducible repeat (first | refine blk_drewN ?_ _ | refine blk_drew ?_ | refine blk_alloc ?_ _)); exact BK395.out) hb); have n3_ := Aside0.mk (below_step (by repeat (first | (with_reducible first | exact HB.out | apply below_alloc | apply pw_below_drewN | apply below_drew1 | refine below_set ?_ GE391.out | refine below_set ?_ GE392.out | refine below_set ?_ GE395.out) | exact HB.out)) hb); clear BK391; clear BK392; clear BK395; clear HB; have BK391 := n0_; have BK392 := n1_; have BK395 := n2_; have HB := n3_; clear n0_ n1_ n2_ n3_; (try clear hb); (try clear hb2); (try clear hk); (try clear hi); have hcz132_0 : w131.cell? ⟨gb395, 0, none⟩ = some (.int .i64 ((rd_T50 l1_1 x35_2).f0)) := (blk_cell BK395.out 0).trans rfl; have hcz132_1 : w131.cell? ⟨gb395, 1, none⟩ = some (.int .i64 ((rd_T50 l1_1 x35_2).f1)) := (blk_cell BK395.out 1).trans rfl; have hcz132_2 : w131.cell? ⟨gb395, 2, none⟩ = some (.bool ((rd_T50 l1_1 x35_2).f2)) := (blk_cell BK395.out 2).trans rfl; have hcz132_3 : w131.cell? ⟨gb395, 3, none⟩ = some (.bool ((rd_T50 l1_1 x35_2).f3)) := (blk_cell BK395.out 3).trans rfl; have hcz132_4 : w131.cell? ⟨gb395, 4, none⟩ = some (.int .i64 ((rd_T50 l1_1 x35_2).f4)) := (blk_cell BK395.out 4).trans rfl; have hfz132_0 := blk_frozen BK395.out 0; have hfz132_1 := blk_frozen BK395.out 1; have hfz132_2 := blk_frozen BK395.out 2; have hfz132_3 := blk_frozen BK395.out 3; have hfz132_4 := blk_frozen BK395.out 4))
                  go_roundg kj32
                  case measure => have := HJ2.out; have := HK2.out; have := HJ32.out; omega
                  case rel => exact ⟨(wrap64 (x35_2 + 1)), (by first | rfl | (simp; done) | (simp [*]; done)), H', ⟨by have := HJ2.out; have := HK2.out; have := HJ32.out; omega⟩, ⟨by (with_reducible repeat (first | refine blk_drewN ?_ _ | refine blk_drew ?_ | refine blk_alloc ?_ _)); exact BK391.out⟩, ⟨by (with_reducible repeat (first | refine blk_drewN ?_ _ | refine blk_drew ?_ | refine blk_alloc ?_ _)); exact BK392.out⟩, ⟨by repeat (first | (with_reducible first | exact HB.out | apply below_alloc | apply pw_below_drewN | apply below_drew1 | refine below_set ?_ GE391.out | refine below_set ?_ GE392.out | refine below_set ?_ GE395.out) | exact HB.out)⟩⟩
                 ·rw [if_neg c124] at H
                  have c124b0 : ((rd_T50 l1_1 x35_2).f2) = false := by simpa using c124
                  clear c124
                  obtain rfl := Option.some.inj H
                  have hnb133 := NB395_391.out
                  have hnc133 := NB391_395.out
                  have hnb134 := NB395_392.out
                  have hnc134 := NB392_395.out
                  have hcz135_0 : wc.cell? ⟨gb395, 0, none⟩ = some (.int .i64 ((rd_T50 l1_1 x35_2).f0)) := (blk_cell BK395.out 0).trans rfl
                  have hcz135_1 : wc.cell? ⟨gb395, 1, none⟩ = some (.int .i64 ((rd_T50 l1_1 x35_2).f1)) := (blk_cell BK395.out 1).trans rfl
                  have hcz135_2 : wc.cell? ⟨gb395, 2, none⟩ = some (.bool ((rd_T50 l1_1 x35_2).f2)) := (blk_cell BK395.out 2).trans rfl
                  have hcz135_3 : wc.cell? ⟨gb395, 3, none⟩ = some (.bool ((rd_T50 l1_1 x35_2).f3)) := (blk_cell BK395.out 3).trans rfl
                  have hcz135_4 : wc.cell? ⟨gb395, 4, none⟩ = some (.int .i64 ((rd_T50 l1_1 x35_2).f4)) := (blk_cell BK395.out 4).trans rfl
                  have hfz135_0 := blk_frozen BK395.out 0
                  have hfz135_1 := blk_frozen BK395.out 1
                  have hfz135_2 := blk_frozen BK395.out 2
                  have hfz135_3 := blk_frozen BK395.out 3
                  have hfz135_4 := blk_frozen BK395.out 4
                  have hnb136 := NB391_392.out
                  have hnc136 := NB392_391.out
                  have hcz137_0 : wc.cell? ⟨gb391, 0, none⟩ = some (.int .i64 a0_0) := (blk_cell BK391.out 0).trans rfl
                  have hcz137_1 : wc.cell? ⟨gb391, 1, none⟩ = some (.slice A0_1 l0_1.length c0_1) := (blk_cell BK391.out 1).trans rfl
                  have hfz137_0 := blk_frozen BK391.out 0
                  have hfz137_1 := blk_frozen BK391.out 1
                  have hcz138_0 : wc.cell? ⟨gb392, 0, none⟩ = some (.bool a1_0) := (blk_cell BK392.out 0).trans rfl
                  have hcz138_1 : wc.cell? ⟨gb392, 1, none⟩ = some (.slice (some ad394) l1_1.length c1_1) := (blk_cell BK392.out 1).trans rfl
                  have hcz138_2 : wc.cell? ⟨gb392, 2, none⟩ = some (.slice A1_2 l1_2.length c1_2) := (blk_cell BK392.out 2).trans rfl
                  have hfz138_0 := blk_frozen BK392.out 0
                  have hfz138_1 := blk_frozen BK392.out 1
                  have hfz138_2 := blk_frozen BK392.out 2
                  go_wp2_with (first | (go_at_call 98; (with_reducible refine (impl_dead.calls kj32 a0_0 _ _ l0_1 a1_0 _ _ l1_1 _ _ l1_2 x35_2 false _ ?side1 ?side2 ?side3 ?side4 ?side5 ?side6 A75.out).mono ?_); (case side1 => repeat (first | exact (Kd.C_below HR0_1.out HB.out) | (with_reducible refine Kd.C_alloc ?_ _) | (with_reducible refine Kd.C_drewN ?_ _) | (with_reducible refine Kd.C_drew ?_))); (case side2 => exact HC0_1.out); (case side3 => repeat (first | exact (Kd.C_below HR1_1.out HB.out) | (with_reducible refine Kd.C_alloc ?_ _) | (with_reducible refine Kd.C_drewN ?_ _) | (with_reducible refine Kd.C_drew ?_))); (case side4 => exact HC1_1.out); (case side5 => repeat (first | exact (Kd.C_below HR1_2.out HB.out) | (with_reducible refine Kd.C_alloc ?_ _) | (with_reducible refine Kd.C_drewN ?_ _) | (with_reducible refine Kd.C_drew ?_))); (case side6 => exact HC1_2.out); rintro e w139 ⟨rfl, hb⟩; have n0_ := Aside0.mk (blk_below (g := gb391) (o := .cells #[.int .i64 a0_0, .slice A0_1 l0_1.length c0_1] 30 (0, 0)) (by (with_reducible repeat (first | refine blk_drewN ?_ _ | refine blk_drew ?_ | refine blk_alloc ?_ _)); exact BK391.out) hb); have n1_ := Aside0.mk (blk_below (g := gb392) (o := .cells #[.bool a1_0, .slice (some ad394) l1_1.length c1_1, .slice A1_2 l1_2.length c1_2] 46 (0, 0)) (by (with_reducible repeat (first | refine blk_drewN ?_ _ | refine blk_drew ?_ | refine blk_alloc ?_ _)); exact BK392.out) hb); have n2_ := Aside0.mk (blk_below (g := gb395) (o := .cells #[.int .i64 ((rd_T50 l1_1 x35_2).f0), .int .i64 ((rd_T50 l1_1 x35_2).f1), .bool ((rd_T50 l1_1 x35_2).f2), .bool ((rd_T50 l1_1 x35_2).f3), .int .i64 ((rd_T50 l1_1 x35_2).f4)] 50 (0, 0)) (by (with_reducible repeat (first | refine blk_drewN ?_ _ | refine blk_drew ?_ | refine blk_alloc ?_ _)); exact BK395.out) hb); have n3_ := Aside0.mk (below_step (by repeat (first | (with_reducible first | exact HB.out | apply below_alloc | apply pw_below_drewN | apply below_drew1 | refine below_set ?_ GE391.out | refine below_set ?_ GE392.out | refine below_set ?_ GE395.out) | exact HB.out)) hb); clear BK391; clear BK392; clear BK395; clear HB; have BK391 := n0_; have BK392 := n1_; have BK395 := n2_; have HB := n3_; clear n0_ n1_ n2_ n3_; (try clear hb); (try clear hb2); (try clear hk); (try clear hi); have hcz140_0 : w139.cell? ⟨gb395, 0, none⟩ = some (.int .i64 ((rd_T50 l1_1 x35_2).f0)) := (blk_cell BK395.out 0).trans rfl; have hcz140_1 : w139.cell? ⟨gb395, 1, none⟩ = some (.int .i64 ((rd_T50 l1_1 x35_2).f1)) := (blk_cell BK395.out 1).trans rfl; have hcz140_2 : w139.cell? ⟨gb395, 2, none⟩ = some (.bool ((rd_T50 l1_1 x35_2).f2)) := (blk_cell BK395.out 2).trans rfl; have hcz140_3 : w139.cell? ⟨gb395, 3, none⟩ = some (.bool ((rd_T50 l1_1 x35_2).f3)) := (blk_cell BK395.out 3).trans rfl; have hcz140_4 : w139.cell? ⟨gb395, 4, none⟩ = some (.int .i64 ((rd_T50 l1_1 x35_2).f4)) := (blk_cell BK395.out 4).trans rfl; have hfz140_0 := blk_frozen BK395.out 0; have hfz140_1 := blk_frozen BK395.out 1; have hfz140_2 := blk_frozen BK395.out 2; have hfz140_3 := blk_frozen BK395.out 3; have hfz140_4 := blk_frozen BK395.out 4))
                  go_ret
                  exact ⟨by first | rfl | (simp [errW_none, errW_some] <;> rfl) | (simp [*, errW_none, errW_some] <;> rfl), by repeat (first | (with_reducible first | exact HB.out | apply below_alloc | apply pw_below_drewN | apply below_drew1 | refine below_set ?_ GE391.out | refine below_set ?_ GE392.out | refine below_set ?_ GE395.out) | exact HB.out)⟩
                ·rw [if_neg c123] at H
                 have c123b0 : (((rd_T50 l1_1 x35_2).f4) == (-1)) = false := beq_eq_false_iff_ne.mpr c123
                 have c123b1 : (((rd_T50 l1_1 x35_2).f4) != (-1)) = true := bne_iff_ne.mpr c123
                 have H' := Aside0.mk H
                 clear H
                 have hnb141 := NB395_391.out
                 have hnc141 := NB391_395.out
                 have hnb142 := NB395_392.out
                 have hnc142 := NB392_395.out
                 have hcz143_0 : wc.cell? ⟨gb395, 0, none⟩ = some (.int .i64 ((rd_T50 l1_1 x35_2).f0)) := (blk_cell BK395.out 0).trans rfl
                 have hcz143_1 : wc.cell? ⟨gb395, 1, none⟩ = some (.int .i64 ((rd_T50 l1_1 x35_2).f1)) := (blk_cell BK395.out 1).trans rfl
                 have hcz143_2 : wc.cell? ⟨gb395, 2, none⟩ = some (.bool ((rd_T50 l1_1 x35_2).f2)) := (blk_cell BK395.out 2).trans rfl
                 have hcz143_3 : wc.cell? ⟨gb395, 3, none⟩ = some (.bool ((rd_T50 l1_1 x35_2).f3)) := (blk_cell BK395.out 3).trans rfl
                 have hcz143_4 : wc.cell? ⟨gb395, 4, none⟩ = some (.int .i64 ((rd_T50 l1_1 x35_2).f4)) := (blk_cell BK395.out 4).trans rfl
                 have hfz143_0 := blk_frozen BK395.out 0
                 have hfz143_1 := blk_frozen BK395.out 1
                 have hfz143_2 := blk_frozen BK395.out 2
                 have hfz143_3 := blk_frozen BK395.out 3
                 have hfz143_4 := blk_frozen BK395.out 4
                 have hnb144 := NB391_392.out
                 have hnc144 := NB392_391.out
                 have hcz145_0 : wc.cell? ⟨gb391, 0, none⟩ = some (.int .i64 a0_0) := (blk_cell BK391.out 0).trans rfl
                 have hcz145_1 : wc.cell? ⟨gb391, 1, none⟩ = some (.slice A0_1 l0_1.length c0_1) := (blk_cell BK391.out 1).trans rfl
                 have hfz145_0 := blk_frozen BK391.out 0
                 have hfz145_1 := blk_frozen BK391.out 1
                 have hcz146_0 : wc.cell? ⟨gb392, 0, none⟩ = some (.bool a1_0) := (blk_cell BK392.out 0).trans rfl
                 have hcz146_1 : wc.cell? ⟨gb392, 1, none⟩ = some (.slice (some ad394) l1_1.length c1_1) := (blk_cell BK392.out 1).trans rfl
                 have hcz146_2 : wc.cell? ⟨gb392, 2, none⟩ = some (.slice A1_2 l1_2.length c1_2) := (blk_cell BK392.out 2).trans rfl
                 have hfz146_0 := blk_frozen BK392.out 0
                 have hfz146_1 := blk_frozen BK392.out 1
                 have hfz146_2 := blk_frozen BK392.out 2
                 go_wp2_with (first | (go_at_call 98; (with_reducible refine (impl_dead.calls kj32 a0_0 _ _ l0_1 a1_0 _ _ l1_1 _ _ l1_2 x35_2 false _ ?side1 ?side2 ?side3 ?side4 ?side5 ?side6 A75.out).mono ?_); (case side1 => repeat (first | exact (Kd.C_below HR0_1.out HB.out) | (with_reducible refine Kd.C_alloc ?_ _) | (with_reducible refine Kd.C_drewN ?_ _) | (with_reducible refine Kd.C_drew ?_))); (case side2 => exact HC0_1.out); (case side3 => repeat (first | exact (Kd.C_below HR1_1.out HB.out) | (with_reducible refine Kd.C_alloc ?_ _) | (with_reducible refine Kd.C_drewN ?_ _) | (with_reducible refine Kd.C_drew ?_))); (case side4 => exact HC1_1.out); (case side5 => repeat (first | exact (Kd.C_below HR1_2.out HB.out) | (with_reducible refine Kd.C_alloc ?_ _) | (with_reducible refine Kd.C_drewN ?_ _) | (with_reducible refine Kd.C_drew ?_))); (case side6 => exact HC1_2.out); rintro e w147 ⟨rfl, hb⟩; have n0_ := Aside0.mk (blk_below (g := gb391) (o := .cells #[.int .i64 a0_0, .slice A0_1 l0_1.length c0_1] 30 (0, 0)) (by (with_reducible repeat (first | refine blk_drewN ?_ _ | refine blk_drew ?_ | refine blk_alloc ?_ _)); exact BK391.out) hb); have n1_ := Aside0.mk (blk_below (g := gb392) (o := .cells #[.bool a1_0, .slice (some ad394) l1_1.length c1_1, .slice A1_2 l1_2.length c1_2] 46 (0, 0)) (by (with_reducible repeat (first | refine blk_drewN ?_ _ | refine blk_drew ?_ | refine blk_alloc ?_ _)); exact BK392.out) hb); have n2_ := Aside0.mk (blk_below (g := gb395) (o := .cells #[.int .i64 ((rd_T50 l1_1 x35_2).f0), .int .i64 ((rd_T50 l1_1 x35_2).f1), .bool ((rd_T50 l1_1 x35_2).f2), .bool ((rd_T50 l1_1 x35_2).f3), .int .i64 ((rd_T50 l1_1 x35_2).f4)] 50 (0, 0)) (by (with_reducible repeat (first | refine blk_drewN ?_ _ | refine blk_drew ?_ | refine blk_alloc ?_ _)); exact BK395.out) hb); have n3_ := Aside0.mk (below_step (by repeat (first | (with_reducible first | exact HB.out | apply below_alloc | apply pw_below_drewN | apply below_drew1 | refine below_set ?_ GE391.out | refine below_set ?_ GE392.out | refine below_set ?_ GE395.out) | exact HB.out)) hb); clear BK391; clear BK392; clear BK395; clear HB; have BK391 := n0_; have BK392 := n1_; have BK395 := n2_; have HB := n3_; clear n0_ n1_ n2_ n3_; (try clear hb); (try clear hb2); (try clear hk); (try clear hi); have hcz148_0 : w147.cell? ⟨gb395, 0, none⟩ = some (.int .i64 ((rd_T50 l1_1 x35_2).f0)) := (blk_cell BK395.out 0).trans rfl; have hcz148_1 : w147.cell? ⟨gb395, 1, none⟩ = some (.int .i64 ((rd_T50 l1_1 x35_2).f1)) := (blk_cell BK395.out 1).trans rfl; have hcz148_2 : w147.cell? ⟨gb395, 2, none⟩ = some (.bool ((rd_T50 l1_1 x35_2).f2)) := (blk_cell BK395.out 2).trans rfl; have hcz148_3 : w147.cell? ⟨gb395, 3, none⟩ = some (.bool ((rd_T50 l1_1 x35_2).f3)) := (blk_cell BK395.out 3).trans rfl; have hcz148_4 : w147.cell? ⟨gb395, 4, none⟩ = some (.int .i64 ((rd_T50 l1_1 x35_2).f4)) := (blk_cell BK395.out 4).trans rfl; have hfz148_0 := blk_frozen BK395.out 0; have hfz148_1 := blk_frozen BK395.out 1; have hfz148_2 := blk_frozen BK395.out 2; have hfz148_3 := blk_frozen BK395.out 3; have hfz148_4 := blk_frozen BK395.out 4))
                 go_roundg kj32
                 case measure => have := HJ2.out; have := HK2.out; have := HJ32.out; omega
                 case rel => exact ⟨(wrap64 (x35_2 + 1)), (by first | rfl | (simp; done) | (simp [*]; done)), H', ⟨by have := HJ2.out; have := HK2.out; have := HJ32.out; omega⟩, ⟨by (with_reducible repeat (first | refine blk_drewN ?_ _ | refine blk_drew ?_ | refine blk_alloc ?_ _)); exact BK391.out⟩, ⟨by (with_reducible repeat (first | refine blk_drewN ?_ _ | refine blk_drew ?_ | refine blk_alloc ?_ _)); exact BK392.out⟩, ⟨by repeat (first | (with_reducible first | exact HB.out | apply below_alloc | apply pw_below_drewN | apply below_drew1 | refine below_set ?_ GE391.out | refine below_set ?_ GE392.out | refine below_set ?_ GE395.out) | exact HB.out)⟩⟩
               ·rw [if_neg c122] at H
                have c122b0 : (((rd_T50 l1_1 x35_2).f1) == 0) = false := beq_eq_false_iff_ne.mpr c122
                have c122b1 : (((rd_T50 l1_1 x35_2).f1) != 0) = true := bne_iff_ne.mpr c122
                have H' := Aside0.mk H
                clear H
                have hnb149 := NB395_391.out
                have hnc149 := NB391_395.out
                have hnb150 := NB395_392.out
                have hnc150 := NB392_395.out
                have hcz151_0 : wc.cell? ⟨gb395, 0, none⟩ = some (.int .i64 ((rd_T50 l1_1 x35_2).f0)) := (blk_cell BK395.out 0).trans rfl
                have hcz151_1 : wc.cell? ⟨gb395, 1, none⟩ = some (.int .i64 ((rd_T50 l1_1 x35_2).f1)) := (blk_cell BK395.out 1).trans rfl
                have hcz151_2 : wc.cell? ⟨gb395, 2, none⟩ = some (.bool ((rd_T50 l1_1 x35_2).f2)) := (blk_cell BK395.out 2).trans rfl
                have hcz151_3 : wc.cell? ⟨gb395, 3, none⟩ = some (.bool ((rd_T50 l1_1 x35_2).f3)) := (blk_cell BK395.out 3).trans rfl
                have hcz151_4 : wc.cell? ⟨gb395, 4, none⟩ = some (.int .i64 ((rd_T50 l1_1 x35_2).f4)) := (blk_cell BK395.out 4).trans rfl
                have hfz151_0 := blk_frozen BK395.out 0
                have hfz151_1 := blk_frozen BK395.out 1
                have hfz151_2 := blk_frozen BK395.out 2
                have hfz151_3 := blk_frozen BK395.out 3
                have hfz151_4 := blk_frozen BK395.out 4
                have hnb152 := NB391_392.out
                have hnc152 := NB392_391.out
                have hcz153_0 : wc.cell? ⟨gb391, 0, none⟩ = some (.int .i64 a0_0) := (blk_cell BK391.out 0).trans rfl
                have hcz153_1 : wc.cell? ⟨gb391, 1, none⟩ = some (.slice A0_1 l0_1.length c0_1) := (blk_cell BK391.out 1).trans rfl
                have hfz153_0 := blk_frozen BK391.out 0
                have hfz153_1 := blk_frozen BK391.out 1
                have hcz154_0 : wc.cell? ⟨gb392, 0, none⟩ = some (.bool a1_0) := (blk_cell BK392.out 0).trans rfl
                have hcz154_1 : wc.cell? ⟨gb392, 1, none⟩ = some (.slice (some ad394) l1_1.length c1_1) := (blk_cell BK392.out 1).trans rfl
                have hcz154_2 : wc.cell? ⟨gb392, 2, none⟩ = some (.slice A1_2 l1_2.length c1_2) := (blk_cell BK392.out 2).trans rfl
                have hfz154_0 := blk_frozen BK392.out 0
                have hfz154_1 := blk_frozen BK392.out 1
                have hfz154_2 := blk_frozen BK392.out 2
                go_wp2_with (first | (go_at_call 98; (with_reducible refine (impl_dead.calls kj32 a0_0 _ _ l0_1 a1_0 _ _ l1_1 _ _ l1_2 x35_2 false _ ?side1 ?side2 ?side3 ?side4 ?side5 ?side6 A75.out).mono ?_); (case side1 => repeat (first | exact (Kd.C_below HR0_1.out HB.out) | (with_reducible refine Kd.C_alloc ?_ _) | (with_reducible refine Kd.C_drewN ?_ _) | (with_reducible refine Kd.C_drew ?_))); (case side2 => exact HC0_1.out); (case side3 => repeat (first | exact (Kd.C_below HR1_1.out HB.out) | (with_reducible refine Kd.C_alloc ?_ _) | (with_reducible refine Kd.C_drewN ?_ _) | (with_reducible refine Kd.C_drew ?_))); (case side4 => exact HC1_1.out); (case side5 => repeat (first | exact (Kd.C_below HR1_2.out HB.out) | (with_reducible refine Kd.C_alloc ?_ _) | (with_reducible refine Kd.C_drewN ?_ _) | (with_reducible refine Kd.C_drew ?_))); (case side6 => exact HC1_2.out); rintro e w155 ⟨rfl, hb⟩; have n0_ := Aside0.mk (blk_below (g := gb391) (o := .cells #[.int .i64 a0_0, .slice A0_1 l0_1.length c0_1] 30 (0, 0)) (by (with_reducible repeat (first | refine blk_drewN ?_ _ | refine blk_drew ?_ | refine blk_alloc ?_ _)); exact BK391.out) hb); have n1_ := Aside0.mk (blk_below (g := gb392) (o := .cells #[.bool a1_0, .slice (some ad394) l1_1.length c1_1, .slice A1_2 l1_2.length c1_2] 46 (0, 0)) (by (with_reducible repeat (first | refine blk_drewN ?_ _ | refine blk_drew ?_ | refine blk_alloc ?_ _)); exact BK392.out) hb); have n2_ := Aside0.mk (blk_below (g := gb395) (o := .cells #[.int .i64 ((rd_T50 l1_1 x35_2).f0), .int .i64 ((rd_T50 l1_1 x35_2).f1), .bool ((rd_T50 l1_1 x35_2).f2), .bool ((rd_T50 l1_1 x35_2).f3), .int .i64 ((rd_T50 l1_1 x35_2).f4)] 50 (0, 0)) (by (with_reducible repeat (first | refine blk_drewN ?_ _ | refine blk_drew ?_ | refine blk_alloc ?_ _)); exact BK395.out) hb); have n3_ := Aside0.mk (below_step (by repeat (first | (with_reducible first | exact HB.out | apply below_alloc | apply pw_below_drewN | apply below_drew1 | refine below_set ?_ GE391.out | refine below_set ?_ GE392.out | refine below_set ?_ GE395.out) | exact HB.out)) hb); clear BK391; clear BK392; clear BK395; clear HB; have BK391 := n0_; have BK392 := n1_; have BK395 := n2_; have HB := n3_; clear n0_ n1_ n2_ n3_; (try clear hb); (try clear hb2); (try clear hk); (try clear hi); have hcz156_0 : w155.cell? ⟨gb395, 0, none⟩ = some (.int .i64 ((rd_T50 l1_1 x35_2).f0)) := (blk_cell BK395.out 0).trans rfl; have hcz156_1 : w155.cell? ⟨gb395, 1, none⟩ = some (.int .i64 ((rd_T50 l1_1 x35_2).f1)) := (blk_cell BK395.out 1).trans rfl; have hcz156_2 : w155.cell? ⟨gb395, 2, none⟩ = some (.bool ((rd_T50 l1_1 x35_2).f2)) := (blk_cell BK395.out 2).trans rfl; have hcz156_3 : w155.cell? ⟨gb395, 3, none⟩ = some (.bool ((rd_T50 l1_1 x35_2).f3)) := (blk_cell BK395.out 3).trans rfl; have hcz156_4 : w155.cell? ⟨gb395, 4, none⟩ = some (.int .i64 ((rd_T50 l1_1 x35_2).f4)) := (blk_cell BK395.out 4).trans rfl; have hfz156_0 := blk_frozen BK395.out 0; have hfz156_1 := blk_frozen BK395.out 1; have hfz156_2 := blk_frozen BK395.out 2; have hfz156_3 := blk_frozen BK395.out 3; have hfz156_4 := blk_frozen BK395.out 4))
                go_roundg kj32
                case measure => have := HJ2.out; have := HK2.out; have := HJ32.out; omega
                case rel => exact ⟨(wrap64 (x35_2 + 1)), (by first | rfl | (simp; done) | (simp [*]; done)), H', ⟨by have := HJ2.out; have := HK2.out; have := HJ32.out; omega⟩, ⟨by (with_reducible repeat (first | refine blk_drewN ?_ _ | refine blk_drew ?_ | refine blk_alloc ?_ _)); exact BK391.out⟩, ⟨by (with_reducible repeat (first | refine blk_drewN ?_ _ | refine blk_drew ?_ | refine blk_alloc ?_ _)); exact BK392.out⟩, ⟨by repeat (first | (with_reducible first | exact HB.out | apply below_alloc | apply pw_below_drewN | apply below_drew1 | refine below_set ?_ GE391.out | refine below_set ?_ GE392.out | refine below_set ?_ GE395.out) | exact HB.out)⟩⟩
              ·rw [if_neg c121] at H
               have c121b0 : ((rd_T50 l1_1 x35_2).f3) = false := by simpa using c121
               clear c121
               have H' := Aside0.mk H
               clear H
               have hnb157 := NB395_391.out
               have hnc157 := NB391_395.out
               have hnb158 := NB395_392.out
               have hnc158 := NB392_395.out
               have hcz159_0 : wc.cell? ⟨gb395, 0, none⟩ = some (.int .i64 ((rd_T50 l1_1 x35_2).f0)) := (blk_cell BK395.out 0).trans rfl
               have hcz159_1 : wc.cell? ⟨gb395, 1, none⟩ = some (.int .i64 ((rd_T50 l1_1 x35_2).f1)) := (blk_cell BK395.out 1).trans rfl
               have hcz159_2 : wc.cell? ⟨gb395, 2, none⟩ = some (.bool ((rd_T50 l1_1 x35_2).f2)) := (blk_cell BK395.out 2).trans rfl
               have hcz159_3 : wc.cell? ⟨gb395, 3, none⟩ = some (.bool ((rd_T50 l1_1 x35_2).f3)) := (blk_cell BK395.out 3).trans rfl
               have hcz159_4 : wc.cell? ⟨gb395, 4, none⟩ = some (.int .i64 ((rd_T50 l1_1 x35_2).f4)) := (blk_cell BK395.out 4).trans rfl
               have hfz159_0 := blk_frozen BK395.out 0
               have hfz159_1 := blk_frozen BK395.out 1
               have hfz159_2 := blk_frozen BK395.out 2
               have hfz159_3 := blk_frozen BK395.out 3
               have hfz159_4 := blk_frozen BK395.out 4
               have hnb160 := NB391_392.out
               have hnc160 := NB392_391.out
               have hcz161_0 : wc.cell? ⟨gb391, 0, none⟩ = some (.int .i64 a0_0) := (blk_cell BK391.out 0).trans rfl
               have hcz161_1 : wc.cell? ⟨gb391, 1, none⟩ = some (.slice A0_1 l0_1.length c0_1) := (blk_cell BK391.out 1).trans rfl
               have hfz161_0 := blk_frozen BK391.out 0
               have hfz161_1 := blk_frozen BK391.out 1
               have hcz162_0 : wc.cell? ⟨gb392, 0, none⟩ = some (.bool a1_0) := (blk_cell BK392.out 0).trans rfl
               have hcz162_1 : wc.cell? ⟨gb392, 1, none⟩ = some (.slice (some ad394) l1_1.length c1_1) := (blk_cell BK392.out 1).trans rfl
               have hcz162_2 : wc.cell? ⟨gb392, 2, none⟩ = some (.slice A1_2 l1_2.length c1_2) := (blk_cell BK392.out 2).trans rfl
               have hfz162_0 := blk_frozen BK392.out 0
               have hfz162_1 := blk_frozen BK392.out 1
               have hfz162_2 := blk_frozen BK392.out 2
               go_wp2_with (first | (go_at_call 98; (with_reducible refine (impl_dead.calls kj32 a0_0 _ _ l0_1 a1_0 _ _ l1_1 _ _ l1_2 x35_2 false _ ?side1 ?side2 ?side3 ?side4 ?side5 ?side6 A75.out).mono ?_); (case side1 => repeat (first | exact (Kd.C_below HR0_1.out HB.out) | (with_reducible refine Kd.C_alloc ?_ _) | (with_reducible refine Kd.C_drewN ?_ _) | (with_reducible refine Kd.C_drew ?_))); (case side2 => exact HC0_1.out); (case side3 => repeat (first | exact (Kd.C_below HR1_1.out HB.out) | (with_reducible refine Kd.C_alloc ?_ _) | (with_reducible refine Kd.C_drewN ?_ _) | (with_reducible refine Kd.C_drew ?_))); (case side4 => exact HC1_1.out); (case side5 => repeat (first | exact (Kd.C_below HR1_2.out HB.out) | (with_reducible refine Kd.C_alloc ?_ _) | (with_reducible refine Kd.C_drewN ?_ _) | (with_reducible refine Kd.C_drew ?_))); (case side6 => exact HC1_2.out); rintro e w163 ⟨rfl, hb⟩; have n0_ := Aside0.mk (blk_below (g := gb391) (o := .cells #[.int .i64 a0_0, .slice A0_1 l0_1.length c0_1] 30 (0, 0)) (by (with_reducible repeat (first | refine blk_drewN ?_ _ | refine blk_drew ?_ | refine blk_alloc ?_ _)); exact BK391.out) hb); have n1_ := Aside0.mk (blk_below (g := gb392) (o := .cells #[.bool a1_0, .slice (some ad394) l1_1.length c1_1, .slice A1_2 l1_2.length c1_2] 46 (0, 0)) (by (with_reducible repeat (first | refine blk_drewN ?_ _ | refine blk_drew ?_ | refine blk_alloc ?_ _)); exact BK392.out) hb); have n2_ := Aside0.mk (blk_below (g := gb395) (o := .cells #[.int .i64 ((rd_T50 l1_1 x35_2).f0), .int .i64 ((rd_T50 l1_1 x35_2).f1), .bool ((rd_T50 l1_1 x35_2).f2), .bool ((rd_T50 l1_1 x35_2).f3), .int .i64 ((rd_T50 l1_1 x35_2).f4)] 50 (0, 0)) (by (with_reducible repeat (first | refine blk_drewN ?_ _ | refine blk_drew ?_ | refine blk_alloc ?_ _)); exact BK395.out) hb); have n3_ := Aside0.mk (below_step (by repeat (first | (with_reducible first | exact HB.out | apply below_alloc | apply pw_below_drewN | apply below_drew1 | refine below_set ?_ GE391.out | refine below_set ?_ GE392.out | refine below_set ?_ GE395.out) | exact HB.out)) hb); clear BK391; clear BK392; clear BK395; clear HB; have BK391 := n0_; have BK392 := n1_; have BK395 := n2_; have HB := n3_; clear n0_ n1_ n2_ n3_; (try clear hb); (try clear hb2); (try clear hk); (try clear hi); have hcz164_0 : w163.cell? ⟨gb395, 0, none⟩ = some (.int .i64 ((rd_T50 l1_1 x35_2).f0)) := (blk_cell BK395.out 0).trans rfl; have hcz164_1 : w163.cell? ⟨gb395, 1, none⟩ = some (.int .i64 ((rd_T50 l1_1 x35_2).f1)) := (blk_cell BK395.out 1).trans rfl; have hcz164_2 : w163.cell? ⟨gb395, 2, none⟩ = some (.bool ((rd_T50 l1_1 x35_2).f2)) := (blk_cell BK395.out 2).trans rfl; have hcz164_3 : w163.cell? ⟨gb395, 3, none⟩ = some (.bool ((rd_T50 l1_1 x35_2).f3)) := (blk_cell BK395.out 3).trans rfl; have hcz164_4 : w163.cell? ⟨gb395, 4, none⟩ = some (.int .i64 ((rd_T50 l1_1 x35_2).f4)) := (blk_cell BK395.out 4).trans rfl; have hfz164_0 := blk_frozen BK395.out 0; have hfz164_1 := blk_frozen BK395.out 1; have hfz164_2 := blk_frozen BK395.out 2; have hfz164_3 := blk_frozen BK395.out 3; have hfz164_4 := blk_frozen BK395.out 4))
               go_roundg kj32
               case measure => have := HJ2.out; have := HK2.out; have := HJ32.out; omega
               case rel => exact ⟨(wrap64 (x35_2 + 1)), (by first | rfl | (simp; done) | (simp [*]; done)), H', ⟨by have := HJ2.out; have := HK2.out; have := HJ32.out; omega⟩, ⟨by (with_reducible repeat (first | refine blk_drewN ?_ _ | refine blk_drew ?_ | refine blk_alloc ?_ _)); exact BK391.out⟩, ⟨by (with_reducible repeat (first | refine blk_drewN ?_ _ | refine blk_drew ?_ | refine blk_alloc ?_ _)); exact BK392.out⟩, ⟨by repeat (first | (with_reducible first | exact HB.out | apply below_alloc | apply pw_below_drewN | apply below_drew1 | refine below_set ?_ GE391.out | refine below_set ?_ GE392.out | refine below_set ?_ GE395.out) | exact HB.out)⟩⟩
        ·rw [if_neg c32] at H
         exact absurd H (by simp)
       ·rw [if_neg c31] at H
        exact absurd H (by simp)
      ·rw [if_neg c30] at H
       have c30b0 : decide (x35_2 < (l1_1.length : Int)) = false := decide_eq_false c30
       clear c30
       obtain rfl := Option.some.inj H
       go_wp2
       go_ret
       exact ⟨by first | rfl | (simp [errW_none, errW_some] <;> rfl) | (simp [*, errW_none, errW_some] <;> rfl), by repeat (first | (with_reducible first | exact HB.out | apply below_alloc | apply pw_below_drewN | apply below_drew1 | refine below_set ?_ GE391.out | refine below_set ?_ GE392.out) | exact HB.out)⟩
end Go.Proofs.Ytpdnabhpkdchjaa.P
