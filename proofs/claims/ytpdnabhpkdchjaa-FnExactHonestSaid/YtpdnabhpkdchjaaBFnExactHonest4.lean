/- The statement FnExactHonest holds of the given program, for every argument; there are no conditions. (Part 4 of 5.) -/
import Derived.Test.YtpdnabhpkdchjaaBFnExactHonest3
namespace Go.Proofs.Ytpdnabhpkdchjaa.P
open Go.RowKit Go.Proofs.YtpdnabhpkdchjaaW.PrintWords Go.Proofs.YtpdnabhpkdchjaaW.PrintLast Go.Proofs.YtpdnabhpkdchjaaW.PrintMore
attribute [local go_sem] max2_int min2_int max_two min_two max_three min_three max_four min_four
set_option linter.unusedVariables false
set_option linter.unusedSimpArgs false
mutual
def spec_Truth.j0 : Nat → List (S56) → Bool → Int → List (S88) → Option ((List (List Int)))
 | 0, _, _, _, _ => none
 | k + 1, x1, x18, x569000, x569001 => if x18 = true then (some ([] : List (List Int))) else (spec_Truth.l0 k x1 ([] : List (List Int)) (x1.length : Int) 0 x569000 x569001)
def spec_Truth.l0 : Nat → List (S56) → List (List Int) → Int → Int → Int → List (S88) → Option ((List (List Int)))
 | 0, _, _, _, _, _, _ => none
 | k + 1, x1, x5, x20, x21, x569000, x569001 => if x21 < x20 then (if 0 ≤ x569000 then (if (x569000 : Int).toNat ≤ 35184372088832 then (if 0 ≤ (wrap64 (x21 + 1)) then (if (wrap64 (x21 + 1)) ≤ (x1.length : Int) then ((some (x1.take ((wrap64 (x21 + 1)) : Int).toNat : List (S56))).bind fun y573 => (spec_Truth.l1 k x1 x5 (List.replicate (x569000 : Int).toNat 0) x20 x21 y573 (y573.length : Int) 0 x569000 x569001)) else (none)) else (none)) else (none)) else (none)) else (some x5)
def spec_Truth.l1 : Nat → List (S56) → List (List Int) → List Int → Int → Int → List (S56) → Int → Int → Int → List (S88) → Option ((List (List Int)))
 | 0, _, _, _, _, _, _, _, _, _, _ => none
 | k + 1, x1, x5, x7, x20, x21, x30, x31, x32, x569000, x569001 => if x32 < x31 then (if 0 ≤ x32 then (if x32 < (x30.length : Int) then (if ((rd_T56 x30 x32).f0) = 1 then ((spec_EventOk.f k x569000 x569001 ((rd_T56 x30 x32).f0) ((rd_T56 x30 x32).f1) ((rd_T56 x30 x32).f2)).bind fun t582 => (spec_Truth.j3 k x1 x5 x7 x20 x21 x30 x31 x32 (!t582) x569000 x569001 ((rd_T56 x30 x32).f0) ((rd_T56 x30 x32).f1) ((rd_T56 x30 x32).f2))) else (spec_Truth.j3 k x1 x5 x7 x20 x21 x30 x31 x32 true x569000 x569001 ((rd_T56 x30 x32).f0) ((rd_T56 x30 x32).f1) ((rd_T56 x30 x32).f2))) else (none)) else (none)) else (if x5.length < 5864062014805 then (spec_Truth.l0 k x1 (x5 ++ [x7]) x20 (wrap64 (x21 + 1)) x569000 x569001) else (none))
def spec_Truth.j3 : Nat → List (S56) → List (List Int) → List Int → Int → Int → List (S56) → Int → Int → Bool → Int → List (S88) → Int → Int → Int → Option ((List (List Int)))
 | 0, _, _, _, _, _, _, _, _, _, _, _, _, _, _ => none
 | k + 1, x1, x5, x7, x20, x21, x30, x31, x32, x44, x569000, x569001, x582000, x582001, x582002 => if x44 = true then (spec_Truth.l1 k x1 x5 x7 x20 x21 x30 x31 (wrap64 (x32 + 1)) x569000 x569001) else (if 0 ≤ x582001 then (if x582001 < (x569001.length : Int) then (if ((rd_T88 x569001 x582001).f0) ≥ 0 then (if 0 ≤ ((rd_T88 x569001 x582001).f0) then (if ((rd_T88 x569001 x582001).f0) < (x7.length : Int) then ((some (x7.set (((rd_T88 x569001 x582001).f0) : Int).toNat (wrap64 ((rd x7 ((rd_T88 x569001 x582001).f0)) - x582002)) : List Int)).bind fun y586 => (if ((rd_T88 x569001 x582001).f1) ≥ 0 then (if 0 ≤ ((rd_T88 x569001 x582001).f1) then (if ((rd_T88 x569001 x582001).f1) < (x7.length : Int) then (spec_Truth.l1 k x1 x5 (y586.set (((rd_T88 x569001 x582001).f1) : Int).toNat (wrap64 ((rd y586 ((rd_T88 x569001 x582001).f1)) + x582002))) x20 x21 x30 x31 (wrap64 (x32 + 1)) x569000 x569001) else (none)) else (none)) else (spec_Truth.l1 k x1 x5 y586 x20 x21 x30 x31 (wrap64 (x32 + 1)) x569000 x569001))) else (none)) else (none)) else (if ((rd_T88 x569001 x582001).f1) ≥ 0 then (if 0 ≤ ((rd_T88 x569001 x582001).f1) then (if ((rd_T88 x569001 x582001).f1) < (x7.length : Int) then (spec_Truth.l1 k x1 x5 (x7.set (((rd_T88 x569001 x582001).f1) : Int).toNat (wrap64 ((rd x7 ((rd_T88 x569001 x582001).f1)) + x582002))) x20 x21 x30 x31 (wrap64 (x32 + 1)) x569000 x569001) else (none)) else (none)) else (spec_Truth.l1 k x1 x5 x7 x20 x21 x30 x31 (wrap64 (x32 + 1)) x569000 x569001))) else (none)) else (none))
end
def spec_Truth.f (k : Nat) (a0_0 : Int) (l0_1 : List (S88)) (l1 : List (S56)) : Option ((List (List Int))) := (spec_LayoutOk.f k a0_0 l0_1).bind fun t569 => (if t569 = 0 then (spec_Truth.j0 k l1 (decide ((l1.length : Int) > 2000)) a0_0 l0_1) else (spec_Truth.j0 k l1 true a0_0 l0_1))
def spec_Truth.T14 : Bool × List (List Nat × List Nat) := (true, [([], []), ([], []), ([1], [1]), ([0, 2], [0, 2]), ([3], [3]), ([], []), ([5], [5]), ([4, 6], [4, 6]), ([0, 2, 0, 1, 2, 3, 4, 5, 6, 7], [0, 2]), ([8, 7, 0, 1, 2, 3, 4, 5, 6, 7], [7, 8])])
def spec_Truth.B14 : List Nat := [0, 0, 2, 7, 15, 0, 32, 127, 255, 511]
theorem spec_Truth.tab14 : rtab .any (opsOf Try.f58 14) = spec_Truth.T14 := by kernel_rfl
theorem spec_Truth.bits14 : waitsOk spec_Truth.T14.2 spec_Truth.B14 = true := by kernel_rfl
def spec_Truth.T16 : Bool × List (List Nat × List Nat) := (true, [([], []), ([], []), ([1], [1]), ([0, 2], [0, 2]), ([3], [3]), ([], []), ([5], [5]), ([4, 6], [4, 6]), ([0, 2, 0, 1, 2, 3, 4, 5, 6, 7], [0, 2]), ([8, 7, 0, 1, 2, 3, 4, 5, 6, 7], [7, 8])])
def spec_Truth.B16 : List Nat := [0, 0, 2, 7, 15, 0, 32, 127, 255, 511]
theorem spec_Truth.tab16 : rtab .any (opsOf Try.f58 16) = spec_Truth.T16 := by kernel_rfl
theorem spec_Truth.bits16 : waitsOk spec_Truth.T16.2 spec_Truth.B16 = true := by kernel_rfl
set_option maxHeartbeats 8000000 in
set_option maxRecDepth 100000 in
theorem spec_Truth.calls (k : Nat) (a0_0 : Int) (A0_1 : Option Addr) (c0_1 : Nat) (l0_1 : List (S88)) (A1 : Option Addr) (c1 : Nat) (l1 : List (S56)) (r : List (List Int)) (w : World) (hr0_1 : Kd.C k88 w A0_1 l0_1.length l0_1) (hc0_1 : l0_1.length ≤ c0_1) (hr1 : Kd.C k56 w A1 l1.length l1) (hc1 : l1.length ≤ c1) (h : spec_Truth.f k a0_0 l0_1 l1 = some r) :
  Calls Try.prog 58 #[.agg #[.int .i64 a0_0, .slice A0_1 l0_1.length c0_1], .slice A1 l1.length c1] w fun e w' => ∃ v0_ : Value, e = .returned (v0_) ∧ Kd.S (Kd.slice 3 (Kd.int .i64)) 59 w' w.heap.size (fun _ => True) v0_ r ∧ Below w.heap.size w w' := by
 have hu30 := Try.underlying30
 have hu56 := Try.underlying56
 have hu88 := Try.underlying88
 have HR0_1 := Aside0.mk hr0_1
 have HC0_1 := Aside0.mk hc0_1
 clear hr0_1 hc0_1
 have HR1 := Aside0.mk hr1
 have HC1 := Aside0.mk hc1
 clear hr1 hc1
 have HB := Aside0.mk (Below.refl w.heap.size w)
 have H : ((spec_LayoutOk.f k a0_0 l0_1).bind fun t569 => (if t569 = 0 then (spec_Truth.j0 k l1 (decide ((l1.length : Int) > 2000)) a0_0 l0_1) else (spec_Truth.j0 k l1 true a0_0 l0_1))) = some r := h
 clear h
 have HC3 := Aside0.mk H
 clear H
 go_enter Try.func58, Try.ntmps58
 go_upto_region 1 with (first | ((with_reducible refine gate_dst (N := 2) rfl ?_); (try (refine gate_guard (by rfl) ?_; dsimp only)); refine box_event ?hg (N := 2) ?hd (cs := #[.int .i64 a0_0, .slice A0_1 l0_1.length c0_1]) (t := 30) ?hr ?_; (case hd => rfl); (case hg => rfl); (case hr => first | (go_simp; done) | (go_simp; rfl)); intro gb568 hg w4 hbox hb; have n0_ := Aside0.mk (below_step (by repeat (first | (with_reducible first | exact HB.out | apply below_alloc | apply pw_below_drewN | apply below_drew1) | exact HB.out)) hb); have n1_ := Aside0.mk (hbox); have n2_ := Aside0.mk ((by rw [hg]; exact (below_size (by repeat (first | (with_reducible first | exact HB.out | apply below_alloc | apply pw_below_drewN | apply below_drew1) | exact HB.out))) : w.heap.size ≤ gb568)); have n3_ := Aside0.mk ((by rw [hg]; exact (below_size (by repeat (first | (with_reducible first | exact HB.out | apply below_alloc | apply pw_below_drewN | apply below_drew1) | exact HB.out))) : w.heap.size ≤ gb568)); clear HB; have HB := n0_; have BK568 := n1_; have GW568 := n2_; have GE568 := n3_; clear n0_ n1_ n2_ n3_; clear hb hbox hg))
 (try simp only [Act.put, List.setIfInBounds_toArray, List.set_cons_zero, List.set_cons_succ])
 go_cut [18] (fun v18 wc => ∃ (kq : Nat) (x18_2 : Bool), v18 = .bool x18_2 ∧ Aside0 (spec_Truth.j0 kq l1 x18_2 a0_0 l0_1 = some r) ∧ Aside0 (kq ≤ k) ∧ Aside0 (wc.heap[gb568]? = some (.cells #[.int .i64 a0_0, (.slice A0_1 l0_1.length c0_1)] 30 (0, 0))) ∧ Aside0 (Below w.heap.size w wc))
 case first =>
  have H := HC3.out
  clear HC3
  replace H := Option.bind_eq_some_iff.mp H
  obtain ⟨t569, A50, H⟩ := H
  replace H : (if t569 = 0 then (spec_Truth.j0 k l1 (decide ((l1.length : Int) > 2000)) a0_0 l0_1) else (spec_Truth.j0 k l1 true a0_0 l0_1)) = some r := H
  have A5 := Aside0.mk A50
  clear A50
  by_cases c6 : t569 = 0
  ·rw [if_pos c6] at H
   have c6b0 : (t569 == 0) = true := beq_iff_eq.mpr c6
   have c6b1 : (t569 != 0) = false := bne_eq_false_iff_eq.mpr c6
   clear c6
   (first | rw [c6b0] | (simp only [i64_w, i32_w]; rw [c6b0]) | skip)
   have H' := Aside0.mk H
   clear H
   have hcz7_0 : w4.cell? ⟨gb568, 0, none⟩ = some (.int .i64 a0_0) := (blk_cell BK568.out 0).trans rfl
   have hcz7_1 : w4.cell? ⟨gb568, 1, none⟩ = some (.slice A0_1 l0_1.length c0_1) := (blk_cell BK568.out 1).trans rfl
   have hfz7_0 := blk_frozen BK568.out 0
   have hfz7_1 := blk_frozen BK568.out 1
   go_wp2_with (first | ((with_reducible refine gate_callee (f := 23) rfl ?_); refine goesL_ (some 12) rfl rfl Try.func23 (by kernel_rfl) rfl #[.agg #[.int .i64 a0_0, .slice A0_1 l0_1.length c0_1]] rfl (by (try simp only [List.map_toArray, List.map_cons, List.map_nil]); first | done | rfl | (simp only [List.length_drop, List.length_take]; rfl)) ?_; (with_reducible refine (spec_LayoutOk.calls k a0_0 _ _ l0_1 t569 _ ?side1 ?side2 A5.out).mono ?_); (case side1 => repeat (first | exact (Kd.C_below HR0_1.out HB.out) | (with_reducible refine Kd.C_alloc ?_ _) | (with_reducible refine Kd.C_drewN ?_ _) | (with_reducible refine Kd.C_drew ?_))); (case side2 => exact HC0_1.out); rintro e w8 ⟨rfl, hb⟩; refine ⟨_, rfl, ?_⟩; have n0_ := Aside0.mk (blk_below (g := gb568) (o := .cells #[.int .i64 a0_0, .slice A0_1 l0_1.length c0_1] 30 (0, 0)) (by (with_reducible repeat (first | refine blk_drewN ?_ _ | refine blk_drew ?_ | refine blk_alloc ?_ _)); exact BK568.out) hb); have n1_ := Aside0.mk (below_step (by repeat (first | (with_reducible first | exact HB.out | apply below_alloc | apply pw_below_drewN | apply below_drew1 | refine below_set ?_ GE568.out) | exact HB.out)) hb); clear BK568; clear HB; have BK568 := n0_; have HB := n1_; clear n0_ n1_; (try clear hb); (try clear hb2); (try clear hk); (try clear hi)))
   go_meet
   case rel => exact ⟨_, (decide ((l1.length : Int) > 2000)), (by first | rfl | (simp; done) | (simp [*]; done)), H', ⟨by first | omega | exact Nat.le_refl _⟩, ⟨by (with_reducible repeat (first | refine blk_drewN ?_ _ | refine blk_drew ?_ | refine blk_alloc ?_ _)); exact BK568.out⟩, ⟨by repeat (first | (with_reducible first | exact HB.out | apply below_alloc | apply pw_below_drewN | apply below_drew1 | refine below_set ?_ GE568.out) | exact HB.out)⟩⟩
  ·rw [if_neg c6] at H
   have c6b0 : (t569 == 0) = false := beq_eq_false_iff_ne.mpr c6
   have c6b1 : (t569 != 0) = true := bne_iff_ne.mpr c6
   (first | rw [c6b0] | (simp only [i64_w, i32_w]; rw [c6b0]) | skip)
   have H' := Aside0.mk H
   clear H
   have hcz9_0 : w4.cell? ⟨gb568, 0, none⟩ = some (.int .i64 a0_0) := (blk_cell BK568.out 0).trans rfl
   have hcz9_1 : w4.cell? ⟨gb568, 1, none⟩ = some (.slice A0_1 l0_1.length c0_1) := (blk_cell BK568.out 1).trans rfl
   have hfz9_0 := blk_frozen BK568.out 0
   have hfz9_1 := blk_frozen BK568.out 1
   go_wp2_with (first | ((with_reducible refine gate_callee (f := 23) rfl ?_); refine goesL_ (some 12) rfl rfl Try.func23 (by kernel_rfl) rfl #[.agg #[.int .i64 a0_0, .slice A0_1 l0_1.length c0_1]] rfl (by (try simp only [List.map_toArray, List.map_cons, List.map_nil]); first | done | rfl | (simp only [List.length_drop, List.length_take]; rfl)) ?_; (with_reducible refine (spec_LayoutOk.calls k a0_0 _ _ l0_1 t569 _ ?side1 ?side2 A5.out).mono ?_); (case side1 => repeat (first | exact (Kd.C_below HR0_1.out HB.out) | (with_reducible refine Kd.C_alloc ?_ _) | (with_reducible refine Kd.C_drewN ?_ _) | (with_reducible refine Kd.C_drew ?_))); (case side2 => exact HC0_1.out); rintro e w10 ⟨rfl, hb⟩; refine ⟨_, rfl, ?_⟩; have n0_ := Aside0.mk (blk_below (g := gb568) (o := .cells #[.int .i64 a0_0, .slice A0_1 l0_1.length c0_1] 30 (0, 0)) (by (with_reducible repeat (first | refine blk_drewN ?_ _ | refine blk_drew ?_ | refine blk_alloc ?_ _)); exact BK568.out) hb); have n1_ := Aside0.mk (below_step (by repeat (first | (with_reducible first | exact HB.out | apply below_alloc | apply pw_below_drewN | apply below_drew1 | refine below_set ?_ GE568.out) | exact HB.out)) hb); clear BK568; clear HB; have BK568 := n0_; have HB := n1_; clear n0_ n1_; (try clear hb); (try clear hb2); (try clear hk); (try clear hi)))
   go_meet
   case rel => exact ⟨_, (true), (by first | rfl | (simp; done) | (simp [*]; done)), H', ⟨by first | omega | exact Nat.le_refl _⟩, ⟨by (with_reducible repeat (first | refine blk_drewN ?_ _ | refine blk_drew ?_ | refine blk_alloc ?_ _)); exact BK568.out⟩, ⟨by repeat (first | (with_reducible first | exact HB.out | apply below_alloc | apply pw_below_drewN | apply below_drew1 | refine below_set ?_ GE568.out) | exact HB.out)⟩⟩
 case rest =>
  clear HC3
  try clear c1
  try clear c2
  try clear p2
  try clear c5
  try clear c6
  try clear c6b0
  try clear c6b1
  try clear hcz7_0
  try clear hcz7_1
  try clear hcz9_0
  try clear hcz9_1
  try clear hfz7_0
  try clear hfz7_1
  try clear hfz9_0
  try clear hfz9_1
  obtain ⟨kq, x18_2, rfl, HA, HJ2, BK568, HB⟩ := hcut
  cases kq with
  | zero => exact absurd HA.out (by simp [spec_Truth.j0])
  | succ kj2 =>
   have H := HA.out
   clear HA
   simp only [spec_Truth.j0] at H
   by_cases c11 : x18_2 = true
   ·subst c11
    have H1 : (some ([] : List (List Int))) = some r := by rw [if_pos rfl] at H; exact H
    clear H
    have H := H1
    clear H1
    obtain rfl := Option.some.inj H
    go_wp2
    go_ret
    exact ⟨_, by first | rfl | (simp [errW_none, errW_some] <;> rfl) | (simp [*, errW_none, errW_some] <;> rfl), by first | exact Kd.S_nil _ _ _ _ _ | exact Kd.N_nil _ _ _ _ _ | exact Kd.V_nil _ _ _ _ _ | exact Kd.Q_nil _ _ _ _ _ | exact Kd.R_nil _ _ _ _ _, by repeat (first | (with_reducible first | exact HB.out | apply below_alloc | apply pw_below_drewN | apply below_drew1 | refine below_set ?_ GE568.out) | exact HB.out)⟩
   ·replace c11 := Bool.eq_false_iff.mpr c11
    subst c11
    have H1 : (spec_Truth.l0 kj2 l1 ([] : List (List Int)) (l1.length : Int) 0 a0_0 l0_1) = some r := by rw [if_neg (show ¬ (false = true) by decide)] at H; exact H
    clear H
    have H := H1
    clear H1
    have H' := Aside0.mk H
    clear H
    go_wp2
    go_loopg [5, 21] kj2 (fun kq v5 v21 w' => ∃ (x5_2 : List (List Int)) (x21_2 : Int), v21 = .int .i64 x21_2 ∧ Aside0 (spec_Truth.l0 kq l1 x5_2 (l1.length : Int) x21_2 a0_0 l0_1 = some r) ∧ Aside0 (kq ≤ kj2) ∧ Aside0 (Kd.S (Kd.slice 3 (Kd.int .i64)) 59 w' w.heap.size (fun _ => True) v5 x5_2) ∧ Aside0 (w'.heap[gb568]? = some (.cells #[.int .i64 a0_0, (.slice A0_1 l0_1.length c0_1)] 30 (0, 0))) ∧ Aside0 (Below w.heap.size w w'))
    case atStart => exact ⟨(([] : List (List Int))), (0), (by first | rfl | (simp; done) | (simp [*]; done)), H', ⟨Nat.le_refl _⟩, ⟨by first | exact Kd.S_nil _ _ _ _ _ | exact Kd.N_nil _ _ _ _ _ | exact Kd.V_nil _ _ _ _ _ | exact Kd.Q_nil _ _ _ _ _ | exact Kd.R_nil _ _ _ _ _⟩, ⟨by (with_reducible repeat (first | refine blk_drewN ?_ _ | refine blk_drew ?_ | refine blk_alloc ?_ _)); exact BK568.out⟩, ⟨by repeat (first | (with_reducible first | exact HB.out | apply below_alloc | apply pw_below_drewN | apply below_drew1 | refine below_set ?_ GE568.out) | exact HB.out)⟩⟩
    case round =>
     clear H'
     try clear c1
     try clear c2
     try clear p2
     try clear c5
     try clear c6
     try clear c6b0
     try clear c6b1
     try clear c11
     try clear hcz7_0
     try clear hcz7_1
     try clear hcz9_0
     try clear hcz9_1
     try clear hfz7_0
     try clear hfz7_1
     try clear hfz9_0
     try clear hfz9_1
     try clear p2
     obtain ⟨x5_2, x21_2, rfl, HA, HK2, HO_5, BK568, HB⟩ := hrel
     cases gk with
     | zero => exact absurd HA.out (by simp [spec_Truth.l0])
     | succ k2 =>
      have H := HA.out
      clear HA
      simp only [spec_Truth.l0] at H
      by_cases c12 : x21_2 < (l1.length : Int)
      ·rw [if_pos c12] at H
       have c12b0 : decide (x21_2 < (l1.length : Int)) = true := decide_eq_true c12
       clear c12
       by_cases c13 : 0 ≤ a0_0
       ·rw [if_pos c13] at H
        have c13b0 := eq_true c13
        have c13b1 : decide (0 ≤ a0_0) = true := decide_eq_true c13
        clear c13
        by_cases c14 : (a0_0 : Int).toNat ≤ 35184372088832
        ·rw [if_pos c14] at H
         have c14b0 := eq_true c14
         have c14b1 : decide ((a0_0 : Int).toNat ≤ 35184372088832) = true := decide_eq_true c14
         clear c14
         obtain ⟨y570, hy570⟩ : ∃ y_ : List Int, y_ = (List.replicate (a0_0 : Int).toNat 0) := ⟨_, rfl⟩
         replace H : (if 0 ≤ (wrap64 (x21_2 + 1)) then (if (wrap64 (x21_2 + 1)) ≤ (l1.length : Int) then ((some (l1.take ((wrap64 (x21_2 + 1)) : Int).toNat : List (S56))).bind fun y573 => (spec_Truth.l1 k2 l1 x5_2 y570 (l1.length : Int) x21_2 y573 (y573.length : Int) 0 a0_0 l0_1)) else (none)) else (none)) = some r := by first | (rw [hy570]; with_reducible exact H) | (have H2_ := (Option.bind_some _ _).symm.trans H; rw [hy570]; with_reducible exact H2_) | (have H2_ := (Option.bind_some _ _).symm.trans H; with_reducible exact H2_) | with_reducible exact H | (rw [hy570]; exact H) | exact H
         have Ny570 := Aside0.mk hy570
         clear hy570
         obtain ⟨ji15, hji15⟩ : ∃ j_ : Int, (wrap64 (x21_2 + 1)) = j_ := ⟨_, rfl⟩
         replace H : (if 0 ≤ (ji15) then (if (ji15) ≤ (l1.length : Int) then ((some (l1.take ((ji15) : Int).toNat : List (S56))).bind fun y573 => (spec_Truth.l1 k2 l1 x5_2 y570 (l1.length : Int) x21_2 y573 (y573.length : Int) 0 a0_0 l0_1)) else (none)) else (none)) = some r := by first | (rw [hji15] at H; exact H) | (simp only [hji15] at H ⊢; exact H)
         have hji15w : (IntKind.i64.wrap (x21_2 + 1)) = ji15 := (i64_w _).trans hji15
         by_cases c16 : 0 ≤ (ji15)
         ·rw [if_pos c16] at H
          have c16b0 := eq_true c16
          have c16b1 : decide (0 ≤ (ji15)) = true := decide_eq_true c16
          clear c16
          by_cases c17 : (ji15) ≤ (l1.length : Int)
          ·rw [if_pos c17] at H
           have c17b0 := eq_true c17
           have c17b1 : decide ((ji15) ≤ (l1.length : Int)) = true := decide_eq_true c17
           clear c17
           obtain ⟨y573, hy573⟩ : ∃ y_ : List (S56), y_ = (l1.take ((ji15) : Int).toNat) := ⟨_, rfl⟩
           replace H : (spec_Truth.l1 k2 l1 x5_2 y570 (l1.length : Int) x21_2 y573 (y573.length : Int) 0 a0_0 l0_1) = some r := by first | (rw [hy573]; with_reducible exact H) | (have H2_ := (Option.bind_some _ _).symm.trans H; rw [hy573]; with_reducible exact H2_) | (have H2_ := (Option.bind_some _ _).symm.trans H; with_reducible exact H2_) | with_reducible exact H | (rw [hy573]; exact H) | exact H
           have Ny573 := Aside0.mk hy573
           clear hy573
           have H' := Aside0.mk H
           clear H
           have hcz18_0 : wr.cell? ⟨gb568, 0, none⟩ = some (.int .i64 a0_0) := (blk_cell BK568.out 0).trans rfl
           have hcz18_1 : wr.cell? ⟨gb568, 1, none⟩ = some (.slice A0_1 l0_1.length c0_1) := (blk_cell BK568.out 1).trans rfl
           have hfz18_0 := blk_frozen BK568.out 0
           have hfz18_1 := blk_frozen BK568.out 1
           go_wp2_with (first | ((with_reducible refine gate_dst (N := 26) rfl ?_); (try (refine gate_guard (by rfl) ?_; dsimp only)); refine Kd.R_make (Kd.int .i64) _ 3 rfl (N := 26) rfl 59 _ _ rfl a0_0 rfl rfl Try.underlying59 (.int .i64 0) 8 info3 rfl (by decide) (by omega) 0 (ok := fun _ => True) (okp := fun _ => True) rfl (fun _ hk => hk) trivial (of_decide_eq_true (by first | (with_reducible assumption) | assumption)) (Nat.le_trans (Nat.mul_le_mul_right _ (of_decide_eq_true (by first | (with_reducible assumption) | assumption) : a0_0.toNat ≤ 35184372088832)) (by omega)) (Below.refl _ _) (Nat.le_refl _) ?_; intro v571 w19 ho20 hb hg_ hnew_; clear hg_ hnew_; (first | rw [← Ny570.out] at ho20 | (simp only [Int.reduceToNat] at ho20; rw [← Ny570.out] at ho20)); have n0_ := Aside0.mk (Kd.S_elder' (by (with_reducible repeat (first | apply Kd.S_alloc | apply Kd.S_drewN | apply Kd.S_drew)); exact HO_5.out) (Kd.R_base ho20) hb); have n1_ := Aside0.mk (Kd.R_lower ho20 (below_size (by repeat (first | (with_reducible first | exact HB.out | apply below_alloc | apply pw_below_drewN | apply below_drew1 | refine below_set ?_ GE568.out) | exact HB.out)))); have n2_ := Aside0.mk (blk_below (g := gb568) (o := .cells #[.int .i64 a0_0, .slice A0_1 l0_1.length c0_1] 30 (0, 0)) (by (with_reducible repeat (first | refine blk_drewN ?_ _ | refine blk_drew ?_ | refine blk_alloc ?_ _)); exact BK568.out) hb); have n3_ := Aside0.mk (below_step (by repeat (first | (with_reducible first | exact HB.out | apply below_alloc | apply pw_below_drewN | apply below_drew1 | refine below_set ?_ GE568.out) | exact HB.out)) hb); clear HO_5; clear BK568; clear HB; have HO_5 := n0_; have HO572 := n1_; have BK568 := n2_; have HB := n3_; clear n0_ n1_ n2_ n3_; clear hb ho20; have q21 : ((ji15) : Int) ≤ ((l1.length : Int) : Int) := of_decide_eq_true (by first | (with_reducible assumption) | assumption); obtain ⟨i021, hi021, _, hsz21, _⟩ := info_parts info56; have hroom21 : l1.length ≤ c1 := HC1.out; have hC21 : Kd.C k56 _ A1 l1.length l1 := HR1.out; have hcut21 := cut_to (P := Try.prog) 35 56 .i64 Try.underlying35 hi021 A1 l1.length c1 (ji15) (of_decide_eq_true (by first | (with_reducible assumption) | assumption)) q21 hroom21; have hr21 := Kd.C_take (m := ((ji15) : Int).toNat) hC21 (by omega); have hy21 : y573.length = ((ji15) : Int).toNat := (by rw [Ny573.out, List.length_take]; omega); rw [← Ny573.out] at hr21; rw [← hy21] at hcut21; have HR576 := Aside0.mk hr21; have HC576 := Aside0.mk (show y573.length ≤ c1 from by omega); clear hr21 hC21 hroom21 hi021 hsz21; have KY21 := Aside0.mk hy21; clear hy21; replace q21 := eq_true q21))
           go_loopg [32] k2 (fun kq v32 w' => ∃ (x7_3 : List Int) (x32_3 : Int), v32 = .int .i64 x32_3 ∧ Aside0 (spec_Truth.l1 kq l1 x5_2 x7_3 (l1.length : Int) x21_2 y573 (y573.length : Int) x32_3 a0_0 l0_1 = some r) ∧ Aside0 (kq ≤ k2) ∧ Aside0 (Kd.S (Kd.slice 3 (Kd.int .i64)) 59 w' w.heap.size (fun k_ => some k_ ≠ (v571 : Value).ownBlock) u5 x5_2) ∧ Aside0 (Kd.R (Kd.int .i64) 3 w' w.heap.size (fun _ => True) v571 x7_3) ∧ Aside0 (w'.heap[gb568]? = some (.cells #[.int .i64 a0_0, (.slice A0_1 l0_1.length c0_1)] 30 (0, 0))) ∧ Aside0 (Below w.heap.size w w'))
           case atStart => exact ⟨(y570), (0), (by first | rfl | (simp; done) | (simp [*]; done)), H', ⟨Nat.le_refl _⟩, ⟨by (with_reducible repeat (first | apply Kd.S_alloc | apply Kd.S_drewN | apply Kd.S_drew)); exact Kd.S_mono HO_5.out (fun _ hk => hk.2)⟩, ⟨by (with_reducible repeat (first | apply Kd.R_alloc | apply Kd.R_drewN | apply Kd.R_drew)); exact HO572.out⟩, ⟨by (with_reducible repeat (first | refine blk_drewN ?_ _ | refine blk_drew ?_ | refine blk_alloc ?_ _)); exact BK568.out⟩, ⟨by repeat (first | (with_reducible first | exact HB.out | apply below_alloc | apply pw_below_drewN | apply below_drew1 | refine below_set ?_ GE568.out) | exact HB.out)⟩⟩
           case round =>
            clear H'
            try clear c1
            try clear c2
            try clear p2
            try clear q2
            try clear c5
            try clear c6
            try clear c6b0
            try clear c6b1
            try clear p6
            try clear c11
            try clear c12
            try clear c12b0
            try clear c13
            try clear c13b0
            try clear c13b1
            try clear c14
            try clear c14b0
            try clear c14b1
            try clear c16
            try clear c16b0
            try clear c16b1
            try clear c17
            try clear c17b0
            try clear c17b1
            try clear q21
            try clear hcz18_0
            try clear hcz18_1
            try clear hcz7_0
            try clear hcz7_1
            try clear hcz9_0
            try clear hcz9_1
            try clear hfz18_0
            try clear hfz18_1
            try clear hfz7_0
            try clear hfz7_1
            try clear hfz9_0
            try clear hfz9_1
            try clear p2
            try clear q21
            obtain ⟨x7_3, x32_3, rfl, HA, HK3, HO_5, HO_7, BK568, HB⟩ := hrel
            cases gk with
            | zero => exact absurd HA.out (by simp [spec_Truth.l1])
            | succ k3 =>
             have H := HA.out
             clear HA
             simp only [spec_Truth.l1] at H
             by_cases c22 : x32_3 < (y573.length : Int)
             ·rw [if_pos c22] at H
              have c22b0 : decide (x32_3 < (y573.length : Int)) = true := decide_eq_true c22
              clear c22
              by_cases c23 : 0 ≤ x32_3
              ·rw [if_pos c23] at H
               have c23b0 : decide (0 ≤ x32_3) = true := decide_eq_true c23
               clear c23
               by_cases c24 : x32_3 < (y573.length : Int)
               ·rw [if_pos c24] at H
                have c24b0 : decide (x32_3 < (y573.length : Int)) = true := decide_eq_true c24
                clear c24
                have HC25 := Aside0.mk H
                clear H
                have p580 : 0 ≤ (x32_3 : Int) := of_decide_eq_true (by first | (with_reducible assumption) | assumption)
                have q580 : x32_3 < (y573.length : Int) := of_decide_eq_true (by first | (with_reducible assumption) | assumption)
                obtain ⟨ad580, e580, hx580_0, hx580_1, hx580_2⟩ := at_T56 HR576.out x32_3 p580 q580
                cases e580
                replace hx580_0 := (HB.out.cell (World.block_lt_of_cell? w _ hx580_0)).trans hx580_0
                replace hx580_1 := (HB.out.cell (World.block_lt_of_cell? w _ hx580_1)).trans hx580_1
                replace hx580_2 := (HB.out.cell (World.block_lt_of_cell? w _ hx580_2)).trans hx580_2
                replace p580 := eq_true p580
                replace q580 := eq_true q580
                go_upto_region 11 with (first | ((with_reducible refine gate_dst (N := 9) rfl ?_); (try (refine gate_guard (by rfl) ?_; dsimp only)); refine box_event ?hg (N := 9) ?hd (cs := #[.int .i64 0, .int .i64 0, .int .i64 0]) (t := 56) ?hr ?_; (case hd => rfl); (case hg => rfl); (case hr => first | (go_simp; done) | (go_simp; rfl)); intro gb581 hg w26 hbox hb; have n0_ := Aside0.mk (Kd.S_below (by (with_reducible repeat (first | apply Kd.S_alloc | apply Kd.S_drewN | apply Kd.S_drew)); exact HO_5.out) hb); have n1_ := Aside0.mk (Kd.R_below (by (with_reducible repeat (first | apply Kd.R_alloc | apply Kd.R_drewN | apply Kd.R_drew)); exact HO_7.out) hb); have n2_ := Aside0.mk (blk_below (g := gb568) (o := .cells #[.int .i64 a0_0, .slice A0_1 l0_1.length c0_1] 30 (0, 0)) (by (with_reducible repeat (first | refine blk_drewN ?_ _ | refine blk_drew ?_ | refine blk_alloc ?_ _)); exact BK568.out) hb); have n3_ := Aside0.mk (below_step (by repeat (first | (with_reducible first | exact HB.out | apply below_alloc | apply pw_below_drewN | apply below_drew1 | refine below_set ?_ GE568.out) | exact HB.out)) hb); have n4_ := Aside0.mk (hbox); have n5_ := Aside0.mk ((by rw [hg]; exact (below_size (by repeat (first | (with_reducible first | exact HB.out | apply below_alloc | apply pw_below_drewN | apply below_drew1 | refine below_set ?_ GE568.out) | exact HB.out))) : w.heap.size ≤ gb581)); have n6_ := Aside0.mk ((by rw [hg]; exact (below_size (by repeat (first | (with_reducible first | exact HB.out | apply below_alloc | apply pw_below_drewN | apply below_drew1 | refine below_set ?_ GE568.out) | exact HB.out))) : w.heap.size ≤ gb581)); have n7_ := Aside0.mk ((by rw [hg]; exact Nat.ne_of_lt (blk_lt (g := gb568) (o := .cells #[.int .i64 a0_0, .slice A0_1 l0_1.length c0_1] 30 (0, 0)) (by (with_reducible repeat (first | refine blk_drewN ?_ _ | refine blk_drew ?_ | refine blk_alloc ?_ _)); exact BK568.out)) : gb568 ≠ gb581)); have n8_ := Aside0.mk ((by rw [hg]; exact Nat.ne_of_gt (blk_lt (g := gb568) (o := .cells #[.int .i64 a0_0, .slice A0_1 l0_1.length c0_1] 30 (0, 0)) (by (with_reducible repeat (first | refine blk_drewN ?_ _ | refine blk_drew ?_ | refine blk_alloc ?_ _)); exact BK568.out)) : gb581 ≠ gb568)); clear HO_5; clear HO_7; clear BK568; clear HB; have HO_5 := n0_; have HO_7 := n1_; have BK568 := n2_; have HB := n3_; have BK581 := n4_; have GW581 := n5_; have GE581 := n6_; have NB568_581 := n7_; have NB581_568 := n8_; clear n0_ n1_ n2_ n3_ n4_ n5_ n6_ n7_ n8_; clear hb hbox hg; have hnb27 := NB581_568.out; have hnc27 := NB568_581.out; have hcz28_0 : w26.cell? ⟨gb581, 0, none⟩ = some (.int .i64 0) := (blk_cell BK581.out 0).trans rfl; have hcz28_1 : w26.cell? ⟨gb581, 1, none⟩ = some (.int .i64 0) := (blk_cell BK581.out 1).trans rfl; have hcz28_2 : w26.cell? ⟨gb581, 2, none⟩ = some (.int .i64 0) := (blk_cell BK581.out 2).trans rfl; have hfz28_0 := blk_frozen BK581.out 0; have hfz28_1 := blk_frozen BK581.out 1; have hfz28_2 := blk_frozen BK581.out 2))
                (try simp only [Act.put, List.setIfInBounds_toArray, List.set_cons_zero, List.set_cons_succ])
                go_cut [44] (fun v44 wc => ∃ (kq : Nat) (x44_24 : Bool), v44 = .bool x44_24 ∧ Aside0 (spec_Truth.j3 kq l1 x5_2 x7_3 (l1.length : Int) x21_2 y573 (y573.length : Int) x32_3 x44_24 a0_0 l0_1 ((rd_T56 y573 x32_3).f0) ((rd_T56 y573 x32_3).f1) ((rd_T56 y573 x32_3).f2) = some r) ∧ Aside0 (kq ≤ k3) ∧ Aside0 (Kd.S (Kd.slice 3 (Kd.int .i64)) 59 wc w.heap.size (fun k_ => some k_ ≠ (v571 : Value).ownBlock) u5 x5_2) ∧ Aside0 (Kd.R (Kd.int .i64) 3 wc w.heap.size (fun _ => True) v571 x7_3) ∧ Aside0 (wc.heap[gb568]? = some (.cells #[.int .i64 a0_0, (.slice A0_1 l0_1.length c0_1)] 30 (0, 0))) ∧ Aside0 (wc.heap[gb581]? = some (.cells #[.int .i64 ((rd_T56 y573 x32_3).f0), .int .i64 ((rd_T56 y573 x32_3).f1), .int .i64 ((rd_T56 y573 x32_3).f2)] 56 (0, 0))) ∧ Aside0 (Below w.heap.size w wc))
                case first =>
                 have H := HC25.out
                 clear HC25
                 by_cases c29 : ((rd_T56 y573 x32_3).f0) = 1
                 ·rw [if_pos c29] at H
                  have c29b0 : (((rd_T56 y573 x32_3).f0) == 1) = true := beq_iff_eq.mpr c29
                  have c29b1 : (((rd_T56 y573 x32_3).f0) != 1) = false := bne_eq_false_iff_eq.mpr c29
                  clear c29
                  (first | rw [c29b0] | (simp only [i64_w, i32_w]; rw [c29b0]) | skip)
                  replace H := Option.bind_eq_some_iff.mp H
                  obtain ⟨t582, A300, H⟩ := H
                  replace H : (spec_Truth.j3 k3 l1 x5_2 x7_3 (l1.length : Int) x21_2 y573 (y573.length : Int) x32_3 (!t582) a0_0 l0_1 ((rd_T56 y573 x32_3).f0) ((rd_T56 y573 x32_3).f1) ((rd_T56 y573 x32_3).f2)) = some r := H
                  have A30 := Aside0.mk A300
                  clear A300
                  have H' := Aside0.mk H
                  clear H
                  have hnb31 := NB581_568.out
                  have hnc31 := NB568_581.out
                  have hcz32_0 : w26.cell? ⟨gb581, 0, none⟩ = some (.int .i64 0) := (blk_cell BK581.out 0).trans rfl
                  have hcz32_1 : w26.cell? ⟨gb581, 1, none⟩ = some (.int .i64 0) := (blk_cell BK581.out 1).trans rfl
                  have hcz32_2 : w26.cell? ⟨gb581, 2, none⟩ = some (.int .i64 0) := (blk_cell BK581.out 2).trans rfl
                  have hfz32_0 := blk_frozen BK581.out 0
                  have hfz32_1 := blk_frozen BK581.out 1
                  have hfz32_2 := blk_frozen BK581.out 2
                  have hcz33_0 : w26.cell? ⟨gb568, 0, none⟩ = some (.int .i64 a0_0) := (blk_cell BK568.out 0).trans rfl
                  have hcz33_1 : w26.cell? ⟨gb568, 1, none⟩ = some (.slice A0_1 l0_1.length c0_1) := (blk_cell BK568.out 1).trans rfl
                  have hfz33_0 := blk_frozen BK568.out 0
                  have hfz33_1 := blk_frozen BK568.out 1
                  go_wp2_with (first | (go_at_call 34; (with_reducible refine (spec_EventOk.calls k3 a0_0 _ _ l0_1 ((rd_T56 y573 x32_3).f0) ((rd_T56 y573 x32_3).f1) ((rd_T56 y573 x32_3).f2) t582 _ ?side1 ?side2 A30.out).mono ?_); (case side1 => exact Kd.C_below HR0_1.out (by repeat (first | (with_reducible first | exact HB.out | apply below_alloc | apply pw_below_drewN | apply below_drew1 | refine below_set ?_ GE568.out | refine below_set ?_ GE581.out) | exact HB.out))); (case side2 => exact HC0_1.out); rintro e w34 ⟨rfl, hb⟩; have n0_ := Aside0.mk (Kd.S_below (by (with_reducible repeat (first | apply Kd.S_alloc | apply Kd.S_drewN | apply Kd.S_drew)); exact (Kd.S_mono (Kd.S_far (p := ⟨gb581, 2, none⟩) (Kd.S_far (p := ⟨gb581, 1, none⟩) (Kd.S_far (p := ⟨gb581, 0, none⟩) (Kd.S_types HO_5.out BK581.out (by decide)) (fun _ hk => hk.2) (.int .i64 ((rd_T56 y573 x32_3).f0))) (fun _ hk => hk.2) (.int .i64 ((rd_T56 y573 x32_3).f1))) (fun _ hk => hk.2) (.int .i64 ((rd_T56 y573 x32_3).f2))) (fun _ h_ => h_.1))) hb); have n1_ := Aside0.mk (Kd.R_below (by (with_reducible repeat (first | apply Kd.R_alloc | apply Kd.R_drewN | apply Kd.R_drew)); exact (Kd.R_mono (Kd.R_far (p := ⟨gb581, 2, none⟩) (Kd.R_far (p := ⟨gb581, 1, none⟩) (Kd.R_far (p := ⟨gb581, 0, none⟩) (Kd.R_types HO_7.out BK581.out (by decide)) (fun _ hk => hk.2) (.int .i64 ((rd_T56 y573 x32_3).f0))) (fun _ hk => hk.2) (.int .i64 ((rd_T56 y573 x32_3).f1))) (fun _ hk => hk.2) (.int .i64 ((rd_T56 y573 x32_3).f2))) (fun _ h_ => h_.1))) hb); have n2_ := Aside0.mk (blk_below (g := gb568) (o := .cells #[.int .i64 a0_0, .slice A0_1 l0_1.length c0_1] 30 (0, 0)) (by (with_reducible repeat (first | refine blk_drewN ?_ _ | refine blk_drew ?_ | refine blk_alloc ?_ _)); refine blk_far ?_ NB568_581.out _; (with_reducible repeat (first | refine blk_drewN ?_ _ | refine blk_drew ?_ | refine blk_alloc ?_ _)); refine blk_far ?_ NB568_581.out _; (with_reducible repeat (first | refine blk_drewN ?_ _ | refine blk_drew ?_ | refine blk_alloc ?_ _)); refine blk_far ?_ NB568_581.out _; (with_reducible repeat (first | refine blk_drewN ?_ _ | refine blk_drew ?_ | refine blk_alloc ?_ _)); exact BK568.out) hb); have n3_ := Aside0.mk (blk_below (g := gb581) (o := .cells #[.int .i64 ((rd_T56 y573 x32_3).f0), .int .i64 ((rd_T56 y573 x32_3).f1), .int .i64 ((rd_T56 y573 x32_3).f2)] 56 (0, 0)) (by (with_reducible repeat (first | refine blk_drewN ?_ _ | refine blk_drew ?_ | refine blk_alloc ?_ _)); refine blk_put (cs := #[.int .i64 ((rd_T56 y573 x32_3).f0), .int .i64 ((rd_T56 y573 x32_3).f1), .int .i64 0]) ?_ 2 _ rfl; (with_reducible repeat (first | refine blk_drewN ?_ _ | refine blk_drew ?_ | refine blk_alloc ?_ _)); refine blk_put (cs := #[.int .i64 ((rd_T56 y573 x32_3).f0), .int .i64 0, .int .i64 0]) ?_ 1 _ rfl; (with_reducible repeat (first | refine blk_drewN ?_ _ | refine blk_drew ?_ | refine blk_alloc ?_ _)); refine blk_put (cs := #[.int .i64 0, .int .i64 0, .int .i64 0]) ?_ 0 _ rfl; (with_reducible repeat (first | refine blk_drewN ?_ _ | refine blk_drew ?_ | refine blk_alloc ?_ _)); exact BK581.out) hb); have n4_ := Aside0.mk (below_step (by repeat (first | (with_reducible first | exact HB.out | apply below_alloc | apply pw_below_drewN | apply below_drew1 | refine below_set ?_ GE568.out | refine below_set ?_ GE581.out) | exact HB.out)) hb); clear HO_5; clear HO_7; clear BK568; clear BK581; clear HB; have HO_5 := n0_; have HO_7 := n1_; have BK568 := n2_; have BK581 := n3_; have HB := n4_; clear n0_ n1_ n2_ n3_ n4_; (try clear hb); (try clear hb2); (try clear hk); (try clear hi)))
                  go_meet
                  case rel => exact ⟨_, (!t582), (by first | rfl | (simp; done) | (simp [*]; done)), H', ⟨by have := HJ2.out; have := HK2.out; have := HK3.out; first | omega | exact Nat.le_refl _⟩, ⟨by (with_reducible repeat (first | apply Kd.S_alloc | apply Kd.S_drewN | apply Kd.S_drew)); exact HO_5.out⟩, ⟨by (with_reducible repeat (first | apply Kd.R_alloc | apply Kd.R_drewN | apply Kd.R_drew)); exact HO_7.out⟩, ⟨by (with_reducible repeat (first | refine blk_drewN ?_ _ | refine blk_drew ?_ | refine blk_alloc ?_ _)); exact BK568.out⟩, ⟨by (with_reducible repeat (first | refine blk_drewN ?_ _ | refine blk_drew ?_ | refine blk_alloc ?_ _)); exact BK581.out⟩, ⟨by repeat (first | (with_reducible first | exact HB.out | apply below_alloc | apply pw_below_drewN | apply below_drew1 | refine below_set ?_ GE568.out | refine below_set ?_ GE581.out) | exact HB.out)⟩⟩
                 ·rw [if_neg c29] at H
                  have c29b0 : (((rd_T56 y573 x32_3).f0) == 1) = false := beq_eq_false_iff_ne.mpr c29
                  have c29b1 : (((rd_T56 y573 x32_3).f0) != 1) = true := bne_iff_ne.mpr c29
                  (first | rw [c29b0] | (simp only [i64_w, i32_w]; rw [c29b0]) | skip)
                  have H' := Aside0.mk H
                  clear H
                  have hnb35 := NB581_568.out
                  have hnc35 := NB568_581.out
                  have hcz36_0 : w26.cell? ⟨gb581, 0, none⟩ = some (.int .i64 0) := (blk_cell BK581.out 0).trans rfl
                  have hcz36_1 : w26.cell? ⟨gb581, 1, none⟩ = some (.int .i64 0) := (blk_cell BK581.out 1).trans rfl
                  have hcz36_2 : w26.cell? ⟨gb581, 2, none⟩ = some (.int .i64 0) := (blk_cell BK581.out 2).trans rfl
                  have hfz36_0 := blk_frozen BK581.out 0
                  have hfz36_1 := blk_frozen BK581.out 1
                  have hfz36_2 := blk_frozen BK581.out 2
                  go_wp2
                  go_meet
                  case rel => exact ⟨_, (true), (by first | rfl | (simp; done) | (simp [*]; done)), H', ⟨by have := HJ2.out; have := HK2.out; have := HK3.out; first | omega | exact Nat.le_refl _⟩, ⟨by (with_reducible repeat (first | apply Kd.S_alloc | apply Kd.S_drewN | apply Kd.S_drew)); exact Kd.S_mono (Kd.S_far (p := ⟨gb581, 2, none⟩) (Kd.S_far (p := ⟨gb581, 1, none⟩) (Kd.S_far (p := ⟨gb581, 0, none⟩) (Kd.S_types HO_5.out BK581.out (by decide)) (fun _ hk => hk.2) (.int .i64 ((rd_T56 y573 x32_3).f0))) (fun _ hk => hk.2) (.int .i64 ((rd_T56 y573 x32_3).f1))) (fun _ hk => hk.2) (.int .i64 ((rd_T56 y573 x32_3).f2))) (fun _ hk => hk.1)⟩, ⟨by (with_reducible repeat (first | apply Kd.R_alloc | apply Kd.R_drewN | apply Kd.R_drew)); exact Kd.R_mono (Kd.R_far (p := ⟨gb581, 2, none⟩) (Kd.R_far (p := ⟨gb581, 1, none⟩) (Kd.R_far (p := ⟨gb581, 0, none⟩) (Kd.R_types HO_7.out BK581.out (by decide)) (fun _ hk => hk.2) (.int .i64 ((rd_T56 y573 x32_3).f0))) (fun _ hk => hk.2) (.int .i64 ((rd_T56 y573 x32_3).f1))) (fun _ hk => hk.2) (.int .i64 ((rd_T56 y573 x32_3).f2))) (fun _ hk => trivial)⟩, ⟨by (with_reducible repeat (first | refine blk_drewN ?_ _ | refine blk_drew ?_ | refine blk_alloc ?_ _)); refine blk_far ?_ NB568_581.out _; (with_reducible repeat (first | refine blk_drewN ?_ _ | refine blk_drew ?_ | refine blk_alloc ?_ _)); refine blk_far ?_ NB568_581.out _; (with_reducible repeat (first | refine blk_drewN ?_ _ | refine blk_drew ?_ | refine blk_alloc ?_ _)); refine blk_far ?_ NB568_581.out _; (with_reducible repeat (first | refine blk_drewN ?_ _ | refine blk_drew ?_ | refine blk_alloc ?_ _)); exact BK568.out⟩, ⟨by (with_reducible repeat (first | refine blk_drewN ?_ _ | refine blk_drew ?_ | refine blk_alloc ?_ _)); refine blk_put (cs := #[.int .i64 ((rd_T56 y573 x32_3).f0), .int .i64 ((rd_T56 y573 x32_3).f1), .int .i64 0]) ?_ 2 _ rfl; (with_reducible repeat (first | refine blk_drewN ?_ _ | refine blk_drew ?_ | refine blk_alloc ?_ _)); refine blk_put (cs := #[.int .i64 ((rd_T56 y573 x32_3).f0), .int .i64 0, .int .i64 0]) ?_ 1 _ rfl; (with_reducible repeat (first | refine blk_drewN ?_ _ | refine blk_drew ?_ | refine blk_alloc ?_ _)); refine blk_put (cs := #[.int .i64 0, .int .i64 0, .int .i64 0]) ?_ 0 _ rfl; (with_reducible repeat (first | refine blk_drewN ?_ _ | refine blk_drew ?_ | refine blk_alloc ?_ _)); exact BK581.out⟩, ⟨by repeat (first | (with_reducible first | exact HB.out | apply below_alloc | apply pw_below_drewN | apply below_drew1 | refine below_set ?_ GE568.out | refine below_set ?_ GE581.out) | exact HB.out)⟩⟩
                case rest =>
                 clear HC25
                 try clear c1
                 try clear c2
                 try clear p2
                 try clear q2
                 try clear c3
                 try clear c5
                 try clear p5
                 try clear q5
                 try clear hx5
                 try clear c6
                 try clear c6b0
                 try clear c6b1
                 try clear p6
                 try clear c11
                 try clear c12
                 try clear c12b0
                 try clear c13
                 try clear c13b0
                 try clear c13b1
                 try clear c14
                 try clear c14b0
                 try clear c14b1
                 try clear c16
                 try clear c16b0
                 try clear c16b1
                 try clear c17
                 try clear c17b0
                 try clear c17b1
                 try clear q21
                 try clear c22
                 try clear c22b0
                 try clear c23
                 try clear c23b0
                 try clear c24
                 try clear c24b0
                 try clear c27
                 try clear c29
                 try clear c29b0
                 try clear c29b1
                 try clear c31
                 try clear c35
                 try clear hcz18_0
                 try clear hcz18_1
                 try clear hcz28_0
                 try clear hcz28_1
                 try clear hcz28_2
                 try clear hcz32_0
                 try clear hcz32_1
                 try clear hcz32_2
                 try clear hcz33_0
                 try clear hcz33_1
                 try clear hcz36_0
                 try clear hcz36_1
                 try clear hcz36_2
                 try clear hcz7_0
                 try clear hcz7_1
                 try clear hcz9_0
                 try clear hcz9_1
                 try clear hfz18_0
                 try clear hfz18_1
                 try clear hfz28_0
                 try clear hfz28_1
                 try clear hfz28_2
                 try clear hfz32_0
                 try clear hfz32_1
                 try clear hfz32_2
                 try clear hfz33_0
                 try clear hfz33_1
                 try clear hfz36_0
                 try clear hfz36_1
                 try clear hfz36_2
                 try clear hfz7_0
                 try clear hfz7_1
                 try clear hfz9_0
                 try clear hfz9_1
                 try clear hx580_0
                 try clear hx580_1
                 try clear hx580_2
                 try clear p2
                 try clear p580
                 try clear p6
                 try clear q2
                 try clear q21
                 try clear q580
                 obtain ⟨kq, x44_24, rfl, HA, HJ24, HO_5, HO_7, BK568, BK581, HB⟩ := hcut
                 cases kq with
                 | zero => exact absurd HA.out (by simp [spec_Truth.j3])
                 | succ kj24 =>
                  have H := HA.out
                  clear HA
                  simp only [spec_Truth.j3] at H
                  by_cases c37 : x44_24 = true
                  ·subst c37
                   have H1 : (spec_Truth.l1 kj24 l1 x5_2 x7_3 (l1.length : Int) x21_2 y573 (y573.length : Int) (wrap64 (x32_3 + 1)) a0_0 l0_1) = some r := by rw [if_pos rfl] at H; exact H
                   clear H
                   have H := H1
                   clear H1
                   have H' := Aside0.mk H
                   clear H
                   go_wp2
                   go_roundg kj24
                   case measure => have := HJ2.out; have := HK2.out; have := HK3.out; have := HJ24.out; omega
                   case rel => exact ⟨(x7_3), (wrap64 (x32_3 + 1)), (by first | rfl | (simp; done) | (simp [*]; done)), H', ⟨by have := HJ2.out; have := HK2.out; have := HK3.out; have := HJ24.out; omega⟩, ⟨by (with_reducible repeat (first | apply Kd.S_alloc | apply Kd.S_drewN | apply Kd.S_drew)); exact HO_5.out⟩, ⟨by (with_reducible repeat (first | apply Kd.R_alloc | apply Kd.R_drewN | apply Kd.R_drew)); exact HO_7.out⟩, ⟨by (with_reducible repeat (first | refine blk_drewN ?_ _ | refine blk_drew ?_ | refine blk_alloc ?_ _)); exact BK568.out⟩, ⟨by repeat (first | (with_reducible first | exact HB.out | apply below_alloc | apply pw_below_drewN | apply below_drew1 | refine below_set ?_ GE568.out | refine below_set ?_ GE581.out) | exact HB.out)⟩⟩
                  ·replace c37 := Bool.eq_false_iff.mpr c37
                   subst c37
                   have H1 : (if 0 ≤ ((rd_T56 y573 x32_3).f1) then (if ((rd_T56 y573 x32_3).f1) < (l0_1.length : Int) then (if ((rd_T88 l0_1 ((rd_T56 y573 x32_3).f1)).f0) ≥ 0 then (if 0 ≤ ((rd_T88 l0_1 ((rd_T56 y573 x32_3).f1)).f0) then (if ((rd_T88 l0_1 ((rd_T56 y573 x32_3).f1)).f0) < (x7_3.length : Int) then ((some (x7_3.set (((rd_T88 l0_1 ((rd_T56 y573 x32_3).f1)).f0) : Int).toNat (wrap64 ((rd x7_3 ((rd_T88 l0_1 ((rd_T56 y573 x32_3).f1)).f0)) - ((rd_T56 y573 x32_3).f2))) : List Int)).bind fun y586 => (if ((rd_T88 l0_1 ((rd_T56 y573 x32_3).f1)).f1) ≥ 0 then (if 0 ≤ ((rd_T88 l0_1 ((rd_T56 y573 x32_3).f1)).f1) then (if ((rd_T88 l0_1 ((rd_T56 y573 x32_3).f1)).f1) < (x7_3.length : Int) then (spec_Truth.l1 kj24 l1 x5_2 (y586.set (((rd_T88 l0_1 ((rd_T56 y573 x32_3).f1)).f1) : Int).toNat (wrap64 ((rd y586 ((rd_T88 l0_1 ((rd_T56 y573 x32_3).f1)).f1)) + ((rd_T56 y573 x32_3).f2)))) (l1.length : Int) x21_2 y573 (y573.length : Int) (wrap64 (x32_3 + 1)) a0_0 l0_1) else (none)) else (none)) else (spec_Truth.l1 kj24 l1 x5_2 y586 (l1.length : Int) x21_2 y573 (y573.length : Int) (wrap64 (x32_3 + 1)) a0_0 l0_1))) else (none)) else (none)) else (if ((rd_T88 l0_1 ((rd_T56 y573 x32_3).f1)).f1) ≥ 0 then (if 0 ≤ ((rd_T88 l0_1 ((rd_T56 y573 x32_3).f1)).f1) then (if ((rd_T88 l0_1 ((rd_T56 y573 x32_3).f1)).f1) < (x7_3.length : Int) then (spec_Truth.l1 kj24 l1 x5_2 (x7_3.set (((rd_T88 l0_1 ((rd_T56 y573 x32_3).f1)).f1) : Int).toNat (wrap64 ((rd x7_3 ((rd_T88 l0_1 ((rd_T56 y573 x32_3).f1)).f1)) + ((rd_T56 y573 x32_3).f2)))) (l1.length : Int) x21_2 y573 (y573.length : Int) (wrap64 (x32_3 + 1)) a0_0 l0_1) else (none)) else (none)) else (spec_Truth.l1 kj24 l1 x5_2 x7_3 (l1.length : Int) x21_2 y573 (y573.length : Int) (wrap64 (x32_3 + 1)) a0_0 l0_1))) else (none)) else (none)) = some r := by rw [if_neg (show ¬ (false = true) by decide)] at H; exact H
                   clear H
                   have H := H1
                   clear H1
                   by_cases c38 : 0 ≤ ((rd_T56 y573 x32_3).f1)
                   ·rw [if_pos c38] at H
                    have c38b0 : decide (0 ≤ ((rd_T56 y573 x32_3).f1)) = true := decide_eq_true c38
                    clear c38
                    by_cases c39 : ((rd_T56 y573 x32_3).f1) < (l0_1.length : Int)
                    ·rw [if_pos c39] at H
                     have c39b0 : decide (((rd_T56 y573 x32_3).f1) < (l0_1.length : Int)) = true := decide_eq_true c39
                     clear c39
                     by_cases c40 : ((rd_T88 l0_1 ((rd_T56 y573 x32_3).f1)).f0) ≥ 0
                     ·rw [if_pos c40] at H
                      have c40b0 : decide (0 ≤ ((rd_T88 l0_1 ((rd_T56 y573 x32_3).f1)).f0)) = true := decide_eq_true c40
                      clear c40
                      by_cases c41 : 0 ≤ ((rd_T88 l0_1 ((rd_T56 y573 x32_3).f1)).f0)
                      ·rw [if_pos c41] at H
                       have c41b0 : decide (0 ≤ ((rd_T88 l0_1 ((rd_T56 y573 x32_3).f1)).f0)) = true := decide_eq_true c41
                       clear c41
                       by_cases c42 : ((rd_T88 l0_1 ((rd_T56 y573 x32_3).f1)).f0) < (x7_3.length : Int)
                       ·rw [if_pos c42] at H
                        have c42b0 : decide (((rd_T88 l0_1 ((rd_T56 y573 x32_3).f1)).f0) < (x7_3.length : Int)) = true := decide_eq_true c42
                        clear c42
                        obtain ⟨y586, hy586⟩ : ∃ y_ : List Int, y_ = (x7_3.set (((rd_T88 l0_1 ((rd_T56 y573 x32_3).f1)).f0) : Int).toNat (wrap64 ((rd x7_3 ((rd_T88 l0_1 ((rd_T56 y573 x32_3).f1)).f0)) - ((rd_T56 y573 x32_3).f2)))) := ⟨_, rfl⟩
                        replace H : (if ((rd_T88 l0_1 ((rd_T56 y573 x32_3).f1)).f1) ≥ 0 then (if 0 ≤ ((rd_T88 l0_1 ((rd_T56 y573 x32_3).f1)).f1) then (if ((rd_T88 l0_1 ((rd_T56 y573 x32_3).f1)).f1) < (x7_3.length : Int) then (spec_Truth.l1 kj24 l1 x5_2 (y586.set (((rd_T88 l0_1 ((rd_T56 y573 x32_3).f1)).f1) : Int).toNat (wrap64 ((rd y586 ((rd_T88 l0_1 ((rd_T56 y573 x32_3).f1)).f1)) + ((rd_T56 y573 x32_3).f2)))) (l1.length : Int) x21_2 y573 (y573.length : Int) (wrap64 (x32_3 + 1)) a0_0 l0_1) else (none)) else (none)) else (spec_Truth.l1 kj24 l1 x5_2 y586 (l1.length : Int) x21_2 y573 (y573.length : Int) (wrap64 (x32_3 + 1)) a0_0 l0_1)) = some r := by first | (rw [hy586]; with_reducible exact H) | (have H2_ := (Option.bind_some _ _).symm.trans H; rw [hy586]; with_reducible exact H2_) | (have H2_ := (Option.bind_some _ _).symm.trans H; with_reducible exact H2_) | with_reducible exact H | (rw [hy586]; exact H) | exact H
                        have Ny586 := Aside0.mk hy586
                        clear hy586
                        by_cases c44 : ((rd_T88 l0_1 ((rd_T56 y573 x32_3).f1)).f1) ≥ 0
                        ·rw [if_pos c44] at H
                         have c44b0 : decide (0 ≤ ((rd_T88 l0_1 ((rd_T56 y573 x32_3).f1)).f1)) = true := decide_eq_true c44
                         clear c44
                         by_cases c45 : 0 ≤ ((rd_T88 l0_1 ((rd_T56 y573 x32_3).f1)).f1)
                         ·rw [if_pos c45] at H
                          have c45b0 : decide (0 ≤ ((rd_T88 l0_1 ((rd_T56 y573 x32_3).f1)).f1)) = true := decide_eq_true c45
                          clear c45
                          by_cases c46 : ((rd_T88 l0_1 ((rd_T56 y573 x32_3).f1)).f1) < (x7_3.length : Int)
                          ·rw [if_pos c46] at H
                           have c46b0 : decide (((rd_T88 l0_1 ((rd_T56 y573 x32_3).f1)).f1) < (x7_3.length : Int)) = true := decide_eq_true c46
                           clear c46
                           obtain ⟨y588, hy588⟩ : ∃ y_ : List Int, y_ = (y586.set (((rd_T88 l0_1 ((rd_T56 y573 x32_3).f1)).f1) : Int).toNat (wrap64 ((rd y586 ((rd_T88 l0_1 ((rd_T56 y573 x32_3).f1)).f1)) + ((rd_T56 y573 x32_3).f2)))) := ⟨_, rfl⟩
                           replace H : (spec_Truth.l1 kj24 l1 x5_2 y588 (l1.length : Int) x21_2 y573 (y573.length : Int) (wrap64 (x32_3 + 1)) a0_0 l0_1) = some r := by first | (rw [hy588]; with_reducible exact H) | (have H2_ := (Option.bind_some _ _).symm.trans H; rw [hy588]; with_reducible exact H2_) | (have H2_ := (Option.bind_some _ _).symm.trans H; with_reducible exact H2_) | with_reducible exact H | (rw [hy588]; exact H) | exact H
                           have Ny588 := Aside0.mk hy588
                           clear hy588
                           have H' := Aside0.mk H
                           clear H
                           have hnb48 := NB568_581.out
                           have hnc48 := NB581_568.out
                           have hcz49_0 : wc.cell? ⟨gb568, 0, none⟩ = some (.int .i64 a0_0) := (blk_cell BK568.out 0).trans rfl
                           have hcz49_1 : wc.cell? ⟨gb568, 1, none⟩ = some (.slice A0_1 l0_1.length c0_1) := (blk_cell BK568.out 1).trans rfl
                           have hfz49_0 := blk_frozen BK568.out 0
                           have hfz49_1 := blk_frozen BK568.out 1
                           have hcz50_0 : wc.cell? ⟨gb581, 0, none⟩ = some (.int .i64 ((rd_T56 y573 x32_3).f0)) := (blk_cell BK581.out 0).trans rfl
                           have hcz50_1 : wc.cell? ⟨gb581, 1, none⟩ = some (.int .i64 ((rd_T56 y573 x32_3).f1)) := (blk_cell BK581.out 1).trans rfl
                           have hcz50_2 : wc.cell? ⟨gb581, 2, none⟩ = some (.int .i64 ((rd_T56 y573 x32_3).f2)) := (blk_cell BK581.out 2).trans rfl
                           have hfz50_0 := blk_frozen BK581.out 0
                           have hfz50_1 := blk_frozen BK581.out 1
                           have hfz50_2 := blk_frozen BK581.out 2
                           have p583 : 0 ≤ (((rd_T56 y573 x32_3).f1) : Int) := of_decide_eq_true (by first | (with_reducible assumption) | assumption)
                           have q583 : ((rd_T56 y573 x32_3).f1) < (l0_1.length : Int) := of_decide_eq_true (by first | (with_reducible assumption) | assumption)
                           obtain ⟨ad583, e583, hx583_0, hx583_1⟩ := at_T88 HR0_1.out ((rd_T56 y573 x32_3).f1) p583 q583
                           cases e583
                           replace hx583_0 := (HB.out.cell (World.block_lt_of_cell? w _ hx583_0)).trans hx583_0
                           replace hx583_1 := (HB.out.cell (World.block_lt_of_cell? w _ hx583_1)).trans hx583_1
                           replace p583 := eq_true p583
                           replace q583 := eq_true q583
                           try go_wp2_with (first | ((with_reducible refine gate_dst (N := 10) rfl ?_); (try (refine gate_guard (by rfl) ?_; dsimp only)); refine box_event ?hg (N := 10) ?hd (cs := #[.int .i64 0, .int .i64 0]) (t := 88) ?hr ?_; (case hd => rfl); (case hg => rfl); (case hr => first | (go_simp; done) | (go_simp; rfl)); intro gb584 hg w51 hbox hb; have n0_ := Aside0.mk (Kd.S_below (by (with_reducible repeat (first | apply Kd.S_alloc | apply Kd.S_drewN | apply Kd.S_drew)); exact HO_5.out) hb); have n1_ := Aside0.mk (Kd.R_below (by (with_reducible repeat (first | apply Kd.R_alloc | apply Kd.R_drewN | apply Kd.R_drew)); exact HO_7.out) hb); have n2_ := Aside0.mk (blk_below (g := gb568) (o := .cells #[.int .i64 a0_0, .slice (some ad583) l0_1.length c0_1] 30 (0, 0)) (by (with_reducible repeat (first | refine blk_drewN ?_ _ | refine blk_drew ?_ | refine blk_alloc ?_ _)); exact BK568.out) hb); have n3_ := Aside0.mk (blk_below (g := gb581) (o := .cells #[.int .i64 ((rd_T56 y573 x32_3).f0), .int .i64 ((rd_T56 y573 x32_3).f1), .int .i64 ((rd_T56 y573 x32_3).f2)] 56 (0, 0)) (by (with_reducible repeat (first | refine blk_drewN ?_ _ | refine blk_drew ?_ | refine blk_alloc ?_ _)); exact BK581.out) hb); have n4_ := Aside0.mk (below_step (by repeat (first | (with_reducible first | exact HB.out | apply below_alloc | apply pw_below_drewN | apply below_drew1 | refine below_set ?_ GE568.out | refine below_set ?_ GE581.out) | exact HB.out)) hb); have n5_ := Aside0.mk (hbox); have n6_ := Aside0.mk ((by rw [hg]; exact (below_size (by repeat (first | (with_reducible first | exact HB.out | apply below_alloc | apply pw_below_drewN | apply below_drew1 | refine below_set ?_ GE568.out | refine below_set ?_ GE581.out) | exact HB.out))) : w.heap.size ≤ gb584)); have n7_ := Aside0.mk ((by rw [hg]; exact (below_size (by repeat (first | (with_reducible first | exact HB.out | apply below_alloc | apply pw_below_drewN | apply below_drew1 | refine below_set ?_ GE568.out | refine below_set ?_ GE581.out) | exact HB.out))) : w.heap.size ≤ gb584)); have n8_ := Aside0.mk ((by rw [hg]; exact Nat.ne_of_lt (blk_lt (g := gb568) (o := .cells #[.int .i64 a0_0, .slice (some ad583) l0_1.length c0_1] 30 (0, 0)) (by (with_reducible repeat (first | refine blk_drewN ?_ _ | refine blk_drew ?_ | refine blk_alloc ?_ _)); exact BK568.out)) : gb568 ≠ gb584)); have n9_ := Aside0.mk ((by rw [hg]; exact Nat.ne_of_gt (blk_lt (g := gb568) (o := .cells #[.int .i64 a0_0, .slice (some ad583) l0_1.length c0_1] 30 (0, 0)) (by (with_reducible repeat (first | refine blk_drewN ?_ _ | refine blk_drew ?_ | refine blk_alloc ?_ _)); exact BK568.out)) : gb584 ≠ gb568)); have n10_ := Aside0.mk ((by rw [hg]; exact Nat.ne_of_lt (blk_lt (g := gb581) (o := .cells #[.int .i64 ((rd_T56 y573 x32_3).f0), .int .i64 ((rd_T56 y573 x32_3).f1), .int .i64 ((rd_T56 y573 x32_3).f2)] 56 (0, 0)) (by (with_reducible repeat (first | refine blk_drewN ?_ _ | refine blk_drew ?_ | refine blk_alloc ?_ _)); exact BK581.out)) : gb581 ≠ gb584)); have n11_ := Aside0.mk ((by rw [hg]; exact Nat.ne_of_gt (blk_lt (g := gb581) (o := .cells #[.int .i64 ((rd_T56 y573 x32_3).f0), .int .i64 ((rd_T56 y573 x32_3).f1), .int .i64 ((rd_T56 y573 x32_3).f2)] 56 (0, 0)) (by (with_reducible repeat (first | refine blk_drewN ?_ _ | refine blk_drew ?_ | refine blk_alloc ?_ _)); exact BK581.out)) : gb584 ≠ gb581)); clear HO_5; clear HO_7; clear BK568; clear BK581; clear HB; have HO_5 := n0_; have HO_7 := n1_; have BK568 := n2_; have BK581 := n3_; have HB := n4_; have BK584 := n5_; have GW584 := n6_; have GE584 := n7_; have NB568_584 := n8_; have NB584_568 := n9_; have NB581_584 := n10_; have NB584_581 := n11_; clear n0_ n1_ n2_ n3_ n4_ n5_ n6_ n7_ n8_ n9_ n10_ n11_; clear hb hbox hg; have hnb52 := NB584_568.out; have hnc52 := NB568_584.out; have hnb53 := NB584_581.out; have hnc53 := NB581_584.out; have hcz54_0 : w51.cell? ⟨gb584, 0, none⟩ = some (.int .i64 0) := (blk_cell BK584.out 0).trans rfl; have hcz54_1 : w51.cell? ⟨gb584, 1, none⟩ = some (.int .i64 0) := (blk_cell BK584.out 1).trans rfl; have hfz54_0 := blk_frozen BK584.out 0; have hfz54_1 := blk_frozen BK584.out 1))
                           have n0_ : Aside0 (Kd.S (Kd.slice 3 (Kd.int .i64)) 59 ((w51.setCell ⟨gb584, 0, none⟩ (.int .i64 ((rd_T88 l0_1 ((rd_T56 y573 x32_3).f1)).f0))).setCell ⟨gb584, 1, none⟩ (.int .i64 ((rd_T88 l0_1 ((rd_T56 y573 x32_3).f1)).f1))) w.heap.size (fun k_ => some k_ ≠ (v571 : Value).ownBlock) u5 x5_2) := ⟨by (with_reducible repeat (first | apply Kd.S_alloc | apply Kd.S_drewN | apply Kd.S_drew)); exact Kd.S_mono (Kd.S_far (p := ⟨gb584, 1, none⟩) (Kd.S_far (p := ⟨gb584, 0, none⟩) (Kd.S_types HO_5.out BK584.out (by decide)) (fun _ hk => hk.2) (.int .i64 ((rd_T88 l0_1 ((rd_T56 y573 x32_3).f1)).f0))) (fun _ hk => hk.2) (.int .i64 ((rd_T88 l0_1 ((rd_T56 y573 x32_3).f1)).f1))) (fun _ hk => hk.1)⟩
                           have n1_ : Aside0 (Kd.R (Kd.int .i64) 3 ((w51.setCell ⟨gb584, 0, none⟩ (.int .i64 ((rd_T88 l0_1 ((rd_T56 y573 x32_3).f1)).f0))).setCell ⟨gb584, 1, none⟩ (.int .i64 ((rd_T88 l0_1 ((rd_T56 y573 x32_3).f1)).f1))) w.heap.size (fun _ => True) v571 x7_3) := ⟨by (with_reducible repeat (first | apply Kd.R_alloc | apply Kd.R_drewN | apply Kd.R_drew)); exact Kd.R_mono (Kd.R_far (p := ⟨gb584, 1, none⟩) (Kd.R_far (p := ⟨gb584, 0, none⟩) (Kd.R_types HO_7.out BK584.out (by decide)) (fun _ hk => hk.2) (.int .i64 ((rd_T88 l0_1 ((rd_T56 y573 x32_3).f1)).f0))) (fun _ hk => hk.2) (.int .i64 ((rd_T88 l0_1 ((rd_T56 y573 x32_3).f1)).f1))) (fun _ hk => trivial)⟩
                           have n2_ : Aside0 (((w51.setCell ⟨gb584, 0, none⟩ (.int .i64 ((rd_T88 l0_1 ((rd_T56 y573 x32_3).f1)).f0))).setCell ⟨gb584, 1, none⟩ (.int .i64 ((rd_T88 l0_1 ((rd_T56 y573 x32_3).f1)).f1))).heap[gb568]? = some (.cells #[.int .i64 a0_0, .slice (some ad583) l0_1.length c0_1] 30 (0, 0))) := ⟨by (with_reducible repeat (first | refine blk_drewN ?_ _ | refine blk_drew ?_ | refine blk_alloc ?_ _)); refine blk_far ?_ NB568_584.out _; (with_reducible repeat (first | refine blk_drewN ?_ _ | refine blk_drew ?_ | refine blk_alloc ?_ _)); refine blk_far ?_ NB568_584.out _; (with_reducible repeat (first | refine blk_drewN ?_ _ | refine blk_drew ?_ | refine blk_alloc ?_ _)); exact BK568.out⟩
                           have n3_ : Aside0 (((w51.setCell ⟨gb584, 0, none⟩ (.int .i64 ((rd_T88 l0_1 ((rd_T56 y573 x32_3).f1)).f0))).setCell ⟨gb584, 1, none⟩ (.int .i64 ((rd_T88 l0_1 ((rd_T56 y573 x32_3).f1)).f1))).heap[gb581]? = some (.cells #[.int .i64 ((rd_T56 y573 x32_3).f0), .int .i64 ((rd_T56 y573 x32_3).f1), .int .i64 ((rd_T56 y573 x32_3).f2)] 56 (0, 0))) := ⟨by (with_reducible repeat (first | refine blk_drewN ?_ _ | refine blk_drew ?_ | refine blk_alloc ?_ _)); refine blk_far ?_ NB581_584.out _; (with_reducible repeat (first | refine blk_drewN ?_ _ | refine blk_drew ?_ | refine blk_alloc ?_ _)); refine blk_far ?_ NB581_584.out _; (with_reducible repeat (first | refine blk_drewN ?_ _ | refine blk_drew ?_ | refine blk_alloc ?_ _)); exact BK581.out⟩
                           have n4_ : Aside0 (((w51.setCell ⟨gb584, 0, none⟩ (.int .i64 ((rd_T88 l0_1 ((rd_T56 y573 x32_3).f1)).f0))).setCell ⟨gb584, 1, none⟩ (.int .i64 ((rd_T88 l0_1 ((rd_T56 y573 x32_3).f1)).f1))).heap[gb584]? = some (.cells #[.int .i64 ((rd_T88 l0_1 ((rd_T56 y573 x32_3).f1)).f0), .int .i64 ((rd_T88 l0_1 ((rd_T56 y573 x32_3).f1)).f1)] 88 (0, 0))) := ⟨by (with_reducible repeat (first | refine blk_drewN ?_ _ | refine blk_drew ?_ | refine blk_alloc ?_ _)); refine blk_put (cs := #[.int .i64 ((rd_T88 l0_1 ((rd_T56 y573 x32_3).f1)).f0), .int .i64 0]) ?_ 1 _ rfl; (with_reducible repeat (first | refine blk_drewN ?_ _ | refine blk_drew ?_ | refine blk_alloc ?_ _)); refine blk_put (cs := #[.int .i64 0, .int .i64 0]) ?_ 0 _ rfl; (with_reducible repeat (first | refine blk_drewN ?_ _ | refine blk_drew ?_ | refine blk_alloc ?_ _)); exact BK584.out⟩
                           have n5_ : Aside0 (Below w.heap.size w ((w51.setCell ⟨gb584, 0, none⟩ (.int .i64 ((rd_T88 l0_1 ((rd_T56 y573 x32_3).f1)).f0))).setCell ⟨gb584, 1, none⟩ (.int .i64 ((rd_T88 l0_1 ((rd_T56 y573 x32_3).f1)).f1)))) := ⟨by repeat (first | (with_reducible first | exact HB.out | apply below_alloc | apply pw_below_drewN | apply below_drew1 | refine below_set ?_ GE568.out | refine below_set ?_ GE581.out | refine below_set ?_ GE584.out) | exact HB.out)⟩
                           (try clear HO_5)
                           (try clear HO_7)
                           (try clear BK568)
                           (try clear BK581)
                           (try clear BK584)
                           (try clear HB)
                           generalize ((w51.setCell ⟨gb584, 0, none⟩ (.int .i64 ((rd_T88 l0_1 ((rd_T56 y573 x32_3).f1)).f0))).setCell ⟨gb584, 1, none⟩ (.int .i64 ((rd_T88 l0_1 ((rd_T56 y573 x32_3).f1)).f1))) = w55 at n0_ n1_ n2_ n3_ n4_ n5_ ⊢
                           have HO_5 := n0_
                           have HO_7 := n1_
                           have BK568 := n2_
                           have BK581 := n3_
                           have BK584 := n4_
                           have HB := n5_
                           clear n0_ n1_ n2_ n3_ n4_ n5_
                           have n0_ := Aside0.mk (Kd.S_drew HO_5.out)
                           have n1_ := Aside0.mk (Kd.R_drew HO_7.out)
                           have n2_ := Aside0.mk (blk_drew BK568.out)
                           have n3_ := Aside0.mk (blk_drew BK581.out)
                           have n4_ := Aside0.mk (blk_drew BK584.out)
                           have n5_ := Aside0.mk (below_drew1 HB.out)
                           clear HO_5
                           clear HO_7
                           clear BK568
                           clear BK581
                           clear BK584
                           clear HB
                           have HO_5 := n0_
                           have HO_7 := n1_
                           have BK568 := n2_
                           have BK581 := n3_
                           have BK584 := n4_
                           have HB := n5_
                           clear n0_ n1_ n2_ n3_ n4_ n5_
                           obtain ⟨Ao57, co57, eo57⟩ := Kd.R_slice HO_7.out
                           (first | subst eo57 | (injection eo57 with f1_ f2_ f3_; have f4_ := f1_.symm; have f5_ := f3_.symm; clear f1_ f2_ f3_; subst f4_; subst f5_))
                           have p585 : 0 ≤ (((rd_T88 l0_1 ((rd_T56 y573 x32_3).f1)).f0) : Int) := of_decide_eq_true (by first | (with_reducible assumption) | assumption)
                           have q585 : ((rd_T88 l0_1 ((rd_T56 y573 x32_3).f1)).f0) < (x7_3.length : Int) := of_decide_eq_true (by first | (with_reducible assumption) | assumption)
                           obtain ⟨ad585, e585, hx585_0⟩ := Kd.at_int (Kd.R_reads' HO_7.out).2.2 ((rd_T88 l0_1 ((rd_T56 y573 x32_3).f1)).f0) p585 q585
                           cases e585
                           replace p585 := eq_true p585
                           replace q585 := eq_true q585
                           have p43 : 0 ≤ (((rd_T88 l0_1 ((rd_T56 y573 x32_3).f1)).f0) : Int) := of_decide_eq_true (by first | (with_reducible assumption) | assumption)
                           have q43 : (((rd_T88 l0_1 ((rd_T56 y573 x32_3).f1)).f0) : Int) < ((x7_3.length : Int) : Int) := of_decide_eq_true (by first | (with_reducible assumption) | assumption)
                           obtain ⟨go43, co43, eo43, gb43, gl43, cl43, HG43⟩ := Kd.R_form HO_7.out (by omega)
                           (first | cases eo43 | (injection eo43 with ea_ en_ ec_; (first | subst ea_ | (injection ea_ with ea_; subst ea_)); subst ec_; clear en_))
                           have GB43 := Aside0.mk gb43
                           have GG43 := Aside0.mk HG43
                           clear gb43 gl43 HG43
                           (first | simp only [add_plain] at hx585_0 | skip)
                           obtain ⟨hx43_0, hf43_0⟩ := Kd.R_celln 0 HO_7.out (((rd_T88 l0_1 ((rd_T56 y573 x32_3).f1)).f0) : Int) p43 q43
                           replace p43 := eq_true p43
                           replace q43 := eq_true q43
                           have HP58 := Kd.R_putn HO_7.out (((rd_T88 l0_1 ((rd_T56 y573 x32_3).f1)).f0) : Int) (wrap64 ((rd x7_3 ((rd_T88 l0_1 ((rd_T56 y573 x32_3).f1)).f0)) - ((rd_T56 y573 x32_3).f2)))
                           rw [← Ny586.out] at HP58
                           have HQ58 := Aside0.mk HP58
                           clear HP58
                           refine start_ (n := 10) (S := fun w' => w'.cell? ⟨gb584, 0, none⟩ = some (.int .i64 ((rd_T88 l0_1 ((rd_T56 y573 x32_3).f1)).f0)) ∧ w'.cell? ⟨gb584, 1, none⟩ = some (.int .i64 ((rd_T88 l0_1 ((rd_T56 y573 x32_3).f1)).f1)) ∧ w'.cell? ⟨gb581, 0, none⟩ = some (.int .i64 ((rd_T56 y573 x32_3).f0)) ∧ w'.cell? ⟨gb581, 1, none⟩ = some (.int .i64 ((rd_T56 y573 x32_3).f1)) ∧ w'.cell? ⟨gb581, 2, none⟩ = some (.int .i64 ((rd_T56 y573 x32_3).f2)) ∧ w'.cell? ⟨go43, (((rd_T88 l0_1 ((rd_T56 y573 x32_3).f1)).f0)).toNat, none⟩ = some (.int .i64 (rd x7_3 ((rd_T88 l0_1 ((rd_T56 y573 x32_3).f1)).f0)))) (ds := [9]) #[false, false, false, false, false, false, false, false, false, false] (by kernel_rfl) rfl rfl ⟨(blk_cell BK584.out 0).trans rfl, (blk_cell BK584.out 1).trans rfl, (blk_cell BK581.out 0).trans rfl, (blk_cell BK581.out 1).trans rfl, (blk_cell BK581.out 2).trans rfl, hx585_0⟩ (fun hHeld => ?_); refine with_tabW spec_Truth.tab14 spec_Truth.bits14 (fun HT_ HW_ => ?_)
                           generalize w55.drew = w56 at HO_5 HO_7 BK568 BK581 BK584 HB GG43 HQ58 hf43_0 hx43_0 hx585_0 hHeld ⊢
                           refine pure_ (i := 0) (N := some 54) (v := ?_) (a' := ?_) #[true, false, false, false, false, false, false, false, false, false] rfl rfl (any_of HT_.out (by kernel_rfl)) (fun _ _ _ h => h) (Or.inl ⟨by rfl, ?_⟩) ?_ ?_
                           rotate_left
                           ·intro w'
                            go_simp
                            with_reducible rfl
                           rotate_left
                           ·simp only [Act.put, List.setIfInBounds_toArray, List.set_cons_zero, List.set_cons_succ, i64_w, i32_w]
                            rfl
                           refine pure_ (i := 1) (N := some 55) (v := ?_) (a' := ?_) #[true, true, false, false, false, false, false, false, false, false] rfl rfl (any_of HT_.out (by kernel_rfl)) (fun _ _ _ h => h) (Or.inl ⟨by rfl, ?_⟩) ?_ ?_
                           rotate_left
                           ·intro w'
                            go_simp
                            with_reducible rfl
                           rotate_left
                           ·simp only [Act.put, List.setIfInBounds_toArray, List.set_cons_zero, List.set_cons_succ, i64_w, i32_w]
                            rfl
                           refine pure_ (i := 5) (N := some 59) (v := ?_) (a' := ?_) #[true, true, false, false, false, true, false, false, false, false] rfl rfl (any_of HT_.out (by kernel_rfl)) (fun _ _ _ h => h) (Or.inl ⟨by rfl, ?_⟩) ?_ ?_
                           rotate_left
                           ·intro w'
                            go_simp
                            with_reducible rfl
                           rotate_left
                           ·simp only [Act.put, List.setIfInBounds_toArray, List.set_cons_zero, List.set_cons_succ, i64_w, i32_w]
                            rfl
                           refine take_ (i := 2) (N := some 56) (v := ?_) (a' := ?_) #[true, true, true, false, false, true, false, false, false, false] rfl rfl (take_ofW HT_.out HW_.out (by kernel_rfl)) (fun _ _ _ h => h) (Or.inl ⟨by rfl, ?_⟩) hHeld ?_ ?_
                           rotate_left
                           ·rintro w' ⟨s0, s1, s2, s3, s4, s5⟩
                            go_simp
                            with_reducible rfl
                           rotate_left
                           ·simp only [Act.put, List.setIfInBounds_toArray, List.set_cons_zero, List.set_cons_succ, i64_w, i32_w]
                            rfl
                           refine pure_ (i := 3) (N := some 57) (v := ?_) (a' := ?_) #[true, true, true, true, false, true, false, false, false, false] rfl rfl (any_of HT_.out (by kernel_rfl)) (fun _ _ _ h => h) (Or.inl ⟨by rfl, ?_⟩) ?_ ?_
                           rotate_left
                           ·intro w'
                            go_simp
                            with_reducible rfl
                           rotate_left
                           ·simp only [Act.put, List.setIfInBounds_toArray, List.set_cons_zero, List.set_cons_succ, i64_w, i32_w]
                            rfl
                           refine take_ (i := 4) (N := some 58) (v := ?_) (a' := ?_) #[true, true, true, true, true, true, false, false, false, false] rfl rfl (take_ofW HT_.out HW_.out (by kernel_rfl)) (fun _ _ _ h => h) (Or.inl ⟨by rfl, ?_⟩) hHeld ?_ ?_
                           rotate_left
                           ·rintro w' ⟨s0, s1, s2, s3, s4, s5⟩
                            go_simp
                            with_reducible rfl
                           rotate_left
                           ·simp only [Act.put, List.setIfInBounds_toArray, List.set_cons_zero, List.set_cons_succ, i64_w, i32_w]
                            rfl
                           refine take_ (i := 6) (N := some 60) (v := ?_) (a' := ?_) #[true, true, true, true, true, true, true, false, false, false] rfl rfl (take_ofW HT_.out HW_.out (by kernel_rfl)) (fun _ _ _ h => h) (Or.inl ⟨by rfl, ?_⟩) hHeld ?_ ?_
                           rotate_left
                           ·rintro w' ⟨s0, s1, s2, s3, s4, s5⟩
                            go_simp
                            with_reducible rfl
                           rotate_left
                           ·simp only [Act.put, List.setIfInBounds_toArray, List.set_cons_zero, List.set_cons_succ, i64_w, i32_w]
                            rfl
                           refine pure_ (i := 7) (N := some 61) (v := ?_) (a' := ?_) #[true, true, true, true, true, true, true, true, false, false] rfl rfl (any_of HT_.out (by kernel_rfl)) (fun _ _ _ h => h) (Or.inl ⟨by rfl, ?_⟩) ?_ ?_
                           rotate_left
                           ·intro w'
                            go_simp
                            with_reducible rfl
                           rotate_left
                           ·simp only [Act.put, List.setIfInBounds_toArray, List.set_cons_zero, List.set_cons_succ, i64_w, i32_w]
                            rfl
                           refine pure_ (i := 8) (N := some 62) (v := ?_) (a' := ?_) #[true, true, true, true, true, true, true, true, true, false] rfl rfl (any_of HT_.out (by kernel_rfl)) (fun _ _ _ h => h) (Or.inl ⟨by rfl, ?_⟩) ?_ ?_
                           rotate_left
                           ·intro w'
                            go_simp
                            with_reducible rfl
                           rotate_left
                           ·simp only [Act.put, List.setIfInBounds_toArray, List.set_cons_zero, List.set_cons_succ, i64_w, i32_w]
                            rfl
                           refine last_ (i := 9) (N := none) #[true, true, true, true, true, true, true, true, true, true] rfl rfl (one_of HT_.out (by kernel_rfl)) (by decide) (fun K hK => ?_)
                           refine skip_ (w1 := ?_) (by rfl) rfl ?_ ?_
                           rotate_left
                           ·go_simp
                            rfl
                           refine hK.out _ _ ?_
                           clear hK K
                           refine done_ (done_of HT_.out (by kernel_rfl)) ?_
                           have hnx_ : gb584 ≠ go43 := (by have h_ := Kd.R_ne HO_7.out BK584.out (by decide); intro e_; exact h_ (by rw [e_]; rfl))
                           have hny_ : go43 ≠ gb584 := fun e_ => hnx_ e_.symm
                           have hcz59_0 : w56.cell? ⟨gb584, 0, none⟩ = some (.int .i64 ((rd_T88 l0_1 ((rd_T56 y573 x32_3).f1)).f0)) := (blk_cell BK584.out 0).trans rfl
                           have hcz59_1 : w56.cell? ⟨gb584, 1, none⟩ = some (.int .i64 ((rd_T88 l0_1 ((rd_T56 y573 x32_3).f1)).f1)) := (blk_cell BK584.out 1).trans rfl
                           have hfz59_0 := blk_frozen BK584.out 0
                           have hfz59_1 := blk_frozen BK584.out 1
                           try go_wp2
                           have n0_ : Aside0 (Kd.S (Kd.slice 3 (Kd.int .i64)) 59 (w56.setCell ⟨go43, (((rd_T88 l0_1 ((rd_T56 y573 x32_3).f1)).f0) : Int).toNat, none⟩ (.int .i64 (wrap64 ((rd x7_3 ((rd_T88 l0_1 ((rd_T56 y573 x32_3).f1)).f0)) - ((rd_T56 y573 x32_3).f2))))) w.heap.size (fun k_ => some k_ ≠ (.slice (some ⟨go43, 0, none⟩) x7_3.length co57 : Value).ownBlock) u5 x5_2) := ⟨by (with_reducible repeat (first | apply Kd.S_alloc | apply Kd.S_drewN | apply Kd.S_drew)); exact Kd.S_mono (Kd.S_far (p := ⟨go43, (((rd_T88 l0_1 ((rd_T56 y573 x32_3).f1)).f0) : Int).toNat, none⟩) (Kd.S_mono HO_5.out (fun k_ hk => (⟨hk, fun e_ => hk (by rw [e_]; rfl)⟩ : _ ∧ k_ ≠ go43))) (fun _ hk => hk.2) (.int .i64 (wrap64 ((rd x7_3 ((rd_T88 l0_1 ((rd_T56 y573 x32_3).f1)).f0)) - ((rd_T56 y573 x32_3).f2))))) (fun _ hk => hk.1)⟩
                           have n1_ : Aside0 (Kd.R (Kd.int .i64) 3 (w56.setCell ⟨go43, (((rd_T88 l0_1 ((rd_T56 y573 x32_3).f1)).f0) : Int).toNat, none⟩ (.int .i64 (wrap64 ((rd x7_3 ((rd_T88 l0_1 ((rd_T56 y573 x32_3).f1)).f0)) - ((rd_T56 y573 x32_3).f2))))) w.heap.size (fun _ => True) (.slice (some ⟨go43, 0, none⟩) x7_3.length co57) y586) := ⟨by (with_reducible repeat (first | apply Kd.R_alloc | apply Kd.R_drewN | apply Kd.R_drew)); exact HQ58.out⟩
                           have n2_ : Aside0 ((w56.setCell ⟨go43, (((rd_T88 l0_1 ((rd_T56 y573 x32_3).f1)).f0) : Int).toNat, none⟩ (.int .i64 (wrap64 ((rd x7_3 ((rd_T88 l0_1 ((rd_T56 y573 x32_3).f1)).f0)) - ((rd_T56 y573 x32_3).f2))))).heap[gb568]? = some (.cells #[.int .i64 a0_0, .slice (some ad583) l0_1.length c0_1] 30 (0, 0))) := ⟨by (with_reducible repeat (first | refine blk_drewN ?_ _ | refine blk_drew ?_ | refine blk_alloc ?_ _)); refine blk_far ?_ (by have h_ := Kd.R_ne HO_7.out BK568.out (by decide); intro e_; exact h_ (by rw [e_]; rfl)) _; (with_reducible repeat (first | refine blk_drewN ?_ _ | refine blk_drew ?_ | refine blk_alloc ?_ _)); exact BK568.out⟩
                           have n3_ : Aside0 ((w56.setCell ⟨go43, (((rd_T88 l0_1 ((rd_T56 y573 x32_3).f1)).f0) : Int).toNat, none⟩ (.int .i64 (wrap64 ((rd x7_3 ((rd_T88 l0_1 ((rd_T56 y573 x32_3).f1)).f0)) - ((rd_T56 y573 x32_3).f2))))).heap[gb581]? = some (.cells #[.int .i64 ((rd_T56 y573 x32_3).f0), .int .i64 ((rd_T56 y573 x32_3).f1), .int .i64 ((rd_T56 y573 x32_3).f2)] 56 (0, 0))) := ⟨by (with_reducible repeat (first | refine blk_drewN ?_ _ | refine blk_drew ?_ | refine blk_alloc ?_ _)); refine blk_far ?_ (by have h_ := Kd.R_ne HO_7.out BK581.out (by decide); intro e_; exact h_ (by rw [e_]; rfl)) _; (with_reducible repeat (first | refine blk_drewN ?_ _ | refine blk_drew ?_ | refine blk_alloc ?_ _)); exact BK581.out⟩
                           have n4_ : Aside0 ((w56.setCell ⟨go43, (((rd_T88 l0_1 ((rd_T56 y573 x32_3).f1)).f0) : Int).toNat, none⟩ (.int .i64 (wrap64 ((rd x7_3 ((rd_T88 l0_1 ((rd_T56 y573 x32_3).f1)).f0)) - ((rd_T56 y573 x32_3).f2))))).heap[gb584]? = some (.cells #[.int .i64 ((rd_T88 l0_1 ((rd_T56 y573 x32_3).f1)).f0), .int .i64 ((rd_T88 l0_1 ((rd_T56 y573 x32_3).f1)).f1)] 88 (0, 0))) := ⟨by (with_reducible repeat (first | refine blk_drewN ?_ _ | refine blk_drew ?_ | refine blk_alloc ?_ _)); refine blk_far ?_ (by have h_ := Kd.R_ne HO_7.out BK584.out (by decide); intro e_; exact h_ (by rw [e_]; rfl)) _; (with_reducible repeat (first | refine blk_drewN ?_ _ | refine blk_drew ?_ | refine blk_alloc ?_ _)); exact BK584.out⟩
                           have n5_ : Aside0 (Below w.heap.size w (w56.setCell ⟨go43, (((rd_T88 l0_1 ((rd_T56 y573 x32_3).f1)).f0) : Int).toNat, none⟩ (.int .i64 (wrap64 ((rd x7_3 ((rd_T88 l0_1 ((rd_T56 y573 x32_3).f1)).f0)) - ((rd_T56 y573 x32_3).f2)))))) := ⟨by repeat (first | (with_reducible first | exact HB.out | apply below_alloc | apply pw_below_drewN | apply below_drew1 | refine below_set ?_ GB43.out | refine below_set ?_ GE568.out | refine below_set ?_ GE581.out | refine below_set ?_ GE584.out) | exact HB.out)⟩
                           (try clear HO_5)
                           (try clear HO_7)
                           (try clear BK568)
                           (try clear BK581)
                           (try clear BK584)
                           (try clear HB)
                           generalize (w56.setCell ⟨go43, (((rd_T88 l0_1 ((rd_T56 y573 x32_3).f1)).f0) : Int).toNat, none⟩ (.int .i64 (wrap64 ((rd x7_3 ((rd_T88 l0_1 ((rd_T56 y573 x32_3).f1)).f0)) - ((rd_T56 y573 x32_3).f2))))) = w60 at n0_ n1_ n2_ n3_ n4_ n5_ ⊢
                           have HO_5 := n0_
                           have HO_7 := n1_
                           have BK568 := n2_
                           have BK581 := n3_
                           have BK584 := n4_
                           have HB := n5_
                           clear n0_ n1_ n2_ n3_ n4_ n5_
                           have n0_ := Aside0.mk (Kd.S_drew HO_5.out)
                           have n1_ := Aside0.mk (Kd.R_drew HO_7.out)
                           have n2_ := Aside0.mk (blk_drew BK568.out)
                           have n3_ := Aside0.mk (blk_drew BK581.out)
                           have n4_ := Aside0.mk (blk_drew BK584.out)
                           have n5_ := Aside0.mk (below_drew1 HB.out)
                           clear HO_5
                           clear HO_7
                           clear BK568
                           clear BK581
                           clear BK584
                           clear HB
                           have HO_5 := n0_
                           have HO_7 := n1_
                           have BK568 := n2_
                           have BK581 := n3_
                           have BK584 := n4_
                           have HB := n5_
                           clear n0_ n1_ n2_ n3_ n4_ n5_
                           have p587 : 0 ≤ (((rd_T88 l0_1 ((rd_T56 y573 x32_3).f1)).f1) : Int) := of_decide_eq_true (by first | (with_reducible assumption) | assumption)
                           have q587 : ((rd_T88 l0_1 ((rd_T56 y573 x32_3).f1)).f1) < (y586.length : Int) := (by have h_ : (((rd_T88 l0_1 ((rd_T56 y573 x32_3).f1)).f1) : Int) < ((x7_3.length : Int) : Int) := of_decide_eq_true (by first | (with_reducible assumption) | assumption); first | (have e_ := (Kd.R_reads' HO_7.out).1; omega) | simpa only [Ny586.out, List.length_set] using h_)
                           have ql587 : ((((rd_T88 l0_1 ((rd_T56 y573 x32_3).f1)).f1) : Int) < ((x7_3.length : Int) : Int)) = True := eq_true (of_decide_eq_true (by first | (with_reducible assumption) | assumption))
                           obtain ⟨ad587, e587, hx587_0⟩ := Kd.at_int (Kd.R_reads' HO_7.out).2.2 ((rd_T88 l0_1 ((rd_T56 y573 x32_3).f1)).f1) p587 q587
                           obtain rfl : (⟨go43, 0, none⟩ : Addr) = ad587 := (by injection e587)
                           (first | simp only [add_plain] at hx587_0 | simp only [add_at] at hx587_0 | simp only [Addr.add, Nat.zero_add] at hx587_0 | skip)
                           replace p587 := eq_true p587
                           replace q587 := eq_true q587
                           have p47 : 0 ≤ (((rd_T88 l0_1 ((rd_T56 y573 x32_3).f1)).f1) : Int) := of_decide_eq_true (by first | (with_reducible assumption) | assumption)
                           have q47 : (((rd_T88 l0_1 ((rd_T56 y573 x32_3).f1)).f1) : Int) < ((x7_3.length : Int) : Int) := of_decide_eq_true (by first | (with_reducible assumption) | assumption)
                           obtain ⟨hx47_0, hf47_0⟩ := Kd.R_celln 0 HO_7.out (((rd_T88 l0_1 ((rd_T56 y573 x32_3).f1)).f1) : Int) p47 q47
                           replace p47 := eq_true p47
                           replace q47 := eq_true q47
                           have HP62 := Kd.R_putn HO_7.out (((rd_T88 l0_1 ((rd_T56 y573 x32_3).f1)).f1) : Int) (wrap64 ((rd y586 ((rd_T88 l0_1 ((rd_T56 y573 x32_3).f1)).f1)) + ((rd_T56 y573 x32_3).f2)))
                           rw [← Ny588.out] at HP62
                           have HQ62 := Aside0.mk HP62
                           clear HP62
                           refine start_ (n := 10) (S := fun w' => w'.cell? ⟨gb584, 0, none⟩ = some (.int .i64 ((rd_T88 l0_1 ((rd_T56 y573 x32_3).f1)).f0)) ∧ w'.cell? ⟨gb584, 1, none⟩ = some (.int .i64 ((rd_T88 l0_1 ((rd_T56 y573 x32_3).f1)).f1)) ∧ w'.cell? ⟨gb581, 0, none⟩ = some (.int .i64 ((rd_T56 y573 x32_3).f0)) ∧ w'.cell? ⟨gb581, 1, none⟩ = some (.int .i64 ((rd_T56 y573 x32_3).f1)) ∧ w'.cell? ⟨gb581, 2, none⟩ = some (.int .i64 ((rd_T56 y573 x32_3).f2)) ∧ w'.cell? ⟨go43, (((rd_T88 l0_1 ((rd_T56 y573 x32_3).f1)).f1)).toNat, none⟩ = some (.int .i64 (rd y586 ((rd_T88 l0_1 ((rd_T56 y573 x32_3).f1)).f1)))) (ds := [9]) #[false, false, false, false, false, false, false, false, false, false] (by kernel_rfl) rfl rfl ⟨(blk_cell BK584.out 0).trans rfl, (blk_cell BK584.out 1).trans rfl, (blk_cell BK581.out 0).trans rfl, (blk_cell BK581.out 1).trans rfl, (blk_cell BK581.out 2).trans rfl, hx587_0⟩ (fun hHeld => ?_); refine with_tabW spec_Truth.tab16 spec_Truth.bits16 (fun HT_ HW_ => ?_)
                           generalize w60.drew = w61 at HO_5 HO_7 BK568 BK581 BK584 HB HQ58 HQ62 hf47_0 hx47_0 hx587_0 hHeld ⊢
                           refine pure_ (i := 0) (N := some 66) (v := ?_) (a' := ?_) #[true, false, false, false, false, false, false, false, false, false] rfl rfl (any_of HT_.out (by kernel_rfl)) (fun _ _ _ h => h) (Or.inl ⟨by rfl, ?_⟩) ?_ ?_
                           rotate_left
                           ·intro w'
                            go_simp
                            with_reducible rfl
                           rotate_left
                           ·simp only [Act.put, List.setIfInBounds_toArray, List.set_cons_zero, List.set_cons_succ, i64_w, i32_w]
                            rfl
                           refine pure_ (i := 1) (N := some 67) (v := ?_) (a' := ?_) #[true, true, false, false, false, false, false, false, false, false] rfl rfl (any_of HT_.out (by kernel_rfl)) (fun _ _ _ h => h) (Or.inl ⟨by rfl, ?_⟩) ?_ ?_
                           rotate_left
                           ·intro w'
                            go_simp
                            with_reducible rfl
                           rotate_left
                           ·simp only [Act.put, List.setIfInBounds_toArray, List.set_cons_zero, List.set_cons_succ, i64_w, i32_w]
                            rfl
                           refine pure_ (i := 5) (N := some 71) (v := ?_) (a' := ?_) #[true, true, false, false, false, true, false, false, false, false] rfl rfl (any_of HT_.out (by kernel_rfl)) (fun _ _ _ h => h) (Or.inl ⟨by rfl, ?_⟩) ?_ ?_
                           rotate_left
                           ·intro w'
                            go_simp
                            with_reducible rfl
                           rotate_left
                           ·simp only [Act.put, List.setIfInBounds_toArray, List.set_cons_zero, List.set_cons_succ, i64_w, i32_w]
                            rfl
                           refine take_ (i := 2) (N := some 68) (v := ?_) (a' := ?_) #[true, true, true, false, false, true, false, false, false, false] rfl rfl (take_ofW HT_.out HW_.out (by kernel_rfl)) (fun _ _ _ h => h) (Or.inl ⟨by rfl, ?_⟩) hHeld ?_ ?_
                           rotate_left
                           ·rintro w' ⟨s0, s1, s2, s3, s4, s5⟩
                            go_simp
                            with_reducible rfl
                           rotate_left
                           ·simp only [Act.put, List.setIfInBounds_toArray, List.set_cons_zero, List.set_cons_succ, i64_w, i32_w]
                            rfl
                           refine pure_ (i := 3) (N := some 69) (v := ?_) (a' := ?_) #[true, true, true, true, false, true, false, false, false, false] rfl rfl (any_of HT_.out (by kernel_rfl)) (fun _ _ _ h => h) (Or.inl ⟨by rfl, ?_⟩) ?_ ?_
                           rotate_left
                           ·intro w'
                            go_simp
                            with_reducible rfl
                           rotate_left
                           ·simp only [Act.put, List.setIfInBounds_toArray, List.set_cons_zero, List.set_cons_succ, i64_w, i32_w]
                            rfl
                           refine take_ (i := 4) (N := some 70) (v := ?_) (a' := ?_) #[true, true, true, true, true, true, false, false, false, false] rfl rfl (take_ofW HT_.out HW_.out (by kernel_rfl)) (fun _ _ _ h => h) (Or.inl ⟨by rfl, ?_⟩) hHeld ?_ ?_
                           rotate_left
                           ·rintro w' ⟨s0, s1, s2, s3, s4, s5⟩
                            go_simp
                            with_reducible rfl
                           rotate_left
                           ·simp only [Act.put, List.setIfInBounds_toArray, List.set_cons_zero, List.set_cons_succ, i64_w, i32_w]
                            rfl
                           refine take_ (i := 6) (N := some 72) (v := ?_) (a' := ?_) #[true, true, true, true, true, true, true, false, false, false] rfl rfl (take_ofW HT_.out HW_.out (by kernel_rfl)) (fun _ _ _ h => h) (Or.inl ⟨by rfl, ?_⟩) hHeld ?_ ?_
                           rotate_left
                           ·rintro w' ⟨s0, s1, s2, s3, s4, s5⟩
                            go_simp
                            with_reducible rfl
                           rotate_left
                           ·simp only [Act.put, List.setIfInBounds_toArray, List.set_cons_zero, List.set_cons_succ, i64_w, i32_w]
                            rfl
                           refine pure_ (i := 7) (N := some 73) (v := ?_) (a' := ?_) #[true, true, true, true, true, true, true, true, false, false] rfl rfl (any_of HT_.out (by kernel_rfl)) (fun _ _ _ h => h) (Or.inl ⟨by rfl, ?_⟩) ?_ ?_
                           rotate_left
                           ·intro w'
                            go_simp
                            with_reducible rfl
                           rotate_left
                           ·simp only [Act.put, List.setIfInBounds_toArray, List.set_cons_zero, List.set_cons_succ, i64_w, i32_w]
                            rfl
                           refine pure_ (i := 8) (N := some 74) (v := ?_) (a' := ?_) #[true, true, true, true, true, true, true, true, true, false] rfl rfl (any_of HT_.out (by kernel_rfl)) (fun _ _ _ h => h) (Or.inl ⟨by rfl, ?_⟩) ?_ ?_
                           rotate_left
                           ·intro w'
                            go_simp
                            with_reducible rfl
                           rotate_left
                           ·simp only [Act.put, List.setIfInBounds_toArray, List.set_cons_zero, List.set_cons_succ, i64_w, i32_w]
                            rfl
                           refine last_ (i := 9) (N := none) #[true, true, true, true, true, true, true, true, true, true] rfl rfl (one_of HT_.out (by kernel_rfl)) (by decide) (fun K hK => ?_)
                           refine skip_ (w1 := ?_) (by rfl) rfl ?_ ?_
                           rotate_left
                           ·go_simp
                            rfl
                           refine hK.out _ _ ?_
                           clear hK K
                           refine done_ (done_of HT_.out (by kernel_rfl)) ?_
                           try go_wp2
                           go_roundg kj24
                           case measure => have := HJ2.out; have := HK2.out; have := HK3.out; have := HJ24.out; omega
                           case rel => exact ⟨(y588), (wrap64 (x32_3 + 1)), (by first | rfl | (simp; done) | (simp [*]; done)), H', ⟨by have := HJ2.out; have := HK2.out; have := HK3.out; have := HJ24.out; omega⟩, ⟨by (with_reducible repeat (first | apply Kd.S_alloc | apply Kd.S_drewN | apply Kd.S_drew)); exact Kd.S_mono (Kd.S_far (p := ⟨go43, (((rd_T88 l0_1 ((rd_T56 y573 x32_3).f1)).f1) : Int).toNat, none⟩) (Kd.S_mono HO_5.out (fun k_ hk => (⟨hk, fun e_ => hk (by rw [e_]; rfl)⟩ : _ ∧ k_ ≠ go43))) (fun _ hk => hk.2) (.int .i64 (wrap64 ((rd y586 ((rd_T88 l0_1 ((rd_T56 y573 x32_3).f1)).f1)) + ((rd_T56 y573 x32_3).f2))))) (fun _ hk => hk.1)⟩, ⟨by (with_reducible repeat (first | apply Kd.R_alloc | apply Kd.R_drewN | apply Kd.R_drew)); exact HQ62.out⟩, ⟨by (with_reducible repeat (first | refine blk_drewN ?_ _ | refine blk_drew ?_ | refine blk_alloc ?_ _)); refine blk_far ?_ (by have h_ := Kd.R_ne HO_7.out BK568.out (by decide); intro e_; exact h_ (by rw [e_]; rfl)) _; (with_reducible repeat (first | refine blk_drewN ?_ _ | refine blk_drew ?_ | refine blk_alloc ?_ _)); exact BK568.out⟩, ⟨by repeat (first | (with_reducible first | exact HB.out | apply below_alloc | apply pw_below_drewN | apply below_drew1 | refine below_set ?_ GB43.out | refine below_set ?_ GE568.out | refine below_set ?_ GE581.out | refine below_set ?_ GE584.out) | exact HB.out)⟩⟩
                          ·rw [if_neg c46] at H
                           exact absurd H (by simp)
                         ·rw [if_neg c45] at H
                          exact absurd H (by simp)
                        ·rw [if_neg c44] at H
                         have c44b0 : decide (0 ≤ ((rd_T88 l0_1 ((rd_T56 y573 x32_3).f1)).f1)) = false := decide_eq_false c44
                         clear c44
                         have H' := Aside0.mk H
                         clear H
                         have hnb63 := NB568_581.out
                         have hnc63 := NB581_568.out
                         have hcz64_0 : wc.cell? ⟨gb568, 0, none⟩ = some (.int .i64 a0_0) := (blk_cell BK568.out 0).trans rfl
                         have hcz64_1 : wc.cell? ⟨gb568, 1, none⟩ = some (.slice A0_1 l0_1.length c0_1) := (blk_cell BK568.out 1).trans rfl
                         have hfz64_0 := blk_frozen BK568.out 0
                         have hfz64_1 := blk_frozen BK568.out 1
                         have hcz65_0 : wc.cell? ⟨gb581, 0, none⟩ = some (.int .i64 ((rd_T56 y573 x32_3).f0)) := (blk_cell BK581.out 0).trans rfl
                         have hcz65_1 : wc.cell? ⟨gb581, 1, none⟩ = some (.int .i64 ((rd_T56 y573 x32_3).f1)) := (blk_cell BK581.out 1).trans rfl
                         have hcz65_2 : wc.cell? ⟨gb581, 2, none⟩ = some (.int .i64 ((rd_T56 y573 x32_3).f2)) := (blk_cell BK581.out 2).trans rfl
                         have hfz65_0 := blk_frozen BK581.out 0
                         have hfz65_1 := blk_frozen BK581.out 1
                         have hfz65_2 := blk_frozen BK581.out 2
                         have p583 : 0 ≤ (((rd_T56 y573 x32_3).f1) : Int) := of_decide_eq_true (by first | (with_reducible assumption) | assumption)
                         have q583 : ((rd_T56 y573 x32_3).f1) < (l0_1.length : Int) := of_decide_eq_true (by first | (with_reducible assumption) | assumption)
                         obtain ⟨ad583, e583, hx583_0, hx583_1⟩ := at_T88 HR0_1.out ((rd_T56 y573 x32_3).f1) p583 q583
                         cases e583
                         replace hx583_0 := (HB.out.cell (World.block_lt_of_cell? w _ hx583_0)).trans hx583_0
                         replace hx583_1 := (HB.out.cell (World.block_lt_of_cell? w _ hx583_1)).trans hx583_1
                         replace p583 := eq_true p583
                         replace q583 := eq_true q583
                         try go_wp2_with (first | ((with_reducible refine gate_dst (N := 10) rfl ?_); (try (refine gate_guard (by rfl) ?_; dsimp only)); refine box_event ?hg (N := 10) ?hd (cs := #[.int .i64 0, .int .i64 0]) (t := 88) ?hr ?_; (case hd => rfl); (case hg => rfl); (case hr => first | (go_simp; done) | (go_simp; rfl)); intro gb584 hg w66 hbox hb; have n0_ := Aside0.mk (Kd.S_below (by (with_reducible repeat (first | apply Kd.S_alloc | apply Kd.S_drewN | apply Kd.S_drew)); exact HO_5.out) hb); have n1_ := Aside0.mk (Kd.R_below (by (with_reducible repeat (first | apply Kd.R_alloc | apply Kd.R_drewN | apply Kd.R_drew)); exact HO_7.out) hb); have n2_ := Aside0.mk (blk_below (g := gb568) (o := .cells #[.int .i64 a0_0, .slice (some ad583) l0_1.length c0_1] 30 (0, 0)) (by (with_reducible repeat (first | refine blk_drewN ?_ _ | refine blk_drew ?_ | refine blk_alloc ?_ _)); exact BK568.out) hb); have n3_ := Aside0.mk (blk_below (g := gb581) (o := .cells #[.int .i64 ((rd_T56 y573 x32_3).f0), .int .i64 ((rd_T56 y573 x32_3).f1), .int .i64 ((rd_T56 y573 x32_3).f2)] 56 (0, 0)) (by (with_reducible repeat (first | refine blk_drewN ?_ _ | refine blk_drew ?_ | refine blk_alloc ?_ _)); exact BK581.out) hb); have n4_ := Aside0.mk (below_step (by repeat (first | (with_reducible first | exact HB.out | apply below_alloc | apply pw_below_drewN | apply below_drew1 | refine below_set ?_ GE568.out | refine below_set ?_ GE581.out) | exact HB.out)) hb); have n5_ := Aside0.mk (hbox); have n6_ := Aside0.mk ((by rw [hg]; exact (below_size (by repeat (first | (with_reducible first | exact HB.out | apply below_alloc | apply pw_below_drewN | apply below_drew1 | refine below_set ?_ GE568.out | refine below_set ?_ GE581.out) | exact HB.out))) : w.heap.size ≤ gb584)); have n7_ := Aside0.mk ((by rw [hg]; exact (below_size (by repeat (first | (with_reducible first | exact HB.out | apply below_alloc | apply pw_below_drewN | apply below_drew1 | refine below_set ?_ GE568.out | refine below_set ?_ GE581.out) | exact HB.out))) : w.heap.size ≤ gb584)); have n8_ := Aside0.mk ((by rw [hg]; exact Nat.ne_of_lt (blk_lt (g := gb568) (o := .cells #[.int .i64 a0_0, .slice (some ad583) l0_1.length c0_1] 30 (0, 0)) (by (with_reducible repeat (first | refine blk_drewN ?_ _ | refine blk_drew ?_ | refine blk_alloc ?_ _)); exact BK568.out)) : gb568 ≠ gb584)); have n9_ := Aside0.mk ((by rw [hg]; exact Nat.ne_of_gt (blk_lt (g := gb568) (o := .cells #[.int .i64 a0_0, .slice (some ad583) l0_1.length c0_1] 30 (0, 0)) (by (with_reducible repeat (first | refine blk_drewN ?_ _ | refine blk_drew ?_ | refine blk_alloc ?_ _)); exact BK568.out)) : gb584 ≠ gb568)); have n10_ := Aside0.mk ((by rw [hg]; exact Nat.ne_of_lt (blk_lt (g := gb581) (o := .cells #[.int .i64 ((rd_T56 y573 x32_3).f0), .int .i64 ((rd_T56 y573 x32_3).f1), .int .i64 ((rd_T56 y573 x32_3).f2)] 56 (0, 0)) (by (with_reducible repeat (first | refine blk_drewN ?_ _ | refine blk_drew ?_ | refine blk_alloc ?_ _)); exact BK581.out)) : gb581 ≠ gb584)); have n11_ := Aside0.mk ((by rw [hg]; exact Nat.ne_of_gt (blk_lt (g := gb581) (o := .cells #[.int .i64 ((rd_T56 y573 x32_3).f0), .int .i64 ((rd_T56 y573 x32_3).f1), .int .i64 ((rd_T56 y573 x32_3).f2)] 56 (0, 0)) (by (with_reducible repeat (first | refine blk_drewN ?_ _ | refine blk_drew ?_ | refine blk_alloc ?_ _)); exact BK581.out)) : gb584 ≠ gb581)); clear HO_5; clear HO_7; clear BK568; clear BK581; clear HB; have HO_5 := n0_; have HO_7 := n1_; have BK568 := n2_; have BK581 := n3_; have HB := n4_; have BK584 := n5_; have GW584 := n6_; have GE584 := n7_; have NB568_584 := n8_; have NB584_568 := n9_; have NB581_584 := n10_; have NB584_581 := n11_; clear n0_ n1_ n2_ n3_ n4_ n5_ n6_ n7_ n8_ n9_ n10_ n11_; clear hb hbox hg; have hnb67 := NB584_568.out; have hnc67 := NB568_584.out; have hnb68 := NB584_581.out; have hnc68 := NB581_584.out; have hcz69_0 : w66.cell? ⟨gb584, 0, none⟩ = some (.int .i64 0) := (blk_cell BK584.out 0).trans rfl; have hcz69_1 : w66.cell? ⟨gb584, 1, none⟩ = some (.int .i64 0) := (blk_cell BK584.out 1).trans rfl; have hfz69_0 := blk_frozen BK584.out 0; have hfz69_1 := blk_frozen BK584.out 1))
                         have n0_ : Aside0 (Kd.S (Kd.slice 3 (Kd.int .i64)) 59 ((w66.setCell ⟨gb584, 0, none⟩ (.int .i64 ((rd_T88 l0_1 ((rd_T56 y573 x32_3).f1)).f0))).setCell ⟨gb584, 1, none⟩ (.int .i64 ((rd_T88 l0_1 ((rd_T56 y573 x32_3).f1)).f1))) w.heap.size (fun k_ => some k_ ≠ (v571 : Value).ownBlock) u5 x5_2) := ⟨by (with_reducible repeat (first | apply Kd.S_alloc | apply Kd.S_drewN | apply Kd.S_drew)); exact Kd.S_mono (Kd.S_far (p := ⟨gb584, 1, none⟩) (Kd.S_far (p := ⟨gb584, 0, none⟩) (Kd.S_types HO_5.out BK584.out (by decide)) (fun _ hk => hk.2) (.int .i64 ((rd_T88 l0_1 ((rd_T56 y573 x32_3).f1)).f0))) (fun _ hk => hk.2) (.int .i64 ((rd_T88 l0_1 ((rd_T56 y573 x32_3).f1)).f1))) (fun _ hk => hk.1)⟩
                         have n1_ : Aside0 (Kd.R (Kd.int .i64) 3 ((w66.setCell ⟨gb584, 0, none⟩ (.int .i64 ((rd_T88 l0_1 ((rd_T56 y573 x32_3).f1)).f0))).setCell ⟨gb584, 1, none⟩ (.int .i64 ((rd_T88 l0_1 ((rd_T56 y573 x32_3).f1)).f1))) w.heap.size (fun _ => True) v571 x7_3) := ⟨by (with_reducible repeat (first | apply Kd.R_alloc | apply Kd.R_drewN | apply Kd.R_drew)); exact Kd.R_mono (Kd.R_far (p := ⟨gb584, 1, none⟩) (Kd.R_far (p := ⟨gb584, 0, none⟩) (Kd.R_types HO_7.out BK584.out (by decide)) (fun _ hk => hk.2) (.int .i64 ((rd_T88 l0_1 ((rd_T56 y573 x32_3).f1)).f0))) (fun _ hk => hk.2) (.int .i64 ((rd_T88 l0_1 ((rd_T56 y573 x32_3).f1)).f1))) (fun _ hk => trivial)⟩
                         have n2_ : Aside0 (((w66.setCell ⟨gb584, 0, none⟩ (.int .i64 ((rd_T88 l0_1 ((rd_T56 y573 x32_3).f1)).f0))).setCell ⟨gb584, 1, none⟩ (.int .i64 ((rd_T88 l0_1 ((rd_T56 y573 x32_3).f1)).f1))).heap[gb568]? = some (.cells #[.int .i64 a0_0, .slice (some ad583) l0_1.length c0_1] 30 (0, 0))) := ⟨by (with_reducible repeat (first | refine blk_drewN ?_ _ | refine blk_drew ?_ | refine blk_alloc ?_ _)); refine blk_far ?_ NB568_584.out _; (with_reducible repeat (first | refine blk_drewN ?_ _ | refine blk_drew ?_ | refine blk_alloc ?_ _)); refine blk_far ?_ NB568_584.out _; (with_reducible repeat (first | refine blk_drewN ?_ _ | refine blk_drew ?_ | refine blk_alloc ?_ _)); exact BK568.out⟩
                         have n3_ : Aside0 (((w66.setCell ⟨gb584, 0, none⟩ (.int .i64 ((rd_T88 l0_1 ((rd_T56 y573 x32_3).f1)).f0))).setCell ⟨gb584, 1, none⟩ (.int .i64 ((rd_T88 l0_1 ((rd_T56 y573 x32_3).f1)).f1))).heap[gb581]? = some (.cells #[.int .i64 ((rd_T56 y573 x32_3).f0), .int .i64 ((rd_T56 y573 x32_3).f1), .int .i64 ((rd_T56 y573 x32_3).f2)] 56 (0, 0))) := ⟨by (with_reducible repeat (first | refine blk_drewN ?_ _ | refine blk_drew ?_ | refine blk_alloc ?_ _)); refine blk_far ?_ NB581_584.out _; (with_reducible repeat (first | refine blk_drewN ?_ _ | refine blk_drew ?_ | refine blk_alloc ?_ _)); refine blk_far ?_ NB581_584.out _; (with_reducible repeat (first | refine blk_drewN ?_ _ | refine blk_drew ?_ | refine blk_alloc ?_ _)); exact BK581.out⟩
                         have n4_ : Aside0 (((w66.setCell ⟨gb584, 0, none⟩ (.int .i64 ((rd_T88 l0_1 ((rd_T56 y573 x32_3).f1)).f0))).setCell ⟨gb584, 1, none⟩ (.int .i64 ((rd_T88 l0_1 ((rd_T56 y573 x32_3).f1)).f1))).heap[gb584]? = some (.cells #[.int .i64 ((rd_T88 l0_1 ((rd_T56 y573 x32_3).f1)).f0), .int .i64 ((rd_T88 l0_1 ((rd_T56 y573 x32_3).f1)).f1)] 88 (0, 0))) := ⟨by (with_reducible repeat (first | refine blk_drewN ?_ _ | refine blk_drew ?_ | refine blk_alloc ?_ _)); refine blk_put (cs := #[.int .i64 ((rd_T88 l0_1 ((rd_T56 y573 x32_3).f1)).f0), .int .i64 0]) ?_ 1 _ rfl; (with_reducible repeat (first | refine blk_drewN ?_ _ | refine blk_drew ?_ | refine blk_alloc ?_ _)); refine blk_put (cs := #[.int .i64 0, .int .i64 0]) ?_ 0 _ rfl; (with_reducible repeat (first | refine blk_drewN ?_ _ | refine blk_drew ?_ | refine blk_alloc ?_ _)); exact BK584.out⟩
                         have n5_ : Aside0 (Below w.heap.size w ((w66.setCell ⟨gb584, 0, none⟩ (.int .i64 ((rd_T88 l0_1 ((rd_T56 y573 x32_3).f1)).f0))).setCell ⟨gb584, 1, none⟩ (.int .i64 ((rd_T88 l0_1 ((rd_T56 y573 x32_3).f1)).f1)))) := ⟨by repeat (first | (with_reducible first | exact HB.out | apply below_alloc | apply pw_below_drewN | apply below_drew1 | refine below_set ?_ GE568.out | refine below_set ?_ GE581.out | refine below_set ?_ GE584.out) | exact HB.out)⟩
                         (try clear HO_5)
                         (try clear HO_7)
                         (try clear BK568)
                         (try clear BK581)
                         (try clear BK584)
                         (try clear HB)
                         generalize ((w66.setCell ⟨gb584, 0, none⟩ (.int .i64 ((rd_T88 l0_1 ((rd_T56 y573 x32_3).f1)).f0))).setCell ⟨gb584, 1, none⟩ (.int .i64 ((rd_T88 l0_1 ((rd_T56 y573 x32_3).f1)).f1))) = w70 at n0_ n1_ n2_ n3_ n4_ n5_ ⊢
                         have HO_5 := n0_
                         have HO_7 := n1_
                         have BK568 := n2_
                         have BK581 := n3_
                         have BK584 := n4_
                         have HB := n5_
                         clear n0_ n1_ n2_ n3_ n4_ n5_
                         have n0_ := Aside0.mk (Kd.S_drew HO_5.out)
                         have n1_ := Aside0.mk (Kd.R_drew HO_7.out)
                         have n2_ := Aside0.mk (blk_drew BK568.out)
                         have n3_ := Aside0.mk (blk_drew BK581.out)
                         have n4_ := Aside0.mk (blk_drew BK584.out)
                         have n5_ := Aside0.mk (below_drew1 HB.out)
                         clear HO_5
                         clear HO_7
                         clear BK568
                         clear BK581
                         clear BK584
                         clear HB
                         have HO_5 := n0_
                         have HO_7 := n1_
                         have BK568 := n2_
                         have BK581 := n3_
                         have BK584 := n4_
                         have HB := n5_
                         clear n0_ n1_ n2_ n3_ n4_ n5_
                         obtain ⟨Ao72, co72, eo72⟩ := Kd.R_slice HO_7.out
                         (first | subst eo72 | (injection eo72 with f1_ f2_ f3_; have f4_ := f1_.symm; have f5_ := f3_.symm; clear f1_ f2_ f3_; subst f4_; subst f5_))
                         have p585 : 0 ≤ (((rd_T88 l0_1 ((rd_T56 y573 x32_3).f1)).f0) : Int) := of_decide_eq_true (by first | (with_reducible assumption) | assumption)
                         have q585 : ((rd_T88 l0_1 ((rd_T56 y573 x32_3).f1)).f0) < (x7_3.length : Int) := of_decide_eq_true (by first | (with_reducible assumption) | assumption)
                         obtain ⟨ad585, e585, hx585_0⟩ := Kd.at_int (Kd.R_reads' HO_7.out).2.2 ((rd_T88 l0_1 ((rd_T56 y573 x32_3).f1)).f0) p585 q585
                         cases e585
                         replace p585 := eq_true p585
                         replace q585 := eq_true q585
                         have p43 : 0 ≤ (((rd_T88 l0_1 ((rd_T56 y573 x32_3).f1)).f0) : Int) := of_decide_eq_true (by first | (with_reducible assumption) | assumption)
                         have q43 : (((rd_T88 l0_1 ((rd_T56 y573 x32_3).f1)).f0) : Int) < ((x7_3.length : Int) : Int) := of_decide_eq_true (by first | (with_reducible assumption) | assumption)
                         obtain ⟨go43, co43, eo43, gb43, gl43, cl43, HG43⟩ := Kd.R_form HO_7.out (by omega)
                         (first | cases eo43 | (injection eo43 with ea_ en_ ec_; (first | subst ea_ | (injection ea_ with ea_; subst ea_)); subst ec_; clear en_))
                         have GB43 := Aside0.mk gb43
                         have GG43 := Aside0.mk HG43
                         clear gb43 gl43 HG43
                         (first | simp only [add_plain] at hx585_0 | skip)
                         obtain ⟨hx43_0, hf43_0⟩ := Kd.R_celln 0 HO_7.out (((rd_T88 l0_1 ((rd_T56 y573 x32_3).f1)).f0) : Int) p43 q43
                         replace p43 := eq_true p43
                         replace q43 := eq_true q43
                         have HP73 := Kd.R_putn HO_7.out (((rd_T88 l0_1 ((rd_T56 y573 x32_3).f1)).f0) : Int) (wrap64 ((rd x7_3 ((rd_T88 l0_1 ((rd_T56 y573 x32_3).f1)).f0)) - ((rd_T56 y573 x32_3).f2)))
                         rw [← Ny586.out] at HP73
                         have HQ73 := Aside0.mk HP73
                         clear HP73
                         refine start_ (n := 10) (S := fun w' => w'.cell? ⟨gb584, 0, none⟩ = some (.int .i64 ((rd_T88 l0_1 ((rd_T56 y573 x32_3).f1)).f0)) ∧ w'.cell? ⟨gb584, 1, none⟩ = some (.int .i64 ((rd_T88 l0_1 ((rd_T56 y573 x32_3).f1)).f1)) ∧ w'.cell? ⟨gb581, 0, none⟩ = some (.int .i64 ((rd_T56 y573 x32_3).f0)) ∧ w'.cell? ⟨gb581, 1, none⟩ = some (.int .i64 ((rd_T56 y573 x32_3).f1)) ∧ w'.cell? ⟨gb581, 2, none⟩ = some (.int .i64 ((rd_T56 y573 x32_3).f2)) ∧ w'.cell? ⟨go43, (((rd_T88 l0_1 ((rd_T56 y573 x32_3).f1)).f0)).toNat, none⟩ = some (.int .i64 (rd x7_3 ((rd_T88 l0_1 ((rd_T56 y573 x32_3).f1)).f0)))) (ds := [9]) #[false, false, false, false, false, false, false, false, false, false] (by kernel_rfl) rfl rfl ⟨(blk_cell BK584.out 0).trans rfl, (blk_cell BK584.out 1).trans rfl, (blk_cell BK581.out 0).trans rfl, (blk_cell BK581.out 1).trans rfl, (blk_cell BK581.out 2).trans rfl, hx585_0⟩ (fun hHeld => ?_); refine with_tabW spec_Truth.tab14 spec_Truth.bits14 (fun HT_ HW_ => ?_)
                         generalize w70.drew = w71 at HO_5 HO_7 BK568 BK581 BK584 HB GG43 HQ73 hf43_0 hx43_0 hx585_0 hHeld ⊢
                         refine pure_ (i := 0) (N := some 54) (v := ?_) (a' := ?_) #[true, false, false, false, false, false, false, false, false, false] rfl rfl (any_of HT_.out (by kernel_rfl)) (fun _ _ _ h => h) (Or.inl ⟨by rfl, ?_⟩) ?_ ?_
                         rotate_left
                         ·intro w'
                          go_simp
                          with_reducible rfl
                         rotate_left
                         ·simp only [Act.put, List.setIfInBounds_toArray, List.set_cons_zero, List.set_cons_succ, i64_w, i32_w]
                          rfl
                         refine pure_ (i := 1) (N := some 55) (v := ?_) (a' := ?_) #[true, true, false, false, false, false, false, false, false, false] rfl rfl (any_of HT_.out (by kernel_rfl)) (fun _ _ _ h => h) (Or.inl ⟨by rfl, ?_⟩) ?_ ?_
                         rotate_left
                         ·intro w'
                          go_simp
                          with_reducible rfl
                         rotate_left
                         ·simp only [Act.put, List.setIfInBounds_toArray, List.set_cons_zero, List.set_cons_succ, i64_w, i32_w]
                          rfl
                         refine pure_ (i := 5) (N := some 59) (v := ?_) (a' := ?_) #[true, true, false, false, false, true, false, false, false, false] rfl rfl (any_of HT_.out (by kernel_rfl)) (fun _ _ _ h => h) (Or.inl ⟨by rfl, ?_⟩) ?_ ?_
                         rotate_left
                         ·intro w'
                          go_simp
                          with_reducible rfl
                         rotate_left
                         ·simp only [Act.put, List.setIfInBounds_toArray, List.set_cons_zero, List.set_cons_succ, i64_w, i32_w]
                          rfl
                         refine take_ (i := 2) (N := some 56) (v := ?_) (a' := ?_) #[true, true, true, false, false, true, false, false, false, false] rfl rfl (take_ofW HT_.out HW_.out (by kernel_rfl)) (fun _ _ _ h => h) (Or.inl ⟨by rfl, ?_⟩) hHeld ?_ ?_
                         rotate_left
                         ·rintro w' ⟨s0, s1, s2, s3, s4, s5⟩
                          go_simp
                          with_reducible rfl
                         rotate_left
                         ·simp only [Act.put, List.setIfInBounds_toArray, List.set_cons_zero, List.set_cons_succ, i64_w, i32_w]
                          rfl
                         refine pure_ (i := 3) (N := some 57) (v := ?_) (a' := ?_) #[true, true, true, true, false, true, false, false, false, false] rfl rfl (any_of HT_.out (by kernel_rfl)) (fun _ _ _ h => h) (Or.inl ⟨by rfl, ?_⟩) ?_ ?_
                         rotate_left
                         ·intro w'
                          go_simp
                          with_reducible rfl
                         rotate_left
                         ·simp only [Act.put, List.setIfInBounds_toArray, List.set_cons_zero, List.set_cons_succ, i64_w, i32_w]
                          rfl
                         refine take_ (i := 4) (N := some 58) (v := ?_) (a' := ?_) #[true, true, true, true, true, true, false, false, false, false] rfl rfl (take_ofW HT_.out HW_.out (by kernel_rfl)) (fun _ _ _ h => h) (Or.inl ⟨by rfl, ?_⟩) hHeld ?_ ?_
                         rotate_left
                         ·rintro w' ⟨s0, s1, s2, s3, s4, s5⟩
                          go_simp
                          with_reducible rfl
                         rotate_left
                         ·simp only [Act.put, List.setIfInBounds_toArray, List.set_cons_zero, List.set_cons_succ, i64_w, i32_w]
                          rfl
                         refine take_ (i := 6) (N := some 60) (v := ?_) (a' := ?_) #[true, true, true, true, true, true, true, false, false, false] rfl rfl (take_ofW HT_.out HW_.out (by kernel_rfl)) (fun _ _ _ h => h) (Or.inl ⟨by rfl, ?_⟩) hHeld ?_ ?_
                         rotate_left
                         ·rintro w' ⟨s0, s1, s2, s3, s4, s5⟩
                          go_simp
                          with_reducible rfl
                         rotate_left
                         ·simp only [Act.put, List.setIfInBounds_toArray, List.set_cons_zero, List.set_cons_succ, i64_w, i32_w]
                          rfl
                         refine pure_ (i := 7) (N := some 61) (v := ?_) (a' := ?_) #[true, true, true, true, true, true, true, true, false, false] rfl rfl (any_of HT_.out (by kernel_rfl)) (fun _ _ _ h => h) (Or.inl ⟨by rfl, ?_⟩) ?_ ?_
                         rotate_left
                         ·intro w'
                          go_simp
                          with_reducible rfl
                         rotate_left
                         ·simp only [Act.put, List.setIfInBounds_toArray, List.set_cons_zero, List.set_cons_succ, i64_w, i32_w]
                          rfl
                         refine pure_ (i := 8) (N := some 62) (v := ?_) (a' := ?_) #[true, true, true, true, true, true, true, true, true, false] rfl rfl (any_of HT_.out (by kernel_rfl)) (fun _ _ _ h => h) (Or.inl ⟨by rfl, ?_⟩) ?_ ?_
                         rotate_left
                         ·intro w'
                          go_simp
                          with_reducible rfl
                         rotate_left
                         ·simp only [Act.put, List.setIfInBounds_toArray, List.set_cons_zero, List.set_cons_succ, i64_w, i32_w]
                          rfl
                         refine last_ (i := 9) (N := none) #[true, true, true, true, true, true, true, true, true, true] rfl rfl (one_of HT_.out (by kernel_rfl)) (by decide) (fun K hK => ?_)
                         refine skip_ (w1 := ?_) (by rfl) rfl ?_ ?_
                         rotate_left
                         ·go_simp
                          rfl
                         refine hK.out _ _ ?_
                         clear hK K
                         refine done_ (done_of HT_.out (by kernel_rfl)) ?_
                         have hnx_ : gb584 ≠ go43 := (by have h_ := Kd.R_ne HO_7.out BK584.out (by decide); intro e_; exact h_ (by rw [e_]; rfl))
                         have hny_ : go43 ≠ gb584 := fun e_ => hnx_ e_.symm
                         have hcz74_0 : w71.cell? ⟨gb584, 0, none⟩ = some (.int .i64 ((rd_T88 l0_1 ((rd_T56 y573 x32_3).f1)).f0)) := (blk_cell BK584.out 0).trans rfl
                         have hcz74_1 : w71.cell? ⟨gb584, 1, none⟩ = some (.int .i64 ((rd_T88 l0_1 ((rd_T56 y573 x32_3).f1)).f1)) := (blk_cell BK584.out 1).trans rfl
                         have hfz74_0 := blk_frozen BK584.out 0
                         have hfz74_1 := blk_frozen BK584.out 1
                         try go_wp2
                         go_roundg kj24
                         case measure => have := HJ2.out; have := HK2.out; have := HK3.out; have := HJ24.out; omega
                         case rel => exact ⟨(y586), (wrap64 (x32_3 + 1)), (by first | rfl | (simp; done) | (simp [*]; done)), H', ⟨by have := HJ2.out; have := HK2.out; have := HK3.out; have := HJ24.out; omega⟩, ⟨by (with_reducible repeat (first | apply Kd.S_alloc | apply Kd.S_drewN | apply Kd.S_drew)); exact Kd.S_mono (Kd.S_far (p := ⟨go43, (((rd_T88 l0_1 ((rd_T56 y573 x32_3).f1)).f0) : Int).toNat, none⟩) (Kd.S_mono HO_5.out (fun k_ hk => (⟨hk, fun e_ => hk (by rw [e_]; rfl)⟩ : _ ∧ k_ ≠ go43))) (fun _ hk => hk.2) (.int .i64 (wrap64 ((rd x7_3 ((rd_T88 l0_1 ((rd_T56 y573 x32_3).f1)).f0)) - ((rd_T56 y573 x32_3).f2))))) (fun _ hk => hk.1)⟩, ⟨by (with_reducible repeat (first | apply Kd.R_alloc | apply Kd.R_drewN | apply Kd.R_drew)); exact HQ73.out⟩, ⟨by (with_reducible repeat (first | refine blk_drewN ?_ _ | refine blk_drew ?_ | refine blk_alloc ?_ _)); refine blk_far ?_ (by have h_ := Kd.R_ne HO_7.out BK568.out (by decide); intro e_; exact h_ (by rw [e_]; rfl)) _; (with_reducible repeat (first | refine blk_drewN ?_ _ | refine blk_drew ?_ | refine blk_alloc ?_ _)); exact BK568.out⟩, ⟨by repeat (first | (with_reducible first | exact HB.out | apply below_alloc | apply pw_below_drewN | apply below_drew1 | refine below_set ?_ GB43.out | refine below_set ?_ GE568.out | refine below_set ?_ GE581.out | refine below_set ?_ GE584.out) | exact HB.out)⟩⟩
                       ·rw [if_neg c42] at H
                        exact absurd H (by simp)
                      ·rw [if_neg c41] at H
                       exact absurd H (by simp)
                     ·rw [if_neg c40] at H
                      have c40b0 : decide (0 ≤ ((rd_T88 l0_1 ((rd_T56 y573 x32_3).f1)).f0)) = false := decide_eq_false c40
                      clear c40
                      by_cases c75 : ((rd_T88 l0_1 ((rd_T56 y573 x32_3).f1)).f1) ≥ 0
                      ·rw [if_pos c75] at H
                       have c75b0 : decide (0 ≤ ((rd_T88 l0_1 ((rd_T56 y573 x32_3).f1)).f1)) = true := decide_eq_true c75
                       clear c75
                       by_cases c76 : 0 ≤ ((rd_T88 l0_1 ((rd_T56 y573 x32_3).f1)).f1)
                       ·rw [if_pos c76] at H
                        have c76b0 : decide (0 ≤ ((rd_T88 l0_1 ((rd_T56 y573 x32_3).f1)).f1)) = true := decide_eq_true c76
                        clear c76
                        by_cases c77 : ((rd_T88 l0_1 ((rd_T56 y573 x32_3).f1)).f1) < (x7_3.length : Int)
                        ·rw [if_pos c77] at H
                         have c77b0 : decide (((rd_T88 l0_1 ((rd_T56 y573 x32_3).f1)).f1) < (x7_3.length : Int)) = true := decide_eq_true c77
                         clear c77
                         obtain ⟨y590, hy590⟩ : ∃ y_ : List Int, y_ = (x7_3.set (((rd_T88 l0_1 ((rd_T56 y573 x32_3).f1)).f1) : Int).toNat (wrap64 ((rd x7_3 ((rd_T88 l0_1 ((rd_T56 y573 x32_3).f1)).f1)) + ((rd_T56 y573 x32_3).f2)))) := ⟨_, rfl⟩
                         replace H : (spec_Truth.l1 kj24 l1 x5_2 y590 (l1.length : Int) x21_2 y573 (y573.length : Int) (wrap64 (x32_3 + 1)) a0_0 l0_1) = some r := by first | (rw [hy590]; with_reducible exact H) | (have H2_ := (Option.bind_some _ _).symm.trans H; rw [hy590]; with_reducible exact H2_) | (have H2_ := (Option.bind_some _ _).symm.trans H; with_reducible exact H2_) | with_reducible exact H | (rw [hy590]; exact H) | exact H
                         have Ny590 := Aside0.mk hy590
                         clear hy590
                         have H' := Aside0.mk H
                         clear H
                         have hnb79 := NB568_581.out
                         have hnc79 := NB581_568.out
                         have hcz80_0 : wc.cell? ⟨gb568, 0, none⟩ = some (.int .i64 a0_0) := (blk_cell BK568.out 0).trans rfl
                         have hcz80_1 : wc.cell? ⟨gb568, 1, none⟩ = some (.slice A0_1 l0_1.length c0_1) := (blk_cell BK568.out 1).trans rfl
                         have hfz80_0 := blk_frozen BK568.out 0
                         have hfz80_1 := blk_frozen BK568.out 1
                         have hcz81_0 : wc.cell? ⟨gb581, 0, none⟩ = some (.int .i64 ((rd_T56 y573 x32_3).f0)) := (blk_cell BK581.out 0).trans rfl
                         have hcz81_1 : wc.cell? ⟨gb581, 1, none⟩ = some (.int .i64 ((rd_T56 y573 x32_3).f1)) := (blk_cell BK581.out 1).trans rfl
                         have hcz81_2 : wc.cell? ⟨gb581, 2, none⟩ = some (.int .i64 ((rd_T56 y573 x32_3).f2)) := (blk_cell BK581.out 2).trans rfl
                         have hfz81_0 := blk_frozen BK581.out 0
                         have hfz81_1 := blk_frozen BK581.out 1
                         have hfz81_2 := blk_frozen BK581.out 2
                         have p583 : 0 ≤ (((rd_T56 y573 x32_3).f1) : Int) := of_decide_eq_true (by first | (with_reducible assumption) | assumption)
                         have q583 : ((rd_T56 y573 x32_3).f1) < (l0_1.length : Int) := of_decide_eq_true (by first | (with_reducible assumption) | assumption)
                         obtain ⟨ad583, e583, hx583_0, hx583_1⟩ := at_T88 HR0_1.out ((rd_T56 y573 x32_3).f1) p583 q583
                         cases e583
                         replace hx583_0 := (HB.out.cell (World.block_lt_of_cell? w _ hx583_0)).trans hx583_0
                         replace hx583_1 := (HB.out.cell (World.block_lt_of_cell? w _ hx583_1)).trans hx583_1
                         replace p583 := eq_true p583
                         replace q583 := eq_true q583
                         try go_wp2_with (first | ((with_reducible refine gate_dst (N := 10) rfl ?_); (try (refine gate_guard (by rfl) ?_; dsimp only)); refine box_event ?hg (N := 10) ?hd (cs := #[.int .i64 0, .int .i64 0]) (t := 88) ?hr ?_; (case hd => rfl); (case hg => rfl); (case hr => first | (go_simp; done) | (go_simp; rfl)); intro gb584 hg w82 hbox hb; have n0_ := Aside0.mk (Kd.S_below (by (with_reducible repeat (first | apply Kd.S_alloc | apply Kd.S_drewN | apply Kd.S_drew)); exact HO_5.out) hb); have n1_ := Aside0.mk (Kd.R_below (by (with_reducible repeat (first | apply Kd.R_alloc | apply Kd.R_drewN | apply Kd.R_drew)); exact HO_7.out) hb); have n2_ := Aside0.mk (blk_below (g := gb568) (o := .cells #[.int .i64 a0_0, .slice (some ad583) l0_1.length c0_1] 30 (0, 0)) (by (with_reducible repeat (first | refine blk_drewN ?_ _ | refine blk_drew ?_ | refine blk_alloc ?_ _)); exact BK568.out) hb); have n3_ := Aside0.mk (blk_below (g := gb581) (o := .cells #[.int .i64 ((rd_T56 y573 x32_3).f0), .int .i64 ((rd_T56 y573 x32_3).f1), .int .i64 ((rd_T56 y573 x32_3).f2)] 56 (0, 0)) (by (with_reducible repeat (first | refine blk_drewN ?_ _ | refine blk_drew ?_ | refine blk_alloc ?_ _)); exact BK581.out) hb); have n4_ := Aside0.mk (below_step (by repeat (first | (with_reducible first | exact HB.out | apply below_alloc | apply pw_below_drewN | apply below_drew1 | refine below_set ?_ GE568.out | refine below_set ?_ GE581.out) | exact HB.out)) hb); have n5_ := Aside0.mk (hbox); have n6_ := Aside0.mk ((by rw [hg]; exact (below_size (by repeat (first | (with_reducible first | exact HB.out | apply below_alloc | apply pw_below_drewN | apply below_drew1 | refine below_set ?_ GE568.out | refine below_set ?_ GE581.out) | exact HB.out))) : w.heap.size ≤ gb584)); have n7_ := Aside0.mk ((by rw [hg]; exact (below_size (by repeat (first | (with_reducible first | exact HB.out | apply below_alloc | apply pw_below_drewN | apply below_drew1 | refine below_set ?_ GE568.out | refine below_set ?_ GE581.out) | exact HB.out))) : w.heap.size ≤ gb584)); have n8_ := Aside0.mk ((by rw [hg]; exact Nat.ne_of_lt (blk_lt (g := gb568) (o := .cells #[.int .i64 a0_0, .slice (some ad583) l0_1.length c0_1] 30 (0, 0)) (by (with_reducible repeat (first | refine blk_drewN ?_ _ | refine blk_drew ?_ | refine blk_alloc ?_ _)); exact BK568.out)) : gb568 ≠ gb584)); have n9_ := Aside0.mk ((by rw [hg]; exact Nat.ne_of_gt (blk_lt (g := gb568) (o := .cells #[.int .i64 a0_0, .slice (some ad583) l0_1.length c0_1] 30 (0, 0)) (by (with_reducible repeat (first | refine blk_drewN ?_ _ | refine blk_drew ?_ | refine blk_alloc ?_ _)); exact BK568.out)) : gb584 ≠ gb568)); have n10_ := Aside0.mk ((by rw [hg]; exact Nat.ne_of_lt (blk_lt (g := gb581) (o := .cells #[.int .i64 ((rd_T56 y573 x32_3).f0), .int .i64 ((rd_T56 y573 x32_3).f1), .int .i64 ((rd_T56 y573 x32_3).f2)] 56 (0, 0)) (by (with_reducible repeat (first | refine blk_drewN ?_ _ | refine blk_drew ?_ | refine blk_alloc ?_ _)); exact BK581.out)) : gb581 ≠ gb584)); have n11_ := Aside0.mk ((by rw [hg]; exact Nat.ne_of_gt (blk_lt (g := gb581) (o := .cells #[.int .i64 ((rd_T56 y573 x32_3).f0), .int .i64 ((rd_T56 y573 x32_3).f1), .int .i64 ((rd_T56 y573 x32_3).f2)] 56 (0, 0)) (by (with_reducible repeat (first | refine blk_drewN ?_ _ | refine blk_drew ?_ | refine blk_alloc ?_ _)); exact BK581.out)) : gb584 ≠ gb581)); clear HO_5; clear HO_7; clear BK568; clear BK581; clear HB; have HO_5 := n0_; have HO_7 := n1_; have BK568 := n2_; have BK581 := n3_; have HB := n4_; have BK584 := n5_; have GW584 := n6_; have GE584 := n7_; have NB568_584 := n8_; have NB584_568 := n9_; have NB581_584 := n10_; have NB584_581 := n11_; clear n0_ n1_ n2_ n3_ n4_ n5_ n6_ n7_ n8_ n9_ n10_ n11_; clear hb hbox hg; have hnb83 := NB584_568.out; have hnc83 := NB568_584.out; have hnb84 := NB584_581.out; have hnc84 := NB581_584.out; have hcz85_0 : w82.cell? ⟨gb584, 0, none⟩ = some (.int .i64 0) := (blk_cell BK584.out 0).trans rfl; have hcz85_1 : w82.cell? ⟨gb584, 1, none⟩ = some (.int .i64 0) := (blk_cell BK584.out 1).trans rfl; have hfz85_0 := blk_frozen BK584.out 0; have hfz85_1 := blk_frozen BK584.out 1))
                         have n0_ : Aside0 (Kd.S (Kd.slice 3 (Kd.int .i64)) 59 ((w82.setCell ⟨gb584, 0, none⟩ (.int .i64 ((rd_T88 l0_1 ((rd_T56 y573 x32_3).f1)).f0))).setCell ⟨gb584, 1, none⟩ (.int .i64 ((rd_T88 l0_1 ((rd_T56 y573 x32_3).f1)).f1))) w.heap.size (fun k_ => some k_ ≠ (v571 : Value).ownBlock) u5 x5_2) := ⟨by (with_reducible repeat (first | apply Kd.S_alloc | apply Kd.S_drewN | apply Kd.S_drew)); exact Kd.S_mono (Kd.S_far (p := ⟨gb584, 1, none⟩) (Kd.S_far (p := ⟨gb584, 0, none⟩) (Kd.S_types HO_5.out BK584.out (by decide)) (fun _ hk => hk.2) (.int .i64 ((rd_T88 l0_1 ((rd_T56 y573 x32_3).f1)).f0))) (fun _ hk => hk.2) (.int .i64 ((rd_T88 l0_1 ((rd_T56 y573 x32_3).f1)).f1))) (fun _ hk => hk.1)⟩
                         have n1_ : Aside0 (Kd.R (Kd.int .i64) 3 ((w82.setCell ⟨gb584, 0, none⟩ (.int .i64 ((rd_T88 l0_1 ((rd_T56 y573 x32_3).f1)).f0))).setCell ⟨gb584, 1, none⟩ (.int .i64 ((rd_T88 l0_1 ((rd_T56 y573 x32_3).f1)).f1))) w.heap.size (fun _ => True) v571 x7_3) := ⟨by (with_reducible repeat (first | apply Kd.R_alloc | apply Kd.R_drewN | apply Kd.R_drew)); exact Kd.R_mono (Kd.R_far (p := ⟨gb584, 1, none⟩) (Kd.R_far (p := ⟨gb584, 0, none⟩) (Kd.R_types HO_7.out BK584.out (by decide)) (fun _ hk => hk.2) (.int .i64 ((rd_T88 l0_1 ((rd_T56 y573 x32_3).f1)).f0))) (fun _ hk => hk.2) (.int .i64 ((rd_T88 l0_1 ((rd_T56 y573 x32_3).f1)).f1))) (fun _ hk => trivial)⟩
                         have n2_ : Aside0 (((w82.setCell ⟨gb584, 0, none⟩ (.int .i64 ((rd_T88 l0_1 ((rd_T56 y573 x32_3).f1)).f0))).setCell ⟨gb584, 1, none⟩ (.int .i64 ((rd_T88 l0_1 ((rd_T56 y573 x32_3).f1)).f1))).heap[gb568]? = some (.cells #[.int .i64 a0_0, .slice (some ad583) l0_1.length c0_1] 30 (0, 0))) := ⟨by (with_reducible repeat (first | refine blk_drewN ?_ _ | refine blk_drew ?_ | refine blk_alloc ?_ _)); refine blk_far ?_ NB568_584.out _; (with_reducible repeat (first | refine blk_drewN ?_ _ | refine blk_drew ?_ | refine blk_alloc ?_ _)); refine blk_far ?_ NB568_584.out _; (with_reducible repeat (first | refine blk_drewN ?_ _ | refine blk_drew ?_ | refine blk_alloc ?_ _)); exact BK568.out⟩
                         have n3_ : Aside0 (((w82.setCell ⟨gb584, 0, none⟩ (.int .i64 ((rd_T88 l0_1 ((rd_T56 y573 x32_3).f1)).f0))).setCell ⟨gb584, 1, none⟩ (.int .i64 ((rd_T88 l0_1 ((rd_T56 y573 x32_3).f1)).f1))).heap[gb581]? = some (.cells #[.int .i64 ((rd_T56 y573 x32_3).f0), .int .i64 ((rd_T56 y573 x32_3).f1), .int .i64 ((rd_T56 y573 x32_3).f2)] 56 (0, 0))) := ⟨by (with_reducible repeat (first | refine blk_drewN ?_ _ | refine blk_drew ?_ | refine blk_alloc ?_ _)); refine blk_far ?_ NB581_584.out _; (with_reducible repeat (first | refine blk_drewN ?_ _ | refine blk_drew ?_ | refine blk_alloc ?_ _)); refine blk_far ?_ NB581_584.out _; (with_reducible repeat (first | refine blk_drewN ?_ _ | refine blk_drew ?_ | refine blk_alloc ?_ _)); exact BK581.out⟩
                         have n4_ : Aside0 (((w82.setCell ⟨gb584, 0, none⟩ (.int .i64 ((rd_T88 l0_1 ((rd_T56 y573 x32_3).f1)).f0))).setCell ⟨gb584, 1, none⟩ (.int .i64 ((rd_T88 l0_1 ((rd_T56 y573 x32_3).f1)).f1))).heap[gb584]? = some (.cells #[.int .i64 ((rd_T88 l0_1 ((rd_T56 y573 x32_3).f1)).f0), .int .i64 ((rd_T88 l0_1 ((rd_T56 y573 x32_3).f1)).f1)] 88 (0, 0))) := ⟨by (with_reducible repeat (first | refine blk_drewN ?_ _ | refine blk_drew ?_ | refine blk_alloc ?_ _)); refine blk_put (cs := #[.int .i64 ((rd_T88 l0_1 ((rd_T56 y573 x32_3).f1)).f0), .int .i64 0]) ?_ 1 _ rfl; (with_reducible repeat (first | refine blk_drewN ?_ _ | refine blk_drew ?_ | refine blk_alloc ?_ _)); refine blk_put (cs := #[.int .i64 0, .int .i64 0]) ?_ 0 _ rfl; (with_reducible repeat (first | refine blk_drewN ?_ _ | refine blk_drew ?_ | refine blk_alloc ?_ _)); exact BK584.out⟩
                         have n5_ : Aside0 (Below w.heap.size w ((w82.setCell ⟨gb584, 0, none⟩ (.int .i64 ((rd_T88 l0_1 ((rd_T56 y573 x32_3).f1)).f0))).setCell ⟨gb584, 1, none⟩ (.int .i64 ((rd_T88 l0_1 ((rd_T56 y573 x32_3).f1)).f1)))) := ⟨by repeat (first | (with_reducible first | exact HB.out | apply below_alloc | apply pw_below_drewN | apply below_drew1 | refine below_set ?_ GE568.out | refine below_set ?_ GE581.out | refine below_set ?_ GE584.out) | exact HB.out)⟩
                         (try clear HO_5)
                         (try clear HO_7)
                         (try clear BK568)
                         (try clear BK581)
                         (try clear BK584)
                         (try clear HB)
                         generalize ((w82.setCell ⟨gb584, 0, none⟩ (.int .i64 ((rd_T88 l0_1 ((rd_T56 y573 x32_3).f1)).f0))).setCell ⟨gb584, 1, none⟩ (.int .i64 ((rd_T88 l0_1 ((rd_T56 y573 x32_3).f1)).f1))) = w86 at n0_ n1_ n2_ n3_ n4_ n5_ ⊢
                         have HO_5 := n0_
                         have HO_7 := n1_
                         have BK568 := n2_
                         have BK581 := n3_
                         have BK584 := n4_
                         have HB := n5_
                         clear n0_ n1_ n2_ n3_ n4_ n5_
                         have n0_ := Aside0.mk (Kd.S_drew HO_5.out)
                         have n1_ := Aside0.mk (Kd.R_drew HO_7.out)
                         have n2_ := Aside0.mk (blk_drew BK568.out)
                         have n3_ := Aside0.mk (blk_drew BK581.out)
                         have n4_ := Aside0.mk (blk_drew BK584.out)
                         have n5_ := Aside0.mk (below_drew1 HB.out)
                         clear HO_5
                         clear HO_7
                         clear BK568
                         clear BK581
                         clear BK584
                         clear HB
                         have HO_5 := n0_
                         have HO_7 := n1_
                         have BK568 := n2_
                         have BK581 := n3_
                         have BK584 := n4_
                         have HB := n5_
                         clear n0_ n1_ n2_ n3_ n4_ n5_
                         obtain ⟨Ao88, co88, eo88⟩ := Kd.R_slice HO_7.out
                         (first | subst eo88 | (injection eo88 with f1_ f2_ f3_; have f4_ := f1_.symm; have f5_ := f3_.symm; clear f1_ f2_ f3_; subst f4_; subst f5_))
                         have p589 : 0 ≤ (((rd_T88 l0_1 ((rd_T56 y573 x32_3).f1)).f1) : Int) := of_decide_eq_true (by first | (with_reducible assumption) | assumption)
                         have q589 : ((rd_T88 l0_1 ((rd_T56 y573 x32_3).f1)).f1) < (x7_3.length : Int) := of_decide_eq_true (by first | (with_reducible assumption) | assumption)
                         obtain ⟨ad589, e589, hx589_0⟩ := Kd.at_int (Kd.R_reads' HO_7.out).2.2 ((rd_T88 l0_1 ((rd_T56 y573 x32_3).f1)).f1) p589 q589
                         cases e589
                         replace p589 := eq_true p589
                         replace q589 := eq_true q589
                         have p78 : 0 ≤ (((rd_T88 l0_1 ((rd_T56 y573 x32_3).f1)).f1) : Int) := of_decide_eq_true (by first | (with_reducible assumption) | assumption)
                         have q78 : (((rd_T88 l0_1 ((rd_T56 y573 x32_3).f1)).f1) : Int) < ((x7_3.length : Int) : Int) := of_decide_eq_true (by first | (with_reducible assumption) | assumption)
                         obtain ⟨go78, co78, eo78, gb78, gl78, cl78, HG78⟩ := Kd.R_form HO_7.out (by omega)
                         (first | cases eo78 | (injection eo78 with ea_ en_ ec_; (first | subst ea_ | (injection ea_ with ea_; subst ea_)); subst ec_; clear en_))
                         have GB78 := Aside0.mk gb78
                         have GG78 := Aside0.mk HG78
                         clear gb78 gl78 HG78
                         (first | simp only [add_plain] at hx589_0 | skip)
                         obtain ⟨hx78_0, hf78_0⟩ := Kd.R_celln 0 HO_7.out (((rd_T88 l0_1 ((rd_T56 y573 x32_3).f1)).f1) : Int) p78 q78
                         replace p78 := eq_true p78
                         replace q78 := eq_true q78
                         have HP89 := Kd.R_putn HO_7.out (((rd_T88 l0_1 ((rd_T56 y573 x32_3).f1)).f1) : Int) (wrap64 ((rd x7_3 ((rd_T88 l0_1 ((rd_T56 y573 x32_3).f1)).f1)) + ((rd_T56 y573 x32_3).f2)))
                         rw [← Ny590.out] at HP89
                         have HQ89 := Aside0.mk HP89
                         clear HP89
                         refine start_ (n := 10) (S := fun w' => w'.cell? ⟨gb584, 0, none⟩ = some (.int .i64 ((rd_T88 l0_1 ((rd_T56 y573 x32_3).f1)).f0)) ∧ w'.cell? ⟨gb584, 1, none⟩ = some (.int .i64 ((rd_T88 l0_1 ((rd_T56 y573 x32_3).f1)).f1)) ∧ w'.cell? ⟨gb581, 0, none⟩ = some (.int .i64 ((rd_T56 y573 x32_3).f0)) ∧ w'.cell? ⟨gb581, 1, none⟩ = some (.int .i64 ((rd_T56 y573 x32_3).f1)) ∧ w'.cell? ⟨gb581, 2, none⟩ = some (.int .i64 ((rd_T56 y573 x32_3).f2)) ∧ w'.cell? ⟨go78, (((rd_T88 l0_1 ((rd_T56 y573 x32_3).f1)).f1)).toNat, none⟩ = some (.int .i64 (rd x7_3 ((rd_T88 l0_1 ((rd_T56 y573 x32_3).f1)).f1)))) (ds := [9]) #[false, false, false, false, false, false, false, false, false, false] (by kernel_rfl) rfl rfl ⟨(blk_cell BK584.out 0).trans rfl, (blk_cell BK584.out 1).trans rfl, (blk_cell BK581.out 0).trans rfl, (blk_cell BK581.out 1).trans rfl, (blk_cell BK581.out 2).trans rfl, hx589_0⟩ (fun hHeld => ?_); refine with_tabW spec_Truth.tab16 spec_Truth.bits16 (fun HT_ HW_ => ?_)
                         generalize w86.drew = w87 at HO_5 HO_7 BK568 BK581 BK584 HB GG78 HQ89 hf78_0 hx589_0 hx78_0 hHeld ⊢
                         refine pure_ (i := 0) (N := some 66) (v := ?_) (a' := ?_) #[true, false, false, false, false, false, false, false, false, false] rfl rfl (any_of HT_.out (by kernel_rfl)) (fun _ _ _ h => h) (Or.inl ⟨by rfl, ?_⟩) ?_ ?_
                         rotate_left
                         ·intro w'
                          go_simp
                          with_reducible rfl
                         rotate_left
                         ·simp only [Act.put, List.setIfInBounds_toArray, List.set_cons_zero, List.set_cons_succ, i64_w, i32_w]
                          rfl
                         refine pure_ (i := 1) (N := some 67) (v := ?_) (a' := ?_) #[true, true, false, false, false, false, false, false, false, false] rfl rfl (any_of HT_.out (by kernel_rfl)) (fun _ _ _ h => h) (Or.inl ⟨by rfl, ?_⟩) ?_ ?_
                         rotate_left
                         ·intro w'
                          go_simp
                          with_reducible rfl
                         rotate_left
                         ·simp only [Act.put, List.setIfInBounds_toArray, List.set_cons_zero, List.set_cons_succ, i64_w, i32_w]
                          rfl
                         refine pure_ (i := 5) (N := some 71) (v := ?_) (a' := ?_) #[true, true, false, false, false, true, false, false, false, false] rfl rfl (any_of HT_.out (by kernel_rfl)) (fun _ _ _ h => h) (Or.inl ⟨by rfl, ?_⟩) ?_ ?_
                         rotate_left
                         ·intro w'
                          go_simp
                          with_reducible rfl
                         rotate_left
                         ·simp only [Act.put, List.setIfInBounds_toArray, List.set_cons_zero, List.set_cons_succ, i64_w, i32_w]
                          rfl
                         refine take_ (i := 2) (N := some 68) (v := ?_) (a' := ?_) #[true, true, true, false, false, true, false, false, false, false] rfl rfl (take_ofW HT_.out HW_.out (by kernel_rfl)) (fun _ _ _ h => h) (Or.inl ⟨by rfl, ?_⟩) hHeld ?_ ?_
                         rotate_left
                         ·rintro w' ⟨s0, s1, s2, s3, s4, s5⟩
                          go_simp
                          with_reducible rfl
                         rotate_left
                         ·simp only [Act.put, List.setIfInBounds_toArray, List.set_cons_zero, List.set_cons_succ, i64_w, i32_w]
                          rfl
                         refine pure_ (i := 3) (N := some 69) (v := ?_) (a' := ?_) #[true, true, true, true, false, true, false, false, false, false] rfl rfl (any_of HT_.out (by kernel_rfl)) (fun _ _ _ h => h) (Or.inl ⟨by rfl, ?_⟩) ?_ ?_
                         rotate_left
                         ·intro w'
                          go_simp
                          with_reducible rfl
                         rotate_left
                         ·simp only [Act.put, List.setIfInBounds_toArray, List.set_cons_zero, List.set_cons_succ, i64_w, i32_w]
                          rfl
                         refine take_ (i := 4) (N := some 70) (v := ?_) (a' := ?_) #[true, true, true, true, true, true, false, false, false, false] rfl rfl (take_ofW HT_.out HW_.out (by kernel_rfl)) (fun _ _ _ h => h) (Or.inl ⟨by rfl, ?_⟩) hHeld ?_ ?_
                         rotate_left
                         ·rintro w' ⟨s0, s1, s2, s3, s4, s5⟩
                          go_simp
                          with_reducible rfl
                         rotate_left
                         ·simp only [Act.put, List.setIfInBounds_toArray, List.set_cons_zero, List.set_cons_succ, i64_w, i32_w]
                          rfl
                         refine take_ (i := 6) (N := some 72) (v := ?_) (a' := ?_) #[true, true, true, true, true, true, true, false, false, false] rfl rfl (take_ofW HT_.out HW_.out (by kernel_rfl)) (fun _ _ _ h => h) (Or.inl ⟨by rfl, ?_⟩) hHeld ?_ ?_
                         rotate_left
                         ·rintro w' ⟨s0, s1, s2, s3, s4, s5⟩
                          go_simp
                          with_reducible rfl
                         rotate_left
                         ·simp only [Act.put, List.setIfInBounds_toArray, List.set_cons_zero, List.set_cons_succ, i64_w, i32_w]
                          rfl
                         refine pure_ (i := 7) (N := some 73) (v := ?_) (a' := ?_) #[true, true, true, true, true, true, true, true, false, false] rfl rfl (any_of HT_.out (by kernel_rfl)) (fun _ _ _ h => h) (Or.inl ⟨by rfl, ?_⟩) ?_ ?_
                         rotate_left
                         ·intro w'
                          go_simp
                          with_reducible rfl
                         rotate_left
                         ·simp only [Act.put, List.setIfInBounds_toArray, List.set_cons_zero, List.set_cons_succ, i64_w, i32_w]
                          rfl
                         refine pure_ (i := 8) (N := some 74) (v := ?_) (a' := ?_) #[true, true, true, true, true, true, true, true, true, false] rfl rfl (any_of HT_.out (by kernel_rfl)) (fun _ _ _ h => h) (Or.inl ⟨by rfl, ?_⟩) ?_ ?_
                         rotate_left
                         ·intro w'
                          go_simp
                          with_reducible rfl
                         rotate_left
                         ·simp only [Act.put, List.setIfInBounds_toArray, List.set_cons_zero, List.set_cons_succ, i64_w, i32_w]
                          rfl
                         refine last_ (i := 9) (N := none) #[true, true, true, true, true, true, true, true, true, true] rfl rfl (one_of HT_.out (by kernel_rfl)) (by decide) (fun K hK => ?_)
                         refine skip_ (w1 := ?_) (by rfl) rfl ?_ ?_
                         rotate_left
                         ·go_simp
                          rfl
                         refine hK.out _ _ ?_
                         clear hK K
                         refine done_ (done_of HT_.out (by kernel_rfl)) ?_
                         try go_wp2
                         go_roundg kj24
                         case measure => have := HJ2.out; have := HK2.out; have := HK3.out; have := HJ24.out; omega
                         case rel => exact ⟨(y590), (wrap64 (x32_3 + 1)), (by first | rfl | (simp; done) | (simp [*]; done)), H', ⟨by have := HJ2.out; have := HK2.out; have := HK3.out; have := HJ24.out; omega⟩, ⟨by (with_reducible repeat (first | apply Kd.S_alloc | apply Kd.S_drewN | apply Kd.S_drew)); exact Kd.S_mono (Kd.S_far (p := ⟨go78, (((rd_T88 l0_1 ((rd_T56 y573 x32_3).f1)).f1) : Int).toNat, none⟩) (Kd.S_mono HO_5.out (fun k_ hk => (⟨hk, fun e_ => hk (by rw [e_]; rfl)⟩ : _ ∧ k_ ≠ go78))) (fun _ hk => hk.2) (.int .i64 (wrap64 ((rd x7_3 ((rd_T88 l0_1 ((rd_T56 y573 x32_3).f1)).f1)) + ((rd_T56 y573 x32_3).f2))))) (fun _ hk => hk.1)⟩, ⟨by (with_reducible repeat (first | apply Kd.R_alloc | apply Kd.R_drewN | apply Kd.R_drew)); exact HQ89.out⟩, ⟨by (with_reducible repeat (first | refine blk_drewN ?_ _ | refine blk_drew ?_ | refine blk_alloc ?_ _)); refine blk_far ?_ (by have h_ := Kd.R_ne HO_7.out BK568.out (by decide); intro e_; exact h_ (by rw [e_]; rfl)) _; (with_reducible repeat (first | refine blk_drewN ?_ _ | refine blk_drew ?_ | refine blk_alloc ?_ _)); exact BK568.out⟩, ⟨by repeat (first | (with_reducible first | exact HB.out | apply below_alloc | apply pw_below_drewN | apply below_drew1 | refine below_set ?_ GB78.out | refine below_set ?_ GE568.out | refine below_set ?_ GE581.out | refine below_set ?_ GE584.out) | exact HB.out)⟩⟩
                        ·rw [if_neg c77] at H
                         exact absurd H (by simp)
                       ·rw [if_neg c76] at H
                        exact absurd H (by simp)
                      ·rw [if_neg c75] at H
                       have c75b0 : decide (0 ≤ ((rd_T88 l0_1 ((rd_T56 y573 x32_3).f1)).f1)) = false := decide_eq_false c75
                       clear c75
                       have H' := Aside0.mk H
                       clear H
                       have hnb90 := NB568_581.out
                       have hnc90 := NB581_568.out
                       have hcz91_0 : wc.cell? ⟨gb568, 0, none⟩ = some (.int .i64 a0_0) := (blk_cell BK568.out 0).trans rfl
                       have hcz91_1 : wc.cell? ⟨gb568, 1, none⟩ = some (.slice A0_1 l0_1.length c0_1) := (blk_cell BK568.out 1).trans rfl
                       have hfz91_0 := blk_frozen BK568.out 0
                       have hfz91_1 := blk_frozen BK568.out 1
                       have hcz92_0 : wc.cell? ⟨gb581, 0, none⟩ = some (.int .i64 ((rd_T56 y573 x32_3).f0)) := (blk_cell BK581.out 0).trans rfl
                       have hcz92_1 : wc.cell? ⟨gb581, 1, none⟩ = some (.int .i64 ((rd_T56 y573 x32_3).f1)) := (blk_cell BK581.out 1).trans rfl
                       have hcz92_2 : wc.cell? ⟨gb581, 2, none⟩ = some (.int .i64 ((rd_T56 y573 x32_3).f2)) := (blk_cell BK581.out 2).trans rfl
                       have hfz92_0 := blk_frozen BK581.out 0
                       have hfz92_1 := blk_frozen BK581.out 1
                       have hfz92_2 := blk_frozen BK581.out 2
                       have p583 : 0 ≤ (((rd_T56 y573 x32_3).f1) : Int) := of_decide_eq_true (by first | (with_reducible assumption) | assumption)
                       have q583 : ((rd_T56 y573 x32_3).f1) < (l0_1.length : Int) := of_decide_eq_true (by first | (with_reducible assumption) | assumption)
                       obtain ⟨ad583, e583, hx583_0, hx583_1⟩ := at_T88 HR0_1.out ((rd_T56 y573 x32_3).f1) p583 q583
                       cases e583
                       replace hx583_0 := (HB.out.cell (World.block_lt_of_cell? w _ hx583_0)).trans hx583_0
                       replace hx583_1 := (HB.out.cell (World.block_lt_of_cell? w _ hx583_1)).trans hx583_1
                       replace p583 := eq_true p583
                       replace q583 := eq_true q583
                       go_wp2_with (first | ((with_reducible refine gate_dst (N := 10) rfl ?_); (try (refine gate_guard (by rfl) ?_; dsimp only)); refine box_event ?hg (N := 10) ?hd (cs := #[.int .i64 0, .int .i64 0]) (t := 88) ?hr ?_; (case hd => rfl); (case hg => rfl); (case hr => first | (go_simp; done) | (go_simp; rfl)); intro gb584 hg w93 hbox hb; have n0_ := Aside0.mk (Kd.S_below (by (with_reducible repeat (first | apply Kd.S_alloc | apply Kd.S_drewN | apply Kd.S_drew)); exact HO_5.out) hb); have n1_ := Aside0.mk (Kd.R_below (by (with_reducible repeat (first | apply Kd.R_alloc | apply Kd.R_drewN | apply Kd.R_drew)); exact HO_7.out) hb); have n2_ := Aside0.mk (blk_below (g := gb568) (o := .cells #[.int .i64 a0_0, .slice (some ad583) l0_1.length c0_1] 30 (0, 0)) (by (with_reducible repeat (first | refine blk_drewN ?_ _ | refine blk_drew ?_ | refine blk_alloc ?_ _)); exact BK568.out) hb); have n3_ := Aside0.mk (blk_below (g := gb581) (o := .cells #[.int .i64 ((rd_T56 y573 x32_3).f0), .int .i64 ((rd_T56 y573 x32_3).f1), .int .i64 ((rd_T56 y573 x32_3).f2)] 56 (0, 0)) (by (with_reducible repeat (first | refine blk_drewN ?_ _ | refine blk_drew ?_ | refine blk_alloc ?_ _)); exact BK581.out) hb); have n4_ := Aside0.mk (below_step (by repeat (first | (with_reducible first | exact HB.out | apply below_alloc | apply pw_below_drewN | apply below_drew1 | refine below_set ?_ GE568.out | refine below_set ?_ GE581.out) | exact HB.out)) hb); have n5_ := Aside0.mk (hbox); have n6_ := Aside0.mk ((by rw [hg]; exact (below_size (by repeat (first | (with_reducible first | exact HB.out | apply below_alloc | apply pw_below_drewN | apply below_drew1 | refine below_set ?_ GE568.out | refine below_set ?_ GE581.out) | exact HB.out))) : w.heap.size ≤ gb584)); have n7_ := Aside0.mk ((by rw [hg]; exact (below_size (by repeat (first | (with_reducible first | exact HB.out | apply below_alloc | apply pw_below_drewN | apply below_drew1 | refine below_set ?_ GE568.out | refine below_set ?_ GE581.out) | exact HB.out))) : w.heap.size ≤ gb584)); have n8_ := Aside0.mk ((by rw [hg]; exact Nat.ne_of_lt (blk_lt (g := gb568) (o := .cells #[.int .i64 a0_0, .slice (some ad583) l0_1.length c0_1] 30 (0, 0)) (by (with_reducible repeat (first | refine blk_drewN ?_ _ | refine blk_drew ?_ | refine blk_alloc ?_ _)); exact BK568.out)) : gb568 ≠ gb584)); have n9_ := Aside0.mk ((by rw [hg]; exact Nat.ne_of_gt (blk_lt (g := gb568) (o := .cells #[.int .i64 a0_0, .slice (some ad583) l0_1.length c0_1] 30 (0, 0)) (by (with_reducible repeat (first | refine blk_drewN ?_ _ | refine blk_drew ?_ | refine blk_alloc ?_ _)); exact BK568.out)) : gb584 ≠ gb568)); have n10_ := Aside0.mk ((by rw [hg]; exact Nat.ne_of_lt (blk_lt (g := gb581) (o := .cells #[.int .i64 ((rd_T56 y573 x32_3).f0), .int .i64 ((rd_T56 y573 x32_3).f1), .int .i64 ((rd_T56 y573 x32_3).f2)] 56 (0, 0)) (by (with_reducible repeat (first | refine blk_drewN ?_ _ | refine blk_drew ?_ | refine blk_alloc ?_ _)); exact BK581.out)) : gb581 ≠ gb584)); have n11_ := Aside0.mk ((by rw [hg]; exact Nat.ne_of_gt (blk_lt (g := gb581) (o := .cells #[.int .i64 ((rd_T56 y573 x32_3).f0), .int .i64 ((rd_T56 y573 x32_3).f1), .int .i64 ((rd_T56 y573 x32_3).f2)] 56 (0, 0)) (by (with_reducible repeat (first | refine blk_drewN ?_ _ | refine blk_drew ?_ | refine blk_alloc ?_ _)); exact BK581.out)) : gb584 ≠ gb581)); clear HO_5; clear HO_7; clear BK568; clear BK581; clear HB; have HO_5 := n0_; have HO_7 := n1_; have BK568 := n2_; have BK581 := n3_; have HB := n4_; have BK584 := n5_; have GW584 := n6_; have GE584 := n7_; have NB568_584 := n8_; have NB584_568 := n9_; have NB581_584 := n10_; have NB584_581 := n11_; clear n0_ n1_ n2_ n3_ n4_ n5_ n6_ n7_ n8_ n9_ n10_ n11_; clear hb hbox hg; have hnb94 := NB584_568.out; have hnc94 := NB568_584.out; have hnb95 := NB584_581.out; have hnc95 := NB581_584.out; have hcz96_0 : w93.cell? ⟨gb584, 0, none⟩ = some (.int .i64 0) := (blk_cell BK584.out 0).trans rfl; have hcz96_1 : w93.cell? ⟨gb584, 1, none⟩ = some (.int .i64 0) := (blk_cell BK584.out 1).trans rfl; have hfz96_0 := blk_frozen BK584.out 0; have hfz96_1 := blk_frozen BK584.out 1))
                       go_roundg kj24
                       case measure => have := HJ2.out; have := HK2.out; have := HK3.out; have := HJ24.out; omega
                       case rel => exact ⟨(x7_3), (wrap64 (x32_3 + 1)), (by first | rfl | (simp; done) | (simp [*]; done)), H', ⟨by have := HJ2.out; have := HK2.out; have := HK3.out; have := HJ24.out; omega⟩, ⟨by (with_reducible repeat (first | apply Kd.S_alloc | apply Kd.S_drewN | apply Kd.S_drew)); exact Kd.S_mono (Kd.S_far (p := ⟨gb584, 1, none⟩) (Kd.S_far (p := ⟨gb584, 0, none⟩) (Kd.S_types HO_5.out BK584.out (by decide)) (fun _ hk => hk.2) (.int .i64 ((rd_T88 l0_1 ((rd_T56 y573 x32_3).f1)).f0))) (fun _ hk => hk.2) (.int .i64 ((rd_T88 l0_1 ((rd_T56 y573 x32_3).f1)).f1))) (fun _ hk => hk.1)⟩, ⟨by (with_reducible repeat (first | apply Kd.R_alloc | apply Kd.R_drewN | apply Kd.R_drew)); exact Kd.R_mono (Kd.R_far (p := ⟨gb584, 1, none⟩) (Kd.R_far (p := ⟨gb584, 0, none⟩) (Kd.R_types HO_7.out BK584.out (by decide)) (fun _ hk => hk.2) (.int .i64 ((rd_T88 l0_1 ((rd_T56 y573 x32_3).f1)).f0))) (fun _ hk => hk.2) (.int .i64 ((rd_T88 l0_1 ((rd_T56 y573 x32_3).f1)).f1))) (fun _ hk => trivial)⟩, ⟨by (with_reducible repeat (first | refine blk_drewN ?_ _ | refine blk_drew ?_ | refine blk_alloc ?_ _)); refine blk_far ?_ NB568_584.out _; (with_reducible repeat (first | refine blk_drewN ?_ _ | refine blk_drew ?_ | refine blk_alloc ?_ _)); refine blk_far ?_ NB568_584.out _; (with_reducible repeat (first | refine blk_drewN ?_ _ | refine blk_drew ?_ | refine blk_alloc ?_ _)); exact BK568.out⟩, ⟨by repeat (first | (with_reducible first | exact HB.out | apply below_alloc | apply pw_below_drewN | apply below_drew1 | refine below_set ?_ GE568.out | refine below_set ?_ GE581.out | refine below_set ?_ GE584.out) | exact HB.out)⟩⟩
                    ·rw [if_neg c39] at H
                     exact absurd H (by simp)
                   ·rw [if_neg c38] at H
                    exact absurd H (by simp)
               ·rw [if_neg c24] at H
                exact absurd H (by simp)
              ·rw [if_neg c23] at H
               exact absurd H (by simp)
             ·rw [if_neg c22] at H
              have c22b0 : decide (x32_3 < (y573.length : Int)) = false := decide_eq_false c22
              clear c22
              by_cases c97 : x5_2.length < 5864062014805
              ·rw [if_pos c97] at H
               have LMc97 := Aside0.mk c97
               clear c97
               obtain ⟨y577, hy577⟩ : ∃ y_ : List (List Int), y_ = (x5_2 ++ [x7_3]) := ⟨_, rfl⟩
               replace H : (spec_Truth.l0 k3 l1 y577 (l1.length : Int) (wrap64 (x21_2 + 1)) a0_0 l0_1) = some r := by first | (rw [hy577]; with_reducible exact H) | (have H2_ := (Option.bind_some _ _).symm.trans H; rw [hy577]; with_reducible exact H2_) | (have H2_ := (Option.bind_some _ _).symm.trans H; with_reducible exact H2_) | with_reducible exact H | (rw [hy577]; exact H) | exact H
               have Ny577 := Aside0.mk hy577
               clear hy577
               have H' := Aside0.mk H
               clear H
               obtain ⟨Ao99, co99, eo99⟩ := Kd.R_slice HO_7.out
               subst eo99
               go_wp2_with (first | ((with_reducible refine gate_builtin (b := .append) (xs := #[.tmp 76, .tmp 78]) rfl ?_); (try (refine gate_guard (by rfl) ?_; dsimp only)); at_builtin; refine Kd.S_append (Kd.slice 3 (Kd.int .i64)) (w0 := w) w.heap.size rfl (.tmp 76) (.tmp 78) 73 59 (.slice none 0 0) 24 rfl Try.underlying73 info59 rfl (by decide) (by omega) u5 x5_2 x7_3 [.slice Ao99 x7_3.length co99] (fun _ => True) (fun k_ => some k_ = (.slice Ao99 x7_3.length co99 : Value).ownBlock) rfl rfl ?aP (fun k_ hk_ => ((Kd.R_mono (ok' := fun k_ => ((fun _ => True)) k_ ∧ some k_ ≠ (u5 : Value).ownBlock) (Kd.R_apart' (HO_7.out) (Kd.S_typed HO_5.out) (by decide)) (fun k_ hk => ⟨trivial, hk.2⟩))).1 k_ hk_.symm) ?aF ?aO ?aB ?aS ?aL ?_; (case aP => exact Kd.M_row (Kd.R_mono (Kd.R_tight rfl (Kd.R_mono (ok' := fun k_ => ((fun _ => True)) k_ ∧ some k_ ≠ (u5 : Value).ownBlock) (Kd.R_apart' (HO_7.out) (Kd.S_typed HO_5.out) (by decide)) (fun k_ hk => ⟨trivial, hk.2⟩))) (fun _ h_ => h_))); (case aB => exact (by repeat (first | (with_reducible first | exact HB.out | apply below_alloc | apply pw_below_drewN | apply below_drew1 | refine below_set ?_ GE568.out) | exact HB.out))); (case aF => exact (fun _ _ => trivial)); (case aO => exact (by (with_reducible repeat (first | apply Kd.S_alloc | apply Kd.S_drewN | apply Kd.S_drew)); exact Kd.S_mono HO_5.out (fun k_ hk => ⟨trivial, fun e_ => hk e_⟩))); (case aS => exact (below_size (by repeat (first | (with_reducible first | exact HB.out | apply below_alloc | apply pw_below_drewN | apply below_drew1 | refine below_set ?_ GE568.out) | exact HB.out)))); (case aL => have := LMc97.out; omega); intro v578 w98 ho hb hg hat; rw [← Ny577.out] at ho; have n0_ := Aside0.mk (blk_grown (g := gb568) (o := .cells #[.int .i64 a0_0, .slice A0_1 l0_1.length c0_1] 30 (0, 0)) (by (with_reducible repeat (first | refine blk_drewN ?_ _ | refine blk_drew ?_ | refine blk_alloc ?_ _)); exact BK568.out) hg (Kd.S_ne HO_5.out BK568.out (by decide))); have n1_ := Aside0.mk (hb); have n2_ := Aside0.mk (ho); clear BK568; clear HB; clear HO_5; clear HO_7; have BK568 := n0_; have HB := n1_; have HO579 := n2_; clear n0_ n1_ n2_; clear ho hb hg hat))
               go_roundg k3
               case measure => have := HJ2.out; have := HK2.out; have := HK3.out; omega
               case rel => exact ⟨(y577), (wrap64 (x21_2 + 1)), (by first | rfl | (simp; done) | (simp [*]; done)), H', ⟨by have := HJ2.out; have := HK2.out; have := HK3.out; omega⟩, ⟨by (with_reducible repeat (first | apply Kd.S_alloc | apply Kd.S_drewN | apply Kd.S_drew)); exact HO579.out⟩, ⟨by (with_reducible repeat (first | refine blk_drewN ?_ _ | refine blk_drew ?_ | refine blk_alloc ?_ _)); exact BK568.out⟩, ⟨by repeat (first | (with_reducible first | exact HB.out | apply below_alloc | apply pw_below_drewN | apply below_drew1 | refine below_set ?_ GE568.out) | exact HB.out)⟩⟩
              ·rw [if_neg c97] at H
               exact absurd H (by simp)
          ·rw [if_neg c17] at H
           exact absurd H (by simp)
         ·rw [if_neg c16] at H
          exact absurd H (by simp)
        ·rw [if_neg c14] at H
         exact absurd H (by simp)
       ·rw [if_neg c13] at H
        exact absurd H (by simp)
      ·rw [if_neg c12] at H
       have c12b0 : decide (x21_2 < (l1.length : Int)) = false := decide_eq_false c12
       clear c12
       obtain rfl := Option.some.inj H
       go_wp2
       go_ret
       exact ⟨_, by first | rfl | (simp [errW_none, errW_some] <;> rfl) | (simp [*, errW_none, errW_some] <;> rfl), by (with_reducible repeat (first | apply Kd.S_alloc | apply Kd.S_drewN | apply Kd.S_drew)); exact HO_5.out, by repeat (first | (with_reducible first | exact HB.out | apply below_alloc | apply pw_below_drewN | apply below_drew1 | refine below_set ?_ GE568.out) | exact HB.out)⟩
end Go.Proofs.Ytpdnabhpkdchjaa.P
namespace Go.Proofs.Ytpdnabhpkdchjaa.P
open Go.RowKit Go.Proofs.YtpdnabhpkdchjaaW.PrintWords Go.Proofs.YtpdnabhpkdchjaaW.PrintLast
set_option linter.unusedVariables false
set_option linter.unusedSimpArgs false
def axle (c : S88) (d : Int) (row : List Int) : List Int :=
  let row1 := if 0 ≤ c.f0 then row.set c.f0.toNat (wrap64 (rd row c.f0 - d)) else row
  if 0 ≤ c.f1 then row1.set c.f1.toNat (wrap64 (rd row1 c.f1 + d)) else row1
def isPass (n : Int) (l : List S88) (e : S56) : Bool := eventOk n l e.f0 e.f1 e.f2 && decide (e.f0 = 1)
def tstep (n : Int) (l : List S88) (row : List Int) (e : S56) : List Int := if isPass n l e then axle (rd_T88 l e.f1) e.f2 row else row
def row0 (n : Int) : List Int := List.replicate n.toNat 0
def truthAt (n : Int) (l : List S88) (es : List S56) (k : Nat) : List Int := (es.take k).foldl (tstep n l) (row0 n)
def truth (n : Int) (l : List S88) (es : List S56) : List (List Int) :=
  if layoutOk n l = 0 ∧ es.length ≤ 2000 then (List.range es.length).map fun k => truthAt n l es (k + 1) else []
theorem axle_length (c : S88) (d : Int) (row : List Int) : (axle c d row).length = row.length := by
  unfold axle
  by_cases h0 : 0 ≤ c.f0 <;> by_cases h1 : 0 ≤ c.f1 <;> simp [h0, h1]
theorem tstep_length (n : Int) (l : List S88) (row : List Int) (e : S56) : (tstep n l row e).length = row.length := by
  unfold tstep
  by_cases h : isPass n l e = true
  · rw [if_pos h, axle_length]
  · rw [if_neg h]
theorem foldl_tstep_length (n : Int) (l : List S88) (es : List S56) : ∀ row : List Int, (es.foldl (tstep n l) row).length = row.length := by
  induction es with
  | nil => intro row; rfl
  | cons e es ih => intro row; rw [List.foldl_cons, ih, tstep_length]
theorem truthAt_length (n : Int) (l : List S88) (es : List S56) (k : Nat) : (truthAt n l es k).length = n.toNat := by
  rw [truthAt, foldl_tstep_length, row0, List.length_replicate]
theorem lay_ctr {n : Int} {l : List S88} (h : layoutOk n l = 0) : ∀ x ∈ l, -1 ≤ x.f0 ∧ x.f0 < n ∧ -1 ≤ x.f1 ∧ x.f1 < n ∧ x.f0 ≠ x.f1 := by
  unfold layoutOk at h
  split at h
  · cases h
  · split at h
    · cases h
    · split at h
      · cases h
      · split at h
        · rename_i hall
          intro x hx
          have := List.all_eq_true.1 hall x hx
          simp only [ctrOk, inB, Bool.and_eq_true, decide_eq_true_eq, Bool.not_eq_true', beq_eq_false_iff_ne] at this
          exact ⟨this.1.1.1, this.1.1.2, this.1.2.1, this.1.2.2, this.2⟩
        · cases h
theorem lay_rd {n : Int} {l : List S88} (h : layoutOk n l = 0) (i : Int) (h0 : 0 ≤ i) (h1 : i < l.length) : -1 ≤ (rd_T88 l i).f0 ∧ (rd_T88 l i).f0 < n ∧ -1 ≤ (rd_T88 l i).f1 ∧ (rd_T88 l i).f1 < n ∧ (rd_T88 l i).f0 ≠ (rd_T88 l i).f1 := by
  refine lay_ctr h _ ?_
  have hlt : i.toNat < l.length := by omega
  have : rd_T88 l i = l[i.toNat] := by simp [rd_T88, hlt]
  rw [this]
  exact List.getElem_mem hlt
theorem isPass_of {n : Int} {l : List S88} {e : S56} (h : isPass n l e = true) : e.f0 = 1 ∧ 0 ≤ e.f1 ∧ e.f1 < l.length ∧ (e.f2 = 1 ∨ e.f2 = -1) ∧ eventOk n l e.f0 e.f1 e.f2 = true := by
  simp only [isPass, Bool.and_eq_true, decide_eq_true_eq] at h
  obtain ⟨h1, h2⟩ := h
  have h1' := h1
  rw [h2, eventOk] at h1
  split at h1
  · simp at h1
    exact ⟨h2, h1.1.1, h1.1.2, h1.2, h1'⟩
  · cases h1
section
variable {n : Int} {l : List S88} {es : List S56} {R : List (List Int)}
theorem rd56 (l : List S56) (i : Nat) (h : i < l.length) : rd_T56 l (i : Int) = l[i] := by simp [rd_T56, h]
theorem specTruth_j3 (hl : layoutOk n l = 0) (out : List (List Int)) (row : List Int) (hrow : row.length = n.toNat) (x20 x21 : Int) (pre : List S56) (i : Nat) (hi : i < 9223372036854775807) (e : S56) (b : Bool) (hb : b = !(isPass n l e))
    (h : Ev (fun k => spec_Truth.l1 k es out (tstep n l row e) x20 x21 pre (pre.length : Int) ((i + 1 : Nat) : Int) n l) R) :
    Ev (fun k => spec_Truth.j3 k es out row x20 x21 pre (pre.length : Int) (i : Int) b n l e.f0 e.f1 e.f2) R := by
  have hn := lay_n hl
  refine Ev.step (fun k => by simp only [spec_Truth.j3, wrap_succ hi]; rfl) ?_
  cases hp : isPass n l e with
  | false =>
    rw [hp] at hb
    simp only [tstep, hp] at h
    exact Ev.ite_pos hb h
  | true =>
    rw [hp] at hb
    obtain ⟨e0, e1, e2, e3, e4⟩ := isPass_of hp
    obtain ⟨c0, c1, c2, c3, c4⟩ := lay_rd hl e.f1 e1 e2
    refine Ev.ite_neg (by simp [hb]) (Ev.ite_pos e1 (Ev.ite_pos e2 ?_))
    simp only [tstep, hp, if_true, axle] at h
    by_cases h0 : 0 ≤ (rd_T88 l e.f1).f0
    · simp only [h0, if_true] at h
      refine Ev.ite_pos h0 (Ev.ite_pos h0 (Ev.ite_pos (by rw [hrow]; omega) ?_))
      simp only [Option.bind_some]
      by_cases h1 : 0 ≤ (rd_T88 l e.f1).f1
      · simp only [h1, if_true] at h
        exact Ev.ite_pos h1 (Ev.ite_pos h1 (Ev.ite_pos (by rw [hrow]; omega) h))
      · simp only [h1, if_false] at h
        exact Ev.ite_neg h1 h
    · simp only [h0, if_false] at h
      refine Ev.ite_neg h0 ?_
      by_cases h1 : 0 ≤ (rd_T88 l e.f1).f1
      · simp only [h1, if_true] at h
        exact Ev.ite_pos h1 (Ev.ite_pos h1 (Ev.ite_pos (by rw [hrow]; omega) h))
      · simp only [h1, if_false] at h
        exact Ev.ite_neg h1 h
theorem specTruth_l1 (hl : layoutOk n l = 0) (out : List (List Int)) (ho : out.length < 5864062014805) (x20 : Int) (j : Nat) (hj : j < 9223372036854775807) (pre : List S56) (hpre : pre.length < 9223372036854775807) (d : Nat) : ∀ (i : Nat) (row : List Int), i + d = pre.length → row.length = n.toNat →
    Ev (fun k => spec_Truth.l0 k es (out ++ [(pre.drop i).foldl (tstep n l) row]) x20 ((j + 1 : Nat) : Int) n l) R →
    Ev (fun k => spec_Truth.l1 k es out row x20 (j : Int) pre (pre.length : Int) (i : Int) n l) R := by
  induction d with
  | zero =>
    intro i row hi hrow h
    rw [List.drop_eq_nil_of_le (by omega)] at h
    refine Ev.step (fun k => ?_) h
    simp only [spec_Truth.l1, wrap_succ hj]
    rw [if_neg (by omega), if_pos ho]
    rfl
  | succ d ih =>
    intro i row hi hrow h
    have hlt : i < pre.length := by omega
    rw [List.drop_eq_getElem_cons hlt, List.foldl_cons] at h
    have h2 := ih (i + 1) (tstep n l row pre[i]) (by omega) (by rw [tstep_length]; exact hrow) h
    refine Ev.step (fun k => by simp only [spec_Truth.l1, rd56 pre i hlt]; rw [if_pos (by omega), if_pos (by omega), if_pos (by omega)]) ?_
    by_cases h1 : pre[i].f0 = 1
    · refine Ev.ite_pos h1 (Ev.bind (specEventOk_ev n l _ _ _) ?_)
      exact specTruth_j3 hl out row hrow x20 j pre i (by omega) pre[i] _ (by simp [isPass, h1]) h2
    · refine Ev.ite_neg h1 ?_
      exact specTruth_j3 hl out row hrow x20 j pre i (by omega) pre[i] _ (by simp [isPass, h1]) h2
theorem specTruth_l0 (hl : layoutOk n l = 0) (he : es.length ≤ 2000) (d : Nat) : ∀ (j : Nat), j + d = es.length →
    Ev (fun k => spec_Truth.l0 k es ((List.range j).map fun k => truthAt n l es (k + 1)) (es.length : Int) (j : Int) n l) ((List.range es.length).map fun k => truthAt n l es (k + 1)) := by
  have hn := lay_n hl
  induction d with
  | zero =>
    intro j hj
    refine Ev.step1 fun k => ?_
    simp only [spec_Truth.l0]
    rw [if_neg (by omega), show j = es.length by omega]
  | succ d ih =>
    intro j hj
    have h2 := ih (j + 1) (by omega)
    rw [List.range_succ, List.map_append, List.map_singleton] at h2
    refine Ev.step (fun k => by simp only [spec_Truth.l0, wrap_succ (show j < 9223372036854775807 by omega), Option.bind_some, Int.toNat_natCast]; rw [if_pos (by omega), if_pos (by omega), if_pos (by omega), if_pos (by omega), if_pos (by omega)]) ?_
    exact specTruth_l1 hl _ (by simp; omega) _ j (by omega) (es.take (j + 1)) (by simp; omega) (es.take (j + 1)).length 0 (row0 n) (by omega) (by simp [row0]) h2
theorem specTruth_ev (n : Int) (l : List S88) (es : List S56) : Ev (fun k => spec_Truth.f k n l es) (truth n l es) := by
  unfold spec_Truth.f truth
  refine Ev.bind (specLayoutOk_ev n l) ?_
  have key : ∀ b : Bool, b = !(decide (layoutOk n l = 0 ∧ es.length ≤ 2000)) → Ev (fun k => spec_Truth.j0 k es b n l) (if layoutOk n l = 0 ∧ es.length ≤ 2000 then (List.range es.length).map fun k => truthAt n l es (k + 1) else []) := by
    intro b hb
    refine Ev.step (fun k => by simp only [spec_Truth.j0]; rfl) ?_
    by_cases h : layoutOk n l = 0 ∧ es.length ≤ 2000
    · rw [if_pos h]
      refine Ev.ite_neg (by simp [hb, h]) ?_
      simpa using specTruth_l0 h.1 h.2 es.length 0 (by omega)
    · rw [if_neg h]
      exact Ev.ite_pos (by rw [hb, decide_eq_false h]; rfl) (Ev.now _)
  by_cases h : layoutOk n l = 0
  · refine Ev.ite_pos h (key _ ?_)
    by_cases h2 : es.length ≤ 2000
    · rw [show decide ((es.length : Int) > 2000) = false from decide_eq_false (by omega), decide_eq_true (show layoutOk n l = 0 ∧ es.length ≤ 2000 from ⟨h, h2⟩)]; rfl
    · rw [show decide ((es.length : Int) > 2000) = true from decide_eq_true (by omega), decide_eq_false (show ¬ (layoutOk n l = 0 ∧ es.length ≤ 2000) from fun c => h2 c.2)]; rfl
  · exact Ev.ite_neg h (key _ (by simp [h]))
end
section
variable {n : Int} {l : List S88} {es : List S56} {R : List (List Int)}
theorem clone_int (l : List Int) (h : l.length ≤ 1000000) : slices_Clone_int_int.f l = some l := by unfold slices_Clone_int_int.f; rw [if_pos h]
theorem implTruth_j2 (hl : layoutOk n l = 0) (out : List (List Int)) (ho : out.length < 5864062014805) (row : List Int) (hrow : row.length = n.toNat) (x22 : Int) (i : Nat) (hi : i < 9223372036854775807) (e : S56) (b : Bool) (hb : b = isPass n l e)
    (h : Ev (fun k => impl_Truth.l0 k (tstep n l row e) (out ++ [tstep n l row e]) es x22 ((i + 1 : Nat) : Int) n l) R) :
    Ev (fun k => impl_Truth.j2 k row out es x22 (i : Int) b n l e.f0 e.f1 e.f2) R := by
  have hn := lay_n hl
  have hlen := tstep_length n l row e
  refine Ev.step (fun k => by simp only [impl_Truth.j2, wrap_succ hi]; rfl) ?_
  cases hp : isPass n l e with
  | false =>
    rw [hp] at hb
    simp only [tstep, hp] at h hlen
    exact Ev.ite_neg (by simp [hb]) (Ev.call (clone_int _ (by omega)) (Ev.ite_pos ho h))
  | true =>
    rw [hp] at hb
    obtain ⟨e0, e1, e2, e3, e4⟩ := isPass_of hp
    obtain ⟨c0, c1, c2, c3, c4⟩ := lay_rd hl e.f1 e1 e2
    refine Ev.ite_pos hb (Ev.ite_pos e1 (Ev.ite_pos e2 ?_))
    simp only [tstep, hp, if_true, axle] at h hlen
    by_cases h0 : 0 ≤ (rd_T88 l e.f1).f0
    · simp only [h0, if_true] at h hlen
      refine Ev.ite_pos h0 (Ev.ite_pos h0 (Ev.ite_pos (by rw [hrow]; omega) ?_))
      simp only [Option.bind_some]
      by_cases h1 : 0 ≤ (rd_T88 l e.f1).f1
      · simp only [h1, if_true] at h hlen
        exact Ev.ite_pos h1 (Ev.ite_pos h1 (Ev.ite_pos (by rw [hrow]; omega) (Ev.call (clone_int _ (by omega)) (Ev.ite_pos ho h))))
      · simp only [h1, if_false] at h hlen
        exact Ev.ite_neg h1 (Ev.call (clone_int _ (by omega)) (Ev.ite_pos ho h))
    · simp only [h0, if_false] at h hlen
      refine Ev.ite_neg h0 ?_
      by_cases h1 : 0 ≤ (rd_T88 l e.f1).f1
      · simp only [h1, if_true] at h hlen
        exact Ev.ite_pos h1 (Ev.ite_pos h1 (Ev.ite_pos (by rw [hrow]; omega) (Ev.call rfl (Ev.call (clone_int _ (by omega)) (Ev.ite_pos ho h)))))
      · simp only [h1, if_false] at h hlen
        exact Ev.ite_neg h1 (Ev.call (clone_int _ (by omega)) (Ev.ite_pos ho h))
theorem truthAt_succ {j : Nat} (h : j < es.length) : truthAt n l es (j + 1) = tstep n l (truthAt n l es j) es[j] := by
  rw [truthAt, List.take_succ_eq_append_getElem h, List.foldl_append]
  rfl
theorem implTruth_l0 (hl : layoutOk n l = 0) (he : es.length ≤ 2000) (d : Nat) : ∀ (j : Nat), j + d = es.length →
    Ev (fun k => impl_Truth.l0 k (truthAt n l es j) ((List.range j).map fun k => truthAt n l es (k + 1)) es (es.length : Int) (j : Int) n l) ((List.range es.length).map fun k => truthAt n l es (k + 1)) := by
  induction d with
  | zero =>
    intro j hj
    refine Ev.step1 fun k => ?_
    simp only [impl_Truth.l0]
    rw [if_neg (by omega), show j = es.length by omega]
  | succ d ih =>
    intro j hj
    have hlt : j < es.length := by omega
    have h2 := ih (j + 1) (by omega)
    rw [List.range_succ, List.map_append, List.map_singleton, truthAt_succ hlt] at h2
    refine Ev.step (fun k => by simp only [impl_Truth.l0, rd56 es j hlt]; rw [if_pos (by omega), if_pos (by omega), if_pos (by omega)]) ?_
    refine Ev.bind (implEventOk_ev n l _ _ _) ?_
    cases hok : eventOk n l es[j].f0 es[j].f1 es[j].f2 with
    | true => exact Ev.ite_pos rfl (implTruth_j2 hl _ (by simp; omega) _ (truthAt_length _ _ _ _) _ j (by omega) es[j] _ (by simp [isPass, hok, beq_dec]) h2)
    | false => exact Ev.ite_neg (by simp) (implTruth_j2 hl _ (by simp; omega) _ (truthAt_length _ _ _ _) _ j (by omega) es[j] _ (by simp [isPass, hok]) h2)
theorem implTruth_ev (n : Int) (l : List S88) (es : List S56) : Ev (fun k => impl_Truth.f k n l es) (truth n l es) := by
  unfold impl_Truth.f truth
  refine Ev.call (show impl_LayoutOk.f n l = some (layoutOk n l) from rfl) ?_
  have key : ∀ b : Bool, b = !(decide (layoutOk n l = 0 ∧ es.length ≤ 2000)) → Ev (fun k => impl_Truth.j0 k es b n l) (if layoutOk n l = 0 ∧ es.length ≤ 2000 then (List.range es.length).map fun k => truthAt n l es (k + 1) else []) := by
    intro b hb
    refine Ev.step (fun k => by simp only [impl_Truth.j0]; rfl) ?_
    by_cases h : layoutOk n l = 0 ∧ es.length ≤ 2000
    · have hn := lay_n h.1
      rw [if_pos h]
      refine Ev.ite_neg (by simp [hb, h]) (Ev.ite_pos (by omega) (Ev.ite_pos (by omega) ?_))
      simpa [truthAt, row0] using implTruth_l0 h.1 h.2 es.length 0 (by omega)
    · rw [if_neg h]
      exact Ev.ite_pos (by rw [hb, decide_eq_false h]; rfl) (Ev.now _)
  by_cases h : layoutOk n l = 0
  · refine Ev.ite_pos h (key _ ?_)
    by_cases h2 : es.length ≤ 2000
    · rw [show decide ((es.length : Int) > 2000) = false from decide_eq_false (by omega), decide_eq_true (show layoutOk n l = 0 ∧ es.length ≤ 2000 from ⟨h, h2⟩)]; rfl
    · rw [show decide ((es.length : Int) > 2000) = true from decide_eq_true (by omega), decide_eq_false (show ¬ (layoutOk n l = 0 ∧ es.length ≤ 2000) from fun c => h2 c.2)]; rfl
  · exact Ev.ite_neg h (key _ (by simp [h]))
end
end Go.Proofs.Ytpdnabhpkdchjaa.P
namespace Go.Proofs.Ytpdnabhpkdchjaa.P
open Go.RowKit Go.Proofs.YtpdnabhpkdchjaaW.PrintWords Go.Proofs.YtpdnabhpkdchjaaW.PrintLast Go.Proofs.YtpdnabhpkdchjaaW.PrintMore
attribute [local go_sem] max2_int min2_int max_two min_two max_three min_three max_four min_four
set_option linter.unusedVariables false
set_option linter.unusedSimpArgs false
mutual
def spec_Honest.j0 : Nat → List (S56) → Bool → Int → List (S88) → Option (Bool)
 | 0, _, _, _, _ => none
 | k + 1, x1, x17, x592000, x592001 => if x17 = true then (some false) else ((spec_Truth.f k x592000 x592001 x1).bind fun t593 => (spec_Honest.l0 k t593 x1 (x1.length : Int) 0 x592000 x592001))
def spec_Honest.l0 : Nat → List (List Int) → List (S56) → Int → Int → Int → List (S88) → Option (Bool)
 | 0, _, _, _, _, _, _ => none
 | k + 1, x5, x21, x22, x23, x592000, x592001 => if x23 < x22 then (if 0 ≤ x23 then (if x23 < (x21.length : Int) then ((spec_EventOk.f k x592000 x592001 ((rd_T56 x21 x23).f0) ((rd_T56 x21 x23).f1) ((rd_T56 x21 x23).f2)).bind fun t598 => (if t598 = true then (if ((rd_T56 x21 x23).f0) = 5 then (if x23 < (x5.length : Int) then (if 0 ≤ ((rd_T56 x21 x23).f1) then (if ((rd_T56 x21 x23).f1) < ((rd_L12 x5 x23).length : Int) then (spec_Honest.j2 k x5 x23 x21 x22 x23 ((rd (rd_L12 x5 x23) ((rd_T56 x21 x23).f1)) != 0) x592000 x592001) else (none)) else (none)) else (none)) else (spec_Honest.j2 k x5 x23 x21 x22 x23 false x592000 x592001)) else (spec_Honest.j2 k x5 x23 x21 x22 x23 true x592000 x592001))) else (none)) else (none)) else (some true)
def spec_Honest.j2 : Nat → List (List Int) → Int → List (S56) → Int → Int → Bool → Int → List (S88) → Option (Bool)
 | 0, _, _, _, _, _, _, _, _ => none
 | k + 1, x5, x6, x21, x22, x23, x47, x592000, x592001 => if x47 = true then (some false) else (if 0 ≤ x6 then (if x6 < (x5.length : Int) then (spec_Honest.l1 k x5 x21 x22 x23 (rd_L12 x5 x6) ((rd_L12 x5 x6).length : Int) 0 x592000 x592001) else (none)) else (none))
def spec_Honest.l1 : Nat → List (List Int) → List (S56) → Int → Int → List Int → Int → Int → Int → List (S88) → Option (Bool)
 | 0, _, _, _, _, _, _, _, _, _ => none
 | k + 1, x5, x21, x22, x23, x51, x52, x53, x592000, x592001 => if x53 < x52 then (if 0 ≤ x53 then (if x53 < (x51.length : Int) then (if (rd x51 x53) < 0 then (some false) else (spec_Honest.l1 k x5 x21 x22 x23 x51 x52 (wrap64 (x53 + 1)) x592000 x592001)) else (none)) else (none)) else (spec_Honest.l0 k x5 x21 x22 (wrap64 (x23 + 1)) x592000 x592001)
end
def spec_Honest.f (k : Nat) (a0_0 : Int) (l0_1 : List (S88)) (l1 : List (S56)) : Option (Bool) := (spec_LayoutOk.f k a0_0 l0_1).bind fun t592 => (if t592 = 0 then (spec_Honest.j0 k l1 (decide ((l1.length : Int) > 2000)) a0_0 l0_1) else (spec_Honest.j0 k l1 true a0_0 l0_1))
def spec_Honest.T7 : Bool × List (List Nat × List Nat) := (true, [([], []), ([], []), ([0, 1], [0, 1]), ([2], [2]), ([3, 2], [3]), ([4], [4]), ([5, 4], [4, 5]), ([6, 4], [4, 6]), ([7, 4, 4], [4, 7]), ([8], [8]), ([8], [8]), ([9, 10, 8], [8, 9, 10]), ([11, 8], [8, 11]), ([8], [8]), ([13, 8], [8, 13]), ([12, 14, 8], [8, 12, 14]), ([15, 8], [8, 15]), ([16, 8], [8, 16]), ([8, 17, 4], [4, 8, 17]), ([4, 18], [4, 18])])
def spec_Honest.B7 : List Nat := [0, 0, 3, 7, 15, 31, 63, 127, 255, 511, 511, 2047, 4095, 511, 8703, 32767, 65535, 131071, 262143, 524287]
theorem spec_Honest.tab7 : rtab .any (opsOf Try.f49 7) = spec_Honest.T7 := by kernel_rfl
theorem spec_Honest.bits7 : waitsOk spec_Honest.T7.2 spec_Honest.B7 = true := by kernel_rfl
set_option maxHeartbeats 8000000 in
set_option maxRecDepth 100000 in
theorem spec_Honest.calls (k : Nat) (a0_0 : Int) (A0_1 : Option Addr) (c0_1 : Nat) (l0_1 : List (S88)) (A1 : Option Addr) (c1 : Nat) (l1 : List (S56)) (r : Bool) (w : World) (hr0_1 : Kd.C k88 w A0_1 l0_1.length l0_1) (hc0_1 : l0_1.length ≤ c0_1) (hr1 : Kd.C k56 w A1 l1.length l1) (hc1 : l1.length ≤ c1) (h : spec_Honest.f k a0_0 l0_1 l1 = some r) :
  Calls Try.prog 49 #[.agg #[.int .i64 a0_0, .slice A0_1 l0_1.length c0_1], .slice A1 l1.length c1] w fun e w' => e = .returned (.bool r) ∧ Below w.heap.size w w' := by
 have hu30 := Try.underlying30
 have hu56 := Try.underlying56
 have HR0_1 := Aside0.mk hr0_1
 have HC0_1 := Aside0.mk hc0_1
 clear hr0_1 hc0_1
 have HR1 := Aside0.mk hr1
 have HC1 := Aside0.mk hc1
 clear hr1 hc1
 have HB := Aside0.mk (Below.refl w.heap.size w)
 have H : ((spec_LayoutOk.f k a0_0 l0_1).bind fun t592 => (if t592 = 0 then (spec_Honest.j0 k l1 (decide ((l1.length : Int) > 2000)) a0_0 l0_1) else (spec_Honest.j0 k l1 true a0_0 l0_1))) = some r := h
 clear h
 have HC3 := Aside0.mk H
 clear H
 go_enter Try.func49, Try.ntmps49
 go_upto_region 1 with (first | ((with_reducible refine gate_dst (N := 2) rfl ?_); (try (refine gate_guard (by rfl) ?_; dsimp only)); refine box_event ?hg (N := 2) ?hd (cs := #[.int .i64 a0_0, .slice A0_1 l0_1.length c0_1]) (t := 30) ?hr ?_; (case hd => rfl); (case hg => rfl); (case hr => first | (go_simp; done) | (go_simp; rfl)); intro gb591 hg w4 hbox hb; have n0_ := Aside0.mk (below_step (by repeat (first | (with_reducible first | exact HB.out | apply below_alloc | apply pw_below_drewN | apply below_drew1) | exact HB.out)) hb); have n1_ := Aside0.mk (hbox); have n2_ := Aside0.mk ((by rw [hg]; exact (below_size (by repeat (first | (with_reducible first | exact HB.out | apply below_alloc | apply pw_below_drewN | apply below_drew1) | exact HB.out))) : w.heap.size ≤ gb591)); have n3_ := Aside0.mk ((by rw [hg]; exact (below_size (by repeat (first | (with_reducible first | exact HB.out | apply below_alloc | apply pw_below_drewN | apply below_drew1) | exact HB.out))) : w.heap.size ≤ gb591)); clear HB; have HB := n0_; have BK591 := n1_; have GW591 := n2_; have GE591 := n3_; clear n0_ n1_ n2_ n3_; clear hb hbox hg))
 (try simp only [Act.put, List.setIfInBounds_toArray, List.set_cons_zero, List.set_cons_succ])
 go_cut [17] (fun v17 wc => ∃ (kq : Nat) (x17_2 : Bool), v17 = .bool x17_2 ∧ Aside0 (spec_Honest.j0 kq l1 x17_2 a0_0 l0_1 = some r) ∧ Aside0 (kq ≤ k) ∧ Aside0 (wc.heap[gb591]? = some (.cells #[.int .i64 a0_0, (.slice A0_1 l0_1.length c0_1)] 30 (0, 0))) ∧ Aside0 (Below w.heap.size w wc))
 case first =>
  have H := HC3.out
  clear HC3
  replace H := Option.bind_eq_some_iff.mp H
  obtain ⟨t592, A50, H⟩ := H
  replace H : (if t592 = 0 then (spec_Honest.j0 k l1 (decide ((l1.length : Int) > 2000)) a0_0 l0_1) else (spec_Honest.j0 k l1 true a0_0 l0_1)) = some r := H
  have A5 := Aside0.mk A50
  clear A50
  by_cases c6 : t592 = 0
  ·rw [if_pos c6] at H
   have c6b0 : (t592 == 0) = true := beq_iff_eq.mpr c6
   have c6b1 : (t592 != 0) = false := bne_eq_false_iff_eq.mpr c6
   clear c6
   (first | rw [c6b0] | (simp only [i64_w, i32_w]; rw [c6b0]) | skip)
   have H' := Aside0.mk H
   clear H
   have hcz7_0 : w4.cell? ⟨gb591, 0, none⟩ = some (.int .i64 a0_0) := (blk_cell BK591.out 0).trans rfl
   have hcz7_1 : w4.cell? ⟨gb591, 1, none⟩ = some (.slice A0_1 l0_1.length c0_1) := (blk_cell BK591.out 1).trans rfl
   have hfz7_0 := blk_frozen BK591.out 0
   have hfz7_1 := blk_frozen BK591.out 1
   go_wp2_with (first | ((with_reducible refine gate_callee (f := 23) rfl ?_); refine goesL_ (some 11) rfl rfl Try.func23 (by kernel_rfl) rfl #[.agg #[.int .i64 a0_0, .slice A0_1 l0_1.length c0_1]] rfl (by (try simp only [List.map_toArray, List.map_cons, List.map_nil]); first | done | rfl | (simp only [List.length_drop, List.length_take]; rfl)) ?_; (with_reducible refine (spec_LayoutOk.calls k a0_0 _ _ l0_1 t592 _ ?side1 ?side2 A5.out).mono ?_); (case side1 => repeat (first | exact (Kd.C_below HR0_1.out HB.out) | (with_reducible refine Kd.C_alloc ?_ _) | (with_reducible refine Kd.C_drewN ?_ _) | (with_reducible refine Kd.C_drew ?_))); (case side2 => exact HC0_1.out); rintro e w8 ⟨rfl, hb⟩; refine ⟨_, rfl, ?_⟩; have n0_ := Aside0.mk (blk_below (g := gb591) (o := .cells #[.int .i64 a0_0, .slice A0_1 l0_1.length c0_1] 30 (0, 0)) (by (with_reducible repeat (first | refine blk_drewN ?_ _ | refine blk_drew ?_ | refine blk_alloc ?_ _)); exact BK591.out) hb); have n1_ := Aside0.mk (below_step (by repeat (first | (with_reducible first | exact HB.out | apply below_alloc | apply pw_below_drewN | apply below_drew1 | refine below_set ?_ GE591.out) | exact HB.out)) hb); clear BK591; clear HB; have BK591 := n0_; have HB := n1_; clear n0_ n1_; (try clear hb); (try clear hb2); (try clear hk); (try clear hi)))
   go_meet
   case rel => exact ⟨_, (decide ((l1.length : Int) > 2000)), (by first | rfl | (simp; done) | (simp [*]; done)), H', ⟨by first | omega | exact Nat.le_refl _⟩, ⟨by (with_reducible repeat (first | refine blk_drewN ?_ _ | refine blk_drew ?_ | refine blk_alloc ?_ _)); exact BK591.out⟩, ⟨by repeat (first | (with_reducible first | exact HB.out | apply below_alloc | apply pw_below_drewN | apply below_drew1 | refine below_set ?_ GE591.out) | exact HB.out)⟩⟩
  ·rw [if_neg c6] at H
   have c6b0 : (t592 == 0) = false := beq_eq_false_iff_ne.mpr c6
   have c6b1 : (t592 != 0) = true := bne_iff_ne.mpr c6
   (first | rw [c6b0] | (simp only [i64_w, i32_w]; rw [c6b0]) | skip)
   have H' := Aside0.mk H
   clear H
   have hcz9_0 : w4.cell? ⟨gb591, 0, none⟩ = some (.int .i64 a0_0) := (blk_cell BK591.out 0).trans rfl
   have hcz9_1 : w4.cell? ⟨gb591, 1, none⟩ = some (.slice A0_1 l0_1.length c0_1) := (blk_cell BK591.out 1).trans rfl
   have hfz9_0 := blk_frozen BK591.out 0
   have hfz9_1 := blk_frozen BK591.out 1
   go_wp2_with (first | ((with_reducible refine gate_callee (f := 23) rfl ?_); refine goesL_ (some 11) rfl rfl Try.func23 (by kernel_rfl) rfl #[.agg #[.int .i64 a0_0, .slice A0_1 l0_1.length c0_1]] rfl (by (try simp only [List.map_toArray, List.map_cons, List.map_nil]); first | done | rfl | (simp only [List.length_drop, List.length_take]; rfl)) ?_; (with_reducible refine (spec_LayoutOk.calls k a0_0 _ _ l0_1 t592 _ ?side1 ?side2 A5.out).mono ?_); (case side1 => repeat (first | exact (Kd.C_below HR0_1.out HB.out) | (with_reducible refine Kd.C_alloc ?_ _) | (with_reducible refine Kd.C_drewN ?_ _) | (with_reducible refine Kd.C_drew ?_))); (case side2 => exact HC0_1.out); rintro e w10 ⟨rfl, hb⟩; refine ⟨_, rfl, ?_⟩; have n0_ := Aside0.mk (blk_below (g := gb591) (o := .cells #[.int .i64 a0_0, .slice A0_1 l0_1.length c0_1] 30 (0, 0)) (by (with_reducible repeat (first | refine blk_drewN ?_ _ | refine blk_drew ?_ | refine blk_alloc ?_ _)); exact BK591.out) hb); have n1_ := Aside0.mk (below_step (by repeat (first | (with_reducible first | exact HB.out | apply below_alloc | apply pw_below_drewN | apply below_drew1 | refine below_set ?_ GE591.out) | exact HB.out)) hb); clear BK591; clear HB; have BK591 := n0_; have HB := n1_; clear n0_ n1_; (try clear hb); (try clear hb2); (try clear hk); (try clear hi)))
   go_meet
   case rel => exact ⟨_, (true), (by first | rfl | (simp; done) | (simp [*]; done)), H', ⟨by first | omega | exact Nat.le_refl _⟩, ⟨by (with_reducible repeat (first | refine blk_drewN ?_ _ | refine blk_drew ?_ | refine blk_alloc ?_ _)); exact BK591.out⟩, ⟨by repeat (first | (with_reducible first | exact HB.out | apply below_alloc | apply pw_below_drewN | apply below_drew1 | refine below_set ?_ GE591.out) | exact HB.out)⟩⟩
 case rest =>
  clear HC3
  try clear c1
  try clear c2
  try clear p2
  try clear c4
  try clear c6
  try clear c6b0
  try clear c6b1
  try clear hcz7_0
  try clear hcz7_1
  try clear hcz9_0
  try clear hcz9_1
  try clear hfz7_0
  try clear hfz7_1
  try clear hfz9_0
  try clear hfz9_1
  obtain ⟨kq, x17_2, rfl, HA, HJ2, BK591, HB⟩ := hcut
  cases kq with
  | zero => exact absurd HA.out (by simp [spec_Honest.j0])
  | succ kj2 =>
   have H := HA.out
   clear HA
   simp only [spec_Honest.j0] at H
   by_cases c11 : x17_2 = true
   ·subst c11
    have H1 : (some false) = some r := by rw [if_pos rfl] at H; exact H
    clear H
    have H := H1
    clear H1
    obtain rfl := Option.some.inj H
    go_wp2
    go_ret
    exact ⟨by first | rfl | (simp [errW_none, errW_some] <;> rfl) | (simp [*, errW_none, errW_some] <;> rfl), by repeat (first | (with_reducible first | exact HB.out | apply below_alloc | apply pw_below_drewN | apply below_drew1 | refine below_set ?_ GE591.out) | exact HB.out)⟩
   ·replace c11 := Bool.eq_false_iff.mpr c11
    subst c11
    have H1 : ((spec_Truth.f kj2 a0_0 l0_1 l1).bind fun t593 => (spec_Honest.l0 kj2 t593 l1 (l1.length : Int) 0 a0_0 l0_1)) = some r := by rw [if_neg (show ¬ (false = true) by decide)] at H; exact H
    clear H
    have H := H1
    clear H1
    replace H := Option.bind_eq_some_iff.mp H
    obtain ⟨t593, A120, H⟩ := H
    replace H : (spec_Honest.l0 kj2 t593 l1 (l1.length : Int) 0 a0_0 l0_1) = some r := H
    have A12 := Aside0.mk A120
    clear A120
    have H' := Aside0.mk H
    clear H
    have hcz13_0 : wc.cell? ⟨gb591, 0, none⟩ = some (.int .i64 a0_0) := (blk_cell BK591.out 0).trans rfl
    have hcz13_1 : wc.cell? ⟨gb591, 1, none⟩ = some (.slice A0_1 l0_1.length c0_1) := (blk_cell BK591.out 1).trans rfl
    have hfz13_0 := blk_frozen BK591.out 0
    have hfz13_1 := blk_frozen BK591.out 1
    go_wp2_with (first | ((with_reducible refine gate_callee (f := 58) rfl ?_); refine goesL_ (some 20) rfl rfl Try.func58 (by kernel_rfl) rfl #[.agg #[.int .i64 a0_0, .slice A0_1 l0_1.length c0_1], .slice A1 l1.length c1] rfl (by (try simp only [List.map_toArray, List.map_cons, List.map_nil]); first | done | rfl | (simp only [List.length_drop, List.length_take]; rfl)) ?_; (with_reducible refine (spec_Truth.calls kj2 a0_0 _ _ l0_1 _ _ l1 t593 _ ?side1 ?side2 ?side3 ?side4 A12.out).mono ?_); (case side1 => repeat (first | exact (Kd.C_below HR0_1.out HB.out) | (with_reducible refine Kd.C_alloc ?_ _) | (with_reducible refine Kd.C_drewN ?_ _) | (with_reducible refine Kd.C_drew ?_))); (case side2 => exact HC0_1.out); (case side3 => repeat (first | exact (Kd.C_below HR1.out HB.out) | (with_reducible refine Kd.C_alloc ?_ _) | (with_reducible refine Kd.C_drewN ?_ _) | (with_reducible refine Kd.C_drew ?_))); (case side4 => exact HC1.out); rintro e w14 ⟨v594, rfl, ho0, hb⟩; refine ⟨_, rfl, ?_⟩; have n0_ := Aside0.mk (Kd.S_lower ho0 (below_size (by repeat (first | (with_reducible first | exact HB.out | apply below_alloc | apply pw_below_drewN | apply below_drew1 | refine below_set ?_ GE591.out) | exact HB.out)))); have n1_ := Aside0.mk (blk_below (g := gb591) (o := .cells #[.int .i64 a0_0, .slice A0_1 l0_1.length c0_1] 30 (0, 0)) (by (with_reducible repeat (first | refine blk_drewN ?_ _ | refine blk_drew ?_ | refine blk_alloc ?_ _)); exact BK591.out) hb); have n2_ := Aside0.mk (below_step (by repeat (first | (with_reducible first | exact HB.out | apply below_alloc | apply pw_below_drewN | apply below_drew1 | refine below_set ?_ GE591.out) | exact HB.out)) hb); clear BK591; clear HB; have HO595 := n0_; have BK591 := n1_; have HB := n2_; clear n0_ n1_ n2_; (try clear hb); (try clear hb2); (try clear hk); (try clear hi); (try clear ho0)))
    go_loopg [23] kj2 (fun kq v23 w' => ∃ (x23_2 : Int), v23 = .int .i64 x23_2 ∧ Aside0 (spec_Honest.l0 kq t593 l1 (l1.length : Int) x23_2 a0_0 l0_1 = some r) ∧ Aside0 (kq ≤ kj2) ∧ Aside0 (Kd.S (Kd.slice 3 (Kd.int .i64)) 59 w' w.heap.size (fun _ => True) v594 t593) ∧ Aside0 (w'.heap[gb591]? = some (.cells #[.int .i64 a0_0, (.slice A0_1 l0_1.length c0_1)] 30 (0, 0))) ∧ Aside0 (Below w.heap.size w w'))
    case atStart => exact ⟨(0), (by first | rfl | (simp; done) | (simp [*]; done)), H', ⟨Nat.le_refl _⟩, ⟨by (with_reducible repeat (first | apply Kd.S_alloc | apply Kd.S_drewN | apply Kd.S_drew)); exact HO595.out⟩, ⟨by (with_reducible repeat (first | refine blk_drewN ?_ _ | refine blk_drew ?_ | refine blk_alloc ?_ _)); exact BK591.out⟩, ⟨by repeat (first | (with_reducible first | exact HB.out | apply below_alloc | apply pw_below_drewN | apply below_drew1 | refine below_set ?_ GE591.out) | exact HB.out)⟩⟩
    case round =>
     clear H'
     try clear c1
     try clear c2
     try clear p2
     try clear c4
     try clear c5
     try clear c6
     try clear c6b0
     try clear c6b1
     try clear c11
     try clear hcz13_0
     try clear hcz13_1
     try clear hcz7_0
     try clear hcz7_1
     try clear hcz9_0
     try clear hcz9_1
     try clear hfz13_0
     try clear hfz13_1
     try clear hfz7_0
     try clear hfz7_1
     try clear hfz9_0
     try clear hfz9_1
     try clear p2
     obtain ⟨x23_2, rfl, HA, HK2, HO_5, BK591, HB⟩ := hrel
     cases gk with
     | zero => exact absurd HA.out (by simp [spec_Honest.l0])
     | succ k2 =>
      have H := HA.out
      clear HA
      simp only [spec_Honest.l0] at H
      by_cases c15 : x23_2 < (l1.length : Int)
      ·rw [if_pos c15] at H
       have c15b0 : decide (x23_2 < (l1.length : Int)) = true := decide_eq_true c15
       clear c15
       by_cases c16 : 0 ≤ x23_2
       ·rw [if_pos c16] at H
        have c16b0 : decide (0 ≤ x23_2) = true := decide_eq_true c16
        clear c16
        by_cases c17 : x23_2 < (l1.length : Int)
        ·rw [if_pos c17] at H
         have c17b0 : decide (x23_2 < (l1.length : Int)) = true := decide_eq_true c17
         clear c17
         have HC18 := Aside0.mk H
         clear H
         have p596 : 0 ≤ (x23_2 : Int) := of_decide_eq_true (by first | (with_reducible assumption) | assumption)
         have q596 : x23_2 < (l1.length : Int) := of_decide_eq_true (by first | (with_reducible assumption) | assumption)
         obtain ⟨ad596, e596, hx596_0, hx596_1, hx596_2⟩ := at_T56 HR1.out x23_2 p596 q596
         cases e596
         replace hx596_0 := (HB.out.cell (World.block_lt_of_cell? w _ hx596_0)).trans hx596_0
         replace hx596_1 := (HB.out.cell (World.block_lt_of_cell? w _ hx596_1)).trans hx596_1
         replace hx596_2 := (HB.out.cell (World.block_lt_of_cell? w _ hx596_2)).trans hx596_2
         replace p596 := eq_true p596
         replace q596 := eq_true q596
         go_upto_region 7 with (first | ((with_reducible refine gate_dst (N := 7) rfl ?_); (try (refine gate_guard (by rfl) ?_; dsimp only)); refine box_event ?hg (N := 7) ?hd (cs := #[.int .i64 0, .int .i64 0, .int .i64 0]) (t := 56) ?hr ?_; (case hd => rfl); (case hg => rfl); (case hr => first | (go_simp; done) | (go_simp; rfl)); intro gb597 hg w19 hbox hb; have n0_ := Aside0.mk (Kd.S_below (by (with_reducible repeat (first | apply Kd.S_alloc | apply Kd.S_drewN | apply Kd.S_drew)); exact HO_5.out) hb); have n1_ := Aside0.mk (blk_below (g := gb591) (o := .cells #[.int .i64 a0_0, .slice A0_1 l0_1.length c0_1] 30 (0, 0)) (by (with_reducible repeat (first | refine blk_drewN ?_ _ | refine blk_drew ?_ | refine blk_alloc ?_ _)); exact BK591.out) hb); have n2_ := Aside0.mk (below_step (by repeat (first | (with_reducible first | exact HB.out | apply below_alloc | apply pw_below_drewN | apply below_drew1 | refine below_set ?_ GE591.out) | exact HB.out)) hb); have n3_ := Aside0.mk (hbox); have n4_ := Aside0.mk ((by rw [hg]; exact (below_size (by repeat (first | (with_reducible first | exact HB.out | apply below_alloc | apply pw_below_drewN | apply below_drew1 | refine below_set ?_ GE591.out) | exact HB.out))) : w.heap.size ≤ gb597)); have n5_ := Aside0.mk ((by rw [hg]; exact (below_size (by repeat (first | (with_reducible first | exact HB.out | apply below_alloc | apply pw_below_drewN | apply below_drew1 | refine below_set ?_ GE591.out) | exact HB.out))) : w.heap.size ≤ gb597)); have n6_ := Aside0.mk ((by rw [hg]; exact Nat.ne_of_lt (blk_lt (g := gb591) (o := .cells #[.int .i64 a0_0, .slice A0_1 l0_1.length c0_1] 30 (0, 0)) (by (with_reducible repeat (first | refine blk_drewN ?_ _ | refine blk_drew ?_ | refine blk_alloc ?_ _)); exact BK591.out)) : gb591 ≠ gb597)); have n7_ := Aside0.mk ((by rw [hg]; exact Nat.ne_of_gt (blk_lt (g := gb591) (o := .cells #[.int .i64 a0_0, .slice A0_1 l0_1.length c0_1] 30 (0, 0)) (by (with_reducible repeat (first | refine blk_drewN ?_ _ | refine blk_drew ?_ | refine blk_alloc ?_ _)); exact BK591.out)) : gb597 ≠ gb591)); clear HO_5; clear BK591; clear HB; have HO_5 := n0_; have BK591 := n1_; have HB := n2_; have BK597 := n3_; have GW597 := n4_; have GE597 := n5_; have NB591_597 := n6_; have NB597_591 := n7_; clear n0_ n1_ n2_ n3_ n4_ n5_ n6_ n7_; clear hb hbox hg; have hnb20 := NB597_591.out; have hnc20 := NB591_597.out; have hcz21_0 : w19.cell? ⟨gb597, 0, none⟩ = some (.int .i64 0) := (blk_cell BK597.out 0).trans rfl; have hcz21_1 : w19.cell? ⟨gb597, 1, none⟩ = some (.int .i64 0) := (blk_cell BK597.out 1).trans rfl; have hcz21_2 : w19.cell? ⟨gb597, 2, none⟩ = some (.int .i64 0) := (blk_cell BK597.out 2).trans rfl; have hfz21_0 := blk_frozen BK597.out 0; have hfz21_1 := blk_frozen BK597.out 1; have hfz21_2 := blk_frozen BK597.out 2))
         (try simp only [Act.put, List.setIfInBounds_toArray, List.set_cons_zero, List.set_cons_succ])
         go_cut [47] (fun v47 wc => ∃ (kq : Nat) (x47_17 : Bool), v47 = .bool x47_17 ∧ Aside0 (spec_Honest.j2 kq t593 x23_2 l1 (l1.length : Int) x23_2 x47_17 a0_0 l0_1 = some r) ∧ Aside0 (kq ≤ k2) ∧ Aside0 (Kd.S (Kd.slice 3 (Kd.int .i64)) 59 wc w.heap.size (fun _ => True) v594 t593) ∧ Aside0 (wc.heap[gb591]? = some (.cells #[.int .i64 a0_0, (.slice A0_1 l0_1.length c0_1)] 30 (0, 0))) ∧ Aside0 (wc.heap[gb597]? = some (.cells #[.int .i64 ((rd_T56 l1 x23_2).f0), .int .i64 ((rd_T56 l1 x23_2).f1), .int .i64 ((rd_T56 l1 x23_2).f2)] 56 (0, 0))) ∧ Aside0 (Below w.heap.size w wc))
         case first =>
          have H := HC18.out
          clear HC18
          replace H := Option.bind_eq_some_iff.mp H
          obtain ⟨t598, A220, H⟩ := H
          replace H : (if t598 = true then (if ((rd_T56 l1 x23_2).f0) = 5 then (if x23_2 < (t593.length : Int) then (if 0 ≤ ((rd_T56 l1 x23_2).f1) then (if ((rd_T56 l1 x23_2).f1) < ((rd_L12 t593 x23_2).length : Int) then (spec_Honest.j2 k2 t593 x23_2 l1 (l1.length : Int) x23_2 ((rd (rd_L12 t593 x23_2) ((rd_T56 l1 x23_2).f1)) != 0) a0_0 l0_1) else (none)) else (none)) else (none)) else (spec_Honest.j2 k2 t593 x23_2 l1 (l1.length : Int) x23_2 false a0_0 l0_1)) else (spec_Honest.j2 k2 t593 x23_2 l1 (l1.length : Int) x23_2 true a0_0 l0_1)) = some r := H
          have A22 := Aside0.mk A220
          clear A220
          by_cases c23 : t598 = true
          ·subst c23
           have H1 : (if ((rd_T56 l1 x23_2).f0) = 5 then (if x23_2 < (t593.length : Int) then (if 0 ≤ ((rd_T56 l1 x23_2).f1) then (if ((rd_T56 l1 x23_2).f1) < ((rd_L12 t593 x23_2).length : Int) then (spec_Honest.j2 k2 t593 x23_2 l1 (l1.length : Int) x23_2 ((rd (rd_L12 t593 x23_2) ((rd_T56 l1 x23_2).f1)) != 0) a0_0 l0_1) else (none)) else (none)) else (none)) else (spec_Honest.j2 k2 t593 x23_2 l1 (l1.length : Int) x23_2 false a0_0 l0_1)) = some r := by rw [if_pos rfl] at H; exact H
           clear H
           have H := H1
           clear H1
           by_cases c24 : ((rd_T56 l1 x23_2).f0) = 5
           ·rw [if_pos c24] at H
            have c24b0 : (((rd_T56 l1 x23_2).f0) == 5) = true := beq_iff_eq.mpr c24
            have c24b1 : (((rd_T56 l1 x23_2).f0) != 5) = false := bne_eq_false_iff_eq.mpr c24
            clear c24
            (first | rw [c24b0] | (simp only [i64_w, i32_w]; rw [c24b0]) | skip)
            by_cases c25 : x23_2 < (t593.length : Int)
            ·rw [if_pos c25] at H
             have c25b0 : decide (x23_2 < (t593.length : Int)) = true := decide_eq_true c25
             clear c25
             by_cases c26 : 0 ≤ ((rd_T56 l1 x23_2).f1)
             ·rw [if_pos c26] at H
              have c26b0 : decide (0 ≤ ((rd_T56 l1 x23_2).f1)) = true := decide_eq_true c26
              clear c26
              by_cases c27 : ((rd_T56 l1 x23_2).f1) < ((rd_L12 t593 x23_2).length : Int)
              ·rw [if_pos c27] at H
               have c27b0 : decide (((rd_T56 l1 x23_2).f1) < ((rd_L12 t593 x23_2).length : Int)) = true := decide_eq_true c27
               clear c27
               have H' := Aside0.mk H
               clear H
               try go_wp2
               have n0_ : Aside0 (Kd.S (Kd.slice 3 (Kd.int .i64)) 59 (((w19.setCell ⟨gb597, 0, none⟩ (.int .i64 ((rd_T56 l1 x23_2).f0))).setCell ⟨gb597, 1, none⟩ (.int .i64 ((rd_T56 l1 x23_2).f1))).setCell ⟨gb597, 2, none⟩ (.int .i64 ((rd_T56 l1 x23_2).f2))) w.heap.size (fun _ => True) v594 t593) := ⟨by (with_reducible repeat (first | apply Kd.S_alloc | apply Kd.S_drewN | apply Kd.S_drew)); exact Kd.S_mono (Kd.S_far (p := ⟨gb597, 2, none⟩) (Kd.S_far (p := ⟨gb597, 1, none⟩) (Kd.S_far (p := ⟨gb597, 0, none⟩) (Kd.S_types HO_5.out BK597.out (by decide)) (fun _ hk => hk.2) (.int .i64 ((rd_T56 l1 x23_2).f0))) (fun _ hk => hk.2) (.int .i64 ((rd_T56 l1 x23_2).f1))) (fun _ hk => hk.2) (.int .i64 ((rd_T56 l1 x23_2).f2))) (fun _ hk => trivial)⟩
               have n1_ : Aside0 ((((w19.setCell ⟨gb597, 0, none⟩ (.int .i64 ((rd_T56 l1 x23_2).f0))).setCell ⟨gb597, 1, none⟩ (.int .i64 ((rd_T56 l1 x23_2).f1))).setCell ⟨gb597, 2, none⟩ (.int .i64 ((rd_T56 l1 x23_2).f2))).heap[gb591]? = some (.cells #[.int .i64 a0_0, .slice A0_1 l0_1.length c0_1] 30 (0, 0))) := ⟨by (with_reducible repeat (first | refine blk_drewN ?_ _ | refine blk_drew ?_ | refine blk_alloc ?_ _)); refine blk_far ?_ NB591_597.out _; (with_reducible repeat (first | refine blk_drewN ?_ _ | refine blk_drew ?_ | refine blk_alloc ?_ _)); refine blk_far ?_ NB591_597.out _; (with_reducible repeat (first | refine blk_drewN ?_ _ | refine blk_drew ?_ | refine blk_alloc ?_ _)); refine blk_far ?_ NB591_597.out _; (with_reducible repeat (first | refine blk_drewN ?_ _ | refine blk_drew ?_ | refine blk_alloc ?_ _)); exact BK591.out⟩
               have n2_ : Aside0 ((((w19.setCell ⟨gb597, 0, none⟩ (.int .i64 ((rd_T56 l1 x23_2).f0))).setCell ⟨gb597, 1, none⟩ (.int .i64 ((rd_T56 l1 x23_2).f1))).setCell ⟨gb597, 2, none⟩ (.int .i64 ((rd_T56 l1 x23_2).f2))).heap[gb597]? = some (.cells #[.int .i64 ((rd_T56 l1 x23_2).f0), .int .i64 ((rd_T56 l1 x23_2).f1), .int .i64 ((rd_T56 l1 x23_2).f2)] 56 (0, 0))) := ⟨by (with_reducible repeat (first | refine blk_drewN ?_ _ | refine blk_drew ?_ | refine blk_alloc ?_ _)); refine blk_put (cs := #[.int .i64 ((rd_T56 l1 x23_2).f0), .int .i64 ((rd_T56 l1 x23_2).f1), .int .i64 0]) ?_ 2 _ rfl; (with_reducible repeat (first | refine blk_drewN ?_ _ | refine blk_drew ?_ | refine blk_alloc ?_ _)); refine blk_put (cs := #[.int .i64 ((rd_T56 l1 x23_2).f0), .int .i64 0, .int .i64 0]) ?_ 1 _ rfl; (with_reducible repeat (first | refine blk_drewN ?_ _ | refine blk_drew ?_ | refine blk_alloc ?_ _)); refine blk_put (cs := #[.int .i64 0, .int .i64 0, .int .i64 0]) ?_ 0 _ rfl; (with_reducible repeat (first | refine blk_drewN ?_ _ | refine blk_drew ?_ | refine blk_alloc ?_ _)); exact BK597.out⟩
               have n3_ : Aside0 (Below w.heap.size w (((w19.setCell ⟨gb597, 0, none⟩ (.int .i64 ((rd_T56 l1 x23_2).f0))).setCell ⟨gb597, 1, none⟩ (.int .i64 ((rd_T56 l1 x23_2).f1))).setCell ⟨gb597, 2, none⟩ (.int .i64 ((rd_T56 l1 x23_2).f2)))) := ⟨by repeat (first | (with_reducible first | exact HB.out | apply below_alloc | apply pw_below_drewN | apply below_drew1 | refine below_set ?_ GE591.out | refine below_set ?_ GE597.out) | exact HB.out)⟩
               (try clear HO_5)
               (try clear BK591)
               (try clear BK597)
               (try clear HB)
               generalize (((w19.setCell ⟨gb597, 0, none⟩ (.int .i64 ((rd_T56 l1 x23_2).f0))).setCell ⟨gb597, 1, none⟩ (.int .i64 ((rd_T56 l1 x23_2).f1))).setCell ⟨gb597, 2, none⟩ (.int .i64 ((rd_T56 l1 x23_2).f2))) = w28 at n0_ n1_ n2_ n3_ ⊢
               have HO_5 := n0_
               have BK591 := n1_
               have BK597 := n2_
               have HB := n3_
               clear n0_ n1_ n2_ n3_
               have n0_ := Aside0.mk (Kd.S_drew HO_5.out)
               have n1_ := Aside0.mk (blk_drew BK591.out)
               have n2_ := Aside0.mk (blk_drew BK597.out)
               have n3_ := Aside0.mk (below_drew1 HB.out)
               clear HO_5
               clear BK591
               clear BK597
               clear HB
               have HO_5 := n0_
               have BK591 := n1_
               have BK597 := n2_
               have HB := n3_
               clear n0_ n1_ n2_ n3_
               have p599 : 0 ≤ (x23_2 : Int) := of_decide_eq_true (by first | (with_reducible assumption) | assumption)
               have q599 : x23_2 < (t593.length : Int) := of_decide_eq_true (by first | (with_reducible assumption) | assumption)
               obtain ⟨Aq_, cq_, eq_⟩ := Kd.S_slice HO_5.out
               (try subst eq_)
               obtain ⟨ad599, A599_0, c599_0, e599, hx599_0, hl599_0, hi599_0⟩ := at_L12 (Kd.S_reads' HO_5.out).2.2 x23_2 p599 q599
               cases e599
               obtain ⟨ce599, hce599, hMe599, hcc599⟩ := Kd.S_get HO_5.out [] x23_2 p599 (by first | exact q599 | exact of_decide_eq_true (by first | (with_reducible assumption) | assumption) | (have e_ := (Kd.S_reads' HO_5.out).1; omega))
               obtain ⟨ve599_0, rfl, ge599_0⟩ := hMe599
               have hv599_0 := hcc599 0 _ rfl
               rw [Nat.add_zero, show ((Kd.slice 3 (Kd.int .i64))).sz = 1 from rfl, Nat.mul_one] at hv599_0
               replace hv599_0 := Option.some.inj (hv599_0.symm.trans hx599_0)
               rw [hv599_0] at ge599_0
               have HL599_0 := Aside0.mk (show Kd.R (Kd.int .i64) 3 _ _ _ _ (rd_L12 t593 x23_2) from ge599_0)
               clear hv599_0 ge599_0
               clear hcc599 hce599
               have HR599_0 := Aside0.mk hi599_0
               have HC599_0 := Aside0.mk hl599_0
               clear hi599_0 hl599_0
               replace p599 := eq_true p599
               replace q599 := eq_true q599
               have p600 : 0 ≤ (((rd_T56 l1 x23_2).f1) : Int) := of_decide_eq_true (by first | (with_reducible assumption) | assumption)
               have q600 : ((rd_T56 l1 x23_2).f1) < ((rd_L12 t593 x23_2).length : Int) := of_decide_eq_true (by first | (with_reducible assumption) | assumption)
               obtain ⟨ad600, e600, hx600_0⟩ := Kd.at_int HR599_0.out ((rd_T56 l1 x23_2).f1) p600 q600
               cases e600
               replace p600 := eq_true p600
               replace q600 := eq_true q600
               refine start_ (n := 20) (S := fun w' => w'.cell? ⟨gb591, 0, none⟩ = some (.int .i64 a0_0) ∧ w'.cell? ⟨gb591, 1, none⟩ = some (.slice A0_1 l0_1.length c0_1) ∧ w'.cell? ⟨gb597, 0, none⟩ = some (.int .i64 ((rd_T56 l1 x23_2).f0)) ∧ w'.cell? ⟨gb597, 1, none⟩ = some (.int .i64 ((rd_T56 l1 x23_2).f1)) ∧ w'.cell? ⟨gb597, 2, none⟩ = some (.int .i64 ((rd_T56 l1 x23_2).f2)) ∧ w'.cell? (ad599.add (x23_2).toNat) = some (.slice (some ad600) (rd_L12 t593 x23_2).length c599_0) ∧ w'.cell? (ad600.add (((rd_T56 l1 x23_2).f1)).toNat) = some (.int .i64 (rd (rd_L12 t593 x23_2) ((rd_T56 l1 x23_2).f1)))) (ds := []) #[false, false, false, false, false, false, false, false, false, false, false, false, false, false, false, false, false, false, false, false] (by kernel_rfl) rfl rfl ⟨(blk_cell BK591.out 0).trans rfl, (blk_cell BK591.out 1).trans rfl, (blk_cell BK597.out 0).trans rfl, (blk_cell BK597.out 1).trans rfl, (blk_cell BK597.out 2).trans rfl, hx599_0, hx600_0⟩ (fun hHeld => ?_); refine with_tabW spec_Honest.tab7 spec_Honest.bits7 (fun HT_ HW_ => ?_)
               generalize w28.drew = w29 at HO_5 BK591 BK597 HB HL599_0 HR599_0 hx599_0 hx600_0 hHeld ⊢
               refine take_ (i := 0) (N := some 28) (v := ?_) (a' := ?_) #[true, false, false, false, false, false, false, false, false, false, false, false, false, false, false, false, false, false, false, false] rfl rfl (take_ofW HT_.out HW_.out (by kernel_rfl)) (fun _ _ _ h => h) (Or.inl ⟨by rfl, ?_⟩) hHeld ?_ ?_
               rotate_left
               ·rintro w' ⟨s0, s1, s2, s3, s4, s5, s6⟩
                go_simp
                with_reducible rfl
               rotate_left
               ·simp only [Act.put, List.setIfInBounds_toArray, List.set_cons_zero, List.set_cons_succ, i64_w, i32_w]
                rfl
               refine take_ (i := 1) (N := some 29) (v := ?_) (a' := ?_) #[true, true, false, false, false, false, false, false, false, false, false, false, false, false, false, false, false, false, false, false] rfl rfl (take_ofW HT_.out HW_.out (by kernel_rfl)) (fun _ _ _ h => h) (Or.inl ⟨by rfl, ?_⟩) hHeld ?_ ?_
               rotate_left
               ·rintro w' ⟨s0, s1, s2, s3, s4, s5, s6⟩
                go_simp
                with_reducible rfl
               rotate_left
               ·simp only [Act.put, List.setIfInBounds_toArray, List.set_cons_zero, List.set_cons_succ, i64_w, i32_w]
                rfl
               refine one_ (i := 2) (N := some 30) #[true, true, true, false, false, false, false, false, false, false, false, false, false, false, false, false, false, false, false, false] rfl rfl (one_of HT_.out (by kernel_rfl)) (by decide) (fun K hK => ?_)
               refine goes_ Try.func34 (by kernel_rfl) rfl #[.agg #[.int .i64 a0_0, .slice A0_1 l0_1.length c0_1], .agg #[.int .i64 ((rd_T56 l1 x23_2).f0), .int .i64 ((rd_T56 l1 x23_2).f1), .int .i64 ((rd_T56 l1 x23_2).f2)]] (by rfl) rfl rfl (by (try simp only [List.map_toArray, List.map_cons, List.map_nil]); first | done | rfl | (simp only [List.length_drop, List.length_take]; rfl)) ?_
               with_reducible refine (spec_EventOk.calls k2 a0_0 _ _ l0_1 ((rd_T56 l1 x23_2).f0) ((rd_T56 l1 x23_2).f1) ((rd_T56 l1 x23_2).f2) true _ ?side1 ?side2 A22.out).mono ?_
               (case side1 => repeat (first | exact (Kd.C_below HR0_1.out HB.out) | (with_reducible refine Kd.C_alloc ?_ _) | (with_reducible refine Kd.C_drewN ?_ _) | (with_reducible refine Kd.C_drew ?_)))
               (case side2 => exact HC0_1.out)
               rintro e w30 ⟨rfl, hb⟩
               have HS5_ := (hb.cell (World.block_lt_of_cell? _ _ (hHeld.2.2.2.2.2.1))).trans (hHeld.2.2.2.2.2.1)
               have HS6_ := (hb.cell (World.block_lt_of_cell? _ _ (hHeld.2.2.2.2.2.2))).trans (hHeld.2.2.2.2.2.2)
               refine ⟨_, rfl, ?_⟩
               have n0_ := Aside0.mk (Kd.S_below (by (with_reducible repeat (first | apply Kd.S_alloc | apply Kd.S_drewN | apply Kd.S_drew)); exact HO_5.out) hb)
               have n1_ := Aside0.mk (blk_below (g := gb591) (o := .cells #[.int .i64 a0_0, .slice A0_1 l0_1.length c0_1] 30 (0, 0)) (by (with_reducible repeat (first | refine blk_drewN ?_ _ | refine blk_drew ?_ | refine blk_alloc ?_ _)); exact BK591.out) hb)
               have n2_ := Aside0.mk (blk_below (g := gb597) (o := .cells #[.int .i64 ((rd_T56 l1 x23_2).f0), .int .i64 ((rd_T56 l1 x23_2).f1), .int .i64 ((rd_T56 l1 x23_2).f2)] 56 (0, 0)) (by (with_reducible repeat (first | refine blk_drewN ?_ _ | refine blk_drew ?_ | refine blk_alloc ?_ _)); exact BK597.out) hb)
               have n3_ := Aside0.mk (below_step (by repeat (first | (with_reducible first | exact HB.out | apply below_alloc | apply pw_below_drewN | apply below_drew1 | refine below_set ?_ GE591.out | refine below_set ?_ GE597.out) | exact HB.out)) hb)
               clear HO_5
               clear BK591
               clear BK597
               clear HB
               have HO_5 := n0_
               have BK591 := n1_
               have BK597 := n2_
               have HB := n3_
               clear n0_ n1_ n2_ n3_
               (try clear hb)
               (try clear hb2)
               (try clear hk)
               (try clear hi)
               obtain ⟨Ao31, co31, eo31⟩ := Kd.S_slice HO_5.out
               (first | subst eo31 | (injection eo31 with f1_ f2_ f3_; have f4_ := f1_.symm; have f5_ := f3_.symm; clear f1_ f2_ f3_; subst f4_; subst f5_))
               have p600 : 0 ≤ (((rd_T56 l1 x23_2).f1) : Int) := of_decide_eq_true (by first | (with_reducible assumption) | assumption)
               have q600 : ((rd_T56 l1 x23_2).f1) < ((rd_L12 t593 x23_2).length : Int) := of_decide_eq_true (by first | (with_reducible assumption) | assumption)
               obtain ⟨ad600, e600, hx600_0⟩ := Kd.at_int (by repeat (first | (with_reducible exact HR599_0.out) | (with_reducible refine Kd.C_alloc ?_ _) | (with_reducible refine Kd.C_drewN ?_ _) | (with_reducible refine Kd.C_drew ?_) | exact HR599_0.out)) ((rd_T56 l1 x23_2).f1) p600 q600
               cases e600
               replace p600 := eq_true p600
               replace q600 := eq_true q600
               refine hK.out _ _ ⟨(blk_cell BK591.out 0).trans rfl, (blk_cell BK591.out 1).trans rfl, (blk_cell BK597.out 0).trans rfl, (blk_cell BK597.out 1).trans rfl, (blk_cell BK597.out 2).trans rfl, HS5_, HS6_⟩ (fun hHeld => ?_)
               clear hK K
               refine norm_ (a' := ?_) ?_ ?_
               rotate_left
               ·show Act.put _ (some 30) _ = _
                simp only [Act.put, List.setIfInBounds_toArray, List.set_cons_zero, List.set_cons_succ, i64_w, i32_w]
                rfl
               refine pure_ (i := 3) (N := some 31) (v := ?_) (a' := ?_) #[true, true, true, true, false, false, false, false, false, false, false, false, false, false, false, false, false, false, false, false] rfl rfl (any_of HT_.out (by kernel_rfl)) (fun _ _ _ h => h) (Or.inl ⟨by rfl, ?_⟩) ?_ ?_
               rotate_left
               ·intro w'
                go_simp
                with_reducible rfl
               rotate_left
               ·simp only [Act.put, List.setIfInBounds_toArray, List.set_cons_zero, List.set_cons_succ, i64_w, i32_w]
                rfl
               refine pure_ (i := 4) (N := some 32) (v := ?_) (a' := ?_) #[true, true, true, true, true, false, false, false, false, false, false, false, false, false, false, false, false, false, false, false] rfl rfl (any_of HT_.out (by kernel_rfl)) (fun _ _ _ h => h) (Or.inl ⟨by rfl, ?_⟩) ?_ ?_
               rotate_left
               ·intro w'
                go_simp
                with_reducible rfl
               rotate_left
               ·simp only [Act.put, List.setIfInBounds_toArray, List.set_cons_zero, List.set_cons_succ, i64_w, i32_w]
                rfl
               refine pure_ (i := 5) (N := some 33) (v := ?_) (a' := ?_) #[true, true, true, true, true, true, false, false, false, false, false, false, false, false, false, false, false, false, false, false] rfl rfl (any_of HT_.out (by kernel_rfl)) (fun _ _ _ h => h) (Or.inl ⟨by rfl, ?_⟩) ?_ ?_
               rotate_left
               ·intro w'
                go_simp
                with_reducible rfl
               rotate_left
               ·simp only [Act.put, List.setIfInBounds_toArray, List.set_cons_zero, List.set_cons_succ, i64_w, i32_w]
                rfl
               refine take_ (i := 6) (N := some 34) (v := ?_) (a' := ?_) #[true, true, true, true, true, true, true, false, false, false, false, false, false, false, false, false, false, false, false, false] rfl rfl (take_ofW HT_.out HW_.out (by kernel_rfl)) (fun _ _ _ h => h) (Or.inl ⟨by rfl, ?_⟩) hHeld ?_ ?_
               rotate_left
               ·rintro w' ⟨s0, s1, s2, s3, s4, s5, s6⟩
                go_simp
                with_reducible rfl
               rotate_left
               ·simp only [Act.put, List.setIfInBounds_toArray, List.set_cons_zero, List.set_cons_succ, i64_w, i32_w]
                rfl
               refine pure_ (i := 7) (N := some 35) (v := ?_) (a' := ?_) #[true, true, true, true, true, true, true, true, false, false, false, false, false, false, false, false, false, false, false, false] rfl rfl (any_of HT_.out (by kernel_rfl)) (fun _ _ _ h => h) (Or.inl ⟨by rfl, ?_⟩) ?_ ?_
               rotate_left
               ·intro w'
                go_simp
                with_reducible rfl
               rotate_left
               ·simp only [Act.put, List.setIfInBounds_toArray, List.set_cons_zero, List.set_cons_succ, i64_w, i32_w]
                rfl
               refine pure_ (i := 8) (N := some 36) (v := ?_) (a' := ?_) #[true, true, true, true, true, true, true, true, true, false, false, false, false, false, false, false, false, false, false, false] rfl rfl (any_of HT_.out (by kernel_rfl)) (fun _ _ _ h => h) (Or.inl ⟨by rfl, ?_⟩) ?_ ?_
               rotate_left
               ·intro w'
                go_simp
                with_reducible rfl
               rotate_left
               ·simp only [Act.put, List.setIfInBounds_toArray, List.set_cons_zero, List.set_cons_succ, i64_w, i32_w]
                rfl
               refine pure_ (i := 9) (N := some 37) (v := ?_) (a' := ?_) #[true, true, true, true, true, true, true, true, true, true, false, false, false, false, false, false, false, false, false, false] rfl rfl (any_of HT_.out (by kernel_rfl)) (fun _ _ _ h => h) (Or.inl ⟨by rfl, ?_⟩) ?_ ?_
               rotate_left
               ·intro w'
                go_simp
                with_reducible rfl
               rotate_left
               ·simp only [Act.put, List.setIfInBounds_toArray, List.set_cons_zero, List.set_cons_succ, i64_w, i32_w]
                rfl
               refine pure_ (i := 10) (N := some 38) (v := ?_) (a' := ?_) #[true, true, true, true, true, true, true, true, true, true, true, false, false, false, false, false, false, false, false, false] rfl rfl (any_of HT_.out (by kernel_rfl)) (fun _ _ _ h => h) (Or.inl ⟨by rfl, ?_⟩) ?_ ?_
               rotate_left
               ·intro w'
                go_simp
                with_reducible rfl
               rotate_left
               ·simp only [Act.put, List.setIfInBounds_toArray, List.set_cons_zero, List.set_cons_succ, i64_w, i32_w]
                rfl
               refine pure_ (i := 11) (N := some 39) (v := ?_) (a' := ?_) #[true, true, true, true, true, true, true, true, true, true, true, true, false, false, false, false, false, false, false, false] rfl rfl (any_of HT_.out (by kernel_rfl)) (fun _ _ _ h => h) (Or.inl ⟨by rfl, ?_⟩) ?_ ?_
               rotate_left
               ·intro w'
                go_simp
                with_reducible rfl
               rotate_left
               ·simp only [Act.put, List.setIfInBounds_toArray, List.set_cons_zero, List.set_cons_succ, i64_w, i32_w]
                rfl
               refine pure_ (i := 13) (N := some 41) (v := ?_) (a' := ?_) #[true, true, true, true, true, true, true, true, true, true, true, true, false, true, false, false, false, false, false, false] rfl rfl (any_of HT_.out (by kernel_rfl)) (fun _ _ _ h => h) (Or.inl ⟨by rfl, ?_⟩) ?_ ?_
               rotate_left
               ·intro w'
                go_simp
                with_reducible rfl
               rotate_left
               ·simp only [Act.put, List.setIfInBounds_toArray, List.set_cons_zero, List.set_cons_succ, i64_w, i32_w]
                rfl
               refine take_ (i := 12) (N := some 40) (v := ?_) (a' := ?_) #[true, true, true, true, true, true, true, true, true, true, true, true, true, true, false, false, false, false, false, false] rfl rfl (take_ofW HT_.out HW_.out (by kernel_rfl)) (fun _ _ _ h => h) (Or.inl ⟨by rfl, ?_⟩) hHeld ?_ ?_
               rotate_left
               ·rintro w' ⟨s0, s1, s2, s3, s4, s5, s6⟩
                go_simp
                with_reducible rfl
               rotate_left
               ·simp only [Act.put, List.setIfInBounds_toArray, List.set_cons_zero, List.set_cons_succ, i64_w, i32_w]
                rfl
               refine take_ (i := 14) (N := some 42) (v := ?_) (a' := ?_) #[true, true, true, true, true, true, true, true, true, true, true, true, true, true, true, false, false, false, false, false] rfl rfl (take_ofW HT_.out HW_.out (by kernel_rfl)) (fun _ _ _ h => h) (Or.inl ⟨by rfl, ?_⟩) hHeld ?_ ?_
               rotate_left
               ·rintro w' ⟨s0, s1, s2, s3, s4, s5, s6⟩
                go_simp
                with_reducible rfl
               rotate_left
               ·simp only [Act.put, List.setIfInBounds_toArray, List.set_cons_zero, List.set_cons_succ, i64_w, i32_w]
                rfl
               refine pure_ (i := 15) (N := some 43) (v := ?_) (a' := ?_) #[true, true, true, true, true, true, true, true, true, true, true, true, true, true, true, true, false, false, false, false] rfl rfl (any_of HT_.out (by kernel_rfl)) (fun _ _ _ h => h) (Or.inl ⟨by rfl, ?_⟩) ?_ ?_
               rotate_left
               ·intro w'
                go_simp
                with_reducible rfl
               rotate_left
               ·simp only [Act.put, List.setIfInBounds_toArray, List.set_cons_zero, List.set_cons_succ, i64_w, i32_w]
                rfl
               refine take_ (i := 16) (N := some 44) (v := ?_) (a' := ?_) #[true, true, true, true, true, true, true, true, true, true, true, true, true, true, true, true, true, false, false, false] rfl rfl (take_ofW HT_.out HW_.out (by kernel_rfl)) (fun _ _ _ h => h) (Or.inl ⟨by rfl, ?_⟩) hHeld ?_ ?_
               rotate_left
               ·rintro w' ⟨s0, s1, s2, s3, s4, s5, s6⟩
                go_simp
                with_reducible rfl
               rotate_left
               ·simp only [Act.put, List.setIfInBounds_toArray, List.set_cons_zero, List.set_cons_succ, i64_w, i32_w]
                rfl
               refine pure_ (i := 17) (N := some 45) (v := ?_) (a' := ?_) #[true, true, true, true, true, true, true, true, true, true, true, true, true, true, true, true, true, true, false, false] rfl rfl (any_of HT_.out (by kernel_rfl)) (fun _ _ _ h => h) (Or.inl ⟨by rfl, ?_⟩) ?_ ?_
               rotate_left
               ·intro w'
                go_simp
                with_reducible rfl
               rotate_left
               ·simp only [Act.put, List.setIfInBounds_toArray, List.set_cons_zero, List.set_cons_succ, i64_w, i32_w]
                rfl
               refine pure_ (i := 18) (N := some 46) (v := ?_) (a' := ?_) #[true, true, true, true, true, true, true, true, true, true, true, true, true, true, true, true, true, true, true, false] rfl rfl (any_of HT_.out (by kernel_rfl)) (fun _ _ _ h => h) (Or.inl ⟨by rfl, ?_⟩) ?_ ?_
               rotate_left
               ·intro w'
                go_simp
                with_reducible rfl
               rotate_left
               ·simp only [Act.put, List.setIfInBounds_toArray, List.set_cons_zero, List.set_cons_succ, i64_w, i32_w]
                rfl
               refine pure_ (i := 19) (N := some 47) (v := ?_) (a' := ?_) #[true, true, true, true, true, true, true, true, true, true, true, true, true, true, true, true, true, true, true, true] rfl rfl (any_of HT_.out (by kernel_rfl)) (fun _ _ _ h => h) (Or.inl ⟨by rfl, ?_⟩) ?_ ?_
               rotate_left
               ·intro w'
                go_simp
                with_reducible rfl
               rotate_left
               ·simp only [Act.put, List.setIfInBounds_toArray, List.set_cons_zero, List.set_cons_succ, i64_w, i32_w]
                rfl
               refine done_ (done_of HT_.out (by kernel_rfl)) ?_
               try go_wp2
               go_meet
               case rel => exact ⟨_, (((rd (rd_L12 t593 x23_2) ((rd_T56 l1 x23_2).f1)) != 0)), (by first | rfl | (simp; done) | (simp [*]; done)), H', ⟨by have := HJ2.out; have := HK2.out; first | omega | exact Nat.le_refl _⟩, ⟨by (with_reducible repeat (first | apply Kd.S_alloc | apply Kd.S_drewN | apply Kd.S_drew)); exact HO_5.out⟩, ⟨by (with_reducible repeat (first | refine blk_drewN ?_ _ | refine blk_drew ?_ | refine blk_alloc ?_ _)); exact BK591.out⟩, ⟨by (with_reducible repeat (first | refine blk_drewN ?_ _ | refine blk_drew ?_ | refine blk_alloc ?_ _)); exact BK597.out⟩, ⟨by repeat (first | (with_reducible first | exact HB.out | apply below_alloc | apply pw_below_drewN | apply below_drew1 | refine below_set ?_ GE591.out | refine below_set ?_ GE597.out) | exact HB.out)⟩⟩
              ·rw [if_neg c27] at H
               exact absurd H (by simp)
             ·rw [if_neg c26] at H
              exact absurd H (by simp)
            ·rw [if_neg c25] at H
             exact absurd H (by simp)
           ·rw [if_neg c24] at H
            have c24b0 : (((rd_T56 l1 x23_2).f0) == 5) = false := beq_eq_false_iff_ne.mpr c24
            have c24b1 : (((rd_T56 l1 x23_2).f0) != 5) = true := bne_iff_ne.mpr c24
            (first | rw [c24b0] | (simp only [i64_w, i32_w]; rw [c24b0]) | skip)
            have H' := Aside0.mk H
            clear H
            try go_wp2
            have n0_ : Aside0 (Kd.S (Kd.slice 3 (Kd.int .i64)) 59 (((w19.setCell ⟨gb597, 0, none⟩ (.int .i64 ((rd_T56 l1 x23_2).f0))).setCell ⟨gb597, 1, none⟩ (.int .i64 ((rd_T56 l1 x23_2).f1))).setCell ⟨gb597, 2, none⟩ (.int .i64 ((rd_T56 l1 x23_2).f2))) w.heap.size (fun _ => True) v594 t593) := ⟨by (with_reducible repeat (first | apply Kd.S_alloc | apply Kd.S_drewN | apply Kd.S_drew)); exact Kd.S_mono (Kd.S_far (p := ⟨gb597, 2, none⟩) (Kd.S_far (p := ⟨gb597, 1, none⟩) (Kd.S_far (p := ⟨gb597, 0, none⟩) (Kd.S_types HO_5.out BK597.out (by decide)) (fun _ hk => hk.2) (.int .i64 ((rd_T56 l1 x23_2).f0))) (fun _ hk => hk.2) (.int .i64 ((rd_T56 l1 x23_2).f1))) (fun _ hk => hk.2) (.int .i64 ((rd_T56 l1 x23_2).f2))) (fun _ hk => trivial)⟩
            have n1_ : Aside0 ((((w19.setCell ⟨gb597, 0, none⟩ (.int .i64 ((rd_T56 l1 x23_2).f0))).setCell ⟨gb597, 1, none⟩ (.int .i64 ((rd_T56 l1 x23_2).f1))).setCell ⟨gb597, 2, none⟩ (.int .i64 ((rd_T56 l1 x23_2).f2))).heap[gb591]? = some (.cells #[.int .i64 a0_0, .slice A0_1 l0_1.length c0_1] 30 (0, 0))) := ⟨by (with_reducible repeat (first | refine blk_drewN ?_ _ | refine blk_drew ?_ | refine blk_alloc ?_ _)); refine blk_far ?_ NB591_597.out _; (with_reducible repeat (first | refine blk_drewN ?_ _ | refine blk_drew ?_ | refine blk_alloc ?_ _)); refine blk_far ?_ NB591_597.out _; (with_reducible repeat (first | refine blk_drewN ?_ _ | refine blk_drew ?_ | refine blk_alloc ?_ _)); refine blk_far ?_ NB591_597.out _; (with_reducible repeat (first | refine blk_drewN ?_ _ | refine blk_drew ?_ | refine blk_alloc ?_ _)); exact BK591.out⟩
            have n2_ : Aside0 ((((w19.setCell ⟨gb597, 0, none⟩ (.int .i64 ((rd_T56 l1 x23_2).f0))).setCell ⟨gb597, 1, none⟩ (.int .i64 ((rd_T56 l1 x23_2).f1))).setCell ⟨gb597, 2, none⟩ (.int .i64 ((rd_T56 l1 x23_2).f2))).heap[gb597]? = some (.cells #[.int .i64 ((rd_T56 l1 x23_2).f0), .int .i64 ((rd_T56 l1 x23_2).f1), .int .i64 ((rd_T56 l1 x23_2).f2)] 56 (0, 0))) := ⟨by (with_reducible repeat (first | refine blk_drewN ?_ _ | refine blk_drew ?_ | refine blk_alloc ?_ _)); refine blk_put (cs := #[.int .i64 ((rd_T56 l1 x23_2).f0), .int .i64 ((rd_T56 l1 x23_2).f1), .int .i64 0]) ?_ 2 _ rfl; (with_reducible repeat (first | refine blk_drewN ?_ _ | refine blk_drew ?_ | refine blk_alloc ?_ _)); refine blk_put (cs := #[.int .i64 ((rd_T56 l1 x23_2).f0), .int .i64 0, .int .i64 0]) ?_ 1 _ rfl; (with_reducible repeat (first | refine blk_drewN ?_ _ | refine blk_drew ?_ | refine blk_alloc ?_ _)); refine blk_put (cs := #[.int .i64 0, .int .i64 0, .int .i64 0]) ?_ 0 _ rfl; (with_reducible repeat (first | refine blk_drewN ?_ _ | refine blk_drew ?_ | refine blk_alloc ?_ _)); exact BK597.out⟩
            have n3_ : Aside0 (Below w.heap.size w (((w19.setCell ⟨gb597, 0, none⟩ (.int .i64 ((rd_T56 l1 x23_2).f0))).setCell ⟨gb597, 1, none⟩ (.int .i64 ((rd_T56 l1 x23_2).f1))).setCell ⟨gb597, 2, none⟩ (.int .i64 ((rd_T56 l1 x23_2).f2)))) := ⟨by repeat (first | (with_reducible first | exact HB.out | apply below_alloc | apply pw_below_drewN | apply below_drew1 | refine below_set ?_ GE591.out | refine below_set ?_ GE597.out) | exact HB.out)⟩
            (try clear HO_5)
            (try clear BK591)
            (try clear BK597)
            (try clear HB)
            generalize (((w19.setCell ⟨gb597, 0, none⟩ (.int .i64 ((rd_T56 l1 x23_2).f0))).setCell ⟨gb597, 1, none⟩ (.int .i64 ((rd_T56 l1 x23_2).f1))).setCell ⟨gb597, 2, none⟩ (.int .i64 ((rd_T56 l1 x23_2).f2))) = w32 at n0_ n1_ n2_ n3_ ⊢
            have HO_5 := n0_
            have BK591 := n1_
            have BK597 := n2_
            have HB := n3_
            clear n0_ n1_ n2_ n3_
            have n0_ := Aside0.mk (Kd.S_drew HO_5.out)
            have n1_ := Aside0.mk (blk_drew BK591.out)
            have n2_ := Aside0.mk (blk_drew BK597.out)
            have n3_ := Aside0.mk (below_drew1 HB.out)
            clear HO_5
            clear BK591
            clear BK597
            clear HB
            have HO_5 := n0_
            have BK591 := n1_
            have BK597 := n2_
            have HB := n3_
            clear n0_ n1_ n2_ n3_
            refine start_ (n := 20) (S := fun w' => w'.cell? ⟨gb591, 0, none⟩ = some (.int .i64 a0_0) ∧ w'.cell? ⟨gb591, 1, none⟩ = some (.slice A0_1 l0_1.length c0_1) ∧ w'.cell? ⟨gb597, 0, none⟩ = some (.int .i64 ((rd_T56 l1 x23_2).f0)) ∧ w'.cell? ⟨gb597, 1, none⟩ = some (.int .i64 ((rd_T56 l1 x23_2).f1)) ∧ w'.cell? ⟨gb597, 2, none⟩ = some (.int .i64 ((rd_T56 l1 x23_2).f2))) (ds := []) #[false, false, false, false, false, false, false, false, false, false, false, false, false, false, false, false, false, false, false, false] (by kernel_rfl) rfl rfl ⟨(blk_cell BK591.out 0).trans rfl, (blk_cell BK591.out 1).trans rfl, (blk_cell BK597.out 0).trans rfl, (blk_cell BK597.out 1).trans rfl, (blk_cell BK597.out 2).trans rfl⟩ (fun hHeld => ?_); refine with_tabW spec_Honest.tab7 spec_Honest.bits7 (fun HT_ HW_ => ?_)
            generalize w32.drew = w33 at HO_5 BK591 BK597 HB hHeld ⊢
            refine take_ (i := 0) (N := some 28) (v := ?_) (a' := ?_) #[true, false, false, false, false, false, false, false, false, false, false, false, false, false, false, false, false, false, false, false] rfl rfl (take_ofW HT_.out HW_.out (by kernel_rfl)) (fun _ _ _ h => h) (Or.inl ⟨by rfl, ?_⟩) hHeld ?_ ?_
            rotate_left
            ·rintro w' ⟨s0, s1, s2, s3, s4⟩
             go_simp
             with_reducible rfl
            rotate_left
            ·simp only [Act.put, List.setIfInBounds_toArray, List.set_cons_zero, List.set_cons_succ, i64_w, i32_w]
             rfl
            refine take_ (i := 1) (N := some 29) (v := ?_) (a' := ?_) #[true, true, false, false, false, false, false, false, false, false, false, false, false, false, false, false, false, false, false, false] rfl rfl (take_ofW HT_.out HW_.out (by kernel_rfl)) (fun _ _ _ h => h) (Or.inl ⟨by rfl, ?_⟩) hHeld ?_ ?_
            rotate_left
            ·rintro w' ⟨s0, s1, s2, s3, s4⟩
             go_simp
             with_reducible rfl
            rotate_left
            ·simp only [Act.put, List.setIfInBounds_toArray, List.set_cons_zero, List.set_cons_succ, i64_w, i32_w]
             rfl
            refine one_ (i := 2) (N := some 30) #[true, true, true, false, false, false, false, false, false, false, false, false, false, false, false, false, false, false, false, false] rfl rfl (one_of HT_.out (by kernel_rfl)) (by decide) (fun K hK => ?_)
            refine goes_ Try.func34 (by kernel_rfl) rfl #[.agg #[.int .i64 a0_0, .slice A0_1 l0_1.length c0_1], .agg #[.int .i64 ((rd_T56 l1 x23_2).f0), .int .i64 ((rd_T56 l1 x23_2).f1), .int .i64 ((rd_T56 l1 x23_2).f2)]] (by rfl) rfl rfl (by (try simp only [List.map_toArray, List.map_cons, List.map_nil]); first | done | rfl | (simp only [List.length_drop, List.length_take]; rfl)) ?_
            with_reducible refine (spec_EventOk.calls k2 a0_0 _ _ l0_1 ((rd_T56 l1 x23_2).f0) ((rd_T56 l1 x23_2).f1) ((rd_T56 l1 x23_2).f2) true _ ?side1 ?side2 A22.out).mono ?_
            (case side1 => repeat (first | exact (Kd.C_below HR0_1.out HB.out) | (with_reducible refine Kd.C_alloc ?_ _) | (with_reducible refine Kd.C_drewN ?_ _) | (with_reducible refine Kd.C_drew ?_)))
            (case side2 => exact HC0_1.out)
            rintro e w34 ⟨rfl, hb⟩
            refine ⟨_, rfl, ?_⟩
            have n0_ := Aside0.mk (Kd.S_below (by (with_reducible repeat (first | apply Kd.S_alloc | apply Kd.S_drewN | apply Kd.S_drew)); exact HO_5.out) hb)
            have n1_ := Aside0.mk (blk_below (g := gb591) (o := .cells #[.int .i64 a0_0, .slice A0_1 l0_1.length c0_1] 30 (0, 0)) (by (with_reducible repeat (first | refine blk_drewN ?_ _ | refine blk_drew ?_ | refine blk_alloc ?_ _)); exact BK591.out) hb)
            have n2_ := Aside0.mk (blk_below (g := gb597) (o := .cells #[.int .i64 ((rd_T56 l1 x23_2).f0), .int .i64 ((rd_T56 l1 x23_2).f1), .int .i64 ((rd_T56 l1 x23_2).f2)] 56 (0, 0)) (by (with_reducible repeat (first | refine blk_drewN ?_ _ | refine blk_drew ?_ | refine blk_alloc ?_ _)); exact BK597.out) hb)
            have n3_ := Aside0.mk (below_step (by repeat (first | (with_reducible first | exact HB.out | apply below_alloc | apply pw_below_drewN | apply below_drew1 | refine below_set ?_ GE591.out | refine below_set ?_ GE597.out) | exact HB.out)) hb)
            clear HO_5
            clear BK591
            clear BK597
            clear HB
            have HO_5 := n0_
            have BK591 := n1_
            have BK597 := n2_
            have HB := n3_
            clear n0_ n1_ n2_ n3_
            (try clear hb)
            (try clear hb2)
            (try clear hk)
            (try clear hi)
            refine hK.out _ _ ⟨(blk_cell BK591.out 0).trans rfl, (blk_cell BK591.out 1).trans rfl, (blk_cell BK597.out 0).trans rfl, (blk_cell BK597.out 1).trans rfl, (blk_cell BK597.out 2).trans rfl⟩ (fun hHeld => ?_)
            clear hK K
            refine norm_ (a' := ?_) ?_ ?_
            rotate_left
            ·show Act.put _ (some 30) _ = _
             simp only [Act.put, List.setIfInBounds_toArray, List.set_cons_zero, List.set_cons_succ, i64_w, i32_w]
             rfl
            refine pure_ (i := 3) (N := some 31) (v := ?_) (a' := ?_) #[true, true, true, true, false, false, false, false, false, false, false, false, false, false, false, false, false, false, false, false] rfl rfl (any_of HT_.out (by kernel_rfl)) (fun _ _ _ h => h) (Or.inl ⟨by rfl, ?_⟩) ?_ ?_
            rotate_left
            ·intro w'
             go_simp
             with_reducible rfl
            rotate_left
            ·simp only [Act.put, List.setIfInBounds_toArray, List.set_cons_zero, List.set_cons_succ, i64_w, i32_w]
             rfl
            refine pure_ (i := 4) (N := some 32) (v := ?_) (a' := ?_) #[true, true, true, true, true, false, false, false, false, false, false, false, false, false, false, false, false, false, false, false] rfl rfl (any_of HT_.out (by kernel_rfl)) (fun _ _ _ h => h) (Or.inl ⟨by rfl, ?_⟩) ?_ ?_
            rotate_left
            ·intro w'
             go_simp
             with_reducible rfl
            rotate_left
            ·simp only [Act.put, List.setIfInBounds_toArray, List.set_cons_zero, List.set_cons_succ, i64_w, i32_w]
             rfl
            refine pure_ (i := 5) (N := some 33) (v := ?_) (a' := ?_) #[true, true, true, true, true, true, false, false, false, false, false, false, false, false, false, false, false, false, false, false] rfl rfl (any_of HT_.out (by kernel_rfl)) (fun _ _ _ h => h) (Or.inl ⟨by rfl, ?_⟩) ?_ ?_
            rotate_left
            ·intro w'
             go_simp
             with_reducible rfl
            rotate_left
            ·simp only [Act.put, List.setIfInBounds_toArray, List.set_cons_zero, List.set_cons_succ, i64_w, i32_w]
             rfl
            refine take_ (i := 6) (N := some 34) (v := ?_) (a' := ?_) #[true, true, true, true, true, true, true, false, false, false, false, false, false, false, false, false, false, false, false, false] rfl rfl (take_ofW HT_.out HW_.out (by kernel_rfl)) (fun _ _ _ h => h) (Or.inl ⟨by rfl, ?_⟩) hHeld ?_ ?_
            rotate_left
            ·rintro w' ⟨s0, s1, s2, s3, s4⟩
             go_simp
             with_reducible rfl
            rotate_left
            ·simp only [Act.put, List.setIfInBounds_toArray, List.set_cons_zero, List.set_cons_succ, i64_w, i32_w]
             rfl
            refine pure_ (i := 7) (N := some 35) (v := ?_) (a' := ?_) #[true, true, true, true, true, true, true, true, false, false, false, false, false, false, false, false, false, false, false, false] rfl rfl (any_of HT_.out (by kernel_rfl)) (fun _ _ _ h => h) (Or.inl ⟨by rfl, ?_⟩) ?_ ?_
            rotate_left
            ·intro w'
             go_simp
             with_reducible rfl
            rotate_left
            ·simp only [Act.put, List.setIfInBounds_toArray, List.set_cons_zero, List.set_cons_succ, i64_w, i32_w]
             rfl
            refine pure_ (i := 8) (N := some 36) (v := ?_) (a' := ?_) #[true, true, true, true, true, true, true, true, true, false, false, false, false, false, false, false, false, false, false, false] rfl rfl (any_of HT_.out (by kernel_rfl)) (fun _ _ _ h => h) (Or.inl ⟨by rfl, ?_⟩) ?_ ?_
            rotate_left
            ·intro w'
             go_simp
             with_reducible rfl
            rotate_left
            ·simp only [Act.put, List.setIfInBounds_toArray, List.set_cons_zero, List.set_cons_succ, i64_w, i32_w]
             rfl
            refine pure_ (i := 9) (N := some 37) (v := undef) (a' := ?_) #[true, true, true, true, true, true, true, true, true, true, false, false, false, false, false, false, false, false, false, false] rfl rfl (any_of HT_.out (by kernel_rfl)) (fun _ _ _ h => h) (Or.inr ⟨by rfl, rfl⟩) ?_ ?_
            rotate_left
            ·simp only [Act.put, List.setIfInBounds_toArray, List.set_cons_zero, List.set_cons_succ, i64_w, i32_w]
             rfl
            refine pure_ (i := 10) (N := some 38) (v := undef) (a' := ?_) #[true, true, true, true, true, true, true, true, true, true, true, false, false, false, false, false, false, false, false, false] rfl rfl (any_of HT_.out (by kernel_rfl)) (fun _ _ _ h => h) (Or.inr ⟨by rfl, rfl⟩) ?_ ?_
            rotate_left
            ·simp only [Act.put, List.setIfInBounds_toArray, List.set_cons_zero, List.set_cons_succ, i64_w, i32_w]
             rfl
            refine pure_ (i := 11) (N := some 39) (v := undef) (a' := ?_) #[true, true, true, true, true, true, true, true, true, true, true, true, false, false, false, false, false, false, false, false] rfl rfl (any_of HT_.out (by kernel_rfl)) (fun _ _ _ h => h) (Or.inr ⟨by rfl, rfl⟩) ?_ ?_
            rotate_left
            ·simp only [Act.put, List.setIfInBounds_toArray, List.set_cons_zero, List.set_cons_succ, i64_w, i32_w]
             rfl
            refine pure_ (i := 12) (N := some 40) (v := undef) (a' := ?_) #[true, true, true, true, true, true, true, true, true, true, true, true, true, false, false, false, false, false, false, false] rfl rfl (any_of HT_.out (by kernel_rfl)) (fun _ _ _ h => h) (Or.inr ⟨by rfl, rfl⟩) ?_ ?_
            rotate_left
            ·simp only [Act.put, List.setIfInBounds_toArray, List.set_cons_zero, List.set_cons_succ, i64_w, i32_w]
             rfl
            refine pure_ (i := 13) (N := some 41) (v := undef) (a' := ?_) #[true, true, true, true, true, true, true, true, true, true, true, true, true, true, false, false, false, false, false, false] rfl rfl (any_of HT_.out (by kernel_rfl)) (fun _ _ _ h => h) (Or.inr ⟨by rfl, rfl⟩) ?_ ?_
            rotate_left
            ·simp only [Act.put, List.setIfInBounds_toArray, List.set_cons_zero, List.set_cons_succ, i64_w, i32_w]
             rfl
            refine pure_ (i := 14) (N := some 42) (v := undef) (a' := ?_) #[true, true, true, true, true, true, true, true, true, true, true, true, true, true, true, false, false, false, false, false] rfl rfl (any_of HT_.out (by kernel_rfl)) (fun _ _ _ h => h) (Or.inr ⟨by rfl, rfl⟩) ?_ ?_
            rotate_left
            ·simp only [Act.put, List.setIfInBounds_toArray, List.set_cons_zero, List.set_cons_succ, i64_w, i32_w]
             rfl
            refine pure_ (i := 15) (N := some 43) (v := undef) (a' := ?_) #[true, true, true, true, true, true, true, true, true, true, true, true, true, true, true, true, false, false, false, false] rfl rfl (any_of HT_.out (by kernel_rfl)) (fun _ _ _ h => h) (Or.inr ⟨by rfl, rfl⟩) ?_ ?_
            rotate_left
            ·simp only [Act.put, List.setIfInBounds_toArray, List.set_cons_zero, List.set_cons_succ, i64_w, i32_w]
             rfl
            refine pure_ (i := 16) (N := some 44) (v := undef) (a' := ?_) #[true, true, true, true, true, true, true, true, true, true, true, true, true, true, true, true, true, false, false, false] rfl rfl (any_of HT_.out (by kernel_rfl)) (fun _ _ _ h => h) (Or.inr ⟨by rfl, rfl⟩) ?_ ?_
            rotate_left
            ·simp only [Act.put, List.setIfInBounds_toArray, List.set_cons_zero, List.set_cons_succ, i64_w, i32_w]
             rfl
            refine pure_ (i := 17) (N := some 45) (v := undef) (a' := ?_) #[true, true, true, true, true, true, true, true, true, true, true, true, true, true, true, true, true, true, false, false] rfl rfl (any_of HT_.out (by kernel_rfl)) (fun _ _ _ h => h) (Or.inr ⟨by rfl, rfl⟩) ?_ ?_
            rotate_left
            ·simp only [Act.put, List.setIfInBounds_toArray, List.set_cons_zero, List.set_cons_succ, i64_w, i32_w]
             rfl
            refine pure_ (i := 18) (N := some 46) (v := ?_) (a' := ?_) #[true, true, true, true, true, true, true, true, true, true, true, true, true, true, true, true, true, true, true, false] rfl rfl (any_of HT_.out (by kernel_rfl)) (fun _ _ _ h => h) (Or.inl ⟨by rfl, ?_⟩) ?_ ?_
            rotate_left
            ·intro w'
             go_simp
             with_reducible rfl
            rotate_left
            ·simp only [Act.put, List.setIfInBounds_toArray, List.set_cons_zero, List.set_cons_succ, i64_w, i32_w]
             rfl
            refine pure_ (i := 19) (N := some 47) (v := ?_) (a' := ?_) #[true, true, true, true, true, true, true, true, true, true, true, true, true, true, true, true, true, true, true, true] rfl rfl (any_of HT_.out (by kernel_rfl)) (fun _ _ _ h => h) (Or.inl ⟨by rfl, ?_⟩) ?_ ?_
            rotate_left
            ·intro w'
             go_simp
             with_reducible rfl
            rotate_left
            ·simp only [Act.put, List.setIfInBounds_toArray, List.set_cons_zero, List.set_cons_succ, i64_w, i32_w]
             rfl
            refine done_ (done_of HT_.out (by kernel_rfl)) ?_
            try go_wp2
            go_meet
            case rel => exact ⟨_, (false), (by first | rfl | (simp; done) | (simp [*]; done)), H', ⟨by have := HJ2.out; have := HK2.out; first | omega | exact Nat.le_refl _⟩, ⟨by (with_reducible repeat (first | apply Kd.S_alloc | apply Kd.S_drewN | apply Kd.S_drew)); exact HO_5.out⟩, ⟨by (with_reducible repeat (first | refine blk_drewN ?_ _ | refine blk_drew ?_ | refine blk_alloc ?_ _)); exact BK591.out⟩, ⟨by (with_reducible repeat (first | refine blk_drewN ?_ _ | refine blk_drew ?_ | refine blk_alloc ?_ _)); exact BK597.out⟩, ⟨by repeat (first | (with_reducible first | exact HB.out | apply below_alloc | apply pw_below_drewN | apply below_drew1 | refine below_set ?_ GE591.out | refine below_set ?_ GE597.out) | exact HB.out)⟩⟩
          ·replace c23 := Bool.eq_false_iff.mpr c23
           subst c23
           have H1 : (spec_Honest.j2 k2 t593 x23_2 l1 (l1.length : Int) x23_2 true a0_0 l0_1) = some r := by rw [if_neg (show ¬ (false = true) by decide)] at H; exact H
           clear H
           have H := H1
           clear H1
           have H' := Aside0.mk H
           clear H
           try go_wp2
           have n0_ : Aside0 (Kd.S (Kd.slice 3 (Kd.int .i64)) 59 (((w19.setCell ⟨gb597, 0, none⟩ (.int .i64 ((rd_T56 l1 x23_2).f0))).setCell ⟨gb597, 1, none⟩ (.int .i64 ((rd_T56 l1 x23_2).f1))).setCell ⟨gb597, 2, none⟩ (.int .i64 ((rd_T56 l1 x23_2).f2))) w.heap.size (fun _ => True) v594 t593) := ⟨by (with_reducible repeat (first | apply Kd.S_alloc | apply Kd.S_drewN | apply Kd.S_drew)); exact Kd.S_mono (Kd.S_far (p := ⟨gb597, 2, none⟩) (Kd.S_far (p := ⟨gb597, 1, none⟩) (Kd.S_far (p := ⟨gb597, 0, none⟩) (Kd.S_types HO_5.out BK597.out (by decide)) (fun _ hk => hk.2) (.int .i64 ((rd_T56 l1 x23_2).f0))) (fun _ hk => hk.2) (.int .i64 ((rd_T56 l1 x23_2).f1))) (fun _ hk => hk.2) (.int .i64 ((rd_T56 l1 x23_2).f2))) (fun _ hk => trivial)⟩
           have n1_ : Aside0 ((((w19.setCell ⟨gb597, 0, none⟩ (.int .i64 ((rd_T56 l1 x23_2).f0))).setCell ⟨gb597, 1, none⟩ (.int .i64 ((rd_T56 l1 x23_2).f1))).setCell ⟨gb597, 2, none⟩ (.int .i64 ((rd_T56 l1 x23_2).f2))).heap[gb591]? = some (.cells #[.int .i64 a0_0, .slice A0_1 l0_1.length c0_1] 30 (0, 0))) := ⟨by (with_reducible repeat (first | refine blk_drewN ?_ _ | refine blk_drew ?_ | refine blk_alloc ?_ _)); refine blk_far ?_ NB591_597.out _; (with_reducible repeat (first | refine blk_drewN ?_ _ | refine blk_drew ?_ | refine blk_alloc ?_ _)); refine blk_far ?_ NB591_597.out _; (with_reducible repeat (first | refine blk_drewN ?_ _ | refine blk_drew ?_ | refine blk_alloc ?_ _)); refine blk_far ?_ NB591_597.out _; (with_reducible repeat (first | refine blk_drewN ?_ _ | refine blk_drew ?_ | refine blk_alloc ?_ _)); exact BK591.out⟩
           have n2_ : Aside0 ((((w19.setCell ⟨gb597, 0, none⟩ (.int .i64 ((rd_T56 l1 x23_2).f0))).setCell ⟨gb597, 1, none⟩ (.int .i64 ((rd_T56 l1 x23_2).f1))).setCell ⟨gb597, 2, none⟩ (.int .i64 ((rd_T56 l1 x23_2).f2))).heap[gb597]? = some (.cells #[.int .i64 ((rd_T56 l1 x23_2).f0), .int .i64 ((rd_T56 l1 x23_2).f1), .int .i64 ((rd_T56 l1 x23_2).f2)] 56 (0, 0))) := ⟨by (with_reducible repeat (first | refine blk_drewN ?_ _ | refine blk_drew ?_ | refine blk_alloc ?_ _)); refine blk_put (cs := #[.int .i64 ((rd_T56 l1 x23_2).f0), .int .i64 ((rd_T56 l1 x23_2).f1), .int .i64 0]) ?_ 2 _ rfl; (with_reducible repeat (first | refine blk_drewN ?_ _ | refine blk_drew ?_ | refine blk_alloc ?_ _)); refine blk_put (cs := #[.int .i64 ((rd_T56 l1 x23_2).f0), .int .i64 0, .int .i64 0]) ?_ 1 _ rfl; (with_reducible repeat (first | refine blk_drewN ?_ _ | refine blk_drew ?_ | refine blk_alloc ?_ _)); refine blk_put (cs := #[.int .i64 0, .int .i64 0, .int .i64 0]) ?_ 0 _ rfl; (with_reducible repeat (first | refine blk_drewN ?_ _ | refine blk_drew ?_ | refine blk_alloc ?_ _)); exact BK597.out⟩
           have n3_ : Aside0 (Below w.heap.size w (((w19.setCell ⟨gb597, 0, none⟩ (.int .i64 ((rd_T56 l1 x23_2).f0))).setCell ⟨gb597, 1, none⟩ (.int .i64 ((rd_T56 l1 x23_2).f1))).setCell ⟨gb597, 2, none⟩ (.int .i64 ((rd_T56 l1 x23_2).f2)))) := ⟨by repeat (first | (with_reducible first | exact HB.out | apply below_alloc | apply pw_below_drewN | apply below_drew1 | refine below_set ?_ GE591.out | refine below_set ?_ GE597.out) | exact HB.out)⟩
           (try clear HO_5)
           (try clear BK591)
           (try clear BK597)
           (try clear HB)
           generalize (((w19.setCell ⟨gb597, 0, none⟩ (.int .i64 ((rd_T56 l1 x23_2).f0))).setCell ⟨gb597, 1, none⟩ (.int .i64 ((rd_T56 l1 x23_2).f1))).setCell ⟨gb597, 2, none⟩ (.int .i64 ((rd_T56 l1 x23_2).f2))) = w35 at n0_ n1_ n2_ n3_ ⊢
           have HO_5 := n0_
           have BK591 := n1_
           have BK597 := n2_
           have HB := n3_
           clear n0_ n1_ n2_ n3_
           have n0_ := Aside0.mk (Kd.S_drew HO_5.out)
           have n1_ := Aside0.mk (blk_drew BK591.out)
           have n2_ := Aside0.mk (blk_drew BK597.out)
           have n3_ := Aside0.mk (below_drew1 HB.out)
           clear HO_5
           clear BK591
           clear BK597
           clear HB
           have HO_5 := n0_
           have BK591 := n1_
           have BK597 := n2_
           have HB := n3_
           clear n0_ n1_ n2_ n3_
           refine start_ (n := 20) (S := fun w' => w'.cell? ⟨gb591, 0, none⟩ = some (.int .i64 a0_0) ∧ w'.cell? ⟨gb591, 1, none⟩ = some (.slice A0_1 l0_1.length c0_1) ∧ w'.cell? ⟨gb597, 0, none⟩ = some (.int .i64 ((rd_T56 l1 x23_2).f0)) ∧ w'.cell? ⟨gb597, 1, none⟩ = some (.int .i64 ((rd_T56 l1 x23_2).f1)) ∧ w'.cell? ⟨gb597, 2, none⟩ = some (.int .i64 ((rd_T56 l1 x23_2).f2))) (ds := []) #[false, false, false, false, false, false, false, false, false, false, false, false, false, false, false, false, false, false, false, false] (by kernel_rfl) rfl rfl ⟨(blk_cell BK591.out 0).trans rfl, (blk_cell BK591.out 1).trans rfl, (blk_cell BK597.out 0).trans rfl, (blk_cell BK597.out 1).trans rfl, (blk_cell BK597.out 2).trans rfl⟩ (fun hHeld => ?_); refine with_tabW spec_Honest.tab7 spec_Honest.bits7 (fun HT_ HW_ => ?_)
           generalize w35.drew = w36 at HO_5 BK591 BK597 HB hHeld ⊢
           refine take_ (i := 0) (N := some 28) (v := ?_) (a' := ?_) #[true, false, false, false, false, false, false, false, false, false, false, false, false, false, false, false, false, false, false, false] rfl rfl (take_ofW HT_.out HW_.out (by kernel_rfl)) (fun _ _ _ h => h) (Or.inl ⟨by rfl, ?_⟩) hHeld ?_ ?_
           rotate_left
           ·rintro w' ⟨s0, s1, s2, s3, s4⟩
            go_simp
            with_reducible rfl
           rotate_left
           ·simp only [Act.put, List.setIfInBounds_toArray, List.set_cons_zero, List.set_cons_succ, i64_w, i32_w]
            rfl
           refine take_ (i := 1) (N := some 29) (v := ?_) (a' := ?_) #[true, true, false, false, false, false, false, false, false, false, false, false, false, false, false, false, false, false, false, false] rfl rfl (take_ofW HT_.out HW_.out (by kernel_rfl)) (fun _ _ _ h => h) (Or.inl ⟨by rfl, ?_⟩) hHeld ?_ ?_
           rotate_left
           ·rintro w' ⟨s0, s1, s2, s3, s4⟩
            go_simp
            with_reducible rfl
           rotate_left
           ·simp only [Act.put, List.setIfInBounds_toArray, List.set_cons_zero, List.set_cons_succ, i64_w, i32_w]
            rfl
           refine one_ (i := 2) (N := some 30) #[true, true, true, false, false, false, false, false, false, false, false, false, false, false, false, false, false, false, false, false] rfl rfl (one_of HT_.out (by kernel_rfl)) (by decide) (fun K hK => ?_)
           refine goes_ Try.func34 (by kernel_rfl) rfl #[.agg #[.int .i64 a0_0, .slice A0_1 l0_1.length c0_1], .agg #[.int .i64 ((rd_T56 l1 x23_2).f0), .int .i64 ((rd_T56 l1 x23_2).f1), .int .i64 ((rd_T56 l1 x23_2).f2)]] (by rfl) rfl rfl (by (try simp only [List.map_toArray, List.map_cons, List.map_nil]); first | done | rfl | (simp only [List.length_drop, List.length_take]; rfl)) ?_
           with_reducible refine (spec_EventOk.calls k2 a0_0 _ _ l0_1 ((rd_T56 l1 x23_2).f0) ((rd_T56 l1 x23_2).f1) ((rd_T56 l1 x23_2).f2) false _ ?side1 ?side2 A22.out).mono ?_
           (case side1 => repeat (first | exact (Kd.C_below HR0_1.out HB.out) | (with_reducible refine Kd.C_alloc ?_ _) | (with_reducible refine Kd.C_drewN ?_ _) | (with_reducible refine Kd.C_drew ?_)))
           (case side2 => exact HC0_1.out)
           rintro e w37 ⟨rfl, hb⟩
           refine ⟨_, rfl, ?_⟩
           have n0_ := Aside0.mk (Kd.S_below (by (with_reducible repeat (first | apply Kd.S_alloc | apply Kd.S_drewN | apply Kd.S_drew)); exact HO_5.out) hb)
           have n1_ := Aside0.mk (blk_below (g := gb591) (o := .cells #[.int .i64 a0_0, .slice A0_1 l0_1.length c0_1] 30 (0, 0)) (by (with_reducible repeat (first | refine blk_drewN ?_ _ | refine blk_drew ?_ | refine blk_alloc ?_ _)); exact BK591.out) hb)
           have n2_ := Aside0.mk (blk_below (g := gb597) (o := .cells #[.int .i64 ((rd_T56 l1 x23_2).f0), .int .i64 ((rd_T56 l1 x23_2).f1), .int .i64 ((rd_T56 l1 x23_2).f2)] 56 (0, 0)) (by (with_reducible repeat (first | refine blk_drewN ?_ _ | refine blk_drew ?_ | refine blk_alloc ?_ _)); exact BK597.out) hb)
           have n3_ := Aside0.mk (below_step (by repeat (first | (with_reducible first | exact HB.out | apply below_alloc | apply pw_below_drewN | apply below_drew1 | refine below_set ?_ GE591.out | refine below_set ?_ GE597.out) | exact HB.out)) hb)
           clear HO_5
           clear BK591
           clear BK597
           clear HB
           have HO_5 := n0_
           have BK591 := n1_
           have BK597 := n2_
           have HB := n3_
           clear n0_ n1_ n2_ n3_
           (try clear hb)
           (try clear hb2)
           (try clear hk)
           (try clear hi)
           refine hK.out _ _ ⟨(blk_cell BK591.out 0).trans rfl, (blk_cell BK591.out 1).trans rfl, (blk_cell BK597.out 0).trans rfl, (blk_cell BK597.out 1).trans rfl, (blk_cell BK597.out 2).trans rfl⟩ (fun hHeld => ?_)
           clear hK K
           refine norm_ (a' := ?_) ?_ ?_
           rotate_left
           ·show Act.put _ (some 30) _ = _
            simp only [Act.put, List.setIfInBounds_toArray, List.set_cons_zero, List.set_cons_succ, i64_w, i32_w]
            rfl
           refine pure_ (i := 3) (N := some 31) (v := ?_) (a' := ?_) #[true, true, true, true, false, false, false, false, false, false, false, false, false, false, false, false, false, false, false, false] rfl rfl (any_of HT_.out (by kernel_rfl)) (fun _ _ _ h => h) (Or.inl ⟨by rfl, ?_⟩) ?_ ?_
           rotate_left
           ·intro w'
            go_simp
            with_reducible rfl
           rotate_left
           ·simp only [Act.put, List.setIfInBounds_toArray, List.set_cons_zero, List.set_cons_succ, i64_w, i32_w]
            rfl
           refine pure_ (i := 4) (N := some 32) (v := ?_) (a' := ?_) #[true, true, true, true, true, false, false, false, false, false, false, false, false, false, false, false, false, false, false, false] rfl rfl (any_of HT_.out (by kernel_rfl)) (fun _ _ _ h => h) (Or.inl ⟨by rfl, ?_⟩) ?_ ?_
           rotate_left
           ·intro w'
            go_simp
            with_reducible rfl
           rotate_left
           ·simp only [Act.put, List.setIfInBounds_toArray, List.set_cons_zero, List.set_cons_succ, i64_w, i32_w]
            rfl
           refine pure_ (i := 5) (N := some 33) (v := undef) (a' := ?_) #[true, true, true, true, true, true, false, false, false, false, false, false, false, false, false, false, false, false, false, false] rfl rfl (any_of HT_.out (by kernel_rfl)) (fun _ _ _ h => h) (Or.inr ⟨by rfl, rfl⟩) ?_ ?_
           rotate_left
           ·simp only [Act.put, List.setIfInBounds_toArray, List.set_cons_zero, List.set_cons_succ, i64_w, i32_w]
            rfl
           refine pure_ (i := 6) (N := some 34) (v := undef) (a' := ?_) #[true, true, true, true, true, true, true, false, false, false, false, false, false, false, false, false, false, false, false, false] rfl rfl (any_of HT_.out (by kernel_rfl)) (fun _ _ _ h => h) (Or.inr ⟨by rfl, rfl⟩) ?_ ?_
           rotate_left
           ·simp only [Act.put, List.setIfInBounds_toArray, List.set_cons_zero, List.set_cons_succ, i64_w, i32_w]
            rfl
           refine pure_ (i := 7) (N := some 35) (v := undef) (a' := ?_) #[true, true, true, true, true, true, true, true, false, false, false, false, false, false, false, false, false, false, false, false] rfl rfl (any_of HT_.out (by kernel_rfl)) (fun _ _ _ h => h) (Or.inr ⟨by rfl, rfl⟩) ?_ ?_
           rotate_left
           ·simp only [Act.put, List.setIfInBounds_toArray, List.set_cons_zero, List.set_cons_succ, i64_w, i32_w]
            rfl
           refine pure_ (i := 8) (N := some 36) (v := undef) (a' := ?_) #[true, true, true, true, true, true, true, true, true, false, false, false, false, false, false, false, false, false, false, false] rfl rfl (any_of HT_.out (by kernel_rfl)) (fun _ _ _ h => h) (Or.inr ⟨by rfl, rfl⟩) ?_ ?_
           rotate_left
           ·simp only [Act.put, List.setIfInBounds_toArray, List.set_cons_zero, List.set_cons_succ, i64_w, i32_w]
            rfl
           refine pure_ (i := 9) (N := some 37) (v := undef) (a' := ?_) #[true, true, true, true, true, true, true, true, true, true, false, false, false, false, false, false, false, false, false, false] rfl rfl (any_of HT_.out (by kernel_rfl)) (fun _ _ _ h => h) (Or.inr ⟨by rfl, rfl⟩) ?_ ?_
           rotate_left
           ·simp only [Act.put, List.setIfInBounds_toArray, List.set_cons_zero, List.set_cons_succ, i64_w, i32_w]
            rfl
           refine pure_ (i := 10) (N := some 38) (v := undef) (a' := ?_) #[true, true, true, true, true, true, true, true, true, true, true, false, false, false, false, false, false, false, false, false] rfl rfl (any_of HT_.out (by kernel_rfl)) (fun _ _ _ h => h) (Or.inr ⟨by rfl, rfl⟩) ?_ ?_
           rotate_left
           ·simp only [Act.put, List.setIfInBounds_toArray, List.set_cons_zero, List.set_cons_succ, i64_w, i32_w]
            rfl
           refine pure_ (i := 11) (N := some 39) (v := undef) (a' := ?_) #[true, true, true, true, true, true, true, true, true, true, true, true, false, false, false, false, false, false, false, false] rfl rfl (any_of HT_.out (by kernel_rfl)) (fun _ _ _ h => h) (Or.inr ⟨by rfl, rfl⟩) ?_ ?_
           rotate_left
           ·simp only [Act.put, List.setIfInBounds_toArray, List.set_cons_zero, List.set_cons_succ, i64_w, i32_w]
            rfl
           refine pure_ (i := 12) (N := some 40) (v := undef) (a' := ?_) #[true, true, true, true, true, true, true, true, true, true, true, true, true, false, false, false, false, false, false, false] rfl rfl (any_of HT_.out (by kernel_rfl)) (fun _ _ _ h => h) (Or.inr ⟨by rfl, rfl⟩) ?_ ?_
           rotate_left
           ·simp only [Act.put, List.setIfInBounds_toArray, List.set_cons_zero, List.set_cons_succ, i64_w, i32_w]
            rfl
           refine pure_ (i := 13) (N := some 41) (v := undef) (a' := ?_) #[true, true, true, true, true, true, true, true, true, true, true, true, true, true, false, false, false, false, false, false] rfl rfl (any_of HT_.out (by kernel_rfl)) (fun _ _ _ h => h) (Or.inr ⟨by rfl, rfl⟩) ?_ ?_
           rotate_left
           ·simp only [Act.put, List.setIfInBounds_toArray, List.set_cons_zero, List.set_cons_succ, i64_w, i32_w]
            rfl
           refine pure_ (i := 14) (N := some 42) (v := undef) (a' := ?_) #[true, true, true, true, true, true, true, true, true, true, true, true, true, true, true, false, false, false, false, false] rfl rfl (any_of HT_.out (by kernel_rfl)) (fun _ _ _ h => h) (Or.inr ⟨by rfl, rfl⟩) ?_ ?_
           rotate_left
           ·simp only [Act.put, List.setIfInBounds_toArray, List.set_cons_zero, List.set_cons_succ, i64_w, i32_w]
            rfl
           refine pure_ (i := 15) (N := some 43) (v := undef) (a' := ?_) #[true, true, true, true, true, true, true, true, true, true, true, true, true, true, true, true, false, false, false, false] rfl rfl (any_of HT_.out (by kernel_rfl)) (fun _ _ _ h => h) (Or.inr ⟨by rfl, rfl⟩) ?_ ?_
           rotate_left
           ·simp only [Act.put, List.setIfInBounds_toArray, List.set_cons_zero, List.set_cons_succ, i64_w, i32_w]
            rfl
           refine pure_ (i := 16) (N := some 44) (v := undef) (a' := ?_) #[true, true, true, true, true, true, true, true, true, true, true, true, true, true, true, true, true, false, false, false] rfl rfl (any_of HT_.out (by kernel_rfl)) (fun _ _ _ h => h) (Or.inr ⟨by rfl, rfl⟩) ?_ ?_
           rotate_left
           ·simp only [Act.put, List.setIfInBounds_toArray, List.set_cons_zero, List.set_cons_succ, i64_w, i32_w]
            rfl
           refine pure_ (i := 17) (N := some 45) (v := undef) (a' := ?_) #[true, true, true, true, true, true, true, true, true, true, true, true, true, true, true, true, true, true, false, false] rfl rfl (any_of HT_.out (by kernel_rfl)) (fun _ _ _ h => h) (Or.inr ⟨by rfl, rfl⟩) ?_ ?_
           rotate_left
           ·simp only [Act.put, List.setIfInBounds_toArray, List.set_cons_zero, List.set_cons_succ, i64_w, i32_w]
            rfl
           refine pure_ (i := 18) (N := some 46) (v := undef) (a' := ?_) #[true, true, true, true, true, true, true, true, true, true, true, true, true, true, true, true, true, true, true, false] rfl rfl (any_of HT_.out (by kernel_rfl)) (fun _ _ _ h => h) (Or.inr ⟨by rfl, rfl⟩) ?_ ?_
           rotate_left
           ·simp only [Act.put, List.setIfInBounds_toArray, List.set_cons_zero, List.set_cons_succ, i64_w, i32_w]
            rfl
           refine pure_ (i := 19) (N := some 47) (v := ?_) (a' := ?_) #[true, true, true, true, true, true, true, true, true, true, true, true, true, true, true, true, true, true, true, true] rfl rfl (any_of HT_.out (by kernel_rfl)) (fun _ _ _ h => h) (Or.inl ⟨by rfl, ?_⟩) ?_ ?_
           rotate_left
           ·intro w'
            go_simp
            with_reducible rfl
           rotate_left
           ·simp only [Act.put, List.setIfInBounds_toArray, List.set_cons_zero, List.set_cons_succ, i64_w, i32_w]
            rfl
           refine done_ (done_of HT_.out (by kernel_rfl)) ?_
           try go_wp2
           go_meet
           case rel => exact ⟨_, (true), (by first | rfl | (simp; done) | (simp [*]; done)), H', ⟨by have := HJ2.out; have := HK2.out; first | omega | exact Nat.le_refl _⟩, ⟨by (with_reducible repeat (first | apply Kd.S_alloc | apply Kd.S_drewN | apply Kd.S_drew)); exact HO_5.out⟩, ⟨by (with_reducible repeat (first | refine blk_drewN ?_ _ | refine blk_drew ?_ | refine blk_alloc ?_ _)); exact BK591.out⟩, ⟨by (with_reducible repeat (first | refine blk_drewN ?_ _ | refine blk_drew ?_ | refine blk_alloc ?_ _)); exact BK597.out⟩, ⟨by repeat (first | (with_reducible first | exact HB.out | apply below_alloc | apply pw_below_drewN | apply below_drew1 | refine below_set ?_ GE591.out | refine below_set ?_ GE597.out) | exact HB.out)⟩⟩
         case rest =>
          clear HC18
          try clear c2
          try clear p2
          try clear c3
          try clear c5
          try clear p5
          try clear q5
          try clear hx5
          try clear p6
          try clear q6
          try clear hx6
          try clear c23
          try clear c24
          try clear c24b0
          try clear c24b1
          try clear c25
          try clear c26
          try clear c27
          try clear c34
          try clear hx599_0
          try clear hx600_0
          try clear p599
          try clear p600
          try clear q599
          try clear q600
          obtain ⟨kq, x47_17, rfl, HA, HJ17, HO_5, BK591, BK597, HB⟩ := hcut
          cases kq with
          | zero => exact absurd HA.out (by simp [spec_Honest.j2])
          | succ kj17 =>
           have H := HA.out
           clear HA
           simp only [spec_Honest.j2] at H
           by_cases c38 : x47_17 = true
           ·subst c38
            have H1 : (some false) = some r := by rw [if_pos rfl] at H; exact H
            clear H
            have H := H1
            clear H1
            obtain rfl := Option.some.inj H
            go_wp2
            go_ret
            exact ⟨by first | rfl | (simp [errW_none, errW_some] <;> rfl) | (simp [*, errW_none, errW_some] <;> rfl), by repeat (first | (with_reducible first | exact HB.out | apply below_alloc | apply pw_below_drewN | apply below_drew1 | refine below_set ?_ GE591.out | refine below_set ?_ GE597.out) | exact HB.out)⟩
           ·replace c38 := Bool.eq_false_iff.mpr c38
            subst c38
            have H1 : (if 0 ≤ x23_2 then (if x23_2 < (t593.length : Int) then (spec_Honest.l1 kj17 t593 l1 (l1.length : Int) x23_2 (rd_L12 t593 x23_2) ((rd_L12 t593 x23_2).length : Int) 0 a0_0 l0_1) else (none)) else (none)) = some r := by rw [if_neg (show ¬ (false = true) by decide)] at H; exact H
            clear H
            have H := H1
            clear H1
            by_cases c39 : 0 ≤ x23_2
            ·rw [if_pos c39] at H
             have c39b0 : decide (0 ≤ x23_2) = true := decide_eq_true c39
             clear c39
             by_cases c40 : x23_2 < (t593.length : Int)
             ·rw [if_pos c40] at H
              have c40b0 : decide (x23_2 < (t593.length : Int)) = true := decide_eq_true c40
              clear c40
              have H' := Aside0.mk H
              clear H
              obtain ⟨Ao41, co41, eo41⟩ := Kd.S_slice HO_5.out
              subst eo41
              have p601 : 0 ≤ (x23_2 : Int) := of_decide_eq_true (by first | (with_reducible assumption) | assumption)
              have q601 : x23_2 < (t593.length : Int) := of_decide_eq_true (by first | (with_reducible assumption) | assumption)
              obtain ⟨ad601, A601_0, c601_0, e601, hx601_0, hl601_0, hi601_0⟩ := at_L12 (Kd.S_reads' HO_5.out).2.2 x23_2 p601 q601
              cases e601
              obtain ⟨ce601, hce601, hMe601, hcc601⟩ := Kd.S_get HO_5.out [] x23_2 p601 (by first | exact q601 | exact of_decide_eq_true (by first | (with_reducible assumption) | assumption) | (have e_ := (Kd.S_reads' HO_5.out).1; omega))
              obtain ⟨ve601_0, rfl, ge601_0⟩ := hMe601
              have hv601_0 := hcc601 0 _ rfl
              rw [Nat.add_zero, show ((Kd.slice 3 (Kd.int .i64))).sz = 1 from rfl, Nat.mul_one] at hv601_0
              replace hv601_0 := Option.some.inj (hv601_0.symm.trans hx601_0)
              rw [hv601_0] at ge601_0
              have HL601_0 := Aside0.mk (show Kd.R (Kd.int .i64) 3 _ _ _ _ (rd_L12 t593 x23_2) from ge601_0)
              clear hv601_0 ge601_0
              clear hcc601 hce601
              have HR601_0 := Aside0.mk hi601_0
              have HC601_0 := Aside0.mk hl601_0
              clear hi601_0 hl601_0
              replace p601 := eq_true p601
              replace q601 := eq_true q601
              go_wp2
              go_loopg [53] kj17 (fun kq v53 w' => ∃ (x53_4 : Int), v53 = .int .i64 x53_4 ∧ Aside0 (spec_Honest.l1 kq t593 l1 (l1.length : Int) x23_2 (rd_L12 t593 x23_2) ((rd_L12 t593 x23_2).length : Int) x53_4 a0_0 l0_1 = some r) ∧ Aside0 (kq ≤ kj17) ∧ Aside0 (Kd.S (Kd.slice 3 (Kd.int .i64)) 59 w' w.heap.size (fun _ => True) (.slice (some ad601) t593.length co41) t593) ∧ Aside0 (w'.heap[gb591]? = some (.cells #[.int .i64 a0_0, (.slice A0_1 l0_1.length c0_1)] 30 (0, 0))) ∧ Aside0 (w'.heap[gb597]? = some (.cells #[.int .i64 ((rd_T56 l1 x23_2).f0), .int .i64 ((rd_T56 l1 x23_2).f1), .int .i64 ((rd_T56 l1 x23_2).f2)] 56 (0, 0))) ∧ Aside0 (Kd.C (Kd.int .i64) w' A601_0 (rd_L12 t593 x23_2).length (rd_L12 t593 x23_2)) ∧ Aside0 (Below w.heap.size w w'))
              case atStart => exact ⟨(0), (by first | rfl | (simp; done) | (simp [*]; done)), H', ⟨Nat.le_refl _⟩, ⟨by (with_reducible repeat (first | apply Kd.S_alloc | apply Kd.S_drewN | apply Kd.S_drew)); exact HO_5.out⟩, ⟨by (with_reducible repeat (first | refine blk_drewN ?_ _ | refine blk_drew ?_ | refine blk_alloc ?_ _)); exact BK591.out⟩, ⟨by (with_reducible repeat (first | refine blk_drewN ?_ _ | refine blk_drew ?_ | refine blk_alloc ?_ _)); exact BK597.out⟩, ⟨by repeat (first | (with_reducible exact HR601_0.out) | (with_reducible refine Kd.C_alloc ?_ _) | (with_reducible refine Kd.C_drewN ?_ _) | (with_reducible refine Kd.C_drew ?_) | exact HR601_0.out)⟩, ⟨by repeat (first | (with_reducible first | exact HB.out | apply below_alloc | apply pw_below_drewN | apply below_drew1 | refine below_set ?_ GE591.out | refine below_set ?_ GE597.out) | exact HB.out)⟩⟩
              case round =>
               clear H'
               try clear c2
               try clear p2
               try clear c3
               try clear c4
               try clear c5
               try clear p5
               try clear q5
               try clear hx5
               try clear c6
               try clear p6
               try clear q6
               try clear hx6
               try clear c23
               try clear c24
               try clear c24b0
               try clear c24b1
               try clear c25
               try clear c26
               try clear c27
               try clear c34
               try clear c38
               try clear c39
               try clear c39b0
               try clear c40
               try clear c40b0
               try clear hx599_0
               try clear hx600_0
               try clear hx601_0
               try clear p2
               try clear p5
               try clear p599
               try clear p6
               try clear p600
               try clear p601
               try clear q5
               try clear q599
               try clear q6
               try clear q600
               try clear q601
               obtain ⟨x53_4, rfl, HA, HK4, HO_5, BK591, BK597, HR601_0, HB⟩ := hrel
               cases gk with
               | zero => exact absurd HA.out (by simp [spec_Honest.l1])
               | succ k4 =>
                have H := HA.out
                clear HA
                simp only [spec_Honest.l1] at H
                by_cases c42 : x53_4 < ((rd_L12 t593 x23_2).length : Int)
                ·rw [if_pos c42] at H
                 have c42b0 : decide (x53_4 < ((rd_L12 t593 x23_2).length : Int)) = true := decide_eq_true c42
                 clear c42
                 by_cases c43 : 0 ≤ x53_4
                 ·rw [if_pos c43] at H
                  have c43b0 : decide (0 ≤ x53_4) = true := decide_eq_true c43
                  clear c43
                  by_cases c44 : x53_4 < ((rd_L12 t593 x23_2).length : Int)
                  ·rw [if_pos c44] at H
                   have c44b0 : decide (x53_4 < ((rd_L12 t593 x23_2).length : Int)) = true := decide_eq_true c44
                   clear c44
                   by_cases c45 : (rd (rd_L12 t593 x23_2) x53_4) < 0
                   ·rw [if_pos c45] at H
                    have c45b0 : decide ((rd (rd_L12 t593 x23_2) x53_4) < 0) = true := decide_eq_true c45
                    clear c45
                    obtain rfl := Option.some.inj H
                    have p602 : 0 ≤ (x53_4 : Int) := of_decide_eq_true (by first | (with_reducible assumption) | assumption)
                    have q602 : x53_4 < ((rd_L12 t593 x23_2).length : Int) := of_decide_eq_true (by first | (with_reducible assumption) | assumption)
                    obtain ⟨ad602, e602, hx602_0⟩ := Kd.at_int HR601_0.out x53_4 p602 q602
                    cases e602
                    replace p602 := eq_true p602
                    replace q602 := eq_true q602
                    go_wp2
                    go_ret
                    exact ⟨by first | rfl | (simp [errW_none, errW_some] <;> rfl) | (simp [*, errW_none, errW_some] <;> rfl), by repeat (first | (with_reducible first | exact HB.out | apply below_alloc | apply pw_below_drewN | apply below_drew1 | refine below_set ?_ GE591.out | refine below_set ?_ GE597.out) | exact HB.out)⟩
                   ·rw [if_neg c45] at H
                    have c45b0 : decide ((rd (rd_L12 t593 x23_2) x53_4) < 0) = false := decide_eq_false c45
                    clear c45
                    have H' := Aside0.mk H
                    clear H
                    have p602 : 0 ≤ (x53_4 : Int) := of_decide_eq_true (by first | (with_reducible assumption) | assumption)
                    have q602 : x53_4 < ((rd_L12 t593 x23_2).length : Int) := of_decide_eq_true (by first | (with_reducible assumption) | assumption)
                    obtain ⟨ad602, e602, hx602_0⟩ := Kd.at_int HR601_0.out x53_4 p602 q602
                    cases e602
                    replace p602 := eq_true p602
                    replace q602 := eq_true q602
                    go_wp2
                    go_roundg k4
                    case measure => have := HJ2.out; have := HK2.out; have := HJ17.out; have := HK4.out; omega
                    case rel => exact ⟨(wrap64 (x53_4 + 1)), (by first | rfl | (simp; done) | (simp [*]; done)), H', ⟨by have := HJ2.out; have := HK2.out; have := HJ17.out; have := HK4.out; omega⟩, ⟨by (with_reducible repeat (first | apply Kd.S_alloc | apply Kd.S_drewN | apply Kd.S_drew)); exact HO_5.out⟩, ⟨by (with_reducible repeat (first | refine blk_drewN ?_ _ | refine blk_drew ?_ | refine blk_alloc ?_ _)); exact BK591.out⟩, ⟨by (with_reducible repeat (first | refine blk_drewN ?_ _ | refine blk_drew ?_ | refine blk_alloc ?_ _)); exact BK597.out⟩, ⟨by repeat (first | (with_reducible exact HR601_0.out) | (with_reducible refine Kd.C_alloc ?_ _) | (with_reducible refine Kd.C_drewN ?_ _) | (with_reducible refine Kd.C_drew ?_) | exact HR601_0.out)⟩, ⟨by repeat (first | (with_reducible first | exact HB.out | apply below_alloc | apply pw_below_drewN | apply below_drew1 | refine below_set ?_ GE591.out | refine below_set ?_ GE597.out) | exact HB.out)⟩⟩
                  ·rw [if_neg c44] at H
                   exact absurd H (by simp)
                 ·rw [if_neg c43] at H
                  exact absurd H (by simp)
                ·rw [if_neg c42] at H
                 have c42b0 : decide (x53_4 < ((rd_L12 t593 x23_2).length : Int)) = false := decide_eq_false c42
                 clear c42
                 have H' := Aside0.mk H
                 clear H
                 go_wp2
                 go_roundg k4
                 case measure => have := HJ2.out; have := HK2.out; have := HJ17.out; have := HK4.out; omega
                 case rel => exact ⟨(wrap64 (x23_2 + 1)), (by first | rfl | (simp; done) | (simp [*]; done)), H', ⟨by have := HJ2.out; have := HK2.out; have := HJ17.out; have := HK4.out; omega⟩, ⟨by (with_reducible repeat (first | apply Kd.S_alloc | apply Kd.S_drewN | apply Kd.S_drew)); exact HO_5.out⟩, ⟨by (with_reducible repeat (first | refine blk_drewN ?_ _ | refine blk_drew ?_ | refine blk_alloc ?_ _)); exact BK591.out⟩, ⟨by repeat (first | (with_reducible first | exact HB.out | apply below_alloc | apply pw_below_drewN | apply below_drew1 | refine below_set ?_ GE591.out | refine below_set ?_ GE597.out) | exact HB.out)⟩⟩
             ·rw [if_neg c40] at H
              exact absurd H (by simp)
            ·rw [if_neg c39] at H
             exact absurd H (by simp)
        ·rw [if_neg c17] at H
         exact absurd H (by simp)
       ·rw [if_neg c16] at H
        exact absurd H (by simp)
      ·rw [if_neg c15] at H
       have c15b0 : decide (x23_2 < (l1.length : Int)) = false := decide_eq_false c15
       clear c15
       obtain rfl := Option.some.inj H
       go_wp2
       go_ret
       exact ⟨by first | rfl | (simp [errW_none, errW_some] <;> rfl) | (simp [*, errW_none, errW_some] <;> rfl), by repeat (first | (with_reducible first | exact HB.out | apply below_alloc | apply pw_below_drewN | apply below_drew1 | refine below_set ?_ GE591.out) | exact HB.out)⟩
end Go.Proofs.Ytpdnabhpkdchjaa.P
namespace Go.Proofs.Ytpdnabhpkdchjaa.P
open Go.RowKit Go.Proofs.YtpdnabhpkdchjaaW.PrintWords Go.Proofs.YtpdnabhpkdchjaaW.PrintLast Go.Proofs.YtpdnabhpkdchjaaW.PrintMore
attribute [local go_sem] max2_int min2_int max_two min_two max_three min_three max_four min_four
set_option linter.unusedVariables false
set_option linter.unusedSimpArgs false
def slices_Min_int_int.l0 : Nat → List Int → Int → Int → Option (Int)
 | 0, _, _, _ => none
 | k + 1, x0, x3, x4 => if x4 < (x0.length : Int) then (if 0 ≤ x4 then (slices_Min_int_int.l0 k x0 (mn x3 (rd x0 x4)) (wrap64 (x4 + 1))) else (none)) else (some x3)
def slices_Min_int_int.f (k : Nat) (l0 : List Int) : Option (Int) := if (l0.length : Int) < 1 then (none) else (if 0 < (l0.length : Int) then (slices_Min_int_int.l0 k l0 (rd l0 0) 1) else (none))
set_option maxHeartbeats 8000000 in
set_option maxRecDepth 100000 in
theorem slices_Min_int_int.calls (k : Nat) (A0 : Option Addr) (c0 : Nat) (l0 : List Int) (r : Int) (w : World) (hr0 : Kd.C (Kd.int .i64) w A0 l0.length l0) (hc0 : l0.length ≤ c0) (h : slices_Min_int_int.f k l0 = some r) :
  Calls Try.prog 106 #[.slice A0 l0.length c0] w fun e w' => e = .returned (.int .i64 r) ∧ Below w.heap.size w w' := by
 have HR0 := Aside0.mk hr0
 have HC0 := Aside0.mk hc0
 clear hr0 hc0
 have HB := Aside0.mk (Below.refl w.heap.size w)
 have H : (if (l0.length : Int) < 1 then (none) else (if 0 < (l0.length : Int) then (slices_Min_int_int.l0 k l0 (rd l0 0) 1) else (none))) = some r := h
 clear h
 by_cases c2 : (l0.length : Int) < 1
 ·rw [if_pos c2] at H
  exact absurd H (by simp)
 ·rw [if_neg c2] at H
  have c2b0 : decide ((l0.length : Int) < 1) = false := decide_eq_false c2
  have c2b1 : decide (l0.length < 1) = false := decide_eq_false (by omega)
  clear c2
  by_cases c3 : 0 < (l0.length : Int)
  ·rw [if_pos c3] at H
   have c3b0 : decide (0 < (l0.length : Int)) = true := decide_eq_true c3
   have c3b1 : decide (0 < l0.length) = true := decide_eq_true (by omega)
   clear c3
   have H' := Aside0.mk H
   clear H
   have p635 : 0 ≤ (0 : Int) := (by omega)
   have q635 : 0 < (l0.length : Int) := of_decide_eq_true (by first | (with_reducible assumption) | assumption)
   obtain ⟨ad635, e635, hx635_0⟩ := Kd.at_int HR0.out 0 p635 q635
   cases e635
   have qi635 : (0 < l0.length) = True := eq_true (by omega)
   (try rw [show ((0 : Int)).toNat = 0 from rfl] at hx635_0)
   (try rw [Addr.add_zero'] at hx635_0)
   replace p635 := eq_true p635
   replace q635 := eq_true q635
   go_enter Try.func106, Try.ntmps106
   go_wp2
   go_loopg [3, 4] k (fun kq v3 v4 w' => ∃ (x3_1 : Int) (x4_1 : Int), v3 = .int .i64 x3_1 ∧ v4 = .int .i64 x4_1 ∧ Aside0 (slices_Min_int_int.l0 kq l0 x3_1 x4_1 = some r) ∧ Aside0 (kq ≤ k) ∧ Aside0 (Below w.heap.size w w'))
   case atStart => exact ⟨(rd l0 0), (1), (by first | rfl | (simp; done) | (simp [*]; done)), (by first | rfl | (simp; done) | (simp [*]; done)), H', ⟨Nat.le_refl _⟩, ⟨by repeat (first | (with_reducible first | exact HB.out | apply below_alloc | apply pw_below_drewN | apply below_drew1) | exact HB.out)⟩⟩
   case round =>
    clear H'
    try clear c1
    try clear c2
    try clear c2b0
    try clear c2b1
    try clear p2
    try clear c3
    try clear c3b0
    try clear c3b1
    try clear hx635_0
    try clear p635
    try clear q635
    obtain ⟨x3_1, x4_1, rfl, rfl, HA, HK1, HB⟩ := hrel
    cases gk with
    | zero => exact absurd HA.out (by simp [slices_Min_int_int.l0])
    | succ k1 =>
     have H := HA.out
     clear HA
     simp only [slices_Min_int_int.l0] at H
     by_cases c4 : x4_1 < (l0.length : Int)
     ·rw [if_pos c4] at H
      have c4b0 : decide (x4_1 < (l0.length : Int)) = true := decide_eq_true c4
      clear c4
      by_cases c5 : 0 ≤ x4_1
      ·rw [if_pos c5] at H
       have c5b0 : decide (0 ≤ x4_1) = true := decide_eq_true c5
       clear c5
       obtain ⟨ji6, hji6⟩ : ∃ j_ : Int, (mn x3_1 (rd l0 x4_1)) = j_ := ⟨_, rfl⟩
       replace H : (slices_Min_int_int.l0 k1 l0 ji6 (wrap64 (x4_1 + 1))) = some r := by first | (rw [hji6] at H; exact H) | (simp only [hji6] at H ⊢; exact H)
       have hji6_ : (if (rd l0 x4_1) < x3_1 then (rd l0 x4_1) else x3_1) = ji6 := hji6
       have H' := Aside0.mk H
       clear H
       have p636 : 0 ≤ (x4_1 : Int) := of_decide_eq_true (by first | (with_reducible assumption) | assumption)
       have q636 : x4_1 < (l0.length : Int) := of_decide_eq_true (by first | (with_reducible assumption) | assumption)
       obtain ⟨ad636, e636, hx636_0⟩ := Kd.at_int HR0.out x4_1 p636 q636
       obtain rfl : ad635 = ad636 := (by injection e636)
       replace hx636_0 := (HB.out.cell (World.block_lt_of_cell? w _ hx636_0)).trans hx636_0
       replace p636 := eq_true p636
       replace q636 := eq_true q636
       go_wp2
       go_roundg k1
       case measure => have := HK1.out; omega
       case rel => exact ⟨(ji6), (wrap64 (x4_1 + 1)), (by first | rfl | (simp; done) | (simp only [← hji6] <;> (first | rfl | simp)) | (simp [*]; done)), (by first | rfl | (simp; done) | (simp [*]; done)), H', ⟨by have := HK1.out; omega⟩, ⟨by repeat (first | (with_reducible first | exact HB.out | apply below_alloc | apply pw_below_drewN | apply below_drew1) | exact HB.out)⟩⟩
      ·rw [if_neg c5] at H
       exact absurd H (by simp)
     ·rw [if_neg c4] at H
      have c4b0 : decide (x4_1 < (l0.length : Int)) = false := decide_eq_false c4
      clear c4
      obtain rfl := Option.some.inj H
      go_wp2
      go_ret
      exact ⟨by first | rfl | (simp [errW_none, errW_some] <;> rfl) | (simp [*, errW_none, errW_some] <;> rfl), by repeat (first | (with_reducible first | exact HB.out | apply below_alloc | apply pw_below_drewN | apply below_drew1) | exact HB.out)⟩
  ·rw [if_neg c3] at H
   exact absurd H (by simp)
end Go.Proofs.Ytpdnabhpkdchjaa.P
namespace Go.Proofs.Ytpdnabhpkdchjaa.P
open Go.RowKit Go.Proofs.YtpdnabhpkdchjaaW.PrintWords Go.Proofs.YtpdnabhpkdchjaaW.PrintLast
set_option linter.unusedVariables false
set_option linter.unusedSimpArgs false
def nonneg (row : List Int) : Bool := row.all fun x => decide (0 ≤ x)
def honestAt (n : Int) (l : List S88) (es : List S56) (k : Nat) : Bool :=
  eventOk n l (rd_T56 es k).f0 (rd_T56 es k).f1 (rd_T56 es k).f2 && !(decide ((rd_T56 es k).f0 = 5) && !(decide (rd (truthAt n l es (k + 1)) (rd_T56 es k).f1 = 0))) && nonneg (truthAt n l es (k + 1))
def honestFrom (n : Int) (l : List S88) (es : List S56) : Nat → Nat → Bool
  | 0, _ => true
  | d + 1, i => honestAt n l es i && honestFrom n l es d (i + 1)
def honest (n : Int) (l : List S88) (es : List S56) : Bool := decide (layoutOk n l = 0) && decide (es.length ≤ 2000) && honestFrom n l es es.length 0
section
variable {n : Int} {l : List S88} {es : List S56}
theorem truth_good (hl : layoutOk n l = 0) (he : es.length ≤ 2000) : truth n l es = (List.range es.length).map fun k => truthAt n l es (k + 1) := by rw [truth, if_pos ⟨hl, he⟩]
theorem truth_len (hl : layoutOk n l = 0) (he : es.length ≤ 2000) : (truth n l es).length = es.length := by rw [truth_good hl he]; simp
theorem truth_rd (hl : layoutOk n l = 0) (he : es.length ≤ 2000) (i : Nat) (hi : i < es.length) : rd_L12 (truth n l es) (i : Int) = truthAt n l es (i + 1) := by
  rw [truth_good hl he]
  simp [rd_L12, hi]
theorem eventOk_reset {op of dir : Int} (h : eventOk n l op of dir = true) (h5 : op = 5) : 0 ≤ of ∧ of < n := by
  subst h5
  unfold eventOk at h
  split at h
  · simp at h
    exact h.1
  · cases h
theorem specHonest_l1 {R : Bool} (row : List Int) (hrow : row.length < 9223372036854775807) (j : Nat) (hj : j < 9223372036854775807) (t : List (List Int)) (x22 : Int)
    (h : Ev (fun k => spec_Honest.l0 k t es x22 ((j + 1 : Nat) : Int) n l) R) (d : Nat) : ∀ (i : Nat), i + d = row.length →
    Ev (fun k => spec_Honest.l1 k t es x22 (j : Int) row (row.length : Int) (i : Int) n l) (nonneg (row.drop i) && R) := by
  induction d with
  | zero =>
    intro i hi
    rw [List.drop_eq_nil_of_le (by omega)]
    refine Ev.step (fun k => ?_) h
    simp only [spec_Honest.l1, wrap_succ hj]
    rw [if_neg (by omega)]
  | succ d ih =>
    intro i hi
    have hlt : i < row.length := by omega
    have hr : rd row (i : Int) = row[i] := by simp [rd, hlt]
    have h2 := ih (i + 1) (by omega)
    rw [List.drop_eq_getElem_cons hlt]
    simp only [nonneg, List.all_cons]
    by_cases hp : row[i] < 0
    · refine Ev.step1 fun k => ?_
      simp only [spec_Honest.l1, hr]
      rw [if_pos (by omega), if_pos (by omega), if_pos (by omega), if_pos hp, decide_eq_false (by omega)]
      rfl
    · rw [decide_eq_true (by omega), Bool.true_and]
      refine Ev.step (fun k => ?_) h2
      simp only [spec_Honest.l1, hr, wrap_succ (show i < 9223372036854775807 by omega)]
      rw [if_pos (by omega), if_pos (by omega), if_pos (by omega), if_neg hp]
theorem specHonest_j2 (hl : layoutOk n l = 0) (he : es.length ≤ 2000) {R : Bool} (j : Nat) (hj : j < es.length) (bad : Bool)
    (h : Ev (fun k => spec_Honest.l0 k (truth n l es) es (es.length : Int) ((j + 1 : Nat) : Int) n l) R) :
    Ev (fun k => spec_Honest.j2 k (truth n l es) (j : Int) es (es.length : Int) (j : Int) bad n l) (!bad && nonneg (truthAt n l es (j + 1)) && R) := by
  have hn := lay_n hl
  have htl := truth_len hl he
  refine Ev.step (fun k => by simp only [spec_Honest.j2, truth_rd hl he j hj]; rfl) ?_
  cases bad with
  | true => exact Ev.now _
  | false =>
    refine Ev.ite_neg (by simp) (Ev.ite_pos (by omega) (Ev.ite_pos (by omega) ?_))
    simpa using specHonest_l1 (truthAt n l es (j + 1)) (by rw [truthAt_length]; omega) j (by omega) (truth n l es) _ h (truthAt n l es (j + 1)).length 0 (by omega)
theorem specHonest_l0 (hl : layoutOk n l = 0) (he : es.length ≤ 2000) (d : Nat) : ∀ (j : Nat), j + d = es.length →
    Ev (fun k => spec_Honest.l0 k (truth n l es) es (es.length : Int) (j : Int) n l) (honestFrom n l es d j) := by
  have hn := lay_n hl
  have htl := truth_len hl he
  induction d with
  | zero =>
    intro j hj
    refine Ev.step1 fun k => ?_
    simp only [spec_Honest.l0]
    rw [if_neg (by omega)]
    rfl
  | succ d ih =>
    intro j hj
    have hlt : j < es.length := by omega
    have h2 := ih (j + 1) (by omega)
    have hln : (truthAt n l es (j + 1)).length = n.toNat := truthAt_length n l es (j + 1)
    refine Ev.step (fun k => by simp only [spec_Honest.l0, truth_rd hl he j hlt]; rw [if_pos (by omega), if_pos (by omega), if_pos (by omega)]) ?_
    refine Ev.bind (specEventOk_ev n l _ _ _) ?_
    unfold honestFrom honestAt
    cases hok : eventOk n l (rd_T56 es j).f0 (rd_T56 es j).f1 (rd_T56 es j).f2 with
    | false =>
      refine Ev.ite_neg (by simp) ?_
      simpa using specHonest_j2 hl he j hlt true h2
    | true =>
      refine Ev.ite_pos rfl ?_
      by_cases h5 : (rd_T56 es j).f0 = 5
      · obtain ⟨o1, o2⟩ := eventOk_reset hok h5
        refine Ev.ite_pos h5 (Ev.ite_pos (by omega) (Ev.ite_pos o1 (Ev.ite_pos (by omega) ?_)))
        have := specHonest_j2 hl he j hlt (rd (truthAt n l es (j + 1)) (rd_T56 es j).f1 != 0) h2
        simpa [h5, bne, beq_dec] using this
      · refine Ev.ite_neg h5 ?_
        simpa [h5] using specHonest_j2 hl he j hlt false h2
theorem specHonest_ev (n : Int) (l : List S88) (es : List S56) : Ev (fun k => spec_Honest.f k n l es) (honest n l es) := by
  unfold spec_Honest.f honest
  refine Ev.bind (specLayoutOk_ev n l) ?_
  have key : ∀ b : Bool, b = !(decide (layoutOk n l = 0) && decide (es.length ≤ 2000)) → Ev (fun k => spec_Honest.j0 k es b n l) (decide (layoutOk n l = 0) && decide (es.length ≤ 2000) && honestFrom n l es es.length 0) := by
    intro b hb
    refine Ev.step (fun k => by simp only [spec_Honest.j0]; rfl) ?_
    by_cases h : layoutOk n l = 0 ∧ es.length ≤ 2000
    · rw [decide_eq_true h.1, decide_eq_true h.2] at hb ⊢
      refine Ev.ite_neg (by simp [hb]) (Ev.bind (specTruth_ev n l es) ?_)
      simpa using specHonest_l0 h.1 h.2 es.length 0 (by omega)
    · have hf : (decide (layoutOk n l = 0) && decide (es.length ≤ 2000)) = false := by
        by_cases h1 : layoutOk n l = 0
        · rw [decide_eq_false (fun c => h ⟨h1, c⟩), Bool.and_false]
        · rw [decide_eq_false h1, Bool.false_and]
      rw [hf] at hb ⊢
      exact Ev.ite_pos hb (Ev.now _)
  by_cases h : layoutOk n l = 0
  · refine Ev.ite_pos h (key _ ?_)
    by_cases h2 : es.length ≤ 2000
    · rw [show decide ((es.length : Int) > 2000) = false from decide_eq_false (by omega), decide_eq_true h, decide_eq_true h2]; rfl
    · rw [show decide ((es.length : Int) > 2000) = true from decide_eq_true (by omega), decide_eq_false h2, Bool.and_false]; rfl
  · exact Ev.ite_neg h (key _ (by simp [h]))
def minL : List Int → Int → Int
  | [], m => m
  | x :: xs, m => minL xs (mn m x)
theorem minL_neg : ∀ (xs : List Int) (m : Int), (minL xs m < 0) ↔ (m < 0 ∨ nonneg xs = false) := by
  intro xs
  induction xs with
  | nil => intro m; simp [minL, nonneg]
  | cons x xs ih =>
    intro m
    rw [minL, ih]
    simp only [nonneg, List.all_cons]
    have hm : mn m x < 0 ↔ (m < 0 ∨ x < 0) := by unfold mn; split <;> omega
    rw [hm]
    by_cases hx : x < 0
    · rw [decide_eq_false (show ¬ 0 ≤ x by omega)]; simp [hx]
    · rw [decide_eq_true (show 0 ≤ x by omega)]; simp [hx]
theorem min_l0 (row : List Int) (hrow : row.length < 9223372036854775807) (d : Nat) : ∀ (i : Nat) (m : Int), i + d = row.length → Ev (fun k => slices_Min_int_int.l0 k row m (i : Int)) (minL (row.drop i) m) := by
  induction d with
  | zero =>
    intro i m hi
    rw [List.drop_eq_nil_of_le (by omega)]
    refine Ev.step1 fun k => ?_
    simp only [slices_Min_int_int.l0]
    rw [if_neg (by omega)]
    rfl
  | succ d ih =>
    intro i m hi
    have hlt : i < row.length := by omega
    have hr : rd row (i : Int) = row[i] := by simp [rd, hlt]
    rw [List.drop_eq_getElem_cons hlt]
    refine Ev.step (fun k => ?_) (ih (i + 1) (mn m row[i]) (by omega))
    simp only [slices_Min_int_int.l0, hr, wrap_succ (show i < 9223372036854775807 by omega)]
    rw [if_pos (by omega), if_pos (by omega)]
theorem min_ev (row : List Int) (h0 : 0 < row.length) (hrow : row.length < 9223372036854775807) : Ev (fun k => slices_Min_int_int.f k row) (minL (row.drop 1) (rd row 0)) := by
  unfold slices_Min_int_int.f
  exact Ev.ite_neg (by omega) (Ev.ite_pos (by omega) (min_l0 row hrow (row.length - 1) 1 _ (by omega)))
theorem min_neg (row : List Int) (h0 : 0 < row.length) : (minL (row.drop 1) (rd row 0) < 0) ↔ nonneg row = false := by
  rw [minL_neg]
  cases row with
  | nil => simp at h0
  | cons x xs =>
    have : rd (x :: xs) 0 = x := by simp [rd]
    rw [this]
    simp only [List.drop_succ_cons, List.drop_zero, nonneg, List.all_cons]
    by_cases hx : x < 0
    · rw [decide_eq_false (show ¬ 0 ≤ x by omega)]; simp [hx]
    · rw [decide_eq_true (show 0 ≤ x by omega)]; simp [hx]
theorem truthAt_reset {j : Nat} (h : j < es.length) (h5 : (rd_T56 es j).f0 = 5) : truthAt n l es (j + 1) = truthAt n l es j := by
  rw [truthAt_succ h, tstep, if_neg]
  rw [rd56 es j h] at h5
  simp [isPass, h5]
theorem honestAt_not {j : Nat} (h : eventOk n l (rd_T56 es j).f0 (rd_T56 es j).f1 (rd_T56 es j).f2 = false) : honestAt n l es j = false := by unfold honestAt; rw [h]; rfl
theorem honestAt_zero {j : Nat} (h : eventOk n l (rd_T56 es j).f0 (rd_T56 es j).f1 (rd_T56 es j).f2 = true) (hz : rd (truthAt n l es (j + 1)) (rd_T56 es j).f1 = 0) : honestAt n l es j = nonneg (truthAt n l es (j + 1)) := by
  unfold honestAt; rw [h, decide_eq_true hz, Bool.not_true, Bool.and_false]; rfl
theorem honestAt_some {j : Nat} (h5 : (rd_T56 es j).f0 = 5) (hz : ¬ rd (truthAt n l es (j + 1)) (rd_T56 es j).f1 = 0) : honestAt n l es j = false := by
  unfold honestAt; rw [decide_eq_true h5, decide_eq_false hz, Bool.not_false, Bool.and_true, Bool.not_true, Bool.and_false]; rfl
theorem honestAt_other {j : Nat} (h : eventOk n l (rd_T56 es j).f0 (rd_T56 es j).f1 (rd_T56 es j).f2 = true) (h5 : ¬ (rd_T56 es j).f0 = 5) : honestAt n l es j = nonneg (truthAt n l es (j + 1)) := by
  unfold honestAt; rw [h, decide_eq_false h5, Bool.false_and]; rfl
end
end Go.Proofs.Ytpdnabhpkdchjaa.P
namespace Go.Proofs.Ytpdnabhpkdchjaa.P
open Go.RowKit Go.Proofs.YtpdnabhpkdchjaaW.PrintWords Go.Proofs.YtpdnabhpkdchjaaW.PrintLast Go.Proofs.YtpdnabhpkdchjaaW.PrintMore
attribute [local go_sem] max2_int min2_int max_two min_two max_three min_three max_four min_four
set_option linter.unusedVariables false
set_option linter.unusedSimpArgs false
def laws_szEventS.f (l0 : List (S54)) (a1 : Int) : Option (Int) := if (wrap64 (a1 - (l0.length : Int))) < 0 then (some (-1)) else (some (wrap64 (a1 - (l0.length : Int))))
set_option maxHeartbeats 8000000 in
set_option maxRecDepth 100000 in
theorem laws_szEventS.calls (A0 : Option Addr) (c0 : Nat) (l0 : List (S54)) (a1 : Int) (r : Int) (w : World) (hr0 : Kd.C k54 w A0 l0.length l0) (hc0 : l0.length ≤ c0) (h : laws_szEventS.f l0 a1 = some r) :
  Calls Try.prog 48 #[.slice A0 l0.length c0, .int .i64 a1] w fun e w' => e = .returned (.int .i64 r) ∧ Drawn0 w w' := by
 have HR0 := Aside0.mk hr0
 have HC0 := Aside0.mk hc0
 clear hr0 hc0
 have H : (if (wrap64 (a1 - (l0.length : Int))) < 0 then (some (-1)) else (some (wrap64 (a1 - (l0.length : Int))))) = some r := h
 clear h
 by_cases c3 : (wrap64 (a1 - (l0.length : Int))) < 0
 ·rw [if_pos c3] at H
  have c3b0 : decide ((wrap64 (a1 - (l0.length : Int))) < 0) = true := decide_eq_true c3
  clear c3
  obtain rfl := Option.some.inj H
  go_enter Try.func48, Try.ntmps48
  go_wp2
  go_ret
  exact ⟨by first | rfl | (simp; done) | (simp [*]; done), by repeat (first | exact Drawn0.refl _ | apply Drawn0.step)⟩
 ·rw [if_neg c3] at H
  have c3b0 : decide ((wrap64 (a1 - (l0.length : Int))) < 0) = false := decide_eq_false c3
  clear c3
  obtain rfl := Option.some.inj H
  go_enter Try.func48, Try.ntmps48
  go_wp2
  go_ret
  exact ⟨by first | rfl | (simp; done) | (simp [*]; done), by repeat (first | exact Drawn0.refl _ | apply Drawn0.step)⟩
end Go.Proofs.Ytpdnabhpkdchjaa.P
