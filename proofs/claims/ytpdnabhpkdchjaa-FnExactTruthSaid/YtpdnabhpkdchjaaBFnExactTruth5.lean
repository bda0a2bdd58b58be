/- The statement FnExactTruth holds of the given program, for every argument; there are no conditions. (Part 5 of 5.) -/
import Derived.Test.YtpdnabhpkdchjaaBFnExactTruth4
import Derived.Deep.DrawnRows
import Derived.ShutString
namespace Go.Proofs.Ytpdnabhpkdchjaa.P
open Go.RowKit Go.Proofs.YtpdnabhpkdchjaaW.PrintWords Go.Proofs.YtpdnabhpkdchjaaW.PrintLast Go.Proofs.YtpdnabhpkdchjaaW.PrintMore
attribute [local go_sem] max2_int min2_int max_two min_two max_three min_three max_four min_four
set_option linter.unusedVariables false
set_option linter.unusedSimpArgs false
mutual
def spec_Truth.j0 : Nat → List (S56) → Bool → Int → List (S88) → Option ((List (List Int)))
 | 0, _, _, _, _ => none
 | k + 1, x1, x18, x569000, x569001 => if x18 = true then (some ([] : List (List Int))) else (spec_Truth.l0 k x1 ([] : List (List Int)) (x1.length : Int) 0 x569000 x569001)
def spec_Truth.l0 : Nat → List (S56) → List (List Int) → Int → Int → Int → List (S88) → Option ((List (List Int)))
 | 0, _, _, _, _, _, _ => none
 | k + 1, x1, x5, x20, x21, x569000, x569001 => if x21 < x20 then (if 0 ≤ x569000 then (if (x569000 : Int).toNat ≤ 35184372088832 then (if 0 ≤ (wrap64 (x21 + 1)) then (if (wrap64 (x21 + 1)) ≤ (x1.length : Int) then ((some (x1.take ((wrap64 (x21 + 1)) : Int).toNat : List (S56))).bind fun y573 => (spec_Truth.l1 k x1 x5 (List.replicate (x569000 : Int).toNat 0) x20 x21 y573 (y573.length : Int) 0 x569000 x569001)) else (none)) else (none)) else (none)) else (none)) else (some x5)
def spec_Truth.l1 : Nat → List (S56) → List (List Int) → List Int → Int → Int → List (S56) → Int → Int → Int → List (S88) → Option ((List (List Int)))
 | 0, _, _, _, _, _, _, _, _, _, _ => none
 | k + 1, x1, x5, x7, x20, x21, x30, x31, x32, x569000, x569001 => if x32 < x31 then (if 0 ≤ x32 then (if x32 < (x30.length : Int) then (if ((rd_T56 x30 x32).f0) = 1 then ((spec_EventOk.f k x569000 x569001 ((rd_T56 x30 x32).f0) ((rd_T56 x30 x32).f1) ((rd_T56 x30 x32).f2)).bind fun t582 => (spec_Truth.j3 k x1 x5 x7 x20 x21 x30 x31 x32 (!t582) x569000 x569001 ((rd_T56 x30 x32).f0) ((rd_T56 x30 x32).f1) ((rd_T56 x30 x32).f2))) else (spec_Truth.j3 k x1 x5 x7 x20 x21 x30 x31 x32 true x569000 x569001 ((rd_T56 x30 x32).f0) ((rd_T56 x30 x32).f1) ((rd_T56 x30 x32).f2))) else (none)) else (none)) else (if x5.length < 5864062014805 then (spec_Truth.l0 k x1 (x5 ++ [x7]) x20 (wrap64 (x21 + 1)) x569000 x569001) else (none))
def spec_Truth.j3 : Nat → List (S56) → List (List Int) → List Int → Int → Int → List (S56) → Int → Int → Bool → Int → List (S88) → Int → Int → Int → Option ((List (List Int)))
 | 0, _, _, _, _, _, _, _, _, _, _, _, _, _, _ => none
 | k + 1, x1, x5, x7, x20, x21, x30, x31, x32, x44, x569000, x569001, x582000, x582001, x582002 => if x44 = true then (spec_Truth.l1 k x1 x5 x7 x20 x21 x30 x31 (wrap64 (x32 + 1)) x569000 x569001) else (if 0 ≤ x582001 then (if x582001 < (x569001.length : Int) then (if ((rd_T88 x569001 x582001).f0) ≥ 0 then (if 0 ≤ ((rd_T88 x569001 x582001).f0) then (if ((rd_T88 x569001 x582001).f0) < (x7.length : Int) then ((some (x7.set (((rd_T88 x569001 x582001).f0) : Int).toNat (wrap64 ((rd x7 ((rd_T88 x569001 x582001).f0)) - x582002)) : List Int)).bind fun y586 => (if ((rd_T88 x569001 x582001).f1) ≥ 0 then (if 0 ≤ ((rd_T88 x569001 x582001).f1) then (if ((rd_T88 x569001 x582001).f1) < (x7.length : Int) then (spec_Truth.l1 k x1 x5 (y586.set (((rd_T88 x569001 x582001).f1) : Int).toNat (wrap64 ((rd y586 ((rd_T88 x569001 x582001).f1)) + x582002))) x20 x21 x30 x31 (wrap64 (x32 + 1)) x569000 x569001) else (none)) else (none)) else (spec_Truth.l1 k x1 x5 y586 x20 x21 x30 x31 (wrap64 (x32 + 1)) x569000 x569001))) else (none)) else (none)) else (if ((rd_T88 x569001 x582001).f1) ≥ 0 then (if 0 ≤ ((rd_T88 x569001 x582001).f1) then (if ((rd_T88 x569001 x582001).f1) < (x7.length : Int) then (spec_Truth.l1 k x1 x5 (x7.set (((rd_T88 x569001 x582001).f1) : Int).toNat (wrap64 ((rd x7 ((rd_T88 x569001 x582001).f1)) + x582002))) x20 x21 x30 x31 (wrap64 (x32 + 1)) x569000 x569001) else (none)) else (none)) else (spec_Truth.l1 k x1 x5 x7 x20 x21 x30 x31 (wrap64 (x32 + 1)) x569000 x569001))) else (none)) else (none))
end
def spec_Truth.f (k : Nat) (a0_0 : Int) (l0_1 : List (S88)) (l1 : List (S56)) : Option ((List (List Int))) := (spec_LayoutOk.f k a0_0 l0_1).bind fun t569 => (if t569 = 0 then (spec_Truth.j0 k l1 (decide ((l1.length : Int) > 2000)) a0_0 l0_1) else (spec_Truth.j0 k l1 true a0_0 l0_1))
def spec_Truth.T14 : Bool × List (List Nat × List Nat) := (true, [([], []), ([], []), ([1], [1]), ([0, 2], [0, 2]), ([3], [3]), ([], []), ([5], [5]), ([4, 6], [4, 6]), ([0, 2, 0, 1, 2, 3, 4, 5, 6, 7], [0, 2]), ([8, 7, 0, 1, 2, 3, 4, 5, 6, 7], [7, 8])])
def spec_Truth.B14 : List Nat := [0, 0, 2, 7, 15, 0, 32, 127, 255, 511]
theorem spec_Truth.tab14 : rtab .any (opsOf Try.f58 14) = spec_Truth.T14 := by kernel_rfl
theorem spec_Truth.bits14 : waitsOk spec_Truth.T14.2 spec_Truth.B14 = true := by kernel_rfl
def spec_Truth.T16 : Bool × List (List Nat × List Nat) := (true, [([], []), ([], []), ([1], [1]), ([0, 2], [0, 2]), ([3], [3]), ([], []), ([5], [5]), ([4, 6], [4, 6]), ([0, 2, 0, 1, 2, 3, 4, 5, 6, 7], [0, 2]), ([8, 7, 0, 1, 2, 3, 4, 5, 6, 7], [7, 8])])
def spec_Truth.B16 : List Nat := [0, 0, 2, 7, 15, 0, 32, 127, 255, 511]
theorem spec_Truth.tab16 : rtab .any (opsOf Try.f58 16) = spec_Truth.T16 := by kernel_rfl
theorem spec_Truth.bits16 : waitsOk spec_Truth.T16.2 spec_Truth.B16 = true := by kernel_rfl
set_option maxHeartbeats 8000000 in
set_option maxRecDepth 100000 in
theorem spec_Truth.calls (k : Nat) (a0_0 : Int) (A0_1 : Option Addr) (c0_1 : Nat) (l0_1 : List (S88)) (A1 : Option Addr) (c1 : Nat) (l1 : List (S56)) (r : List (List Int)) (w : World) (hr0_1 : Kd.C k88 w A0_1 l0_1.length l0_1) (hc0_1 : l0_1.length ≤ c0_1) (hr1 : Kd.C k56 w A1 l1.length l1) (hc1 : l1.length ≤ c1) (h : spec_Truth.f k a0_0 l0_1 l1 = some r) :
  Calls Try.prog 58 #[.agg #[.int .i64 a0_0, .slice A0_1 l0_1.length c0_1], .slice A1 l1.length c1] w fun e w' => ∃ v0_ : Value, e = .returned (v0_) ∧ Kd.S (Kd.slice 3 (Kd.int .i64)) 59 w' w.heap.size (fun _ => True) v0_ r ∧ Below w.heap.size w w' := by
 have hu30 := Try.underlying30
 have hu56 := Try.underlying56
 have hu88 := Try.underlying88
 have HR0_1 := Aside0.mk hr0_1
 have HC0_1 := Aside0.mk hc0_1
 clear hr0_1 hc0_1
 have HR1 := Aside0.mk hr1
 have HC1 := Aside0.mk hc1
 clear hr1 hc1
 have HB := Aside0.mk (Below.refl w.heap.size w)
 have H : ((spec_LayoutOk.f k a0_0 l0_1).bind fun t569 => (if t569 = 0 then (spec_Truth.j0 k l1 (decide ((l1.length : Int) > 2000)) a0_0 l0_1) else (spec_Truth.j0 k l1 true a0_0 l0_1))) = some r := h
 clear h
 have HC3 := Aside0.mk H
 clear H
 go_enter Try.func58, Try.ntmps58
 go_upto_region 1 with (first | ((with_reducible refine gate_dst (N := 2) rfl ?_); (try (refine gate_guard (by rfl) ?_; dsimp only)); refine box_event ?hg (N := 2) ?hd (cs := #[.int .i64 a0_0, .slice A0_1 l0_1.length c0_1]) (t := 30) ?hr ?_; (case hd => rfl); (case hg => rfl); (case hr => first | (go_simp; done) | (go_simp; rfl)); intro gb568 hg w4 hbox hb; have n0_ := Aside0.mk (below_step (by repeat (first | (with_reducible first | exact HB.out | apply below_alloc | apply pw_below_drewN | apply below_drew1) | exact HB.out)) hb); have n1_ := Aside0.mk (hbox); have n2_ := Aside0.mk ((by rw [hg]; exact (below_size (by repeat (first | (with_reducible first | exact HB.out | apply below_alloc | apply pw_below_drewN | apply below_drew1) | exact HB.out))) : w.heap.size ≤ gb568)); have n3_ := Aside0.mk ((by rw [hg]; exact (below_size (by repeat (first | (with_reducible first | exact HB.out | apply below_alloc | apply pw_below_drewN | apply below_drew1) | exact HB.out))) : w.heap.size ≤ gb568)); clear HB; have HB := n0_; have BK568 := n1_; have GW568 := n2_; have GE568 := n3_; clear n0_ n1_ n2_ n3_; clear hb hbox hg))
 (try simp only [Act.put, List.setIfInBounds_toArray, List.set_cons_zero, List.set_cons_succ])
 go_cut [18] (fun v18 wc => ∃ (kq : Nat) (x18_2 : Bool), v18 = .bool x18_2 ∧ Aside0 (spec_Truth.j0 kq l1 x18_2 a0_0 l0_1 = some r) ∧ Aside0 (kq ≤ k) ∧ Aside0 (wc.heap[gb568]? = some (.cells #[.int .i64 a0_0, (.slice A0_1 l0_1.length c0_1)] 30 (0, 0))) ∧ Aside0 (Below w.heap.size w wc))
 case first =>
  have H := HC3.out
  clear HC3
  replace H := Option.bind_eq_some_iff.mp H
  obtain ⟨t569, A50, H⟩ := H
  replace H : (if t569 = 0 then (spec_Truth.j0 k l1 (decide ((l1.length : Int) > 2000)) a0_0 l0_1) else (spec_Truth.j0 k l1 true a0_0 l0_1)) = some r := H
  have A5 := Aside0.mk A50
  clear A50
  by_cases c6 : t569 = 0
  ·rw [if_pos c6] at H
   have c6b0 : (t569 == 0) = true := beq_iff_eq.mpr c6
   have c6b1 : (t569 != 0) = false := bne_eq_false_iff_eq.mpr c6
   clear c6
   (first | rw [c6b0] | (simp only [i64_w, i32_w]; rw [c6b0]) | skip)
   have H' := Aside0.mk H
   clear H
   have hcz7_0 : w4.cell? ⟨gb568, 0, none⟩ = some (.int .i64 a0_0) := (blk_cell BK568.out 0).trans rfl
   have hcz7_1 : w4.cell? ⟨gb568, 1, none⟩ = some (.slice A0_1 l0_1.length c0_1) := (blk_cell BK568.out 1).trans rfl
   have hfz7_0 := blk_frozen BK568.out 0
   have hfz7_1 := blk_frozen BK568.out 1
   go_wp2_with (first | ((with_reducible refine gate_callee (f := 23) rfl ?_); refine goesL_ (some 12) rfl rfl Try.func23 (by kernel_rfl) rfl #[.agg #[.int .i64 a0_0, .slice A0_1 l0_1.length c0_1]] rfl (by (try simp only [List.map_toArray, List.map_cons, List.map_nil]); first | done | rfl | (simp only [List.length_drop, List.length_take]; rfl)) ?_; (with_reducible refine (spec_LayoutOk.calls k a0_0 _ _ l0_1 t569 _ ?side1 ?side2 A5.out).mono ?_); (case side1 => repeat (first | exact (Kd.C_below HR0_1.out HB.out) | (with_reducible refine Kd.C_alloc ?_ _) | (with_reducible refine Kd.C_drewN ?_ _) | (with_reducible refine Kd.C_drew ?_))); (case side2 => exact HC0_1.out); rintro e w8 ⟨rfl, hb⟩; refine ⟨_, rfl, ?_⟩; have n0_ := Aside0.mk (blk_below (g := gb568) (o := .cells #[.int .i64 a0_0, .slice A0_1 l0_1.length c0_1] 30 (0, 0)) (by (with_reducible repeat (first | refine blk_drewN ?_ _ | refine blk_drew ?_ | refine blk_alloc ?_ _)); exact BK568.out) hb); have n1_ := Aside0.mk (below_step (by repeat (first | (with_reducible first | exact HB.out | apply below_alloc | apply pw_below_drewN | apply below_drew1 | refine below_set ?_ GE568.out) | exact HB.out)) hb); clear BK568; clear HB; have BK568 := n0_; have HB := n1_; clear n0_ n1_; (try clear hb); (try clear hb2); (try clear hk); (try clear hi)))
   go_meet
   case rel => exact ⟨_, (decide ((l1.length : Int) > 2000)), (by first | rfl | (simp; done) | (simp [*]; done)), H', ⟨by first | omega | exact Nat.le_refl _⟩, ⟨by (with_reducible repeat (first | refine blk_drewN ?_ _ | refine blk_drew ?_ | refine blk_alloc ?_ _)); exact BK568.out⟩, ⟨by repeat (first | (with_reducible first | exact HB.out | apply below_alloc | apply pw_below_drewN | apply below_drew1 | refine below_set ?_ GE568.out) | exact HB.out)⟩⟩
  ·rw [if_neg c6] at H
   have c6b0 : (t569 == 0) = false := beq_eq_false_iff_ne.mpr c6
   have c6b1 : (t569 != 0) = true := bne_iff_ne.mpr c6
   (first | rw [c6b0] | (simp only [i64_w, i32_w]; rw [c6b0]) | skip)
   have H' := Aside0.mk H
   clear H
   have hcz9_0 : w4.cell? ⟨gb568, 0, none⟩ = some (.int .i64 a0_0) := (blk_cell BK568.out 0).trans rfl
   have hcz9_1 : w4.cell? ⟨gb568, 1, none⟩ = some (.slice A0_1 l0_1.length c0_1) := (blk_cell BK568.out 1).trans rfl
   have hfz9_0 := blk_frozen BK568.out 0
   have hfz9_1 := blk_frozen BK568.out 1
   go_wp2_with (first | ((with_reducible refine gate_callee (f := 23) rfl ?_); refine goesL_ (some 12) rfl rfl Try.func23 (by kernel_rfl) rfl #[.agg #[.int .i64 a0_0, .slice A0_1 l0_1.length c0_1]] rfl (by (try simp only [List.map_toArray, List.map_cons, List.map_nil]); first | done | rfl | (simp only [List.length_drop, List.length_take]; rfl)) ?_; (with_reducible refine (spec_LayoutOk.calls k a0_0 _ _ l0_1 t569 _ ?side1 ?side2 A5.out).mono ?_); (case side1 => repeat (first | exact (Kd.C_below HR0_1.out HB.out) | (with_reducible refine Kd.C_alloc ?_ _) | (with_reducible refine Kd.C_drewN ?_ _) | (with_reducible refine Kd.C_drew ?_))); (case side2 => exact HC0_1.out); rintro e w10 ⟨rfl, hb⟩; refine ⟨_, rfl, ?_⟩; have n0_ := Aside0.mk (blk_below (g := gb568) (o := .cells #[.int .i64 a0_0, .slice A0_1 l0_1.length c0_1] 30 (0, 0)) (by (with_reducible repeat (first | refine blk_drewN ?_ _ | refine blk_drew ?_ | refine blk_alloc ?_ _)); exact BK568.out) hb); have n1_ := Aside0.mk (below_step (by repeat (first | (with_reducible first | exact HB.out | apply below_alloc | apply pw_below_drewN | apply below_drew1 | refine below_set ?_ GE568.out) | exact HB.out)) hb); clear BK568; clear HB; have BK568 := n0_; have HB := n1_; clear n0_ n1_; (try clear hb); (try clear hb2); (try clear hk); (try clear hi)))
   go_meet
   case rel => exact ⟨_, (true), (by first | rfl | (simp; done) | (simp [*]; done)), H', ⟨by first | omega | exact Nat.le_refl _⟩, ⟨by (with_reducible repeat (first | refine blk_drewN ?_ _ | refine blk_drew ?_ | refine blk_alloc ?_ _)); exact BK568.out⟩, ⟨by repeat (first | (with_reducible first | exact HB.out | apply below_alloc | apply pw_below_drewN | apply below_drew1 | refine below_set ?_ GE568.out) | exact HB.out)⟩⟩
 case rest =>
  clear HC3
  try clear c1
  try clear c2
  try clear p2
  try clear c5
  try clear c6
  try clear c6b0
  try clear c6b1
  try clear hcz7_0
  try clear hcz7_1
  try clear hcz9_0
  try clear hcz9_1
  try clear hfz7_0
  try clear hfz7_1
  try clear hfz9_0
  try clear hfz9_1
  obtain ⟨kq, x18_2, rfl, HA, HJ2, BK568, HB⟩ := hcut
  cases kq with
  | zero => exact absurd HA.out (by simp [spec_Truth.j0])
  | succ kj2 =>
   have H := HA.out
   clear HA
   simp only [spec_Truth.j0] at H
   by_cases c11 : x18_2 = true
   ·subst c11
    have H1 : (some ([] : List (List Int))) = some r := by rw [if_pos rfl] at H; exact H
    clear H
    have H := H1
    clear H1
    obtain rfl := Option.some.inj H
    go_wp2
    go_ret
    exact ⟨_, by first | rfl | (simp [errW_none, errW_some] <;> rfl) | (simp [*, errW_none, errW_some] <;> rfl), by first | exact Kd.S_nil _ _ _ _ _ | exact Kd.N_nil _ _ _ _ _ | exact Kd.V_nil _ _ _ _ _ | exact Kd.Q_nil _ _ _ _ _ | exact Kd.R_nil _ _ _ _ _, by repeat (first | (with_reducible first | exact HB.out | apply below_alloc | apply pw_below_drewN | apply below_drew1 | refine below_set ?_ GE568.out) | exact HB.out)⟩
   ·replace c11 := Bool.eq_false_iff.mpr c11
    subst c11
    have H1 : (spec_Truth.l0 kj2 l1 ([] : List (List Int)) (l1.length : Int) 0 a0_0 l0_1) = some r := by rw [if_neg (show ¬ (false = true) by decide)] at H; exact H
    clear H
    have H := H1
    clear H1
    have H' := Aside0.mk H
    clear H
    go_wp2
    go_loopg [5, 21] kj2 (fun kq v5 v21 w' => ∃ (x5_2 : List (List Int)) (x21_2 : Int), v21 = .int .i64 x21_2 ∧ Aside0 (spec_Truth.l0 kq l1 x5_2 (l1.length : Int) x21_2 a0_0 l0_1 = some r) ∧ Aside0 (kq ≤ kj2) ∧ Aside0 (Kd.S (Kd.slice 3 (Kd.int .i64)) 59 w' w.heap.size (fun _ => True) v5 x5_2) ∧ Aside0 (w'.heap[gb568]? = some (.cells #[.int .i64 a0_0, (.slice A0_1 l0_1.length c0_1)] 30 (0, 0))) ∧ Aside0 (Below w.heap.size w w'))
    case atStart => exact ⟨(([] : List (List Int))), (0), (by first | rfl | (simp; done) | (simp [*]; done)), H', ⟨Nat.le_refl _⟩, ⟨by first | exact Kd.S_nil _ _ _ _ _ | exact Kd.N_nil _ _ _ _ _ | exact Kd.V_nil _ _ _ _ _ | exact Kd.Q_nil _ _ _ _ _ | exact Kd.R_nil _ _ _ _ _⟩, ⟨by (with_reducible repeat (first | refine blk_drewN ?_ _ | refine blk_drew ?_ | refine blk_alloc ?_ _)); exact BK568.out⟩, ⟨by repeat (first | (with_reducible first | exact HB.out | apply below_alloc | apply pw_below_drewN | apply below_drew1 | refine below_set ?_ GE568.out) | exact HB.out)⟩⟩
    case round =>
     clear H'
     try clear c1
     try clear c2
     try clear p2
     try clear c5
     try clear c6
     try clear c6b0
     try clear c6b1
     try clear c11
     try clear hcz7_0
     try clear hcz7_1
     try clear hcz9_0
     try clear hcz9_1
     try clear hfz7_0
     try clear hfz7_1
     try clear hfz9_0
     try clear hfz9_1
     try clear p2
     obtain ⟨x5_2, x21_2, rfl, HA, HK2, HO_5, BK568, HB⟩ := hrel
     cases gk with
     | zero => exact absurd HA.out (by simp [spec_Truth.l0])
     | succ k2 =>
      have H := HA.out
      clear HA
      simp only [spec_Truth.l0] at H
      by_cases c12 : x21_2 < (l1.length : Int)
      ·rw [if_pos c12] at H
       have c12b0 : decide (x21_2 < (l1.length : Int)) = true := decide_eq_true c12
       clear c12
       by_cases c13 : 0 ≤ a0_0
       ·rw [if_pos c13] at H
        have c13b0 := eq_true c13
        have c13b1 : decide (0 ≤ a0_0) = true := decide_eq_true c13
        clear c13
        by_cases c14 : (a0_0 : Int).toNat ≤ 35184372088832
        ·rw [if_pos c14] at H
         have c14b0 := eq_true c14
         have c14b1 : decide ((a0_0 : Int).toNat ≤ 35184372088832) = true := decide_eq_true c14
         clear c14
         obtain ⟨y570, hy570⟩ : ∃ y_ : List Int, y_ = (List.replicate (a0_0 : Int).toNat 0) := ⟨_, rfl⟩
         replace H : (if 0 ≤ (wrap64 (x21_2 + 1)) then (if (wrap64 (x21_2 + 1)) ≤ (l1.length : Int) then ((some (l1.take ((wrap64 (x21_2 + 1)) : Int).toNat : List (S56))).bind fun y573 => (spec_Truth.l1 k2 l1 x5_2 y570 (l1.length : Int) x21_2 y573 (y573.length : Int) 0 a0_0 l0_1)) else (none)) else (none)) = some r := by first | (rw [hy570]; with_reducible exact H) | (have H2_ := (Option.bind_some _ _).symm.trans H; rw [hy570]; with_reducible exact H2_) | (have H2_ := (Option.bind_some _ _).symm.trans H; with_reducible exact H2_) | with_reducible exact H | (rw [hy570]; exact H) | exact H
         have Ny570 := Aside0.mk hy570
         clear hy570
         obtain ⟨ji15, hji15⟩ : ∃ j_ : Int, (wrap64 (x21_2 + 1)) = j_ := ⟨_, rfl⟩
         replace H : (if 0 ≤ (ji15) then (if (ji15) ≤ (l1.length : Int) then ((some (l1.take ((ji15) : Int).toNat : List (S56))).bind fun y573 => (spec_Truth.l1 k2 l1 x5_2 y570 (l1.length : Int) x21_2 y573 (y573.length : Int) 0 a0_0 l0_1)) else (none)) else (none)) = some r := by first | (rw [hji15] at H; exact H) | (simp only [hji15] at H ⊢; exact H)
         have hji15w : (IntKind.i64.wrap (x21_2 + 1)) = ji15 := (i64_w _).trans hji15
         by_cases c16 : 0 ≤ (ji15)
         ·rw [if_pos c16] at H
          have c16b0 := eq_true c16
          have c16b1 : decide (0 ≤ (ji15)) = true := decide_eq_true c16
          clear c16
          by_cases c17 : (ji15) ≤ (l1.length : Int)
          ·rw [if_pos c17] at H
           have c17b0 := eq_true c17
           have c17b1 : decide ((ji15) ≤ (l1.length : Int)) = true := decide_eq_true c17
           clear c17
           obtain ⟨y573, hy573⟩ : ∃ y_ : List (S56), y_ = (l1.take ((ji15) : Int).toNat) := ⟨_, rfl⟩
           replace H : (spec_Truth.l1 k2 l1 x5_2 y570 (l1.length : Int) x21_2 y573 (y573.length : Int) 0 a0_0 l0_1) = some r := by first | (rw [hy573]; with_reducible exact H) | (have H2_ := (Option.bind_some _ _).symm.trans H; rw [hy573]; with_reducible exact H2_) | (have H2_ := (Option.bind_some _ _).symm.trans H; with_reducible exact H2_) | with_reducible exact H | (rw [hy573]; exact H) | exact H
           have Ny573 := Aside0.mk hy573
           clear hy573
           have H' := Aside0.mk H
           clear H
           have hcz18_0 : wr.cell? ⟨gb568, 0, none⟩ = some (.int .i64 a0_0) := (blk_cell BK568.out 0).trans rfl
           have hcz18_1 : wr.cell? ⟨gb568, 1, none⟩ = some (.slice A0_1 l0_1.length c0_1) := (blk_cell BK568.out 1).trans rfl
           have hfz18_0 := blk_frozen BK568.out 0
           have hfz18_1 := blk_frozen BK568.out 1
           go_wp2_with (first | ((with_reducible refine gate_dst (N := 26) rfl ?_); (try (refine gate_guard (by rfl) ?_; dsimp only)); refine Kd.R_make (Kd.int .i64) _ 3 rfl (N := 26) rfl 59 _ _ rfl a0_0 rfl rfl Try.underlying59 (.int .i64 0) 8 info3 rfl (by decide) (by omega) 0 (ok := fun _ => True) (okp := fun _ => True) rfl (fun _ hk => hk) trivial (of_decide_eq_true (by first | (with_reducible assumption) | assumption)) (Nat.le_trans (Nat.mul_le_mul_right _ (of_decide_eq_true (by first | (with_reducible assumption) | assumption) : a0_0.toNat ≤ 35184372088832)) (by omega)) (Below.refl _ _) (Nat.le_refl _) ?_; intro v571 w19 ho20 hb hg_ hnew_; clear hg_ hnew_; (first | rw [← Ny570.out] at ho20 | (simp only [Int.reduceToNat] at ho20; rw [← Ny570.out] at ho20)); have n0_ := Aside0.mk (Kd.S_elder' (by (with_reducible repeat (first | apply Kd.S_alloc | apply Kd.S_drewN | apply Kd.S_drew)); exact HO_5.out) (Kd.R_base ho20) hb); have n1_ := Aside0.mk (Kd.R_lower ho20 (below_size (by repeat (first | (with_reducible first | exact HB.out | apply below_alloc | apply pw_below_drewN | apply below_drew1 | refine below_set ?_ GE568.out) | exact HB.out)))); have n2_ := Aside0.mk (blk_below (g := gb568) (o := .cells #[.int .i64 a0_0, .slice A0_1 l0_1.length c0_1] 30 (0, 0)) (by (with_reducible repeat (first | refine blk_drewN ?_ _ | refine blk_drew ?_ | refine blk_alloc ?_ _)); exact BK568.out) hb); have n3_ := Aside0.mk (below_step (by repeat (first | (with_reducible first | exact HB.out | apply below_alloc | apply pw_below_drewN | apply below_drew1 | refine below_set ?_ GE568.out) | exact HB.out)) hb); clear HO_5; clear BK568; clear HB; have HO_5 := n0_; have HO572 := n1_; have BK568 := n2_; have HB := n3_; clear n0_ n1_ n2_ n3_; clear hb ho20; have q21 : ((ji15) : Int) ≤ ((l1.length : Int) : Int) := of_decide_eq_true (by first | (with_reducible assumption) | assumption); obtain ⟨i021, hi021, _, hsz21, _⟩ := info_parts info56; have hroom21 : l1.length ≤ c1 := HC1.out; have hC21 : Kd.C k56 _ A1 l1.length l1 := HR1.out; have hcut21 := cut_to (P := Try.prog) 35 56 .i64 Try.underlying35 hi021 A1 l1.length c1 (ji15) (of_decide_eq_true (by first | (with_reducible assumption) | assumption)) q21 hroom21; have hr21 := Kd.C_take (m := ((ji15) : Int).toNat) hC21 (by omega); have hy21 : y573.length = ((ji15) : Int).toNat := (by rw [Ny573.out, List.length_take]; omega); rw [← Ny573.out] at hr21; rw [← hy21] at hcut21; have HR576 := Aside0.mk hr21; have HC576 := Aside0.mk (show y573.length ≤ c1 from by omega); clear hr21 hC21 hroom21 hi021 hsz21; have KY21 := Aside0.mk hy21; clear hy21; replace q21 := eq_true q21))
           go_loopg [32] k2 (fun kq v32 w' => ∃ (x7_3 : List Int) (x32_3 : Int), v32 = .int .i64 x32_3 ∧ Aside0 (spec_Truth.l1 kq l1 x5_2 x7_3 (l1.length : Int) x21_2 y573 (y573.length : Int) x32_3 a0_0 l0_1 = some r) ∧ Aside0 (kq ≤ k2) ∧ Aside0 (Kd.S (Kd.slice 3 (Kd.int .i64)) 59 w' w.heap.size (fun k_ => some k_ ≠ (v571 : Value).ownBlock) u5 x5_2) ∧ Aside0 (Kd.R (Kd.int .i64) 3 w' w.heap.size (fun _ => True) v571 x7_3) ∧ Aside0 (w'.heap[gb568]? = some (.cells #[.int .i64 a0_0, (.slice A0_1 l0_1.length c0_1)] 30 (0, 0))) ∧ Aside0 (Below w.heap.size w w'))
           case atStart => exact ⟨(y570), (0), (by first | rfl | (simp; done) | (simp [*]; done)), H', ⟨Nat.le_refl _⟩, ⟨by (with_reducible repeat (first | apply Kd.S_alloc | apply Kd.S_drewN | apply Kd.S_drew)); exact Kd.S_mono HO_5.out (fun _ hk => hk.2)⟩, ⟨by (with_reducible repeat (first | apply Kd.R_alloc | apply Kd.R_drewN | apply Kd.R_drew)); exact HO572.out⟩, ⟨by (with_reducible repeat (first | refine blk_drewN ?_ _ | refine blk_drew ?_ | refine blk_alloc ?_ _)); exact BK568.out⟩, ⟨by repeat (first | (with_reducible first | exact HB.out | apply below_alloc | apply pw_below_drewN | apply below_drew1 | refine below_set ?_ GE568.out) | exact HB.out)⟩⟩
           case round =>
            clear H'
            try clear c1
            try clear c2
            try clear p2
            try clear q2
            try clear c5
            try clear c6
            try clear c6b0
            try clear c6b1
            try clear p6
            try clear c11
            try clear c12
            try clear c12b0
            try clear c13
            try clear c13b0
            try clear c13b1
            try clear c14
            try clear c14b0
            try clear c14b1
            try clear c16
            try clear c16b0
            try clear c16b1
            try clear c17
            try clear c17b0
            try clear c17b1
            try clear q21
            try clear hcz18_0
            try clear hcz18_1
            try clear hcz7_0
            try clear hcz7_1
            try clear hcz9_0
            try clear hcz9_1
            try clear hfz18_0
            try clear hfz18_1
            try clear hfz7_0
            try clear hfz7_1
            try clear hfz9_0
            try clear hfz9_1
            try clear p2
            try clear q21
            obtain ⟨x7_3, x32_3, rfl, HA, HK3, HO_5, HO_7, BK568, HB⟩ := hrel
            cases gk with
            | zero => exact absurd HA.out (by simp [spec_Truth.l1])
            | succ k3 =>
             have H := HA.out
             clear HA
             simp only [spec_Truth.l1] at H
             by_cases c22 : x32_3 < (y573.length : Int)
             ·rw [if_pos c22] at H
              have c22b0 : decide (x32_3 < (y573.length : Int)) = true := decide_eq_true c22
              clear c22
              by_cases c23 : 0 ≤ x32_3
              ·rw [if_pos c23] at H
               have c23b0 : decide (0 ≤ x32_3) = true := decide_eq_true c23
               clear c23
               by_cases c24 : x32_3 < (y573.length : Int)
               ·rw [if_pos c24] at H
                have c24b0 : decide (x32_3 < (y573.length : Int)) = true := decide_eq_true c24
                clear c24
                have HC25 := Aside0.mk H
                clear H
                have p580 : 0 ≤ (x32_3 : Int) := of_decide_eq_true (by first | (with_reducible assumption) | assumption)
                have q580 : x32_3 < (y573.length : Int) := of_decide_eq_true (by first | (with_reducible assumption) | assumption)
                obtain ⟨ad580, e580, hx580_0, hx580_1, hx580_2⟩ := at_T56 HR576.out x32_3 p580 q580
                cases e580
                replace hx580_0 := (HB.out.cell (World.block_lt_of_cell? w _ hx580_0)).trans hx580_0
                replace hx580_1 := (HB.out.cell (World.block_lt_of_cell? w _ hx580_1)).trans hx580_1
                replace hx580_2 := (HB.out.cell (World.block_lt_of_cell? w _ hx580_2)).trans hx580_2
                replace p580 := eq_true p580
                replace q580 := eq_true q580
                go_upto_region 11 with (first | ((with_reducible refine gate_dst (N := 9) rfl ?_); (try (refine gate_guard (by rfl) ?_; dsimp only)); refine box_event ?hg (N := 9) ?hd (cs := #[.int .i64 0, .int .i64 0, .int .i64 0]) (t := 56) ?hr ?_; (case hd => rfl); (case hg => rfl); (case hr => first | (go_simp; done) | (go_simp; rfl)); intro gb581 hg w26 hbox hb; have n0_ := Aside0.mk (Kd.S_below (by (with_reducible repeat (first | apply Kd.S_alloc | apply Kd.S_drewN | apply Kd.S_drew)); exact HO_5.out) hb); have n1_ := Aside0.mk (Kd.R_below (by (with_reducible repeat (first | apply Kd.R_alloc | apply Kd.R_drewN | apply Kd.R_drew)); exact HO_7.out) hb); have n2_ := Aside0.mk (blk_below (g := gb568) (o := .cells #[.int .i64 a0_0, .slice A0_1 l0_1.length c0_1] 30 (0, 0)) (by (with_reducible repeat (first | refine blk_drewN ?_ _ | refine blk_drew ?_ | refine blk_alloc ?_ _)); exact BK568.out) hb); have n3_ := Aside0.mk (below_step (by repeat (first | (with_reducible first | exact HB.out | apply below_alloc | apply pw_below_drewN | apply below_drew1 | refine below_set ?_ GE568.out) | exact HB.out)) hb); have n4_ := Aside0.mk (hbox); have n5_ := Aside0.mk ((by rw [hg]; exact (below_size (by repeat (first | (with_reducible first | exact HB.out | apply below_alloc | apply pw_below_drewN | apply below_drew1 | refine below_set ?_ GE568.out) | exact HB.out))) : w.heap.size ≤ gb581)); have n6_ := Aside0.mk ((by rw [hg]; exact (below_size (by repeat (first | (with_reducible first | exact HB.out | apply below_alloc | apply pw_below_drewN | apply below_drew1 | refine below_set ?_ GE568.out) | exact HB.out))) : w.heap.size ≤ gb581)); have n7_ := Aside0.mk ((by rw [hg]; exact Nat.ne_of_lt (blk_lt (g := gb568) (o := .cells #[.int .i64 a0_0, .slice A0_1 l0_1.length c0_1] 30 (0, 0)) (by (with_reducible repeat (first | refine blk_drewN ?_ _ | refine blk_drew ?_ | refine blk_alloc ?_ _)); exact BK568.out)) : gb568 ≠ gb581)); have n8_ := Aside0.mk ((by rw [hg]; exact Nat.ne_of_gt (blk_lt (g := gb568) (o := .cells #[.int .i64 a0_0, .slice A0_1 l0_1.length c0_1] 30 (0, 0)) (by (with_reducible repeat (first | refine blk_drewN ?_ _ | refine blk_drew ?_ | refine blk_alloc ?_ _)); exact BK568.out)) : gb581 ≠ gb568)); clear HO_5; clear HO_7; clear BK568; clear HB; have HO_5 := n0_; have HO_7 := n1_; have BK568 := n2_; have HB := n3_; have BK581 := n4_; have GW581 := n5_; have GE581 := n6_; have NB568_581 := n7_; have NB581_568 := n8_; clear n0_ n1_ n2_ n3_ n4_ n5_ n6_ n7_ n8_; clear hb hbox hg; have hnb27 := NB581_568.out; have hnc27 := NB568_581.out; have hcz28_0 : w26.cell? ⟨gb581, 0, none⟩ = some (.int .i64 0) := (blk_cell BK581.out 0).trans rfl; have hcz28_1 : w26.cell? ⟨gb581, 1, none⟩ = some (.int .i64 0) := (blk_cell BK581.out 1).trans rfl; have hcz28_2 : w26.cell? ⟨gb581, 2, none⟩ = some (.int .i64 0) := (blk_cell BK581.out 2).trans rfl; have hfz28_0 := blk_frozen BK581.out 0; have hfz28_1 := blk_frozen BK581.out 1; have hfz28_2 := blk_frozen BK581.out 2))
                (try simp only [Act.put, List.setIfInBounds_toArray, List.set_cons_zero, List.set_cons_succ])
                go_cut [44] (fun v44 wc => ∃ (kq : Nat) (x44_24 : Bool), v44 = .bool x44_24 ∧ Aside0 (spec_Truth.j3 kq l1 x5_2 x7_3 (l1.length : Int) x21_2 y573 (y573.length : Int) x32_3 x44_24 a0_0 l0_1 ((rd_T56 y573 x32_3).f0) ((rd_T56 y573 x32_3).f1) ((rd_T56 y573 x32_3).f2) = some r) ∧ Aside0 (kq ≤ k3) ∧ Aside0 (Kd.S (Kd.slice 3 (Kd.int .i64)) 59 wc w.heap.size (fun k_ => some k_ ≠ (v571 : Value).ownBlock) u5 x5_2) ∧ Aside0 (Kd.R (Kd.int .i64) 3 wc w.heap.size (fun _ => True) v571 x7_3) ∧ Aside0 (wc.heap[gb568]? = some (.cells #[.int .i64 a0_0, (.slice A0_1 l0_1.length c0_1)] 30 (0, 0))) ∧ Aside0 (wc.heap[gb581]? = some (.cells #[.int .i64 ((rd_T56 y573 x32_3).f0), .int .i64 ((rd_T56 y573 x32_3).f1), .int .i64 ((rd_T56 y573 x32_3).f2)] 56 (0, 0))) ∧ Aside0 (Below w.heap.size w wc))
                case first =>
                 have H := HC25.out
                 clear HC25
                 by_cases c29 : ((rd_T56 y573 x32_3).f0) = 1
                 ·rw [if_pos c29] at H
                  have c29b0 : (((rd_T56 y573 x32_3).f0) == 1) = true := beq_iff_eq.mpr c29
                  have c29b1 : (((rd_T56 y573 x32_3).f0) != 1) = false := bne_eq_false_iff_eq.mpr c29
                  clear c29
                  (first | rw [c29b0] | (simp only [i64_w, i32_w]; rw [c29b0]) | skip)
                  replace H := Option.bind_eq_some_iff.mp H
                  obtain ⟨t582, A300, H⟩ := H
                  replace H : (spec_Truth.j3 k3 l1 x5_2 x7_3 (l1.length : Int) x21_2 y573 (y573.length : Int) x32_3 (!t582) a0_0 l0_1 ((rd_T56 y573 x32_3).f0) ((rd_T56 y573 x32_3).f1) ((rd_T56 y573 x32_3).f2)) = some r := H
                  have A30 := Aside0.mk A300
                  clear A300
                  have H' := Aside0.mk H
                  clear H
                  have hnb31 := NB581_568.out
                  have hnc31 := NB568_581.out
                  have hcz32_0 : w26.cell? ⟨gb581, 0, none⟩ = some (.int .i64 0) := (blk_cell BK581.out 0).trans rfl
                  have hcz32_1 : w26.cell? ⟨gb581, 1, none⟩ = some (.int .i64 0) := (blk_cell BK581.out 1).trans rfl
                  have hcz32_2 : w26.cell? ⟨gb581, 2, none⟩ = some (.int .i64 0) := (blk_cell BK581.out 2).trans rfl
                  have hfz32_0 := blk_frozen BK581.out 0
                  have hfz32_1 := blk_frozen BK581.out 1
                  have hfz32_2 := blk_frozen BK581.out 2
                  have hcz33_0 : w26.cell? ⟨gb568, 0, none⟩ = some (.int .i64 a0_0) := (blk_cell BK568.out 0).trans rfl
                  have hcz33_1 : w26.cell? ⟨gb568, 1, none⟩ = some (.slice A0_1 l0_1.length c0_1) := (blk_cell BK568.out 1).trans rfl
                  have hfz33_0 := blk_frozen BK568.out 0
                  have hfz33_1 := blk_frozen BK568.out 1
                  go_wp2_with (first | (go_at_call 34; (with_reducible refine (spec_EventOk.calls k3 a0_0 _ _ l0_1 ((rd_T56 y573 x32_3).f0) ((rd_T56 y573 x32_3).f1) ((rd_T56 y573 x32_3).f2) t582 _ ?side1 ?side2 A30.out).mono ?_); (case side1 => exact Kd.C_below HR0_1.out (by repeat (first | (with_reducible first | exact HB.out | apply below_alloc | apply pw_below_drewN | apply below_drew1 | refine below_set ?_ GE568.out | refine below_set ?_ GE581.out) | exact HB.out))); (case side2 => exact HC0_1.out); rintro e w34 ⟨rfl, hb⟩; have n0_ := Aside0.mk (Kd.S_below (by (with_reducible repeat (first | apply Kd.S_alloc | apply Kd.S_drewN | apply Kd.S_drew)); exact (Kd.S_mono (Kd.S_far (p := ⟨gb581, 2, none⟩) (Kd.S_far (p := ⟨gb581, 1, none⟩) (Kd.S_far (p := ⟨gb581, 0, none⟩) (Kd.S_types HO_5.out BK581.out (by decide)) (fun _ hk => hk.2) (.int .i64 ((rd_T56 y573 x32_3).f0))) (fun _ hk => hk.2) (.int .i64 ((rd_T56 y573 x32_3).f1))) (fun _ hk => hk.2) (.int .i64 ((rd_T56 y573 x32_3).f2))) (fun _ h_ => h_.1))) hb); have n1_ := Aside0.mk (Kd.R_below (by (with_reducible repeat (first | apply Kd.R_alloc | apply Kd.R_drewN | apply Kd.R_drew)); exact (Kd.R_mono (Kd.R_far (p := ⟨gb581, 2, none⟩) (Kd.R_far (p := ⟨gb581, 1, none⟩) (Kd.R_far (p := ⟨gb581, 0, none⟩) (Kd.R_types HO_7.out BK581.out (by decide)) (fun _ hk => hk.2) (.int .i64 ((rd_T56 y573 x32_3).f0))) (fun _ hk => hk.2) (.int .i64 ((rd_T56 y573 x32_3).f1))) (fun _ hk => hk.2) (.int .i64 ((rd_T56 y573 x32_3).f2))) (fun _ h_ => h_.1))) hb); have n2_ := Aside0.mk (blk_below (g := gb568) (o := .cells #[.int .i64 a0_0, .slice A0_1 l0_1.length c0_1] 30 (0, 0)) (by (with_reducible repeat (first | refine blk_drewN ?_ _ | refine blk_drew ?_ | refine blk_alloc ?_ _)); refine blk_far ?_ NB568_581.out _; (with_reducible repeat (first | refine blk_drewN ?_ _ | refine blk_drew ?_ | refine blk_alloc ?_ _)); refine blk_far ?_ NB568_581.out _; (with_reducible repeat (first | refine blk_drewN ?_ _ | refine blk_drew ?_ | refine blk_alloc ?_ _)); refine blk_far ?_ NB568_581.out _; (with_reducible repeat (first | refine blk_drewN ?_ _ | refine blk_drew ?_ | refine blk_alloc ?_ _)); exact BK568.out) hb); have n3_ := Aside0.mk (blk_below (g := gb581) (o := .cells #[.int .i64 ((rd_T56 y573 x32_3).f0), .int .i64 ((rd_T56 y573 x32_3).f1), .int .i64 ((rd_T56 y573 x32_3).f2)] 56 (0, 0)) (by (with_reducible repeat (first | refine blk_drewN ?_ _ | refine blk_drew ?_ | refine blk_alloc ?_ _)); refine blk_put (cs := #[.int .i64 ((rd_T56 y573 x32_3).f0), .int .i64 ((rd_T56 y573 x32_3).f1), .int .i64 0]) ?_ 2 _ rfl; (with_reducible repeat (first | refine blk_drewN ?_ _ | refine blk_drew ?_ | refine blk_alloc ?_ _)); refine blk_put (cs := #[.int .i64 ((rd_T56 y573 x32_3).f0), .int .i64 0, .int .i64 0]) ?_ 1 _ rfl; (with_reducible repeat (first | refine blk_drewN ?_ _ | refine blk_drew ?_ | refine blk_alloc ?_ _)); refine blk_put (cs := #[.int .i64 0, .int .i64 0, .int .i64 0]) ?_ 0 _ rfl; (with_reducible repeat (first | refine blk_drewN ?_ _ | refine blk_drew ?_ | refine blk_alloc ?_ _)); exact BK581.out) hb); have n4_ := Aside0.mk (below_step (by repeat (first | (with_reducible first | exact HB.out | apply below_alloc | apply pw_below_drewN | apply below_drew1 | refine below_set ?_ GE568.out | refine below_set ?_ GE581.out) | exact HB.out)) hb); clear HO_5; clear HO_7; clear BK568; clear BK581; clear HB; have HO_5 := n0_; have HO_7 := n1_; have BK568 := n2_; have BK581 := n3_; have HB := n4_; clear n0_ n1_ n2_ n3_ n4_; (try clear hb); (try clear hb2); (try clear hk); (try clear hi)))
                  go_meet
                  case rel => exact ⟨_, (!t582), (by first | rfl | (simp; done) | (simp [*]; done)), H', ⟨by have := HJ2.out; have := HK2.out; have := HK3.out; first | omega | exact Nat.le_refl _⟩, ⟨by (with_reducible repeat (first | apply Kd.S_alloc | apply Kd.S_drewN | apply Kd.S_drew)); exact HO_5.out⟩, ⟨by (with_reducible repeat (first | apply Kd.R_alloc | apply Kd.R_drewN | apply Kd.R_drew)); exact HO_7.out⟩, ⟨by (with_reducible repeat (first | refine blk_drewN ?_ _ | refine blk_drew ?_ | refine blk_alloc ?_ _)); exact BK568.out⟩, ⟨by (with_reducible repeat (first | refine blk_drewN ?_ _ | refine blk_drew ?_ | refine blk_alloc ?_ _)); exact BK581.out⟩, ⟨by repeat (first | (with_reducible first | exact HB.out | apply below_alloc | apply pw_below_drewN | apply below_drew1 | refine below_set ?_ GE568.out | refine below_set ?_ GE581.out) | exact HB.out)⟩⟩
                 ·rw [if_neg c29] at H
                  have c29b0 : (((rd_T56 y573 x32_3).f0) == 1) = false := beq_eq_false_iff_ne.mpr c29
                  have c29b1 : (((rd_T56 y573 x32_3).f0) != 1) = true := bne_iff_ne.mpr c29
                  (first | rw [c29b0] | (simp only [i64_w, i32_w]; rw [c29b0]) | skip)
                  have H' := Aside0.mk H
                  clear H
                  have hnb35 := NB581_568.out
                  have hnc35 := NB568_581.out
                  have hcz36_0 : w26.cell? ⟨gb581, 0, none⟩ = some (.int .i64 0) := (blk_cell BK581.out 0).trans rfl
                  have hcz36_1 : w26.cell? ⟨gb581, 1, none⟩ = some (.int .i64 0) := (blk_cell BK581.out 1).trans rfl
                  have hcz36_2 : w26.cell? ⟨gb581, 2, none⟩ = some (.int .i64 0) := (blk_cell BK581.out 2).trans rfl
                  have hfz36_0 := blk_frozen BK581.out 0
                  have hfz36_1 := blk_frozen BK581.out 1
                  have hfz36_2 := blk_frozen BK581.out 2
                  go_wp2
                  go_meet
                  case rel => exact ⟨_, (true), (by first | rfl | (simp; done) | (simp [*]; done)), H', ⟨by have := HJ2.out; have := HK2.out; have := HK3.out; first | omega | exact Nat.le_refl _⟩, ⟨by (with_reducible repeat (first | apply Kd.S_alloc | apply Kd.S_drewN | apply Kd.S_drew)); exact Kd.S_mono (Kd.S_far (p := ⟨gb581, 2, none⟩) (Kd.S_far (p := ⟨gb581, 1, none⟩) (Kd.S_far (p := ⟨gb581, 0, none⟩) (Kd.S_types HO_5.out BK581.out (by decide)) (fun _ hk => hk.2) (.int .i64 ((rd_T56 y573 x32_3).f0))) (fun _ hk => hk.2) (.int .i64 ((rd_T56 y573 x32_3).f1))) (fun _ hk => hk.2) (.int .i64 ((rd_T56 y573 x32_3).f2))) (fun _ hk => hk.1)⟩, ⟨by (with_reducible repeat (first | apply Kd.R_alloc | apply Kd.R_drewN | apply Kd.R_drew)); exact Kd.R_mono (Kd.R_far (p := ⟨gb581, 2, none⟩) (Kd.R_far (p := ⟨gb581, 1, none⟩) (Kd.R_far (p := ⟨gb581, 0, none⟩) (Kd.R_types HO_7.out BK581.out (by decide)) (fun _ hk => hk.2) (.int .i64 ((rd_T56 y573 x32_3).f0))) (fun _ hk => hk.2) (.int .i64 ((rd_T56 y573 x32_3).f1))) (fun _ hk => hk.2) (.int .i64 ((rd_T56 y573 x32_3).f2))) (fun _ hk => trivial)⟩, ⟨by (with_reducible repeat (first | refine blk_drewN ?_ _ | refine blk_drew ?_ | refine blk_alloc ?_ _)); refine blk_far ?_ NB568_581.out _; (with_reducible repeat (first | refine blk_drewN ?_ _ | refine blk_drew ?_ | refine blk_alloc ?_ _)); refine blk_far ?_ NB568_581.out _; (with_reducible repeat (first | refine blk_drewN ?_ _ | refine blk_drew ?_ | refine blk_alloc ?_ _)); refine blk_far ?_ NB568_581.out _; (with_reducible repeat (first | refine blk_drewN ?_ _ | refine blk_drew ?_ | refine blk_alloc ?_ _)); exact BK568.out⟩, ⟨by (with_reducible repeat (first | refine blk_drewN ?_ _ | refine blk_drew ?_ | refine blk_alloc ?_ _)); refine blk_put (cs := #[.int .i64 ((rd_T56 y573 x32_3).f0), .int .i64 ((rd_T56 y573 x32_3).f1), .int .i64 0]) ?_ 2 _ rfl; (with_reducible repeat (first | refine blk_drewN ?_ _ | refine blk_drew ?_ | refine blk_alloc ?_ _)); refine blk_put (cs := #[.int .i64 ((rd_T56 y573 x32_3).f0), .int .i64 0, .int .i64 0]) ?_ 1 _ rfl; (with_reducible repeat (first | refine blk_drewN ?_ _ | refine blk_drew ?_ | refine blk_alloc ?_ _)); refine blk_put (cs := #[.int .i64 0, .int .i64 0, .int .i64 0]) ?_ 0 _ rfl; (with_reducible repeat (first | refine blk_drewN ?_ _ | refine blk_drew ?_ | refine blk_alloc ?_ _)); exact BK581.out⟩, ⟨by repeat (first | (with_reducible first | exact HB.out | apply below_alloc | apply pw_below_drewN | apply below_drew1 | refine below_set ?_ GE568.out | refine below_set ?_ GE581.out) | exact HB.out)⟩⟩
                case rest =>
                 clear HC25
                 try clear c1
                 try clear c2
                 try clear p2
                 try clear q2
                 try clear c3
                 try clear c5
                 try clear p5
                 try clear q5
                 try clear hx5
                 try clear c6
                 try clear c6b0
                 try clear c6b1
                 try clear p6
                 try clear c11
                 try clear c12
                 try clear c12b0
                 try clear c13
                 try clear c13b0
                 try clear c13b1
                 try clear c14
                 try clear c14b0
                 try clear c14b1
                 try clear c16
                 try clear c16b0
                 try clear c16b1
                 try clear c17
                 try clear c17b0
                 try clear c17b1
                 try clear q21
                 try clear c22
                 try clear c22b0
                 try clear c23
                 try clear c23b0
                 try clear c24
                 try clear c24b0
                 try clear c27
                 try clear c29
                 try clear c29b0
                 try clear c29b1
                 try clear c31
                 try clear c35
                 try clear hcz18_0
                 try clear hcz18_1
                 try clear hcz28_0
                 try clear hcz28_1
                 try clear hcz28_2
                 try clear hcz32_0
                 try clear hcz32_1
                 try clear hcz32_2
                 try clear hcz33_0
                 try clear hcz33_1
                 try clear hcz36_0
                 try clear hcz36_1
                 try clear hcz36_2
                 try clear hcz7_0
                 try clear hcz7_1
                 try clear hcz9_0
                 try clear hcz9_1
                 try clear hfz18_0
                 try clear hfz18_1
                 try clear hfz28_0
                 try clear hfz28_1
                 try clear hfz28_2
                 try clear hfz32_0
                 try clear hfz32_1
                 try clear hfz32_2
                 try clear hfz33_0
                 try clear hfz33_1
                 try clear hfz36_0
                 try clear hfz36_1
                 try clear hfz36_2
                 try clear hfz7_0
                 try clear hfz7_1
                 try clear hfz9_0
                 try clear hfz9_1
                 try clear hx580_0
                 try clear hx580_1
                 try clear hx580_2
                 try clear p2
                 try clear p580
                 try clear p6
                 try clear q2
                 try clear q21
                 try clear q580
                 obtain ⟨kq, x44_24, rfl, HA, HJ24, HO_5, HO_7, BK568, BK581, HB⟩ := hcut
                 cases kq with
                 | zero => exact absurd HA.out (by simp [spec_Truth.j3])
                 | succ kj24 =>
                  have H := HA.out
                  clear HA
                  simp only [spec_Truth.j3] at H
                  by_cases c37 : x44_24 = true
                  ·subst c37
                   have H1 : (spec_Truth.l1 kj24 l1 x5_2 x7_3 (l1.length : Int) x21_2 y573 (y573.length : Int) (wrap64 (x32_3 + 1)) a0_0 l0_1) = some r := by rw [if_pos rfl] at H; exact H
                   clear H
                   have H := H1
                   clear H1
                   have H' := Aside0.mk H
                   clear H
                   go_wp2
                   go_roundg kj24
                   case measure => have := HJ2.out; have := HK2.out; have := HK3.out; have := HJ24.out; omega
                   case rel => exact ⟨(x7_3), (wrap64 (x32_3 + 1)), (by first | rfl | (simp; done) | (simp [*]; done)), H', ⟨by have := HJ2.out; have := HK2.out; have := HK3.out; have := HJ24.out; omega⟩, ⟨by (with_reducible repeat (first | apply Kd.S_alloc | apply Kd.S_drewN | apply Kd.S_drew)); exact HO_5.out⟩, ⟨by (with_reducible repeat (first | apply Kd.R_alloc | apply Kd.R_drewN | apply Kd.R_drew)); exact HO_7.out⟩, ⟨by (with_reducible repeat (first | refine blk_drewN ?_ _ | refine blk_drew ?_ | refine blk_alloc ?_ _)); exact BK568.out⟩, ⟨by repeat (first | (with_reducible first | exact HB.out | apply below_alloc | apply pw_below_drewN | apply below_drew1 | refine below_set ?_ GE568.out | refine below_set ?_ GE581.out) | exact HB.out)⟩⟩
                  ·replace c37 := Bool.eq_false_iff.mpr c37
                   subst c37
                   have H1 : (if 0 ≤ ((rd_T56 y573 x32_3).f1) then (if ((rd_T56 y573 x32_3).f1) < (l0_1.length : Int) then (if ((rd_T88 l0_1 ((rd_T56 y573 x32_3).f1)).f0) ≥ 0 then (if 0 ≤ ((rd_T88 l0_1 ((rd_T56 y573 x32_3).f1)).f0) then (if ((rd_T88 l0_1 ((rd_T56 y573 x32_3).f1)).f0) < (x7_3.length : Int) then ((some (x7_3.set (((rd_T88 l0_1 ((rd_T56 y573 x32_3).f1)).f0) : Int).toNat (wrap64 ((rd x7_3 ((rd_T88 l0_1 ((rd_T56 y573 x32_3).f1)).f0)) - ((rd_T56 y573 x32_3).f2))) : List Int)).bind fun y586 => (if ((rd_T88 l0_1 ((rd_T56 y573 x32_3).f1)).f1) ≥ 0 then (if 0 ≤ ((rd_T88 l0_1 ((rd_T56 y573 x32_3).f1)).f1) then (if ((rd_T88 l0_1 ((rd_T56 y573 x32_3).f1)).f1) < (x7_3.length : Int) then (spec_Truth.l1 kj24 l1 x5_2 (y586.set (((rd_T88 l0_1 ((rd_T56 y573 x32_3).f1)).f1) : Int).toNat (wrap64 ((rd y586 ((rd_T88 l0_1 ((rd_T56 y573 x32_3).f1)).f1)) + ((rd_T56 y573 x32_3).f2)))) (l1.length : Int) x21_2 y573 (y573.length : Int) (wrap64 (x32_3 + 1)) a0_0 l0_1) else (none)) else (none)) else (spec_Truth.l1 kj24 l1 x5_2 y586 (l1.length : Int) x21_2 y573 (y573.length : Int) (wrap64 (x32_3 + 1)) a0_0 l0_1))) else (none)) else (none)) else (if ((rd_T88 l0_1 ((rd_T56 y573 x32_3).f1)).f1) ≥ 0 then (if 0 ≤ ((rd_T88 l0_1 ((rd_T56 y573 x32_3).f1)).f1) then (if ((rd_T88 l0_1 ((rd_T56 y573 x32_3).f1)).f1) < (x7_3.length : Int) then (spec_Truth.l1 kj24 l1 x5_2 (x7_3.set (((rd_T88 l0_1 ((rd_T56 y573 x32_3).f1)).f1) : Int).toNat (wrap64 ((rd x7_3 ((rd_T88 l0_1 ((rd_T56 y573 x32_3).f1)).f1)) + ((rd_T56 y573 x32_3).f2)))) (l1.length : Int) x21_2 y573 (y573.length : Int) (wrap64 (x32_3 + 1)) a0_0 l0_1) else (none)) else (none)) else (spec_Truth.l1 kj24 l1 x5_2 x7_3 (l1.length : Int) x21_2 y573 (y573.length : Int) (wrap64 (x32_3 + 1)) a0_0 l0_1))) else (none)) else (none)) = some r := by rw [if_neg (show ¬ (false = true) by decide)] at H; exact H
                   clear H
                   have H := H1
                   clear H1
                   by_cases c38 : 0 ≤ ((rd_T56 y573 x32_3).f1)
                   ·rw [if_pos c38] at H
                    have c38b0 : decide (0 ≤ ((rd_T56 y573 x32_3).f1)) = true := decide_eq_true c38
                    clear c38
                    by_cases c39 : ((rd_T56 y573 x32_3).f1) < (l0_1.length : Int)
                    ·rw [if_pos c39] at H
                     have c39b0 : decide (((rd_T56 y573 x32_3).f1) < (l0_1.length : Int)) = true := decide_eq_true c39
                     clear c39
                     by_cases c40 : ((rd_T88 l0_1 ((rd_T56 y573 x32_3).f1)).f0) ≥ 0
                     ·rw [if_pos c40] at H
                      have c40b0 : decide (0 ≤ ((rd_T88 l0_1 ((rd_T56 y573 x32_3).f1)).f0)) = true := decide_eq_true c40
                      clear c40
                      by_cases c41 : 0 ≤ ((rd_T88 l0_1 ((rd_T56 y573 x32_3).f1)).f0)
                      ·rw [if_pos c41] at H
                       have c41b0 : decide (0 ≤ ((rd_T88 l0_1 ((rd_T56 y573 x32_3).f1)).f0)) = true := decide_eq_true c41
                       clear c41
                       by_cases c42 : ((rd_T88 l0_1 ((rd_T56 y573 x32_3).f1)).f0) < (x7_3.length : Int)
                       ·rw [if_pos c42] at H
                        have c42b0 : decide (((rd_T88 l0_1 ((rd_T56 y573 x32_3).f1)).f0) < (x7_3.length : Int)) = true := decide_eq_true c42
                        clear c42
                        obtain ⟨y586, hy586⟩ : ∃ y_ : List Int, y_ = (x7_3.set (((rd_T88 l0_1 ((rd_T56 y573 x32_3).f1)).f0) : Int).toNat (wrap64 ((rd x7_3 ((rd_T88 l0_1 ((rd_T56 y573 x32_3).f1)).f0)) - ((rd_T56 y573 x32_3).f2)))) := ⟨_, rfl⟩
                        replace H : (if ((rd_T88 l0_1 ((rd_T56 y573 x32_3).f1)).f1) ≥ 0 then (if 0 ≤ ((rd_T88 l0_1 ((rd_T56 y573 x32_3).f1)).f1) then (if ((rd_T88 l0_1 ((rd_T56 y573 x32_3).f1)).f1) < (x7_3.length : Int) then (spec_Truth.l1 kj24 l1 x5_2 (y586.set (((rd_T88 l0_1 ((rd_T56 y573 x32_3).f1)).f1) : Int).toNat (wrap64 ((rd y586 ((rd_T88 l0_1 ((rd_T56 y573 x32_3).f1)).f1)) + ((rd_T56 y573 x32_3).f2)))) (l1.length : Int) x21_2 y573 (y573.length : Int) (wrap64 (x32_3 + 1)) a0_0 l0_1) else (none)) else (none)) else (spec_Truth.l1 kj24 l1 x5_2 y586 (l1.length : Int) x21_2 y573 (y573.length : Int) (wrap64 (x32_3 + 1)) a0_0 l0_1)) = some r := by first | (rw [hy586]; with_reducible exact H) | (have H2_ := (Option.bind_some _ _).symm.trans H; rw [hy586]; with_reducible exact H2_) | (have H2_ := (Option.bind_some _ _).symm.trans H; with_reducible exact H2_) | with_reducible exact H | (rw [hy586]; exact H) | exact H
                        have Ny586 := Aside0.mk hy586
                        clear hy586
                        by_cases c44 : ((rd_T88 l0_1 ((rd_T56 y573 x32_3).f1)).f1) ≥ 0
                        ·rw [if_pos c44] at H
                         have c44b0 : decide (0 ≤ ((rd_T88 l0_1 ((rd_T56 y573 x32_3).f1)).f1)) = true := decide_eq_true c44
                         clear c44
                         by_cases c45 : 0 ≤ ((rd_T88 l0_1 ((rd_T56 y573 x32_3).f1)).f1)
                         ·rw [if_pos c45] at H
                          have c45b0 : decide (0 ≤ ((rd_T88 l0_1 ((rd_T56 y573 x32_3).f1)).f1)) = true := decide_eq_true c45
                          clear c45
                          by_cases c46 : ((rd_T88 l0_1 ((rd_T56 y573 x32_3).f1)).f1) < (x7_3.length : Int)
                          ·rw [if_pos c46] at H
                           have c46b0 : decide (((rd_T88 l0_1 ((rd_T56 y573 x32_3).f1)).f1) < (x7_3.length : Int)) = true := decide_eq_true c46
                           clear c46
                           obtain ⟨y588, hy588⟩ : ∃ y_ : List Int, y_ = (y586.set (((rd_T88 l0_1 ((rd_T56 y573 x32_3).f1)).f1) : Int).toNat (wrap64 ((rd y586 ((rd_T88 l0_1 ((rd_T56 y573 x32_3).f1)).f1)) + ((rd_T56 y573 x32_3).f2)))) := ⟨_, rfl⟩
                           replace H : (spec_Truth.l1 kj24 l1 x5_2 y588 (l1.length : Int) x21_2 y573 (y573.length : Int) (wrap64 (x32_3 + 1)) a0_0 l0_1) = some r := by first | (rw [hy588]; with_reducible exact H) | (have H2_ := (Option.bind_some _ _).symm.trans H; rw [hy588]; with_reducible exact H2_) | (have H2_ := (Option.bind_some _ _).symm.trans H; with_reducible exact H2_) | with_reducible exact H | (rw [hy588]; exact H) | exact H
                           have Ny588 := Aside0.mk hy588
                           clear hy588
                           have H' := Aside0.mk H
                           clear H
                           have hnb48 := NB568_581.out
                           have hnc48 := NB581_568.out
                           have hcz49_0 : wc.cell? ⟨gb568, 0, none⟩ = some (.int .i64 a0_0) := (blk_cell BK568.out 0).trans rfl
                           have hcz49_1 : wc.cell? ⟨gb568, 1, none⟩ = some (.slice A0_1 l0_1.length c0_1) := (blk_cell BK568.out 1).trans rfl
                           have hfz49_0 := blk_frozen BK568.out 0
                           have hfz49_1 := blk_frozen BK568.out 1
                           have hcz50_0 : wc.cell? ⟨gb581, 0, none⟩ = some (.int .i64 ((rd_T56 y573 x32_3).f0)) := (blk_cell BK581.out 0).trans rfl
                           have hcz50_1 : wc.cell? ⟨gb581, 1, none⟩ = some (.int .i64 ((rd_T56 y573 x32_3).f1)) := (blk_cell BK581.out 1).trans rfl
                           have hcz50_2 : wc.cell? ⟨gb581, 2, none⟩ = some (.int .i64 ((rd_T56 y573 x32_3).f2)) := (blk_cell BK581.out 2).trans rfl
                           have hfz50_0 := blk_frozen BK581.out 0
                           have hfz50_1 := blk_frozen BK581.out 1
                           have hfz50_2 := blk_frozen BK581.out 2
                           have p583 : 0 ≤ (((rd_T56 y573 x32_3).f1) : Int) := of_decide_eq_true (by first | (with_reducible assumption) | assumption)
                           have q583 : ((rd_T56 y573 x32_3).f1) < (l0_1.length : Int) := of_decide_eq_true (by first | (with_reducible assumption) | assumption)
                           obtain ⟨ad583, e583, hx583_0, hx583_1⟩ := at_T88 HR0_1.out ((rd_T56 y573 x32_3).f1) p583 q583
                           cases e583
                           replace hx583_0 := (HB.out.cell (World.block_lt_of_cell? w _ hx583_0)).trans hx583_0
                           replace hx583_1 := (HB.out.cell (World.block_lt_of_cell? w _ hx583_1)).trans hx583_1
                           replace p583 := eq_true p583
                           replace q583 := eq_true q583
                           try go_wp2_with (first | ((with_reducible refine gate_dst (N := 10) rfl ?_); (try (refine gate_guard (by rfl) ?_; dsimp only)); refine box_event ?hg (N := 10) ?hd (cs := #[.int .i64 0, .int .i64 0]) (t := 88) ?hr ?_; (case hd => rfl); (case hg => rfl); (case hr => first | (go_simp; done) | (go_simp; rfl)); intro gb584 hg w51 hbox hb; have n0_ := Aside0.mk (Kd.S_below (by (with_reducible repeat (first | apply Kd.S_alloc | apply Kd.S_drewN | apply Kd.S_drew)); exact HO_5.out) hb); have n1_ := Aside0.mk (Kd.R_below (by (with_reducible repeat (first | apply Kd.R_alloc | apply Kd.R_drewN | apply Kd.R_drew)); exact HO_7.out) hb); have n2_ := Aside0.mk (blk_below (g := gb568) (o := .cells #[.int .i64 a0_0, .slice (some ad583) l0_1.length c0_1] 30 (0, 0)) (by (with_reducible repeat (first | refine blk_drewN ?_ _ | refine blk_drew ?_ | refine blk_alloc ?_ _)); exact BK568.out) hb); have n3_ := Aside0.mk (blk_below (g := gb581) (o := .cells #[.int .i64 ((rd_T56 y573 x32_3).f0), .int .i64 ((rd_T56 y573 x32_3).f1), .int .i64 ((rd_T56 y573 x32_3).f2)] 56 (0, 0)) (by (with_reducible repeat (first | refine blk_drewN ?_ _ | refine blk_drew ?_ | refine blk_alloc ?_ _)); exact BK581.out) hb); have n4_ := Aside0.mk (below_step (by repeat (first | (with_reducible first | exact HB.out | apply below_alloc | apply pw_below_drewN | apply below_drew1 | refine below_set ?_ GE568.out | refine below_set ?_ GE581.out) | exact HB.out)) hb); have n5_ := Aside0.mk (hbox); have n6_ := Aside0.mk ((by rw [hg]; exact (below_size (by repeat (first | (with_reducible first | exact HB.out | apply below_alloc | apply pw_below_drewN | apply below_drew1 | refine below_set ?_ GE568.out | refine below_set ?_ GE581.out) | exact HB.out))) : w.heap.size ≤ gb584)); have n7_ := Aside0.mk ((by rw [hg]; exact (below_size (by repeat (first | (with_reducible first | exact HB.out | apply below_alloc | apply pw_below_drewN | apply below_drew1 | refine below_set ?_ GE568.out | refine below_set ?_ GE581.out) | exact HB.out))) : w.heap.size ≤ gb584)); have n8_ := Aside0.mk ((by rw [hg]; exact Nat.ne_of_lt (blk_lt (g := gb568) (o := .cells #[.int .i64 a0_0, .slice (some ad583) l0_1.length c0_1] 30 (0, 0)) (by (with_reducible repeat (first | refine blk_drewN ?_ _ | refine blk_drew ?_ | refine blk_alloc ?_ _)); exact BK568.out)) : gb568 ≠ gb584)); have n9_ := Aside0.mk ((by rw [hg]; exact Nat.ne_of_gt (blk_lt (g := gb568) (o := .cells #[.int .i64 a0_0, .slice (some ad583) l0_1.length c0_1] 30 (0, 0)) (by (with_reducible repeat (first | refine blk_drewN ?_ _ | refine blk_drew ?_ | refine blk_alloc ?_ _)); exact BK568.out)) : gb584 ≠ gb568)); have n10_ := Aside0.mk ((by rw [hg]; exact Nat.ne_of_lt (blk_lt (g := gb581) (o := .cells #[.int .i64 ((rd_T56 y573 x32_3).f0), .int .i64 ((rd_T56 y573 x32_3).f1), .int .i64 ((rd_T56 y573 x32_3).f2)] 56 (0, 0)) (by (with_reducible repeat (first | refine blk_drewN ?_ _ | refine blk_drew ?_ | refine blk_alloc ?_ _)); exact BK581.out)) : gb581 ≠ gb584)); have n11_ := Aside0.mk ((by rw [hg]; exact Nat.ne_of_gt (blk_lt (g := gb581) (o := .cells #[.int .i64 ((rd_T56 y573 x32_3).f0), .int .i64 ((rd_T56 y573 x32_3).f1), .int .i64 ((rd_T56 y573 x32_3).f2)] 56 (0, 0)) (by (with_reducible repeat (first | refine blk_drewN ?_ _ | refine blk_drew ?_ | refine blk_alloc ?_ _)); exact BK581.out)) : gb584 ≠ gb581)); clear HO_5; clear HO_7; clear BK568; clear BK581; clear HB; have HO_5 := n0_; have HO_7 := n1_; have BK568 := n2_; have BK581 := n3_; have HB := n4_; have BK584 := n5_; have GW584 := n6_; have GE584 := n7_; have NB568_584 := n8_; have NB584_568 := n9_; have NB581_584 := n10_; have NB584_581 := n11_; clear n0_ n1_ n2_ n3_ n4_ n5_ n6_ n7_ n8_ n9_ n10_ n11_; clear hb hbox hg; have hnb52 := NB584_568.out; have hnc52 := NB568_584.out; have hnb53 := NB584_581.out; have hnc53 := NB581_584.out; have hcz54_0 : w51.cell? ⟨gb584, 0, none⟩ = some (.int .i64 0) := (blk_cell BK584.out 0).trans rfl; have hcz54_1 : w51.cell? ⟨gb584, 1, none⟩ = some (.int .i64 0) := (blk_cell BK584.out 1).trans rfl; have hfz54_0 := blk_frozen BK584.out 0; have hfz54_1 := blk_frozen BK584.out 1))
                           have n0_ : Aside0 (Kd.S (Kd.slice 3 (Kd.int .i64)) 59 ((w51.setCell ⟨gb584, 0, none⟩ (.int .i64 ((rd_T88 l0_1 ((rd_T56 y573 x32_3).f1)).f0))).setCell ⟨gb584, 1, none⟩ (.int .i64 ((rd_T88 l0_1 ((rd_T56 y573 x32_3).f1)).f1))) w.heap.size (fun k_ => some k_ ≠ (v571 : Value).ownBlock) u5 x5_2) := ⟨by (with_reducible repeat (first | apply Kd.S_alloc | apply Kd.S_drewN | apply Kd.S_drew)); exact Kd.S_mono (Kd.S_far (p := ⟨gb584, 1, none⟩) (Kd.S_far (p := ⟨gb584, 0, none⟩) (Kd.S_types HO_5.out BK584.out (by decide)) (fun _ hk => hk.2) (.int .i64 ((rd_T88 l0_1 ((rd_T56 y573 x32_3).f1)).f0))) (fun _ hk => hk.2) (.int .i64 ((rd_T88 l0_1 ((rd_T56 y573 x32_3).f1)).f1))) (fun _ hk => hk.1)⟩
                           have n1_ : Aside0 (Kd.R (Kd.int .i64) 3 ((w51.setCell ⟨gb584, 0, none⟩ (.int .i64 ((rd_T88 l0_1 ((rd_T56 y573 x32_3).f1)).f0))).setCell ⟨gb584, 1, none⟩ (.int .i64 ((rd_T88 l0_1 ((rd_T56 y573 x32_3).f1)).f1))) w.heap.size (fun _ => True) v571 x7_3) := ⟨by (with_reducible repeat (first | apply Kd.R_alloc | apply Kd.R_drewN | apply Kd.R_drew)); exact Kd.R_mono (Kd.R_far (p := ⟨gb584, 1, none⟩) (Kd.R_far (p := ⟨gb584, 0, none⟩) (Kd.R_types HO_7.out BK584.out (by decide)) (fun _ hk => hk.2) (.int .i64 ((rd_T88 l0_1 ((rd_T56 y573 x32_3).f1)).f0))) (fun _ hk => hk.2) (.int .i64 ((rd_T88 l0_1 ((rd_T56 y573 x32_3).f1)).f1))) (fun _ hk => trivial)⟩
                           have n2_ : Aside0 (((w51.setCell ⟨gb584, 0, none⟩ (.int .i64 ((rd_T88 l0_1 ((rd_T56 y573 x32_3).f1)).f0))).setCell ⟨gb584, 1, none⟩ (.int .i64 ((rd_T88 l0_1 ((rd_T56 y573 x32_3).f1)).f1))).heap[gb568]? = some (.cells #[.int .i64 a0_0, .slice (some ad583) l0_1.length c0_1] 30 (0, 0))) := ⟨by (with_reducible repeat (first | refine blk_drewN ?_ _ | refine blk_drew ?_ | refine blk_alloc ?_ _)); refine blk_far ?_ NB568_584.out _; (with_reducible repeat (first | refine blk_drewN ?_ _ | refine blk_drew ?_ | refine blk_alloc ?_ _)); refine blk_far ?_ NB568_584.out _; (with_reducible repeat (first | refine blk_drewN ?_ _ | refine blk_drew ?_ | refine blk_alloc ?_ _)); exact BK568.out⟩
                           have n3_ : Aside0 (((w51.setCell ⟨gb584, 0, none⟩ (.int .i64 ((rd_T88 l0_1 ((rd_T56 y573 x32_3).f1)).f0))).setCell ⟨gb584, 1, none⟩ (.int .i64 ((rd_T88 l0_1 ((rd_T56 y573 x32_3).f1)).f1))).heap[gb581]? = some (.cells #[.int .i64 ((rd_T56 y573 x32_3).f0), .int .i64 ((rd_T56 y573 x32_3).f1), .int .i64 ((rd_T56 y573 x32_3).f2)] 56 (0, 0))) := ⟨by (with_reducible repeat (first | refine blk_drewN ?_ _ | refine blk_drew ?_ | refine blk_alloc ?_ _)); refine blk_far ?_ NB581_584.out _; (with_reducible repeat (first | refine blk_drewN ?_ _ | refine blk_drew ?_ | refine blk_alloc ?_ _)); refine blk_far ?_ NB581_584.out _; (with_reducible repeat (first | refine blk_drewN ?_ _ | refine blk_drew ?_ | refine blk_alloc ?_ _)); exact BK581.out⟩
                           have n4_ : Aside0 (((w51.setCell ⟨gb584, 0, none⟩ (.int .i64 ((rd_T88 l0_1 ((rd_T56 y573 x32_3).f1)).f0))).setCell ⟨gb584, 1, none⟩ (.int .i64 ((rd_T88 l0_1 ((rd_T56 y573 x32_3).f1)).f1))).heap[gb584]? = some (.cells #[.int .i64 ((rd_T88 l0_1 ((rd_T56 y573 x32_3).f1)).f0), .int .i64 ((rd_T88 l0_1 ((rd_T56 y573 x32_3).f1)).f1)] 88 (0, 0))) := ⟨by (with_reducible repeat (first | refine blk_drewN ?_ _ | refine blk_drew ?_ | refine blk_alloc ?_ _)); refine blk_put (cs := #[.int .i64 ((rd_T88 l0_1 ((rd_T56 y573 x32_3).f1)).f0), .int .i64 0]) ?_ 1 _ rfl; (with_reducible repeat (first | refine blk_drewN ?_ _ | refine blk_drew ?_ | refine blk_alloc ?_ _)); refine blk_put (cs := #[.int .i64 0, .int .i64 0]) ?_ 0 _ rfl; (with_reducible repeat (first | refine blk_drewN ?_ _ | refine blk_drew ?_ | refine blk_alloc ?_ _)); exact BK584.out⟩
                           have n5_ : Aside0 (Below w.heap.size w ((w51.setCell ⟨gb584, 0, none⟩ (.int .i64 ((rd_T88 l0_1 ((rd_T56 y573 x32_3).f1)).f0))).setCell ⟨gb584, 1, none⟩ (.int .i64 ((rd_T88 l0_1 ((rd_T56 y573 x32_3).f1)).f1)))) := ⟨by repeat (first | (with_reducible first | exact HB.out | apply below_alloc | apply pw_below_drewN | apply below_drew1 | refine below_set ?_ GE568.out | refine below_set ?_ GE581.out | refine below_set ?_ GE584.out) | exact HB.out)⟩
                           (try clear HO_5)
                           (try clear HO_7)
                           (try clear BK568)
                           (try clear BK581)
                           (try clear BK584)
                           (try clear HB)
                           generalize ((w51.setCell ⟨gb584, 0, none⟩ (.int .i64 ((rd_T88 l0_1 ((rd_T56 y573 x32_3).f1)).f0))).setCell ⟨gb584, 1, none⟩ (.int .i64 ((rd_T88 l0_1 ((rd_T56 y573 x32_3).f1)).f1))) = w55 at n0_ n1_ n2_ n3_ n4_ n5_ ⊢
                           have HO_5 := n0_
                           have HO_7 := n1_
                           have BK568 := n2_
                           have BK581 := n3_
                           have BK584 := n4_
                           have HB := n5_
                           clear n0_ n1_ n2_ n3_ n4_ n5_
                           have n0_ := Aside0.mk (Kd.S_drew HO_5.out)
                           have n1_ := Aside0.mk (Kd.R_drew HO_7.out)
                           have n2_ := Aside0.mk (blk_drew BK568.out)
                           have n3_ := Aside0.mk (blk_drew BK581.out)
                           have n4_ := Aside0.mk (blk_drew BK584.out)
                           have n5_ := Aside0.mk (below_drew1 HB.out)
                           clear HO_5
                           clear HO_7
                           clear BK568
                           clear BK581
                           clear BK584
                           clear HB
                           have HO_5 := n0_
                           have HO_7 := n1_
                           have BK568 := n2_
                           have BK581 := n3_
                           have BK584 := n4_
                           have HB := n5_
                           clear n0_ n1_ n2_ n3_ n4_ n5_
                           obtain ⟨Ao57, co57, eo57⟩ := Kd.R_slice HO_7.out
                           (first | subst eo57 | (injection eo57 with f1_ f2_ f3_; have f4_ := f1_.symm; have f5_ := f3_.symm; clear f1_ f2_ f3_; subst f4_; subst f5_))
                           have p585 : 0 ≤ (((rd_T88 l0_1 ((rd_T56 y573 x32_3).f1)).f0) : Int) := of_decide_eq_true (by first | (with_reducible assumption) | assumption)
                           have q585 : ((rd_T88 l0_1 ((rd_T56 y573 x32_3).f1)).f0) < (x7_3.length : Int) := of_decide_eq_true (by first | (with_reducible assumption) | assumption)
                           obtain ⟨ad585, e585, hx585_0⟩ := Kd.at_int (Kd.R_reads' HO_7.out).2.2 ((rd_T88 l0_1 ((rd_T56 y573 x32_3).f1)).f0) p585 q585
                           cases e585
                           replace p585 := eq_true p585
                           replace q585 := eq_true q585
                           have p43 : 0 ≤ (((rd_T88 l0_1 ((rd_T56 y573 x32_3).f1)).f0) : Int) := of_decide_eq_true (by first | (with_reducible assumption) | assumption)
                           have q43 : (((rd_T88 l0_1 ((rd_T56 y573 x32_3).f1)).f0) : Int) < ((x7_3.length : Int) : Int) := of_decide_eq_true (by first | (with_reducible assumption) | assumption)
                           obtain ⟨go43, co43, eo43, gb43, gl43, cl43, HG43⟩ := Kd.R_form HO_7.out (by omega)
                           (first | cases eo43 | (injection eo43 with ea_ en_ ec_; (first | subst ea_ | (injection ea_ with ea_; subst ea_)); subst ec_; clear en_))
                           have GB43 := Aside0.mk gb43
                           have GG43 := Aside0.mk HG43
                           clear gb43 gl43 HG43
                           (first | simp only [add_plain] at hx585_0 | skip)
                           obtain ⟨hx43_0, hf43_0⟩ := Kd.R_celln 0 HO_7.out (((rd_T88 l0_1 ((rd_T56 y573 x32_3).f1)).f0) : Int) p43 q43
                           replace p43 := eq_true p43
                           replace q43 := eq_true q43
                           have HP58 := Kd.R_putn HO_7.out (((rd_T88 l0_1 ((rd_T56 y573 x32_3).f1)).f0) : Int) (wrap64 ((rd x7_3 ((rd_T88 l0_1 ((rd_T56 y573 x32_3).f1)).f0)) - ((rd_T56 y573 x32_3).f2)))
                           rw [← Ny586.out] at HP58
                           have HQ58 := Aside0.mk HP58
                           clear HP58
                           refine start_ (n := 10) (S := fun w' => w'.cell? ⟨gb584, 0, none⟩ = some (.int .i64 ((rd_T88 l0_1 ((rd_T56 y573 x32_3).f1)).f0)) ∧ w'.cell? ⟨gb584, 1, none⟩ = some (.int .i64 ((rd_T88 l0_1 ((rd_T56 y573 x32_3).f1)).f1)) ∧ w'.cell? ⟨gb581, 0, none⟩ = some (.int .i64 ((rd_T56 y573 x32_3).f0)) ∧ w'.cell? ⟨gb581, 1, none⟩ = some (.int .i64 ((rd_T56 y573 x32_3).f1)) ∧ w'.cell? ⟨gb581, 2, none⟩ = some (.int .i64 ((rd_T56 y573 x32_3).f2)) ∧ w'.cell? ⟨go43, (((rd_T88 l0_1 ((rd_T56 y573 x32_3).f1)).f0)).toNat, none⟩ = some (.int .i64 (rd x7_3 ((rd_T88 l0_1 ((rd_T56 y573 x32_3).f1)).f0)))) (ds := [9]) #[false, false, false, false, false, false, false, false, false, false] (by kernel_rfl) rfl rfl ⟨(blk_cell BK584.out 0).trans rfl, (blk_cell BK584.out 1).trans rfl, (blk_cell BK581.out 0).trans rfl, (blk_cell BK581.out 1).trans rfl, (blk_cell BK581.out 2).trans rfl, hx585_0⟩ (fun hHeld => ?_); refine with_tabW spec_Truth.tab14 spec_Truth.bits14 (fun HT_ HW_ => ?_)
                           generalize w55.drew = w56 at HO_5 HO_7 BK568 BK581 BK584 HB GG43 HQ58 hf43_0 hx43_0 hx585_0 hHeld ⊢
                           refine pure_ (i := 0) (N := some 54) (v := ?_) (a' := ?_) #[true, false, false, false, false, false, false, false, false, false] rfl rfl (any_of HT_.out (by kernel_rfl)) (fun _ _ _ h => h) (Or.inl ⟨by rfl, ?_⟩) ?_ ?_
                           rotate_left
                           ·intro w'
                            go_simp
                            with_reducible rfl
                           rotate_left
                           ·simp only [Act.put, List.setIfInBounds_toArray, List.set_cons_zero, List.set_cons_succ, i64_w, i32_w]
                            rfl
                           refine pure_ (i := 1) (N := some 55) (v := ?_) (a' := ?_) #[true, true, false, false, false, false, false, false, false, false] rfl rfl (any_of HT_.out (by kernel_rfl)) (fun _ _ _ h => h) (Or.inl ⟨by rfl, ?_⟩) ?_ ?_
                           rotate_left
                           ·intro w'
                            go_simp
                            with_reducible rfl
                           rotate_left
                           ·simp only [Act.put, List.setIfInBounds_toArray, List.set_cons_zero, List.set_cons_succ, i64_w, i32_w]
                            rfl
                           refine pure_ (i := 5) (N := some 59) (v := ?_) (a' := ?_) #[true, true, false, false, false, true, false, false, false, false] rfl rfl (any_of HT_.out (by kernel_rfl)) (fun _ _ _ h => h) (Or.inl ⟨by rfl, ?_⟩) ?_ ?_
                           rotate_left
                           ·intro w'
                            go_simp
                            with_reducible rfl
                           rotate_left
                           ·simp only [Act.put, List.setIfInBounds_toArray, List.set_cons_zero, List.set_cons_succ, i64_w, i32_w]
                            rfl
                           refine take_ (i := 2) (N := some 56) (v := ?_) (a' := ?_) #[true, true, true, false, false, true, false, false, false, false] rfl rfl (take_ofW HT_.out HW_.out (by kernel_rfl)) (fun _ _ _ h => h) (Or.inl ⟨by rfl, ?_⟩) hHeld ?_ ?_
                           rotate_left
                           ·rintro w' ⟨s0, s1, s2, s3, s4, s5⟩
                            go_simp
                            with_reducible rfl
                           rotate_left
                           ·simp only [Act.put, List.setIfInBounds_toArray, List.set_cons_zero, List.set_cons_succ, i64_w, i32_w]
                            rfl
                           refine pure_ (i := 3) (N := some 57) (v := ?_) (a' := ?_) #[true, true, true, true, false, true, false, false, false, false] rfl rfl (any_of HT_.out (by kernel_rfl)) (fun _ _ _ h => h) (Or.inl ⟨by rfl, ?_⟩) ?_ ?_
                           rotate_left
                           ·intro w'
                            go_simp
                            with_reducible rfl
                           rotate_left
                           ·simp only [Act.put, List.setIfInBounds_toArray, List.set_cons_zero, List.set_cons_succ, i64_w, i32_w]
                            rfl
                           refine take_ (i := 4) (N := some 58) (v := ?_) (a' := ?_) #[true, true, true, true, true, true, false, false, false, false] rfl rfl (take_ofW HT_.out HW_.out (by kernel_rfl)) (fun _ _ _ h => h) (Or.inl ⟨by rfl, ?_⟩) hHeld ?_ ?_
                           rotate_left
                           ·rintro w' ⟨s0, s1, s2, s3, s4, s5⟩
                            go_simp
                            with_reducible rfl
                           rotate_left
                           ·simp only [Act.put, List.setIfInBounds_toArray, List.set_cons_zero, List.set_cons_succ, i64_w, i32_w]
                            rfl
                           refine take_ (i := 6) (N := some 60) (v := ?_) (a' := ?_) #[true, true, true, true, true, true, true, false, false, false] rfl rfl (take_ofW HT_.out HW_.out (by kernel_rfl)) (fun _ _ _ h => h) (Or.inl ⟨by rfl, ?_⟩) hHeld ?_ ?_
                           rotate_left
                           ·rintro w' ⟨s0, s1, s2, s3, s4, s5⟩
                            go_simp
                            with_reducible rfl
                           rotate_left
                           ·simp only [Act.put, List.setIfInBounds_toArray, List.set_cons_zero, List.set_cons_succ, i64_w, i32_w]
                            rfl
                           refine pure_ (i := 7) (N := some 61) (v := ?_) (a' := ?_) #[true, true, true, true, true, true, true, true, false, false] rfl rfl (any_of HT_.out (by kernel_rfl)) (fun _ _ _ h => h) (Or.inl ⟨by rfl, ?_⟩) ?_ ?_
                           rotate_left
                           ·intro w'
                            go_simp
                            with_reducible rfl
                           rotate_left
                           ·simp only [Act.put, List.setIfInBounds_toArray, List.set_cons_zero, List.set_cons_succ, i64_w, i32_w]
                            rfl
                           refine pure_ (i := 8) (N := some 62) (v := ?_) (a' := ?_) #[true, true, true, true, true, true, true, true, true, false] rfl rfl (any_of HT_.out (by kernel_rfl)) (fun _ _ _ h => h) (Or.inl ⟨by rfl, ?_⟩) ?_ ?_
                           rotate_left
                           ·intro w'
                            go_simp
                            with_reducible rfl
                           rotate_left
                           ·simp only [Act.put, List.setIfInBounds_toArray, List.set_cons_zero, List.set_cons_succ, i64_w, i32_w]
                            rfl
                           refine last_ (i := 9) (N := none) #[true, true, true, true, true, true, true, true, true, true] rfl rfl (one_of HT_.out (by kernel_rfl)) (by decide) (fun K hK => ?_)
                           refine skip_ (w1 := ?_) (by rfl) rfl ?_ ?_
                           rotate_left
                           ·go_simp
                            rfl
                           refine hK.out _ _ ?_
                           clear hK K
                           refine done_ (done_of HT_.out (by kernel_rfl)) ?_
                           have hnx_ : gb584 ≠ go43 := (by have h_ := Kd.R_ne HO_7.out BK584.out (by decide); intro e_; exact h_ (by rw [e_]; rfl))
                           have hny_ : go43 ≠ gb584 := fun e_ => hnx_ e_.symm
                           have hcz59_0 : w56.cell? ⟨gb584, 0, none⟩ = some (.int .i64 ((rd_T88 l0_1 ((rd_T56 y573 x32_3).f1)).f0)) := (blk_cell BK584.out 0).trans rfl
                           have hcz59_1 : w56.cell? ⟨gb584, 1, none⟩ = some (.int .i64 ((rd_T88 l0_1 ((rd_T56 y573 x32_3).f1)).f1)) := (blk_cell BK584.out 1).trans rfl
                           have hfz59_0 := blk_frozen BK584.out 0
                           have hfz59_1 := blk_frozen BK584.out 1
                           try go_wp2
                           have n0_ : Aside0 (Kd.S (Kd.slice 3 (Kd.int .i64)) 59 (w56.setCell ⟨go43, (((rd_T88 l0_1 ((rd_T56 y573 x32_3).f1)).f0) : Int).toNat, none⟩ (.int .i64 (wrap64 ((rd x7_3 ((rd_T88 l0_1 ((rd_T56 y573 x32_3).f1)).f0)) - ((rd_T56 y573 x32_3).f2))))) w.heap.size (fun k_ => some k_ ≠ (.slice (some ⟨go43, 0, none⟩) x7_3.length co57 : Value).ownBlock) u5 x5_2) := ⟨by (with_reducible repeat (first | apply Kd.S_alloc | apply Kd.S_drewN | apply Kd.S_drew)); exact Kd.S_mono (Kd.S_far (p := ⟨go43, (((rd_T88 l0_1 ((rd_T56 y573 x32_3).f1)).f0) : Int).toNat, none⟩) (Kd.S_mono HO_5.out (fun k_ hk => (⟨hk, fun e_ => hk (by rw [e_]; rfl)⟩ : _ ∧ k_ ≠ go43))) (fun _ hk => hk.2) (.int .i64 (wrap64 ((rd x7_3 ((rd_T88 l0_1 ((rd_T56 y573 x32_3).f1)).f0)) - ((rd_T56 y573 x32_3).f2))))) (fun _ hk => hk.1)⟩
                           have n1_ : Aside0 (Kd.R (Kd.int .i64) 3 (w56.setCell ⟨go43, (((rd_T88 l0_1 ((rd_T56 y573 x32_3).f1)).f0) : Int).toNat, none⟩ (.int .i64 (wrap64 ((rd x7_3 ((rd_T88 l0_1 ((rd_T56 y573 x32_3).f1)).f0)) - ((rd_T56 y573 x32_3).f2))))) w.heap.size (fun _ => True) (.slice (some ⟨go43, 0, none⟩) x7_3.length co57) y586) := ⟨by (with_reducible repeat (first | apply Kd.R_alloc | apply Kd.R_drewN | apply Kd.R_drew)); exact HQ58.out⟩
                           have n2_ : Aside0 ((w56.setCell ⟨go43, (((rd_T88 l0_1 ((rd_T56 y573 x32_3).f1)).f0) : Int).toNat, none⟩ (.int .i64 (wrap64 ((rd x7_3 ((rd_T88 l0_1 ((rd_T56 y573 x32_3).f1)).f0)) - ((rd_T56 y573 x32_3).f2))))).heap[gb568]? = some (.cells #[.int .i64 a0_0, .slice (some ad583) l0_1.length c0_1] 30 (0, 0))) := ⟨by (with_reducible repeat (first | refine blk_drewN ?_ _ | refine blk_drew ?_ | refine blk_alloc ?_ _)); refine blk_far ?_ (by have h_ := Kd.R_ne HO_7.out BK568.out (by decide); intro e_; exact h_ (by rw [e_]; rfl)) _; (with_reducible repeat (first | refine blk_drewN ?_ _ | refine blk_drew ?_ | refine blk_alloc ?_ _)); exact BK568.out⟩
                           have n3_ : Aside0 ((w56.setCell ⟨go43, (((rd_T88 l0_1 ((rd_T56 y573 x32_3).f1)).f0) : Int).toNat, none⟩ (.int .i64 (wrap64 ((rd x7_3 ((rd_T88 l0_1 ((rd_T56 y573 x32_3).f1)).f0)) - ((rd_T56 y573 x32_3).f2))))).heap[gb581]? = some (.cells #[.int .i64 ((rd_T56 y573 x32_3).f0), .int .i64 ((rd_T56 y573 x32_3).f1), .int .i64 ((rd_T56 y573 x32_3).f2)] 56 (0, 0))) := ⟨by (with_reducible repeat (first | refine blk_drewN ?_ _ | refine blk_drew ?_ | refine blk_alloc ?_ _)); refine blk_far ?_ (by have h_ := Kd.R_ne HO_7.out BK581.out (by decide); intro e_; exact h_ (by rw [e_]; rfl)) _; (with_reducible repeat (first | refine blk_drewN ?_ _ | refine blk_drew ?_ | refine blk_alloc ?_ _)); exact BK581.out⟩
                           have n4_ : Aside0 ((w56.setCell ⟨go43, (((rd_T88 l0_1 ((rd_T56 y573 x32_3).f1)).f0) : Int).toNat, none⟩ (.int .i64 (wrap64 ((rd x7_3 ((rd_T88 l0_1 ((rd_T56 y573 x32_3).f1)).f0)) - ((rd_T56 y573 x32_3).f2))))).heap[gb584]? = some (.cells #[.int .i64 ((rd_T88 l0_1 ((rd_T56 y573 x32_3).f1)).f0), .int .i64 ((rd_T88 l0_1 ((rd_T56 y573 x32_3).f1)).f1)] 88 (0, 0))) := ⟨by (with_reducible repeat (first | refine blk_drewN ?_ _ | refine blk_drew ?_ | refine blk_alloc ?_ _)); refine blk_far ?_ (by have h_ := Kd.R_ne HO_7.out BK584.out (by decide); intro e_; exact h_ (by rw [e_]; rfl)) _; (with_reducible repeat (first | refine blk_drewN ?_ _ | refine blk_drew ?_ | refine blk_alloc ?_ _)); exact BK584.out⟩
                           have n5_ : Aside0 (Below w.heap.size w (w56.setCell ⟨go43, (((rd_T88 l0_1 ((rd_T56 y573 x32_3).f1)).f0) : Int).toNat, none⟩ (.int .i64 (wrap64 ((rd x7_3 ((rd_T88 l0_1 ((rd_T56 y573 x32_3).f1)).f0)) - ((rd_T56 y573 x32_3).f2)))))) := ⟨by repeat (first | (with_reducible first | exact HB.out | apply below_alloc | apply pw_below_drewN | apply below_drew1 | refine below_set ?_ GB43.out | refine below_set ?_ GE568.out | refine below_set ?_ GE581.out | refine below_set ?_ GE584.out) | exact HB.out)⟩
                           (try clear HO_5)
                           (try clear HO_7)
                           (try clear BK568)
                           (try clear BK581)
                           (try clear BK584)
                           (try clear HB)
                           generalize (w56.setCell ⟨go43, (((rd_T88 l0_1 ((rd_T56 y573 x32_3).f1)).f0) : Int).toNat, none⟩ (.int .i64 (wrap64 ((rd x7_3 ((rd_T88 l0_1 ((rd_T56 y573 x32_3).f1)).f0)) - ((rd_T56 y573 x32_3).f2))))) = w60 at n0_ n1_ n2_ n3_ n4_ n5_ ⊢
                           have HO_5 := n0_
                           have HO_7 := n1_
                           have BK568 := n2_
                           have BK581 := n3_
                           have BK584 := n4_
                           have HB := n5_
                           clear n0_ n1_ n2_ n3_ n4_ n5_
                           have n0_ := Aside0.mk (Kd.S_drew HO_5.out)
                           have n1_ := Aside0.mk (Kd.R_drew HO_7.out)
                           have n2_ := Aside0.mk (blk_drew BK568.out)
                           have n3_ := Aside0.mk (blk_drew BK581.out)
                           have n4_ := Aside0.mk (blk_drew BK584.out)
                           have n5_ := Aside0.mk (below_drew1 HB.out)
                           clear HO_5
                           clear HO_7
                           clear BK568
                           clear BK581
                           clear BK584
                           clear HB
                           have HO_5 := n0_
                           have HO_7 := n1_
                           have BK568 := n2_
                           have BK581 := n3_
                           have BK584 := n4_
                           have HB := n5_
                           clear n0_ n1_ n2_ n3_ n4_ n5_
                           have p587 : 0 ≤ (((rd_T88 l0_1 ((rd_T56 y573 x32_3).f1)).f1) : Int) := of_decide_eq_true (by first | (with_reducible assumption) | assumption)
                           have q587 : ((rd_T88 l0_1 ((rd_T56 y573 x32_3).f1)).f1) < (y586.length : Int) := (by have h_ : (((rd_T88 l0_1 ((rd_T56 y573 x32_3).f1)).f1) : Int) < ((x7_3.length : Int) : Int) := of_decide_eq_true (by first | (with_reducible assumption) | assumption); first | (have e_ := (Kd.R_reads' HO_7.out).1; omega) | simpa only [Ny586.out, List.length_set] using h_)
                           have ql587 : ((((rd_T88 l0_1 ((rd_T56 y573 x32_3).f1)).f1) : Int) < ((x7_3.length : Int) : Int)) = True := eq_true (of_decide_eq_true (by first | (with_reducible assumption) | assumption))
                           obtain ⟨ad587, e587, hx587_0⟩ := Kd.at_int (Kd.R_reads' HO_7.out).2.2 ((rd_T88 l0_1 ((rd_T56 y573 x32_3).f1)).f1) p587 q587
                           obtain rfl : (⟨go43, 0, none⟩ : Addr) = ad587 := (by injection e587)
                           (first | simp only [add_plain] at hx587_0 | simp only [add_at] at hx587_0 | simp only [Addr.add, Nat.zero_add] at hx587_0 | skip)
                           replace p587 := eq_true p587
                           replace q587 := eq_true q587
                           have p47 : 0 ≤ (((rd_T88 l0_1 ((rd_T56 y573 x32_3).f1)).f1) : Int) := of_decide_eq_true (by first | (with_reducible assumption) | assumption)
                           have q47 : (((rd_T88 l0_1 ((rd_T56 y573 x32_3).f1)).f1) : Int) < ((x7_3.length : Int) : Int) := of_decide_eq_true (by first | (with_reducible assumption) | assumption)
                           obtain ⟨hx47_0, hf47_0⟩ := Kd.R_celln 0 HO_7.out (((rd_T88 l0_1 ((rd_T56 y573 x32_3).f1)).f1) : Int) p47 q47
                           replace p47 := eq_true p47
                           replace q47 := eq_true q47
                           have HP62 := Kd.R_putn HO_7.out (((rd_T88 l0_1 ((rd_T56 y573 x32_3).f1)).f1) : Int) (wrap64 ((rd y586 ((rd_T88 l0_1 ((rd_T56 y573 x32_3).f1)).f1)) + ((rd_T56 y573 x32_3).f2)))
                           rw [← Ny588.out] at HP62
                           have HQ62 := Aside0.mk HP62
                           clear HP62
                           refine start_ (n := 10) (S := fun w' => w'.cell? ⟨gb584, 0, none⟩ = some (.int .i64 ((rd_T88 l0_1 ((rd_T56 y573 x32_3).f1)).f0)) ∧ w'.cell? ⟨gb584, 1, none⟩ = some (.int .i64 ((rd_T88 l0_1 ((rd_T56 y573 x32_3).f1)).f1)) ∧ w'.cell? ⟨gb581, 0, none⟩ = some (.int .i64 ((rd_T56 y573 x32_3).f0)) ∧ w'.cell? ⟨gb581, 1, none⟩ = some (.int .i64 ((rd_T56 y573 x32_3).f1)) ∧ w'.cell? ⟨gb581, 2, none⟩ = some (.int .i64 ((rd_T56 y573 x32_3).f2)) ∧ w'.cell? ⟨go43, (((rd_T88 l0_1 ((rd_T56 y573 x32_3).f1)).f1)).toNat, none⟩ = some (.int .i64 (rd y586 ((rd_T88 l0_1 ((rd_T56 y573 x32_3).f1)).f1)))) (ds := [9]) #[false, false, false, false, false, false, false, false, false, false] (by kernel_rfl) rfl rfl ⟨(blk_cell BK584.out 0).trans rfl, (blk_cell BK584.out 1).trans rfl, (blk_cell BK581.out 0).trans rfl, (blk_cell BK581.out 1).trans rfl, (blk_cell BK581.out 2).trans rfl, hx587_0⟩ (fun hHeld => ?_); refine with_tabW spec_Truth.tab16 spec_Truth.bits16 (fun HT_ HW_ => ?_)
                           generalize w60.drew = w61 at HO_5 HO_7 BK568 BK581 BK584 HB HQ58 HQ62 hf47_0 hx47_0 hx587_0 hHeld ⊢
                           refine pure_ (i := 0) (N := some 66) (v := ?_) (a' := ?_) #[true, false, false, false, false, false, false, false, false, false] rfl rfl (any_of HT_.out (by kernel_rfl)) (fun _ _ _ h => h) (Or.inl ⟨by rfl, ?_⟩) ?_ ?_
                           rotate_left
                           ·intro w'
                            go_simp
                            with_reducible rfl
                           rotate_left
                           ·simp only [Act.put, List.setIfInBounds_toArray, List.set_cons_zero, List.set_cons_succ, i64_w, i32_w]
                            rfl
                           refine pure_ (i := 1) (N := some 67) (v := ?_) (a' := ?_) #[true, true, false, false, false, false, false, false, false, false] rfl rfl (any_of HT_.out (by kernel_rfl)) (fun _ _ _ h => h) (Or.inl ⟨by rfl, ?_⟩) ?_ ?_
                           rotate_left
                           ·intro w'
                            go_simp
                            with_reducible rfl
                           rotate_left
                           ·simp only [Act.put, List.setIfInBounds_toArray, List.set_cons_zero, List.set_cons_succ, i64_w, i32_w]
                            rfl
                           refine pure_ (i := 5) (N := some 71) (v := ?_) (a' := ?_) #[true, true, false, false, false, true, false, false, false, false] rfl rfl (any_of HT_.out (by kernel_rfl)) (fun _ _ _ h => h) (Or.inl ⟨by rfl, ?_⟩) ?_ ?_
                           rotate_left
                           ·intro w'
                            go_simp
                            with_reducible rfl
                           rotate_left
                           ·simp only [Act.put, List.setIfInBounds_toArray, List.set_cons_zero, List.set_cons_succ, i64_w, i32_w]
                            rfl
                           refine take_ (i := 2) (N := some 68) (v := ?_) (a' := ?_) #[true, true, true, false, false, true, false, false, false, false] rfl rfl (take_ofW HT_.out HW_.out (by kernel_rfl)) (fun _ _ _ h => h) (Or.inl ⟨by rfl, ?_⟩) hHeld ?_ ?_
                           rotate_left
                           ·rintro w' ⟨s0, s1, s2, s3, s4, s5⟩
                            go_simp
                            with_reducible rfl
                           rotate_left
                           ·simp only [Act.put, List.setIfInBounds_toArray, List.set_cons_zero, List.set_cons_succ, i64_w, i32_w]
                            rfl
                           refine pure_ (i := 3) (N := some 69) (v := ?_) (a' := ?_) #[true, true, true, true, false, true, false, false, false, false] rfl rfl (any_of HT_.out (by kernel_rfl)) (fun _ _ _ h => h) (Or.inl ⟨by rfl, ?_⟩) ?_ ?_
                           rotate_left
                           ·intro w'
                            go_simp
                            with_reducible rfl
                           rotate_left
                           ·simp only [Act.put, List.setIfInBounds_toArray, List.set_cons_zero, List.set_cons_succ, i64_w, i32_w]
                            rfl
                           refine take_ (i := 4) (N := some 70) (v := ?_) (a' := ?_) #[true, true, true, true, true, true, false, false, false, false] rfl rfl (take_ofW HT_.out HW_.out (by kernel_rfl)) (fun _ _ _ h => h) (Or.inl ⟨by rfl, ?_⟩) hHeld ?_ ?_
                           rotate_left
                           ·rintro w' ⟨s0, s1, s2, s3, s4, s5⟩
                            go_simp
                            with_reducible rfl
                           rotate_left
                           ·simp only [Act.put, List.setIfInBounds_toArray, List.set_cons_zero, List.set_cons_succ, i64_w, i32_w]
                            rfl
                           refine take_ (i := 6) (N := some 72) (v := ?_) (a' := ?_) #[true, true, true, true, true, true, true, false, false, false] rfl rfl (take_ofW HT_.out HW_.out (by kernel_rfl)) (fun _ _ _ h => h) (Or.inl ⟨by rfl, ?_⟩) hHeld ?_ ?_
                           rotate_left
                           ·rintro w' ⟨s0, s1, s2, s3, s4, s5⟩
                            go_simp
                            with_reducible rfl
                           rotate_left
                           ·simp only [Act.put, List.setIfInBounds_toArray, List.set_cons_zero, List.set_cons_succ, i64_w, i32_w]
                            rfl
                           refine pure_ (i := 7) (N := some 73) (v := ?_) (a' := ?_) #[true, true, true, true, true, true, true, true, false, false] rfl rfl (any_of HT_.out (by kernel_rfl)) (fun _ _ _ h => h) (Or.inl ⟨by rfl, ?_⟩) ?_ ?_
                           rotate_left
                           ·intro w'
                            go_simp
                            with_reducible rfl
                           rotate_left
                           ·simp only [Act.put, List.setIfInBounds_toArray, List.set_cons_zero, List.set_cons_succ, i64_w, i32_w]
                            rfl
                           refine pure_ (i := 8) (N := some 74) (v := ?_) (a' := ?_) #[true, true, true, true, true, true, true, true, true, false] rfl rfl (any_of HT_.out (by kernel_rfl)) (fun _ _ _ h => h) (Or.inl ⟨by rfl, ?_⟩) ?_ ?_
                           rotate_left
                           ·intro w'
                            go_simp
                            with_reducible rfl
                           rotate_left
                           ·simp only [Act.put, List.setIfInBounds_toArray, List.set_cons_zero, List.set_cons_succ, i64_w, i32_w]
                            rfl
                           refine last_ (i := 9) (N := none) #[true, true, true, true, true, true, true, true, true, true] rfl rfl (one_of HT_.out (by kernel_rfl)) (by decide) (fun K hK => ?_)
                           refine skip_ (w1 := ?_) (by rfl) rfl ?_ ?_
                           rotate_left
                           ·go_simp
                            rfl
                           refine hK.out _ _ ?_
                           clear hK K
                           refine done_ (done_of HT_.out (by kernel_rfl)) ?_
                           try go_wp2
                           go_roundg kj24
                           case measure => have := HJ2.out; have := HK2.out; have := HK3.out; have := HJ24.out; omega
                           case rel => exact ⟨(y588), (wrap64 (x32_3 + 1)), (by first | rfl | (simp; done) | (simp [*]; done)), H', ⟨by have := HJ2.out; have := HK2.out; have := HK3.out; have := HJ24.out; omega⟩, ⟨by (with_reducible repeat (first | apply Kd.S_alloc | apply Kd.S_drewN | apply Kd.S_drew)); exact Kd.S_mono (Kd.S_far (p := ⟨go43, (((rd_T88 l0_1 ((rd_T56 y573 x32_3).f1)).f1) : Int).toNat, none⟩) (Kd.S_mono HO_5.out (fun k_ hk => (⟨hk, fun e_ => hk (by rw [e_]; rfl)⟩ : _ ∧ k_ ≠ go43))) (fun _ hk => hk.2) (.int .i64 (wrap64 ((rd y586 ((rd_T88 l0_1 ((rd_T56 y573 x32_3).f1)).f1)) + ((rd_T56 y573 x32_3).f2))))) (fun _ hk => hk.1)⟩, ⟨by (with_reducible repeat (first | apply Kd.R_alloc | apply Kd.R_drewN | apply Kd.R_drew)); exact HQ62.out⟩, ⟨by (with_reducible repeat (first | refine blk_drewN ?_ _ | refine blk_drew ?_ | refine blk_alloc ?_ _)); refine blk_far ?_ (by have h_ := Kd.R_ne HO_7.out BK568.out (by decide); intro e_; exact h_ (by rw [e_]; rfl)) _; (with_reducible repeat (first | refine blk_drewN ?_ _ | refine blk_drew ?_ | refine blk_alloc ?_ _)); exact BK568.out⟩, ⟨by repeat (first | (with_reducible first | exact HB.out | apply below_alloc | apply pw_below_drewN | apply below_drew1 | refine below_set ?_ GB43.out | refine below_set ?_ GE568.out | refine below_set ?_ GE581.out | refine below_set ?_ GE584.out) | exact HB.out)⟩⟩
                          ·rw [if_neg c46] at H
                           exact absurd H (by simp)
                         ·rw [if_neg c45] at H
                          exact absurd H (by simp)
                        ·rw [if_neg c44] at H
                         have c44b0 : decide (0 ≤ ((rd_T88 l0_1 ((rd_T56 y573 x32_3).f1)).f1)) = false := decide_eq_false c44
                         clear c44
                         have H' := Aside0.mk H
                         clear H
                         have hnb63 := NB568_581.out
                         have hnc63 := NB581_568.out
                         have hcz64_0 : wc.cell? ⟨gb568, 0, none⟩ = some (.int .i64 a0_0) := (blk_cell BK568.out 0).trans rfl
                         have hcz64_1 : wc.cell? ⟨gb568, 1, none⟩ = some (.slice A0_1 l0_1.length c0_1) := (blk_cell BK568.out 1).trans rfl
                         have hfz64_0 := blk_frozen BK568.out 0
                         have hfz64_1 := blk_frozen BK568.out 1
                         have hcz65_0 : wc.cell? ⟨gb581, 0, none⟩ = some (.int .i64 ((rd_T56 y573 x32_3).f0)) := (blk_cell BK581.out 0).trans rfl
                         have hcz65_1 : wc.cell? ⟨gb581, 1, none⟩ = some (.int .i64 ((rd_T56 y573 x32_3).f1)) := (blk_cell BK581.out 1).trans rfl
                         have hcz65_2 : wc.cell? ⟨gb581, 2, none⟩ = some (.int .i64 ((rd_T56 y573 x32_3).f2)) := (blk_cell BK581.out 2).trans rfl
                         have hfz65_0 := blk_frozen BK581.out 0
                         have hfz65_1 := blk_frozen BK581.out 1
                         have hfz65_2 := blk_frozen BK581.out 2
                         have p583 : 0 ≤ (((rd_T56 y573 x32_3).f1) : Int) := of_decide_eq_true (by first | (with_reducible assumption) | assumption)
                         have q583 : ((rd_T56 y573 x32_3).f1) < (l0_1.length : Int) := of_decide_eq_true (by first | (with_reducible assumption) | assumption)
                         obtain ⟨ad583, e583, hx583_0, hx583_1⟩ := at_T88 HR0_1.out ((rd_T56 y573 x32_3).f1) p583 q583
                         cases e583
                         replace hx583_0 := (HB.out.cell (World.block_lt_of_cell? w _ hx583_0)).trans hx583_0
                         replace hx583_1 := (HB.out.cell (World.block_lt_of_cell? w _ hx583_1)).trans hx583_1
                         replace p583 := eq_true p583
                         replace q583 := eq_true q583
                         try go_wp2_with (first | ((with_reducible refine gate_dst (N := 10) rfl ?_); (try (refine gate_guard (by rfl) ?_; dsimp only)); refine box_event ?hg (N := 10) ?hd (cs := #[.int .i64 0, .int .i64 0]) (t := 88) ?hr ?_; (case hd => rfl); (case hg => rfl); (case hr => first | (go_simp; done) | (go_simp; rfl)); intro gb584 hg w66 hbox hb; have n0_ := Aside0.mk (Kd.S_below (by (with_reducible repeat (first | apply Kd.S_alloc | apply Kd.S_drewN | apply Kd.S_drew)); exact HO_5.out) hb); have n1_ := Aside0.mk (Kd.R_below (by (with_reducible repeat (first | apply Kd.R_alloc | apply Kd.R_drewN | apply Kd.R_drew)); exact HO_7.out) hb); have n2_ := Aside0.mk (blk_below (g := gb568) (o := .cells #[.int .i64 a0_0, .slice (some ad583) l0_1.length c0_1] 30 (0, 0)) (by (with_reducible repeat (first | refine blk_drewN ?_ _ | refine blk_drew ?_ | refine blk_alloc ?_ _)); exact BK568.out) hb); have n3_ := Aside0.mk (blk_below (g := gb581) (o := .cells #[.int .i64 ((rd_T56 y573 x32_3).f0), .int .i64 ((rd_T56 y573 x32_3).f1), .int .i64 ((rd_T56 y573 x32_3).f2)] 56 (0, 0)) (by (with_reducible repeat (first | refine blk_drewN ?_ _ | refine blk_drew ?_ | refine blk_alloc ?_ _)); exact BK581.out) hb); have n4_ := Aside0.mk (below_step (by repeat (first | (with_reducible first | exact HB.out | apply below_alloc | apply pw_below_drewN | apply below_drew1 | refine below_set ?_ GE568.out | refine below_set ?_ GE581.out) | exact HB.out)) hb); have n5_ := Aside0.mk (hbox); have n6_ := Aside0.mk ((by rw [hg]; exact (below_size (by repeat (first | (with_reducible first | exact HB.out | apply below_alloc | apply pw_below_drewN | apply below_drew1 | refine below_set ?_ GE568.out | refine below_set ?_ GE581.out) | exact HB.out))) : w.heap.size ≤ gb584)); have n7_ := Aside0.mk ((by rw [hg]; exact (below_size (by repeat (first | (with_reducible first | exact HB.out | apply below_alloc | apply pw_below_drewN | apply below_drew1 | refine below_set ?_ GE568.out | refine below_set ?_ GE581.out) | exact HB.out))) : w.heap.size ≤ gb584)); have n8_ := Aside0.mk ((by rw [hg]; exact Nat.ne_of_lt (blk_lt (g := gb568) (o := .cells #[.int .i64 a0_0, .slice (some ad583) l0_1.length c0_1] 30 (0, 0)) (by (with_reducible repeat (first | refine blk_drewN ?_ _ | refine blk_drew ?_ | refine blk_alloc ?_ _)); exact BK568.out)) : gb568 ≠ gb584)); have n9_ := Aside0.mk ((by rw [hg]; exact Nat.ne_of_gt (blk_lt (g := gb568) (o := .cells #[.int .i64 a0_0, .slice (some ad583) l0_1.length c0_1] 30 (0, 0)) (by (with_reducible repeat (first | refine blk_drewN ?_ _ | refine blk_drew ?_ | refine blk_alloc ?_ _)); exact BK568.out)) : gb584 ≠ gb568)); have n10_ := Aside0.mk ((by rw [hg]; exact Nat.ne_of_lt (blk_lt (g := gb581) (o := .cells #[.int .i64 ((rd_T56 y573 x32_3).f0), .int .i64 ((rd_T56 y573 x32_3).f1), .int .i64 ((rd_T56 y573 x32_3).f2)] 56 (0, 0)) (by (with_reducible repeat (first | refine blk_drewN ?_ _ | refine blk_drew ?_ | refine blk_alloc ?_ _)); exact BK581.out)) : gb581 ≠ gb584)); have n11_ := Aside0.mk ((by rw [hg]; exact Nat.ne_of_gt (blk_lt (g := gb581) (o := .cells #[.int .i64 ((rd_T56 y573 x32_3).f0), .int .i64 ((rd_T56 y573 x32_3).f1), .int .i64 ((rd_T56 y573 x32_3).f2)] 56 (0, 0)) (by (with_reducible repeat (first | refine blk_drewN ?_ _ | refine blk_drew ?_ | refine blk_alloc ?_ _)); exact BK581.out)) : gb584 ≠ gb581)); clear HO_5; clear HO_7; clear BK568; clear BK581; clear HB; have HO_5 := n0_; have HO_7 := n1_; have BK568 := n2_; have BK581 := n3_; have HB := n4_; have BK584 := n5_; have GW584 := n6_; have GE584 := n7_; have NB568_584 := n8_; have NB584_568 := n9_; have NB581_584 := n10_; have NB584_581 := n11_; clear n0_ n1_ n2_ n3_ n4_ n5_ n6_ n7_ n8_ n9_ n10_ n11_; clear hb hbox hg; have hnb67 := NB584_568.out; have hnc67 := NB568_584.out; have hnb68 := NB584_581.out; have hnc68 := NB581_584.out; have hcz69_0 : w66.cell? ⟨gb584, 0, none⟩ = some (.int .i64 0) := (blk_cell BK584.out 0).trans rfl; have hcz69_1 : w66.cell? ⟨gb584, 1, none⟩ = some (.int .i64 0) := (blk_cell BK584.out 1).trans rfl; have hfz69_0 := blk_frozen BK584.out 0; have hfz69_1 := blk_frozen BK584.out 1))
                         have n0_ : Aside0 (Kd.S (Kd.slice 3 (Kd.int .i64)) 59 ((w66.setCell ⟨gb584, 0, none⟩ (.int .i64 ((rd_T88 l0_1 ((rd_T56 y573 x32_3).f1)).f0))).setCell ⟨gb584, 1, none⟩ (.int .i64 ((rd_T88 l0_1 ((rd_T56 y573 x32_3).f1)).f1))) w.heap.size (fun k_ => some k_ ≠ (v571 : Value).ownBlock) u5 x5_2) := ⟨by (with_reducible repeat (first | apply Kd.S_alloc | apply Kd.S_drewN | apply Kd.S_drew)); exact Kd.S_mono (Kd.S_far (p := ⟨gb584, 1, none⟩) (Kd.S_far (p := ⟨gb584, 0, none⟩) (Kd.S_types HO_5.out BK584.out (by decide)) (fun _ hk => hk.2) (.int .i64 ((rd_T88 l0_1 ((rd_T56 y573 x32_3).f1)).f0))) (fun _ hk => hk.2) (.int .i64 ((rd_T88 l0_1 ((rd_T56 y573 x32_3).f1)).f1))) (fun _ hk => hk.1)⟩
                         have n1_ : Aside0 (Kd.R (Kd.int .i64) 3 ((w66.setCell ⟨gb584, 0, none⟩ (.int .i64 ((rd_T88 l0_1 ((rd_T56 y573 x32_3).f1)).f0))).setCell ⟨gb584, 1, none⟩ (.int .i64 ((rd_T88 l0_1 ((rd_T56 y573 x32_3).f1)).f1))) w.heap.size (fun _ => True) v571 x7_3) := ⟨by (with_reducible repeat (first | apply Kd.R_alloc | apply Kd.R_drewN | apply Kd.R_drew)); exact Kd.R_mono (Kd.R_far (p := ⟨gb584, 1, none⟩) (Kd.R_far (p := ⟨gb584, 0, none⟩) (Kd.R_types HO_7.out BK584.out (by decide)) (fun _ hk => hk.2) (.int .i64 ((rd_T88 l0_1 ((rd_T56 y573 x32_3).f1)).f0))) (fun _ hk => hk.2) (.int .i64 ((rd_T88 l0_1 ((rd_T56 y573 x32_3).f1)).f1))) (fun _ hk => trivial)⟩
                         have n2_ : Aside0 (((w66.setCell ⟨gb584, 0, none⟩ (.int .i64 ((rd_T88 l0_1 ((rd_T56 y573 x32_3).f1)).f0))).setCell ⟨gb584, 1, none⟩ (.int .i64 ((rd_T88 l0_1 ((rd_T56 y573 x32_3).f1)).f1))).heap[gb568]? = some (.cells #[.int .i64 a0_0, .slice (some ad583) l0_1.length c0_1] 30 (0, 0))) := ⟨by (with_reducible repeat (first | refine blk_drewN ?_ _ | refine blk_drew ?_ | refine blk_alloc ?_ _)); refine blk_far ?_ NB568_584.out _; (with_reducible repeat (first | refine blk_drewN ?_ _ | refine blk_drew ?_ | refine blk_alloc ?_ _)); refine blk_far ?_ NB568_584.out _; (with_reducible repeat (first | refine blk_drewN ?_ _ | refine blk_drew ?_ | refine blk_alloc ?_ _)); exact BK568.out⟩
                         have n3_ : Aside0 (((w66.setCell ⟨gb584, 0, none⟩ (.int .i64 ((rd_T88 l0_1 ((rd_T56 y573 x32_3).f1)).f0))).setCell ⟨gb584, 1, none⟩ (.int .i64 ((rd_T88 l0_1 ((rd_T56 y573 x32_3).f1)).f1))).heap[gb581]? = some (.cells #[.int .i64 ((rd_T56 y573 x32_3).f0), .int .i64 ((rd_T56 y573 x32_3).f1), .int .i64 ((rd_T56 y573 x32_3).f2)] 56 (0, 0))) := ⟨by (with_reducible repeat (first | refine blk_drewN ?_ _ | refine blk_drew ?_ | refine blk_alloc ?_ _)); refine blk_far ?_ NB581_584.out _; (with_reducible repeat (first | refine blk_drewN ?_ _ | refine blk_drew ?_ | refine blk_alloc ?_ _)); refine blk_far ?_ NB581_584.out _; (with_reducible repeat (first | refine blk_drewN ?_ _ | refine blk_drew ?_ | refine blk_alloc ?_ _)); exact BK581.out⟩
                         have n4_ : Aside0 (((w66.setCell ⟨gb584, 0, none⟩ (.int .i64 ((rd_T88 l0_1 ((rd_T56 y573 x32_3).f1)).f0))).setCell ⟨gb584, 1, none⟩ (.int .i64 ((rd_T88 l0_1 ((rd_T56 y573 x32_3).f1)).f1))).heap[gb584]? = some (.cells #[.int .i64 ((rd_T88 l0_1 ((rd_T56 y573 x32_3).f1)).f0), .int .i64 ((rd_T88 l0_1 ((rd_T56 y573 x32_3).f1)).f1)] 88 (0, 0))) := ⟨by (with_reducible repeat (first | refine blk_drewN ?_ _ | refine blk_drew ?_ | refine blk_alloc ?_ _)); refine blk_put (cs := #[.int .i64 ((rd_T88 l0_1 ((rd_T56 y573 x32_3).f1)).f0), .int .i64 0]) ?_ 1 _ rfl; (with_reducible repeat (first | refine blk_drewN ?_ _ | refine blk_drew ?_ | refine blk_alloc ?_ _)); refine blk_put (cs := #[.int .i64 0, .int .i64 0]) ?_ 0 _ rfl; (with_reducible repeat (first | refine blk_drewN ?_ _ | refine blk_drew ?_ | refine blk_alloc ?_ _)); exact BK584.out⟩
                         have n5_ : Aside0 (Below w.heap.size w ((w66.setCell ⟨gb584, 0, none⟩ (.int .i64 ((rd_T88 l0_1 ((rd_T56 y573 x32_3).f1)).f0))).setCell ⟨gb584, 1, none⟩ (.int .i64 ((rd_T88 l0_1 ((rd_T56 y573 x32_3).f1)).f1)))) := ⟨by repeat (first | (with_reducible first | exact HB.out | apply below_alloc | apply pw_below_drewN | apply below_drew1 | refine below_set ?_ GE568.out | refine below_set ?_ GE581.out | refine below_set ?_ GE584.out) | exact HB.out)⟩
                         (try clear HO_5)
                         (try clear HO_7)
                         (try clear BK568)
                         (try clear BK581)
                         (try clear BK584)
                         (try clear HB)
                         generalize ((w66.setCell ⟨gb584, 0, none⟩ (.int .i64 ((rd_T88 l0_1 ((rd_T56 y573 x32_3).f1)).f0))).setCell ⟨gb584, 1, none⟩ (.int .i64 ((rd_T88 l0_1 ((rd_T56 y573 x32_3).f1)).f1))) = w70 at n0_ n1_ n2_ n3_ n4_ n5_ ⊢
                         have HO_5 := n0_
                         have HO_7 := n1_
                         have BK568 := n2_
                         have BK581 := n3_
                         have BK584 := n4_
                         have HB := n5_
                         clear n0_ n1_ n2_ n3_ n4_ n5_
                         have n0_ := Aside0.mk (Kd.S_drew HO_5.out)
                         have n1_ := Aside0.mk (Kd.R_drew HO_7.out)
                         have n2_ := Aside0.mk (blk_drew BK568.out)
                         have n3_ := Aside0.mk (blk_drew BK581.out)
                         have n4_ := Aside0.mk (blk_drew BK584.out)
                         have n5_ := Aside0.mk (below_drew1 HB.out)
                         clear HO_5
                         clear HO_7
                         clear BK568
                         clear BK581
                         clear BK584
                         clear HB
                         have HO_5 := n0_
                         have HO_7 := n1_
                         have BK568 := n2_
                         have BK581 := n3_
                         have BK584 := n4_
                         have HB := n5_
                         clear n0_ n1_ n2_ n3_ n4_ n5_
                         obtain ⟨Ao72, co72, eo72⟩ := Kd.R_slice HO_7.out
                         (first | subst eo72 | (injection eo72 with f1_ f2_ f3_; have f4_ := f1_.symm; have f5_ := f3_.symm; clear f1_ f2_ f3_; subst f4_; subst f5_))
                         have p585 : 0 ≤ (((rd_T88 l0_1 ((rd_T56 y573 x32_3).f1)).f0) : Int) := of_decide_eq_true (by first | (with_reducible assumption) | assumption)
                         have q585 : ((rd_T88 l0_1 ((rd_T56 y573 x32_3).f1)).f0) < (x7_3.length : Int) := of_decide_eq_true (by first | (with_reducible assumption) | assumption)
                         obtain ⟨ad585, e585, hx585_0⟩ := Kd.at_int (Kd.R_reads' HO_7.out).2.2 ((rd_T88 l0_1 ((rd_T56 y573 x32_3).f1)).f0) p585 q585
                         cases e585
                         replace p585 := eq_true p585
                         replace q585 := eq_true q585
                         have p43 : 0 ≤ (((rd_T88 l0_1 ((rd_T56 y573 x32_3).f1)).f0) : Int) := of_decide_eq_true (by first | (with_reducible assumption) | assumption)
                         have q43 : (((rd_T88 l0_1 ((rd_T56 y573 x32_3).f1)).f0) : Int) < ((x7_3.length : Int) : Int) := of_decide_eq_true (by first | (with_reducible assumption) | assumption)
                         obtain ⟨go43, co43, eo43, gb43, gl43, cl43, HG43⟩ := Kd.R_form HO_7.out (by omega)
                         (first | cases eo43 | (injection eo43 with ea_ en_ ec_; (first | subst ea_ | (injection ea_ with ea_; subst ea_)); subst ec_; clear en_))
                         have GB43 := Aside0.mk gb43
                         have GG43 := Aside0.mk HG43
                         clear gb43 gl43 HG43
                         (first | simp only [add_plain] at hx585_0 | skip)
                         obtain ⟨hx43_0, hf43_0⟩ := Kd.R_celln 0 HO_7.out (((rd_T88 l0_1 ((rd_T56 y573 x32_3).f1)).f0) : Int) p43 q43
                         replace p43 := eq_true p43
                         replace q43 := eq_true q43
                         have HP73 := Kd.R_putn HO_7.out (((rd_T88 l0_1 ((rd_T56 y573 x32_3).f1)).f0) : Int) (wrap64 ((rd x7_3 ((rd_T88 l0_1 ((rd_T56 y573 x32_3).f1)).f0)) - ((rd_T56 y573 x32_3).f2)))
                         rw [← Ny586.out] at HP73
                         have HQ73 := Aside0.mk HP73
                         clear HP73
                         refine start_ (n := 10) (S := fun w' => w'.cell? ⟨gb584, 0, none⟩ = some (.int .i64 ((rd_T88 l0_1 ((rd_T56 y573 x32_3).f1)).f0)) ∧ w'.cell? ⟨gb584, 1, none⟩ = some (.int .i64 ((rd_T88 l0_1 ((rd_T56 y573 x32_3).f1)).f1)) ∧ w'.cell? ⟨gb581, 0, none⟩ = some (.int .i64 ((rd_T56 y573 x32_3).f0)) ∧ w'.cell? ⟨gb581, 1, none⟩ = some (.int .i64 ((rd_T56 y573 x32_3).f1)) ∧ w'.cell? ⟨gb581, 2, none⟩ = some (.int .i64 ((rd_T56 y573 x32_3).f2)) ∧ w'.cell? ⟨go43, (((rd_T88 l0_1 ((rd_T56 y573 x32_3).f1)).f0)).toNat, none⟩ = some (.int .i64 (rd x7_3 ((rd_T88 l0_1 ((rd_T56 y573 x32_3).f1)).f0)))) (ds := [9]) #[false, false, false, false, false, false, false, false, false, false] (by kernel_rfl) rfl rfl ⟨(blk_cell BK584.out 0).trans rfl, (blk_cell BK584.out 1).trans rfl, (blk_cell BK581.out 0).trans rfl, (blk_cell BK581.out 1).trans rfl, (blk_cell BK581.out 2).trans rfl, hx585_0⟩ (fun hHeld => ?_); refine with_tabW spec_Truth.tab14 spec_Truth.bits14 (fun HT_ HW_ => ?_)
                         generalize w70.drew = w71 at HO_5 HO_7 BK568 BK581 BK584 HB GG43 HQ73 hf43_0 hx43_0 hx585_0 hHeld ⊢
                         refine pure_ (i := 0) (N := some 54) (v := ?_) (a' := ?_) #[true, false, false, false, false, false, false, false, false, false] rfl rfl (any_of HT_.out (by kernel_rfl)) (fun _ _ _ h => h) (Or.inl ⟨by rfl, ?_⟩) ?_ ?_
                         rotate_left
                         ·intro w'
                          go_simp
                          with_reducible rfl
                         rotate_left
                         ·simp only [Act.put, List.setIfInBounds_toArray, List.set_cons_zero, List.set_cons_succ, i64_w, i32_w]
                          rfl
                         refine pure_ (i := 1) (N := some 55) (v := ?_) (a' := ?_) #[true, true, false, false, false, false, false, false, false, false] rfl rfl (any_of HT_.out (by kernel_rfl)) (fun _ _ _ h => h) (Or.inl ⟨by rfl, ?_⟩) ?_ ?_
                         rotate_left
                         ·intro w'
                          go_simp
                          with_reducible rfl
                         rotate_left
                         ·simp only [Act.put, List.setIfInBounds_toArray, List.set_cons_zero, List.set_cons_succ, i64_w, i32_w]
                          rfl
                         refine pure_ (i := 5) (N := some 59) (v := ?_) (a' := ?_) #[true, true, false, false, false, true, false, false, false, false] rfl rfl (any_of HT_.out (by kernel_rfl)) (fun _ _ _ h => h) (Or.inl ⟨by rfl, ?_⟩) ?_ ?_
                         rotate_left
                         ·intro w'
                          go_simp
                          with_reducible rfl
                         rotate_left
                         ·simp only [Act.put, List.setIfInBounds_toArray, List.set_cons_zero, List.set_cons_succ, i64_w, i32_w]
                          rfl
                         refine take_ (i := 2) (N := some 56) (v := ?_) (a' := ?_) #[true, true, true, false, false, true, false, false, false, false] rfl rfl (take_ofW HT_.out HW_.out (by kernel_rfl)) (fun _ _ _ h => h) (Or.inl ⟨by rfl, ?_⟩) hHeld ?_ ?_
                         rotate_left
                         ·rintro w' ⟨s0, s1, s2, s3, s4, s5⟩
                          go_simp
                          with_reducible rfl
                         rotate_left
                         ·simp only [Act.put, List.setIfInBounds_toArray, List.set_cons_zero, List.set_cons_succ, i64_w, i32_w]
                          rfl
                         refine pure_ (i := 3) (N := some 57) (v := ?_) (a' := ?_) #[true, true, true, true, false, true, false, false, false, false] rfl rfl (any_of HT_.out (by kernel_rfl)) (fun _ _ _ h => h) (Or.inl ⟨by rfl, ?_⟩) ?_ ?_
                         rotate_left
                         ·intro w'
                          go_simp
                          with_reducible rfl
                         rotate_left
                         ·simp only [Act.put, List.setIfInBounds_toArray, List.set_cons_zero, List.set_cons_succ, i64_w, i32_w]
                          rfl
                         refine take_ (i := 4) (N := some 58) (v := ?_) (a' := ?_) #[true, true, true, true, true, true, false, false, false, false] rfl rfl (take_ofW HT_.out HW_.out (by kernel_rfl)) (fun _ _ _ h => h) (Or.inl ⟨by rfl, ?_⟩) hHeld ?_ ?_
                         rotate_left
                         ·rintro w' ⟨s0, s1, s2, s3, s4, s5⟩
                          go_simp
                          with_reducible rfl
                         rotate_left
                         ·simp only [Act.put, List.setIfInBounds_toArray, List.set_cons_zero, List.set_cons_succ, i64_w, i32_w]
                          rfl
                         refine take_ (i := 6) (N := some 60) (v := ?_) (a' := ?_) #[true, true, true, true, true, true, true, false, false, false] rfl rfl (take_ofW HT_.out HW_.out (by kernel_rfl)) (fun _ _ _ h => h) (Or.inl ⟨by rfl, ?_⟩) hHeld ?_ ?_
                         rotate_left
                         ·rintro w' ⟨s0, s1, s2, s3, s4, s5⟩
                          go_simp
                          with_reducible rfl
                         rotate_left
                         ·simp only [Act.put, List.setIfInBounds_toArray, List.set_cons_zero, List.set_cons_succ, i64_w, i32_w]
                          rfl
                         refine pure_ (i := 7) (N := some 61) (v := ?_) (a' := ?_) #[true, true, true, true, true, true, true, true, false, false] rfl rfl (any_of HT_.out (by kernel_rfl)) (fun _ _ _ h => h) (Or.inl ⟨by rfl, ?_⟩) ?_ ?_
                         rotate_left
                         ·intro w'
                          go_simp
                          with_reducible rfl
                         rotate_left
                         ·simp only [Act.put, List.setIfInBounds_toArray, List.set_cons_zero, List.set_cons_succ, i64_w, i32_w]
                          rfl
                         refine pure_ (i := 8) (N := some 62) (v := ?_) (a' := ?_) #[true, true, true, true, true, true, true, true, true, false] rfl rfl (any_of HT_.out (by kernel_rfl)) (fun _ _ _ h => h) (Or.inl ⟨by rfl, ?_⟩) ?_ ?_
                         rotate_left
                         ·intro w'
                          go_simp
                          with_reducible rfl
                         rotate_left
                         ·simp only [Act.put, List.setIfInBounds_toArray, List.set_cons_zero, List.set_cons_succ, i64_w, i32_w]
                          rfl
                         refine last_ (i := 9) (N := none) #[true, true, true, true, true, true, true, true, true, true] rfl rfl (one_of HT_.out (by kernel_rfl)) (by decide) (fun K hK => ?_)
                         refine skip_ (w1 := ?_) (by rfl) rfl ?_ ?_
                         rotate_left
                         ·go_simp
                          rfl
                         refine hK.out _ _ ?_
                         clear hK K
                         refine done_ (done_of HT_.out (by kernel_rfl)) ?_
                         have hnx_ : gb584 ≠ go43 := (by have h_ := Kd.R_ne HO_7.out BK584.out (by decide); intro e_; exact h_ (by rw [e_]; rfl))
                         have hny_ : go43 ≠ gb584 := fun e_ => hnx_ e_.symm
                         have hcz74_0 : w71.cell? ⟨gb584, 0, none⟩ = some (.int .i64 ((rd_T88 l0_1 ((rd_T56 y573 x32_3).f1)).f0)) := (blk_cell BK584.out 0).trans rfl
                         have hcz74_1 : w71.cell? ⟨gb584, 1, none⟩ = some (.int .i64 ((rd_T88 l0_1 ((rd_T56 y573 x32_3).f1)).f1)) := (blk_cell BK584.out 1).trans rfl
                         have hfz74_0 := blk_frozen BK584.out 0
                         have hfz74_1 := blk_frozen BK584.out 1
                         try go_wp2
                         go_roundg kj24
                         case measure => have := HJ2.out; have := HK2.out; have := HK3.out; have := HJ24.out; omega
                         case rel => exact ⟨(y586), (wrap64 (x32_3 + 1)), (by first | rfl | (simp; done) | (simp [*]; done)), H', ⟨by have := HJ2.out; have := HK2.out; have := HK3.out; have := HJ24.out; omega⟩, ⟨by (with_reducible repeat (first | apply Kd.S_alloc | apply Kd.S_drewN | apply Kd.S_drew)); exact Kd.S_mono (Kd.S_far (p := ⟨go43, (((rd_T88 l0_1 ((rd_T56 y573 x32_3).f1)).f0) : Int).toNat, none⟩) (Kd.S_mono HO_5.out (fun k_ hk => (⟨hk, fun e_ => hk (by rw [e_]; rfl)⟩ : _ ∧ k_ ≠ go43))) (fun _ hk => hk.2) (.int .i64 (wrap64 ((rd x7_3 ((rd_T88 l0_1 ((rd_T56 y573 x32_3).f1)).f0)) - ((rd_T56 y573 x32_3).f2))))) (fun _ hk => hk.1)⟩, ⟨by (with_reducible repeat (first | apply Kd.R_alloc | apply Kd.R_drewN | apply Kd.R_drew)); exact HQ73.out⟩, ⟨by (with_reducible repeat (first | refine blk_drewN ?_ _ | refine blk_drew ?_ | refine blk_alloc ?_ _)); refine blk_far ?_ (by have h_ := Kd.R_ne HO_7.out BK568.out (by decide); intro e_; exact h_ (by rw [e_]; rfl)) _; (with_reducible repeat (first | refine blk_drewN ?_ _ | refine blk_drew ?_ | refine blk_alloc ?_ _)); exact BK568.out⟩, ⟨by repeat (first | (with_reducible first | exact HB.out | apply below_alloc | apply pw_below_drewN | apply below_drew1 | refine below_set ?_ GB43.out | refine below_set ?_ GE568.out | refine below_set ?_ GE581.out | refine below_set ?_ GE584.out) | exact HB.out)⟩⟩
                       ·rw [if_neg c42] at H
                        exact absurd H (by simp)
                      ·rw [if_neg c41] at H
                       exact absurd H (by simp)
                     ·rw [if_neg c40] at H
                      have c40b0 : decide (0 ≤ ((rd_T88 l0_1 ((rd_T56 y573 x32_3).f1)).f0)) = false := decide_eq_false c40
                      clear c40
                      by_cases c75 : ((rd_T88 l0_1 ((rd_T56 y573 x32_3).f1)).f1) ≥ 0
                      ·rw [if_pos c75] at H
                       have c75b0 : decide (0 ≤ ((rd_T88 l0_1 ((rd_T56 y573 x32_3).f1)).f1)) = true := decide_eq_true c75
                       clear c75
                       by_cases c76 : 0 ≤ ((rd_T88 l0_1 ((rd_T56 y573 x32_3).f1)).f1)
                       ·rw [if_pos c76] at H
                        have c76b0 : decide (0 ≤ ((rd_T88 l0_1 ((rd_T56 y573 x32_3).f1)).f1)) = true := decide_eq_true c76
                        clear c76
                        by_cases c77 : ((rd_T88 l0_1 ((rd_T56 y573 x32_3).f1)).f1) < (x7_3.length : Int)
                        ·rw [if_pos c77] at H
                         have c77b0 : decide (((rd_T88 l0_1 ((rd_T56 y573 x32_3).f1)).f1) < (x7_3.length : Int)) = true := decide_eq_true c77
                         clear c77
                         obtain ⟨y590, hy590⟩ : ∃ y_ : List Int, y_ = (x7_3.set (((rd_T88 l0_1 ((rd_T56 y573 x32_3).f1)).f1) : Int).toNat (wrap64 ((rd x7_3 ((rd_T88 l0_1 ((rd_T56 y573 x32_3).f1)).f1)) + ((rd_T56 y573 x32_3).f2)))) := ⟨_, rfl⟩
                         replace H : (spec_Truth.l1 kj24 l1 x5_2 y590 (l1.length : Int) x21_2 y573 (y573.length : Int) (wrap64 (x32_3 + 1)) a0_0 l0_1) = some r := by first | (rw [hy590]; with_reducible exact H) | (have H2_ := (Option.bind_some _ _).symm.trans H; rw [hy590]; with_reducible exact H2_) | (have H2_ := (Option.bind_some _ _).symm.trans H; with_reducible exact H2_) | with_reducible exact H | (rw [hy590]; exact H) | exact H
                         have Ny590 := Aside0.mk hy590
                         clear hy590
                         have H' := Aside0.mk H
                         clear H
                         have hnb79 := NB568_581.out
                         have hnc79 := NB581_568.out
                         have hcz80_0 : wc.cell? ⟨gb568, 0, none⟩ = some (.int .i64 a0_0) := (blk_cell BK568.out 0).trans rfl
                         have hcz80_1 : wc.cell? ⟨gb568, 1, none⟩ = some (.slice A0_1 l0_1.length c0_1) := (blk_cell BK568.out 1).trans rfl
                         have hfz80_0 := blk_frozen BK568.out 0
                         have hfz80_1 := blk_frozen BK568.out 1
                         have hcz81_0 : wc.cell? ⟨gb581, 0, none⟩ = some (.int .i64 ((rd_T56 y573 x32_3).f0)) := (blk_cell BK581.out 0).trans rfl
                         have hcz81_1 : wc.cell? ⟨gb581, 1, none⟩ = some (.int .i64 ((rd_T56 y573 x32_3).f1)) := (blk_cell BK581.out 1).trans rfl
                         have hcz81_2 : wc.cell? ⟨gb581, 2, none⟩ = some (.int .i64 ((rd_T56 y573 x32_3).f2)) := (blk_cell BK581.out 2).trans rfl
                         have hfz81_0 := blk_frozen BK581.out 0
                         have hfz81_1 := blk_frozen BK581.out 1
                         have hfz81_2 := blk_frozen BK581.out 2
                         have p583 : 0 ≤ (((rd_T56 y573 x32_3).f1) : Int) := of_decide_eq_true (by first | (with_reducible assumption) | assumption)
                         have q583 : ((rd_T56 y573 x32_3).f1) < (l0_1.length : Int) := of_decide_eq_true (by first | (with_reducible assumption) | assumption)
                         obtain ⟨ad583, e583, hx583_0, hx583_1⟩ := at_T88 HR0_1.out ((rd_T56 y573 x32_3).f1) p583 q583
                         cases e583
                         replace hx583_0 := (HB.out.cell (World.block_lt_of_cell? w _ hx583_0)).trans hx583_0
                         replace hx583_1 := (HB.out.cell (World.block_lt_of_cell? w _ hx583_1)).trans hx583_1
                         replace p583 := eq_true p583
                         replace q583 := eq_true q583
                         try go_wp2_with (first | ((with_reducible refine gate_dst (N := 10) rfl ?_); (try (refine gate_guard (by rfl) ?_; dsimp only)); refine box_event ?hg (N := 10) ?hd (cs := #[.int .i64 0, .int .i64 0]) (t := 88) ?hr ?_; (case hd => rfl); (case hg => rfl); (case hr => first | (go_simp; done) | (go_simp; rfl)); intro gb584 hg w82 hbox hb; have n0_ := Aside0.mk (Kd.S_below (by (with_reducible repeat (first | apply Kd.S_alloc | apply Kd.S_drewN | apply Kd.S_drew)); exact HO_5.out) hb); have n1_ := Aside0.mk (Kd.R_below (by (with_reducible repeat (first | apply Kd.R_alloc | apply Kd.R_drewN | apply Kd.R_drew)); exact HO_7.out) hb); have n2_ := Aside0.mk (blk_below (g := gb568) (o := .cells #[.int .i64 a0_0, .slice (some ad583) l0_1.length c0_1] 30 (0, 0)) (by (with_reducible repeat (first | refine blk_drewN ?_ _ | refine blk_drew ?_ | refine blk_alloc ?_ _)); exact BK568.out) hb); have n3_ := Aside0.mk (blk_below (g := gb581) (o := .cells #[.int .i64 ((rd_T56 y573 x32_3).f0), .int .i64 ((rd_T56 y573 x32_3).f1), .int .i64 ((rd_T56 y573 x32_3).f2)] 56 (0, 0)) (by (with_reducible repeat (first | refine blk_drewN ?_ _ | refine blk_drew ?_ | refine blk_alloc ?_ _)); exact BK581.out) hb); have n4_ := Aside0.mk (below_step (by repeat (first | (with_reducible first | exact HB.out | apply below_alloc | apply pw_below_drewN | apply below_drew1 | refine below_set ?_ GE568.out | refine below_set ?_ GE581.out) | exact HB.out)) hb); have n5_ := Aside0.mk (hbox); have n6_ := Aside0.mk ((by rw [hg]; exact (below_size (by repeat (first | (with_reducible first | exact HB.out | apply below_alloc | apply pw_below_drewN | apply below_drew1 | refine below_set ?_ GE568.out | refine below_set ?_ GE581.out) | exact HB.out))) : w.heap.size ≤ gb584)); have n7_ := Aside0.mk ((by rw [hg]; exact (below_size (by repeat (first | (with_reducible first | exact HB.out | apply below_alloc | apply pw_below_drewN | apply below_drew1 | refine below_set ?_ GE568.out | refine below_set ?_ GE581.out) | exact HB.out))) : w.heap.size ≤ gb584)); have n8_ := Aside0.mk ((by rw [hg]; exact Nat.ne_of_lt (blk_lt (g := gb568) (o := .cells #[.int .i64 a0_0, .slice (some ad583) l0_1.length c0_1] 30 (0, 0)) (by (with_reducible repeat (first | refine blk_drewN ?_ _ | refine blk_drew ?_ | refine blk_alloc ?_ _)); exact BK568.out)) : gb568 ≠ gb584)); have n9_ := Aside0.mk ((by rw [hg]; exact Nat.ne_of_gt (blk_lt (g := gb568) (o := .cells #[.int .i64 a0_0, .slice (some ad583) l0_1.length c0_1] 30 (0, 0)) (by (with_reducible repeat (first | refine blk_drewN ?_ _ | refine blk_drew ?_ | refine blk_alloc ?_ _)); exact BK568.out)) : gb584 ≠ gb568)); have n10_ := Aside0.mk ((by rw [hg]; exact Nat.ne_of_lt (blk_lt (g := gb581) (o := .cells #[.int .i64 ((rd_T56 y573 x32_3).f0), .int .i64 ((rd_T56 y573 x32_3).f1), .int .i64 ((rd_T56 y573 x32_3).f2)] 56 (0, 0)) (by (with_reducible repeat (first | refine blk_drewN ?_ _ | refine blk_drew ?_ | refine blk_alloc ?_ _)); exact BK581.out)) : gb581 ≠ gb584)); have n11_ := Aside0.mk ((by rw [hg]; exact Nat.ne_of_gt (blk_lt (g := gb581) (o := .cells #[.int .i64 ((rd_T56 y573 x32_3).f0), .int .i64 ((rd_T56 y573 x32_3).f1), .int .i64 ((rd_T56 y573 x32_3).f2)] 56 (0, 0)) (by (with_reducible repeat (first | refine blk_drewN ?_ _ | refine blk_drew ?_ | refine blk_alloc ?_ _)); exact BK581.out)) : gb584 ≠ gb581)); clear HO_5; clear HO_7; clear BK568; clear BK581; clear HB; have HO_5 := n0_; have HO_7 := n1_; have BK568 := n2_; have BK581 := n3_; have HB := n4_; have BK584 := n5_; have GW584 := n6_; have GE584 := n7_; have NB568_584 := n8_; have NB584_568 := n9_; have NB581_584 := n10_; have NB584_581 := n11_; clear n0_ n1_ n2_ n3_ n4_ n5_ n6_ n7_ n8_ n9_ n10_ n11_; clear hb hbox hg; have hnb83 := NB584_568.out; have hnc83 := NB568_584.out; have hnb84 := NB584_581.out; have hnc84 := NB581_584.out; have hcz85_0 : w82.cell? ⟨gb584, 0, none⟩ = some (.int .i64 0) := (blk_cell BK584.out 0).trans rfl; have hcz85_1 : w82.cell? ⟨gb584, 1, none⟩ = some (.int .i64 0) := (blk_cell BK584.out 1).trans rfl; have hfz85_0 := blk_frozen BK584.out 0; have hfz85_1 := blk_frozen BK584.out 1))
                         have n0_ : Aside0 (Kd.S (Kd.slice 3 (Kd.int .i64)) 59 ((w82.setCell ⟨gb584, 0, none⟩ (.int .i64 ((rd_T88 l0_1 ((rd_T56 y573 x32_3).f1)).f0))).setCell ⟨gb584, 1, none⟩ (.int .i64 ((rd_T88 l0_1 ((rd_T56 y573 x32_3).f1)).f1))) w.heap.size (fun k_ => some k_ ≠ (v571 : Value).ownBlock) u5 x5_2) := ⟨by (with_reducible repeat (first | apply Kd.S_alloc | apply Kd.S_drewN | apply Kd.S_drew)); exact Kd.S_mono (Kd.S_far (p := ⟨gb584, 1, none⟩) (Kd.S_far (p := ⟨gb584, 0, none⟩) (Kd.S_types HO_5.out BK584.out (by decide)) (fun _ hk => hk.2) (.int .i64 ((rd_T88 l0_1 ((rd_T56 y573 x32_3).f1)).f0))) (fun _ hk => hk.2) (.int .i64 ((rd_T88 l0_1 ((rd_T56 y573 x32_3).f1)).f1))) (fun _ hk => hk.1)⟩
                         have n1_ : Aside0 (Kd.R (Kd.int .i64) 3 ((w82.setCell ⟨gb584, 0, none⟩ (.int .i64 ((rd_T88 l0_1 ((rd_T56 y573 x32_3).f1)).f0))).setCell ⟨gb584, 1, none⟩ (.int .i64 ((rd_T88 l0_1 ((rd_T56 y573 x32_3).f1)).f1))) w.heap.size (fun _ => True) v571 x7_3) := ⟨by (with_reducible repeat (first | apply Kd.R_alloc | apply Kd.R_drewN | apply Kd.R_drew)); exact Kd.R_mono (Kd.R_far (p := ⟨gb584, 1, none⟩) (Kd.R_far (p := ⟨gb584, 0, none⟩) (Kd.R_types HO_7.out BK584.out (by decide)) (fun _ hk => hk.2) (.int .i64 ((rd_T88 l0_1 ((rd_T56 y573 x32_3).f1)).f0))) (fun _ hk => hk.2) (.int .i64 ((rd_T88 l0_1 ((rd_T56 y573 x32_3).f1)).f1))) (fun _ hk => trivial)⟩
                         have n2_ : Aside0 (((w82.setCell ⟨gb584, 0, none⟩ (.int .i64 ((rd_T88 l0_1 ((rd_T56 y573 x32_3).f1)).f0))).setCell ⟨gb584, 1, none⟩ (.int .i64 ((rd_T88 l0_1 ((rd_T56 y573 x32_3).f1)).f1))).heap[gb568]? = some (.cells #[.int .i64 a0_0, .slice (some ad583) l0_1.length c0_1] 30 (0, 0))) := ⟨by (with_reducible repeat (first | refine blk_drewN ?_ _ | refine blk_drew ?_ | refine blk_alloc ?_ _)); refine blk_far ?_ NB568_584.out _; (with_reducible repeat (first | refine blk_drewN ?_ _ | refine blk_drew ?_ | refine blk_alloc ?_ _)); refine blk_far ?_ NB568_584.out _; (with_reducible repeat (first | refine blk_drewN ?_ _ | refine blk_drew ?_ | refine blk_alloc ?_ _)); exact BK568.out⟩
                         have n3_ : Aside0 (((w82.setCell ⟨gb584, 0, none⟩ (.int .i64 ((rd_T88 l0_1 ((rd_T56 y573 x32_3).f1)).f0))).setCell ⟨gb584, 1, none⟩ (.int .i64 ((rd_T88 l0_1 ((rd_T56 y573 x32_3).f1)).f1))).heap[gb581]? = some (.cells #[.int .i64 ((rd_T56 y573 x32_3).f0), .int .i64 ((rd_T56 y573 x32_3).f1), .int .i64 ((rd_T56 y573 x32_3).f2)] 56 (0, 0))) := ⟨by (with_reducible repeat (first | refine blk_drewN ?_ _ | refine blk_drew ?_ | refine blk_alloc ?_ _)); refine blk_far ?_ NB581_584.out _; (with_reducible repeat (first | refine blk_drewN ?_ _ | refine blk_drew ?_ | refine blk_alloc ?_ _)); refine blk_far ?_ NB581_584.out _; (with_reducible repeat (first | refine blk_drewN ?_ _ | refine blk_drew ?_ | refine blk_alloc ?_ _)); exact BK581.out⟩
                         have n4_ : Aside0 (((w82.setCell ⟨gb584, 0, none⟩ (.int .i64 ((rd_T88 l0_1 ((rd_T56 y573 x32_3).f1)).f0))).setCell ⟨gb584, 1, none⟩ (.int .i64 ((rd_T88 l0_1 ((rd_T56 y573 x32_3).f1)).f1))).heap[gb584]? = some (.cells #[.int .i64 ((rd_T88 l0_1 ((rd_T56 y573 x32_3).f1)).f0), .int .i64 ((rd_T88 l0_1 ((rd_T56 y573 x32_3).f1)).f1)] 88 (0, 0))) := ⟨by (with_reducible repeat (first | refine blk_drewN ?_ _ | refine blk_drew ?_ | refine blk_alloc ?_ _)); refine blk_put (cs := #[.int .i64 ((rd_T88 l0_1 ((rd_T56 y573 x32_3).f1)).f0), .int .i64 0]) ?_ 1 _ rfl; (with_reducible repeat (first | refine blk_drewN ?_ _ | refine blk_drew ?_ | refine blk_alloc ?_ _)); refine blk_put (cs := #[.int .i64 0, .int .i64 0]) ?_ 0 _ rfl; (with_reducible repeat (first | refine blk_drewN ?_ _ | refine blk_drew ?_ | refine blk_alloc ?_ _)); exact BK584.out⟩
                         have n5_ : Aside0 (Below w.heap.size w ((w82.setCell ⟨gb584, 0, none⟩ (.int .i64 ((rd_T88 l0_1 ((rd_T56 y573 x32_3).f1)).f0))).setCell ⟨gb584, 1, none⟩ (.int .i64 ((rd_T88 l0_1 ((rd_T56 y573 x32_3).f1)).f1)))) := ⟨by repeat (first | (with_reducible first | exact HB.out | apply below_alloc | apply pw_below_drewN | apply below_drew1 | refine below_set ?_ GE568.out | refine below_set ?_ GE581.out | refine below_set ?_ GE584.out) | exact HB.out)⟩
                         (try clear HO_5)
                         (try clear HO_7)
                         (try clear BK568)
                         (try clear BK581)
                         (try clear BK584)
                         (try clear HB)
                         generalize ((w82.setCell ⟨gb584, 0, none⟩ (.int .i64 ((rd_T88 l0_1 ((rd_T56 y573 x32_3).f1)).f0))).setCell ⟨gb584, 1, none⟩ (.int .i64 ((rd_T88 l0_1 ((rd_T56 y573 x32_3).f1)).f1))) = w86 at n0_ n1_ n2_ n3_ n4_ n5_ ⊢
                         have HO_5 := n0_
                         have HO_7 := n1_
                         have BK568 := n2_
                         have BK581 := n3_
                         have BK584 := n4_
                         have HB := n5_
                         clear n0_ n1_ n2_ n3_ n4_ n5_
                         have n0_ := Aside0.mk (Kd.S_drew HO_5.out)
                         have n1_ := Aside0.mk (Kd.R_drew HO_7.out)
                         have n2_ := Aside0.mk (blk_drew BK568.out)
                         have n3_ := Aside0.mk (blk_drew BK581.out)
                         have n4_ := Aside0.mk (blk_drew BK584.out)
                         have n5_ := Aside0.mk (below_drew1 HB.out)
                         clear HO_5
                         clear HO_7
                         clear BK568
                         clear BK581
                         clear BK584
                         clear HB
                         have HO_5 := n0_
                         have HO_7 := n1_
                         have BK568 := n2_
                         have BK581 := n3_
                         have BK584 := n4_
                         have HB := n5_
                         clear n0_ n1_ n2_ n3_ n4_ n5_
                         obtain ⟨Ao88, co88, eo88⟩ := Kd.R_slice HO_7.out
                         (first | subst eo88 | (injection eo88 with f1_ f2_ f3_; have f4_ := f1_.symm; have f5_ := f3_.symm; clear f1_ f2_ f3_; subst f4_; subst f5_))
                         have p589 : 0 ≤ (((rd_T88 l0_1 ((rd_T56 y573 x32_3).f1)).f1) : Int) := of_decide_eq_true (by first | (with_reducible assumption) | assumption)
                         have q589 : ((rd_T88 l0_1 ((rd_T56 y573 x32_3).f1)).f1) < (x7_3.length : Int) := of_decide_eq_true (by first | (with_reducible assumption) | assumption)
                         obtain ⟨ad589, e589, hx589_0⟩ := Kd.at_int (Kd.R_reads' HO_7.out).2.2 ((rd_T88 l0_1 ((rd_T56 y573 x32_3).f1)).f1) p589 q589
                         cases e589
                         replace p589 := eq_true p589
                         replace q589 := eq_true q589
                         have p78 : 0 ≤ (((rd_T88 l0_1 ((rd_T56 y573 x32_3).f1)).f1) : Int) := of_decide_eq_true (by first | (with_reducible assumption) | assumption)
                         have q78 : (((rd_T88 l0_1 ((rd_T56 y573 x32_3).f1)).f1) : Int) < ((x7_3.length : Int) : Int) := of_decide_eq_true (by first | (with_reducible assumption) | assumption)
                         obtain ⟨go78, co78, eo78, gb78, gl78, cl78, HG78⟩ := Kd.R_form HO_7.out (by omega)
                         (first | cases eo78 | (injection eo78 with ea_ en_ ec_; (first | subst ea_ | (injection ea_ with ea_; subst ea_)); subst ec_; clear en_))
                         have GB78 := Aside0.mk gb78
                         have GG78 := Aside0.mk HG78
                         clear gb78 gl78 HG78
                         (first | simp only [add_plain] at hx589_0 | skip)
                         obtain ⟨hx78_0, hf78_0⟩ := Kd.R_celln 0 HO_7.out (((rd_T88 l0_1 ((rd_T56 y573 x32_3).f1)).f1) : Int) p78 q78
                         replace p78 := eq_true p78
                         replace q78 := eq_true q78
                         have HP89 := Kd.R_putn HO_7.out (((rd_T88 l0_1 ((rd_T56 y573 x32_3).f1)).f1) : Int) (wrap64 ((rd x7_3 ((rd_T88 l0_1 ((rd_T56 y573 x32_3).f1)).f1)) + ((rd_T56 y573 x32_3).f2)))
                         rw [← Ny590.out] at HP89
                         have HQ89 := Aside0.mk HP89
                         clear HP89
                         refine start_ (n := 10) (S := fun w' => w'.cell? ⟨gb584, 0, none⟩ = some (.int .i64 ((rd_T88 l0_1 ((rd_T56 y573 x32_3).f1)).f0)) ∧ w'.cell? ⟨gb584, 1, none⟩ = some (.int .i64 ((rd_T88 l0_1 ((rd_T56 y573 x32_3).f1)).f1)) ∧ w'.cell? ⟨gb581, 0, none⟩ = some (.int .i64 ((rd_T56 y573 x32_3).f0)) ∧ w'.cell? ⟨gb581, 1, none⟩ = some (.int .i64 ((rd_T56 y573 x32_3).f1)) ∧ w'.cell? ⟨gb581, 2, none⟩ = some (.int .i64 ((rd_T56 y573 x32_3).f2)) ∧ w'.cell? ⟨go78, (((rd_T88 l0_1 ((rd_T56 y573 x32_3).f1)).f1)).toNat, none⟩ = some (.int .i64 (rd x7_3 ((rd_T88 l0_1 ((rd_T56 y573 x32_3).f1)).f1)))) (ds := [9]) #[false, false, false, false, false, false, false, false, false, false] (by kernel_rfl) rfl rfl ⟨(blk_cell BK584.out 0).trans rfl, (blk_cell BK584.out 1).trans rfl, (blk_cell BK581.out 0).trans rfl, (blk_cell BK581.out 1).trans rfl, (blk_cell BK581.out 2).trans rfl, hx589_0⟩ (fun hHeld => ?_); refine with_tabW spec_Truth.tab16 spec_Truth.bits16 (fun HT_ HW_ => ?_)
                         generalize w86.drew = w87 at HO_5 HO_7 BK568 BK581 BK584 HB GG78 HQ89 hf78_0 hx589_0 hx78_0 hHeld ⊢
                         refine pure_ (i := 0) (N := some 66) (v := ?_) (a' := ?_) #[true, false, false, false, false, false, false, false, false, false] rfl rfl (any_of HT_.out (by kernel_rfl)) (fun _ _ _ h => h) (Or.inl ⟨by rfl, ?_⟩) ?_ ?_
                         rotate_left
                         ·intro w'
                          go_simp
                          with_reducible rfl
                         rotate_left
                         ·simp only [Act.put, List.setIfInBounds_toArray, List.set_cons_zero, List.set_cons_succ, i64_w, i32_w]
                          rfl
                         refine pure_ (i := 1) (N := some 67) (v := ?_) (a' := ?_) #[true, true, false, false, false, false, false, false, false, false] rfl rfl (any_of HT_.out (by kernel_rfl)) (fun _ _ _ h => h) (Or.inl ⟨by rfl, ?_⟩) ?_ ?_
                         rotate_left
                         ·intro w'
                          go_simp
                          with_reducible rfl
                         rotate_left
                         ·simp only [Act.put, List.setIfInBounds_toArray, List.set_cons_zero, List.set_cons_succ, i64_w, i32_w]
                          rfl
                         refine pure_ (i := 5) (N := some 71) (v := ?_) (a' := ?_) #[true, true, false, false, false, true, false, false, false, false] rfl rfl (any_of HT_.out (by kernel_rfl)) (fun _ _ _ h => h) (Or.inl ⟨by rfl, ?_⟩) ?_ ?_
                         rotate_left
                         ·intro w'
                          go_simp
                          with_reducible rfl
                         rotate_left
                         ·simp only [Act.put, List.setIfInBounds_toArray, List.set_cons_zero, List.set_cons_succ, i64_w, i32_w]
                          rfl
                         refine take_ (i := 2) (N := some 68) (v := ?_) (a' := ?_) #[true, true, true, false, false, true, false, false, false, false] rfl rfl (take_ofW HT_.out HW_.out (by kernel_rfl)) (fun _ _ _ h => h) (Or.inl ⟨by rfl, ?_⟩) hHeld ?_ ?_
                         rotate_left
                         ·rintro w' ⟨s0, s1, s2, s3, s4, s5⟩
                          go_simp
                          with_reducible rfl
                         rotate_left
                         ·simp only [Act.put, List.setIfInBounds_toArray, List.set_cons_zero, List.set_cons_succ, i64_w, i32_w]
                          rfl
                         refine pure_ (i := 3) (N := some 69) (v := ?_) (a' := ?_) #[true, true, true, true, false, true, false, false, false, false] rfl rfl (any_of HT_.out (by kernel_rfl)) (fun _ _ _ h => h) (Or.inl ⟨by rfl, ?_⟩) ?_ ?_
                         rotate_left
                         ·intro w'
                          go_simp
                          with_reducible rfl
                         rotate_left
                         ·simp only [Act.put, List.setIfInBounds_toArray, List.set_cons_zero, List.set_cons_succ, i64_w, i32_w]
                          rfl
                         refine take_ (i := 4) (N := some 70) (v := ?_) (a' := ?_) #[true, true, true, true, true, true, false, false, false, false] rfl rfl (take_ofW HT_.out HW_.out (by kernel_rfl)) (fun _ _ _ h => h) (Or.inl ⟨by rfl, ?_⟩) hHeld ?_ ?_
                         rotate_left
                         ·rintro w' ⟨s0, s1, s2, s3, s4, s5⟩
                          go_simp
                          with_reducible rfl
                         rotate_left
                         ·simp only [Act.put, List.setIfInBounds_toArray, List.set_cons_zero, List.set_cons_succ, i64_w, i32_w]
                          rfl
                         refine take_ (i := 6) (N := some 72) (v := ?_) (a' := ?_) #[true, true, true, true, true, true, true, false, false, false] rfl rfl (take_ofW HT_.out HW_.out (by kernel_rfl)) (fun _ _ _ h => h) (Or.inl ⟨by rfl, ?_⟩) hHeld ?_ ?_
                         rotate_left
                         ·rintro w' ⟨s0, s1, s2, s3, s4, s5⟩
                          go_simp
                          with_reducible rfl
                         rotate_left
                         ·simp only [Act.put, List.setIfInBounds_toArray, List.set_cons_zero, List.set_cons_succ, i64_w, i32_w]
                          rfl
                         refine pure_ (i := 7) (N := some 73) (v := ?_) (a' := ?_) #[true, true, true, true, true, true, true, true, false, false] rfl rfl (any_of HT_.out (by kernel_rfl)) (fun _ _ _ h => h) (Or.inl ⟨by rfl, ?_⟩) ?_ ?_
                         rotate_left
                         ·intro w'
                          go_simp
                          with_reducible rfl
                         rotate_left
                         ·simp only [Act.put, List.setIfInBounds_toArray, List.set_cons_zero, List.set_cons_succ, i64_w, i32_w]
                          rfl
                         refine pure_ (i := 8) (N := some 74) (v := ?_) (a' := ?_) #[true, true, true, true, true, true, true, true, true, false] rfl rfl (any_of HT_.out (by kernel_rfl)) (fun _ _ _ h => h) (Or.inl ⟨by rfl, ?_⟩) ?_ ?_
                         rotate_left
                         ·intro w'
                          go_simp
                          with_reducible rfl
                         rotate_left
                         ·simp only [Act.put, List.setIfInBounds_toArray, List.set_cons_zero, List.set_cons_succ, i64_w, i32_w]
                          rfl
                         refine last_ (i := 9) (N := none) #[true, true, true, true, true, true, true, true, true, true] rfl rfl (one_of HT_.out (by kernel_rfl)) (by decide) (fun K hK => ?_)
                         refine skip_ (w1 := ?_) (by rfl) rfl ?_ ?_
                         rotate_left
                         ·go_simp
                          rfl
                         refine hK.out _ _ ?_
                         clear hK K
                         refine done_ (done_of HT_.out (by kernel_rfl)) ?_
                         try go_wp2
                         go_roundg kj24
                         case measure => have := HJ2.out; have := HK2.out; have := HK3.out; have := HJ24.out; omega
                         case rel => exact ⟨(y590), (wrap64 (x32_3 + 1)), (by first | rfl | (simp; done) | (simp [*]; done)), H', ⟨by have := HJ2.out; have := HK2.out; have := HK3.out; have := HJ24.out; omega⟩, ⟨by (with_reducible repeat (first | apply Kd.S_alloc | apply Kd.S_drewN | apply Kd.S_drew)); exact Kd.S_mono (Kd.S_far (p := ⟨go78, (((rd_T88 l0_1 ((rd_T56 y573 x32_3).f1)).f1) : Int).toNat, none⟩) (Kd.S_mono HO_5.out (fun k_ hk => (⟨hk, fun e_ => hk (by rw [e_]; rfl)⟩ : _ ∧ k_ ≠ go78))) (fun _ hk => hk.2) (.int .i64 (wrap64 ((rd x7_3 ((rd_T88 l0_1 ((rd_T56 y573 x32_3).f1)).f1)) + ((rd_T56 y573 x32_3).f2))))) (fun _ hk => hk.1)⟩, ⟨by (with_reducible repeat (first | apply Kd.R_alloc | apply Kd.R_drewN | apply Kd.R_drew)); exact HQ89.out⟩, ⟨by (with_reducible repeat (first | refine blk_drewN ?_ _ | refine blk_drew ?_ | refine blk_alloc ?_ _)); refine blk_far ?_ (by have h_ := Kd.R_ne HO_7.out BK568.out (by decide); intro e_; exact h_ (by rw [e_]; rfl)) _; (with_reducible repeat (first | refine blk_drewN ?_ _ | refine blk_drew ?_ | refine blk_alloc ?_ _)); exact BK568.out⟩, ⟨by repeat (first | (with_reducible first | exact HB.out | apply below_alloc | apply pw_below_drewN | apply below_drew1 | refine below_set ?_ GB78.out | refine below_set ?_ GE568.out | refine below_set ?_ GE581.out | refine below_set ?_ GE584.out) | exact HB.out)⟩⟩
                        ·rw [if_neg c77] at H
                         exact absurd H (by simp)
                       ·rw [if_neg c76] at H
                        exact absurd H (by simp)
                      ·rw [if_neg c75] at H
                       have c75b0 : decide (0 ≤ ((rd_T88 l0_1 ((rd_T56 y573 x32_3).f1)).f1)) = false := decide_eq_false c75
                       clear c75
                       have H' := Aside0.mk H
                       clear H
                       have hnb90 := NB568_581.out
                       have hnc90 := NB581_568.out
                       have hcz91_0 : wc.cell? ⟨gb568, 0, none⟩ = some (.int .i64 a0_0) := (blk_cell BK568.out 0).trans rfl
                       have hcz91_1 : wc.cell? ⟨gb568, 1, none⟩ = some (.slice A0_1 l0_1.length c0_1) := (blk_cell BK568.out 1).trans rfl
                       have hfz91_0 := blk_frozen BK568.out 0
                       have hfz91_1 := blk_frozen BK568.out 1
                       have hcz92_0 : wc.cell? ⟨gb581, 0, none⟩ = some (.int .i64 ((rd_T56 y573 x32_3).f0)) := (blk_cell BK581.out 0).trans rfl
                       have hcz92_1 : wc.cell? ⟨gb581, 1, none⟩ = some (.int .i64 ((rd_T56 y573 x32_3).f1)) := (blk_cell BK581.out 1).trans rfl
                       have hcz92_2 : wc.cell? ⟨gb581, 2, none⟩ = some (.int .i64 ((rd_T56 y573 x32_3).f2)) := (blk_cell BK581.out 2).trans rfl
                       have hfz92_0 := blk_frozen BK581.out 0
                       have hfz92_1 := blk_frozen BK581.out 1
                       have hfz92_2 := blk_frozen BK581.out 2
                       have p583 : 0 ≤ (((rd_T56 y573 x32_3).f1) : Int) := of_decide_eq_true (by first | (with_reducible assumption) | assumption)
                       have q583 : ((rd_T56 y573 x32_3).f1) < (l0_1.length : Int) := of_decide_eq_true (by first | (with_reducible assumption) | assumption)
                       obtain ⟨ad583, e583, hx583_0, hx583_1⟩ := at_T88 HR0_1.out ((rd_T56 y573 x32_3).f1) p583 q583
                       cases e583
                       replace hx583_0 := (HB.out.cell (World.block_lt_of_cell? w _ hx583_0)).trans hx583_0
                       replace hx583_1 := (HB.out.cell (World.block_lt_of_cell? w _ hx583_1)).trans hx583_1
                       replace p583 := eq_true p583
                       replace q583 := eq_true q583
                       go_wp2_with (first | ((with_reducible refine gate_dst (N := 10) rfl ?_); (try (refine gate_guard (by rfl) ?_; dsimp only)); refine box_event ?hg (N := 10) ?hd (cs := #[.int .i64 0, .int .i64 0]) (t := 88) ?hr ?_; (case hd => rfl); (case hg => rfl); (case hr => first | (go_simp; done) | (go_simp; rfl)); intro gb584 hg w93 hbox hb; have n0_ := Aside0.mk (Kd.S_below (by (with_reducible repeat (first | apply Kd.S_alloc | apply Kd.S_drewN | apply Kd.S_drew)); exact HO_5.out) hb); have n1_ := Aside0.mk (Kd.R_below (by (with_reducible repeat (first | apply Kd.R_alloc | apply Kd.R_drewN | apply Kd.R_drew)); exact HO_7.out) hb); have n2_ := Aside0.mk (blk_below (g := gb568) (o := .cells #[.int .i64 a0_0, .slice (some ad583) l0_1.length c0_1] 30 (0, 0)) (by (with_reducible repeat (first | refine blk_drewN ?_ _ | refine blk_drew ?_ | refine blk_alloc ?_ _)); exact BK568.out) hb); have n3_ := Aside0.mk (blk_below (g := gb581) (o := .cells #[.int .i64 ((rd_T56 y573 x32_3).f0), .int .i64 ((rd_T56 y573 x32_3).f1), .int .i64 ((rd_T56 y573 x32_3).f2)] 56 (0, 0)) (by (with_reducible repeat (first | refine blk_drewN ?_ _ | refine blk_drew ?_ | refine blk_alloc ?_ _)); exact BK581.out) hb); have n4_ := Aside0.mk (below_step (by repeat (first | (with_reducible first | exact HB.out | apply below_alloc | apply pw_below_drewN | apply below_drew1 | refine below_set ?_ GE568.out | refine below_set ?_ GE581.out) | exact HB.out)) hb); have n5_ := Aside0.mk (hbox); have n6_ := Aside0.mk ((by rw [hg]; exact (below_size (by repeat (first | (with_reducible first | exact HB.out | apply below_alloc | apply pw_below_drewN | apply below_drew1 | refine below_set ?_ GE568.out | refine below_set ?_ GE581.out) | exact HB.out))) : w.heap.size ≤ gb584)); have n7_ := Aside0.mk ((by rw [hg]; exact (below_size (by repeat (first | (with_reducible first | exact HB.out | apply below_alloc | apply pw_below_drewN | apply below_drew1 | refine below_set ?_ GE568.out | refine below_set ?_ GE581.out) | exact HB.out))) : w.heap.size ≤ gb584)); have n8_ := Aside0.mk ((by rw [hg]; exact Nat.ne_of_lt (blk_lt (g := gb568) (o := .cells #[.int .i64 a0_0, .slice (some ad583) l0_1.length c0_1] 30 (0, 0)) (by (with_reducible repeat (first | refine blk_drewN ?_ _ | refine blk_drew ?_ | refine blk_alloc ?_ _)); exact BK568.out)) : gb568 ≠ gb584)); have n9_ := Aside0.mk ((by rw [hg]; exact Nat.ne_of_gt (blk_lt (g := gb568) (o := .cells #[.int .i64 a0_0, .slice (some ad583) l0_1.length c0_1] 30 (0, 0)) (by (with_reducible repeat (first | refine blk_drewN ?_ _ | refine blk_drew ?_ | refine blk_alloc ?_ _)); exact BK568.out)) : gb584 ≠ gb568)); have n10_ := Aside0.mk ((by rw [hg]; exact Nat.ne_of_lt (blk_lt (g := gb581) (o := .cells #[.int .i64 ((rd_T56 y573 x32_3).f0), .int .i64 ((rd_T56 y573 x32_3).f1), .int .i64 ((rd_T56 y573 x32_3).f2)] 56 (0, 0)) (by (with_reducible repeat (first | refine blk_drewN ?_ _ | refine blk_drew ?_ | refine blk_alloc ?_ _)); exact BK581.out)) : gb581 ≠ gb584)); have n11_ := Aside0.mk ((by rw [hg]; exact Nat.ne_of_gt (blk_lt (g := gb581) (o := .cells #[.int .i64 ((rd_T56 y573 x32_3).f0), .int .i64 ((rd_T56 y573 x32_3).f1), .int .i64 ((rd_T56 y573 x32_3).f2)] 56 (0, 0)) (by (with_reducible repeat (first | refine blk_drewN ?_ _ | refine blk_drew ?_ | refine blk_alloc ?_ _)); exact BK581.out)) : gb584 ≠ gb581)); clear HO_5; clear HO_7; clear BK568; clear BK581; clear HB; have HO_5 := n0_; have HO_7 := n1_; have BK568 := n2_; have BK581 := n3_; have HB := n4_; have BK584 := n5_; have GW584 := n6_; have GE584 := n7_; have NB568_584 := n8_; have NB584_568 := n9_; have NB581_584 := n10_; have NB584_581 := n11_; clear n0_ n1_ n2_ n3_ n4_ n5_ n6_ n7_ n8_ n9_ n10_ n11_; clear hb hbox hg; have hnb94 := NB584_568.out; have hnc94 := NB568_584.out; have hnb95 := NB584_581.out; have hnc95 := NB581_584.out; have hcz96_0 : w93.cell? ⟨gb584, 0, none⟩ = some (.int .i64 0) := (blk_cell BK584.out 0).trans rfl; have hcz96_1 : w93.cell? ⟨gb584, 1, none⟩ = some (.int .i64 0) := (blk_cell BK584.out 1).trans rfl; have hfz96_0 := blk_frozen BK584.out 0; have hfz96_1 := blk_frozen BK584.out 1))
                       go_roundg kj24
                       case measure => have := HJ2.out; have := HK2.out; have := HK3.out; have := HJ24.out; omega
                       case rel => exact ⟨(x7_3), (wrap64 (x32_3 + 1)), (by first | rfl | (simp; done) | (simp [*]; done)), H', ⟨by have := HJ2.out; have := HK2.out; have := HK3.out; have := HJ24.out; omega⟩, ⟨by (with_reducible repeat (first | apply Kd.S_alloc | apply Kd.S_drewN | apply Kd.S_drew)); exact Kd.S_mono (Kd.S_far (p := ⟨gb584, 1, none⟩) (Kd.S_far (p := ⟨gb584, 0, none⟩) (Kd.S_types HO_5.out BK584.out (by decide)) (fun _ hk => hk.2) (.int .i64 ((rd_T88 l0_1 ((rd_T56 y573 x32_3).f1)).f0))) (fun _ hk => hk.2) (.int .i64 ((rd_T88 l0_1 ((rd_T56 y573 x32_3).f1)).f1))) (fun _ hk => hk.1)⟩, ⟨by (with_reducible repeat (first | apply Kd.R_alloc | apply Kd.R_drewN | apply Kd.R_drew)); exact Kd.R_mono (Kd.R_far (p := ⟨gb584, 1, none⟩) (Kd.R_far (p := ⟨gb584, 0, none⟩) (Kd.R_types HO_7.out BK584.out (by decide)) (fun _ hk => hk.2) (.int .i64 ((rd_T88 l0_1 ((rd_T56 y573 x32_3).f1)).f0))) (fun _ hk => hk.2) (.int .i64 ((rd_T88 l0_1 ((rd_T56 y573 x32_3).f1)).f1))) (fun _ hk => trivial)⟩, ⟨by (with_reducible repeat (first | refine blk_drewN ?_ _ | refine blk_drew ?_ | refine blk_alloc ?_ _)); refine blk_far ?_ NB568_584.out _; (with_reducible repeat (first | refine blk_drewN ?_ _ | refine blk_drew ?_ | refine blk_alloc ?_ _)); refine blk_far ?_ NB568_584.out _; (with_reducible repeat (first | refine blk_drewN ?_ _ | refine blk_drew ?_ | refine blk_alloc ?_ _)); exact BK568.out⟩, ⟨by repeat (first | (with_reducible first | exact HB.out | apply below_alloc | apply pw_below_drewN | apply below_drew1 | refine below_set ?_ GE568.out | refine below_set ?_ GE581.out | refine below_set ?_ GE584.out) | exact HB.out)⟩⟩
                    ·rw [if_neg c39] at H
                     exact absurd H (by simp)
                   ·rw [if_neg c38] at H
                    exact absurd H (by simp)
               ·rw [if_neg c24] at H
                exact absurd H (by simp)
              ·rw [if_neg c23] at H
               exact absurd H (by simp)
             ·rw [if_neg c22] at H
              have c22b0 : decide (x32_3 < (y573.length : Int)) = false := decide_eq_false c22
              clear c22
              by_cases c97 : x5_2.length < 5864062014805
              ·rw [if_pos c97] at H
               have LMc97 := Aside0.mk c97
               clear c97
               obtain ⟨y577, hy577⟩ : ∃ y_ : List (List Int), y_ = (x5_2 ++ [x7_3]) := ⟨_, rfl⟩
               replace H : (spec_Truth.l0 k3 l1 y577 (l1.length : Int) (wrap64 (x21_2 + 1)) a0_0 l0_1) = some r := by first | (rw [hy577]; with_reducible exact H) | (have H2_ := (Option.bind_some _ _).symm.trans H; rw [hy577]; with_reducible exact H2_) | (have H2_ := (Option.bind_some _ _).symm.trans H; with_reducible exact H2_) | with_reducible exact H | (rw [hy577]; exact H) | exact H
               have Ny577 := Aside0.mk hy577
               clear hy577
               have H' := Aside0.mk H
               clear H
               obtain ⟨Ao99, co99, eo99⟩ := Kd.R_slice HO_7.out
               subst eo99
               go_wp2_with (first | ((with_reducible refine gate_builtin (b := .append) (xs := #[.tmp 76, .tmp 78]) rfl ?_); (try (refine gate_guard (by rfl) ?_; dsimp only)); at_builtin; refine Kd.S_append (Kd.slice 3 (Kd.int .i64)) (w0 := w) w.heap.size rfl (.tmp 76) (.tmp 78) 73 59 (.slice none 0 0) 24 rfl Try.underlying73 info59 rfl (by decide) (by omega) u5 x5_2 x7_3 [.slice Ao99 x7_3.length co99] (fun _ => True) (fun k_ => some k_ = (.slice Ao99 x7_3.length co99 : Value).ownBlock) rfl rfl ?aP (fun k_ hk_ => ((Kd.R_mono (ok' := fun k_ => ((fun _ => True)) k_ ∧ some k_ ≠ (u5 : Value).ownBlock) (Kd.R_apart' (HO_7.out) (Kd.S_typed HO_5.out) (by decide)) (fun k_ hk => ⟨trivial, hk.2⟩))).1 k_ hk_.symm) ?aF ?aO ?aB ?aS ?aL ?_; (case aP => exact Kd.M_row (Kd.R_mono (Kd.R_tight rfl (Kd.R_mono (ok' := fun k_ => ((fun _ => True)) k_ ∧ some k_ ≠ (u5 : Value).ownBlock) (Kd.R_apart' (HO_7.out) (Kd.S_typed HO_5.out) (by decide)) (fun k_ hk => ⟨trivial, hk.2⟩))) (fun _ h_ => h_))); (case aB => exact (by repeat (first | (with_reducible first | exact HB.out | apply below_alloc | apply pw_below_drewN | apply below_drew1 | refine below_set ?_ GE568.out) | exact HB.out))); (case aF => exact (fun _ _ => trivial)); (case aO => exact (by (with_reducible repeat (first | apply Kd.S_alloc | apply Kd.S_drewN | apply Kd.S_drew)); exact Kd.S_mono HO_5.out (fun k_ hk => ⟨trivial, fun e_ => hk e_⟩))); (case aS => exact (below_size (by repeat (first | (with_reducible first | exact HB.out | apply below_alloc | apply pw_below_drewN | apply below_drew1 | refine below_set ?_ GE568.out) | exact HB.out)))); (case aL => have := LMc97.out; omega); intro v578 w98 ho hb hg hat; rw [← Ny577.out] at ho; have n0_ := Aside0.mk (blk_grown (g := gb568) (o := .cells #[.int .i64 a0_0, .slice A0_1 l0_1.length c0_1] 30 (0, 0)) (by (with_reducible repeat (first | refine blk_drewN ?_ _ | refine blk_drew ?_ | refine blk_alloc ?_ _)); exact BK568.out) hg (Kd.S_ne HO_5.out BK568.out (by decide))); have n1_ := Aside0.mk (hb); have n2_ := Aside0.mk (ho); clear BK568; clear HB; clear HO_5; clear HO_7; have BK568 := n0_; have HB := n1_; have HO579 := n2_; clear n0_ n1_ n2_; clear ho hb hg hat))
               go_roundg k3
               case measure => have := HJ2.out; have := HK2.out; have := HK3.out; omega
               case rel => exact ⟨(y577), (wrap64 (x21_2 + 1)), (by first | rfl | (simp; done) | (simp [*]; done)), H', ⟨by have := HJ2.out; have := HK2.out; have := HK3.out; omega⟩, ⟨by (with_reducible repeat (first | apply Kd.S_alloc | apply Kd.S_drewN | apply Kd.S_drew)); exact HO579.out⟩, ⟨by (with_reducible repeat (first | refine blk_drewN ?_ _ | refine blk_drew ?_ | refine blk_alloc ?_ _)); exact BK568.out⟩, ⟨by repeat (first | (with_reducible first | exact HB.out | apply below_alloc | apply pw_below_drewN | apply below_drew1 | refine below_set ?_ GE568.out) | exact HB.out)⟩⟩
              ·rw [if_neg c97] at H
               exact absurd H (by simp)
          ·rw [if_neg c17] at H
           exact absurd H (by simp)
         ·rw [if_neg c16] at H
          exact absurd H (by simp)
        ·rw [if_neg c14] at H
         exact absurd H (by simp)
       ·rw [if_neg c13] at H
        exact absurd H (by simp)
      ·rw [if_neg c12] at H
       have c12b0 : decide (x21_2 < (l1.length : Int)) = false := decide_eq_false c12
       clear c12
       obtain rfl := Option.some.inj H
       go_wp2
       go_ret
       exact ⟨_, by first | rfl | (simp [errW_none, errW_some] <;> rfl) | (simp [*, errW_none, errW_some] <;> rfl), by (with_reducible repeat (first | apply Kd.S_alloc | apply Kd.S_drewN | apply Kd.S_drew)); exact HO_5.out, by repeat (first | (with_reducible first | exact HB.out | apply below_alloc | apply pw_below_drewN | apply below_drew1 | refine below_set ?_ GE568.out) | exact HB.out)⟩
end Go.Proofs.Ytpdnabhpkdchjaa.P
namespace Go.Proofs.Ytpdnabhpkdchjaa.P
open Go.RowKit Go.Proofs.YtpdnabhpkdchjaaW.PrintWords Go.Proofs.YtpdnabhpkdchjaaW.PrintLast
set_option linter.unusedVariables false
set_option linter.unusedSimpArgs false
def axle (c : S88) (d : Int) (row : List Int) : List Int :=
  let row1 := if 0 ≤ c.f0 then row.set c.f0.toNat (wrap64 (rd row c.f0 - d)) else row
  if 0 ≤ c.f1 then row1.set c.f1.toNat (wrap64 (rd row1 c.f1 + d)) else row1
def isPass (n : Int) (l : List S88) (e : S56) : Bool := eventOk n l e.f0 e.f1 e.f2 && decide (e.f0 = 1)
def tstep (n : Int) (l : List S88) (row : List Int) (e : S56) : List Int := if isPass n l e then axle (rd_T88 l e.f1) e.f2 row else row
def row0 (n : Int) : List Int := List.replicate n.toNat 0
def truthAt (n : Int) (l : List S88) (es : List S56) (k : Nat) : List Int := (es.take k).foldl (tstep n l) (row0 n)
def truth (n : Int) (l : List S88) (es : List S56) : List (List Int) :=
  if layoutOk n l = 0 ∧ es.length ≤ 2000 then (List.range es.length).map fun k => truthAt n l es (k + 1) else []
theorem axle_length (c : S88) (d : Int) (row : List Int) : (axle c d row).length = row.length := by
  unfold axle
  by_cases h0 : 0 ≤ c.f0 <;> by_cases h1 : 0 ≤ c.f1 <;> simp [h0, h1]
theorem tstep_length (n : Int) (l : List S88) (row : List Int) (e : S56) : (tstep n l row e).length = row.length := by
  unfold tstep
  by_cases h : isPass n l e = true
  · rw [if_pos h, axle_length]
  · rw [if_neg h]
theorem foldl_tstep_length (n : Int) (l : List S88) (es : List S56) : ∀ row : List Int, (es.foldl (tstep n l) row).length = row.length := by
  induction es with
  | nil => intro row; rfl
  | cons e es ih => intro row; rw [List.foldl_cons, ih, tstep_length]
theorem truthAt_length (n : Int) (l : List S88) (es : List S56) (k : Nat) : (truthAt n l es k).length = n.toNat := by
  rw [truthAt, foldl_tstep_length, row0, List.length_replicate]
theorem lay_ctr {n : Int} {l : List S88} (h : layoutOk n l = 0) : ∀ x ∈ l, -1 ≤ x.f0 ∧ x.f0 < n ∧ -1 ≤ x.f1 ∧ x.f1 < n ∧ x.f0 ≠ x.f1 := by
  unfold layoutOk at h
  split at h
  · cases h
  · split at h
    · cases h
    · split at h
      · cases h
      · split at h
        · rename_i hall
          intro x hx
          have := List.all_eq_true.1 hall x hx
          simp only [ctrOk, inB, Bool.and_eq_true, decide_eq_true_eq, Bool.not_eq_true', beq_eq_false_iff_ne] at this
          exact ⟨this.1.1.1, this.1.1.2, this.1.2.1, this.1.2.2, this.2⟩
        · cases h
theorem lay_rd {n : Int} {l : List S88} (h : layoutOk n l = 0) (i : Int) (h0 : 0 ≤ i) (h1 : i < l.length) : -1 ≤ (rd_T88 l i).f0 ∧ (rd_T88 l i).f0 < n ∧ -1 ≤ (rd_T88 l i).f1 ∧ (rd_T88 l i).f1 < n ∧ (rd_T88 l i).f0 ≠ (rd_T88 l i).f1 := by
  refine lay_ctr h _ ?_
  have hlt : i.toNat < l.length := by omega
  have : rd_T88 l i = l[i.toNat] := by simp [rd_T88, hlt]
  rw [this]
  exact List.getElem_mem hlt
theorem isPass_of {n : Int} {l : List S88} {e : S56} (h : isPass n l e = true) : e.f0 = 1 ∧ 0 ≤ e.f1 ∧ e.f1 < l.length ∧ (e.f2 = 1 ∨ e.f2 = -1) ∧ eventOk n l e.f0 e.f1 e.f2 = true := by
  simp only [isPass, Bool.and_eq_true, decide_eq_true_eq] at h
  obtain ⟨h1, h2⟩ := h
  have h1' := h1
  rw [h2, eventOk] at h1
  split at h1
  · simp at h1
    exact ⟨h2, h1.1.1, h1.1.2, h1.2, h1'⟩
  · cases h1
section
variable {n : Int} {l : List S88} {es : List S56} {R : List (List Int)}
theorem rd56 (l : List S56) (i : Nat) (h : i < l.length) : rd_T56 l (i : Int) = l[i] := by simp [rd_T56, h]
theorem specTruth_j3 (hl : layoutOk n l = 0) (out : List (List Int)) (row : List Int) (hrow : row.length = n.toNat) (x20 x21 : Int) (pre : List S56) (i : Nat) (hi : i < 9223372036854775807) (e : S56) (b : Bool) (hb : b = !(isPass n l e))
    (h : Ev (fun k => spec_Truth.l1 k es out (tstep n l row e) x20 x21 pre (pre.length : Int) ((i + 1 : Nat) : Int) n l) R) :
    Ev (fun k => spec_Truth.j3 k es out row x20 x21 pre (pre.length : Int) (i : Int) b n l e.f0 e.f1 e.f2) R := by
  have hn := lay_n hl
  refine Ev.step (fun k => by simp only [spec_Truth.j3, wrap_succ hi]; rfl) ?_
  cases hp : isPass n l e with
  | false =>
    rw [hp] at hb
    simp only [tstep, hp] at h
    exact Ev.ite_pos hb h
  | true =>
    rw [hp] at hb
    obtain ⟨e0, e1, e2, e3, e4⟩ := isPass_of hp
    obtain ⟨c0, c1, c2, c3, c4⟩ := lay_rd hl e.f1 e1 e2
    refine Ev.ite_neg (by simp [hb]) (Ev.ite_pos e1 (Ev.ite_pos e2 ?_))
    simp only [tstep, hp, if_true, axle] at h
    by_cases h0 : 0 ≤ (rd_T88 l e.f1).f0
    · simp only [h0, if_true] at h
      refine Ev.ite_pos h0 (Ev.ite_pos h0 (Ev.ite_pos (by rw [hrow]; omega) ?_))
      simp only [Option.bind_some]
      by_cases h1 : 0 ≤ (rd_T88 l e.f1).f1
      · simp only [h1, if_true] at h
        exact Ev.ite_pos h1 (Ev.ite_pos h1 (Ev.ite_pos (by rw [hrow]; omega) h))
      · simp only [h1, if_false] at h
        exact Ev.ite_neg h1 h
    · simp only [h0, if_false] at h
      refine Ev.ite_neg h0 ?_
      by_cases h1 : 0 ≤ (rd_T88 l e.f1).f1
      · simp only [h1, if_true] at h
        exact Ev.ite_pos h1 (Ev.ite_pos h1 (Ev.ite_pos (by rw [hrow]; omega) h))
      · simp only [h1, if_false] at h
        exact Ev.ite_neg h1 h
theorem specTruth_l1 (hl : layoutOk n l = 0) (out : List (List Int)) (ho : out.length < 5864062014805) (x20 : Int) (j : Nat) (hj : j < 9223372036854775807) (pre : List S56) (hpre : pre.length < 9223372036854775807) (d : Nat) : ∀ (i : Nat) (row : List Int), i + d = pre.length → row.length = n.toNat →
    Ev (fun k => spec_Truth.l0 k es (out ++ [(pre.drop i).foldl (tstep n l) row]) x20 ((j + 1 : Nat) : Int) n l) R →
    Ev (fun k => spec_Truth.l1 k es out row x20 (j : Int) pre (pre.length : Int) (i : Int) n l) R := by
  induction d with
  | zero =>
    intro i row hi hrow h
    rw [List.drop_eq_nil_of_le (by omega)] at h
    refine Ev.step (fun k => ?_) h
    simp only [spec_Truth.l1, wrap_succ hj]
    rw [if_neg (by omega), if_pos ho]
    rfl
  | succ d ih =>
    intro i row hi hrow h
    have hlt : i < pre.length := by omega
    rw [List.drop_eq_getElem_cons hlt, List.foldl_cons] at h
    have h2 := ih (i + 1) (tstep n l row pre[i]) (by omega) (by rw [tstep_length]; exact hrow) h
    refine Ev.step (fun k => by simp only [spec_Truth.l1, rd56 pre i hlt]; rw [if_pos (by omega), if_pos (by omega), if_pos (by omega)]) ?_
    by_cases h1 : pre[i].f0 = 1
    · refine Ev.ite_pos h1 (Ev.bind (specEventOk_ev n l _ _ _) ?_)
      exact specTruth_j3 hl out row hrow x20 j pre i (by omega) pre[i] _ (by simp [isPass, h1]) h2
    · refine Ev.ite_neg h1 ?_
      exact specTruth_j3 hl out row hrow x20 j pre i (by omega) pre[i] _ (by simp [isPass, h1]) h2
theorem specTruth_l0 (hl : layoutOk n l = 0) (he : es.length ≤ 2000) (d : Nat) : ∀ (j : Nat), j + d = es.length →
    Ev (fun k => spec_Truth.l0 k es ((List.range j).map fun k => truthAt n l es (k + 1)) (es.length : Int) (j : Int) n l) ((List.range es.length).map fun k => truthAt n l es (k + 1)) := by
  have hn := lay_n hl
  induction d with
  | zero =>
    intro j hj
    refine Ev.step1 fun k => ?_
    simp only [spec_Truth.l0]
    rw [if_neg (by omega), show j = es.length by omega]
  | succ d ih =>
    intro j hj
    have h2 := ih (j + 1) (by omega)
    rw [List.range_succ, List.map_append, List.map_singleton] at h2
    refine Ev.step (fun k => by simp only [spec_Truth.l0, wrap_succ (show j < 9223372036854775807 by omega), Option.bind_some, Int.toNat_natCast]; rw [if_pos (by omega), if_pos (by omega), if_pos (by omega), if_pos (by omega), if_pos (by omega)]) ?_
    exact specTruth_l1 hl _ (by simp; omega) _ j (by omega) (es.take (j + 1)) (by simp; omega) (es.take (j + 1)).length 0 (row0 n) (by omega) (by simp [row0]) h2
theorem specTruth_ev (n : Int) (l : List S88) (es : List S56) : Ev (fun k => spec_Truth.f k n l es) (truth n l es) := by
  unfold spec_Truth.f truth
  refine Ev.bind (specLayoutOk_ev n l) ?_
  have key : ∀ b : Bool, b = !(decide (layoutOk n l = 0 ∧ es.length ≤ 2000)) → Ev (fun k => spec_Truth.j0 k es b n l) (if layoutOk n l = 0 ∧ es.length ≤ 2000 then (List.range es.length).map fun k => truthAt n l es (k + 1) else []) := by
    intro b hb
    refine Ev.step (fun k => by simp only [spec_Truth.j0]; rfl) ?_
    by_cases h : layoutOk n l = 0 ∧ es.length ≤ 2000
    · rw [if_pos h]
      refine Ev.ite_neg (by simp [hb, h]) ?_
      simpa using specTruth_l0 h.1 h.2 es.length 0 (by omega)
    · rw [if_neg h]
      exact Ev.ite_pos (by rw [hb, decide_eq_false h]; rfl) (Ev.now _)
  by_cases h : layoutOk n l = 0
  · refine Ev.ite_pos h (key _ ?_)
    by_cases h2 : es.length ≤ 2000
    · rw [show decide ((es.length : Int) > 2000) = false from decide_eq_false (by omega), decide_eq_true (show layoutOk n l = 0 ∧ es.length ≤ 2000 from ⟨h, h2⟩)]; rfl
    · rw [show decide ((es.length : Int) > 2000) = true from decide_eq_true (by omega), decide_eq_false (show ¬ (layoutOk n l = 0 ∧ es.length ≤ 2000) from fun c => h2 c.2)]; rfl
  · exact Ev.ite_neg h (key _ (by simp [h]))
end
section
variable {n : Int} {l : List S88} {es : List S56} {R : List (List Int)}
theorem clone_int (l : List Int) (h : l.length ≤ 1000000) : slices_Clone_int_int.f l = some l := by unfold slices_Clone_int_int.f; rw [if_pos h]
theorem implTruth_j2 (hl : layoutOk n l = 0) (out : List (List Int)) (ho : out.length < 5864062014805) (row : List Int) (hrow : row.length = n.toNat) (x22 : Int) (i : Nat) (hi : i < 9223372036854775807) (e : S56) (b : Bool) (hb : b = isPass n l e)
    (h : Ev (fun k => impl_Truth.l0 k (tstep n l row e) (out ++ [tstep n l row e]) es x22 ((i + 1 : Nat) : Int) n l) R) :
    Ev (fun k => impl_Truth.j2 k row out es x22 (i : Int) b n l e.f0 e.f1 e.f2) R := by
  have hn := lay_n hl
  have hlen := tstep_length n l row e
  refine Ev.step (fun k => by simp only [impl_Truth.j2, wrap_succ hi]; rfl) ?_
  cases hp : isPass n l e with
  | false =>
    rw [hp] at hb
    simp only [tstep, hp] at h hlen
    exact Ev.ite_neg (by simp [hb]) (Ev.call (clone_int _ (by omega)) (Ev.ite_pos ho h))
  | true =>
    rw [hp] at hb
    obtain ⟨e0, e1, e2, e3, e4⟩ := isPass_of hp
    obtain ⟨c0, c1, c2, c3, c4⟩ := lay_rd hl e.f1 e1 e2
    refine Ev.ite_pos hb (Ev.ite_pos e1 (Ev.ite_pos e2 ?_))
    simp only [tstep, hp, if_true, axle] at h hlen
    by_cases h0 : 0 ≤ (rd_T88 l e.f1).f0
    · simp only [h0, if_true] at h hlen
      refine Ev.ite_pos h0 (Ev.ite_pos h0 (Ev.ite_pos (by rw [hrow]; omega) ?_))
      simp only [Option.bind_some]
      by_cases h1 : 0 ≤ (rd_T88 l e.f1).f1
      · simp only [h1, if_true] at h hlen
        exact Ev.ite_pos h1 (Ev.ite_pos h1 (Ev.ite_pos (by rw [hrow]; omega) (Ev.call (clone_int _ (by omega)) (Ev.ite_pos ho h))))
      · simp only [h1, if_false] at h hlen
        exact Ev.ite_neg h1 (Ev.call (clone_int _ (by omega)) (Ev.ite_pos ho h))
    · simp only [h0, if_false] at h hlen
      refine Ev.ite_neg h0 ?_
      by_cases h1 : 0 ≤ (rd_T88 l e.f1).f1
      · simp only [h1, if_true] at h hlen
        exact Ev.ite_pos h1 (Ev.ite_pos h1 (Ev.ite_pos (by rw [hrow]; omega) (Ev.call rfl (Ev.call (clone_int _ (by omega)) (Ev.ite_pos ho h)))))
      · simp only [h1, if_false] at h hlen
        exact Ev.ite_neg h1 (Ev.call (clone_int _ (by omega)) (Ev.ite_pos ho h))
theorem truthAt_succ {j : Nat} (h : j < es.length) : truthAt n l es (j + 1) = tstep n l (truthAt n l es j) es[j] := by
  rw [truthAt, List.take_succ_eq_append_getElem h, List.foldl_append]
  rfl
theorem implTruth_l0 (hl : layoutOk n l = 0) (he : es.length ≤ 2000) (d : Nat) : ∀ (j : Nat), j + d = es.length →
    Ev (fun k => impl_Truth.l0 k (truthAt n l es j) ((List.range j).map fun k => truthAt n l es (k + 1)) es (es.length : Int) (j : Int) n l) ((List.range es.length).map fun k => truthAt n l es (k + 1)) := by
  induction d with
  | zero =>
    intro j hj
    refine Ev.step1 fun k => ?_
    simp only [impl_Truth.l0]
    rw [if_neg (by omega), show j = es.length by omega]
  | succ d ih =>
    intro j hj
    have hlt : j < es.length := by omega
    have h2 := ih (j + 1) (by omega)
    rw [List.range_succ, List.map_append, List.map_singleton, truthAt_succ hlt] at h2
    refine Ev.step (fun k => by simp only [impl_Truth.l0, rd56 es j hlt]; rw [if_pos (by omega), if_pos (by omega), if_pos (by omega)]) ?_
    refine Ev.bind (implEventOk_ev n l _ _ _) ?_
    cases hok : eventOk n l es[j].f0 es[j].f1 es[j].f2 with
    | true => exact Ev.ite_pos rfl (implTruth_j2 hl _ (by simp; omega) _ (truthAt_length _ _ _ _) _ j (by omega) es[j] _ (by simp [isPass, hok, beq_dec]) h2)
    | false => exact Ev.ite_neg (by simp) (implTruth_j2 hl _ (by simp; omega) _ (truthAt_length _ _ _ _) _ j (by omega) es[j] _ (by simp [isPass, hok]) h2)
theorem implTruth_ev (n : Int) (l : List S88) (es : List S56) : Ev (fun k => impl_Truth.f k n l es) (truth n l es) := by
  unfold impl_Truth.f truth
  refine Ev.call (show impl_LayoutOk.f n l = some (layoutOk n l) from rfl) ?_
  have key : ∀ b : Bool, b = !(decide (layoutOk n l = 0 ∧ es.length ≤ 2000)) → Ev (fun k => impl_Truth.j0 k es b n l) (if layoutOk n l = 0 ∧ es.length ≤ 2000 then (List.range es.length).map fun k => truthAt n l es (k + 1) else []) := by
    intro b hb
    refine Ev.step (fun k => by simp only [impl_Truth.j0]; rfl) ?_
    by_cases h : layoutOk n l = 0 ∧ es.length ≤ 2000
    · have hn := lay_n h.1
      rw [if_pos h]
      refine Ev.ite_neg (by simp [hb, h]) (Ev.ite_pos (by omega) (Ev.ite_pos (by omega) ?_))
      simpa [truthAt, row0] using implTruth_l0 h.1 h.2 es.length 0 (by omega)
    · rw [if_neg h]
      exact Ev.ite_pos (by rw [hb, decide_eq_false h]; rfl) (Ev.now _)
  by_cases h : layoutOk n l = 0
  · refine Ev.ite_pos h (key _ ?_)
    by_cases h2 : es.length ≤ 2000
    · rw [show decide ((es.length : Int) > 2000) = false from decide_eq_false (by omega), decide_eq_true (show layoutOk n l = 0 ∧ es.length ≤ 2000 from ⟨h, h2⟩)]; rfl
    · rw [show decide ((es.length : Int) > 2000) = true from decide_eq_true (by omega), decide_eq_false (show ¬ (layoutOk n l = 0 ∧ es.length ≤ 2000) from fun c => h2 c.2)]; rfl
  · exact Ev.ite_neg h (key _ (by simp [h]))
end
end Go.Proofs.Ytpdnabhpkdchjaa.P
namespace Go.Proofs.Ytpdnabhpkdchjaa.P
open Go.RowKit Go.Proofs.YtpdnabhpkdchjaaW.PrintWords Go.Proofs.YtpdnabhpkdchjaaW.PrintLast Go.Proofs.YtpdnabhpkdchjaaW.PrintMore
set_option linter.unusedVariables false
section
variable {n : Int} {A : Option Addr} {c : Nat} {l : List S88} {w : World}
variable {A1 : Option Addr} {c1 : Nat} {es : List S56}
theorem truth_is (hr : Kd.C k88 w A l.length l) (hc : l.length ≤ c) (hr1 : Kd.C k56 w A1 es.length es) (hc1 : es.length ≤ c1) : Calls Try.prog 54 #[.agg #[.int .i64 n, .slice A l.length c], .slice A1 es.length c1] w fun e w' => ∃ v0_ : Value, e = .returned (v0_) ∧ Kd.S (Kd.slice 3 (Kd.int .i64)) 59 w' w.heap.size (fun _ => True) v0_ (truth n l es) ∧ Below w.heap.size w w' := by
  obtain ⟨k, h⟩ := (implTruth_ev n l es).rounds
  exact impl_Truth.calls k n A c l A1 c1 es _ w hr hc hr1 hc1 h
theorem struth_is (hr : Kd.C k88 w A l.length l) (hc : l.length ≤ c) (hr1 : Kd.C k56 w A1 es.length es) (hc1 : es.length ≤ c1) : Calls Try.prog 58 #[.agg #[.int .i64 n, .slice A l.length c], .slice A1 es.length c1] w fun e w' => ∃ v0_ : Value, e = .returned (v0_) ∧ Kd.S (Kd.slice 3 (Kd.int .i64)) 59 w' w.heap.size (fun _ => True) v0_ (truth n l es) ∧ Below w.heap.size w w' := by
  obtain ⟨k, h⟩ := (specTruth_ev n l es).rounds
  exact spec_Truth.calls k n A c l A1 c1 es _ w hr hc hr1 hc1 h
end
end Go.Proofs.Ytpdnabhpkdchjaa.P
namespace Go.Proofs.Ytpdnabhpkdchjaa.WalkFnExactTruth
open Go.RowKit Go.Proofs.YtpdnabhpkdchjaaW.PrintWords Go.Proofs.YtpdnabhpkdchjaaW.PrintLast Go.Proofs.YtpdnabhpkdchjaaW.PrintMore P
attribute [local go_sem ↓] Go.wp_at_zero Go.wp_at_succ
set_option linter.unusedVariables false
set_option linter.unusedSimpArgs false
theorem truth_bounds (n : Int) (l : List S88) (es : List S56) : (truth n l es).length ≤ 1000000000 ∧ total (truth n l es) ≤ 1000000000 := by
  by_cases h : layoutOk n l = 0 ∧ es.length ≤ 2000
  · have hn := lay_n h.1
    rw [truth, if_pos h]
    have ht : ∀ m : Nat, total ((List.range m).map fun k => truthAt n l es (k + 1)) = m * n.toNat := by
      intro m
      induction m with
      | zero => simp [total]
      | succ m ih => rw [List.range_succ, List.map_append, total_append, ih]; simp [total, truthAt_length, Nat.succ_mul]
    have h1 : es.length * n.toNat ≤ 2000 * 60 := Nat.mul_le_mul h.2 (by omega)
    refine ⟨by simp; omega, ?_⟩
    rw [ht]; omega
  · rw [truth, if_neg h]; simp [total]
set_option maxHeartbeats 16000000 in
set_option maxRecDepth 100000 in
theorem too1 (n : Int) (A : Option Addr) (c : Nat) (l : List S160) (A1 : Option Addr) (c1 : Nat) (es : List S54) (w : World) (hr : Kd.C k160 w A l.length l) (hc : l.length ≤ c) (hr1 : Kd.C k54 w A1 es.length es) (hc1 : es.length ≤ c1) (m1 : Int) (h1 : laws_szLayout.f n l 1048576 = some m1) (hm : m1 < 0) :
    Calls Try.prog 12 #[.agg #[.int .i64 n, .slice A l.length c], .slice A1 es.length c1] w fun e w' => e = .returned (.bool true) ∧ Below w.heap.size w w' := by
  have HR := Aside0.mk hr
  have HC := Aside0.mk hc
  have HE := Aside0.mk hr1
  have HEC := Aside0.mk hc1
  clear hr hc hr1 hc1
  have hmb : decide (m1 < 0) = true := decide_eq_true hm
  have H1 := Aside0.mk h1
  clear h1 hm
  go_enter Try.func12, Try.ntmps12
  go_upto_region 1 with ((with_reducible refine gate_dst (N := 2) rfl ?_); refine box_event ?hg (N := 2) ?hd (cs := #[.int .i64 n, .slice A l.length c]) (t := 25) ?hr ?_; (case hd => rfl); (case hg => rfl); (case hr => first | (go_simp; done) | (go_simp; rfl)); intro gl el w1 kl kb; have Z0 : Aside0 (w.heap.size ≤ w1.heap.size) := ⟨kb.size⟩; have F1 : Aside0 (Below w.heap.size w w1) := ⟨kb⟩; have F2 : Aside0 (w1.heap[gl]? = some (.cells #[.int .i64 n, .slice A l.length c] 25 (0, 0))) := ⟨kl⟩; have EG0 : Aside0 (gl = w.heap.size) := ⟨el⟩; have EG2 : Aside0 (gl < w1.heap.size) := ⟨blk_lt kl⟩; clear kb kl el)
  have kl0 : w1.cell? ⟨gl, 0, none⟩ = some (.int .i64 n) := (blk_cell F2.out 0).trans rfl
  have kl1 : w1.cell? ⟨gl, 1, none⟩ = some (.slice A l.length c) := (blk_cell F2.out 1).trans rfl
  go_wp2_with (go_at_call 22; refine (laws_szLayout.calls n A c l 1048576 m1 _ (Kd.C_below HR.out F1.out) HC.out H1.out).mono ?_; rintro e w2 ⟨rfl, hb⟩; have Z1 : Aside0 (w1.heap.size ≤ w2.heap.size) := ⟨hb.size⟩; have F3 : Aside0 (Below w.heap.size w w2) := ⟨below_step F1.out hb⟩; clear F1; have F4 : Aside0 (w2.heap[gl]? = some (.cells #[.int .i64 n, .slice A l.length c] 25 (0, 0))) := ⟨blk_below F2.out hb⟩; clear F2; clear hb)
  go_ret
  exact ⟨rfl, F3.out⟩
set_option maxHeartbeats 16000000 in
set_option maxRecDepth 100000 in
theorem too2 (n : Int) (A : Option Addr) (c : Nat) (l : List S160) (A1 : Option Addr) (c1 : Nat) (es : List S54) (w : World) (hr : Kd.C k160 w A l.length l) (hc : l.length ≤ c) (hr1 : Kd.C k54 w A1 es.length es) (hc1 : es.length ≤ c1) (m1 m2 : Int) (h1 : laws_szLayout.f n l 1048576 = some m1) (hm : 0 ≤ m1) (h2 : laws_szEventS.f es m1 = some m2) (hm2 : m2 < 0) :
    Calls Try.prog 12 #[.agg #[.int .i64 n, .slice A l.length c], .slice A1 es.length c1] w fun e w' => e = .returned (.bool true) ∧ Below w.heap.size w w' := by
  have HR := Aside0.mk hr
  have HC := Aside0.mk hc
  have HE := Aside0.mk hr1
  have HEC := Aside0.mk hc1
  clear hr hc hr1 hc1
  have hmb : decide (m1 < 0) = false := decide_eq_false (by omega)
  have hmb2 : decide (m2 < 0) = true := decide_eq_true hm2
  have H1 := Aside0.mk h1
  have H2 := Aside0.mk h2
  clear h1 hm h2 hm2
  go_enter Try.func12, Try.ntmps12
  go_upto_region 1 with ((with_reducible refine gate_dst (N := 2) rfl ?_); refine box_event ?hg (N := 2) ?hd (cs := #[.int .i64 n, .slice A l.length c]) (t := 25) ?hr ?_; (case hd => rfl); (case hg => rfl); (case hr => first | (go_simp; done) | (go_simp; rfl)); intro gl el w1 kl kb; have Z0 : Aside0 (w.heap.size ≤ w1.heap.size) := ⟨kb.size⟩; have F1 : Aside0 (Below w.heap.size w w1) := ⟨kb⟩; have F2 : Aside0 (w1.heap[gl]? = some (.cells #[.int .i64 n, .slice A l.length c] 25 (0, 0))) := ⟨kl⟩; have EG0 : Aside0 (gl = w.heap.size) := ⟨el⟩; have EG2 : Aside0 (gl < w1.heap.size) := ⟨blk_lt kl⟩; clear kb kl el)
  have kl0 : w1.cell? ⟨gl, 0, none⟩ = some (.int .i64 n) := (blk_cell F2.out 0).trans rfl
  have kl1 : w1.cell? ⟨gl, 1, none⟩ = some (.slice A l.length c) := (blk_cell F2.out 1).trans rfl
  go_upto_region 5 with (go_at_call 22; refine (laws_szLayout.calls n A c l 1048576 m1 _ (Kd.C_below HR.out F1.out) HC.out H1.out).mono ?_; rintro e w2 ⟨rfl, hb⟩; have Z1 : Aside0 (w1.heap.size ≤ w2.heap.size) := ⟨hb.size⟩; have F3 : Aside0 (Below w.heap.size w w2) := ⟨below_step F1.out hb⟩; clear F1; have F4 : Aside0 (w2.heap[gl]? = some (.cells #[.int .i64 n, .slice A l.length c] 25 (0, 0))) := ⟨blk_below F2.out hb⟩; clear F2; clear hb)
  clear kl0 kl1
  go_wp2_with (go_at_call 48; refine (laws_szEventS.calls A1 c1 es m1 m2 _ (Kd.C_below HE.out F3.out) HEC.out H2.out).mono ?_; rintro e w3 ⟨rfl, hb0⟩; have hb := hb0.below; have Z2 : Aside0 (w2.heap.size ≤ w3.heap.size) := ⟨hb.size⟩; have F5 : Aside0 (Below w.heap.size w w3) := ⟨below_step F3.out hb⟩; clear F3; have F6 : Aside0 (w3.heap[gl]? = some (.cells #[.int .i64 n, .slice A l.length c] 25 (0, 0))) := ⟨blk_below F4.out hb⟩; clear F4; clear hb; clear hb0)
  go_ret
  exact ⟨rfl, F5.out⟩
set_option maxHeartbeats 16000000 in
set_option maxRecDepth 100000 in
theorem whole (n : Int) (A : Option Addr) (c : Nat) (l : List S160) (A1 : Option Addr) (c1 : Nat) (es : List S54) (w : World) (hr : Kd.C k160 w A l.length l) (hc : l.length ≤ c) (hr1 : Kd.C k54 w A1 es.length es) (hc1 : es.length ≤ c1) (m1 m2 : Int) (h1 : laws_szLayout.f n l 1048576 = some m1) (hm : 0 ≤ m1) (h2 : laws_szEventS.f es m1 = some m2) (hm2 : 0 ≤ m2) (lc : List S88) (ec : List S56) (hcl : lc.length ≤ 1048576) (hel : ec.length ≤ 1048576) (evTL : Ev (fun k => laws_toLayout.f k n l) (n, lc)) (evTE : Ev (fun k => laws_toEventS.f k es) ec) :
    Calls Try.prog 12 #[.agg #[.int .i64 n, .slice A l.length c], .slice A1 es.length c1] w fun e w' => e = .returned (.bool true) ∧ Below w.heap.size w w' := by
  have HR := Aside0.mk hr
  have HC := Aside0.mk hc
  have HE := Aside0.mk hr1
  have HEC := Aside0.mk hc1
  clear hr hc hr1 hc1
  have hmb : decide (m1 < 0) = false := decide_eq_false (by omega)
  have hmb2 : decide (m2 < 0) = false := decide_eq_false (by omega)
  have H1 := Aside0.mk h1
  have H2 := Aside0.mk h2
  clear h1 hm h2 hm2
  have HRL := Aside0.mk (truth_bounds n lc ec)
  obtain ⟨kTL, hTL⟩ := (evTL).rounds
  have ETL := Aside0.mk hTL
  clear hTL
  obtain ⟨kTE, hTE⟩ := (evTE).rounds
  have ETE := Aside0.mk hTE
  clear hTE
  obtain ⟨kEL, hEL⟩ := (eqLayout_ev n lc hcl).rounds
  have EEL := Aside0.mk hEL
  clear hEL
  obtain ⟨kEE, hEE⟩ := (eqEventS_ev ec hel).rounds
  have EEE := Aside0.mk hEE
  clear hEE
  obtain ⟨kML, hML⟩ := (markLayout_ev n lc 1 (by omega) (by omega)).rounds
  have EML := Aside0.mk hML
  clear hML
  obtain ⟨rME, hrME⟩ := markEventS_ev ec (1 + 2 * (lc.length : Int)) hel (by omega) (by omega)
  obtain ⟨kME, hME⟩ := (hrME).rounds
  have EME := Aside0.mk hME
  clear hME
  clear hrME
  generalize hk2 : ((1 + 2 * (lc.length : Int)) + 3 * (ec.length : Int)) = k2 at EME
  have hk2b : decide (k2 < 0) = false := decide_eq_false (by omega)
  clear hk2
  generalize hk1 : (1 + 2 * (lc.length : Int)) = k1 at EME EML
  clear hk1
  have hmp : decide ((1 + (total (truth n lc ec) : Int)) < 0) = false := decide_eq_false (by omega)
  clear hcl hel evTL evTE
  go_enter Try.func12, Try.ntmps12
  go_upto_region 1 with ((with_reducible refine gate_dst (N := 2) rfl ?_); refine box_event ?hg (N := 2) ?hd (cs := #[.int .i64 n, .slice A l.length c]) (t := 25) ?hr ?_; (case hd => rfl); (case hg => rfl); (case hr => first | (go_simp; done) | (go_simp; rfl)); intro gl el w1 kl kb; have Z0 : Aside0 (w.heap.size ≤ w1.heap.size) := ⟨kb.size⟩; have F1 : Aside0 (Below w.heap.size w w1) := ⟨kb⟩; have F2 : Aside0 (w1.heap[gl]? = some (.cells #[.int .i64 n, .slice A l.length c] 25 (0, 0))) := ⟨kl⟩; have EG0 : Aside0 (gl = w.heap.size) := ⟨el⟩; have EG2 : Aside0 (gl < w1.heap.size) := ⟨blk_lt kl⟩; clear kb kl el)
  have kl0 : w1.cell? ⟨gl, 0, none⟩ = some (.int .i64 n) := (blk_cell F2.out 0).trans rfl
  have kl1 : w1.cell? ⟨gl, 1, none⟩ = some (.slice A l.length c) := (blk_cell F2.out 1).trans rfl
  go_upto_region 5 with (go_at_call 22; refine (laws_szLayout.calls n A c l 1048576 m1 _ (Kd.C_below HR.out F1.out) HC.out H1.out).mono ?_; rintro e w2 ⟨rfl, hb⟩; have Z1 : Aside0 (w1.heap.size ≤ w2.heap.size) := ⟨hb.size⟩; have F3 : Aside0 (Below w.heap.size w w2) := ⟨below_step F1.out hb⟩; clear F1; have F4 : Aside0 (w2.heap[gl]? = some (.cells #[.int .i64 n, .slice A l.length c] 25 (0, 0))) := ⟨blk_below F2.out hb⟩; clear F2; clear hb)
  clear kl0 kl1
  go_upto_region 8 with (go_at_call 48; refine (laws_szEventS.calls A1 c1 es m1 m2 _ (Kd.C_below HE.out F3.out) HEC.out H2.out).mono ?_; rintro e w3 ⟨rfl, hb0⟩; have hb := hb0.below; have Z2 : Aside0 (w2.heap.size ≤ w3.heap.size) := ⟨hb.size⟩; have F5 : Aside0 (Below w.heap.size w w3) := ⟨below_step F3.out hb⟩; clear F3; have F6 : Aside0 (w3.heap[gl]? = some (.cells #[.int .i64 n, .slice A l.length c] 25 (0, 0))) := ⟨blk_below F4.out hb⟩; clear F4; clear hb; clear hb0)
  have kl0 : w3.cell? ⟨gl, 0, none⟩ = some (.int .i64 n) := (blk_cell F6.out 0).trans rfl
  have kl1 : w3.cell? ⟨gl, 1, none⟩ = some (.slice A l.length c) := (blk_cell F6.out 1).trans rfl
  go_upto_region 9 with (first | (go_at_call 24; refine (laws_toLayout.calls kTL n A c l n lc _ (Kd.C_below HR.out F5.out) HC.out ETL.out).mono ?_; rintro e w4 ⟨v, rfl, ho, hb⟩; have BSZ := (F5.out).size; have Z3 : Aside0 (w3.heap.size ≤ w4.heap.size) := ⟨hb.size⟩; have F7 : Aside0 (Below w.heap.size w w4) := ⟨below_step F5.out hb⟩; clear F5; have F8 : Aside0 (w4.heap[gl]? = some (.cells #[.int .i64 n, .slice A l.length c] 25 (0, 0))) := ⟨blk_below F6.out hb⟩; clear F6; obtain ⟨A4, c4, rfl⟩ := Kd.R_slice ho; have F9 : Aside0 (Kd.R k88 88 w4 w.heap.size (fun k => w3.heap.size ≤ k ∧ k < w4.heap.size) (.slice A4 lc.length c4) lc) := ⟨Kd.R_mono (Kd.R_lower (Kd.R_bound ho) BSZ) (fun k hq => ⟨hq.2.1, hq.2.2.1⟩)⟩; clear ho; clear hb BSZ) | (go_at_call 50; refine (laws_toEventS.calls kTE A1 c1 es ec _ (Kd.C_below HE.out F7.out) HEC.out ETE.out).mono ?_; rintro e w5 ⟨v, rfl, ho, hb⟩; have BSZ := (F7.out).size; have Z4 : Aside0 (w4.heap.size ≤ w5.heap.size) := ⟨hb.size⟩; have F10 : Aside0 (Below w.heap.size w w5) := ⟨below_step F7.out hb⟩; clear F7; have F11 : Aside0 (w5.heap[gl]? = some (.cells #[.int .i64 n, .slice A l.length c] 25 (0, 0))) := ⟨blk_below F8.out hb⟩; clear F8; have F12 : Aside0 (Kd.R k88 88 w5 w.heap.size (fun k => w3.heap.size ≤ k ∧ k < w4.heap.size) (.slice A4 lc.length c4) lc) := ⟨Kd.R_below F9.out hb⟩; clear F9; obtain ⟨A5, c5, rfl⟩ := Kd.R_slice ho; have F13 : Aside0 (Kd.R k56 56 w5 w.heap.size (fun k => w4.heap.size ≤ k ∧ k < w5.heap.size) (.slice A5 ec.length c5) ec) := ⟨Kd.R_mono (Kd.R_lower (Kd.R_bound ho) BSZ) (fun k hq => ⟨hq.2.1, hq.2.2.1⟩)⟩; clear ho; clear hb BSZ) | (go_at_call 58; refine (struth_is (Kd.R_reads' F12.out).2.2 (Kd.R_reads' F12.out).2.1 (Kd.R_reads' F13.out).2.2 (Kd.R_reads' F13.out).2.1).mono ?_; rintro e w6 ⟨v, rfl, ho, hb⟩; have BSZ := (F10.out).size; have Z5 : Aside0 (w5.heap.size ≤ w6.heap.size) := ⟨hb.size⟩; have F14 : Aside0 (Below w.heap.size w w6) := ⟨below_step F10.out hb⟩; clear F10; have F15 : Aside0 (w6.heap[gl]? = some (.cells #[.int .i64 n, .slice A l.length c] 25 (0, 0))) := ⟨blk_below F11.out hb⟩; clear F11; have F16 : Aside0 (Kd.R k88 88 w6 w.heap.size (fun k => w3.heap.size ≤ k ∧ k < w4.heap.size) (.slice A4 lc.length c4) lc) := ⟨Kd.R_below F12.out hb⟩; clear F12; have F17 : Aside0 (Kd.R k56 56 w6 w.heap.size (fun k => w4.heap.size ≤ k ∧ k < w5.heap.size) (.slice A5 ec.length c5) ec) := ⟨Kd.R_below F13.out hb⟩; clear F13; obtain ⟨A6, c6, rfl⟩ := Kd.S_slice ho; have F18 : Aside0 (Kd.S (Kd.slice 3 (Kd.int .i64)) 59 w6 w.heap.size (fun k => w5.heap.size ≤ k ∧ k < w6.heap.size) (.slice A6 (truth n lc ec).length c6) (truth n lc ec)) := ⟨Kd.S_mono (Kd.S_lower (Kd.S_bound ho) BSZ) (fun k hq => ⟨hq.2.1, hq.2.2.1⟩)⟩; clear ho; clear hb BSZ))
  clear kl0 kl1
  clear F16
  clear F17
  have kl0 : w6.cell? ⟨gl, 0, none⟩ = some (.int .i64 n) := (blk_cell F15.out 0).trans rfl
  have kl1 : w6.cell? ⟨gl, 1, none⟩ = some (.slice A l.length c) := (blk_cell F15.out 1).trans rfl
  go_upto_region 10 with (first | (go_at_call 24; refine (laws_toLayout.calls kTL n A c l n lc _ (Kd.C_below HR.out F14.out) HC.out ETL.out).mono ?_; rintro e w7 ⟨v, rfl, ho, hb⟩; have BSZ := (F14.out).size; have Z6 : Aside0 (w6.heap.size ≤ w7.heap.size) := ⟨hb.size⟩; have F19 : Aside0 (Below w.heap.size w w7) := ⟨below_step F14.out hb⟩; clear F14; have F20 : Aside0 (w7.heap[gl]? = some (.cells #[.int .i64 n, .slice A l.length c] 25 (0, 0))) := ⟨blk_below F15.out hb⟩; clear F15; have F21 : Aside0 (Kd.S (Kd.slice 3 (Kd.int .i64)) 59 w7 w.heap.size (fun k => w5.heap.size ≤ k ∧ k < w6.heap.size) (.slice A6 (truth n lc ec).length c6) (truth n lc ec)) := ⟨Kd.S_below F18.out hb⟩; clear F18; obtain ⟨A7, c7, rfl⟩ := Kd.R_slice ho; have F22 : Aside0 (Kd.R k88 88 w7 w.heap.size (fun k => w6.heap.size ≤ k ∧ k < w7.heap.size) (.slice A7 lc.length c7) lc) := ⟨Kd.R_mono (Kd.R_lower (Kd.R_bound ho) BSZ) (fun k hq => ⟨hq.2.1, hq.2.2.1⟩)⟩; clear ho; clear hb BSZ) | ((with_reducible refine gate_dst (N := 7) rfl ?_); refine box_event ?hg (N := 7) ?hd (cs := #[.int .i64 0, .slice none 0 0]) (t := 30) ?hr ?_; (case hd => rfl); (case hg => rfl); (case hr => first | (go_simp; done) | (go_simp; rfl)); intro gx ex w8 kx bx; have zx0 := blk_frozen kx 0; have zx1 := blk_frozen kx 1; have kx0 := (blk_cell kx 0).trans (show _ = some (Value.int .i64 0) from rfl); have kx1 := (blk_cell kx 1).trans (show _ = some (Value.slice none 0 0) from rfl); have KX := Aside0.mk kx; have EX := Aside0.mk ex; have BX := Aside0.mk bx; clear kx ex bx))
  clear kl0 kl1
  have KY := Aside0.mk (blk_put (blk_put KX.out 0 (.int .i64 n) rfl) 1 (.slice A7 lc.length c7) rfl)
  have BY := Aside0.mk (below_set (j := 1) (v := (.slice A7 lc.length c7)) (below_set (j := 0) (v := .int .i64 n) BX.out (Nat.le_of_eq EX.out.symm)) (Nat.le_of_eq EX.out.symm))
  clear KX BX zx0 zx1 kx0 kx1
  generalize ((w8.setCell ⟨gx, 0, none⟩ (.int .i64 n)).setCell ⟨gx, 1, none⟩ (.slice A7 lc.length c7)) = w9 at KY BY ⊢
  have Z7 : Aside0 (w7.heap.size ≤ w9.heap.size) := ⟨BY.out.size⟩
  have F23 : Aside0 (Below w.heap.size w w9) := ⟨below_step F19.out BY.out⟩
  clear F19
  have F24 : Aside0 (w9.heap[gl]? = some (.cells #[.int .i64 n, .slice A l.length c] 25 (0, 0))) := ⟨blk_below F20.out BY.out⟩
  clear F20
  have F25 : Aside0 (Kd.S (Kd.slice 3 (Kd.int .i64)) 59 w9 w.heap.size (fun k => w5.heap.size ≤ k ∧ k < w6.heap.size) (.slice A6 (truth n lc ec).length c6) (truth n lc ec)) := ⟨Kd.S_below F21.out BY.out⟩
  clear F21
  have F26 : Aside0 (Kd.R k88 88 w9 w.heap.size (fun k => w6.heap.size ≤ k ∧ k < w7.heap.size) (.slice A7 lc.length c7) lc) := ⟨Kd.R_below F22.out BY.out⟩
  clear F22
  clear BY
  have EX2 : Aside0 (gx < w9.heap.size) := ⟨blk_lt KY.out⟩
  go_upto_region 11 with (go_at_call 50; refine (laws_toEventS.calls kTE A1 c1 es ec _ (Kd.C_below HE.out F23.out) HEC.out ETE.out).mono ?_; rintro e w10 ⟨v, rfl, ho, hb⟩; have BSZ := (F23.out).size; have Z8 : Aside0 (w9.heap.size ≤ w10.heap.size) := ⟨hb.size⟩; have F27 : Aside0 (Below w.heap.size w w10) := ⟨below_step F23.out hb⟩; clear F23; have F28 : Aside0 (w10.heap[gl]? = some (.cells #[.int .i64 n, .slice A l.length c] 25 (0, 0))) := ⟨blk_below F24.out hb⟩; clear F24; have F29 : Aside0 (Kd.S (Kd.slice 3 (Kd.int .i64)) 59 w10 w.heap.size (fun k => w5.heap.size ≤ k ∧ k < w6.heap.size) (.slice A6 (truth n lc ec).length c6) (truth n lc ec)) := ⟨Kd.S_below F25.out hb⟩; clear F25; have F30 : Aside0 (Kd.R k88 88 w10 w.heap.size (fun k => w6.heap.size ≤ k ∧ k < w7.heap.size) (.slice A7 lc.length c7) lc) := ⟨Kd.R_below F26.out hb⟩; clear F26; have F31 : Aside0 (w10.heap[gx]? = some (.cells #[.int .i64 n, (.slice A7 lc.length c7)] 30 (0, 0))) := ⟨blk_below KY.out hb⟩; clear KY; obtain ⟨A10, c10, rfl⟩ := Kd.R_slice ho; have F32 : Aside0 (Kd.R k56 56 w10 w.heap.size (fun k => w9.heap.size ≤ k ∧ k < w10.heap.size) (.slice A10 ec.length c10) ec) := ⟨Kd.R_mono (Kd.R_lower (Kd.R_bound ho) BSZ) (fun k hq => ⟨hq.2.1, hq.2.2.1⟩)⟩; clear ho; clear hb BSZ)
  have kx0 : w10.cell? ⟨gx, 0, none⟩ = some (.int .i64 n) := (blk_cell F31.out 0).trans rfl
  have kx1 : w10.cell? ⟨gx, 1, none⟩ = some ((.slice A7 lc.length c7)) := (blk_cell F31.out 1).trans rfl
  go_upto_region 12 with (go_at_call 54; refine (truth_is (Kd.R_reads' F30.out).2.2 (Kd.R_reads' F30.out).2.1 (Kd.R_reads' F32.out).2.2 (Kd.R_reads' F32.out).2.1).mono ?_; rintro e w11 ⟨v, rfl, ho, hb⟩; have BSZ := (F27.out).size; have Z9 : Aside0 (w10.heap.size ≤ w11.heap.size) := ⟨hb.size⟩; have F33 : Aside0 (Below w.heap.size w w11) := ⟨below_step F27.out hb⟩; clear F27; have F34 : Aside0 (w11.heap[gl]? = some (.cells #[.int .i64 n, .slice A l.length c] 25 (0, 0))) := ⟨blk_below F28.out hb⟩; clear F28; have F35 : Aside0 (Kd.S (Kd.slice 3 (Kd.int .i64)) 59 w11 w.heap.size (fun k => w5.heap.size ≤ k ∧ k < w6.heap.size) (.slice A6 (truth n lc ec).length c6) (truth n lc ec)) := ⟨Kd.S_below F29.out hb⟩; clear F29; have F36 : Aside0 (Kd.R k88 88 w11 w.heap.size (fun k => w6.heap.size ≤ k ∧ k < w7.heap.size) (.slice A7 lc.length c7) lc) := ⟨Kd.R_below F30.out hb⟩; clear F30; have F37 : Aside0 (w11.heap[gx]? = some (.cells #[.int .i64 n, (.slice A7 lc.length c7)] 30 (0, 0))) := ⟨blk_below F31.out hb⟩; clear F31; have F38 : Aside0 (Kd.R k56 56 w11 w.heap.size (fun k => w9.heap.size ≤ k ∧ k < w10.heap.size) (.slice A10 ec.length c10) ec) := ⟨Kd.R_below F32.out hb⟩; clear F32; obtain ⟨A11, c11, rfl⟩ := Kd.S_slice ho; have F39 : Aside0 (Kd.S (Kd.slice 3 (Kd.int .i64)) 59 w11 w.heap.size (fun k => w10.heap.size ≤ k ∧ k < w11.heap.size) (.slice A11 (truth n lc ec).length c11) (truth n lc ec)) := ⟨Kd.S_mono (Kd.S_lower (Kd.S_bound ho) BSZ) (fun k hq => ⟨hq.2.1, hq.2.2.1⟩)⟩; clear ho; clear hb BSZ)
  clear kx0 kx1
  go_upto_region 14 with (go_at_call 59; refine (eqSS_any F39.out F35.out HRL.out.1 HRL.out.2).mono ?_; rintro e w12 ⟨rfl, hb⟩; have Z10 : Aside0 (w11.heap.size ≤ w12.heap.size) := ⟨hb.size⟩; have F40 : Aside0 (Below w.heap.size w w12) := ⟨below_step F33.out hb⟩; clear F33; have F41 : Aside0 (w12.heap[gl]? = some (.cells #[.int .i64 n, .slice A l.length c] 25 (0, 0))) := ⟨blk_below F34.out hb⟩; clear F34; have F42 : Aside0 (Kd.S (Kd.slice 3 (Kd.int .i64)) 59 w12 w.heap.size (fun k => w5.heap.size ≤ k ∧ k < w6.heap.size) (.slice A6 (truth n lc ec).length c6) (truth n lc ec)) := ⟨Kd.S_below F35.out hb⟩; clear F35; have F43 : Aside0 (Kd.R k88 88 w12 w.heap.size (fun k => w6.heap.size ≤ k ∧ k < w7.heap.size) (.slice A7 lc.length c7) lc) := ⟨Kd.R_below F36.out hb⟩; clear F36; have F44 : Aside0 (w12.heap[gx]? = some (.cells #[.int .i64 n, (.slice A7 lc.length c7)] 30 (0, 0))) := ⟨blk_below F37.out hb⟩; clear F37; have F45 : Aside0 (Kd.R k56 56 w12 w.heap.size (fun k => w9.heap.size ≤ k ∧ k < w10.heap.size) (.slice A10 ec.length c10) ec) := ⟨Kd.R_below F38.out hb⟩; clear F38; have F46 : Aside0 (Kd.S (Kd.slice 3 (Kd.int .i64)) 59 w12 w.heap.size (fun k => w10.heap.size ≤ k ∧ k < w11.heap.size) (.slice A11 (truth n lc ec).length c11) (truth n lc ec)) := ⟨Kd.S_below F39.out hb⟩; clear F39; clear hb)
  have kl0 : w12.cell? ⟨gl, 0, none⟩ = some (.int .i64 n) := (blk_cell F41.out 0).trans rfl
  have kl1 : w12.cell? ⟨gl, 1, none⟩ = some (.slice A l.length c) := (blk_cell F41.out 1).trans rfl
  have kx0 : w12.cell? ⟨gx, 0, none⟩ = some (.int .i64 n) := (blk_cell F44.out 0).trans rfl
  have kx1 : w12.cell? ⟨gx, 1, none⟩ = some ((.slice A7 lc.length c7)) := (blk_cell F44.out 1).trans rfl
  have Z11 : Aside0 (w12.heap.size ≤ w12.drew.heap.size) := ⟨(below_drew1 (Below.refl w12.heap.size w12)).size⟩
  have F47 : Aside0 (Below w.heap.size w w12.drew) := ⟨below_step F40.out (below_drew1 (Below.refl w12.heap.size w12))⟩
  clear F40
  have F48 : Aside0 (w12.drew.heap[gl]? = some (.cells #[.int .i64 n, .slice A l.length c] 25 (0, 0))) := ⟨blk_below F41.out (below_drew1 (Below.refl w12.heap.size w12))⟩
  clear F41
  have F49 : Aside0 (Kd.S (Kd.slice 3 (Kd.int .i64)) 59 w12.drew w.heap.size (fun k => w5.heap.size ≤ k ∧ k < w6.heap.size) (.slice A6 (truth n lc ec).length c6) (truth n lc ec)) := ⟨Kd.S_below F42.out (below_drew1 (Below.refl w12.heap.size w12))⟩
  clear F42
  have F50 : Aside0 (Kd.R k88 88 w12.drew w.heap.size (fun k => w6.heap.size ≤ k ∧ k < w7.heap.size) (.slice A7 lc.length c7) lc) := ⟨Kd.R_below F43.out (below_drew1 (Below.refl w12.heap.size w12))⟩
  clear F43
  have F51 : Aside0 (w12.drew.heap[gx]? = some (.cells #[.int .i64 n, (.slice A7 lc.length c7)] 30 (0, 0))) := ⟨blk_below F44.out (below_drew1 (Below.refl w12.heap.size w12))⟩
  clear F44
  have F52 : Aside0 (Kd.R k56 56 w12.drew w.heap.size (fun k => w9.heap.size ≤ k ∧ k < w10.heap.size) (.slice A10 ec.length c10) ec) := ⟨Kd.R_below F45.out (below_drew1 (Below.refl w12.heap.size w12))⟩
  clear F45
  have F53 : Aside0 (Kd.S (Kd.slice 3 (Kd.int .i64)) 59 w12.drew w.heap.size (fun k => w10.heap.size ≤ k ∧ k < w11.heap.size) (.slice A11 (truth n lc ec).length c11) (truth n lc ec)) := ⟨Kd.S_below F46.out (below_drew1 (Below.refl w12.heap.size w12))⟩
  clear F46
  go_region_held3 (fun w' => w'.cell? ⟨gl, 0, none⟩ = some (.int .i64 n) ∧ w'.cell? ⟨gl, 1, none⟩ = some (.slice A l.length c) ∧ w'.cell? ⟨gx, 0, none⟩ = some (.int .i64 n) ∧ w'.cell? ⟨gx, 1, none⟩ = some (.slice A7 lc.length c7))
    (first | go_keep | (go_split_ands; (repeat' apply And.intro) <;> (refine pw_cell_below hbk.out ?_; assumption)))
    (first | (go_at_call 24; refine (laws_toLayout.calls kTL n A c l n lc _ (Kd.C_below HR.out F47.out) HC.out ETL.out).mono ?_; rintro e w13 ⟨v, rfl, ho, hb⟩; have BSZ := (F47.out).size; have Z12 : Aside0 (w12.drew.heap.size ≤ w13.heap.size) := ⟨hb.size⟩; have F54 : Aside0 (Below w.heap.size w w13) := ⟨below_step F47.out hb⟩; clear F47; have F55 : Aside0 (w13.heap[gl]? = some (.cells #[.int .i64 n, .slice A l.length c] 25 (0, 0))) := ⟨blk_below F48.out hb⟩; clear F48; have F56 : Aside0 (Kd.S (Kd.slice 3 (Kd.int .i64)) 59 w13 w.heap.size (fun k => w5.heap.size ≤ k ∧ k < w6.heap.size) (.slice A6 (truth n lc ec).length c6) (truth n lc ec)) := ⟨Kd.S_below F49.out hb⟩; clear F49; have F57 : Aside0 (Kd.R k88 88 w13 w.heap.size (fun k => w6.heap.size ≤ k ∧ k < w7.heap.size) (.slice A7 lc.length c7) lc) := ⟨Kd.R_below F50.out hb⟩; clear F50; have F58 : Aside0 (w13.heap[gx]? = some (.cells #[.int .i64 n, (.slice A7 lc.length c7)] 30 (0, 0))) := ⟨blk_below F51.out hb⟩; clear F51; have F59 : Aside0 (Kd.R k56 56 w13 w.heap.size (fun k => w9.heap.size ≤ k ∧ k < w10.heap.size) (.slice A10 ec.length c10) ec) := ⟨Kd.R_below F52.out hb⟩; clear F52; have F60 : Aside0 (Kd.S (Kd.slice 3 (Kd.int .i64)) 59 w13 w.heap.size (fun k => w10.heap.size ≤ k ∧ k < w11.heap.size) (.slice A11 (truth n lc ec).length c11) (truth n lc ec)) := ⟨Kd.S_below F53.out hb⟩; clear F53; obtain ⟨A13, c13, rfl⟩ := Kd.R_slice ho; have F61 : Aside0 (Kd.R k88 88 w13 w.heap.size (fun k => w12.drew.heap.size ≤ k ∧ k < w13.heap.size) (.slice A13 lc.length c13) lc) := ⟨Kd.R_mono (Kd.R_lower (Kd.R_bound ho) BSZ) (fun k hq => ⟨hq.2.1, hq.2.2.1⟩)⟩; clear ho; have hbk := Aside0.mk hb; clear hb BSZ) | (go_at_call 26; refine (laws_eqLayout.calls kEL n _ _ lc n _ _ lc true _ (Kd.R_reads' F57.out).2.2 (Kd.R_reads' F57.out).2.1 (Kd.R_reads' F61.out).2.2 (Kd.R_reads' F61.out).2.1 EEL.out).mono ?_; rintro e w14 ⟨rfl, hb⟩; have Z13 : Aside0 (w13.heap.size ≤ w14.heap.size) := ⟨hb.size⟩; have F62 : Aside0 (Below w.heap.size w w14) := ⟨below_step F54.out hb⟩; clear F54; have F63 : Aside0 (w14.heap[gl]? = some (.cells #[.int .i64 n, .slice A l.length c] 25 (0, 0))) := ⟨blk_below F55.out hb⟩; clear F55; have F64 : Aside0 (Kd.S (Kd.slice 3 (Kd.int .i64)) 59 w14 w.heap.size (fun k => w5.heap.size ≤ k ∧ k < w6.heap.size) (.slice A6 (truth n lc ec).length c6) (truth n lc ec)) := ⟨Kd.S_below F56.out hb⟩; clear F56; have F65 : Aside0 (Kd.R k88 88 w14 w.heap.size (fun k => w6.heap.size ≤ k ∧ k < w7.heap.size) (.slice A7 lc.length c7) lc) := ⟨Kd.R_below F57.out hb⟩; clear F57; have F66 : Aside0 (w14.heap[gx]? = some (.cells #[.int .i64 n, (.slice A7 lc.length c7)] 30 (0, 0))) := ⟨blk_below F58.out hb⟩; clear F58; have F67 : Aside0 (Kd.R k56 56 w14 w.heap.size (fun k => w9.heap.size ≤ k ∧ k < w10.heap.size) (.slice A10 ec.length c10) ec) := ⟨Kd.R_below F59.out hb⟩; clear F59; have F68 : Aside0 (Kd.S (Kd.slice 3 (Kd.int .i64)) 59 w14 w.heap.size (fun k => w10.heap.size ≤ k ∧ k < w11.heap.size) (.slice A11 (truth n lc ec).length c11) (truth n lc ec)) := ⟨Kd.S_below F60.out hb⟩; clear F60; have F69 : Aside0 (Kd.R k88 88 w14 w.heap.size (fun k => w12.drew.heap.size ≤ k ∧ k < w13.heap.size) (.slice A13 lc.length c13) lc) := ⟨Kd.R_below F61.out hb⟩; clear F61; have hbk := Aside0.mk hb; clear hb))
  clear kl0 kl1 kx0 kx1
  clear F69
  go_upto_region 16 with fail
  go_upto_region 18 with (first | (go_at_call 50; refine (laws_toEventS.calls kTE A1 c1 es ec _ (Kd.C_below HE.out F62.out) HEC.out ETE.out).mono ?_; rintro e w15 ⟨v, rfl, ho, hb⟩; have BSZ := (F62.out).size; have Z14 : Aside0 (w14.heap.size ≤ w15.heap.size) := ⟨hb.size⟩; have F70 : Aside0 (Below w.heap.size w w15) := ⟨below_step F62.out hb⟩; clear F62; have F71 : Aside0 (w15.heap[gl]? = some (.cells #[.int .i64 n, .slice A l.length c] 25 (0, 0))) := ⟨blk_below F63.out hb⟩; clear F63; have F72 : Aside0 (Kd.S (Kd.slice 3 (Kd.int .i64)) 59 w15 w.heap.size (fun k => w5.heap.size ≤ k ∧ k < w6.heap.size) (.slice A6 (truth n lc ec).length c6) (truth n lc ec)) := ⟨Kd.S_below F64.out hb⟩; clear F64; have F73 : Aside0 (Kd.R k88 88 w15 w.heap.size (fun k => w6.heap.size ≤ k ∧ k < w7.heap.size) (.slice A7 lc.length c7) lc) := ⟨Kd.R_below F65.out hb⟩; clear F65; have F74 : Aside0 (w15.heap[gx]? = some (.cells #[.int .i64 n, (.slice A7 lc.length c7)] 30 (0, 0))) := ⟨blk_below F66.out hb⟩; clear F66; have F75 : Aside0 (Kd.R k56 56 w15 w.heap.size (fun k => w9.heap.size ≤ k ∧ k < w10.heap.size) (.slice A10 ec.length c10) ec) := ⟨Kd.R_below F67.out hb⟩; clear F67; have F76 : Aside0 (Kd.S (Kd.slice 3 (Kd.int .i64)) 59 w15 w.heap.size (fun k => w10.heap.size ≤ k ∧ k < w11.heap.size) (.slice A11 (truth n lc ec).length c11) (truth n lc ec)) := ⟨Kd.S_below F68.out hb⟩; clear F68; obtain ⟨A15, c15, rfl⟩ := Kd.R_slice ho; have F77 : Aside0 (Kd.R k56 56 w15 w.heap.size (fun k => w14.heap.size ≤ k ∧ k < w15.heap.size) (.slice A15 ec.length c15) ec) := ⟨Kd.R_mono (Kd.R_lower (Kd.R_bound ho) BSZ) (fun k hq => ⟨hq.2.1, hq.2.2.1⟩)⟩; clear ho; clear hb BSZ) | (go_at_call 52; refine (laws_eqEventS.calls kEE _ _ ec _ _ ec true _ (Kd.R_reads' F75.out).2.2 (Kd.R_reads' F75.out).2.1 (Kd.R_reads' F77.out).2.2 (Kd.R_reads' F77.out).2.1 EEE.out).mono ?_; rintro e w16 ⟨rfl, hb⟩; have Z15 : Aside0 (w15.heap.size ≤ w16.heap.size) := ⟨hb.size⟩; have F78 : Aside0 (Below w.heap.size w w16) := ⟨below_step F70.out hb⟩; clear F70; have F79 : Aside0 (w16.heap[gl]? = some (.cells #[.int .i64 n, .slice A l.length c] 25 (0, 0))) := ⟨blk_below F71.out hb⟩; clear F71; have F80 : Aside0 (Kd.S (Kd.slice 3 (Kd.int .i64)) 59 w16 w.heap.size (fun k => w5.heap.size ≤ k ∧ k < w6.heap.size) (.slice A6 (truth n lc ec).length c6) (truth n lc ec)) := ⟨Kd.S_below F72.out hb⟩; clear F72; have F81 : Aside0 (Kd.R k88 88 w16 w.heap.size (fun k => w6.heap.size ≤ k ∧ k < w7.heap.size) (.slice A7 lc.length c7) lc) := ⟨Kd.R_below F73.out hb⟩; clear F73; have F82 : Aside0 (w16.heap[gx]? = some (.cells #[.int .i64 n, (.slice A7 lc.length c7)] 30 (0, 0))) := ⟨blk_below F74.out hb⟩; clear F74; have F83 : Aside0 (Kd.R k56 56 w16 w.heap.size (fun k => w9.heap.size ≤ k ∧ k < w10.heap.size) (.slice A10 ec.length c10) ec) := ⟨Kd.R_below F75.out hb⟩; clear F75; have F84 : Aside0 (Kd.S (Kd.slice 3 (Kd.int .i64)) 59 w16 w.heap.size (fun k => w10.heap.size ≤ k ∧ k < w11.heap.size) (.slice A11 (truth n lc ec).length c11) (truth n lc ec)) := ⟨Kd.S_below F76.out hb⟩; clear F76; have F85 : Aside0 (Kd.R k56 56 w16 w.heap.size (fun k => w14.heap.size ≤ k ∧ k < w15.heap.size) (.slice A15 ec.length c15) ec) := ⟨Kd.R_below F77.out hb⟩; clear F77; clear hb))
  clear F85
  have kx0 : w16.cell? ⟨gx, 0, none⟩ = some (.int .i64 n) := (blk_cell F82.out 0).trans rfl
  have kx1 : w16.cell? ⟨gx, 1, none⟩ = some ((.slice A7 lc.length c7)) := (blk_cell F82.out 1).trans rfl
  go_upto_region 20 with (go_at_call 40; refine (laws_markLayout.calls kML n (fun k => w6.heap.size ≤ k ∧ k < w7.heap.size) _ lc 1 k1 _ w _ F78.out F81.out EML.out).mono ?_; rintro e w17 ⟨rfl, hm, hB, hk⟩; have hBB := hB; have Z16 : Aside0 (w16.heap.size ≤ w17.heap.size) := ⟨hk.1⟩; have F86 : Aside0 (Below w.heap.size w w17) := ⟨hB⟩; clear F78; have F87 : Aside0 (w17.heap[gl]? = some (.cells #[.int .i64 n, .slice A l.length c] 25 (0, 0))) := ⟨blk_kept F79.out hk (fun hq => by obtain ⟨hq1, hq2⟩ := hq; have := EG0.out; have := EG2.out; have := Z1.out; have := Z2.out; have := Z3.out; have := Z4.out; have := Z5.out; omega)⟩; clear F79; have F88 : Aside0 (Kd.S (Kd.slice 3 (Kd.int .i64)) 59 w17 w.heap.size (fun k => w5.heap.size ≤ k ∧ k < w6.heap.size) (.slice A6 (truth n lc ec).length c6) (truth n lc ec)) := ⟨Kd.S_kept F80.out hk (fun k hq hr => by obtain ⟨hq1, hq2⟩ := hq; obtain ⟨hr1, hr2⟩ := hr; omega)⟩; clear F80; have F89 : Aside0 (w17.heap[gx]? = some (.cells #[.int .i64 n, (.slice A7 lc.length c7)] 30 (0, 0))) := ⟨blk_kept F82.out hk (fun hq => by obtain ⟨hq1, hq2⟩ := hq; have := EX.out; have := EX2.out; omega)⟩; clear F82; have F90 : Aside0 (Kd.R k56 56 w17 w.heap.size (fun k => w9.heap.size ≤ k ∧ k < w10.heap.size) (.slice A10 ec.length c10) ec) := ⟨Kd.R_kept F83.out hk (fun k hq hr => by obtain ⟨hq1, hq2⟩ := hq; obtain ⟨hr1, hr2⟩ := hr; have := Z7.out; omega)⟩; clear F83; have F91 : Aside0 (Kd.S (Kd.slice 3 (Kd.int .i64)) 59 w17 w.heap.size (fun k => w10.heap.size ≤ k ∧ k < w11.heap.size) (.slice A11 (truth n lc ec).length c11) (truth n lc ec)) := ⟨Kd.S_kept F84.out hk (fun k hq hr => by obtain ⟨hq1, hq2⟩ := hq; obtain ⟨hr1, hr2⟩ := hr; have := Z7.out; have := Z8.out; omega)⟩; clear F84; clear hk hB hBB; clear hm)
  clear kx0 kx1
  clear F81
  clear F89
  go_upto_region 21 with (go_at_call 60; refine (laws_markEventS.calls kME (fun k => w9.heap.size ≤ k ∧ k < w10.heap.size) _ ec k1 k2 _ w _ F86.out F90.out EME.out).mono ?_; rintro e w18 ⟨rfl, hm, hB, hk⟩; have hBB := hB; have Z17 : Aside0 (w17.heap.size ≤ w18.heap.size) := ⟨hk.1⟩; have F92 : Aside0 (Below w.heap.size w w18) := ⟨hB⟩; clear F86; have F93 : Aside0 (w18.heap[gl]? = some (.cells #[.int .i64 n, .slice A l.length c] 25 (0, 0))) := ⟨blk_kept F87.out hk (fun hq => by obtain ⟨hq1, hq2⟩ := hq; have := EG0.out; have := EG2.out; have := Z1.out; have := Z2.out; have := Z3.out; have := Z4.out; have := Z5.out; have := Z6.out; have := Z7.out; omega)⟩; clear F87; have F94 : Aside0 (Kd.S (Kd.slice 3 (Kd.int .i64)) 59 w18 w.heap.size (fun k => w5.heap.size ≤ k ∧ k < w6.heap.size) (.slice A6 (truth n lc ec).length c6) (truth n lc ec)) := ⟨Kd.S_kept F88.out hk (fun k hq hr => by obtain ⟨hq1, hq2⟩ := hq; obtain ⟨hr1, hr2⟩ := hr; have := Z6.out; have := Z7.out; omega)⟩; clear F88; have F95 : Aside0 (Kd.S (Kd.slice 3 (Kd.int .i64)) 59 w18 w.heap.size (fun k => w10.heap.size ≤ k ∧ k < w11.heap.size) (.slice A11 (truth n lc ec).length c11) (truth n lc ec)) := ⟨Kd.S_kept F91.out hk (fun k hq hr => by obtain ⟨hq1, hq2⟩ := hq; obtain ⟨hr1, hr2⟩ := hr; omega)⟩; clear F91; clear hk hB hBB; clear hm)
  clear F90
  go_upto_region 23 with (go_at_call 59; refine (eqSS_any F95.out F94.out HRL.out.1 HRL.out.2).mono ?_; rintro e w19 ⟨rfl, hb⟩; have Z18 : Aside0 (w18.heap.size ≤ w19.heap.size) := ⟨hb.size⟩; have F96 : Aside0 (Below w.heap.size w w19) := ⟨below_step F92.out hb⟩; clear F92; have F97 : Aside0 (w19.heap[gl]? = some (.cells #[.int .i64 n, .slice A l.length c] 25 (0, 0))) := ⟨blk_below F93.out hb⟩; clear F93; have F98 : Aside0 (Kd.S (Kd.slice 3 (Kd.int .i64)) 59 w19 w.heap.size (fun k => w5.heap.size ≤ k ∧ k < w6.heap.size) (.slice A6 (truth n lc ec).length c6) (truth n lc ec)) := ⟨Kd.S_below F94.out hb⟩; clear F94; have F99 : Aside0 (Kd.S (Kd.slice 3 (Kd.int .i64)) 59 w19 w.heap.size (fun k => w10.heap.size ≤ k ∧ k < w11.heap.size) (.slice A11 (truth n lc ec).length c11) (truth n lc ec)) := ⟨Kd.S_below F95.out hb⟩; clear F95; clear hb)
  have HS0 : Aside0 (w.heap.size ≤ w10.heap.size) := ⟨by have := Z0.out; have := Z1.out; have := Z2.out; have := Z3.out; have := Z4.out; have := Z5.out; have := Z6.out; have := Z7.out; have := Z8.out; omega⟩
  go_upto_region 25 with (go_at_call 61; refine (markSS_any F96.out F99.out (fun k hq => Nat.le_trans HS0.out hq.1) HRL.out.1 HRL.out.2).mono ?_; rintro e w20 ⟨rfl, hm, hB, hk⟩; have hBB := hB; have Z19 : Aside0 (w19.heap.size ≤ w20.heap.size) := ⟨hk.1⟩; have F100 : Aside0 (Below w.heap.size w w20) := ⟨hB⟩; clear F96; have F101 : Aside0 (w20.heap[gl]? = some (.cells #[.int .i64 n, .slice A l.length c] 25 (0, 0))) := ⟨blk_kept F97.out hk (fun hq => by obtain ⟨hq1, hq2⟩ := hq; have := EG0.out; have := EG2.out; have := Z1.out; have := Z2.out; have := Z3.out; have := Z4.out; have := Z5.out; have := Z6.out; have := Z7.out; have := Z8.out; omega)⟩; clear F97; have F102 : Aside0 (Kd.S (Kd.slice 3 (Kd.int .i64)) 59 w20 w.heap.size (fun k => w5.heap.size ≤ k ∧ k < w6.heap.size) (.slice A6 (truth n lc ec).length c6) (truth n lc ec)) := ⟨Kd.S_kept F98.out hk (fun k hq hr => by obtain ⟨hq1, hq2⟩ := hq; obtain ⟨hr1, hr2⟩ := hr; have := Z6.out; have := Z7.out; have := Z8.out; omega)⟩; clear F98; clear hk hB hBB; have F103 : Aside0 (Kd.S (Kd.slice 3 (Kd.int .i64)) 59 w20 w.heap.size (fun k => w10.heap.size ≤ k ∧ k < w11.heap.size) (.slice A11 (truth n lc ec).length c11) (markSS (truth n lc ec) 1)) := ⟨hm⟩; clear hm F99)
  go_upto_region 31 with (go_at_call 62; refine (heldSS_any F103.out HRL.out.1 HRL.out.2).mono ?_; rintro e w21 ⟨rfl, hb⟩; have Z20 : Aside0 (w20.heap.size ≤ w21.heap.size) := ⟨hb.size⟩; have F104 : Aside0 (Below w.heap.size w w21) := ⟨below_step F100.out hb⟩; clear F100; have F105 : Aside0 (w21.heap[gl]? = some (.cells #[.int .i64 n, .slice A l.length c] 25 (0, 0))) := ⟨blk_below F101.out hb⟩; clear F101; have F106 : Aside0 (Kd.S (Kd.slice 3 (Kd.int .i64)) 59 w21 w.heap.size (fun k => w5.heap.size ≤ k ∧ k < w6.heap.size) (.slice A6 (truth n lc ec).length c6) (truth n lc ec)) := ⟨Kd.S_below F102.out hb⟩; clear F102; have F107 : Aside0 (Kd.S (Kd.slice 3 (Kd.int .i64)) 59 w21 w.heap.size (fun k => w10.heap.size ≤ k ∧ k < w11.heap.size) (.slice A11 (truth n lc ec).length c11) (markSS (truth n lc ec) 1)) := ⟨Kd.S_below F103.out hb⟩; clear F103; clear hb)
  have kl0 : w21.cell? ⟨gl, 0, none⟩ = some (.int .i64 n) := (blk_cell F105.out 0).trans rfl
  have kl1 : w21.cell? ⟨gl, 1, none⟩ = some (.slice A l.length c) := (blk_cell F105.out 1).trans rfl
  go_upto_region 32 with (first | (go_at_call 24; refine (laws_toLayout.calls kTL n A c l n lc _ (Kd.C_below HR.out F104.out) HC.out ETL.out).mono ?_; rintro e w22 ⟨v, rfl, ho, hb⟩; have BSZ := (F104.out).size; have Z21 : Aside0 (w21.heap.size ≤ w22.heap.size) := ⟨hb.size⟩; have F108 : Aside0 (Below w.heap.size w w22) := ⟨below_step F104.out hb⟩; clear F104; have F109 : Aside0 (w22.heap[gl]? = some (.cells #[.int .i64 n, .slice A l.length c] 25 (0, 0))) := ⟨blk_below F105.out hb⟩; clear F105; have F110 : Aside0 (Kd.S (Kd.slice 3 (Kd.int .i64)) 59 w22 w.heap.size (fun k => w5.heap.size ≤ k ∧ k < w6.heap.size) (.slice A6 (truth n lc ec).length c6) (truth n lc ec)) := ⟨Kd.S_below F106.out hb⟩; clear F106; have F111 : Aside0 (Kd.S (Kd.slice 3 (Kd.int .i64)) 59 w22 w.heap.size (fun k => w10.heap.size ≤ k ∧ k < w11.heap.size) (.slice A11 (truth n lc ec).length c11) (markSS (truth n lc ec) 1)) := ⟨Kd.S_below F107.out hb⟩; clear F107; obtain ⟨A22, c22, rfl⟩ := Kd.R_slice ho; have F112 : Aside0 (Kd.R k88 88 w22 w.heap.size (fun k => w21.heap.size ≤ k ∧ k < w22.heap.size) (.slice A22 lc.length c22) lc) := ⟨Kd.R_mono (Kd.R_lower (Kd.R_bound ho) BSZ) (fun k hq => ⟨hq.2.1, hq.2.2.1⟩)⟩; clear ho; clear hb BSZ) | (go_at_call 50; refine (laws_toEventS.calls kTE A1 c1 es ec _ (Kd.C_below HE.out F108.out) HEC.out ETE.out).mono ?_; rintro e w23 ⟨v, rfl, ho, hb⟩; have BSZ := (F108.out).size; have Z22 : Aside0 (w22.heap.size ≤ w23.heap.size) := ⟨hb.size⟩; have F113 : Aside0 (Below w.heap.size w w23) := ⟨below_step F108.out hb⟩; clear F108; have F114 : Aside0 (w23.heap[gl]? = some (.cells #[.int .i64 n, .slice A l.length c] 25 (0, 0))) := ⟨blk_below F109.out hb⟩; clear F109; have F115 : Aside0 (Kd.S (Kd.slice 3 (Kd.int .i64)) 59 w23 w.heap.size (fun k => w5.heap.size ≤ k ∧ k < w6.heap.size) (.slice A6 (truth n lc ec).length c6) (truth n lc ec)) := ⟨Kd.S_below F110.out hb⟩; clear F110; have F116 : Aside0 (Kd.S (Kd.slice 3 (Kd.int .i64)) 59 w23 w.heap.size (fun k => w10.heap.size ≤ k ∧ k < w11.heap.size) (.slice A11 (truth n lc ec).length c11) (markSS (truth n lc ec) 1)) := ⟨Kd.S_below F111.out hb⟩; clear F111; have F117 : Aside0 (Kd.R k88 88 w23 w.heap.size (fun k => w21.heap.size ≤ k ∧ k < w22.heap.size) (.slice A22 lc.length c22) lc) := ⟨Kd.R_below F112.out hb⟩; clear F112; obtain ⟨A23, c23, rfl⟩ := Kd.R_slice ho; have F118 : Aside0 (Kd.R k56 56 w23 w.heap.size (fun k => w22.heap.size ≤ k ∧ k < w23.heap.size) (.slice A23 ec.length c23) ec) := ⟨Kd.R_mono (Kd.R_lower (Kd.R_bound ho) BSZ) (fun k hq => ⟨hq.2.1, hq.2.2.1⟩)⟩; clear ho; clear hb BSZ) | (go_at_call 54; refine (truth_is (Kd.R_reads' F117.out).2.2 (Kd.R_reads' F117.out).2.1 (Kd.R_reads' F118.out).2.2 (Kd.R_reads' F118.out).2.1).mono ?_; rintro e w24 ⟨v, rfl, ho, hb⟩; have BSZ := (F113.out).size; have Z23 : Aside0 (w23.heap.size ≤ w24.heap.size) := ⟨hb.size⟩; have F119 : Aside0 (Below w.heap.size w w24) := ⟨below_step F113.out hb⟩; clear F113; have F120 : Aside0 (w24.heap[gl]? = some (.cells #[.int .i64 n, .slice A l.length c] 25 (0, 0))) := ⟨blk_below F114.out hb⟩; clear F114; have F121 : Aside0 (Kd.S (Kd.slice 3 (Kd.int .i64)) 59 w24 w.heap.size (fun k => w5.heap.size ≤ k ∧ k < w6.heap.size) (.slice A6 (truth n lc ec).length c6) (truth n lc ec)) := ⟨Kd.S_below F115.out hb⟩; clear F115; have F122 : Aside0 (Kd.S (Kd.slice 3 (Kd.int .i64)) 59 w24 w.heap.size (fun k => w10.heap.size ≤ k ∧ k < w11.heap.size) (.slice A11 (truth n lc ec).length c11) (markSS (truth n lc ec) 1)) := ⟨Kd.S_below F116.out hb⟩; clear F116; have F123 : Aside0 (Kd.R k88 88 w24 w.heap.size (fun k => w21.heap.size ≤ k ∧ k < w22.heap.size) (.slice A22 lc.length c22) lc) := ⟨Kd.R_below F117.out hb⟩; clear F117; have F124 : Aside0 (Kd.R k56 56 w24 w.heap.size (fun k => w22.heap.size ≤ k ∧ k < w23.heap.size) (.slice A23 ec.length c23) ec) := ⟨Kd.R_below F118.out hb⟩; clear F118; obtain ⟨A24, c24, rfl⟩ := Kd.S_slice ho; have F125 : Aside0 (Kd.S (Kd.slice 3 (Kd.int .i64)) 59 w24 w.heap.size (fun k => w23.heap.size ≤ k ∧ k < w24.heap.size) (.slice A24 (truth n lc ec).length c24) (truth n lc ec)) := ⟨Kd.S_mono (Kd.S_lower (Kd.S_bound ho) BSZ) (fun k hq => ⟨hq.2.1, hq.2.2.1⟩)⟩; clear ho; clear hb BSZ))
  clear kl0 kl1
  clear F123
  clear F124
  go_upto_region 34 with (go_at_call 59; refine (eqSS_any F125.out F121.out HRL.out.1 HRL.out.2).mono ?_; rintro e w25 ⟨rfl, hb⟩; have Z24 : Aside0 (w24.heap.size ≤ w25.heap.size) := ⟨hb.size⟩; have F126 : Aside0 (Below w.heap.size w w25) := ⟨below_step F119.out hb⟩; clear F119; have F127 : Aside0 (w25.heap[gl]? = some (.cells #[.int .i64 n, .slice A l.length c] 25 (0, 0))) := ⟨blk_below F120.out hb⟩; clear F120; have F128 : Aside0 (Kd.S (Kd.slice 3 (Kd.int .i64)) 59 w25 w.heap.size (fun k => w5.heap.size ≤ k ∧ k < w6.heap.size) (.slice A6 (truth n lc ec).length c6) (truth n lc ec)) := ⟨Kd.S_below F121.out hb⟩; clear F121; have F129 : Aside0 (Kd.S (Kd.slice 3 (Kd.int .i64)) 59 w25 w.heap.size (fun k => w10.heap.size ≤ k ∧ k < w11.heap.size) (.slice A11 (truth n lc ec).length c11) (markSS (truth n lc ec) 1)) := ⟨Kd.S_below F122.out hb⟩; clear F122; have F130 : Aside0 (Kd.S (Kd.slice 3 (Kd.int .i64)) 59 w25 w.heap.size (fun k => w23.heap.size ≤ k ∧ k < w24.heap.size) (.slice A24 (truth n lc ec).length c24) (truth n lc ec)) := ⟨Kd.S_below F125.out hb⟩; clear F125; clear hb)
  go_wp2_with (go_at_call 62; refine (heldSS_any F129.out HRL.out.1 HRL.out.2).mono ?_; rintro e w26 ⟨rfl, hb⟩; have Z25 : Aside0 (w25.heap.size ≤ w26.heap.size) := ⟨hb.size⟩; have F131 : Aside0 (Below w.heap.size w w26) := ⟨below_step F126.out hb⟩; clear F126; have F132 : Aside0 (w26.heap[gl]? = some (.cells #[.int .i64 n, .slice A l.length c] 25 (0, 0))) := ⟨blk_below F127.out hb⟩; clear F127; have F133 : Aside0 (Kd.S (Kd.slice 3 (Kd.int .i64)) 59 w26 w.heap.size (fun k => w5.heap.size ≤ k ∧ k < w6.heap.size) (.slice A6 (truth n lc ec).length c6) (truth n lc ec)) := ⟨Kd.S_below F128.out hb⟩; clear F128; have F134 : Aside0 (Kd.S (Kd.slice 3 (Kd.int .i64)) 59 w26 w.heap.size (fun k => w10.heap.size ≤ k ∧ k < w11.heap.size) (.slice A11 (truth n lc ec).length c11) (markSS (truth n lc ec) 1)) := ⟨Kd.S_below F129.out hb⟩; clear F129; have F135 : Aside0 (Kd.S (Kd.slice 3 (Kd.int .i64)) 59 w26 w.heap.size (fun k => w23.heap.size ≤ k ∧ k < w24.heap.size) (.slice A24 (truth n lc ec).length c24) (truth n lc ec)) := ⟨Kd.S_below F130.out hb⟩; clear F130; clear hb)
  go_ret
  exact ⟨rfl, F131.out⟩
theorem walk (n : Int) (A : Option Addr) (c : Nat) (l : List S160) (A1 : Option Addr) (c1 : Nat) (es : List S54) (w : World) (hr : Kd.C k160 w A l.length l) (hc : l.length ≤ c) (hr1 : Kd.C k54 w A1 es.length es) (hc1 : es.length ≤ c1) :
    Calls Try.prog 12 #[.agg #[.int .i64 n, .slice A l.length c], .slice A1 es.length c1] w fun e w' => e = .returned (.bool true) ∧ Below w.heap.size w w' := by
  have b1 := hr.2.1
  have b2 := hr1.2.1
  have s1 := szLayout_eq n l 1048576 (by omega) (by omega) b1
  by_cases h : (1048576 : Int) < l.length
  · rw [if_pos h] at s1
    exact too1 n A c l A1 c1 es w hr hc hr1 hc1 _ s1 (by omega)
  · rw [if_neg h] at s1
    have s2 := szEventS_eq es (1048576 - l.length) (by omega) (by omega) b2
    by_cases h2 : (1048576 : Int) - l.length < es.length
    · rw [if_pos h2] at s2
      exact too2 n A c l A1 c1 es w hr hc hr1 hc1 _ _ s1 (by omega) s2 (by omega)
    · rw [if_neg h2] at s2
      exact whole n A c l A1 c1 es w hr hc hr1 hc1 _ _ s1 (by omega) s2 (by omega) (l.map cvC) (es.map cvE) (by rw [List.length_map]; omega) (by rw [List.length_map]; omega) (toLayout_ev n l (by omega)) (toEventS_ev es (by omega))
end Go.Proofs.Ytpdnabhpkdchjaa.WalkFnExactTruth
namespace Go.Proofs.Ytpdnabhpkdchjaa.fnExactTruth
open Go.ChangeShapes Go.WideShapes Go.ChangeAt Go.RowKit Go.Proofs.Ytpdnabhpkdchjaa.Open Go.Proofs.Ytpdnabhpkdchjaa.P
set_option linter.unusedVariables false
set_option maxRecDepth 100000 in
theorem lifted (os : Os) (started : os.Started) (H : Type) (enc : TypeId × Value → H) :
    ReturnsInHanded {} Try.checked os 12 .any (Rows.fnExactTruthSpec.pre6 enc Try.prog Try.f12 Rows.fnExactTruthRow.domain false) (Rows.fnExactTruthSpec.post enc Try.prog Try.f12 false true false false) := by
  refine returnsInHanded_of_change_sized (C := Try.checked) Facts.own started (by kernel_rfl) Try.func12
    (ChangeSpec.witness6 (enc := enc) (C := Try.checked) false ⟨#[], #[.agg #[.int .i64 0, .slice none 0 0], .slice none 0 0], []⟩ 8 (by kernel_rfl) (by kernel_rfl) (by kernel_rfl) (by kernel_rfl)) ?_
  intro W base args ds gs before hval0 hW hcnd hsz0 _
  have hval : ∀ (j : Nat) t v, Try.f12.params[j]? = some t → args[j]? = some v → Value.okWide Try.prog W .any base t v := hval0
  have hW' := hW
  obtain ⟨p, q, hA0, hV, rfl, hfz, hnd⟩ := hW
  have hA : DataW.TrodAll enc Try.prog W 0 (fun _ => true) true Try.f12.params.toList args.toList ds p := hA0
  rw [Try.params12] at hA hval
  obtain ⟨v0, vs0, d0, ds0, p0, q0, hargs, rfl, rfl, h0, r0⟩ := trodAll_cons hA
  obtain ⟨v1, vs1, d1, ds1, p1, q1, rfl, rfl, rfl, h1, r1⟩ := trodAll_cons r0
  obtain ⟨rfl, rfl, rfl⟩ := trodAll_nil r1
  obtain rfl : args = #[v0, v1] := by cases args; simp_all
  obtain ⟨rfl, rfl⟩ := trodVars_none hV
  have k0 := h0
  have lt0 : ∀ x ∈ p0, x.block < W.heap.size := by obtain ⟨m, hm⟩ := k0; exact DataW.trod_lt m _ _ _ hm
  obtain ⟨n0, A0, c0, l0, rfl, hr0, hc0⟩ := arg_layout (hval 0 25 v0 rfl rfl) h0
  have k1 := h1
  have lt1 : ∀ x ∈ p1, x.block < W.heap.size := by obtain ⟨m, hm⟩ := k1; exact DataW.trod_lt m _ _ _ hm
  obtain ⟨A1, c1, l1, rfl, hr1, hc1⟩ := arg_slice Try.underlying67 oEvents (hval 1 67 v1 rfl rfl) h1
  clear hA0 hval0 hsz0
  refine (WalkFnExactTruth.walk n0 A0 c0 l0 A1 c1 l1 W hr0 hc0 hr1 hc1).mono fun e W' ⟨he, bel⟩ => ?_
  subst he
  exact ⟨_, rfl, _, _, _, [], _, [], hW', trodAll_mk1 (shut_bool Try.underlying4 _), (trodAll_cons_mk (Below.trod Facts.laidOut (by kernel_rfl) (of_decide_eq_true (by kernel_rfl)) k0 bel lt0) (trodAll_cons_mk (Below.trod Facts.laidOut (by kernel_rfl) (of_decide_eq_true (by kernel_rfl)) k1 bel lt1) trodAll_mk0)), rfl, bel.frame _, fun h => by cases h⟩
theorem k10 : (Rows.fnExactTruthRow.inPlace == Try.prog.inPlace 12) = true := by kernel_rfl
theorem k11 : (Rows.fnExactTruthRow.unfollowed == Try.prog.unfollowed 12) = true := by kernel_rfl
theorem k12 : (Rows.fnExactTruthRow.recurses == Try.prog.recurses 12) = true := by kernel_rfl
theorem k13 : (Rows.fnExactTruthRow.named == Try.prog.varsNamed 12) = true := by kernel_rfl
theorem over : Rows.fnExactTruthRow.holds Try.pinned (OpenSpec.ofChange Rows.fnExactTruthSpec) :=
  OpenClaim.holds_of_wide 12 Try.f12 rfl rfl rfl rfl rfl rfl rfl ⟨rfl, rfl, rfl, rfl, rfl⟩ rfl rfl rfl rfl rfl (by kernel_rfl) Try.func12
    (joined_of 12 Try.f12 Rows.fnExactTruthSpec Rows.fnExactTruthRow (by kernel_rfl) (by kernel_rfl) (by kernel_rfl) rfl rfl Facts.stopKnobs k10 k11 k12 k13 (by kernel_rfl) (by kernel_rfl) (by kernel_rfl) (by kernel_rfl) (by kernel_rfl) (by kernel_rfl) (by kernel_rfl) (by kernel_rfl) (by kernel_rfl) rfl rfl rfl rfl rfl rfl (by kernel_rfl) (by kernel_rfl) (by kernel_rfl))
    (of_decide_eq_true (by kernel_rfl)) (by unfold Func.isWrapper; rw [if_neg (by decide +kernel)]; exact ⟨rfl, rfl⟩)
    (fun os started H enc _ => lifted os started H enc)
theorem proved : Rows.FnExactTruthSaid := over
end Go.Proofs.Ytpdnabhpkdchjaa.fnExactTruth
namespace Go.Proofs.Ytpdnabhpkdchjaa
theorem fnExactTruth_holds : Rows.FnExactTruthSaid := fnExactTruth.proved
#print axioms fnExactTruth_holds
end Go.Proofs.Ytpdnabhpkdchjaa
