/- The statement FnExactRun holds of the given program, for every argument; there are no conditions. (Part 3 of 6.) -/
import Derived.Test.YtpdnabhpkdchjaaBFnExactRun2
namespace Go.Proofs.Ytpdnabhpkdchjaa.P
open Go.RowKit Go.Proofs.YtpdnabhpkdchjaaW.PrintWords Go.Proofs.YtpdnabhpkdchjaaW.PrintLast Go.Proofs.YtpdnabhpkdchjaaW.PrintMore
attribute [local go_sem] max2_int min2_int max_two min_two max_three min_three max_four min_four
set_option linter.unusedVariables false
set_option linter.unusedSimpArgs false
def laws_eqState.f (k : Nat) (a0_0 : Bool) (l0_1 : List (S50)) (l0_2 : List Bool) (a1_0 : Bool) (l1_1 : List (S50)) (l1_2 : List Bool) : Option (Bool):=if (a0_0 != a1_0) = true then (some false) else ((laws_eqSectionS.f k l0_1 l1_1).bind fun t492=>(if t492 = true then ((laws_eqBoolS.f k l0_2 l1_2).bind fun t493=>(if t493 = true then (some true) else (some false))) else (some false)))
set_option maxHeartbeats 8000000 in
set_option maxRecDepth 100000 in
theorem laws_eqState.calls (k : Nat) (a0_0 : Bool) (A0_1 : Option Addr) (c0_1 : Nat) (l0_1 : List (S50)) (A0_2 : Option Addr) (c0_2 : Nat) (l0_2 : List Bool) (a1_0 : Bool) (A1_1 : Option Addr) (c1_1 : Nat) (l1_1 : List (S50)) (A1_2 : Option Addr) (c1_2 : Nat) (l1_2 : List Bool) (r : Bool) (w : World) (hr0_1 : Kd.C k50 w A0_1 l0_1.length l0_1) (hc0_1 : l0_1.length ≤ c0_1) (hr0_2 : Kd.C Kd.bool w A0_2 l0_2.length l0_2) (hc0_2 : l0_2.length ≤ c0_2) (hr1_1 : Kd.C k50 w A1_1 l1_1.length l1_1) (hc1_1 : l1_1.length ≤ c1_1) (hr1_2 : Kd.C Kd.bool w A1_2 l1_2.length l1_2) (hc1_2 : l1_2.length ≤ c1_2) (h : laws_eqState.f k a0_0 l0_1 l0_2 a1_0 l1_1 l1_2 = some r) :
  Calls Try.prog 45 #[.agg #[.bool a0_0,.slice A0_1 l0_1.length c0_1,.slice A0_2 l0_2.length c0_2],.agg #[.bool a1_0,.slice A1_1 l1_1.length c1_1,.slice A1_2 l1_2.length c1_2]] w fun e w'=>e = .returned (.bool r)∧Below w.heap.size w w':=by
 have hu46:=Try.underlying46
 have HR0_1:=Aside0.mk hr0_1
 have HC0_1:=Aside0.mk hc0_1
 clear hr0_1 hc0_1
 have HR0_2:=Aside0.mk hr0_2
 have HC0_2:=Aside0.mk hc0_2
 clear hr0_2 hc0_2
 have HR1_1:=Aside0.mk hr1_1
 have HC1_1:=Aside0.mk hc1_1
 clear hr1_1 hc1_1
 have HR1_2:=Aside0.mk hr1_2
 have HC1_2:=Aside0.mk hc1_2
 clear hr1_2 hc1_2
 have HB:=Aside0.mk (Below.refl w.heap.size w)
 have H : (if (a0_0 != a1_0) = true then (some false) else ((laws_eqSectionS.f k l0_1 l1_1).bind fun t492=>(if t492 = true then ((laws_eqBoolS.f k l0_2 l1_2).bind fun t493=>(if t493 = true then (some true) else (some false))) else (some false)))) = some r:=h
 clear h
 by_cases c3 : (a0_0 != a1_0) = true
 ·rw [if_pos c3] at H
  have c3b0 : (a0_0 != a1_0) = true:=c3
  (try (have c3b1 : decide (a0_0 = a1_0) = false:=by simpa using c3))
  (try (have c3b2 : (a0_0 == a1_0) = false:=by simpa using c3))
  (try (have c3b3 : ¬ (a0_0 = a1_0):=by simpa using c3))
  clear c3
  obtain rfl:=Option.some.inj H
  go_enter Try.func45,Try.ntmps45
  go_wp2_with (first|((with_reducible refine gate_dst (N:=2) rfl ?_);refine box_event ?hg (N:=2) ?hd (cs:=#[.bool a0_0,.slice A0_1 l0_1.length c0_1,.slice A0_2 l0_2.length c0_2]) (t:=46) ?hr ?_;(case hd=>rfl);(case hg=>rfl);(case hr=>first|(go_simp;done)|(go_simp;rfl));intro gb490 hg w4 hbox hb;have n0_:=Aside0.mk (below_step (by repeat (first|(with_reducible first|exact HB.out|apply below_alloc|apply pw_below_drewN|apply below_drew1)|exact HB.out)) hb);have n1_:=Aside0.mk (hbox);have n2_:=Aside0.mk ((by rw [hg];exact (below_size (by repeat (first|(with_reducible first|exact HB.out|apply below_alloc|apply pw_below_drewN|apply below_drew1)|exact HB.out))) : w.heap.size ≤ gb490));have n3_:=Aside0.mk ((by rw [hg];exact (below_size (by repeat (first|(with_reducible first|exact HB.out|apply below_alloc|apply pw_below_drewN|apply below_drew1)|exact HB.out))) : w.heap.size ≤ gb490));clear HB;have HB:=n0_;have BK490:=n1_;have GW490:=n2_;have GE490:=n3_;clear n0_ n1_ n2_ n3_;clear hb hbox hg)|((with_reducible refine gate_dst (N:=3) rfl ?_);refine box_event ?hg (N:=3) ?hd (cs:=#[.bool a1_0,.slice A1_1 l1_1.length c1_1,.slice A1_2 l1_2.length c1_2]) (t:=46) ?hr ?_;(case hd=>rfl);(case hg=>rfl);(case hr=>first|(go_simp;done)|(go_simp;rfl));intro gb491 hg w5 hbox hb;have n0_:=Aside0.mk (blk_below (g:=gb490) (o:=.cells #[.bool a0_0,.slice A0_1 l0_1.length c0_1,.slice A0_2 l0_2.length c0_2] 46 (0,0)) (by (with_reducible repeat (first|refine blk_drewN ?_ _|refine blk_drew ?_|refine blk_alloc ?_ _));exact BK490.out) hb);have n1_:=Aside0.mk (below_step (by repeat (first|(with_reducible first|exact HB.out|apply below_alloc|apply pw_below_drewN|apply below_drew1|refine below_set ?_ GE490.out)|exact HB.out)) hb);have n2_:=Aside0.mk (hbox);have n3_:=Aside0.mk ((by rw [hg];exact (below_size (by repeat (first|(with_reducible first|exact HB.out|apply below_alloc|apply pw_below_drewN|apply below_drew1|refine below_set ?_ GE490.out)|exact HB.out))) : w.heap.size ≤ gb491));have n4_:=Aside0.mk ((by rw [hg];exact (below_size (by repeat (first|(with_reducible first|exact HB.out|apply below_alloc|apply pw_below_drewN|apply below_drew1|refine below_set ?_ GE490.out)|exact HB.out))) : w.heap.size ≤ gb491));have n5_:=Aside0.mk ((by rw [hg];exact Nat.ne_of_lt (blk_lt (g:=gb490) (o:=.cells #[.bool a0_0,.slice A0_1 l0_1.length c0_1,.slice A0_2 l0_2.length c0_2] 46 (0,0)) (by (with_reducible repeat (first|refine blk_drewN ?_ _|refine blk_drew ?_|refine blk_alloc ?_ _));exact BK490.out)) : gb490 ≠ gb491));have n6_:=Aside0.mk ((by rw [hg];exact Nat.ne_of_gt (blk_lt (g:=gb490) (o:=.cells #[.bool a0_0,.slice A0_1 l0_1.length c0_1,.slice A0_2 l0_2.length c0_2] 46 (0,0)) (by (with_reducible repeat (first|refine blk_drewN ?_ _|refine blk_drew ?_|refine blk_alloc ?_ _));exact BK490.out)) : gb491 ≠ gb490));clear BK490;clear HB;have BK490:=n0_;have HB:=n1_;have BK491:=n2_;have GW491:=n3_;have GE491:=n4_;have NB490_491:=n5_;have NB491_490:=n6_;clear n0_ n1_ n2_ n3_ n4_ n5_ n6_;clear hb hbox hg;have hnb6:=NB490_491.out;have hnc6:=NB491_490.out;have hcz7_0 : w5.cell? ⟨gb490,0,none⟩ = some (.bool a0_0):=(blk_cell BK490.out 0).trans rfl;have hcz7_1 : w5.cell? ⟨gb490,1,none⟩ = some (.slice A0_1 l0_1.length c0_1):=(blk_cell BK490.out 1).trans rfl;have hcz7_2 : w5.cell? ⟨gb490,2,none⟩ = some (.slice A0_2 l0_2.length c0_2):=(blk_cell BK490.out 2).trans rfl;have hfz7_0:=blk_frozen BK490.out 0;have hfz7_1:=blk_frozen BK490.out 1;have hfz7_2:=blk_frozen BK490.out 2;have hcz8_0 : w5.cell? ⟨gb491,0,none⟩ = some (.bool a1_0):=(blk_cell BK491.out 0).trans rfl;have hcz8_1 : w5.cell? ⟨gb491,1,none⟩ = some (.slice A1_1 l1_1.length c1_1):=(blk_cell BK491.out 1).trans rfl;have hcz8_2 : w5.cell? ⟨gb491,2,none⟩ = some (.slice A1_2 l1_2.length c1_2):=(blk_cell BK491.out 2).trans rfl;have hfz8_0:=blk_frozen BK491.out 0;have hfz8_1:=blk_frozen BK491.out 1;have hfz8_2:=blk_frozen BK491.out 2))
  go_ret
  exact ⟨by first|rfl|(simp [errW_none,errW_some] <;> rfl)|(simp [*,errW_none,errW_some] <;> rfl),by repeat (first|(with_reducible first|exact HB.out|apply below_alloc|apply pw_below_drewN|apply below_drew1|refine below_set ?_ GE490.out|refine below_set ?_ GE491.out)|exact HB.out)⟩
 ·rw [if_neg c3] at H
  have c3b0 : (a0_0 != a1_0) = false:=by simpa using c3
  (try (have c3b1 : decide (a0_0 = a1_0) = true:=by simpa using c3))
  (try (have c3b2 : (a0_0 == a1_0) = true:=by simpa using c3))
  clear c3
  replace H:=Option.bind_eq_some_iff.mp H
  obtain ⟨t492,A90,H⟩:=H
  replace H : (if t492 = true then ((laws_eqBoolS.f k l0_2 l1_2).bind fun t493=>(if t493 = true then (some true) else (some false))) else (some false)) = some r:=H
  have A9:=Aside0.mk A90
  clear A90
  by_cases c10 : t492 = true
  ·subst c10
   have H1 : ((laws_eqBoolS.f k l0_2 l1_2).bind fun t493=>(if t493 = true then (some true) else (some false))) = some r:=by rw [if_pos rfl] at H;exact H
   clear H
   have H:=H1
   clear H1
   replace H:=Option.bind_eq_some_iff.mp H
   obtain ⟨t493,A110,H⟩:=H
   replace H : (if t493 = true then (some true) else (some false)) = some r:=H
   have A11:=Aside0.mk A110
   clear A110
   by_cases c12 : t493 = true
   ·subst c12
    have H1 : (some true) = some r:=by rw [if_pos rfl] at H;exact H
    clear H
    have H:=H1
    clear H1
    obtain rfl:=Option.some.inj H
    go_enter Try.func45,Try.ntmps45
    go_wp2_with (first|((with_reducible refine gate_dst (N:=2) rfl ?_);refine box_event ?hg (N:=2) ?hd (cs:=#[.bool a0_0,.slice A0_1 l0_1.length c0_1,.slice A0_2 l0_2.length c0_2]) (t:=46) ?hr ?_;(case hd=>rfl);(case hg=>rfl);(case hr=>first|(go_simp;done)|(go_simp;rfl));intro gb490 hg w13 hbox hb;have n0_:=Aside0.mk (below_step (by repeat (first|(with_reducible first|exact HB.out|apply below_alloc|apply pw_below_drewN|apply below_drew1)|exact HB.out)) hb);have n1_:=Aside0.mk (hbox);have n2_:=Aside0.mk ((by rw [hg];exact (below_size (by repeat (first|(with_reducible first|exact HB.out|apply below_alloc|apply pw_below_drewN|apply below_drew1)|exact HB.out))) : w.heap.size ≤ gb490));have n3_:=Aside0.mk ((by rw [hg];exact (below_size (by repeat (first|(with_reducible first|exact HB.out|apply below_alloc|apply pw_below_drewN|apply below_drew1)|exact HB.out))) : w.heap.size ≤ gb490));clear HB;have HB:=n0_;have BK490:=n1_;have GW490:=n2_;have GE490:=n3_;clear n0_ n1_ n2_ n3_;clear hb hbox hg)|((with_reducible refine gate_dst (N:=3) rfl ?_);refine box_event ?hg (N:=3) ?hd (cs:=#[.bool a1_0,.slice A1_1 l1_1.length c1_1,.slice A1_2 l1_2.length c1_2]) (t:=46) ?hr ?_;(case hd=>rfl);(case hg=>rfl);(case hr=>first|(go_simp;done)|(go_simp;rfl));intro gb491 hg w14 hbox hb;have n0_:=Aside0.mk (blk_below (g:=gb490) (o:=.cells #[.bool a0_0,.slice A0_1 l0_1.length c0_1,.slice A0_2 l0_2.length c0_2] 46 (0,0)) (by (with_reducible repeat (first|refine blk_drewN ?_ _|refine blk_drew ?_|refine blk_alloc ?_ _));exact BK490.out) hb);have n1_:=Aside0.mk (below_step (by repeat (first|(with_reducible first|exact HB.out|apply below_alloc|apply pw_below_drewN|apply below_drew1|refine below_set ?_ GE490.out)|exact HB.out)) hb);have n2_:=Aside0.mk (hbox);have n3_:=Aside0.mk ((by rw [hg];exact (below_size (by repeat (first|(with_reducible first|exact HB.out|apply below_alloc|apply pw_below_drewN|apply below_drew1|refine below_set ?_ GE490.out)|exact HB.out))) : w.heap.size ≤ gb491));have n4_:=Aside0.mk ((by rw [hg];exact (below_size (by repeat (first|(with_reducible first|exact HB.out|apply below_alloc|apply pw_below_drewN|apply below_drew1|refine below_set ?_ GE490.out)|exact HB.out))) : w.heap.size ≤ gb491));have n5_:=Aside0.mk ((by rw [hg];exact Nat.ne_of_lt (blk_lt (g:=gb490) (o:=.cells #[.bool a0_0,.slice A0_1 l0_1.length c0_1,.slice A0_2 l0_2.length c0_2] 46 (0,0)) (by (with_reducible repeat (first|refine blk_drewN ?_ _|refine blk_drew ?_|refine blk_alloc ?_ _));exact BK490.out)) : gb490 ≠ gb491));have n6_:=Aside0.mk ((by rw [hg];exact Nat.ne_of_gt (blk_lt (g:=gb490) (o:=.cells #[.bool a0_0,.slice A0_1 l0_1.length c0_1,.slice A0_2 l0_2.length c0_2] 46 (0,0)) (by (with_reducible repeat (first|refine blk_drewN ?_ _|refine blk_drew ?_|refine blk_alloc ?_ _));exact BK490.out)) : gb491 ≠ gb490));clear BK490;clear HB;have BK490:=n0_;have HB:=n1_;have BK491:=n2_;have GW491:=n3_;have GE491:=n4_;have NB490_491:=n5_;have NB491_490:=n6_;clear n0_ n1_ n2_ n3_ n4_ n5_ n6_;clear hb hbox hg;have hnb15:=NB490_491.out;have hnc15:=NB491_490.out;have hcz16_0 : w14.cell? ⟨gb490,0,none⟩ = some (.bool a0_0):=(blk_cell BK490.out 0).trans rfl;have hcz16_1 : w14.cell? ⟨gb490,1,none⟩ = some (.slice A0_1 l0_1.length c0_1):=(blk_cell BK490.out 1).trans rfl;have hcz16_2 : w14.cell? ⟨gb490,2,none⟩ = some (.slice A0_2 l0_2.length c0_2):=(blk_cell BK490.out 2).trans rfl;have hfz16_0:=blk_frozen BK490.out 0;have hfz16_1:=blk_frozen BK490.out 1;have hfz16_2:=blk_frozen BK490.out 2;have hcz17_0 : w14.cell? ⟨gb491,0,none⟩ = some (.bool a1_0):=(blk_cell BK491.out 0).trans rfl;have hcz17_1 : w14.cell? ⟨gb491,1,none⟩ = some (.slice A1_1 l1_1.length c1_1):=(blk_cell BK491.out 1).trans rfl;have hcz17_2 : w14.cell? ⟨gb491,2,none⟩ = some (.slice A1_2 l1_2.length c1_2):=(blk_cell BK491.out 2).trans rfl;have hfz17_0:=blk_frozen BK491.out 0;have hfz17_1:=blk_frozen BK491.out 1;have hfz17_2:=blk_frozen BK491.out 2)|((with_reducible refine gate_callee (f:=100) rfl ?_);refine goesL_ (some 14) rfl rfl Try.func100 (by kernel_rfl) rfl #[.slice A0_1 l0_1.length c0_1,.slice A1_1 l1_1.length c1_1] rfl (by (try simp only [List.map_toArray,List.map_cons,List.map_nil]);first|done|rfl|(simp only [List.length_drop,List.length_take];rfl)) ?_;(with_reducible refine (laws_eqSectionS.calls k _ _ l0_1 _ _ l1_1 true _ ?side1 ?side2 ?side3 ?side4 A9.out).mono ?_);(case side1=>repeat (first|exact (Kd.C_below HR0_1.out HB.out)|(with_reducible refine Kd.C_alloc ?_ _)|(with_reducible refine Kd.C_drewN ?_ _)|(with_reducible refine Kd.C_drew ?_)));(case side2=>exact HC0_1.out);(case side3=>repeat (first|exact (Kd.C_below HR1_1.out HB.out)|(with_reducible refine Kd.C_alloc ?_ _)|(with_reducible refine Kd.C_drewN ?_ _)|(with_reducible refine Kd.C_drew ?_)));(case side4=>exact HC1_1.out);rintro e w18 ⟨rfl,hb⟩;refine ⟨_,rfl,?_⟩;have n0_:=Aside0.mk (blk_below (g:=gb490) (o:=.cells #[.bool a0_0,.slice A0_1 l0_1.length c0_1,.slice A0_2 l0_2.length c0_2] 46 (0,0)) (by (with_reducible repeat (first|refine blk_drewN ?_ _|refine blk_drew ?_|refine blk_alloc ?_ _));exact BK490.out) hb);have n1_:=Aside0.mk (blk_below (g:=gb491) (o:=.cells #[.bool a1_0,.slice A1_1 l1_1.length c1_1,.slice A1_2 l1_2.length c1_2] 46 (0,0)) (by (with_reducible repeat (first|refine blk_drewN ?_ _|refine blk_drew ?_|refine blk_alloc ?_ _));exact BK491.out) hb);have n2_:=Aside0.mk (below_step (by repeat (first|(with_reducible first|exact HB.out|apply below_alloc|apply pw_below_drewN|apply below_drew1|refine below_set ?_ GE490.out|refine below_set ?_ GE491.out)|exact HB.out)) hb);clear BK490;clear BK491;clear HB;have BK490:=n0_;have BK491:=n1_;have HB:=n2_;clear n0_ n1_ n2_;(try clear hb);(try clear hb2);(try clear hk);(try clear hi);have hcz19_0 : w18.cell? ⟨gb490,0,none⟩ = some (.bool a0_0):=(blk_cell BK490.out 0).trans rfl;have hcz19_1 : w18.cell? ⟨gb490,1,none⟩ = some (.slice A0_1 l0_1.length c0_1):=(blk_cell BK490.out 1).trans rfl;have hcz19_2 : w18.cell? ⟨gb490,2,none⟩ = some (.slice A0_2 l0_2.length c0_2):=(blk_cell BK490.out 2).trans rfl;have hfz19_0:=blk_frozen BK490.out 0;have hfz19_1:=blk_frozen BK490.out 1;have hfz19_2:=blk_frozen BK490.out 2;have hcz20_0 : w18.cell? ⟨gb491,0,none⟩ = some (.bool a1_0):=(blk_cell BK491.out 0).trans rfl;have hcz20_1 : w18.cell? ⟨gb491,1,none⟩ = some (.slice A1_1 l1_1.length c1_1):=(blk_cell BK491.out 1).trans rfl;have hcz20_2 : w18.cell? ⟨gb491,2,none⟩ = some (.slice A1_2 l1_2.length c1_2):=(blk_cell BK491.out 2).trans rfl;have hfz20_0:=blk_frozen BK491.out 0;have hfz20_1:=blk_frozen BK491.out 1;have hfz20_2:=blk_frozen BK491.out 2)|((with_reducible refine gate_callee (f:=101) rfl ?_);refine goesL_ (some 20) rfl rfl Try.func101 (by kernel_rfl) rfl #[.slice A0_2 l0_2.length c0_2,.slice A1_2 l1_2.length c1_2] rfl (by (try simp only [List.map_toArray,List.map_cons,List.map_nil]);first|done|rfl|(simp only [List.length_drop,List.length_take];rfl)) ?_;(with_reducible refine (laws_eqBoolS.calls k _ _ l0_2 _ _ l1_2 true _ ?side1 ?side2 ?side3 ?side4 A11.out).mono ?_);(case side1=>repeat (first|exact (Kd.C_below HR0_2.out HB.out)|(with_reducible refine Kd.C_alloc ?_ _)|(with_reducible refine Kd.C_drewN ?_ _)|(with_reducible refine Kd.C_drew ?_)));(case side2=>exact HC0_2.out);(case side3=>repeat (first|exact (Kd.C_below HR1_2.out HB.out)|(with_reducible refine Kd.C_alloc ?_ _)|(with_reducible refine Kd.C_drewN ?_ _)|(with_reducible refine Kd.C_drew ?_)));(case side4=>exact HC1_2.out);rintro e w' ⟨rfl,⟨nd,rfl⟩⟩;refine ⟨_,rfl,?_⟩))
    go_ret
    exact ⟨by first|rfl|(simp [errW_none,errW_some] <;> rfl)|(simp [*,errW_none,errW_some] <;> rfl),by repeat (first|(with_reducible first|exact HB.out|apply below_alloc|apply pw_below_drewN|apply below_drew1|refine below_set ?_ GE490.out|refine below_set ?_ GE491.out)|exact HB.out)⟩
   ·replace c12:=Bool.eq_false_iff.mpr c12
    subst c12
    have H1 : (some false) = some r:=by rw [if_neg (show ¬ (false = true) by decide)] at H;exact H
    clear H
    have H:=H1
    clear H1
    obtain rfl:=Option.some.inj H
    go_enter Try.func45,Try.ntmps45
    go_wp2_with (first|((with_reducible refine gate_dst (N:=2) rfl ?_);refine box_event ?hg (N:=2) ?hd (cs:=#[.bool a0_0,.slice A0_1 l0_1.length c0_1,.slice A0_2 l0_2.length c0_2]) (t:=46) ?hr ?_;(case hd=>rfl);(case hg=>rfl);(case hr=>first|(go_simp;done)|(go_simp;rfl));intro gb490 hg w21 hbox hb;have n0_:=Aside0.mk (below_step (by repeat (first|(with_reducible first|exact HB.out|apply below_alloc|apply pw_below_drewN|apply below_drew1)|exact HB.out)) hb);have n1_:=Aside0.mk (hbox);have n2_:=Aside0.mk ((by rw [hg];exact (below_size (by repeat (first|(with_reducible first|exact HB.out|apply below_alloc|apply pw_below_drewN|apply below_drew1)|exact HB.out))) : w.heap.size ≤ gb490));have n3_:=Aside0.mk ((by rw [hg];exact (below_size (by repeat (first|(with_reducible first|exact HB.out|apply below_alloc|apply pw_below_drewN|apply below_drew1)|exact HB.out))) : w.heap.size ≤ gb490));clear HB;have HB:=n0_;have BK490:=n1_;have GW490:=n2_;have GE490:=n3_;clear n0_ n1_ n2_ n3_;clear hb hbox hg)|((with_reducible refine gate_dst (N:=3) rfl ?_);refine box_event ?hg (N:=3) ?hd (cs:=#[.bool a1_0,.slice A1_1 l1_1.length c1_1,.slice A1_2 l1_2.length c1_2]) (t:=46) ?hr ?_;(case hd=>rfl);(case hg=>rfl);(case hr=>first|(go_simp;done)|(go_simp;rfl));intro gb491 hg w22 hbox hb;have n0_:=Aside0.mk (blk_below (g:=gb490) (o:=.cells #[.bool a0_0,.slice A0_1 l0_1.length c0_1,.slice A0_2 l0_2.length c0_2] 46 (0,0)) (by (with_reducible repeat (first|refine blk_drewN ?_ _|refine blk_drew ?_|refine blk_alloc ?_ _));exact BK490.out) hb);have n1_:=Aside0.mk (below_step (by repeat (first|(with_reducible first|exact HB.out|apply below_alloc|apply pw_below_drewN|apply below_drew1|refine below_set ?_ GE490.out)|exact HB.out)) hb);have n2_:=Aside0.mk (hbox);have n3_:=Aside0.mk ((by rw [hg];exact (below_size (by repeat (first|(with_reducible first|exact HB.out|apply below_alloc|apply pw_below_drewN|apply below_drew1|refine below_set ?_ GE490.out)|exact HB.out))) : w.heap.size ≤ gb491));have n4_:=Aside0.mk ((by rw [hg];exact (below_size (by repeat (first|(with_reducible first|exact HB.out|apply below_alloc|apply pw_below_drewN|apply below_drew1|refine below_set ?_ GE490.out)|exact HB.out))) : w.heap.size ≤ gb491));have n5_:=Aside0.mk ((by rw [hg];exact Nat.ne_of_lt (blk_lt (g:=gb490) (o:=.cells #[.bool a0_0,.slice A0_1 l0_1.length c0_1,.slice A0_2 l0_2.length c0_2] 46 (0,0)) (by (with_reducible repeat (first|refine blk_drewN ?_ _|refine blk_drew ?_|refine blk_alloc ?_ _));exact BK490.out)) : gb490 ≠ gb491));have n6_:=Aside0.mk ((by rw [hg];exact Nat.ne_of_gt (blk_lt (g:=gb490) (o:=.cells #[.bool a0_0,.slice A0_1 l0_1.length c0_1,.slice A0_2 l0_2.length c0_2] 46 (0,0)) (by (with_reducible repeat (first|refine blk_drewN ?_ _|refine blk_drew ?_|refine blk_alloc ?_ _));exact BK490.out)) : gb491 ≠ gb490));clear BK490;clear HB;have BK490:=n0_;have HB:=n1_;have BK491:=n2_;have GW491:=n3_;have GE491:=n4_;have NB490_491:=n5_;have NB491_490:=n6_;clear n0_ n1_ n2_ n3_ n4_ n5_ n6_;clear hb hbox hg;have hnb23:=NB490_491.out;have hnc23:=NB491_490.out;have hcz24_0 : w22.cell? ⟨gb490,0,none⟩ = some (.bool a0_0):=(blk_cell BK490.out 0).trans rfl;have hcz24_1 : w22.cell? ⟨gb490,1,none⟩ = some (.slice A0_1 l0_1.length c0_1):=(blk_cell BK490.out 1).trans rfl;have hcz24_2 : w22.cell? ⟨gb490,2,none⟩ = some (.slice A0_2 l0_2.length c0_2):=(blk_cell BK490.out 2).trans rfl;have hfz24_0:=blk_frozen BK490.out 0;have hfz24_1:=blk_frozen BK490.out 1;have hfz24_2:=blk_frozen BK490.out 2;have hcz25_0 : w22.cell? ⟨gb491,0,none⟩ = some (.bool a1_0):=(blk_cell BK491.out 0).trans rfl;have hcz25_1 : w22.cell? ⟨gb491,1,none⟩ = some (.slice A1_1 l1_1.length c1_1):=(blk_cell BK491.out 1).trans rfl;have hcz25_2 : w22.cell? ⟨gb491,2,none⟩ = some (.slice A1_2 l1_2.length c1_2):=(blk_cell BK491.out 2).trans rfl;have hfz25_0:=blk_frozen BK491.out 0;have hfz25_1:=blk_frozen BK491.out 1;have hfz25_2:=blk_frozen BK491.out 2)|((with_reducible refine gate_callee (f:=100) rfl ?_);refine goesL_ (some 14) rfl rfl Try.func100 (by kernel_rfl) rfl #[.slice A0_1 l0_1.length c0_1,.slice A1_1 l1_1.length c1_1] rfl (by (try simp only [List.map_toArray,List.map_cons,List.map_nil]);first|done|rfl|(simp only [List.length_drop,List.length_take];rfl)) ?_;(with_reducible refine (laws_eqSectionS.calls k _ _ l0_1 _ _ l1_1 true _ ?side1 ?side2 ?side3 ?side4 A9.out).mono ?_);(case side1=>repeat (first|exact (Kd.C_below HR0_1.out HB.out)|(with_reducible refine Kd.C_alloc ?_ _)|(with_reducible refine Kd.C_drewN ?_ _)|(with_reducible refine Kd.C_drew ?_)));(case side2=>exact HC0_1.out);(case side3=>repeat (first|exact (Kd.C_below HR1_1.out HB.out)|(with_reducible refine Kd.C_alloc ?_ _)|(with_reducible refine Kd.C_drewN ?_ _)|(with_reducible refine Kd.C_drew ?_)));(case side4=>exact HC1_1.out);rintro e w26 ⟨rfl,hb⟩;refine ⟨_,rfl,?_⟩;have n0_:=Aside0.mk (blk_below (g:=gb490) (o:=.cells #[.bool a0_0,.slice A0_1 l0_1.length c0_1,.slice A0_2 l0_2.length c0_2] 46 (0,0)) (by (with_reducible repeat (first|refine blk_drewN ?_ _|refine blk_drew ?_|refine blk_alloc ?_ _));exact BK490.out) hb);have n1_:=Aside0.mk (blk_below (g:=gb491) (o:=.cells #[.bool a1_0,.slice A1_1 l1_1.length c1_1,.slice A1_2 l1_2.length c1_2] 46 (0,0)) (by (with_reducible repeat (first|refine blk_drewN ?_ _|refine blk_drew ?_|refine blk_alloc ?_ _));exact BK491.out) hb);have n2_:=Aside0.mk (below_step (by repeat (first|(with_reducible first|exact HB.out|apply below_alloc|apply pw_below_drewN|apply below_drew1|refine below_set ?_ GE490.out|refine below_set ?_ GE491.out)|exact HB.out)) hb);clear BK490;clear BK491;clear HB;have BK490:=n0_;have BK491:=n1_;have HB:=n2_;clear n0_ n1_ n2_;(try clear hb);(try clear hb2);(try clear hk);(try clear hi);have hcz27_0 : w26.cell? ⟨gb490,0,none⟩ = some (.bool a0_0):=(blk_cell BK490.out 0).trans rfl;have hcz27_1 : w26.cell? ⟨gb490,1,none⟩ = some (.slice A0_1 l0_1.length c0_1):=(blk_cell BK490.out 1).trans rfl;have hcz27_2 : w26.cell? ⟨gb490,2,none⟩ = some (.slice A0_2 l0_2.length c0_2):=(blk_cell BK490.out 2).trans rfl;have hfz27_0:=blk_frozen BK490.out 0;have hfz27_1:=blk_frozen BK490.out 1;have hfz27_2:=blk_frozen BK490.out 2;have hcz28_0 : w26.cell? ⟨gb491,0,none⟩ = some (.bool a1_0):=(blk_cell BK491.out 0).trans rfl;have hcz28_1 : w26.cell? ⟨gb491,1,none⟩ = some (.slice A1_1 l1_1.length c1_1):=(blk_cell BK491.out 1).trans rfl;have hcz28_2 : w26.cell? ⟨gb491,2,none⟩ = some (.slice A1_2 l1_2.length c1_2):=(blk_cell BK491.out 2).trans rfl;have hfz28_0:=blk_frozen BK491.out 0;have hfz28_1:=blk_frozen BK491.out 1;have hfz28_2:=blk_frozen BK491.out 2)|((with_reducible refine gate_callee (f:=101) rfl ?_);refine goesL_ (some 20) rfl rfl Try.func101 (by kernel_rfl) rfl #[.slice A0_2 l0_2.length c0_2,.slice A1_2 l1_2.length c1_2] rfl (by (try simp only [List.map_toArray,List.map_cons,List.map_nil]);first|done|rfl|(simp only [List.length_drop,List.length_take];rfl)) ?_;(with_reducible refine (laws_eqBoolS.calls k _ _ l0_2 _ _ l1_2 false _ ?side1 ?side2 ?side3 ?side4 A11.out).mono ?_);(case side1=>repeat (first|exact (Kd.C_below HR0_2.out HB.out)|(with_reducible refine Kd.C_alloc ?_ _)|(with_reducible refine Kd.C_drewN ?_ _)|(with_reducible refine Kd.C_drew ?_)));(case side2=>exact HC0_2.out);(case side3=>repeat (first|exact (Kd.C_below HR1_2.out HB.out)|(with_reducible refine Kd.C_alloc ?_ _)|(with_reducible refine Kd.C_drewN ?_ _)|(with_reducible refine Kd.C_drew ?_)));(case side4=>exact HC1_2.out);rintro e w' ⟨rfl,⟨nd,rfl⟩⟩;refine ⟨_,rfl,?_⟩))
    go_ret
    exact ⟨by first|rfl|(simp [errW_none,errW_some] <;> rfl)|(simp [*,errW_none,errW_some] <;> rfl),by repeat (first|(with_reducible first|exact HB.out|apply below_alloc|apply pw_below_drewN|apply below_drew1|refine below_set ?_ GE490.out|refine below_set ?_ GE491.out)|exact HB.out)⟩
  ·replace c10:=Bool.eq_false_iff.mpr c10
   subst c10
   have H1 : (some false) = some r:=by rw [if_neg (show ¬ (false = true) by decide)] at H;exact H
   clear H
   have H:=H1
   clear H1
   obtain rfl:=Option.some.inj H
   go_enter Try.func45,Try.ntmps45
   go_wp2_with (first|((with_reducible refine gate_dst (N:=2) rfl ?_);refine box_event ?hg (N:=2) ?hd (cs:=#[.bool a0_0,.slice A0_1 l0_1.length c0_1,.slice A0_2 l0_2.length c0_2]) (t:=46) ?hr ?_;(case hd=>rfl);(case hg=>rfl);(case hr=>first|(go_simp;done)|(go_simp;rfl));intro gb490 hg w29 hbox hb;have n0_:=Aside0.mk (below_step (by repeat (first|(with_reducible first|exact HB.out|apply below_alloc|apply pw_below_drewN|apply below_drew1)|exact HB.out)) hb);have n1_:=Aside0.mk (hbox);have n2_:=Aside0.mk ((by rw [hg];exact (below_size (by repeat (first|(with_reducible first|exact HB.out|apply below_alloc|apply pw_below_drewN|apply below_drew1)|exact HB.out))) : w.heap.size ≤ gb490));have n3_:=Aside0.mk ((by rw [hg];exact (below_size (by repeat (first|(with_reducible first|exact HB.out|apply below_alloc|apply pw_below_drewN|apply below_drew1)|exact HB.out))) : w.heap.size ≤ gb490));clear HB;have HB:=n0_;have BK490:=n1_;have GW490:=n2_;have GE490:=n3_;clear n0_ n1_ n2_ n3_;clear hb hbox hg)|((with_reducible refine gate_dst (N:=3) rfl ?_);refine box_event ?hg (N:=3) ?hd (cs:=#[.bool a1_0,.slice A1_1 l1_1.length c1_1,.slice A1_2 l1_2.length c1_2]) (t:=46) ?hr ?_;(case hd=>rfl);(case hg=>rfl);(case hr=>first|(go_simp;done)|(go_simp;rfl));intro gb491 hg w30 hbox hb;have n0_:=Aside0.mk (blk_below (g:=gb490) (o:=.cells #[.bool a0_0,.slice A0_1 l0_1.length c0_1,.slice A0_2 l0_2.length c0_2] 46 (0,0)) (by (with_reducible repeat (first|refine blk_drewN ?_ _|refine blk_drew ?_|refine blk_alloc ?_ _));exact BK490.out) hb);have n1_:=Aside0.mk (below_step (by repeat (first|(with_reducible first|exact HB.out|apply below_alloc|apply pw_below_drewN|apply below_drew1|refine below_set ?_ GE490.out)|exact HB.out)) hb);have n2_:=Aside0.mk (hbox);have n3_:=Aside0.mk ((by rw [hg];exact (below_size (by repeat (first|(with_reducible first|exact HB.out|apply below_alloc|apply pw_below_drewN|apply below_drew1|refine below_set ?_ GE490.out)|exact HB.out))) : w.heap.size ≤ gb491));have n4_:=Aside0.mk ((by rw [hg];exact (below_size (by repeat (first|(with_reducible first|exact HB.out|apply below_alloc|apply pw_below_drewN|apply below_drew1|refine below_set ?_ GE490.out)|exact HB.out))) : w.heap.size ≤ gb491));have n5_:=Aside0.mk ((by rw [hg];exact Nat.ne_of_lt (blk_lt (g:=gb490) (o:=.cells #[.bool a0_0,.slice A0_1 l0_1.length c0_1,.slice A0_2 l0_2.length c0_2] 46 (0,0)) (by (with_reducible repeat (first|refine blk_drewN ?_ _|refine blk_drew ?_|refine blk_alloc ?_ _));exact BK490.out)) : gb490 ≠ gb491));have n6_:=Aside0.mk ((by rw [hg];exact Nat.ne_of_gt (blk_lt (g:=gb490) (o:=.cells #[.bool a0_0,.slice A0_1 l0_1.length c0_1,.slice A0_2 l0_2.length c0_2] 46 (0,0)) (by (with_reducible repeat (first|refine blk_drewN ?_ _|refine blk_drew ?_|refine blk_alloc ?_ _));exact BK490.out)) : gb491 ≠ gb490));clear BK490;clear HB;have BK490:=n0_;have HB:=n1_;have BK491:=n2_;have GW491:=n3_;have GE491:=n4_;have NB490_491:=n5_;have NB491_490:=n6_;clear n0_ n1_ n2_ n3_ n4_ n5_ n6_;clear hb hbox hg;have hnb31:=NB490_491.out;have hnc31:=NB491_490.out;have hcz32_0 : w30.cell? ⟨gb490,0,none⟩ = some (.bool a0_0):=(blk_cell BK490.out 0).trans rfl;have hcz32_1 : w30.cell? ⟨gb490,1,none⟩ = some (.slice A0_1 l0_1.length c0_1):=(blk_cell BK490.out 1).trans rfl;have hcz32_2 : w30.cell? ⟨gb490,2,none⟩ = some (.slice A0_2 l0_2.length c0_2):=(blk_cell BK490.out 2).trans rfl;have hfz32_0:=blk_frozen BK490.out 0;have hfz32_1:=blk_frozen BK490.out 1;have hfz32_2:=blk_frozen BK490.out 2;have hcz33_0 : w30.cell? ⟨gb491,0,none⟩ = some (.bool a1_0):=(blk_cell BK491.out 0).trans rfl;have hcz33_1 : w30.cell? ⟨gb491,1,none⟩ = some (.slice A1_1 l1_1.length c1_1):=(blk_cell BK491.out 1).trans rfl;have hcz33_2 : w30.cell? ⟨gb491,2,none⟩ = some (.slice A1_2 l1_2.length c1_2):=(blk_cell BK491.out 2).trans rfl;have hfz33_0:=blk_frozen BK491.out 0;have hfz33_1:=blk_frozen BK491.out 1;have hfz33_2:=blk_frozen BK491.out 2)|((with_reducible refine gate_callee (f:=100) rfl ?_);refine goesL_ (some 14) rfl rfl Try.func100 (by kernel_rfl) rfl #[.slice A0_1 l0_1.length c0_1,.slice A1_1 l1_1.length c1_1] rfl (by (try simp only [List.map_toArray,List.map_cons,List.map_nil]);first|done|rfl|(simp only [List.length_drop,List.length_take];rfl)) ?_;(with_reducible refine (laws_eqSectionS.calls k _ _ l0_1 _ _ l1_1 false _ ?side1 ?side2 ?side3 ?side4 A9.out).mono ?_);(case side1=>repeat (first|exact (Kd.C_below HR0_1.out HB.out)|(with_reducible refine Kd.C_alloc ?_ _)|(with_reducible refine Kd.C_drewN ?_ _)|(with_reducible refine Kd.C_drew ?_)));(case side2=>exact HC0_1.out);(case side3=>repeat (first|exact (Kd.C_below HR1_1.out HB.out)|(with_reducible refine Kd.C_alloc ?_ _)|(with_reducible refine Kd.C_drewN ?_ _)|(with_reducible refine Kd.C_drew ?_)));(case side4=>exact HC1_1.out);rintro e w34 ⟨rfl,hb⟩;refine ⟨_,rfl,?_⟩;have n0_:=Aside0.mk (blk_below (g:=gb490) (o:=.cells #[.bool a0_0,.slice A0_1 l0_1.length c0_1,.slice A0_2 l0_2.length c0_2] 46 (0,0)) (by (with_reducible repeat (first|refine blk_drewN ?_ _|refine blk_drew ?_|refine blk_alloc ?_ _));exact BK490.out) hb);have n1_:=Aside0.mk (blk_below (g:=gb491) (o:=.cells #[.bool a1_0,.slice A1_1 l1_1.length c1_1,.slice A1_2 l1_2.length c1_2] 46 (0,0)) (by (with_reducible repeat (first|refine blk_drewN ?_ _|refine blk_drew ?_|refine blk_alloc ?_ _));exact BK491.out) hb);have n2_:=Aside0.mk (below_step (by repeat (first|(with_reducible first|exact HB.out|apply below_alloc|apply pw_below_drewN|apply below_drew1|refine below_set ?_ GE490.out|refine below_set ?_ GE491.out)|exact HB.out)) hb);clear BK490;clear BK491;clear HB;have BK490:=n0_;have BK491:=n1_;have HB:=n2_;clear n0_ n1_ n2_;(try clear hb);(try clear hb2);(try clear hk);(try clear hi)))
   go_ret
   exact ⟨by first|rfl|(simp [errW_none,errW_some] <;> rfl)|(simp [*,errW_none,errW_some] <;> rfl),by repeat (first|(with_reducible first|exact HB.out|apply below_alloc|apply pw_below_drewN|apply below_drew1|refine below_set ?_ GE490.out|refine below_set ?_ GE491.out)|exact HB.out)⟩
end Go.Proofs.Ytpdnabhpkdchjaa.P
namespace Go.Proofs.Ytpdnabhpkdchjaa.P
open Go.RowKit Go.Proofs.YtpdnabhpkdchjaaW.PrintWords Go.Proofs.YtpdnabhpkdchjaaW.PrintLast Go.Proofs.YtpdnabhpkdchjaaW.PrintMore
attribute [local go_sem] max2_int min2_int max_two min_two max_three min_three max_four min_four
set_option linter.unusedVariables false
set_option linter.unusedSimpArgs false
def laws_markSectionS.l0 : Nat → List (S50) → Int → Int → Option (Int × (List (S50)))
 | 0,_,_,_=>none
 | k + 1,x0,x1,x5=>if x5 < (x0.length : Int) then (if 0 ≤ x5 then ((some (x0.set (x5 : Int).toNat (⟨x1,(rd_T50 x0 x5).f1,(rd_T50 x0 x5).f2,(rd_T50 x0 x5).f3,(rd_T50 x0 x5).f4⟩ : S50) : List (S50))).bind fun y494=>((some (y494.set (x5 : Int).toNat (⟨(rd_T50 y494 x5).f0,wrap64 (x1 + 1),(rd_T50 y494 x5).f2,(rd_T50 y494 x5).f3,(rd_T50 y494 x5).f4⟩ : S50) : List (S50))).bind fun y495=>((some (y495.set (x5 : Int).toNat (⟨(rd_T50 y495 x5).f0,(rd_T50 y495 x5).f1,((Int.tmod (wrap64 ((wrap64 (x1 + 1)) + 1)) 3) == 0),(rd_T50 y495 x5).f3,(rd_T50 y495 x5).f4⟩ : S50) : List (S50))).bind fun y496=>((some (y496.set (x5 : Int).toNat (⟨(rd_T50 y496 x5).f0,(rd_T50 y496 x5).f1,(rd_T50 y496 x5).f2,((Int.tmod (wrap64 ((wrap64 ((wrap64 (x1 + 1)) + 1)) + 1)) 3) == 0),(rd_T50 y496 x5).f4⟩ : S50) : List (S50))).bind fun y497=>(laws_markSectionS.l0 k (y497.set (x5 : Int).toNat (⟨(rd_T50 y497 x5).f0,(rd_T50 y497 x5).f1,(rd_T50 y497 x5).f2,(rd_T50 y497 x5).f3,wrap64 ((wrap64 ((wrap64 ((wrap64 (x1 + 1)) + 1)) + 1)) + 1)⟩ : S50)) (wrap64 ((wrap64 ((wrap64 ((wrap64 ((wrap64 (x1 + 1)) + 1)) + 1)) + 1)) + 1)) (wrap64 (x5 + 1))))))) else (none)) else (some (x1,x0))
def laws_markSectionS.f (k : Nat) (l0 : List (S50)) (a1 : Int) : Option (Int × (List (S50))):=laws_markSectionS.l0 k l0 a1 0
set_option maxHeartbeats 8000000 in
set_option maxRecDepth 100000 in
theorem laws_markSectionS.calls (k : Nat) (P0_ : Nat → Prop) (u9000_ : Value) (l0 : List (S50)) (a1 : Int) (r1 : Int) (r2 : List (S50)) (w0 w : World) (hB : Below w0.heap.size w0 w) (ho0 : Kd.R k50 50 w w0.heap.size P0_ u9000_ l0) (h : laws_markSectionS.f k l0 a1 = some (r1,r2)) :
  Calls Try.prog 102 #[u9000_,.int .i64 a1] w fun e w'=>e = .returned (.int .i64 r1)∧Kd.R k50 50 w' w0.heap.size (fun k_=>(P0_ k_ ∨ w.heap.size ≤ k_)) u9000_ r2∧Below w0.heap.size w0 w'∧Kept w w' (fun k_=>P0_ k_):=by
 have HO0:=Aside0.mk (show Kd.R k50 50 w w0.heap.size (fun k_=>(P0_ k_ ∨ w.heap.size ≤ k_)) u9000_ l0 from Kd.R_mono ho0 (fun k_ hk=>(.inl hk)))
 have HK:=Aside0.mk (Kept.refl w (fun k_=>P0_ k_))
 have HW0:=Aside0.mk hB.size
 have HB:=Aside0.mk hB
 clear hB
 have H : (laws_markSectionS.l0 k l0 a1 0) = some (r1,r2):=h
 clear h
 have H':=Aside0.mk H
 clear H
 go_enter Try.func102,Try.ntmps102
 go_wp2
 go_loopg [1,5] k (fun kq v1 v5 w'=>∃ (x0_1 : List (S50)) (x1_1 : Int) (x5_1 : Int),v1 = .int .i64 x1_1∧v5 = .int .i64 x5_1∧Aside0 (laws_markSectionS.l0 kq x0_1 x1_1 x5_1 = some (r1,r2))∧Aside0 (kq ≤ k)∧Aside0 (Kd.R k50 50 w' w0.heap.size (fun k_=>(P0_ k_ ∨ w.heap.size ≤ k_)) u9000_ x0_1)∧Aside0 (Kept w w' (fun k_=>P0_ k_))∧Aside0 (Below w0.heap.size w0 w'))
 case atStart=>exact ⟨(l0),(a1),(0),(by first|rfl|(simp;done)|(simp [*];done)),(by first|rfl|(simp;done)|(simp [*];done)),H',⟨Nat.le_refl _⟩,⟨by (with_reducible repeat (first|apply Kd.R_alloc|apply Kd.R_drewN|apply Kd.R_drew));exact HO0.out⟩,⟨by repeat (first|(with_reducible first|exact HK.out|apply Kept.alloc|apply Kept.drewN|apply Kept.drew)|exact HK.out)⟩,⟨by repeat (first|(with_reducible first|exact HB.out|apply below_alloc|apply pw_below_drewN|apply below_drew1)|exact HB.out)⟩⟩
 case round =>
  clear H'
  try clear c1
  try clear p2
  obtain ⟨x0_1,x1_1,x5_1,rfl,rfl,HA,HK1,HO_0,HK,HB⟩:=hrel
  cases gk with
  | zero=>exact absurd HA.out (by simp [laws_markSectionS.l0])
  | succ k1 =>
   have H:=HA.out
   clear HA
   simp only [laws_markSectionS.l0] at H
   by_cases c3 : x5_1 < (x0_1.length : Int)
   ·rw [if_pos c3] at H
    have c3b0 : decide (x5_1 < (x0_1.length : Int)) = true:=decide_eq_true c3
    clear c3
    by_cases c4 : 0 ≤ x5_1
    ·rw [if_pos c4] at H
     have c4b0 : decide (0 ≤ x5_1) = true:=decide_eq_true c4
     clear c4
     obtain ⟨y494,hy494⟩ : ∃ y_ : List (S50),y_ = (x0_1.set (x5_1 : Int).toNat (⟨x1_1,(rd_T50 x0_1 x5_1).f1,(rd_T50 x0_1 x5_1).f2,(rd_T50 x0_1 x5_1).f3,(rd_T50 x0_1 x5_1).f4⟩ : S50)):=⟨_,rfl⟩
     replace H : ((some (y494.set (x5_1 : Int).toNat (⟨(rd_T50 y494 x5_1).f0,wrap64 (x1_1 + 1),(rd_T50 y494 x5_1).f2,(rd_T50 y494 x5_1).f3,(rd_T50 y494 x5_1).f4⟩ : S50) : List (S50))).bind fun y495=>((some (y495.set (x5_1 : Int).toNat (⟨(rd_T50 y495 x5_1).f0,(rd_T50 y495 x5_1).f1,((Int.tmod (wrap64 ((wrap64 (x1_1 + 1)) + 1)) 3) == 0),(rd_T50 y495 x5_1).f3,(rd_T50 y495 x5_1).f4⟩ : S50) : List (S50))).bind fun y496=>((some (y496.set (x5_1 : Int).toNat (⟨(rd_T50 y496 x5_1).f0,(rd_T50 y496 x5_1).f1,(rd_T50 y496 x5_1).f2,((Int.tmod (wrap64 ((wrap64 ((wrap64 (x1_1 + 1)) + 1)) + 1)) 3) == 0),(rd_T50 y496 x5_1).f4⟩ : S50) : List (S50))).bind fun y497=>(laws_markSectionS.l0 k1 (y497.set (x5_1 : Int).toNat (⟨(rd_T50 y497 x5_1).f0,(rd_T50 y497 x5_1).f1,(rd_T50 y497 x5_1).f2,(rd_T50 y497 x5_1).f3,wrap64 ((wrap64 ((wrap64 ((wrap64 (x1_1 + 1)) + 1)) + 1)) + 1)⟩ : S50)) (wrap64 ((wrap64 ((wrap64 ((wrap64 ((wrap64 (x1_1 + 1)) + 1)) + 1)) + 1)) + 1)) (wrap64 (x5_1 + 1)))))) = some (r1,r2):=by first|(rw [hy494];with_reducible exact H)|(have H2_:=(Option.bind_some _ _).symm.trans H;rw [hy494];with_reducible exact H2_)|(have H2_:=(Option.bind_some _ _).symm.trans H;with_reducible exact H2_)|with_reducible exact H|(rw [hy494];exact H)|exact H
     have Ny494:=Aside0.mk hy494
     clear hy494
     obtain ⟨y495,hy495⟩ : ∃ y_ : List (S50),y_ = (y494.set (x5_1 : Int).toNat (⟨(rd_T50 y494 x5_1).f0,wrap64 (x1_1 + 1),(rd_T50 y494 x5_1).f2,(rd_T50 y494 x5_1).f3,(rd_T50 y494 x5_1).f4⟩ : S50)):=⟨_,rfl⟩
     replace H : ((some (y495.set (x5_1 : Int).toNat (⟨(rd_T50 y495 x5_1).f0,(rd_T50 y495 x5_1).f1,((Int.tmod (wrap64 ((wrap64 (x1_1 + 1)) + 1)) 3) == 0),(rd_T50 y495 x5_1).f3,(rd_T50 y495 x5_1).f4⟩ : S50) : List (S50))).bind fun y496=>((some (y496.set (x5_1 : Int).toNat (⟨(rd_T50 y496 x5_1).f0,(rd_T50 y496 x5_1).f1,(rd_T50 y496 x5_1).f2,((Int.tmod (wrap64 ((wrap64 ((wrap64 (x1_1 + 1)) + 1)) + 1)) 3) == 0),(rd_T50 y496 x5_1).f4⟩ : S50) : List (S50))).bind fun y497=>(laws_markSectionS.l0 k1 (y497.set (x5_1 : Int).toNat (⟨(rd_T50 y497 x5_1).f0,(rd_T50 y497 x5_1).f1,(rd_T50 y497 x5_1).f2,(rd_T50 y497 x5_1).f3,wrap64 ((wrap64 ((wrap64 ((wrap64 (x1_1 + 1)) + 1)) + 1)) + 1)⟩ : S50)) (wrap64 ((wrap64 ((wrap64 ((wrap64 ((wrap64 (x1_1 + 1)) + 1)) + 1)) + 1)) + 1)) (wrap64 (x5_1 + 1))))) = some (r1,r2):=by first|(rw [hy495];with_reducible exact H)|(have H2_:=(Option.bind_some _ _).symm.trans H;rw [hy495];with_reducible exact H2_)|(have H2_:=(Option.bind_some _ _).symm.trans H;with_reducible exact H2_)|with_reducible exact H|(rw [hy495];exact H)|exact H
     have Ny495:=Aside0.mk hy495
     clear hy495
     obtain ⟨y496,hy496⟩ : ∃ y_ : List (S50),y_ = (y495.set (x5_1 : Int).toNat (⟨(rd_T50 y495 x5_1).f0,(rd_T50 y495 x5_1).f1,((Int.tmod (wrap64 ((wrap64 (x1_1 + 1)) + 1)) 3) == 0),(rd_T50 y495 x5_1).f3,(rd_T50 y495 x5_1).f4⟩ : S50)):=⟨_,rfl⟩
     replace H : ((some (y496.set (x5_1 : Int).toNat (⟨(rd_T50 y496 x5_1).f0,(rd_T50 y496 x5_1).f1,(rd_T50 y496 x5_1).f2,((Int.tmod (wrap64 ((wrap64 ((wrap64 (x1_1 + 1)) + 1)) + 1)) 3) == 0),(rd_T50 y496 x5_1).f4⟩ : S50) : List (S50))).bind fun y497=>(laws_markSectionS.l0 k1 (y497.set (x5_1 : Int).toNat (⟨(rd_T50 y497 x5_1).f0,(rd_T50 y497 x5_1).f1,(rd_T50 y497 x5_1).f2,(rd_T50 y497 x5_1).f3,wrap64 ((wrap64 ((wrap64 ((wrap64 (x1_1 + 1)) + 1)) + 1)) + 1)⟩ : S50)) (wrap64 ((wrap64 ((wrap64 ((wrap64 ((wrap64 (x1_1 + 1)) + 1)) + 1)) + 1)) + 1)) (wrap64 (x5_1 + 1)))) = some (r1,r2):=by first|(rw [hy496];with_reducible exact H)|(have H2_:=(Option.bind_some _ _).symm.trans H;rw [hy496];with_reducible exact H2_)|(have H2_:=(Option.bind_some _ _).symm.trans H;with_reducible exact H2_)|with_reducible exact H|(rw [hy496];exact H)|exact H
     have Ny496:=Aside0.mk hy496
     clear hy496
     obtain ⟨y497,hy497⟩ : ∃ y_ : List (S50),y_ = (y496.set (x5_1 : Int).toNat (⟨(rd_T50 y496 x5_1).f0,(rd_T50 y496 x5_1).f1,(rd_T50 y496 x5_1).f2,((Int.tmod (wrap64 ((wrap64 ((wrap64 (x1_1 + 1)) + 1)) + 1)) 3) == 0),(rd_T50 y496 x5_1).f4⟩ : S50)):=⟨_,rfl⟩
     replace H : (laws_markSectionS.l0 k1 (y497.set (x5_1 : Int).toNat (⟨(rd_T50 y497 x5_1).f0,(rd_T50 y497 x5_1).f1,(rd_T50 y497 x5_1).f2,(rd_T50 y497 x5_1).f3,wrap64 ((wrap64 ((wrap64 ((wrap64 (x1_1 + 1)) + 1)) + 1)) + 1)⟩ : S50)) (wrap64 ((wrap64 ((wrap64 ((wrap64 ((wrap64 (x1_1 + 1)) + 1)) + 1)) + 1)) + 1)) (wrap64 (x5_1 + 1))) = some (r1,r2):=by first|(rw [hy497];with_reducible exact H)|(have H2_:=(Option.bind_some _ _).symm.trans H;rw [hy497];with_reducible exact H2_)|(have H2_:=(Option.bind_some _ _).symm.trans H;with_reducible exact H2_)|with_reducible exact H|(rw [hy497];exact H)|exact H
     have Ny497:=Aside0.mk hy497
     clear hy497
     obtain ⟨y498,hy498⟩ : ∃ y_ : List (S50),y_ = (y497.set (x5_1 : Int).toNat (⟨(rd_T50 y497 x5_1).f0,(rd_T50 y497 x5_1).f1,(rd_T50 y497 x5_1).f2,(rd_T50 y497 x5_1).f3,wrap64 ((wrap64 ((wrap64 ((wrap64 (x1_1 + 1)) + 1)) + 1)) + 1)⟩ : S50)):=⟨_,rfl⟩
     replace H : (laws_markSectionS.l0 k1 y498 (wrap64 ((wrap64 ((wrap64 ((wrap64 ((wrap64 (x1_1 + 1)) + 1)) + 1)) + 1)) + 1)) (wrap64 (x5_1 + 1))) = some (r1,r2):=by first|(rw [hy498];with_reducible exact H)|(have H2_:=(Option.bind_some _ _).symm.trans H;rw [hy498];with_reducible exact H2_)|(have H2_:=(Option.bind_some _ _).symm.trans H;with_reducible exact H2_)|with_reducible exact H|(rw [hy498];exact H)|exact H
     have Ny498:=Aside0.mk hy498
     clear hy498
     have H':=Aside0.mk H
     clear H
     obtain ⟨Ao10,co10,eo10⟩:=Kd.R_slice HO_0.out
     subst eo10
     have p5 : 0 ≤ (x5_1 : Int):=of_decide_eq_true (by first|(with_reducible assumption)|assumption)
     have q5 : (x5_1 : Int) < ((x0_1.length : Int) : Int):=of_decide_eq_true (by first|(with_reducible assumption)|assumption)
     obtain ⟨go5,co5,eo5,gb5,gl5,cl5,HG5⟩:=Kd.R_form HO_0.out (by omega)
     (first|cases eo5|(injection eo5 with ea_ en_ ec_;(first|subst ea_|(injection ea_ with ea_;subst ea_));subst ec_;clear en_))
     have GB5:=Aside0.mk gb5
     have GG5:=Aside0.mk HG5
     clear gb5 gl5 HG5
     have HMgo5:=Aside0.mk (show (P0_ go5 ∨ w.heap.size ≤ go5) from (HO_0.out.1 _ rfl))
     obtain ⟨ce5,hcl5,hM5,hcc5,hfr5⟩:=Kd.R_elem HO_0.out z50 (x5_1 : Int) p5 q5
     obtain rfl:=k50_openM hM5
     have hx5_0 : wr.cell? ⟨go5,(x5_1 : Int).toNat * 5,none⟩ = some (.int .i64 ((rd_T50 x0_1 x5_1).f0)):=hcc5 0 _ rfl
     have hx5_1 : wr.cell? ⟨go5,(x5_1 : Int).toNat * 5 + 1,none⟩ = some (.int .i64 ((rd_T50 x0_1 x5_1).f1)):=hcc5 1 _ rfl
     have hx5_2 : wr.cell? ⟨go5,(x5_1 : Int).toNat * 5 + 2,none⟩ = some (.bool ((rd_T50 x0_1 x5_1).f2)):=hcc5 2 _ rfl
     have hx5_3 : wr.cell? ⟨go5,(x5_1 : Int).toNat * 5 + 3,none⟩ = some (.bool ((rd_T50 x0_1 x5_1).f3)):=hcc5 3 _ rfl
     have hx5_4 : wr.cell? ⟨go5,(x5_1 : Int).toNat * 5 + 4,none⟩ = some (.int .i64 ((rd_T50 x0_1 x5_1).f4)):=hcc5 4 _ rfl
     have hf5_0 : wr.frozen? ⟨go5,(x5_1 : Int).toNat * 5,none⟩ = false:=hfr5 0
     have hf5_1 : wr.frozen? ⟨go5,(x5_1 : Int).toNat * 5 + 1,none⟩ = false:=hfr5 1
     have hf5_2 : wr.frozen? ⟨go5,(x5_1 : Int).toNat * 5 + 2,none⟩ = false:=hfr5 2
     have hf5_3 : wr.frozen? ⟨go5,(x5_1 : Int).toNat * 5 + 3,none⟩ = false:=hfr5 3
     have hf5_4 : wr.frozen? ⟨go5,(x5_1 : Int).toNat * 5 + 4,none⟩ = false:=hfr5 4
     clear hcl5 hcc5 hfr5 hM5
     replace p5:=eq_true p5
     replace q5:=eq_true q5
     have HX11:=Aside0.mk (show Kd.R k50 50 wr w0.heap.size (fun k_=>(P0_ k_ ∨ w.heap.size ≤ k_)) (.slice (some ⟨go5,0,none⟩) x0_1.length co10) x0_1 from (by (with_reducible repeat (first|apply Kd.R_alloc|apply Kd.R_drewN|apply Kd.R_drew));exact HO_0.out))
     obtain ⟨ce11,hcl11,hM11,hcc11,hfr11⟩:=Kd.R_elem HX11.out z50 (x5_1 : Int) (of_decide_eq_true (by first|(with_reducible assumption)|assumption)) (by have h_ : (x5_1 : Int) < ((x0_1.length : Int) : Int):=of_decide_eq_true (by first|(with_reducible assumption)|assumption);first|exact h_|(have e_:=(Kd.R_reads' HO_0.out).1;omega)|simpa using h_)
     obtain rfl:=k50_openM hM11
     have HP11:=Kd.R_seg HX11.out (x5_1 : Int) (of_decide_eq_true (by first|(with_reducible assumption)|assumption)) (by have h_ : (x5_1 : Int) < ((x0_1.length : Int) : Int):=of_decide_eq_true (by first|(with_reducible assumption)|assumption);first|exact h_|(have e_:=(Kd.R_reads' HO_0.out).1;omega)|simpa using h_) (seg:=[.int .i64 x1_1]) (j:=0) hcl11 hcc11 (show 1 ≤ 5 from by decide) (x':=(⟨x1_1,(rd_T50 x0_1 x5_1).f1,(rd_T50 x0_1 x5_1).f2,(rd_T50 x0_1 x5_1).f3,(rd_T50 x0_1 x5_1).f4⟩ : S50)) (k50_mkM _ _ _ (⟨x1_1,(rd_T50 x0_1 x5_1).f1,(rd_T50 x0_1 x5_1).f2,(rd_T50 x0_1 x5_1).f3,(rd_T50 x0_1 x5_1).f4⟩ : S50) ) (fun _ hk=>hk)
     have hx11_0:=hcc11 0 _ rfl
     (try simp only [show (k50).sz = 5 from rfl,Nat.mul_one,Nat.add_zero] at hx11_0)
     have hf11_0:=hfr11 0
     (try simp only [show (k50).sz = 5 from rfl,Nat.mul_one,Nat.add_zero] at hf11_0)
     clear hcl11 hcc11 hfr11 hM11
     go_wp2_with (first|((with_reducible refine gate_store (t:=3) (p:=16) rfl ?_);refine store_event (t:=3) (p:=16) (v:=?vo_w12) (w1:=(wr.setCell ⟨go5,(x5_1 : Int).toNat * 5,none⟩ (.int .i64 x1_1))) ?hg ?ho ?hn ?hr ?_;(case ho=>rfl);(case hg=>rfl);(case hn=>rfl);(case hr=>first|(go_simp;done)|(go_simp;rfl));intro w12 hw;have hg : wr.grownBy w12 (some go5):=(by rw [hw];exact HP11.2);have hp_ : Kd.R k50 50 w12 w0.heap.size (fun k_=>(P0_ k_ ∨ w.heap.size ≤ k_)) (.slice (some ⟨go5,0,none⟩) x0_1.length co10) y494:=(by rw [hw,Ny494.out];exact HP11.1);clear HP11;have n0_:=Aside0.mk (hp_);have n1_:=Aside0.mk ((by rw [hw];exact below_set (HB.out) GB5.out : Below w0.heap.size w0 w12));have n2_:=Aside0.mk (Kept.of_grown (S:=(fun k_=>P0_ k_)) hg (by repeat (first|(with_reducible first|exact HK.out|apply Kept.alloc|apply Kept.drewN|apply Kept.drew)|exact HK.out)) (fun k_ e_=>(HO_0.out.1 k_ e_)));clear HO_0;clear HB;clear HK;have HO_0:=n0_;have HB:=n1_;have HK:=n2_;clear n0_ n1_ n2_;clear hg hw hp_;have p6 : 0 ≤ (x5_1 : Int):=of_decide_eq_true (by first|(with_reducible assumption)|assumption);have q6 : (x5_1 : Int) < ((x0_1.length : Int) : Int):=of_decide_eq_true (by first|(with_reducible assumption)|assumption);obtain ⟨ce6,hcl6,hM6,hcc6,hfr6⟩:=Kd.R_elem HO_0.out z50 (x5_1 : Int) p6 q6;obtain rfl:=k50_openM hM6;have hx6_0 : w12.cell? ⟨go5,(x5_1 : Int).toNat * 5,none⟩ = some (.int .i64 ((rd_T50 y494 x5_1).f0)):=hcc6 0 _ rfl;have hx6_1 : w12.cell? ⟨go5,(x5_1 : Int).toNat * 5 + 1,none⟩ = some (.int .i64 ((rd_T50 y494 x5_1).f1)):=hcc6 1 _ rfl;have hx6_2 : w12.cell? ⟨go5,(x5_1 : Int).toNat * 5 + 2,none⟩ = some (.bool ((rd_T50 y494 x5_1).f2)):=hcc6 2 _ rfl;have hx6_3 : w12.cell? ⟨go5,(x5_1 : Int).toNat * 5 + 3,none⟩ = some (.bool ((rd_T50 y494 x5_1).f3)):=hcc6 3 _ rfl;have hx6_4 : w12.cell? ⟨go5,(x5_1 : Int).toNat * 5 + 4,none⟩ = some (.int .i64 ((rd_T50 y494 x5_1).f4)):=hcc6 4 _ rfl;have hf6_0 : w12.frozen? ⟨go5,(x5_1 : Int).toNat * 5,none⟩ = false:=hfr6 0;have hf6_1 : w12.frozen? ⟨go5,(x5_1 : Int).toNat * 5 + 1,none⟩ = false:=hfr6 1;have hf6_2 : w12.frozen? ⟨go5,(x5_1 : Int).toNat * 5 + 2,none⟩ = false:=hfr6 2;have hf6_3 : w12.frozen? ⟨go5,(x5_1 : Int).toNat * 5 + 3,none⟩ = false:=hfr6 3;have hf6_4 : w12.frozen? ⟨go5,(x5_1 : Int).toNat * 5 + 4,none⟩ = false:=hfr6 4;clear hcl6 hcc6 hfr6 hM6;replace p6:=eq_true p6;replace q6:=eq_true q6;have HX13:=Aside0.mk (show Kd.R k50 50 w12 w0.heap.size (fun k_=>(P0_ k_ ∨ w.heap.size ≤ k_)) (.slice (some ⟨go5,0,none⟩) x0_1.length co10) y494 from (by (with_reducible repeat (first|apply Kd.R_alloc|apply Kd.R_drewN|apply Kd.R_drew));exact HO_0.out));obtain ⟨ce13,hcl13,hM13,hcc13,hfr13⟩:=Kd.R_elem HX13.out z50 (x5_1 : Int) (of_decide_eq_true (by first|(with_reducible assumption)|assumption)) (by have h_ : (x5_1 : Int) < ((x0_1.length : Int) : Int):=of_decide_eq_true (by first|(with_reducible assumption)|assumption);first|exact h_|(have e_:=(Kd.R_reads' HO_0.out).1;omega)|simpa using h_);obtain rfl:=k50_openM hM13;have HP13:=Kd.R_seg HX13.out (x5_1 : Int) (of_decide_eq_true (by first|(with_reducible assumption)|assumption)) (by have h_ : (x5_1 : Int) < ((x0_1.length : Int) : Int):=of_decide_eq_true (by first|(with_reducible assumption)|assumption);first|exact h_|(have e_:=(Kd.R_reads' HO_0.out).1;omega)|simpa using h_) (seg:=[.int .i64 (wrap64 (x1_1 + 1))]) (j:=1) hcl13 hcc13 (show 2 ≤ 5 from by decide) (x':=(⟨(rd_T50 y494 x5_1).f0,wrap64 (x1_1 + 1),(rd_T50 y494 x5_1).f2,(rd_T50 y494 x5_1).f3,(rd_T50 y494 x5_1).f4⟩ : S50)) (k50_mkM _ _ _ (⟨(rd_T50 y494 x5_1).f0,wrap64 (x1_1 + 1),(rd_T50 y494 x5_1).f2,(rd_T50 y494 x5_1).f3,(rd_T50 y494 x5_1).f4⟩ : S50) ) (fun _ hk=>hk);have hx13_1:=hcc13 1 _ rfl;(try simp only [show (k50).sz = 5 from rfl,Nat.mul_one,Nat.add_zero] at hx13_1);have hf13_1:=hfr13 1;(try simp only [show (k50).sz = 5 from rfl,Nat.mul_one,Nat.add_zero] at hf13_1);clear hcl13 hcc13 hfr13 hM13)|((with_reducible refine gate_store (t:=3) (p:=23) rfl ?_);refine store_event (t:=3) (p:=23) (v:=?vo_w14) (w1:=(w12.setCell ⟨go5,(x5_1 : Int).toNat * 5 + 1,none⟩ (.int .i64 (wrap64 (x1_1 + 1))))) ?hg ?ho ?hn ?hr ?_;(case ho=>rfl);(case hg=>rfl);(case hn=>rfl);(case hr=>first|(go_simp;done)|(go_simp;rfl));intro w14 hw;have hg : w12.grownBy w14 (some go5):=(by rw [hw];exact HP13.2);have hp_ : Kd.R k50 50 w14 w0.heap.size (fun k_=>(P0_ k_ ∨ w.heap.size ≤ k_)) (.slice (some ⟨go5,0,none⟩) x0_1.length co10) y495:=(by rw [hw,Ny495.out];exact HP13.1);clear HP13;have n0_:=Aside0.mk (hp_);have n1_:=Aside0.mk ((by rw [hw];exact below_set (HB.out) GB5.out : Below w0.heap.size w0 w14));have n2_:=Aside0.mk (Kept.of_grown (S:=(fun k_=>P0_ k_)) hg (by repeat (first|(with_reducible first|exact HK.out|apply Kept.alloc|apply Kept.drewN|apply Kept.drew)|exact HK.out)) (fun k_ e_=>(HO_0.out.1 k_ e_)));clear HO_0;clear HB;clear HK;have HO_0:=n0_;have HB:=n1_;have HK:=n2_;clear n0_ n1_ n2_;clear hg hw hp_;have p7 : 0 ≤ (x5_1 : Int):=of_decide_eq_true (by first|(with_reducible assumption)|assumption);have q7 : (x5_1 : Int) < ((x0_1.length : Int) : Int):=of_decide_eq_true (by first|(with_reducible assumption)|assumption);obtain ⟨ce7,hcl7,hM7,hcc7,hfr7⟩:=Kd.R_elem HO_0.out z50 (x5_1 : Int) p7 q7;obtain rfl:=k50_openM hM7;have hx7_0 : w14.cell? ⟨go5,(x5_1 : Int).toNat * 5,none⟩ = some (.int .i64 ((rd_T50 y495 x5_1).f0)):=hcc7 0 _ rfl;have hx7_1 : w14.cell? ⟨go5,(x5_1 : Int).toNat * 5 + 1,none⟩ = some (.int .i64 ((rd_T50 y495 x5_1).f1)):=hcc7 1 _ rfl;have hx7_2 : w14.cell? ⟨go5,(x5_1 : Int).toNat * 5 + 2,none⟩ = some (.bool ((rd_T50 y495 x5_1).f2)):=hcc7 2 _ rfl;have hx7_3 : w14.cell? ⟨go5,(x5_1 : Int).toNat * 5 + 3,none⟩ = some (.bool ((rd_T50 y495 x5_1).f3)):=hcc7 3 _ rfl;have hx7_4 : w14.cell? ⟨go5,(x5_1 : Int).toNat * 5 + 4,none⟩ = some (.int .i64 ((rd_T50 y495 x5_1).f4)):=hcc7 4 _ rfl;have hf7_0 : w14.frozen? ⟨go5,(x5_1 : Int).toNat * 5,none⟩ = false:=hfr7 0;have hf7_1 : w14.frozen? ⟨go5,(x5_1 : Int).toNat * 5 + 1,none⟩ = false:=hfr7 1;have hf7_2 : w14.frozen? ⟨go5,(x5_1 : Int).toNat * 5 + 2,none⟩ = false:=hfr7 2;have hf7_3 : w14.frozen? ⟨go5,(x5_1 : Int).toNat * 5 + 3,none⟩ = false:=hfr7 3;have hf7_4 : w14.frozen? ⟨go5,(x5_1 : Int).toNat * 5 + 4,none⟩ = false:=hfr7 4;clear hcl7 hcc7 hfr7 hM7;replace p7:=eq_true p7;replace q7:=eq_true q7;have HX15:=Aside0.mk (show Kd.R k50 50 w14 w0.heap.size (fun k_=>(P0_ k_ ∨ w.heap.size ≤ k_)) (.slice (some ⟨go5,0,none⟩) x0_1.length co10) y495 from (by (with_reducible repeat (first|apply Kd.R_alloc|apply Kd.R_drewN|apply Kd.R_drew));exact HO_0.out));obtain ⟨ce15,hcl15,hM15,hcc15,hfr15⟩:=Kd.R_elem HX15.out z50 (x5_1 : Int) (of_decide_eq_true (by first|(with_reducible assumption)|assumption)) (by have h_ : (x5_1 : Int) < ((x0_1.length : Int) : Int):=of_decide_eq_true (by first|(with_reducible assumption)|assumption);first|exact h_|(have e_:=(Kd.R_reads' HO_0.out).1;omega)|simpa using h_);obtain rfl:=k50_openM hM15;have HP15:=Kd.R_seg HX15.out (x5_1 : Int) (of_decide_eq_true (by first|(with_reducible assumption)|assumption)) (by have h_ : (x5_1 : Int) < ((x0_1.length : Int) : Int):=of_decide_eq_true (by first|(with_reducible assumption)|assumption);first|exact h_|(have e_:=(Kd.R_reads' HO_0.out).1;omega)|simpa using h_) (seg:=[.bool ((Int.tmod (wrap64 ((wrap64 (x1_1 + 1)) + 1)) 3) == 0)]) (j:=2) hcl15 hcc15 (show 3 ≤ 5 from by decide) (x':=(⟨(rd_T50 y495 x5_1).f0,(rd_T50 y495 x5_1).f1,((Int.tmod (wrap64 ((wrap64 (x1_1 + 1)) + 1)) 3) == 0),(rd_T50 y495 x5_1).f3,(rd_T50 y495 x5_1).f4⟩ : S50)) (k50_mkM _ _ _ (⟨(rd_T50 y495 x5_1).f0,(rd_T50 y495 x5_1).f1,((Int.tmod (wrap64 ((wrap64 (x1_1 + 1)) + 1)) 3) == 0),(rd_T50 y495 x5_1).f3,(rd_T50 y495 x5_1).f4⟩ : S50) ) (fun _ hk=>hk);have hx15_2:=hcc15 2 _ rfl;(try simp only [show (k50).sz = 5 from rfl,Nat.mul_one,Nat.add_zero] at hx15_2);have hf15_2:=hfr15 2;(try simp only [show (k50).sz = 5 from rfl,Nat.mul_one,Nat.add_zero] at hf15_2);clear hcl15 hcc15 hfr15 hM15)|((with_reducible refine gate_store (t:=4) (p:=32) rfl ?_);refine store_event (t:=4) (p:=32) (v:=?vo_w16) (w1:=(w14.setCell ⟨go5,(x5_1 : Int).toNat * 5 + 2,none⟩ (.bool ((Int.tmod (wrap64 ((wrap64 (x1_1 + 1)) + 1)) 3) == 0)))) ?hg ?ho ?hn ?hr ?_;(case ho=>rfl);(case hg=>rfl);(case hn=>rfl);(case hr=>first|(go_simp;done)|(go_simp;rfl));intro w16 hw;have hg : w14.grownBy w16 (some go5):=(by rw [hw];exact HP15.2);have hp_ : Kd.R k50 50 w16 w0.heap.size (fun k_=>(P0_ k_ ∨ w.heap.size ≤ k_)) (.slice (some ⟨go5,0,none⟩) x0_1.length co10) y496:=(by rw [hw,Ny496.out];exact HP15.1);clear HP15;have n0_:=Aside0.mk (hp_);have n1_:=Aside0.mk ((by rw [hw];exact below_set (HB.out) GB5.out : Below w0.heap.size w0 w16));have n2_:=Aside0.mk (Kept.of_grown (S:=(fun k_=>P0_ k_)) hg (by repeat (first|(with_reducible first|exact HK.out|apply Kept.alloc|apply Kept.drewN|apply Kept.drew)|exact HK.out)) (fun k_ e_=>(HO_0.out.1 k_ e_)));clear HO_0;clear HB;clear HK;have HO_0:=n0_;have HB:=n1_;have HK:=n2_;clear n0_ n1_ n2_;clear hg hw hp_;have p8 : 0 ≤ (x5_1 : Int):=of_decide_eq_true (by first|(with_reducible assumption)|assumption);have q8 : (x5_1 : Int) < ((x0_1.length : Int) : Int):=of_decide_eq_true (by first|(with_reducible assumption)|assumption);obtain ⟨ce8,hcl8,hM8,hcc8,hfr8⟩:=Kd.R_elem HO_0.out z50 (x5_1 : Int) p8 q8;obtain rfl:=k50_openM hM8;have hx8_0 : w16.cell? ⟨go5,(x5_1 : Int).toNat * 5,none⟩ = some (.int .i64 ((rd_T50 y496 x5_1).f0)):=hcc8 0 _ rfl;have hx8_1 : w16.cell? ⟨go5,(x5_1 : Int).toNat * 5 + 1,none⟩ = some (.int .i64 ((rd_T50 y496 x5_1).f1)):=hcc8 1 _ rfl;have hx8_2 : w16.cell? ⟨go5,(x5_1 : Int).toNat * 5 + 2,none⟩ = some (.bool ((rd_T50 y496 x5_1).f2)):=hcc8 2 _ rfl;have hx8_3 : w16.cell? ⟨go5,(x5_1 : Int).toNat * 5 + 3,none⟩ = some (.bool ((rd_T50 y496 x5_1).f3)):=hcc8 3 _ rfl;have hx8_4 : w16.cell? ⟨go5,(x5_1 : Int).toNat * 5 + 4,none⟩ = some (.int .i64 ((rd_T50 y496 x5_1).f4)):=hcc8 4 _ rfl;have hf8_0 : w16.frozen? ⟨go5,(x5_1 : Int).toNat * 5,none⟩ = false:=hfr8 0;have hf8_1 : w16.frozen? ⟨go5,(x5_1 : Int).toNat * 5 + 1,none⟩ = false:=hfr8 1;have hf8_2 : w16.frozen? ⟨go5,(x5_1 : Int).toNat * 5 + 2,none⟩ = false:=hfr8 2;have hf8_3 : w16.frozen? ⟨go5,(x5_1 : Int).toNat * 5 + 3,none⟩ = false:=hfr8 3;have hf8_4 : w16.frozen? ⟨go5,(x5_1 : Int).toNat * 5 + 4,none⟩ = false:=hfr8 4;clear hcl8 hcc8 hfr8 hM8;replace p8:=eq_true p8;replace q8:=eq_true q8;have HX17:=Aside0.mk (show Kd.R k50 50 w16 w0.heap.size (fun k_=>(P0_ k_ ∨ w.heap.size ≤ k_)) (.slice (some ⟨go5,0,none⟩) x0_1.length co10) y496 from (by (with_reducible repeat (first|apply Kd.R_alloc|apply Kd.R_drewN|apply Kd.R_drew));exact HO_0.out));obtain ⟨ce17,hcl17,hM17,hcc17,hfr17⟩:=Kd.R_elem HX17.out z50 (x5_1 : Int) (of_decide_eq_true (by first|(with_reducible assumption)|assumption)) (by have h_ : (x5_1 : Int) < ((x0_1.length : Int) : Int):=of_decide_eq_true (by first|(with_reducible assumption)|assumption);first|exact h_|(have e_:=(Kd.R_reads' HO_0.out).1;omega)|simpa using h_);obtain rfl:=k50_openM hM17;have HP17:=Kd.R_seg HX17.out (x5_1 : Int) (of_decide_eq_true (by first|(with_reducible assumption)|assumption)) (by have h_ : (x5_1 : Int) < ((x0_1.length : Int) : Int):=of_decide_eq_true (by first|(with_reducible assumption)|assumption);first|exact h_|(have e_:=(Kd.R_reads' HO_0.out).1;omega)|simpa using h_) (seg:=[.bool ((Int.tmod (wrap64 ((wrap64 ((wrap64 (x1_1 + 1)) + 1)) + 1)) 3) == 0)]) (j:=3) hcl17 hcc17 (show 4 ≤ 5 from by decide) (x':=(⟨(rd_T50 y496 x5_1).f0,(rd_T50 y496 x5_1).f1,(rd_T50 y496 x5_1).f2,((Int.tmod (wrap64 ((wrap64 ((wrap64 (x1_1 + 1)) + 1)) + 1)) 3) == 0),(rd_T50 y496 x5_1).f4⟩ : S50)) (k50_mkM _ _ _ (⟨(rd_T50 y496 x5_1).f0,(rd_T50 y496 x5_1).f1,(rd_T50 y496 x5_1).f2,((Int.tmod (wrap64 ((wrap64 ((wrap64 (x1_1 + 1)) + 1)) + 1)) 3) == 0),(rd_T50 y496 x5_1).f4⟩ : S50) ) (fun _ hk=>hk);have hx17_3:=hcc17 3 _ rfl;(try simp only [show (k50).sz = 5 from rfl,Nat.mul_one,Nat.add_zero] at hx17_3);have hf17_3:=hfr17 3;(try simp only [show (k50).sz = 5 from rfl,Nat.mul_one,Nat.add_zero] at hf17_3);clear hcl17 hcc17 hfr17 hM17)|((with_reducible refine gate_store (t:=4) (p:=41) rfl ?_);refine store_event (t:=4) (p:=41) (v:=?vo_w18) (w1:=(w16.setCell ⟨go5,(x5_1 : Int).toNat * 5 + 3,none⟩ (.bool ((Int.tmod (wrap64 ((wrap64 ((wrap64 (x1_1 + 1)) + 1)) + 1)) 3) == 0)))) ?hg ?ho ?hn ?hr ?_;(case ho=>rfl);(case hg=>rfl);(case hn=>rfl);(case hr=>first|(go_simp;done)|(go_simp;rfl));intro w18 hw;have hg : w16.grownBy w18 (some go5):=(by rw [hw];exact HP17.2);have hp_ : Kd.R k50 50 w18 w0.heap.size (fun k_=>(P0_ k_ ∨ w.heap.size ≤ k_)) (.slice (some ⟨go5,0,none⟩) x0_1.length co10) y497:=(by rw [hw,Ny497.out];exact HP17.1);clear HP17;have n0_:=Aside0.mk (hp_);have n1_:=Aside0.mk ((by rw [hw];exact below_set (HB.out) GB5.out : Below w0.heap.size w0 w18));have n2_:=Aside0.mk (Kept.of_grown (S:=(fun k_=>P0_ k_)) hg (by repeat (first|(with_reducible first|exact HK.out|apply Kept.alloc|apply Kept.drewN|apply Kept.drew)|exact HK.out)) (fun k_ e_=>(HO_0.out.1 k_ e_)));clear HO_0;clear HB;clear HK;have HO_0:=n0_;have HB:=n1_;have HK:=n2_;clear n0_ n1_ n2_;clear hg hw hp_;have p9 : 0 ≤ (x5_1 : Int):=of_decide_eq_true (by first|(with_reducible assumption)|assumption);have q9 : (x5_1 : Int) < ((x0_1.length : Int) : Int):=of_decide_eq_true (by first|(with_reducible assumption)|assumption);obtain ⟨ce9,hcl9,hM9,hcc9,hfr9⟩:=Kd.R_elem HO_0.out z50 (x5_1 : Int) p9 q9;obtain rfl:=k50_openM hM9;have hx9_0 : w18.cell? ⟨go5,(x5_1 : Int).toNat * 5,none⟩ = some (.int .i64 ((rd_T50 y497 x5_1).f0)):=hcc9 0 _ rfl;have hx9_1 : w18.cell? ⟨go5,(x5_1 : Int).toNat * 5 + 1,none⟩ = some (.int .i64 ((rd_T50 y497 x5_1).f1)):=hcc9 1 _ rfl;have hx9_2 : w18.cell? ⟨go5,(x5_1 : Int).toNat * 5 + 2,none⟩ = some (.bool ((rd_T50 y497 x5_1).f2)):=hcc9 2 _ rfl;have hx9_3 : w18.cell? ⟨go5,(x5_1 : Int).toNat * 5 + 3,none⟩ = some (.bool ((rd_T50 y497 x5_1).f3)):=hcc9 3 _ rfl;have hx9_4 : w18.cell? ⟨go5,(x5_1 : Int).toNat * 5 + 4,none⟩ = some (.int .i64 ((rd_T50 y497 x5_1).f4)):=hcc9 4 _ rfl;have hf9_0 : w18.frozen? ⟨go5,(x5_1 : Int).toNat * 5,none⟩ = false:=hfr9 0;have hf9_1 : w18.frozen? ⟨go5,(x5_1 : Int).toNat * 5 + 1,none⟩ = false:=hfr9 1;have hf9_2 : w18.frozen? ⟨go5,(x5_1 : Int).toNat * 5 + 2,none⟩ = false:=hfr9 2;have hf9_3 : w18.frozen? ⟨go5,(x5_1 : Int).toNat * 5 + 3,none⟩ = false:=hfr9 3;have hf9_4 : w18.frozen? ⟨go5,(x5_1 : Int).toNat * 5 + 4,none⟩ = false:=hfr9 4;clear hcl9 hcc9 hfr9 hM9;replace p9:=eq_true p9;replace q9:=eq_true q9;have HX19:=Aside0.mk (show Kd.R k50 50 w18 w0.heap.size (fun k_=>(P0_ k_ ∨ w.heap.size ≤ k_)) (.slice (some ⟨go5,0,none⟩) x0_1.length co10) y497 from (by (with_reducible repeat (first|apply Kd.R_alloc|apply Kd.R_drewN|apply Kd.R_drew));exact HO_0.out));obtain ⟨ce19,hcl19,hM19,hcc19,hfr19⟩:=Kd.R_elem HX19.out z50 (x5_1 : Int) (of_decide_eq_true (by first|(with_reducible assumption)|assumption)) (by have h_ : (x5_1 : Int) < ((x0_1.length : Int) : Int):=of_decide_eq_true (by first|(with_reducible assumption)|assumption);first|exact h_|(have e_:=(Kd.R_reads' HO_0.out).1;omega)|simpa using h_);obtain rfl:=k50_openM hM19;have HP19:=Kd.R_seg HX19.out (x5_1 : Int) (of_decide_eq_true (by first|(with_reducible assumption)|assumption)) (by have h_ : (x5_1 : Int) < ((x0_1.length : Int) : Int):=of_decide_eq_true (by first|(with_reducible assumption)|assumption);first|exact h_|(have e_:=(Kd.R_reads' HO_0.out).1;omega)|simpa using h_) (seg:=[.int .i64 (wrap64 ((wrap64 ((wrap64 ((wrap64 (x1_1 + 1)) + 1)) + 1)) + 1))]) (j:=4) hcl19 hcc19 (show 5 ≤ 5 from by decide) (x':=(⟨(rd_T50 y497 x5_1).f0,(rd_T50 y497 x5_1).f1,(rd_T50 y497 x5_1).f2,(rd_T50 y497 x5_1).f3,wrap64 ((wrap64 ((wrap64 ((wrap64 (x1_1 + 1)) + 1)) + 1)) + 1)⟩ : S50)) (k50_mkM _ _ _ (⟨(rd_T50 y497 x5_1).f0,(rd_T50 y497 x5_1).f1,(rd_T50 y497 x5_1).f2,(rd_T50 y497 x5_1).f3,wrap64 ((wrap64 ((wrap64 ((wrap64 (x1_1 + 1)) + 1)) + 1)) + 1)⟩ : S50) ) (fun _ hk=>hk);have hx19_4:=hcc19 4 _ rfl;(try simp only [show (k50).sz = 5 from rfl,Nat.mul_one,Nat.add_zero] at hx19_4);have hf19_4:=hfr19 4;(try simp only [show (k50).sz = 5 from rfl,Nat.mul_one,Nat.add_zero] at hf19_4);clear hcl19 hcc19 hfr19 hM19)|((with_reducible refine gate_store (t:=3) (p:=48) rfl ?_);refine store_event (t:=3) (p:=48) (v:=?vo_w20) (w1:=(w18.setCell ⟨go5,(x5_1 : Int).toNat * 5 + 4,none⟩ (.int .i64 (wrap64 ((wrap64 ((wrap64 ((wrap64 (x1_1 + 1)) + 1)) + 1)) + 1))))) ?hg ?ho ?hn ?hr ?_;(case ho=>rfl);(case hg=>rfl);(case hn=>rfl);(case hr=>first|(go_simp;done)|(go_simp;rfl));intro w20 hw;have hg : w18.grownBy w20 (some go5):=(by rw [hw];exact HP19.2);have hp_ : Kd.R k50 50 w20 w0.heap.size (fun k_=>(P0_ k_ ∨ w.heap.size ≤ k_)) (.slice (some ⟨go5,0,none⟩) x0_1.length co10) y498:=(by rw [hw,Ny498.out];exact HP19.1);clear HP19;have n0_:=Aside0.mk (hp_);have n1_:=Aside0.mk ((by rw [hw];exact below_set (HB.out) GB5.out : Below w0.heap.size w0 w20));have n2_:=Aside0.mk (Kept.of_grown (S:=(fun k_=>P0_ k_)) hg (by repeat (first|(with_reducible first|exact HK.out|apply Kept.alloc|apply Kept.drewN|apply Kept.drew)|exact HK.out)) (fun k_ e_=>(HO_0.out.1 k_ e_)));clear HO_0;clear HB;clear HK;have HO_0:=n0_;have HB:=n1_;have HK:=n2_;clear n0_ n1_ n2_;clear hg hw hp_))
     go_roundg k1
     case measure=>have:=HK1.out;omega
     case rel=>exact ⟨(y498),(wrap64 ((wrap64 ((wrap64 ((wrap64 ((wrap64 (x1_1 + 1)) + 1)) + 1)) + 1)) + 1)),(wrap64 (x5_1 + 1)),(by first|rfl|(simp;done)|(simp [*];done)),(by first|rfl|(simp;done)|(simp [*];done)),H',⟨by have:=HK1.out;omega⟩,⟨by (with_reducible repeat (first|apply Kd.R_alloc|apply Kd.R_drewN|apply Kd.R_drew));exact HO_0.out⟩,⟨by repeat (first|(with_reducible first|exact HK.out|apply Kept.alloc|apply Kept.drewN|apply Kept.drew)|exact HK.out)⟩,⟨by repeat (first|(with_reducible first|exact HB.out|apply below_alloc|apply pw_below_drewN|apply below_drew1)|exact HB.out)⟩⟩
    ·rw [if_neg c4] at H
     exact absurd H (by simp)
   ·rw [if_neg c3] at H
    have c3b0 : decide (x5_1 < (x0_1.length : Int)) = false:=decide_eq_false c3
    clear c3
    simp only [Option.some.injEq,Prod.mk.injEq] at H
    obtain ⟨rfl,rfl⟩:=H
    obtain ⟨Ao21,co21,eo21⟩:=Kd.R_slice HO_0.out
    subst eo21
    go_wp2
    go_ret
    exact ⟨by first|rfl|(simp [errW_none,errW_some] <;> rfl)|(simp [*,errW_none,errW_some] <;> rfl),by (with_reducible repeat (first|apply Kd.R_alloc|apply Kd.R_drewN|apply Kd.R_drew));exact HO_0.out,by repeat (first|(with_reducible first|exact HB.out|apply below_alloc|apply pw_below_drewN|apply below_drew1)|exact HB.out),by repeat (first|(with_reducible first|exact HK.out|apply Kept.alloc|apply Kept.drewN|apply Kept.drew)|exact HK.out)⟩
end Go.Proofs.Ytpdnabhpkdchjaa.P
namespace Go.Proofs.Ytpdnabhpkdchjaa.P
open Go.RowKit Go.Proofs.YtpdnabhpkdchjaaW.PrintWords Go.Proofs.YtpdnabhpkdchjaaW.PrintLast Go.Proofs.YtpdnabhpkdchjaaW.PrintMore
attribute [local go_sem] max2_int min2_int max_two min_two max_three min_three max_four min_four
set_option linter.unusedVariables false
set_option linter.unusedSimpArgs false
def laws_markBoolS.l0 : Nat → List Bool → Int → Int → Option (Int × List Bool)
 | 0,_,_,_=>none
 | k + 1,x0,x1,x5=>if x5 < (x0.length : Int) then (if 0 ≤ x5 then (laws_markBoolS.l0 k (x0.set (x5 : Int).toNat ((Int.tmod x1 3) == 0)) (wrap64 (x1 + 1)) (wrap64 (x5 + 1))) else (none)) else (some (x1,x0))
def laws_markBoolS.f (k : Nat) (l0 : List Bool) (a1 : Int) : Option (Int × List Bool):=laws_markBoolS.l0 k l0 a1 0
set_option maxHeartbeats 8000000 in
set_option maxRecDepth 100000 in
theorem laws_markBoolS.calls (k : Nat) (P0_ : Nat → Prop) (u9000_ : Value) (l0 : List Bool) (a1 : Int) (r1 : Int) (r2 : List Bool) (w0 w : World) (hB : Below w0.heap.size w0 w) (ho0 : Kd.R Kd.bool 4 w w0.heap.size P0_ u9000_ l0) (h : laws_markBoolS.f k l0 a1 = some (r1,r2)) :
  Calls Try.prog 103 #[u9000_,.int .i64 a1] w fun e w'=>e = .returned (.int .i64 r1)∧Kd.R Kd.bool 4 w' w0.heap.size (fun k_=>(P0_ k_ ∨ w.heap.size ≤ k_)) u9000_ r2∧Below w0.heap.size w0 w'∧Kept w w' (fun k_=>P0_ k_):=by
 have HO0:=Aside0.mk (show Kd.R Kd.bool 4 w w0.heap.size (fun k_=>(P0_ k_ ∨ w.heap.size ≤ k_)) u9000_ l0 from Kd.R_mono ho0 (fun k_ hk=>(.inl hk)))
 have HK:=Aside0.mk (Kept.refl w (fun k_=>P0_ k_))
 have HW0:=Aside0.mk hB.size
 have HB:=Aside0.mk hB
 clear hB
 have H : (laws_markBoolS.l0 k l0 a1 0) = some (r1,r2):=h
 clear h
 have H':=Aside0.mk H
 clear H
 go_enter Try.func103,Try.ntmps103
 go_wp2
 go_loopg [1,5] k (fun kq v1 v5 w'=>∃ (x0_1 : List Bool) (x1_1 : Int) (x5_1 : Int),v1 = .int .i64 x1_1∧v5 = .int .i64 x5_1∧Aside0 (laws_markBoolS.l0 kq x0_1 x1_1 x5_1 = some (r1,r2))∧Aside0 (kq ≤ k)∧Aside0 (Kd.R Kd.bool 4 w' w0.heap.size (fun k_=>(P0_ k_ ∨ w.heap.size ≤ k_)) u9000_ x0_1)∧Aside0 (Kept w w' (fun k_=>P0_ k_))∧Aside0 (Below w0.heap.size w0 w'))
 case atStart=>exact ⟨(l0),(a1),(0),(by first|rfl|(simp;done)|(simp [*];done)),(by first|rfl|(simp;done)|(simp [*];done)),H',⟨Nat.le_refl _⟩,⟨by (with_reducible repeat (first|apply Kd.R_alloc|apply Kd.R_drewN|apply Kd.R_drew));exact HO0.out⟩,⟨by repeat (first|(with_reducible first|exact HK.out|apply Kept.alloc|apply Kept.drewN|apply Kept.drew)|exact HK.out)⟩,⟨by repeat (first|(with_reducible first|exact HB.out|apply below_alloc|apply pw_below_drewN|apply below_drew1)|exact HB.out)⟩⟩
 case round =>
  clear H'
  try clear c1
  try clear p2
  obtain ⟨x0_1,x1_1,x5_1,rfl,rfl,HA,HK1,HO_0,HK,HB⟩:=hrel
  cases gk with
  | zero=>exact absurd HA.out (by simp [laws_markBoolS.l0])
  | succ k1 =>
   have H:=HA.out
   clear HA
   simp only [laws_markBoolS.l0] at H
   by_cases c3 : x5_1 < (x0_1.length : Int)
   ·rw [if_pos c3] at H
    have c3b0 : decide (x5_1 < (x0_1.length : Int)) = true:=decide_eq_true c3
    clear c3
    by_cases c4 : 0 ≤ x5_1
    ·rw [if_pos c4] at H
     have c4b0 : decide (0 ≤ x5_1) = true:=decide_eq_true c4
     clear c4
     obtain ⟨y499,hy499⟩ : ∃ y_ : List Bool,y_ = (x0_1.set (x5_1 : Int).toNat ((Int.tmod x1_1 3) == 0)):=⟨_,rfl⟩
     replace H : (laws_markBoolS.l0 k1 y499 (wrap64 (x1_1 + 1)) (wrap64 (x5_1 + 1))) = some (r1,r2):=by first|(rw [hy499];with_reducible exact H)|(have H2_:=(Option.bind_some _ _).symm.trans H;rw [hy499];with_reducible exact H2_)|(have H2_:=(Option.bind_some _ _).symm.trans H;with_reducible exact H2_)|with_reducible exact H|(rw [hy499];exact H)|exact H
     have Ny499:=Aside0.mk hy499
     clear hy499
     have H':=Aside0.mk H
     clear H
     obtain ⟨Ao6,co6,eo6⟩:=Kd.R_slice HO_0.out
     subst eo6
     have p5 : 0 ≤ (x5_1 : Int):=of_decide_eq_true (by first|(with_reducible assumption)|assumption)
     have q5 : (x5_1 : Int) < ((x0_1.length : Int) : Int):=of_decide_eq_true (by first|(with_reducible assumption)|assumption)
     obtain ⟨go5,co5,eo5,gb5,gl5,cl5,HG5⟩:=Kd.R_form HO_0.out (by omega)
     (first|cases eo5|(injection eo5 with ea_ en_ ec_;(first|subst ea_|(injection ea_ with ea_;subst ea_));subst ec_;clear en_))
     have GB5:=Aside0.mk gb5
     have GG5:=Aside0.mk HG5
     clear gb5 gl5 HG5
     have HMgo5:=Aside0.mk (show (P0_ go5 ∨ w.heap.size ≤ go5) from (HO_0.out.1 _ rfl))
     obtain ⟨hx5_0,hf5_0⟩:=Kd.R_celln false HO_0.out (x5_1 : Int) p5 q5
     replace p5:=eq_true p5
     replace q5:=eq_true q5
     have HP7:=Kd.R_putg HO_0.out (x5_1 : Int) ((Int.tmod x1_1 3) == 0)
     go_wp2_with (first|((with_reducible refine gate_store (t:=4) (p:=17) rfl ?_);refine store_event (t:=4) (p:=17) (v:=?vo_w8) (w1:=(wr.setCell ⟨go5,(x5_1 : Int).toNat,none⟩ (.bool ((Int.tmod x1_1 3) == 0)))) ?hg ?ho ?hn ?hr ?_;(case ho=>rfl);(case hg=>rfl);(case hn=>rfl);(case hr=>first|(go_simp;done)|(go_simp;rfl));intro w8 hw;have hg : wr.grownBy w8 (some go5):=(by rw [hw];exact HP7.2);have hp_ : Kd.R Kd.bool 4 w8 w0.heap.size (fun k_=>(P0_ k_ ∨ w.heap.size ≤ k_)) (.slice (some ⟨go5,0,none⟩) x0_1.length co6) y499:=(by rw [hw,Ny499.out];exact HP7.1);clear HP7;have n0_:=Aside0.mk (hp_);have n1_:=Aside0.mk ((by rw [hw];exact below_set (HB.out) GB5.out : Below w0.heap.size w0 w8));have n2_:=Aside0.mk (Kept.of_grown (S:=(fun k_=>P0_ k_)) hg (by repeat (first|(with_reducible first|exact HK.out|apply Kept.alloc|apply Kept.drewN|apply Kept.drew)|exact HK.out)) (fun k_ e_=>(HO_0.out.1 k_ e_)));clear HO_0;clear HB;clear HK;have HO_0:=n0_;have HB:=n1_;have HK:=n2_;clear n0_ n1_ n2_;clear hg hw hp_))
     go_roundg k1
     case measure=>have:=HK1.out;omega
     case rel=>exact ⟨(y499),(wrap64 (x1_1 + 1)),(wrap64 (x5_1 + 1)),(by first|rfl|(simp;done)|(simp [*];done)),(by first|rfl|(simp;done)|(simp [*];done)),H',⟨by have:=HK1.out;omega⟩,⟨by (with_reducible repeat (first|apply Kd.R_alloc|apply Kd.R_drewN|apply Kd.R_drew));exact HO_0.out⟩,⟨by repeat (first|(with_reducible first|exact HK.out|apply Kept.alloc|apply Kept.drewN|apply Kept.drew)|exact HK.out)⟩,⟨by repeat (first|(with_reducible first|exact HB.out|apply below_alloc|apply pw_below_drewN|apply below_drew1)|exact HB.out)⟩⟩
    ·rw [if_neg c4] at H
     exact absurd H (by simp)
   ·rw [if_neg c3] at H
    have c3b0 : decide (x5_1 < (x0_1.length : Int)) = false:=decide_eq_false c3
    clear c3
    simp only [Option.some.injEq,Prod.mk.injEq] at H
    obtain ⟨rfl,rfl⟩:=H
    obtain ⟨Ao9,co9,eo9⟩:=Kd.R_slice HO_0.out
    subst eo9
    go_wp2
    go_ret
    exact ⟨by first|rfl|(simp [errW_none,errW_some] <;> rfl)|(simp [*,errW_none,errW_some] <;> rfl),by (with_reducible repeat (first|apply Kd.R_alloc|apply Kd.R_drewN|apply Kd.R_drew));exact HO_0.out,by repeat (first|(with_reducible first|exact HB.out|apply below_alloc|apply pw_below_drewN|apply below_drew1)|exact HB.out),by repeat (first|(with_reducible first|exact HK.out|apply Kept.alloc|apply Kept.drewN|apply Kept.drew)|exact HK.out)⟩
end Go.Proofs.Ytpdnabhpkdchjaa.P
namespace Go.Proofs.Ytpdnabhpkdchjaa.P
open Go.RowKit Go.Proofs.YtpdnabhpkdchjaaW.PrintWords Go.Proofs.YtpdnabhpkdchjaaW.PrintLast Go.Proofs.YtpdnabhpkdchjaaW.PrintMore
attribute [local go_sem] max2_int min2_int max_two min_two max_three min_three max_four min_four
set_option linter.unusedVariables false
set_option linter.unusedSimpArgs false
def laws_heldSectionS.l0 : Nat → List (S50) → Int → Int → Option (Int)
 | 0,_,_,_=>none
 | k + 1,x0,x1,x5=>if x5 < (x0.length : Int) then (if 0 ≤ x5 then (if ((rd_T50 x0 x5).f0) = x1 then (if ((rd_T50 x0 x5).f1) = (wrap64 (x1 + 1)) then (if (((rd_T50 x0 x5).f2) != ((Int.tmod (wrap64 ((wrap64 (x1 + 1)) + 1)) 3) == 0)) = true then (some (-1)) else (if (((rd_T50 x0 x5).f3) != ((Int.tmod (wrap64 ((wrap64 ((wrap64 (x1 + 1)) + 1)) + 1)) 3) == 0)) = true then (some (-1)) else (if ((rd_T50 x0 x5).f4) = (wrap64 ((wrap64 ((wrap64 ((wrap64 (x1 + 1)) + 1)) + 1)) + 1)) then (laws_heldSectionS.l0 k x0 (wrap64 ((wrap64 ((wrap64 ((wrap64 ((wrap64 (x1 + 1)) + 1)) + 1)) + 1)) + 1)) (wrap64 (x5 + 1))) else (some (-1))))) else (some (-1))) else (some (-1))) else (none)) else (some x1)
def laws_heldSectionS.f (k : Nat) (l0 : List (S50)) (a1 : Int) : Option (Int):=laws_heldSectionS.l0 k l0 a1 0
set_option maxHeartbeats 8000000 in
set_option maxRecDepth 100000 in
theorem laws_heldSectionS.calls (k : Nat) (A0 : Option Addr) (c0 : Nat) (l0 : List (S50)) (a1 : Int) (r : Int) (w : World) (hr0 : Kd.C k50 w A0 l0.length l0) (hc0 : l0.length ≤ c0) (h : laws_heldSectionS.f k l0 a1 = some r) :
  Calls Try.prog 104 #[.slice A0 l0.length c0,.int .i64 a1] w fun e w'=>e = .returned (.int .i64 r)∧Drawn0 w w':=by
 have HR0:=Aside0.mk hr0
 have HC0:=Aside0.mk hc0
 clear hr0 hc0
 have H : (laws_heldSectionS.l0 k l0 a1 0) = some r:=h
 clear h
 have H':=Aside0.mk H
 clear H
 go_enter Try.func104,Try.ntmps104
 go_wp2
 go_loopg [1,5] k (fun kq v1 v5 w'=>∃ (x1_1 : Int) (x5_1 : Int),v1 = .int .i64 x1_1∧v5 = .int .i64 x5_1∧Aside0 (laws_heldSectionS.l0 kq l0 x1_1 x5_1 = some r)∧Aside0 (kq ≤ k)∧Drawn0 w w')
 case atStart=>exact ⟨(a1),(0),(by first|rfl|(simp;done)|(simp [*];done)),(by first|rfl|(simp;done)|(simp [*];done)),H',⟨Nat.le_refl _⟩,by repeat (first|exact Drawn0.refl _|apply Drawn0.step)⟩
 case round =>
  clear H'
  try clear c1
  try clear p2
  obtain ⟨x1_1,x5_1,rfl,rfl,HA,HK1,⟨m1,rfl⟩⟩:=hrel
  cases gk with
  | zero=>exact absurd HA.out (by simp [laws_heldSectionS.l0])
  | succ k1 =>
   have H:=HA.out
   clear HA
   simp only [laws_heldSectionS.l0] at H
   by_cases c3 : x5_1 < (l0.length : Int)
   ·rw [if_pos c3] at H
    have c3b0 : decide (x5_1 < (l0.length : Int)) = true:=decide_eq_true c3
    clear c3
    by_cases c4 : 0 ≤ x5_1
    ·rw [if_pos c4] at H
     have c4b0 : decide (0 ≤ x5_1) = true:=decide_eq_true c4
     clear c4
     by_cases c5 : ((rd_T50 l0 x5_1).f0) = x1_1
     ·rw [if_pos c5] at H
      have c5b0 : (((rd_T50 l0 x5_1).f0) == x1_1) = true:=beq_iff_eq.mpr c5
      have c5b1 : (((rd_T50 l0 x5_1).f0) != x1_1) = false:=bne_eq_false_iff_eq.mpr c5
      clear c5
      by_cases c6 : ((rd_T50 l0 x5_1).f1) = (wrap64 (x1_1 + 1))
      ·rw [if_pos c6] at H
       have c6b0 : (((rd_T50 l0 x5_1).f1) == (wrap64 (x1_1 + 1))) = true:=beq_iff_eq.mpr c6
       have c6b1 : (((rd_T50 l0 x5_1).f1) != (wrap64 (x1_1 + 1))) = false:=bne_eq_false_iff_eq.mpr c6
       clear c6
       by_cases c7 : (((rd_T50 l0 x5_1).f2) != ((Int.tmod (wrap64 ((wrap64 (x1_1 + 1)) + 1)) 3) == 0)) = true
       ·rw [if_pos c7] at H
        have c7b0 : (((rd_T50 l0 x5_1).f2) != ((Int.tmod (wrap64 ((wrap64 (x1_1 + 1)) + 1)) 3) == 0)) = true:=c7
        (try (have c7b1 : decide (((rd_T50 l0 x5_1).f2) = ((Int.tmod (wrap64 ((wrap64 (x1_1 + 1)) + 1)) 3) == 0)) = false:=by simpa using c7))
        (try (have c7b2 : (((rd_T50 l0 x5_1).f2) == ((Int.tmod (wrap64 ((wrap64 (x1_1 + 1)) + 1)) 3) == 0)) = false:=by simpa using c7))
        (try (have c7b3 : ¬ (((rd_T50 l0 x5_1).f2) = ((Int.tmod (wrap64 ((wrap64 (x1_1 + 1)) + 1)) 3) == 0)):=by simpa using c7))
        clear c7
        obtain rfl:=Option.some.inj H
        have p505 : 0 ≤ (x5_1 : Int):=of_decide_eq_true (by first|(with_reducible assumption)|assumption)
        have q505 : x5_1 < (l0.length : Int):=of_decide_eq_true (by first|(with_reducible assumption)|assumption)
        obtain ⟨ad505,e505,hx505_0,hx505_1,hx505_2,hx505_3,hx505_4⟩:=at_T50 HR0.out x5_1 p505 q505
        cases e505
        replace p505:=eq_true p505
        replace q505:=eq_true q505
        have p506 : 0 ≤ (x5_1 : Int):=of_decide_eq_true (by first|(with_reducible assumption)|assumption)
        have q506 : x5_1 < (l0.length : Int):=of_decide_eq_true (by first|(with_reducible assumption)|assumption)
        obtain ⟨ad506,e506,hx506_0,hx506_1,hx506_2,hx506_3,hx506_4⟩:=at_T50 HR0.out x5_1 p506 q506
        obtain rfl : ad505 = ad506:=(by injection e506)
        replace p506:=eq_true p506
        replace q506:=eq_true q506
        have p507 : 0 ≤ (x5_1 : Int):=of_decide_eq_true (by first|(with_reducible assumption)|assumption)
        have q507 : x5_1 < (l0.length : Int):=of_decide_eq_true (by first|(with_reducible assumption)|assumption)
        obtain ⟨ad507,e507,hx507_0,hx507_1,hx507_2,hx507_3,hx507_4⟩:=at_T50 HR0.out x5_1 p507 q507
        obtain rfl : ad505 = ad507:=(by injection e507)
        replace p507:=eq_true p507
        replace q507:=eq_true q507
        go_wp2
        go_ret
        exact ⟨by first|rfl|(simp;done)|(simp [*];done),by repeat (first|exact Drawn0.refl _|apply Drawn0.step)⟩
       ·rw [if_neg c7] at H
        have c7b0 : (((rd_T50 l0 x5_1).f2) != ((Int.tmod (wrap64 ((wrap64 (x1_1 + 1)) + 1)) 3) == 0)) = false:=by simpa using c7
        (try (have c7b1 : decide (((rd_T50 l0 x5_1).f2) = ((Int.tmod (wrap64 ((wrap64 (x1_1 + 1)) + 1)) 3) == 0)) = true:=by simpa using c7))
        (try (have c7b2 : (((rd_T50 l0 x5_1).f2) == ((Int.tmod (wrap64 ((wrap64 (x1_1 + 1)) + 1)) 3) == 0)) = true:=by simpa using c7))
        clear c7
        by_cases c8 : (((rd_T50 l0 x5_1).f3) != ((Int.tmod (wrap64 ((wrap64 ((wrap64 (x1_1 + 1)) + 1)) + 1)) 3) == 0)) = true
        ·rw [if_pos c8] at H
         have c8b0 : (((rd_T50 l0 x5_1).f3) != ((Int.tmod (wrap64 ((wrap64 ((wrap64 (x1_1 + 1)) + 1)) + 1)) 3) == 0)) = true:=c8
         (try (have c8b1 : decide (((rd_T50 l0 x5_1).f3) = ((Int.tmod (wrap64 ((wrap64 ((wrap64 (x1_1 + 1)) + 1)) + 1)) 3) == 0)) = false:=by simpa using c8))
         (try (have c8b2 : (((rd_T50 l0 x5_1).f3) == ((Int.tmod (wrap64 ((wrap64 ((wrap64 (x1_1 + 1)) + 1)) + 1)) 3) == 0)) = false:=by simpa using c8))
         (try (have c8b3 : ¬ (((rd_T50 l0 x5_1).f3) = ((Int.tmod (wrap64 ((wrap64 ((wrap64 (x1_1 + 1)) + 1)) + 1)) 3) == 0)):=by simpa using c8))
         clear c8
         obtain rfl:=Option.some.inj H
         have p505 : 0 ≤ (x5_1 : Int):=of_decide_eq_true (by first|(with_reducible assumption)|assumption)
         have q505 : x5_1 < (l0.length : Int):=of_decide_eq_true (by first|(with_reducible assumption)|assumption)
         obtain ⟨ad505,e505,hx505_0,hx505_1,hx505_2,hx505_3,hx505_4⟩:=at_T50 HR0.out x5_1 p505 q505
         cases e505
         replace p505:=eq_true p505
         replace q505:=eq_true q505
         have p506 : 0 ≤ (x5_1 : Int):=of_decide_eq_true (by first|(with_reducible assumption)|assumption)
         have q506 : x5_1 < (l0.length : Int):=of_decide_eq_true (by first|(with_reducible assumption)|assumption)
         obtain ⟨ad506,e506,hx506_0,hx506_1,hx506_2,hx506_3,hx506_4⟩:=at_T50 HR0.out x5_1 p506 q506
         obtain rfl : ad505 = ad506:=(by injection e506)
         replace p506:=eq_true p506
         replace q506:=eq_true q506
         have p507 : 0 ≤ (x5_1 : Int):=of_decide_eq_true (by first|(with_reducible assumption)|assumption)
         have q507 : x5_1 < (l0.length : Int):=of_decide_eq_true (by first|(with_reducible assumption)|assumption)
         obtain ⟨ad507,e507,hx507_0,hx507_1,hx507_2,hx507_3,hx507_4⟩:=at_T50 HR0.out x5_1 p507 q507
         obtain rfl : ad505 = ad507:=(by injection e507)
         replace p507:=eq_true p507
         replace q507:=eq_true q507
         have p508 : 0 ≤ (x5_1 : Int):=of_decide_eq_true (by first|(with_reducible assumption)|assumption)
         have q508 : x5_1 < (l0.length : Int):=of_decide_eq_true (by first|(with_reducible assumption)|assumption)
         obtain ⟨ad508,e508,hx508_0,hx508_1,hx508_2,hx508_3,hx508_4⟩:=at_T50 HR0.out x5_1 p508 q508
         obtain rfl : ad505 = ad508:=(by injection e508)
         replace p508:=eq_true p508
         replace q508:=eq_true q508
         go_wp2
         go_ret
         exact ⟨by first|rfl|(simp;done)|(simp [*];done),by repeat (first|exact Drawn0.refl _|apply Drawn0.step)⟩
        ·rw [if_neg c8] at H
         have c8b0 : (((rd_T50 l0 x5_1).f3) != ((Int.tmod (wrap64 ((wrap64 ((wrap64 (x1_1 + 1)) + 1)) + 1)) 3) == 0)) = false:=by simpa using c8
         (try (have c8b1 : decide (((rd_T50 l0 x5_1).f3) = ((Int.tmod (wrap64 ((wrap64 ((wrap64 (x1_1 + 1)) + 1)) + 1)) 3) == 0)) = true:=by simpa using c8))
         (try (have c8b2 : (((rd_T50 l0 x5_1).f3) == ((Int.tmod (wrap64 ((wrap64 ((wrap64 (x1_1 + 1)) + 1)) + 1)) 3) == 0)) = true:=by simpa using c8))
         clear c8
         by_cases c9 : ((rd_T50 l0 x5_1).f4) = (wrap64 ((wrap64 ((wrap64 ((wrap64 (x1_1 + 1)) + 1)) + 1)) + 1))
         ·rw [if_pos c9] at H
          have c9b0 : (((rd_T50 l0 x5_1).f4) == (wrap64 ((wrap64 ((wrap64 ((wrap64 (x1_1 + 1)) + 1)) + 1)) + 1))) = true:=beq_iff_eq.mpr c9
          have c9b1 : (((rd_T50 l0 x5_1).f4) != (wrap64 ((wrap64 ((wrap64 ((wrap64 (x1_1 + 1)) + 1)) + 1)) + 1))) = false:=bne_eq_false_iff_eq.mpr c9
          clear c9
          have H':=Aside0.mk H
          clear H
          have p505 : 0 ≤ (x5_1 : Int):=of_decide_eq_true (by first|(with_reducible assumption)|assumption)
          have q505 : x5_1 < (l0.length : Int):=of_decide_eq_true (by first|(with_reducible assumption)|assumption)
          obtain ⟨ad505,e505,hx505_0,hx505_1,hx505_2,hx505_3,hx505_4⟩:=at_T50 HR0.out x5_1 p505 q505
          cases e505
          replace p505:=eq_true p505
          replace q505:=eq_true q505
          have p506 : 0 ≤ (x5_1 : Int):=of_decide_eq_true (by first|(with_reducible assumption)|assumption)
          have q506 : x5_1 < (l0.length : Int):=of_decide_eq_true (by first|(with_reducible assumption)|assumption)
          obtain ⟨ad506,e506,hx506_0,hx506_1,hx506_2,hx506_3,hx506_4⟩:=at_T50 HR0.out x5_1 p506 q506
          obtain rfl : ad505 = ad506:=(by injection e506)
          replace p506:=eq_true p506
          replace q506:=eq_true q506
          have p507 : 0 ≤ (x5_1 : Int):=of_decide_eq_true (by first|(with_reducible assumption)|assumption)
          have q507 : x5_1 < (l0.length : Int):=of_decide_eq_true (by first|(with_reducible assumption)|assumption)
          obtain ⟨ad507,e507,hx507_0,hx507_1,hx507_2,hx507_3,hx507_4⟩:=at_T50 HR0.out x5_1 p507 q507
          obtain rfl : ad505 = ad507:=(by injection e507)
          replace p507:=eq_true p507
          replace q507:=eq_true q507
          have p508 : 0 ≤ (x5_1 : Int):=of_decide_eq_true (by first|(with_reducible assumption)|assumption)
          have q508 : x5_1 < (l0.length : Int):=of_decide_eq_true (by first|(with_reducible assumption)|assumption)
          obtain ⟨ad508,e508,hx508_0,hx508_1,hx508_2,hx508_3,hx508_4⟩:=at_T50 HR0.out x5_1 p508 q508
          obtain rfl : ad505 = ad508:=(by injection e508)
          replace p508:=eq_true p508
          replace q508:=eq_true q508
          have p509 : 0 ≤ (x5_1 : Int):=of_decide_eq_true (by first|(with_reducible assumption)|assumption)
          have q509 : x5_1 < (l0.length : Int):=of_decide_eq_true (by first|(with_reducible assumption)|assumption)
          obtain ⟨ad509,e509,hx509_0,hx509_1,hx509_2,hx509_3,hx509_4⟩:=at_T50 HR0.out x5_1 p509 q509
          obtain rfl : ad505 = ad509:=(by injection e509)
          replace p509:=eq_true p509
          replace q509:=eq_true q509
          go_wp2
          go_roundg k1
          case measure=>have:=HK1.out;omega
          case rel=>exact ⟨(wrap64 ((wrap64 ((wrap64 ((wrap64 ((wrap64 (x1_1 + 1)) + 1)) + 1)) + 1)) + 1)),(wrap64 (x5_1 + 1)),(by first|rfl|(simp;done)|(simp [*];done)),(by first|rfl|(simp;done)|(simp [*];done)),H',⟨by have:=HK1.out;omega⟩,by repeat (first|exact Drawn0.refl _|apply Drawn0.step)⟩
         ·rw [if_neg c9] at H
          have c9b0 : (((rd_T50 l0 x5_1).f4) == (wrap64 ((wrap64 ((wrap64 ((wrap64 (x1_1 + 1)) + 1)) + 1)) + 1))) = false:=beq_eq_false_iff_ne.mpr c9
          have c9b1 : (((rd_T50 l0 x5_1).f4) != (wrap64 ((wrap64 ((wrap64 ((wrap64 (x1_1 + 1)) + 1)) + 1)) + 1))) = true:=bne_iff_ne.mpr c9
          obtain rfl:=Option.some.inj H
          have p505 : 0 ≤ (x5_1 : Int):=of_decide_eq_true (by first|(with_reducible assumption)|assumption)
          have q505 : x5_1 < (l0.length : Int):=of_decide_eq_true (by first|(with_reducible assumption)|assumption)
          obtain ⟨ad505,e505,hx505_0,hx505_1,hx505_2,hx505_3,hx505_4⟩:=at_T50 HR0.out x5_1 p505 q505
          cases e505
          replace p505:=eq_true p505
          replace q505:=eq_true q505
          have p506 : 0 ≤ (x5_1 : Int):=of_decide_eq_true (by first|(with_reducible assumption)|assumption)
          have q506 : x5_1 < (l0.length : Int):=of_decide_eq_true (by first|(with_reducible assumption)|assumption)
          obtain ⟨ad506,e506,hx506_0,hx506_1,hx506_2,hx506_3,hx506_4⟩:=at_T50 HR0.out x5_1 p506 q506
          obtain rfl : ad505 = ad506:=(by injection e506)
          replace p506:=eq_true p506
          replace q506:=eq_true q506
          have p507 : 0 ≤ (x5_1 : Int):=of_decide_eq_true (by first|(with_reducible assumption)|assumption)
          have q507 : x5_1 < (l0.length : Int):=of_decide_eq_true (by first|(with_reducible assumption)|assumption)
          obtain ⟨ad507,e507,hx507_0,hx507_1,hx507_2,hx507_3,hx507_4⟩:=at_T50 HR0.out x5_1 p507 q507
          obtain rfl : ad505 = ad507:=(by injection e507)
          replace p507:=eq_true p507
          replace q507:=eq_true q507
          have p508 : 0 ≤ (x5_1 : Int):=of_decide_eq_true (by first|(with_reducible assumption)|assumption)
          have q508 : x5_1 < (l0.length : Int):=of_decide_eq_true (by first|(with_reducible assumption)|assumption)
          obtain ⟨ad508,e508,hx508_0,hx508_1,hx508_2,hx508_3,hx508_4⟩:=at_T50 HR0.out x5_1 p508 q508
          obtain rfl : ad505 = ad508:=(by injection e508)
          replace p508:=eq_true p508
          replace q508:=eq_true q508
          have p509 : 0 ≤ (x5_1 : Int):=of_decide_eq_true (by first|(with_reducible assumption)|assumption)
          have q509 : x5_1 < (l0.length : Int):=of_decide_eq_true (by first|(with_reducible assumption)|assumption)
          obtain ⟨ad509,e509,hx509_0,hx509_1,hx509_2,hx509_3,hx509_4⟩:=at_T50 HR0.out x5_1 p509 q509
          obtain rfl : ad505 = ad509:=(by injection e509)
          replace p509:=eq_true p509
          replace q509:=eq_true q509
          go_wp2
          go_ret
          exact ⟨by first|rfl|(simp;done)|(simp [*];done),by repeat (first|exact Drawn0.refl _|apply Drawn0.step)⟩
      ·rw [if_neg c6] at H
       have c6b0 : (((rd_T50 l0 x5_1).f1) == (wrap64 (x1_1 + 1))) = false:=beq_eq_false_iff_ne.mpr c6
       have c6b1 : (((rd_T50 l0 x5_1).f1) != (wrap64 (x1_1 + 1))) = true:=bne_iff_ne.mpr c6
       obtain rfl:=Option.some.inj H
       have p505 : 0 ≤ (x5_1 : Int):=of_decide_eq_true (by first|(with_reducible assumption)|assumption)
       have q505 : x5_1 < (l0.length : Int):=of_decide_eq_true (by first|(with_reducible assumption)|assumption)
       obtain ⟨ad505,e505,hx505_0,hx505_1,hx505_2,hx505_3,hx505_4⟩:=at_T50 HR0.out x5_1 p505 q505
       cases e505
       replace p505:=eq_true p505
       replace q505:=eq_true q505
       have p506 : 0 ≤ (x5_1 : Int):=of_decide_eq_true (by first|(with_reducible assumption)|assumption)
       have q506 : x5_1 < (l0.length : Int):=of_decide_eq_true (by first|(with_reducible assumption)|assumption)
       obtain ⟨ad506,e506,hx506_0,hx506_1,hx506_2,hx506_3,hx506_4⟩:=at_T50 HR0.out x5_1 p506 q506
       obtain rfl : ad505 = ad506:=(by injection e506)
       replace p506:=eq_true p506
       replace q506:=eq_true q506
       go_wp2
       go_ret
       exact ⟨by first|rfl|(simp;done)|(simp [*];done),by repeat (first|exact Drawn0.refl _|apply Drawn0.step)⟩
     ·rw [if_neg c5] at H
      have c5b0 : (((rd_T50 l0 x5_1).f0) == x1_1) = false:=beq_eq_false_iff_ne.mpr c5
      have c5b1 : (((rd_T50 l0 x5_1).f0) != x1_1) = true:=bne_iff_ne.mpr c5
      obtain rfl:=Option.some.inj H
      have p505 : 0 ≤ (x5_1 : Int):=of_decide_eq_true (by first|(with_reducible assumption)|assumption)
      have q505 : x5_1 < (l0.length : Int):=of_decide_eq_true (by first|(with_reducible assumption)|assumption)
      obtain ⟨ad505,e505,hx505_0,hx505_1,hx505_2,hx505_3,hx505_4⟩:=at_T50 HR0.out x5_1 p505 q505
      cases e505
      replace p505:=eq_true p505
      replace q505:=eq_true q505
      go_wp2
      go_ret
      exact ⟨by first|rfl|(simp;done)|(simp [*];done),by repeat (first|exact Drawn0.refl _|apply Drawn0.step)⟩
    ·rw [if_neg c4] at H
     exact absurd H (by simp)
   ·rw [if_neg c3] at H
    have c3b0 : decide (x5_1 < (l0.length : Int)) = false:=decide_eq_false c3
    clear c3
    obtain rfl:=Option.some.inj H
    go_wp2
    go_ret
    exact ⟨by first|rfl|(simp;done)|(simp [*];done),by repeat (first|exact Drawn0.refl _|apply Drawn0.step)⟩
end Go.Proofs.Ytpdnabhpkdchjaa.P
namespace Go.Proofs.Ytpdnabhpkdchjaa.P
open Go.RowKit Go.Proofs.YtpdnabhpkdchjaaW.PrintWords Go.Proofs.YtpdnabhpkdchjaaW.PrintLast Go.Proofs.YtpdnabhpkdchjaaW.PrintMore
attribute [local go_sem] max2_int min2_int max_two min_two max_three min_three max_four min_four
set_option linter.unusedVariables false
set_option linter.unusedSimpArgs false
def laws_heldBoolS.l0 : Nat → List Bool → Int → Int → Option (Int)
 | 0,_,_,_=>none
 | k + 1,x0,x1,x5=>if x5 < (x0.length : Int) then (if 0 ≤ x5 then (if ((rdOf false x0 x5) != ((Int.tmod x1 3) == 0)) = true then (some (-1)) else (laws_heldBoolS.l0 k x0 (wrap64 (x1 + 1)) (wrap64 (x5 + 1)))) else (none)) else (some x1)
def laws_heldBoolS.f (k : Nat) (l0 : List Bool) (a1 : Int) : Option (Int):=laws_heldBoolS.l0 k l0 a1 0
set_option maxHeartbeats 8000000 in
set_option maxRecDepth 100000 in
theorem laws_heldBoolS.calls (k : Nat) (A0 : Option Addr) (c0 : Nat) (l0 : List Bool) (a1 : Int) (r : Int) (w : World) (hr0 : Kd.C Kd.bool w A0 l0.length l0) (hc0 : l0.length ≤ c0) (h : laws_heldBoolS.f k l0 a1 = some r) :
  Calls Try.prog 105 #[.slice A0 l0.length c0,.int .i64 a1] w fun e w'=>e = .returned (.int .i64 r)∧Drawn0 w w':=by
 have HR0:=Aside0.mk hr0
 have HC0:=Aside0.mk hc0
 clear hr0 hc0
 have H : (laws_heldBoolS.l0 k l0 a1 0) = some r:=h
 clear h
 have H':=Aside0.mk H
 clear H
 go_enter Try.func105,Try.ntmps105
 go_wp2
 go_loopg [1,5] k (fun kq v1 v5 w'=>∃ (x1_1 : Int) (x5_1 : Int),v1 = .int .i64 x1_1∧v5 = .int .i64 x5_1∧Aside0 (laws_heldBoolS.l0 kq l0 x1_1 x5_1 = some r)∧Aside0 (kq ≤ k)∧Drawn0 w w')
 case atStart=>exact ⟨(a1),(0),(by first|rfl|(simp;done)|(simp [*];done)),(by first|rfl|(simp;done)|(simp [*];done)),H',⟨Nat.le_refl _⟩,by repeat (first|exact Drawn0.refl _|apply Drawn0.step)⟩
 case round =>
  clear H'
  try clear c1
  try clear p2
  obtain ⟨x1_1,x5_1,rfl,rfl,HA,HK1,⟨m1,rfl⟩⟩:=hrel
  cases gk with
  | zero=>exact absurd HA.out (by simp [laws_heldBoolS.l0])
  | succ k1 =>
   have H:=HA.out
   clear HA
   simp only [laws_heldBoolS.l0] at H
   by_cases c3 : x5_1 < (l0.length : Int)
   ·rw [if_pos c3] at H
    have c3b0 : decide (x5_1 < (l0.length : Int)) = true:=decide_eq_true c3
    clear c3
    by_cases c4 : 0 ≤ x5_1
    ·rw [if_pos c4] at H
     have c4b0 : decide (0 ≤ x5_1) = true:=decide_eq_true c4
     clear c4
     by_cases c5 : ((rdOf false l0 x5_1) != ((Int.tmod x1_1 3) == 0)) = true
     ·rw [if_pos c5] at H
      have c5b0 : ((rdOf false l0 x5_1) != ((Int.tmod x1_1 3) == 0)) = true:=c5
      (try (have c5b1 : decide ((rdOf false l0 x5_1) = ((Int.tmod x1_1 3) == 0)) = false:=by simpa using c5))
      (try (have c5b2 : ((rdOf false l0 x5_1) == ((Int.tmod x1_1 3) == 0)) = false:=by simpa using c5))
      (try (have c5b3 : ¬ ((rdOf false l0 x5_1) = ((Int.tmod x1_1 3) == 0)):=by simpa using c5))
      clear c5
      obtain rfl:=Option.some.inj H
      have p510 : 0 ≤ (x5_1 : Int):=of_decide_eq_true (by first|(with_reducible assumption)|assumption)
      have q510 : x5_1 < (l0.length : Int):=of_decide_eq_true (by first|(with_reducible assumption)|assumption)
      obtain ⟨ad510,e510,hx510_0⟩:=Kd.at_bool HR0.out x5_1 p510 q510
      cases e510
      replace p510:=eq_true p510
      replace q510:=eq_true q510
      go_wp2
      go_ret
      exact ⟨by first|rfl|(simp;done)|(simp [*];done),by repeat (first|exact Drawn0.refl _|apply Drawn0.step)⟩
     ·rw [if_neg c5] at H
      have c5b0 : ((rdOf false l0 x5_1) != ((Int.tmod x1_1 3) == 0)) = false:=by simpa using c5
      (try (have c5b1 : decide ((rdOf false l0 x5_1) = ((Int.tmod x1_1 3) == 0)) = true:=by simpa using c5))
      (try (have c5b2 : ((rdOf false l0 x5_1) == ((Int.tmod x1_1 3) == 0)) = true:=by simpa using c5))
      clear c5
      have H':=Aside0.mk H
      clear H
      have p510 : 0 ≤ (x5_1 : Int):=of_decide_eq_true (by first|(with_reducible assumption)|assumption)
      have q510 : x5_1 < (l0.length : Int):=of_decide_eq_true (by first|(with_reducible assumption)|assumption)
      obtain ⟨ad510,e510,hx510_0⟩:=Kd.at_bool HR0.out x5_1 p510 q510
      cases e510
      replace p510:=eq_true p510
      replace q510:=eq_true q510
      go_wp2
      go_roundg k1
      case measure=>have:=HK1.out;omega
      case rel=>exact ⟨(wrap64 (x1_1 + 1)),(wrap64 (x5_1 + 1)),(by first|rfl|(simp;done)|(simp [*];done)),(by first|rfl|(simp;done)|(simp [*];done)),H',⟨by have:=HK1.out;omega⟩,by repeat (first|exact Drawn0.refl _|apply Drawn0.step)⟩
    ·rw [if_neg c4] at H
     exact absurd H (by simp)
   ·rw [if_neg c3] at H
    have c3b0 : decide (x5_1 < (l0.length : Int)) = false:=decide_eq_false c3
    clear c3
    obtain rfl:=Option.some.inj H
    go_wp2
    go_ret
    exact ⟨by first|rfl|(simp;done)|(simp [*];done),by repeat (first|exact Drawn0.refl _|apply Drawn0.step)⟩
end Go.Proofs.Ytpdnabhpkdchjaa.P
namespace Go.Proofs.Ytpdnabhpkdchjaa.P
open Go.RowKit Go.Proofs.YtpdnabhpkdchjaaW.PrintWords Go.Proofs.YtpdnabhpkdchjaaW.PrintLast Go.Proofs.YtpdnabhpkdchjaaW.PrintMore
attribute [local go_sem] max2_int min2_int max_two min_two max_three min_three max_four min_four
set_option linter.unusedVariables false
set_option linter.unusedSimpArgs false
def spec_Begin.f (k : Nat) (a0_0 : Int) (l0_1 : List (S88)) : Option (Bool × (List (S50)) × List Bool):=(spec_LayoutOk.f k a0_0 l0_1).bind fun t210=>(if t210 = 0 then (if 0 ≤ a0_0 then (if (a0_0 : Int).toNat ≤ 8796093022208 then (if 0 ≤ (l0_1.length : Int) then (if ((l0_1.length : Int) : Int).toNat ≤ 281474976710656 then (some (true,(List.replicate (a0_0 : Int).toNat z50),(List.replicate ((l0_1.length : Int) : Int).toNat false))) else (none)) else (none)) else (none)) else (none)) else (some (false,([] : List (S50)),([] : List Bool))))
def spec_Begin.T3 : Bool × List (List Nat × List Nat):=(true,[([],[]),([0],[0]),([1,1],[1]),([],[]),([3],[3]),([4],[4]),([5,5],[5]),([2,6],[2,6]),([7,0,1,2,3,4,5,6,7],[7])])
def spec_Begin.B3 : List Nat:=[0,1,3,0,8,24,56,127,255]
theorem spec_Begin.tab3 : rtab .any (opsOf Try.f43 3) = spec_Begin.T3:=by kernel_rfl
theorem spec_Begin.bits3 : waitsOk spec_Begin.T3.2 spec_Begin.B3 = true:=by kernel_rfl
set_option maxHeartbeats 8000000 in
set_option maxRecDepth 100000 in
theorem spec_Begin.calls (k : Nat) (a0_0 : Int) (A0_1 : Option Addr) (c0_1 : Nat) (l0_1 : List (S88)) (r1 : Bool) (r2 : List (S50)) (r3 : List Bool) (w : World) (hr0_1 : Kd.C k88 w A0_1 l0_1.length l0_1) (hc0_1 : l0_1.length ≤ c0_1) (h : spec_Begin.f k a0_0 l0_1 = some (r1,r2,r3)) :
  Calls Try.prog 43 #[.agg #[.int .i64 a0_0,.slice A0_1 l0_1.length c0_1]] w fun e w'=>∃ v1_ v2_ : Value,e = .returned (.agg #[.bool r1,v1_,v2_])∧Kd.R k50 50 w' w.heap.size (fun _=>True) v1_ r2∧Kd.R Kd.bool 4 w' w.heap.size (fun _=>True) v2_ r3∧Below w.heap.size w w':=by
 have hu30:=Try.underlying30
 have hu46:=Try.underlying46
 have HR0_1:=Aside0.mk hr0_1
 have HC0_1:=Aside0.mk hc0_1
 clear hr0_1 hc0_1
 have HB:=Aside0.mk (Below.refl w.heap.size w)
 have H : ((spec_LayoutOk.f k a0_0 l0_1).bind fun t210=>(if t210 = 0 then (if 0 ≤ a0_0 then (if (a0_0 : Int).toNat ≤ 8796093022208 then (if 0 ≤ (l0_1.length : Int) then (if ((l0_1.length : Int) : Int).toNat ≤ 281474976710656 then (some (true,(List.replicate (a0_0 : Int).toNat z50),(List.replicate ((l0_1.length : Int) : Int).toNat false))) else (none)) else (none)) else (none)) else (none)) else (some (false,([] : List (S50)),([] : List Bool))))) = some (r1,r2,r3):=h
 clear h
 replace H:=Option.bind_eq_some_iff.mp H
 obtain ⟨t210,A20,H⟩:=H
 replace H : (if t210 = 0 then (if 0 ≤ a0_0 then (if (a0_0 : Int).toNat ≤ 8796093022208 then (if 0 ≤ (l0_1.length : Int) then (if ((l0_1.length : Int) : Int).toNat ≤ 281474976710656 then (some (true,(List.replicate (a0_0 : Int).toNat z50),(List.replicate ((l0_1.length : Int) : Int).toNat false))) else (none)) else (none)) else (none)) else (none)) else (some (false,([] : List (S50)),([] : List Bool)))) = some (r1,r2,r3):=H
 have A2:=Aside0.mk A20
 clear A20
 by_cases c3 : t210 = 0
 ·rw [if_pos c3] at H
  have c3b0 : (t210 == 0) = true:=beq_iff_eq.mpr c3
  have c3b1 : (t210 != 0) = false:=bne_eq_false_iff_eq.mpr c3
  clear c3
  by_cases c4 : 0 ≤ a0_0
  ·rw [if_pos c4] at H
   have c4b0:=eq_true c4
   have c4b1 : decide (0 ≤ a0_0) = true:=decide_eq_true c4
   clear c4
   by_cases c5 : (a0_0 : Int).toNat ≤ 8796093022208
   ·rw [if_pos c5] at H
    have c5b0:=eq_true c5
    have c5b1 : decide ((a0_0 : Int).toNat ≤ 8796093022208) = true:=decide_eq_true c5
    clear c5
    obtain ⟨y211,hy211⟩ : ∃ y_ : List (S50),y_ = (List.replicate (a0_0 : Int).toNat z50):=⟨_,rfl⟩
    replace H : (if 0 ≤ (l0_1.length : Int) then (if ((l0_1.length : Int) : Int).toNat ≤ 281474976710656 then (some (true,y211,(List.replicate ((l0_1.length : Int) : Int).toNat false))) else (none)) else (none)) = some (r1,r2,r3):=by first|(rw [hy211];with_reducible exact H)|(have H2_:=(Option.bind_some _ _).symm.trans H;rw [hy211];with_reducible exact H2_)|(have H2_:=(Option.bind_some _ _).symm.trans H;with_reducible exact H2_)|with_reducible exact H|(rw [hy211];exact H)|exact H
    have Ny211:=Aside0.mk hy211
    clear hy211
    by_cases c6 : 0 ≤ (l0_1.length : Int)
    ·rw [if_pos c6] at H
     have c6b0:=eq_true c6
     have c6b1 : decide (0 ≤ (l0_1.length : Int)) = true:=decide_eq_true c6
     clear c6
     by_cases c7 : ((l0_1.length : Int) : Int).toNat ≤ 281474976710656
     ·rw [if_pos c7] at H
      have c7b0:=eq_true c7
      have c7b1 : decide (((l0_1.length : Int) : Int).toNat ≤ 281474976710656) = true:=decide_eq_true c7
      clear c7
      obtain ⟨y214,hy214⟩ : ∃ y_ : List Bool,y_ = (List.replicate ((l0_1.length : Int) : Int).toNat false):=⟨_,rfl⟩
      replace H : (some (true,y211,y214)) = some (r1,r2,r3):=by first|(rw [hy214];with_reducible exact H)|(have H2_:=(Option.bind_some _ _).symm.trans H;rw [hy214];with_reducible exact H2_)|(have H2_:=(Option.bind_some _ _).symm.trans H;with_reducible exact H2_)|with_reducible exact H|(rw [hy214];exact H)|exact H
      have Ny214:=Aside0.mk hy214
      clear hy214
      simp only [Option.some.injEq,Prod.mk.injEq] at H
      obtain ⟨rfl,rfl,rfl⟩:=H
      go_enter Try.func43,Try.ntmps43
      try go_wp2_with (first|((with_reducible refine gate_dst (N:=1) rfl ?_);refine box_event ?hg (N:=1) ?hd (cs:=#[.int .i64 a0_0,.slice A0_1 l0_1.length c0_1]) (t:=30) ?hr ?_;(case hd=>rfl);(case hg=>rfl);(case hr=>first|(go_simp;done)|(go_simp;rfl));intro gb208 hg w8 hbox hb;have n0_:=Aside0.mk (below_step (by repeat (first|(with_reducible first|exact HB.out|apply below_alloc|apply pw_below_drewN|apply below_drew1)|exact HB.out)) hb);have n1_:=Aside0.mk (hbox);have n2_:=Aside0.mk ((by rw [hg];exact (below_size (by repeat (first|(with_reducible first|exact HB.out|apply below_alloc|apply pw_below_drewN|apply below_drew1)|exact HB.out))) : w.heap.size ≤ gb208));have n3_:=Aside0.mk ((by rw [hg];exact (below_size (by repeat (first|(with_reducible first|exact HB.out|apply below_alloc|apply pw_below_drewN|apply below_drew1)|exact HB.out))) : w.heap.size ≤ gb208));clear HB;have HB:=n0_;have BK208:=n1_;have GW208:=n2_;have GE208:=n3_;clear n0_ n1_ n2_ n3_;clear hb hbox hg)|((with_reducible refine gate_dst (N:=2) rfl ?_);refine box_event ?hg (N:=2) ?hd (cs:=#[.bool false,.slice none 0 0,.slice none 0 0]) (t:=46) ?hr ?_;(case hd=>rfl);(case hg=>rfl);(case hr=>first|(go_simp;done)|(go_simp;rfl));intro gb209 hg w9 hbox hb;have n0_:=Aside0.mk (blk_below (g:=gb208) (o:=.cells #[.int .i64 a0_0,.slice A0_1 l0_1.length c0_1] 30 (0,0)) (by (with_reducible repeat (first|refine blk_drewN ?_ _|refine blk_drew ?_|refine blk_alloc ?_ _));exact BK208.out) hb);have n1_:=Aside0.mk (below_step (by repeat (first|(with_reducible first|exact HB.out|apply below_alloc|apply pw_below_drewN|apply below_drew1|refine below_set ?_ GE208.out)|exact HB.out)) hb);have n2_:=Aside0.mk (hbox);have n3_:=Aside0.mk ((by rw [hg];exact (below_size (by repeat (first|(with_reducible first|exact HB.out|apply below_alloc|apply pw_below_drewN|apply below_drew1|refine below_set ?_ GE208.out)|exact HB.out))) : w.heap.size ≤ gb209));have n4_:=Aside0.mk ((by rw [hg];exact (below_size (by repeat (first|(with_reducible first|exact HB.out|apply below_alloc|apply pw_below_drewN|apply below_drew1|refine below_set ?_ GE208.out)|exact HB.out))) : w.heap.size ≤ gb209));have n5_:=Aside0.mk ((by rw [hg];exact Nat.ne_of_lt (blk_lt (g:=gb208) (o:=.cells #[.int .i64 a0_0,.slice A0_1 l0_1.length c0_1] 30 (0,0)) (by (with_reducible repeat (first|refine blk_drewN ?_ _|refine blk_drew ?_|refine blk_alloc ?_ _));exact BK208.out)) : gb208 ≠ gb209));have n6_:=Aside0.mk ((by rw [hg];exact Nat.ne_of_gt (blk_lt (g:=gb208) (o:=.cells #[.int .i64 a0_0,.slice A0_1 l0_1.length c0_1] 30 (0,0)) (by (with_reducible repeat (first|refine blk_drewN ?_ _|refine blk_drew ?_|refine blk_alloc ?_ _));exact BK208.out)) : gb209 ≠ gb208));clear BK208;clear HB;have BK208:=n0_;have HB:=n1_;have BK209:=n2_;have GW209:=n3_;have GE209:=n4_;have NB208_209:=n5_;have NB209_208:=n6_;clear n0_ n1_ n2_ n3_ n4_ n5_ n6_;clear hb hbox hg;have hnb10:=NB208_209.out;have hnc10:=NB209_208.out;have hcz11_0 : w9.cell? ⟨gb208,0,none⟩ = some (.int .i64 a0_0):=(blk_cell BK208.out 0).trans rfl;have hcz11_1 : w9.cell? ⟨gb208,1,none⟩ = some (.slice A0_1 l0_1.length c0_1):=(blk_cell BK208.out 1).trans rfl;have hfz11_0:=blk_frozen BK208.out 0;have hfz11_1:=blk_frozen BK208.out 1)|((with_reducible refine gate_callee (f:=23) rfl ?_);refine goesL_ (some 4) rfl rfl Try.func23 (by kernel_rfl) rfl #[.agg #[.int .i64 a0_0,.slice A0_1 l0_1.length c0_1]] rfl (by (try simp only [List.map_toArray,List.map_cons,List.map_nil]);first|done|rfl|(simp only [List.length_drop,List.length_take];rfl)) ?_;(with_reducible refine (spec_LayoutOk.calls k a0_0 _ _ l0_1 t210 _ ?side1 ?side2 A2.out).mono ?_);(case side1=>repeat (first|exact (Kd.C_below HR0_1.out HB.out)|(with_reducible refine Kd.C_alloc ?_ _)|(with_reducible refine Kd.C_drewN ?_ _)|(with_reducible refine Kd.C_drew ?_)));(case side2=>exact HC0_1.out);rintro e w12 ⟨rfl,hb⟩;refine ⟨_,rfl,?_⟩;have n0_:=Aside0.mk (blk_below (g:=gb208) (o:=.cells #[.int .i64 a0_0,.slice A0_1 l0_1.length c0_1] 30 (0,0)) (by (with_reducible repeat (first|refine blk_drewN ?_ _|refine blk_drew ?_|refine blk_alloc ?_ _));exact BK208.out) hb);have n1_:=Aside0.mk (blk_below (g:=gb209) (o:=.cells #[.bool false,.slice none 0 0,.slice none 0 0] 46 (0,0)) (by (with_reducible repeat (first|refine blk_drewN ?_ _|refine blk_drew ?_|refine blk_alloc ?_ _));exact BK209.out) hb);have n2_:=Aside0.mk (below_step (by repeat (first|(with_reducible first|exact HB.out|apply below_alloc|apply pw_below_drewN|apply below_drew1|refine below_set ?_ GE208.out|refine below_set ?_ GE209.out)|exact HB.out)) hb);clear BK208;clear BK209;clear HB;have BK208:=n0_;have BK209:=n1_;have HB:=n2_;clear n0_ n1_ n2_;(try clear hb);(try clear hb2);(try clear hk);(try clear hi)))
      have n0_:=Aside0.mk (blk_drew BK208.out)
      have n1_:=Aside0.mk (blk_drew BK209.out)
      have n2_:=Aside0.mk (below_drew1 HB.out)
      clear BK208
      clear BK209
      clear HB
      have BK208:=n0_
      have BK209:=n1_
      have HB:=n2_
      clear n0_ n1_ n2_
      refine start_ (n:=9) (S:=fun w'=>w'.cell? ⟨gb208,0,none⟩ = some (.int .i64 a0_0)∧w'.cell? ⟨gb208,1,none⟩ = some (.slice A0_1 l0_1.length c0_1)) (ds:=[]) #[false,false,false,false,false,false,false,false,false] (by kernel_rfl) rfl rfl ⟨(blk_cell BK208.out 0).trans rfl,(blk_cell BK208.out 1).trans rfl⟩ (fun hHeld=>?_);refine with_tabW spec_Begin.tab3 spec_Begin.bits3 (fun HT_ HW_=>?_)
      generalize w12.drew = w13 at BK208 BK209 HB hHeld ⊢
      refine pure_ (i:=0) (N:=some 7) (v:=?_) (a':=?_) #[true,false,false,false,false,false,false,false,false] rfl rfl (any_of HT_.out (by kernel_rfl)) (fun _ _ _ h=>h) (Or.inl ⟨by rfl,?_⟩) ?_ ?_
      rotate_left
      ·intro w'
       go_simp
       with_reducible rfl
      rotate_left
      ·simp only [Act.put,List.setIfInBounds_toArray,List.set_cons_zero,List.set_cons_succ,i64_w,i32_w]
       rfl
      refine pure_ (i:=3) (N:=some 10) (v:=?_) (a':=?_) #[true,false,false,true,false,false,false,false,false] rfl rfl (any_of HT_.out (by kernel_rfl)) (fun _ _ _ h=>h) (Or.inl ⟨by rfl,?_⟩) ?_ ?_
      rotate_left
      ·intro w'
       go_simp
       with_reducible rfl
      rotate_left
      ·simp only [Act.put,List.setIfInBounds_toArray,List.set_cons_zero,List.set_cons_succ,i64_w,i32_w]
       rfl
      refine take_ (i:=1) (N:=some 8) (v:=?_) (a':=?_) #[true,true,false,true,false,false,false,false,false] rfl rfl (take_ofW HT_.out HW_.out (by kernel_rfl)) (fun _ _ _ h=>h) (Or.inl ⟨by rfl,?_⟩) hHeld ?_ ?_
      rotate_left
      ·rintro w' ⟨s0,s1⟩
       go_simp
       with_reducible rfl
      rotate_left
      ·simp only [Act.put,List.setIfInBounds_toArray,List.set_cons_zero,List.set_cons_succ,i64_w,i32_w]
       rfl
      refine take_ (i:=4) (N:=some 11) (v:=?_) (a':=?_) #[true,true,false,true,true,false,false,false,false] rfl rfl (take_ofW HT_.out HW_.out (by kernel_rfl)) (fun _ _ _ h=>h) (Or.inl ⟨by rfl,?_⟩) hHeld ?_ ?_
      rotate_left
      ·rintro w' ⟨s0,s1⟩
       go_simp
       with_reducible rfl
      rotate_left
      ·simp only [Act.put,List.setIfInBounds_toArray,List.set_cons_zero,List.set_cons_succ,i64_w,i32_w]
       rfl
      refine pure_ (i:=5) (N:=some 12) (v:=?_) (a':=?_) #[true,true,false,true,true,true,false,false,false] rfl rfl (any_of HT_.out (by kernel_rfl)) (fun _ _ _ h=>h) (Or.inl ⟨by rfl,?_⟩) ?_ ?_
      rotate_left
      ·intro w'
       go_simp
       with_reducible rfl
      rotate_left
      ·simp only [Act.put,List.setIfInBounds_toArray,List.set_cons_zero,List.set_cons_succ,i64_w,i32_w]
       rfl
      refine join_ (σ:=Value × Value) 2 #[true,true,true,true,true,true,true,false,false] (fun s_=>[(9,s_.1),(13,s_.2)]) (fun s_ w'=>(w'.cell? ⟨gb208,0,none⟩ = some (.int .i64 a0_0)∧w'.cell? ⟨gb208,1,none⟩ = some (.slice A0_1 l0_1.length c0_1))∧(Kd.R k50 50 w' w.heap.size (fun _=>True) s_.1 y211)∧(Kd.R Kd.bool 4 w' w.heap.size (fun _=>True) s_.2 y214)∧(w'.heap[gb208]? = some (.cells #[.int .i64 a0_0,.slice A0_1 l0_1.length c0_1] 30 (0,0)))∧(w'.heap[gb209]? = some (.cells #[.bool false,.slice none 0 0,.slice none 0 0] 46 (0,0)))∧(Below w.heap.size w w')) ?_ ?_
      rotate_left
      ·intro hCont
       refine two_ (i:=2) (j:=6) (Ni:=some 9) (Nj:=some 13) #[true,true,true,true,true,true,false,false,false] #[true,true,false,true,true,true,true,false,false] rfl rfl rfl rfl (two_of HT_.out (by kernel_rfl)) (by decide) (by decide) (fun K hK=>?_) (fun K hK=>?_)
       ·skip
        refine Kd.R_make_step k50 _ 50 (by rfl) (N:=9) rfl 43 _ _ rfl a0_0 rfl rfl Try.underlying43 (.agg #[(.int .i64 0),(.int .i64 0),(.bool false),(.bool false),(.int .i64 0)]) 32 info50 rfl (by decide) (by omega) z50 (ok:=fun _=>True) (okp:=fun _=>True) (k50_mkM _ _ _ z50 ) (fun _ hk=>hk) trivial (of_decide_eq_true (by first|(with_reducible assumption)|assumption)) (Nat.le_trans (Nat.mul_le_mul_right _ (of_decide_eq_true (by first|(with_reducible assumption)|assumption) : a0_0.toNat ≤ 8796093022208)) (by omega)) (Below.refl _ _) (Nat.le_refl _) ?_
        intro v212 w14 ho15 hb hg_ hnew_
        clear hg_ hnew_
        (first|rw [← Ny211.out] at ho15|(simp only [Int.reduceToNat] at ho15;rw [← Ny211.out] at ho15))
        have n0_:=Aside0.mk (Kd.R_lower ho15 (below_size (by repeat (first|(with_reducible first|exact HB.out|apply below_alloc|apply pw_below_drewN|apply below_drew1|refine below_set ?_ GE208.out|refine below_set ?_ GE209.out)|exact HB.out))))
        have n1_:=Aside0.mk (blk_below (g:=gb208) (o:=.cells #[.int .i64 a0_0,.slice A0_1 l0_1.length c0_1] 30 (0,0)) (by (with_reducible repeat (first|refine blk_drewN ?_ _|refine blk_drew ?_|refine blk_alloc ?_ _));exact BK208.out) hb)
        have n2_:=Aside0.mk (blk_below (g:=gb209) (o:=.cells #[.bool false,.slice none 0 0,.slice none 0 0] 46 (0,0)) (by (with_reducible repeat (first|refine blk_drewN ?_ _|refine blk_drew ?_|refine blk_alloc ?_ _));exact BK209.out) hb)
        have n3_:=Aside0.mk (below_step (by repeat (first|(with_reducible first|exact HB.out|apply below_alloc|apply pw_below_drewN|apply below_drew1|refine below_set ?_ GE208.out|refine below_set ?_ GE209.out)|exact HB.out)) hb)
        clear BK208
        clear BK209
        clear HB
        have HO213:=n0_
        have BK208:=n1_
        have BK209:=n2_
        have HB:=n3_
        clear n0_ n1_ n2_ n3_
        clear hb ho15
        refine hK.out _ _ ⟨(blk_cell BK208.out 0).trans rfl,(blk_cell BK208.out 1).trans rfl⟩ (fun hHeld=>?_)
        clear hK K
        refine norm_ (a':=?_) ?_ ?_
        rotate_left
        ·show Act.put _ (some 9) _ = _
         simp only [Act.put,List.setIfInBounds_toArray,List.set_cons_zero,List.set_cons_succ,i64_w,i32_w]
         rfl
        refine one_ (i:=6) (N:=some 13) #[true,true,true,true,true,true,true,false,false] rfl rfl (one_of HT_.out (by kernel_rfl)) (by decide) (fun K hK=>?_)
        refine Kd.R_make_step Kd.bool _ 4 (by rfl) (N:=13) rfl 44 _ _ rfl (l0_1.length : Int) rfl rfl Try.underlying44 (.bool false) 1 info4 rfl (by decide) (by omega) false (ok:=fun _=>True) (okp:=fun _=>True) rfl (fun _ hk=>hk) trivial (of_decide_eq_true (by first|(with_reducible assumption)|assumption)) (Nat.le_trans (Nat.mul_le_mul_right _ (of_decide_eq_true (by first|(with_reducible assumption)|assumption) : (l0_1.length : Int).toNat ≤ 281474976710656)) (by omega)) (Below.refl _ _) (Nat.le_refl _) ?_
        intro v215 w16 ho17 hb hg_ hnew_
        clear hg_ hnew_
        (first|rw [← Ny214.out] at ho17|(simp only [Int.reduceToNat] at ho17;rw [← Ny214.out] at ho17))
        have n0_:=Aside0.mk (Kd.R_below (by (with_reducible repeat (first|apply Kd.R_alloc|apply Kd.R_drewN|apply Kd.R_drew));exact HO213.out) hb)
        have n1_:=Aside0.mk (Kd.R_lower ho17 (below_size (by repeat (first|(with_reducible first|exact HB.out|apply below_alloc|apply pw_below_drewN|apply below_drew1|refine below_set ?_ GE208.out|refine below_set ?_ GE209.out)|exact HB.out))))
        have n2_:=Aside0.mk (blk_below (g:=gb208) (o:=.cells #[.int .i64 a0_0,.slice A0_1 l0_1.length c0_1] 30 (0,0)) (by (with_reducible repeat (first|refine blk_drewN ?_ _|refine blk_drew ?_|refine blk_alloc ?_ _));exact BK208.out) hb)
        have n3_:=Aside0.mk (blk_below (g:=gb209) (o:=.cells #[.bool false,.slice none 0 0,.slice none 0 0] 46 (0,0)) (by (with_reducible repeat (first|refine blk_drewN ?_ _|refine blk_drew ?_|refine blk_alloc ?_ _));exact BK209.out) hb)
        have n4_:=Aside0.mk (below_step (by repeat (first|(with_reducible first|exact HB.out|apply below_alloc|apply pw_below_drewN|apply below_drew1|refine below_set ?_ GE208.out|refine below_set ?_ GE209.out)|exact HB.out)) hb)
        clear HO213
        clear BK208
        clear BK209
        clear HB
        have HO213:=n0_
        have HO216:=n1_
        have BK208:=n2_
        have BK209:=n3_
        have HB:=n4_
        clear n0_ n1_ n2_ n3_ n4_
        clear hb ho17
        obtain ⟨Ao18,co18,eo18⟩:=Kd.R_slice HO216.out
        (first|subst eo18|(injection eo18 with f1_ f2_ f3_;have f4_:=f1_.symm;have f5_:=f3_.symm;clear f1_ f2_ f3_;subst f4_;subst f5_))
        obtain ⟨Ao19,co19,eo19⟩:=Kd.R_slice HO213.out
        (first|subst eo19|(injection eo19 with f1_ f2_ f3_;have f4_:=f1_.symm;have f5_:=f3_.symm;clear f1_ f2_ f3_;subst f4_;subst f5_))
        refine hK.out _ _ ⟨(blk_cell BK208.out 0).trans rfl,(blk_cell BK208.out 1).trans rfl⟩ (fun hHeld=>?_)
        clear hK K
        refine norm_ (a':=?_) ?_ ?_
        rotate_left
        ·show Act.put _ (some 13) _ = _
         simp only [Act.put,List.setIfInBounds_toArray,List.set_cons_zero,List.set_cons_succ,i64_w,i32_w]
         rfl
        exact norm_ (by simp only [putAll,Act.put,List.setIfInBounds_toArray,List.set_cons_zero,List.set_cons_succ]) (hCont (.slice Ao19 y211.length co19,.slice Ao18 y214.length co18) _ ⟨hHeld,(by (with_reducible repeat (first|apply Kd.R_alloc|apply Kd.R_drewN|apply Kd.R_drew));exact HO213.out),(by (with_reducible repeat (first|apply Kd.R_alloc|apply Kd.R_drewN|apply Kd.R_drew));exact HO216.out),(by (with_reducible repeat (first|refine blk_drewN ?_ _|refine blk_drew ?_|refine blk_alloc ?_ _));exact BK208.out),(by (with_reducible repeat (first|refine blk_drewN ?_ _|refine blk_drew ?_|refine blk_alloc ?_ _));exact BK209.out),(by repeat (first|(with_reducible first|exact HB.out|apply below_alloc|apply pw_below_drewN|apply below_drew1|refine below_set ?_ GE208.out|refine below_set ?_ GE209.out)|exact HB.out))⟩)
       ·skip
        refine Kd.R_make_step Kd.bool _ 4 (by rfl) (N:=13) rfl 44 _ _ rfl (l0_1.length : Int) rfl rfl Try.underlying44 (.bool false) 1 info4 rfl (by decide) (by omega) false (ok:=fun _=>True) (okp:=fun _=>True) rfl (fun _ hk=>hk) trivial (of_decide_eq_true (by first|(with_reducible assumption)|assumption)) (Nat.le_trans (Nat.mul_le_mul_right _ (of_decide_eq_true (by first|(with_reducible assumption)|assumption) : (l0_1.length : Int).toNat ≤ 281474976710656)) (by omega)) (Below.refl _ _) (Nat.le_refl _) ?_
        intro v215 w14 ho15 hb hg_ hnew_
        clear hg_ hnew_
        (first|rw [← Ny214.out] at ho15|(simp only [Int.reduceToNat] at ho15;rw [← Ny214.out] at ho15))
        have n0_:=Aside0.mk (Kd.R_lower ho15 (below_size (by repeat (first|(with_reducible first|exact HB.out|apply below_alloc|apply pw_below_drewN|apply below_drew1|refine below_set ?_ GE208.out|refine below_set ?_ GE209.out)|exact HB.out))))
        have n1_:=Aside0.mk (blk_below (g:=gb208) (o:=.cells #[.int .i64 a0_0,.slice A0_1 l0_1.length c0_1] 30 (0,0)) (by (with_reducible repeat (first|refine blk_drewN ?_ _|refine blk_drew ?_|refine blk_alloc ?_ _));exact BK208.out) hb)
        have n2_:=Aside0.mk (blk_below (g:=gb209) (o:=.cells #[.bool false,.slice none 0 0,.slice none 0 0] 46 (0,0)) (by (with_reducible repeat (first|refine blk_drewN ?_ _|refine blk_drew ?_|refine blk_alloc ?_ _));exact BK209.out) hb)
        have n3_:=Aside0.mk (below_step (by repeat (first|(with_reducible first|exact HB.out|apply below_alloc|apply pw_below_drewN|apply below_drew1|refine below_set ?_ GE208.out|refine below_set ?_ GE209.out)|exact HB.out)) hb)
        clear BK208
        clear BK209
        clear HB
        have HO216:=n0_
        have BK208:=n1_
        have BK209:=n2_
        have HB:=n3_
        clear n0_ n1_ n2_ n3_
        clear hb ho15
        refine hK.out _ _ ⟨(blk_cell BK208.out 0).trans rfl,(blk_cell BK208.out 1).trans rfl⟩ (fun hHeld=>?_)
        clear hK K
        refine norm_ (a':=?_) ?_ ?_
        rotate_left
        ·show Act.put _ (some 13) _ = _
         simp only [Act.put,List.setIfInBounds_toArray,List.set_cons_zero,List.set_cons_succ,i64_w,i32_w]
         rfl
        refine one_ (i:=2) (N:=some 9) #[true,true,true,true,true,true,true,false,false] rfl rfl (one_of HT_.out (by kernel_rfl)) (by decide) (fun K hK=>?_)
        refine Kd.R_make_step k50 _ 50 (by rfl) (N:=9) rfl 43 _ _ rfl a0_0 rfl rfl Try.underlying43 (.agg #[(.int .i64 0),(.int .i64 0),(.bool false),(.bool false),(.int .i64 0)]) 32 info50 rfl (by decide) (by omega) z50 (ok:=fun _=>True) (okp:=fun _=>True) (k50_mkM _ _ _ z50 ) (fun _ hk=>hk) trivial (of_decide_eq_true (by first|(with_reducible assumption)|assumption)) (Nat.le_trans (Nat.mul_le_mul_right _ (of_decide_eq_true (by first|(with_reducible assumption)|assumption) : a0_0.toNat ≤ 8796093022208)) (by omega)) (Below.refl _ _) (Nat.le_refl _) ?_
        intro v212 w16 ho17 hb hg_ hnew_
        clear hg_ hnew_
        (first|rw [← Ny211.out] at ho17|(simp only [Int.reduceToNat] at ho17;rw [← Ny211.out] at ho17))
        have n0_:=Aside0.mk (Kd.R_below (by (with_reducible repeat (first|apply Kd.R_alloc|apply Kd.R_drewN|apply Kd.R_drew));exact HO216.out) hb)
        have n1_:=Aside0.mk (Kd.R_lower ho17 (below_size (by repeat (first|(with_reducible first|exact HB.out|apply below_alloc|apply pw_below_drewN|apply below_drew1|refine below_set ?_ GE208.out|refine below_set ?_ GE209.out)|exact HB.out))))
        have n2_:=Aside0.mk (blk_below (g:=gb208) (o:=.cells #[.int .i64 a0_0,.slice A0_1 l0_1.length c0_1] 30 (0,0)) (by (with_reducible repeat (first|refine blk_drewN ?_ _|refine blk_drew ?_|refine blk_alloc ?_ _));exact BK208.out) hb)
        have n3_:=Aside0.mk (blk_below (g:=gb209) (o:=.cells #[.bool false,.slice none 0 0,.slice none 0 0] 46 (0,0)) (by (with_reducible repeat (first|refine blk_drewN ?_ _|refine blk_drew ?_|refine blk_alloc ?_ _));exact BK209.out) hb)
        have n4_:=Aside0.mk (below_step (by repeat (first|(with_reducible first|exact HB.out|apply below_alloc|apply pw_below_drewN|apply below_drew1|refine below_set ?_ GE208.out|refine below_set ?_ GE209.out)|exact HB.out)) hb)
        clear HO216
        clear BK208
        clear BK209
        clear HB
        have HO216:=n0_
        have HO213:=n1_
        have BK208:=n2_
        have BK209:=n3_
        have HB:=n4_
        clear n0_ n1_ n2_ n3_ n4_
        clear hb ho17
        obtain ⟨Ao18,co18,eo18⟩:=Kd.R_slice HO216.out
        (first|subst eo18|(injection eo18 with f1_ f2_ f3_;have f4_:=f1_.symm;have f5_:=f3_.symm;clear f1_ f2_ f3_;subst f4_;subst f5_))
        obtain ⟨Ao19,co19,eo19⟩:=Kd.R_slice HO213.out
        (first|subst eo19|(injection eo19 with f1_ f2_ f3_;have f4_:=f1_.symm;have f5_:=f3_.symm;clear f1_ f2_ f3_;subst f4_;subst f5_))
        refine hK.out _ _ ⟨(blk_cell BK208.out 0).trans rfl,(blk_cell BK208.out 1).trans rfl⟩ (fun hHeld=>?_)
        clear hK K
        refine norm_ (a':=?_) ?_ ?_
        rotate_left
        ·show Act.put _ (some 9) _ = _
         simp only [Act.put,List.setIfInBounds_toArray,List.set_cons_zero,List.set_cons_succ,i64_w,i32_w]
         rfl
        exact norm_ (by simp only [putAll,Act.put,List.setIfInBounds_toArray,List.set_cons_zero,List.set_cons_succ]) (hCont (.slice Ao19 y211.length co19,.slice Ao18 y214.length co18) _ ⟨hHeld,(by (with_reducible repeat (first|apply Kd.R_alloc|apply Kd.R_drewN|apply Kd.R_drew));exact HO213.out),(by (with_reducible repeat (first|apply Kd.R_alloc|apply Kd.R_drewN|apply Kd.R_drew));exact HO216.out),(by (with_reducible repeat (first|refine blk_drewN ?_ _|refine blk_drew ?_|refine blk_alloc ?_ _));exact BK208.out),(by (with_reducible repeat (first|refine blk_drewN ?_ _|refine blk_drew ?_|refine blk_alloc ?_ _));exact BK209.out),(by repeat (first|(with_reducible first|exact HB.out|apply below_alloc|apply pw_below_drewN|apply below_drew1|refine below_set ?_ GE208.out|refine below_set ?_ GE209.out)|exact HB.out))⟩)
      rintro ⟨v212,v215⟩ w20 ⟨hS_,h0_,h1_,h2_,h3_,h4_⟩
      have n0_ : Aside0 (Kd.R k50 50 w20 w.heap.size (fun _=>True) v212 y211):=⟨h0_⟩
      have n1_ : Aside0 (Kd.R Kd.bool 4 w20 w.heap.size (fun _=>True) v215 y214):=⟨h1_⟩
      have n2_ : Aside0 (w20.heap[gb208]? = some (.cells #[.int .i64 a0_0,.slice A0_1 l0_1.length c0_1] 30 (0,0))):=⟨h2_⟩
      have n3_ : Aside0 (w20.heap[gb209]? = some (.cells #[.bool false,.slice none 0 0,.slice none 0 0] 46 (0,0))):=⟨h3_⟩
      have n4_ : Aside0 (Below w.heap.size w w20):=⟨h4_⟩
      clear BK208
      clear BK209
      clear HB
      clear h0_ h1_ h2_ h3_ h4_
      have HO213:=n0_
      have HO216:=n1_
      have BK208:=n2_
      have BK209:=n3_
      have HB:=n4_
      clear n0_ n1_ n2_ n3_ n4_
      have hHeld : w20.cell? ⟨gb208,0,none⟩ = some (.int .i64 a0_0)∧w20.cell? ⟨gb208,1,none⟩ = some (.slice A0_1 l0_1.length c0_1):=hS_
      obtain ⟨Ao21,co21,eo21⟩:=Kd.R_slice HO216.out
      (first|subst eo21|(injection eo21 with f1_ f2_ f3_;have f4_:=f1_.symm;have f5_:=f3_.symm;clear f1_ f2_ f3_;subst f4_;subst f5_))
      obtain ⟨Ao22,co22,eo22⟩:=Kd.R_slice HO213.out
      (first|subst eo22|(injection eo22 with f1_ f2_ f3_;have f4_:=f1_.symm;have f5_:=f3_.symm;clear f1_ f2_ f3_;subst f4_;subst f5_))
      refine norm_ (a':=?_) ?_ ?_
      rotate_left
      ·simp only [putAll,Act.put,List.setIfInBounds_toArray,List.set_cons_zero,List.set_cons_succ]
       rfl
      refine pure_ (i:=7) (N:=some 14) (v:=?_) (a':=?_) #[true,true,true,true,true,true,true,true,false] rfl rfl (any_of HT_.out (by kernel_rfl)) (fun _ _ _ h=>h) (Or.inl ⟨by rfl,?_⟩) ?_ ?_
      rotate_left
      ·intro w'
       go_simp
       with_reducible rfl
      rotate_left
      ·simp only [Act.put,List.setIfInBounds_toArray,List.set_cons_zero,List.set_cons_succ,i64_w,i32_w]
       rfl
      refine one_ (i:=8) (N:=none) #[true,true,true,true,true,true,true,true,true] rfl rfl (one_of HT_.out (by kernel_rfl)) (by decide) (fun K hK=>?_)
      have hs23 : w20.cell? ⟨gb209,0,none⟩ = some (.bool false):=(blk_cell BK209.out 0).trans rfl
      have hfs23:=blk_frozen BK209.out 0
      have hns23_0:=NB208_209.out
      have hms23_0:=NB209_208.out
      have hs24 : w20.cell? ⟨gb209,1,none⟩ = some (.slice none 0 0):=(blk_cell BK209.out 1).trans rfl
      have hfs24:=blk_frozen BK209.out 1
      have hns24_0:=NB208_209.out
      have hms24_0:=NB209_208.out
      have hs25 : w20.cell? ⟨gb209,2,none⟩ = some (.slice none 0 0):=(blk_cell BK209.out 2).trans rfl
      have hfs25:=blk_frozen BK209.out 2
      have hns25_0:=NB208_209.out
      have hms25_0:=NB209_208.out
      refine skip_ (w1:=?_) (by rfl) rfl ?_ ?_
      rotate_left
      ·go_simp
       rfl
      refine hK.out _ _ ⟨((cell_far (p:=⟨gb209,_,none⟩) NB208_209.out _).trans (((cell_far (p:=⟨gb209,_,none⟩) NB208_209.out _).trans (((cell_far (p:=⟨gb209,_,none⟩) NB208_209.out _).trans (hHeld.1)))))),((cell_far (p:=⟨gb209,_,none⟩) NB208_209.out _).trans (((cell_far (p:=⟨gb209,_,none⟩) NB208_209.out _).trans (((cell_far (p:=⟨gb209,_,none⟩) NB208_209.out _).trans (hHeld.2))))))⟩ (fun hHeld=>?_)
      clear hK K
      refine done_ (done_of HT_.out (by kernel_rfl)) ?_
      try go_wp2
      refine bodyPost_ret (results_cell_row rfl _ _ gb209 46 #[.bool true,.slice Ao22 y211.length co22,.slice Ao21 y214.length co21] (0,0) _ rfl (by (with_reducible repeat (first|refine blk_drewN ?_ _|refine blk_drew ?_|refine blk_alloc ?_ _));refine blk_put (cs:=#[.bool true,.slice Ao22 y211.length co22,.slice none 0 0]) ?_ 2 _ rfl;(with_reducible repeat (first|refine blk_drewN ?_ _|refine blk_drew ?_|refine blk_alloc ?_ _));refine blk_put (cs:=#[.bool true,.slice none 0 0,.slice none 0 0]) ?_ 1 _ rfl;(with_reducible repeat (first|refine blk_drewN ?_ _|refine blk_drew ?_|refine blk_alloc ?_ _));refine blk_put (cs:=#[.bool false,.slice none 0 0,.slice none 0 0]) ?_ 0 _ rfl;(with_reducible repeat (first|refine blk_drewN ?_ _|refine blk_drew ?_|refine blk_alloc ?_ _));exact BK209.out) Try.underlying46 rfl (by kernel_rfl)) rfl ?_
      exact ⟨_,_,by first|rfl|(simp [errW_none,errW_some] <;> rfl)|(simp [*,errW_none,errW_some] <;> rfl),by (with_reducible repeat (first|apply Kd.R_alloc|apply Kd.R_drewN|apply Kd.R_drew));exact Kd.R_mono (Kd.R_far (p:=⟨gb209,2,none⟩) (Kd.R_far (p:=⟨gb209,1,none⟩) (Kd.R_far (p:=⟨gb209,0,none⟩) (Kd.R_types HO213.out BK209.out (by decide)) (fun _ hk=>hk.2) (.bool true)) (fun _ hk=>hk.2) (.slice Ao22 y211.length co22)) (fun _ hk=>hk.2) (.slice Ao21 y214.length co21)) (fun _ hk=>trivial),by (with_reducible repeat (first|apply Kd.R_alloc|apply Kd.R_drewN|apply Kd.R_drew));exact Kd.R_mono (Kd.R_far (p:=⟨gb209,2,none⟩) (Kd.R_far (p:=⟨gb209,1,none⟩) (Kd.R_far (p:=⟨gb209,0,none⟩) (Kd.R_types HO216.out BK209.out (by decide)) (fun _ hk=>hk.2) (.bool true)) (fun _ hk=>hk.2) (.slice Ao22 y211.length co22)) (fun _ hk=>hk.2) (.slice Ao21 y214.length co21)) (fun _ hk=>trivial),by repeat (first|(with_reducible first|exact HB.out|apply below_alloc|apply pw_below_drewN|apply below_drew1|refine below_set ?_ GE208.out|refine below_set ?_ GE209.out)|exact HB.out)⟩
     ·rw [if_neg c7] at H
      exact absurd H (by simp)
    ·rw [if_neg c6] at H
     exact absurd H (by simp)
   ·rw [if_neg c5] at H
    exact absurd H (by simp)
  ·rw [if_neg c4] at H
   exact absurd H (by simp)
 ·rw [if_neg c3] at H
  have c3b0 : (t210 == 0) = false:=beq_eq_false_iff_ne.mpr c3
  have c3b1 : (t210 != 0) = true:=bne_iff_ne.mpr c3
  simp only [Option.some.injEq,Prod.mk.injEq] at H
  obtain ⟨rfl,rfl,rfl⟩:=H
  go_enter Try.func43,Try.ntmps43
  go_wp2_with (first|((with_reducible refine gate_dst (N:=1) rfl ?_);refine box_event ?hg (N:=1) ?hd (cs:=#[.int .i64 a0_0,.slice A0_1 l0_1.length c0_1]) (t:=30) ?hr ?_;(case hd=>rfl);(case hg=>rfl);(case hr=>first|(go_simp;done)|(go_simp;rfl));intro gb208 hg w26 hbox hb;have n0_:=Aside0.mk (below_step (by repeat (first|(with_reducible first|exact HB.out|apply below_alloc|apply pw_below_drewN|apply below_drew1)|exact HB.out)) hb);have n1_:=Aside0.mk (hbox);have n2_:=Aside0.mk ((by rw [hg];exact (below_size (by repeat (first|(with_reducible first|exact HB.out|apply below_alloc|apply pw_below_drewN|apply below_drew1)|exact HB.out))) : w.heap.size ≤ gb208));have n3_:=Aside0.mk ((by rw [hg];exact (below_size (by repeat (first|(with_reducible first|exact HB.out|apply below_alloc|apply pw_below_drewN|apply below_drew1)|exact HB.out))) : w.heap.size ≤ gb208));clear HB;have HB:=n0_;have BK208:=n1_;have GW208:=n2_;have GE208:=n3_;clear n0_ n1_ n2_ n3_;clear hb hbox hg)|((with_reducible refine gate_dst (N:=2) rfl ?_);refine box_event ?hg (N:=2) ?hd (cs:=#[.bool false,.slice none 0 0,.slice none 0 0]) (t:=46) ?hr ?_;(case hd=>rfl);(case hg=>rfl);(case hr=>first|(go_simp;done)|(go_simp;rfl));intro gb209 hg w27 hbox hb;have n0_:=Aside0.mk (blk_below (g:=gb208) (o:=.cells #[.int .i64 a0_0,.slice A0_1 l0_1.length c0_1] 30 (0,0)) (by (with_reducible repeat (first|refine blk_drewN ?_ _|refine blk_drew ?_|refine blk_alloc ?_ _));exact BK208.out) hb);have n1_:=Aside0.mk (below_step (by repeat (first|(with_reducible first|exact HB.out|apply below_alloc|apply pw_below_drewN|apply below_drew1|refine below_set ?_ GE208.out)|exact HB.out)) hb);have n2_:=Aside0.mk (hbox);have n3_:=Aside0.mk ((by rw [hg];exact (below_size (by repeat (first|(with_reducible first|exact HB.out|apply below_alloc|apply pw_below_drewN|apply below_drew1|refine below_set ?_ GE208.out)|exact HB.out))) : w.heap.size ≤ gb209));have n4_:=Aside0.mk ((by rw [hg];exact (below_size (by repeat (first|(with_reducible first|exact HB.out|apply below_alloc|apply pw_below_drewN|apply below_drew1|refine below_set ?_ GE208.out)|exact HB.out))) : w.heap.size ≤ gb209));have n5_:=Aside0.mk ((by rw [hg];exact Nat.ne_of_lt (blk_lt (g:=gb208) (o:=.cells #[.int .i64 a0_0,.slice A0_1 l0_1.length c0_1] 30 (0,0)) (by (with_reducible repeat (first|refine blk_drewN ?_ _|refine blk_drew ?_|refine blk_alloc ?_ _));exact BK208.out)) : gb208 ≠ gb209));have n6_:=Aside0.mk ((by rw [hg];exact Nat.ne_of_gt (blk_lt (g:=gb208) (o:=.cells #[.int .i64 a0_0,.slice A0_1 l0_1.length c0_1] 30 (0,0)) (by (with_reducible repeat (first|refine blk_drewN ?_ _|refine blk_drew ?_|refine blk_alloc ?_ _));exact BK208.out)) : gb209 ≠ gb208));clear BK208;clear HB;have BK208:=n0_;have HB:=n1_;have BK209:=n2_;have GW209:=n3_;have GE209:=n4_;have NB208_209:=n5_;have NB209_208:=n6_;clear n0_ n1_ n2_ n3_ n4_ n5_ n6_;clear hb hbox hg;have hnb28:=NB208_209.out;have hnc28:=NB209_208.out;have hcz29_0 : w27.cell? ⟨gb208,0,none⟩ = some (.int .i64 a0_0):=(blk_cell BK208.out 0).trans rfl;have hcz29_1 : w27.cell? ⟨gb208,1,none⟩ = some (.slice A0_1 l0_1.length c0_1):=(blk_cell BK208.out 1).trans rfl;have hfz29_0:=blk_frozen BK208.out 0;have hfz29_1:=blk_frozen BK208.out 1)|((with_reducible refine gate_callee (f:=23) rfl ?_);refine goesL_ (some 4) rfl rfl Try.func23 (by kernel_rfl) rfl #[.agg #[.int .i64 a0_0,.slice A0_1 l0_1.length c0_1]] rfl (by (try simp only [List.map_toArray,List.map_cons,List.map_nil]);first|done|rfl|(simp only [List.length_drop,List.length_take];rfl)) ?_;(with_reducible refine (spec_LayoutOk.calls k a0_0 _ _ l0_1 t210 _ ?side1 ?side2 A2.out).mono ?_);(case side1=>repeat (first|exact (Kd.C_below HR0_1.out HB.out)|(with_reducible refine Kd.C_alloc ?_ _)|(with_reducible refine Kd.C_drewN ?_ _)|(with_reducible refine Kd.C_drew ?_)));(case side2=>exact HC0_1.out);rintro e w30 ⟨rfl,hb⟩;refine ⟨_,rfl,?_⟩;have n0_:=Aside0.mk (blk_below (g:=gb208) (o:=.cells #[.int .i64 a0_0,.slice A0_1 l0_1.length c0_1] 30 (0,0)) (by (with_reducible repeat (first|refine blk_drewN ?_ _|refine blk_drew ?_|refine blk_alloc ?_ _));exact BK208.out) hb);have n1_:=Aside0.mk (blk_below (g:=gb209) (o:=.cells #[.bool false,.slice none 0 0,.slice none 0 0] 46 (0,0)) (by (with_reducible repeat (first|refine blk_drewN ?_ _|refine blk_drew ?_|refine blk_alloc ?_ _));exact BK209.out) hb);have n2_:=Aside0.mk (below_step (by repeat (first|(with_reducible first|exact HB.out|apply below_alloc|apply pw_below_drewN|apply below_drew1|refine below_set ?_ GE208.out|refine below_set ?_ GE209.out)|exact HB.out)) hb);clear BK208;clear BK209;clear HB;have BK208:=n0_;have BK209:=n1_;have HB:=n2_;clear n0_ n1_ n2_;(try clear hb);(try clear hb2);(try clear hk);(try clear hi);have hcz31_0 : w30.cell? ⟨gb209,0,none⟩ = some (.bool false):=(blk_cell BK209.out 0).trans rfl;have hcz31_1 : w30.cell? ⟨gb209,1,none⟩ = some (.slice none 0 0):=(blk_cell BK209.out 1).trans rfl;have hcz31_2 : w30.cell? ⟨gb209,2,none⟩ = some (.slice none 0 0):=(blk_cell BK209.out 2).trans rfl;have hfz31_0:=blk_frozen BK209.out 0;have hfz31_1:=blk_frozen BK209.out 1;have hfz31_2:=blk_frozen BK209.out 2))
  refine bodyPost_ret (results_cell_row rfl _ _ gb209 46 #[.bool false,.slice none 0 0,.slice none 0 0] (0,0) _ rfl (by (with_reducible repeat (first|refine blk_drewN ?_ _|refine blk_drew ?_|refine blk_alloc ?_ _));refine blk_put (cs:=#[.bool false,.slice none 0 0,.slice none 0 0]) ?_ 2 _ rfl;(with_reducible repeat (first|refine blk_drewN ?_ _|refine blk_drew ?_|refine blk_alloc ?_ _));refine blk_put (cs:=#[.bool false,.slice none 0 0,.slice none 0 0]) ?_ 1 _ rfl;(with_reducible repeat (first|refine blk_drewN ?_ _|refine blk_drew ?_|refine blk_alloc ?_ _));refine blk_put (cs:=#[.bool false,.slice none 0 0,.slice none 0 0]) ?_ 0 _ rfl;(with_reducible repeat (first|refine blk_drewN ?_ _|refine blk_drew ?_|refine blk_alloc ?_ _));exact BK209.out) Try.underlying46 rfl (by kernel_rfl)) rfl ?_
  exact ⟨_,_,by first|rfl|(simp [errW_none,errW_some] <;> rfl)|(simp [*,errW_none,errW_some] <;> rfl),by first|exact Kd.R_nil _ _ _ _ _|exact Kd.N_nil _ _ _ _ _|exact Kd.V_nil _ _ _ _ _|exact Kd.Q_nil _ _ _ _ _|exact Kd.S_nil _ _ _ _ _,by first|exact Kd.R_nil _ _ _ _ _|exact Kd.N_nil _ _ _ _ _|exact Kd.V_nil _ _ _ _ _|exact Kd.Q_nil _ _ _ _ _|exact Kd.S_nil _ _ _ _ _,by repeat (first|(with_reducible first|exact HB.out|apply below_alloc|apply pw_below_drewN|apply below_drew1|refine below_set ?_ GE208.out|refine below_set ?_ GE209.out)|exact HB.out)⟩
end Go.Proofs.Ytpdnabhpkdchjaa.P
namespace Go.Proofs.Ytpdnabhpkdchjaa.P
open Go.RowKit Go.Proofs.YtpdnabhpkdchjaaW.PrintWords Go.Proofs.YtpdnabhpkdchjaaW.PrintLast Go.Proofs.YtpdnabhpkdchjaaW.PrintMore
attribute [local go_sem] max2_int min2_int max_two min_two max_three min_three max_four min_four
set_option linter.unusedVariables false
set_option linter.unusedSimpArgs false
def impl_Begin.f (a0_0 : Int) (l0_1 : List (S88)) : Option (Bool × (List (S50)) × List Bool):=(impl_LayoutOk.f a0_0 l0_1).bind fun t313=>(if t313 = 0 then (if 0 ≤ a0_0 then (if (a0_0 : Int).toNat ≤ 8796093022208 then (if 0 ≤ (l0_1.length : Int) then (if ((l0_1.length : Int) : Int).toNat ≤ 281474976710656 then (some (true,(List.replicate (a0_0 : Int).toNat z50),(List.replicate ((l0_1.length : Int) : Int).toNat false))) else (none)) else (none)) else (none)) else (none)) else (some (false,([] : List (S50)),([] : List Bool))))
def impl_Begin.T3 : Bool × List (List Nat × List Nat):=(true,[([],[]),([0],[0]),([1,1],[1]),([],[]),([3],[3]),([4],[4]),([5,5],[5]),([2,6],[2,6]),([7,0,1,2,3,4,5,6,7],[7])])
def impl_Begin.B3 : List Nat:=[0,1,3,0,8,24,56,127,255]
theorem impl_Begin.tab3 : rtab .any (opsOf Try.f44 3) = impl_Begin.T3:=by kernel_rfl
theorem impl_Begin.bits3 : waitsOk impl_Begin.T3.2 impl_Begin.B3 = true:=by kernel_rfl
set_option maxHeartbeats 8000000 in
set_option maxRecDepth 100000 in
theorem impl_Begin.calls (a0_0 : Int) (A0_1 : Option Addr) (c0_1 : Nat) (l0_1 : List (S88)) (r1 : Bool) (r2 : List (S50)) (r3 : List Bool) (w : World) (hr0_1 : Kd.C k88 w A0_1 l0_1.length l0_1) (hc0_1 : l0_1.length ≤ c0_1) (h : impl_Begin.f a0_0 l0_1 = some (r1,r2,r3)) :
  Calls Try.prog 44 #[.agg #[.int .i64 a0_0,.slice A0_1 l0_1.length c0_1]] w fun e w'=>∃ v1_ v2_ : Value,e = .returned (.agg #[.bool r1,v1_,v2_])∧Kd.R k50 50 w' w.heap.size (fun _=>True) v1_ r2∧Kd.R Kd.bool 4 w' w.heap.size (fun _=>True) v2_ r3∧Below w.heap.size w w':=by
 have hu30:=Try.underlying30
 have hu46:=Try.underlying46
 have HR0_1:=Aside0.mk hr0_1
 have HC0_1:=Aside0.mk hc0_1
 clear hr0_1 hc0_1
 have HB:=Aside0.mk (Below.refl w.heap.size w)
 have H : ((impl_LayoutOk.f a0_0 l0_1).bind fun t313=>(if t313 = 0 then (if 0 ≤ a0_0 then (if (a0_0 : Int).toNat ≤ 8796093022208 then (if 0 ≤ (l0_1.length : Int) then (if ((l0_1.length : Int) : Int).toNat ≤ 281474976710656 then (some (true,(List.replicate (a0_0 : Int).toNat z50),(List.replicate ((l0_1.length : Int) : Int).toNat false))) else (none)) else (none)) else (none)) else (none)) else (some (false,([] : List (S50)),([] : List Bool))))) = some (r1,r2,r3):=h
 clear h
 replace H:=Option.bind_eq_some_iff.mp H
 obtain ⟨t313,A20,H⟩:=H
 replace H : (if t313 = 0 then (if 0 ≤ a0_0 then (if (a0_0 : Int).toNat ≤ 8796093022208 then (if 0 ≤ (l0_1.length : Int) then (if ((l0_1.length : Int) : Int).toNat ≤ 281474976710656 then (some (true,(List.replicate (a0_0 : Int).toNat z50),(List.replicate ((l0_1.length : Int) : Int).toNat false))) else (none)) else (none)) else (none)) else (none)) else (some (false,([] : List (S50)),([] : List Bool)))) = some (r1,r2,r3):=H
 have A2:=Aside0.mk A20
 clear A20
 by_cases c3 : t313 = 0
 ·rw [if_pos c3] at H
  have c3b0 : (t313 == 0) = true:=beq_iff_eq.mpr c3
  have c3b1 : (t313 != 0) = false:=bne_eq_false_iff_eq.mpr c3
  clear c3
  by_cases c4 : 0 ≤ a0_0
  ·rw [if_pos c4] at H
   have c4b0:=eq_true c4
   have c4b1 : decide (0 ≤ a0_0) = true:=decide_eq_true c4
   clear c4
   by_cases c5 : (a0_0 : Int).toNat ≤ 8796093022208
   ·rw [if_pos c5] at H
    have c5b0:=eq_true c5
    have c5b1 : decide ((a0_0 : Int).toNat ≤ 8796093022208) = true:=decide_eq_true c5
    clear c5
    obtain ⟨y314,hy314⟩ : ∃ y_ : List (S50),y_ = (List.replicate (a0_0 : Int).toNat z50):=⟨_,rfl⟩
    replace H : (if 0 ≤ (l0_1.length : Int) then (if ((l0_1.length : Int) : Int).toNat ≤ 281474976710656 then (some (true,y314,(List.replicate ((l0_1.length : Int) : Int).toNat false))) else (none)) else (none)) = some (r1,r2,r3):=by first|(rw [hy314];with_reducible exact H)|(have H2_:=(Option.bind_some _ _).symm.trans H;rw [hy314];with_reducible exact H2_)|(have H2_:=(Option.bind_some _ _).symm.trans H;with_reducible exact H2_)|with_reducible exact H|(rw [hy314];exact H)|exact H
    have Ny314:=Aside0.mk hy314
    clear hy314
    by_cases c6 : 0 ≤ (l0_1.length : Int)
    ·rw [if_pos c6] at H
     have c6b0:=eq_true c6
     have c6b1 : decide (0 ≤ (l0_1.length : Int)) = true:=decide_eq_true c6
     clear c6
     by_cases c7 : ((l0_1.length : Int) : Int).toNat ≤ 281474976710656
     ·rw [if_pos c7] at H
      have c7b0:=eq_true c7
      have c7b1 : decide (((l0_1.length : Int) : Int).toNat ≤ 281474976710656) = true:=decide_eq_true c7
      clear c7
      obtain ⟨y317,hy317⟩ : ∃ y_ : List Bool,y_ = (List.replicate ((l0_1.length : Int) : Int).toNat false):=⟨_,rfl⟩
      replace H : (some (true,y314,y317)) = some (r1,r2,r3):=by first|(rw [hy317];with_reducible exact H)|(have H2_:=(Option.bind_some _ _).symm.trans H;rw [hy317];with_reducible exact H2_)|(have H2_:=(Option.bind_some _ _).symm.trans H;with_reducible exact H2_)|with_reducible exact H|(rw [hy317];exact H)|exact H
      have Ny317:=Aside0.mk hy317
      clear hy317
      simp only [Option.some.injEq,Prod.mk.injEq] at H
      obtain ⟨rfl,rfl,rfl⟩:=H
      go_enter Try.func44,Try.ntmps44
      try go_wp2_with (first|((with_reducible refine gate_dst (N:=1) rfl ?_);refine box_event ?hg (N:=1) ?hd (cs:=#[.int .i64 a0_0,.slice A0_1 l0_1.length c0_1]) (t:=30) ?hr ?_;(case hd=>rfl);(case hg=>rfl);(case hr=>first|(go_simp;done)|(go_simp;rfl));intro gb311 hg w8 hbox hb;have n0_:=Aside0.mk (below_step (by repeat (first|(with_reducible first|exact HB.out|apply below_alloc|apply pw_below_drewN|apply below_drew1)|exact HB.out)) hb);have n1_:=Aside0.mk (hbox);have n2_:=Aside0.mk ((by rw [hg];exact (below_size (by repeat (first|(with_reducible first|exact HB.out|apply below_alloc|apply pw_below_drewN|apply below_drew1)|exact HB.out))) : w.heap.size ≤ gb311));have n3_:=Aside0.mk ((by rw [hg];exact (below_size (by repeat (first|(with_reducible first|exact HB.out|apply below_alloc|apply pw_below_drewN|apply below_drew1)|exact HB.out))) : w.heap.size ≤ gb311));clear HB;have HB:=n0_;have BK311:=n1_;have GW311:=n2_;have GE311:=n3_;clear n0_ n1_ n2_ n3_;clear hb hbox hg)|((with_reducible refine gate_dst (N:=2) rfl ?_);refine box_event ?hg (N:=2) ?hd (cs:=#[.bool false,.slice none 0 0,.slice none 0 0]) (t:=46) ?hr ?_;(case hd=>rfl);(case hg=>rfl);(case hr=>first|(go_simp;done)|(go_simp;rfl));intro gb312 hg w9 hbox hb;have n0_:=Aside0.mk (blk_below (g:=gb311) (o:=.cells #[.int .i64 a0_0,.slice A0_1 l0_1.length c0_1] 30 (0,0)) (by (with_reducible repeat (first|refine blk_drewN ?_ _|refine blk_drew ?_|refine blk_alloc ?_ _));exact BK311.out) hb);have n1_:=Aside0.mk (below_step (by repeat (first|(with_reducible first|exact HB.out|apply below_alloc|apply pw_below_drewN|apply below_drew1|refine below_set ?_ GE311.out)|exact HB.out)) hb);have n2_:=Aside0.mk (hbox);have n3_:=Aside0.mk ((by rw [hg];exact (below_size (by repeat (first|(with_reducible first|exact HB.out|apply below_alloc|apply pw_below_drewN|apply below_drew1|refine below_set ?_ GE311.out)|exact HB.out))) : w.heap.size ≤ gb312));have n4_:=Aside0.mk ((by rw [hg];exact (below_size (by repeat (first|(with_reducible first|exact HB.out|apply below_alloc|apply pw_below_drewN|apply below_drew1|refine below_set ?_ GE311.out)|exact HB.out))) : w.heap.size ≤ gb312));have n5_:=Aside0.mk ((by rw [hg];exact Nat.ne_of_lt (blk_lt (g:=gb311) (o:=.cells #[.int .i64 a0_0,.slice A0_1 l0_1.length c0_1] 30 (0,0)) (by (with_reducible repeat (first|refine blk_drewN ?_ _|refine blk_drew ?_|refine blk_alloc ?_ _));exact BK311.out)) : gb311 ≠ gb312));have n6_:=Aside0.mk ((by rw [hg];exact Nat.ne_of_gt (blk_lt (g:=gb311) (o:=.cells #[.int .i64 a0_0,.slice A0_1 l0_1.length c0_1] 30 (0,0)) (by (with_reducible repeat (first|refine blk_drewN ?_ _|refine blk_drew ?_|refine blk_alloc ?_ _));exact BK311.out)) : gb312 ≠ gb311));clear BK311;clear HB;have BK311:=n0_;have HB:=n1_;have BK312:=n2_;have GW312:=n3_;have GE312:=n4_;have NB311_312:=n5_;have NB312_311:=n6_;clear n0_ n1_ n2_ n3_ n4_ n5_ n6_;clear hb hbox hg;have hnb10:=NB311_312.out;have hnc10:=NB312_311.out;have hcz11_0 : w9.cell? ⟨gb311,0,none⟩ = some (.int .i64 a0_0):=(blk_cell BK311.out 0).trans rfl;have hcz11_1 : w9.cell? ⟨gb311,1,none⟩ = some (.slice A0_1 l0_1.length c0_1):=(blk_cell BK311.out 1).trans rfl;have hfz11_0:=blk_frozen BK311.out 0;have hfz11_1:=blk_frozen BK311.out 1)|((with_reducible refine gate_callee (f:=25) rfl ?_);refine goesL_ (some 4) rfl rfl Try.func25 (by kernel_rfl) rfl #[.agg #[.int .i64 a0_0,.slice A0_1 l0_1.length c0_1]] rfl (by (try simp only [List.map_toArray,List.map_cons,List.map_nil]);first|done|rfl|(simp only [List.length_drop,List.length_take];rfl)) ?_;(with_reducible refine (impl_LayoutOk.calls a0_0 _ _ l0_1 t313 _ ?side1 ?side2 A2.out).mono ?_);(case side1=>repeat (first|exact (Kd.C_below HR0_1.out HB.out)|(with_reducible refine Kd.C_alloc ?_ _)|(with_reducible refine Kd.C_drewN ?_ _)|(with_reducible refine Kd.C_drew ?_)));(case side2=>exact HC0_1.out);rintro e w12 ⟨rfl,hb⟩;refine ⟨_,rfl,?_⟩;have n0_:=Aside0.mk (blk_below (g:=gb311) (o:=.cells #[.int .i64 a0_0,.slice A0_1 l0_1.length c0_1] 30 (0,0)) (by (with_reducible repeat (first|refine blk_drewN ?_ _|refine blk_drew ?_|refine blk_alloc ?_ _));exact BK311.out) hb);have n1_:=Aside0.mk (blk_below (g:=gb312) (o:=.cells #[.bool false,.slice none 0 0,.slice none 0 0] 46 (0,0)) (by (with_reducible repeat (first|refine blk_drewN ?_ _|refine blk_drew ?_|refine blk_alloc ?_ _));exact BK312.out) hb);have n2_:=Aside0.mk (below_step (by repeat (first|(with_reducible first|exact HB.out|apply below_alloc|apply pw_below_drewN|apply below_drew1|refine below_set ?_ GE311.out|refine below_set ?_ GE312.out)|exact HB.out)) hb);clear BK311;clear BK312;clear HB;have BK311:=n0_;have BK312:=n1_;have HB:=n2_;clear n0_ n1_ n2_;(try clear hb);(try clear hb2);(try clear hk);(try clear hi)))
      have n0_:=Aside0.mk (blk_drew BK311.out)
      have n1_:=Aside0.mk (blk_drew BK312.out)
      have n2_:=Aside0.mk (below_drew1 HB.out)
      clear BK311
      clear BK312
      clear HB
      have BK311:=n0_
      have BK312:=n1_
      have HB:=n2_
      clear n0_ n1_ n2_
      refine start_ (n:=9) (S:=fun w'=>w'.cell? ⟨gb311,0,none⟩ = some (.int .i64 a0_0)∧w'.cell? ⟨gb311,1,none⟩ = some (.slice A0_1 l0_1.length c0_1)) (ds:=[]) #[false,false,false,false,false,false,false,false,false] (by kernel_rfl) rfl rfl ⟨(blk_cell BK311.out 0).trans rfl,(blk_cell BK311.out 1).trans rfl⟩ (fun hHeld=>?_);refine with_tabW impl_Begin.tab3 impl_Begin.bits3 (fun HT_ HW_=>?_)
      generalize w12.drew = w13 at BK311 BK312 HB hHeld ⊢
      refine pure_ (i:=0) (N:=some 7) (v:=?_) (a':=?_) #[true,false,false,false,false,false,false,false,false] rfl rfl (any_of HT_.out (by kernel_rfl)) (fun _ _ _ h=>h) (Or.inl ⟨by rfl,?_⟩) ?_ ?_
      rotate_left
      ·intro w'
       go_simp
       with_reducible rfl
      rotate_left
      ·simp only [Act.put,List.setIfInBounds_toArray,List.set_cons_zero,List.set_cons_succ,i64_w,i32_w]
       rfl
      refine pure_ (i:=3) (N:=some 10) (v:=?_) (a':=?_) #[true,false,false,true,false,false,false,false,false] rfl rfl (any_of HT_.out (by kernel_rfl)) (fun _ _ _ h=>h) (Or.inl ⟨by rfl,?_⟩) ?_ ?_
      rotate_left
      ·intro w'
       go_simp
       with_reducible rfl
      rotate_left
      ·simp only [Act.put,List.setIfInBounds_toArray,List.set_cons_zero,List.set_cons_succ,i64_w,i32_w]
       rfl
      refine take_ (i:=1) (N:=some 8) (v:=?_) (a':=?_) #[true,true,false,true,false,false,false,false,false] rfl rfl (take_ofW HT_.out HW_.out (by kernel_rfl)) (fun _ _ _ h=>h) (Or.inl ⟨by rfl,?_⟩) hHeld ?_ ?_
      rotate_left
      ·rintro w' ⟨s0,s1⟩
       go_simp
       with_reducible rfl
      rotate_left
      ·simp only [Act.put,List.setIfInBounds_toArray,List.set_cons_zero,List.set_cons_succ,i64_w,i32_w]
       rfl
      refine take_ (i:=4) (N:=some 11) (v:=?_) (a':=?_) #[true,true,false,true,true,false,false,false,false] rfl rfl (take_ofW HT_.out HW_.out (by kernel_rfl)) (fun _ _ _ h=>h) (Or.inl ⟨by rfl,?_⟩) hHeld ?_ ?_
      rotate_left
      ·rintro w' ⟨s0,s1⟩
       go_simp
       with_reducible rfl
      rotate_left
      ·simp only [Act.put,List.setIfInBounds_toArray,List.set_cons_zero,List.set_cons_succ,i64_w,i32_w]
       rfl
      refine pure_ (i:=5) (N:=some 12) (v:=?_) (a':=?_) #[true,true,false,true,true,true,false,false,false] rfl rfl (any_of HT_.out (by kernel_rfl)) (fun _ _ _ h=>h) (Or.inl ⟨by rfl,?_⟩) ?_ ?_
      rotate_left
      ·intro w'
       go_simp
       with_reducible rfl
      rotate_left
      ·simp only [Act.put,List.setIfInBounds_toArray,List.set_cons_zero,List.set_cons_succ,i64_w,i32_w]
       rfl
      refine join_ (σ:=Value × Value) 2 #[true,true,true,true,true,true,true,false,false] (fun s_=>[(9,s_.1),(13,s_.2)]) (fun s_ w'=>(w'.cell? ⟨gb311,0,none⟩ = some (.int .i64 a0_0)∧w'.cell? ⟨gb311,1,none⟩ = some (.slice A0_1 l0_1.length c0_1))∧(Kd.R k50 50 w' w.heap.size (fun _=>True) s_.1 y314)∧(Kd.R Kd.bool 4 w' w.heap.size (fun _=>True) s_.2 y317)∧(w'.heap[gb311]? = some (.cells #[.int .i64 a0_0,.slice A0_1 l0_1.length c0_1] 30 (0,0)))∧(w'.heap[gb312]? = some (.cells #[.bool false,.slice none 0 0,.slice none 0 0] 46 (0,0)))∧(Below w.heap.size w w')) ?_ ?_
      rotate_left
      ·intro hCont
       refine two_ (i:=2) (j:=6) (Ni:=some 9) (Nj:=some 13) #[true,true,true,true,true,true,false,false,false] #[true,true,false,true,true,true,true,false,false] rfl rfl rfl rfl (two_of HT_.out (by kernel_rfl)) (by decide) (by decide) (fun K hK=>?_) (fun K hK=>?_)
       ·skip
        refine Kd.R_make_step k50 _ 50 (by rfl) (N:=9) rfl 43 _ _ rfl a0_0 rfl rfl Try.underlying43 (.agg #[(.int .i64 0),(.int .i64 0),(.bool false),(.bool false),(.int .i64 0)]) 32 info50 rfl (by decide) (by omega) z50 (ok:=fun _=>True) (okp:=fun _=>True) (k50_mkM _ _ _ z50 ) (fun _ hk=>hk) trivial (of_decide_eq_true (by first|(with_reducible assumption)|assumption)) (Nat.le_trans (Nat.mul_le_mul_right _ (of_decide_eq_true (by first|(with_reducible assumption)|assumption) : a0_0.toNat ≤ 8796093022208)) (by omega)) (Below.refl _ _) (Nat.le_refl _) ?_
        intro v315 w14 ho15 hb hg_ hnew_
        clear hg_ hnew_
        (first|rw [← Ny314.out] at ho15|(simp only [Int.reduceToNat] at ho15;rw [← Ny314.out] at ho15))
        have n0_:=Aside0.mk (Kd.R_lower ho15 (below_size (by repeat (first|(with_reducible first|exact HB.out|apply below_alloc|apply pw_below_drewN|apply below_drew1|refine below_set ?_ GE311.out|refine below_set ?_ GE312.out)|exact HB.out))))
        have n1_:=Aside0.mk (blk_below (g:=gb311) (o:=.cells #[.int .i64 a0_0,.slice A0_1 l0_1.length c0_1] 30 (0,0)) (by (with_reducible repeat (first|refine blk_drewN ?_ _|refine blk_drew ?_|refine blk_alloc ?_ _));exact BK311.out) hb)
        have n2_:=Aside0.mk (blk_below (g:=gb312) (o:=.cells #[.bool false,.slice none 0 0,.slice none 0 0] 46 (0,0)) (by (with_reducible repeat (first|refine blk_drewN ?_ _|refine blk_drew ?_|refine blk_alloc ?_ _));exact BK312.out) hb)
        have n3_:=Aside0.mk (below_step (by repeat (first|(with_reducible first|exact HB.out|apply below_alloc|apply pw_below_drewN|apply below_drew1|refine below_set ?_ GE311.out|refine below_set ?_ GE312.out)|exact HB.out)) hb)
        clear BK311
        clear BK312
        clear HB
        have HO316:=n0_
        have BK311:=n1_
        have BK312:=n2_
        have HB:=n3_
        clear n0_ n1_ n2_ n3_
        clear hb ho15
        refine hK.out _ _ ⟨(blk_cell BK311.out 0).trans rfl,(blk_cell BK311.out 1).trans rfl⟩ (fun hHeld=>?_)
        clear hK K
        refine norm_ (a':=?_) ?_ ?_
        rotate_left
        ·show Act.put _ (some 9) _ = _
         simp only [Act.put,List.setIfInBounds_toArray,List.set_cons_zero,List.set_cons_succ,i64_w,i32_w]
         rfl
        refine one_ (i:=6) (N:=some 13) #[true,true,true,true,true,true,true,false,false] rfl rfl (one_of HT_.out (by kernel_rfl)) (by decide) (fun K hK=>?_)
        refine Kd.R_make_step Kd.bool _ 4 (by rfl) (N:=13) rfl 44 _ _ rfl (l0_1.length : Int) rfl rfl Try.underlying44 (.bool false) 1 info4 rfl (by decide) (by omega) false (ok:=fun _=>True) (okp:=fun _=>True) rfl (fun _ hk=>hk) trivial (of_decide_eq_true (by first|(with_reducible assumption)|assumption)) (Nat.le_trans (Nat.mul_le_mul_right _ (of_decide_eq_true (by first|(with_reducible assumption)|assumption) : (l0_1.length : Int).toNat ≤ 281474976710656)) (by omega)) (Below.refl _ _) (Nat.le_refl _) ?_
        intro v318 w16 ho17 hb hg_ hnew_
        clear hg_ hnew_
        (first|rw [← Ny317.out] at ho17|(simp only [Int.reduceToNat] at ho17;rw [← Ny317.out] at ho17))
        have n0_:=Aside0.mk (Kd.R_below (by (with_reducible repeat (first|apply Kd.R_alloc|apply Kd.R_drewN|apply Kd.R_drew));exact HO316.out) hb)
        have n1_:=Aside0.mk (Kd.R_lower ho17 (below_size (by repeat (first|(with_reducible first|exact HB.out|apply below_alloc|apply pw_below_drewN|apply below_drew1|refine below_set ?_ GE311.out|refine below_set ?_ GE312.out)|exact HB.out))))
        have n2_:=Aside0.mk (blk_below (g:=gb311) (o:=.cells #[.int .i64 a0_0,.slice A0_1 l0_1.length c0_1] 30 (0,0)) (by (with_reducible repeat (first|refine blk_drewN ?_ _|refine blk_drew ?_|refine blk_alloc ?_ _));exact BK311.out) hb)
        have n3_:=Aside0.mk (blk_below (g:=gb312) (o:=.cells #[.bool false,.slice none 0 0,.slice none 0 0] 46 (0,0)) (by (with_reducible repeat (first|refine blk_drewN ?_ _|refine blk_drew ?_|refine blk_alloc ?_ _));exact BK312.out) hb)
        have n4_:=Aside0.mk (below_step (by repeat (first|(with_reducible first|exact HB.out|apply below_alloc|apply pw_below_drewN|apply below_drew1|refine below_set ?_ GE311.out|refine below_set ?_ GE312.out)|exact HB.out)) hb)
        clear HO316
        clear BK311
        clear BK312
        clear HB
        have HO316:=n0_
        have HO319:=n1_
        have BK311:=n2_
        have BK312:=n3_
        have HB:=n4_
        clear n0_ n1_ n2_ n3_ n4_
        clear hb ho17
        obtain ⟨Ao18,co18,eo18⟩:=Kd.R_slice HO319.out
        (first|subst eo18|(injection eo18 with f1_ f2_ f3_;have f4_:=f1_.symm;have f5_:=f3_.symm;clear f1_ f2_ f3_;subst f4_;subst f5_))
        obtain ⟨Ao19,co19,eo19⟩:=Kd.R_slice HO316.out
        (first|subst eo19|(injection eo19 with f1_ f2_ f3_;have f4_:=f1_.symm;have f5_:=f3_.symm;clear f1_ f2_ f3_;subst f4_;subst f5_))
        refine hK.out _ _ ⟨(blk_cell BK311.out 0).trans rfl,(blk_cell BK311.out 1).trans rfl⟩ (fun hHeld=>?_)
        clear hK K
        refine norm_ (a':=?_) ?_ ?_
        rotate_left
        ·show Act.put _ (some 13) _ = _
         simp only [Act.put,List.setIfInBounds_toArray,List.set_cons_zero,List.set_cons_succ,i64_w,i32_w]
         rfl
        exact norm_ (by simp only [putAll,Act.put,List.setIfInBounds_toArray,List.set_cons_zero,List.set_cons_succ]) (hCont (.slice Ao19 y314.length co19,.slice Ao18 y317.length co18) _ ⟨hHeld,(by (with_reducible repeat (first|apply Kd.R_alloc|apply Kd.R_drewN|apply Kd.R_drew));exact HO316.out),(by (with_reducible repeat (first|apply Kd.R_alloc|apply Kd.R_drewN|apply Kd.R_drew));exact HO319.out),(by (with_reducible repeat (first|refine blk_drewN ?_ _|refine blk_drew ?_|refine blk_alloc ?_ _));exact BK311.out),(by (with_reducible repeat (first|refine blk_drewN ?_ _|refine blk_drew ?_|refine blk_alloc ?_ _));exact BK312.out),(by repeat (first|(with_reducible first|exact HB.out|apply below_alloc|apply pw_below_drewN|apply below_drew1|refine below_set ?_ GE311.out|refine below_set ?_ GE312.out)|exact HB.out))⟩)
       ·skip
        refine Kd.R_make_step Kd.bool _ 4 (by rfl) (N:=13) rfl 44 _ _ rfl (l0_1.length : Int) rfl rfl Try.underlying44 (.bool false) 1 info4 rfl (by decide) (by omega) false (ok:=fun _=>True) (okp:=fun _=>True) rfl (fun _ hk=>hk) trivial (of_decide_eq_true (by first|(with_reducible assumption)|assumption)) (Nat.le_trans (Nat.mul_le_mul_right _ (of_decide_eq_true (by first|(with_reducible assumption)|assumption) : (l0_1.length : Int).toNat ≤ 281474976710656)) (by omega)) (Below.refl _ _) (Nat.le_refl _) ?_
        intro v318 w14 ho15 hb hg_ hnew_
        clear hg_ hnew_
        (first|rw [← Ny317.out] at ho15|(simp only [Int.reduceToNat] at ho15;rw [← Ny317.out] at ho15))
        have n0_:=Aside0.mk (Kd.R_lower ho15 (below_size (by repeat (first|(with_reducible first|exact HB.out|apply below_alloc|apply pw_below_drewN|apply below_drew1|refine below_set ?_ GE311.out|refine below_set ?_ GE312.out)|exact HB.out))))
        have n1_:=Aside0.mk (blk_below (g:=gb311) (o:=.cells #[.int .i64 a0_0,.slice A0_1 l0_1.length c0_1] 30 (0,0)) (by (with_reducible repeat (first|refine blk_drewN ?_ _|refine blk_drew ?_|refine blk_alloc ?_ _));exact BK311.out) hb)
        have n2_:=Aside0.mk (blk_below (g:=gb312) (o:=.cells #[.bool false,.slice none 0 0,.slice none 0 0] 46 (0,0)) (by (with_reducible repeat (first|refine blk_drewN ?_ _|refine blk_drew ?_|refine blk_alloc ?_ _));exact BK312.out) hb)
        have n3_:=Aside0.mk (below_step (by repeat (first|(with_reducible first|exact HB.out|apply below_alloc|apply pw_below_drewN|apply below_drew1|refine below_set ?_ GE311.out|refine below_set ?_ GE312.out)|exact HB.out)) hb)
        clear BK311
        clear BK312
        clear HB
        have HO319:=n0_
        have BK311:=n1_
        have BK312:=n2_
        have HB:=n3_
        clear n0_ n1_ n2_ n3_
        clear hb ho15
        refine hK.out _ _ ⟨(blk_cell BK311.out 0).trans rfl,(blk_cell BK311.out 1).trans rfl⟩ (fun hHeld=>?_)
        clear hK K
        refine norm_ (a':=?_) ?_ ?_
        rotate_left
        ·show Act.put _ (some 13) _ = _
         simp only [Act.put,List.setIfInBounds_toArray,List.set_cons_zero,List.set_cons_succ,i64_w,i32_w]
         rfl
        refine one_ (i:=2) (N:=some 9) #[true,true,true,true,true,true,true,false,false] rfl rfl (one_of HT_.out (by kernel_rfl)) (by decide) (fun K hK=>?_)
        refine Kd.R_make_step k50 _ 50 (by rfl) (N:=9) rfl 43 _ _ rfl a0_0 rfl rfl Try.underlying43 (.agg #[(.int .i64 0),(.int .i64 0),(.bool false),(.bool false),(.int .i64 0)]) 32 info50 rfl (by decide) (by omega) z50 (ok:=fun _=>True) (okp:=fun _=>True) (k50_mkM _ _ _ z50 ) (fun _ hk=>hk) trivial (of_decide_eq_true (by first|(with_reducible assumption)|assumption)) (Nat.le_trans (Nat.mul_le_mul_right _ (of_decide_eq_true (by first|(with_reducible assumption)|assumption) : a0_0.toNat ≤ 8796093022208)) (by omega)) (Below.refl _ _) (Nat.le_refl _) ?_
        intro v315 w16 ho17 hb hg_ hnew_
        clear hg_ hnew_
        (first|rw [← Ny314.out] at ho17|(simp only [Int.reduceToNat] at ho17;rw [← Ny314.out] at ho17))
        have n0_:=Aside0.mk (Kd.R_below (by (with_reducible repeat (first|apply Kd.R_alloc|apply Kd.R_drewN|apply Kd.R_drew));exact HO319.out) hb)
        have n1_:=Aside0.mk (Kd.R_lower ho17 (below_size (by repeat (first|(with_reducible first|exact HB.out|apply below_alloc|apply pw_below_drewN|apply below_drew1|refine below_set ?_ GE311.out|refine below_set ?_ GE312.out)|exact HB.out))))
        have n2_:=Aside0.mk (blk_below (g:=gb311) (o:=.cells #[.int .i64 a0_0,.slice A0_1 l0_1.length c0_1] 30 (0,0)) (by (with_reducible repeat (first|refine blk_drewN ?_ _|refine blk_drew ?_|refine blk_alloc ?_ _));exact BK311.out) hb)
        have n3_:=Aside0.mk (blk_below (g:=gb312) (o:=.cells #[.bool false,.slice none 0 0,.slice none 0 0] 46 (0,0)) (by (with_reducible repeat (first|refine blk_drewN ?_ _|refine blk_drew ?_|refine blk_alloc ?_ _));exact BK312.out) hb)
        have n4_:=Aside0.mk (below_step (by repeat (first|(with_reducible first|exact HB.out|apply below_alloc|apply pw_below_drewN|apply below_drew1|refine below_set ?_ GE311.out|refine below_set ?_ GE312.out)|exact HB.out)) hb)
        clear HO319
        clear BK311
        clear BK312
        clear HB
        have HO319:=n0_
        have HO316:=n1_
        have BK311:=n2_
        have BK312:=n3_
        have HB:=n4_
        clear n0_ n1_ n2_ n3_ n4_
        clear hb ho17
        obtain ⟨Ao18,co18,eo18⟩:=Kd.R_slice HO319.out
        (first|subst eo18|(injection eo18 with f1_ f2_ f3_;have f4_:=f1_.symm;have f5_:=f3_.symm;clear f1_ f2_ f3_;subst f4_;subst f5_))
        obtain ⟨Ao19,co19,eo19⟩:=Kd.R_slice HO316.out
        (first|subst eo19|(injection eo19 with f1_ f2_ f3_;have f4_:=f1_.symm;have f5_:=f3_.symm;clear f1_ f2_ f3_;subst f4_;subst f5_))
        refine hK.out _ _ ⟨(blk_cell BK311.out 0).trans rfl,(blk_cell BK311.out 1).trans rfl⟩ (fun hHeld=>?_)
        clear hK K
        refine norm_ (a':=?_) ?_ ?_
        rotate_left
        ·show Act.put _ (some 9) _ = _
         simp only [Act.put,List.setIfInBounds_toArray,List.set_cons_zero,List.set_cons_succ,i64_w,i32_w]
         rfl
        exact norm_ (by simp only [putAll,Act.put,List.setIfInBounds_toArray,List.set_cons_zero,List.set_cons_succ]) (hCont (.slice Ao19 y314.length co19,.slice Ao18 y317.length co18) _ ⟨hHeld,(by (with_reducible repeat (first|apply Kd.R_alloc|apply Kd.R_drewN|apply Kd.R_drew));exact HO316.out),(by (with_reducible repeat (first|apply Kd.R_alloc|apply Kd.R_drewN|apply Kd.R_drew));exact HO319.out),(by (with_reducible repeat (first|refine blk_drewN ?_ _|refine blk_drew ?_|refine blk_alloc ?_ _));exact BK311.out),(by (with_reducible repeat (first|refine blk_drewN ?_ _|refine blk_drew ?_|refine blk_alloc ?_ _));exact BK312.out),(by repeat (first|(with_reducible first|exact HB.out|apply below_alloc|apply pw_below_drewN|apply below_drew1|refine below_set ?_ GE311.out|refine below_set ?_ GE312.out)|exact HB.out))⟩)
      rintro ⟨v315,v318⟩ w20 ⟨hS_,h0_,h1_,h2_,h3_,h4_⟩
      have n0_ : Aside0 (Kd.R k50 50 w20 w.heap.size (fun _=>True) v315 y314):=⟨h0_⟩
      have n1_ : Aside0 (Kd.R Kd.bool 4 w20 w.heap.size (fun _=>True) v318 y317):=⟨h1_⟩
      have n2_ : Aside0 (w20.heap[gb311]? = some (.cells #[.int .i64 a0_0,.slice A0_1 l0_1.length c0_1] 30 (0,0))):=⟨h2_⟩
      have n3_ : Aside0 (w20.heap[gb312]? = some (.cells #[.bool false,.slice none 0 0,.slice none 0 0] 46 (0,0))):=⟨h3_⟩
      have n4_ : Aside0 (Below w.heap.size w w20):=⟨h4_⟩
      clear BK311
      clear BK312
      clear HB
      clear h0_ h1_ h2_ h3_ h4_
      have HO316:=n0_
      have HO319:=n1_
      have BK311:=n2_
      have BK312:=n3_
      have HB:=n4_
      clear n0_ n1_ n2_ n3_ n4_
      have hHeld : w20.cell? ⟨gb311,0,none⟩ = some (.int .i64 a0_0)∧w20.cell? ⟨gb311,1,none⟩ = some (.slice A0_1 l0_1.length c0_1):=hS_
      obtain ⟨Ao21,co21,eo21⟩:=Kd.R_slice HO319.out
      (first|subst eo21|(injection eo21 with f1_ f2_ f3_;have f4_:=f1_.symm;have f5_:=f3_.symm;clear f1_ f2_ f3_;subst f4_;subst f5_))
      obtain ⟨Ao22,co22,eo22⟩:=Kd.R_slice HO316.out
      (first|subst eo22|(injection eo22 with f1_ f2_ f3_;have f4_:=f1_.symm;have f5_:=f3_.symm;clear f1_ f2_ f3_;subst f4_;subst f5_))
      refine norm_ (a':=?_) ?_ ?_
      rotate_left
      ·simp only [putAll,Act.put,List.setIfInBounds_toArray,List.set_cons_zero,List.set_cons_succ]
       rfl
      refine pure_ (i:=7) (N:=some 14) (v:=?_) (a':=?_) #[true,true,true,true,true,true,true,true,false] rfl rfl (any_of HT_.out (by kernel_rfl)) (fun _ _ _ h=>h) (Or.inl ⟨by rfl,?_⟩) ?_ ?_
      rotate_left
      ·intro w'
       go_simp
       with_reducible rfl
      rotate_left
      ·simp only [Act.put,List.setIfInBounds_toArray,List.set_cons_zero,List.set_cons_succ,i64_w,i32_w]
       rfl
      refine one_ (i:=8) (N:=none) #[true,true,true,true,true,true,true,true,true] rfl rfl (one_of HT_.out (by kernel_rfl)) (by decide) (fun K hK=>?_)
      have hs23 : w20.cell? ⟨gb312,0,none⟩ = some (.bool false):=(blk_cell BK312.out 0).trans rfl
      have hfs23:=blk_frozen BK312.out 0
      have hns23_0:=NB311_312.out
      have hms23_0:=NB312_311.out
      have hs24 : w20.cell? ⟨gb312,1,none⟩ = some (.slice none 0 0):=(blk_cell BK312.out 1).trans rfl
      have hfs24:=blk_frozen BK312.out 1
      have hns24_0:=NB311_312.out
      have hms24_0:=NB312_311.out
      have hs25 : w20.cell? ⟨gb312,2,none⟩ = some (.slice none 0 0):=(blk_cell BK312.out 2).trans rfl
      have hfs25:=blk_frozen BK312.out 2
      have hns25_0:=NB311_312.out
      have hms25_0:=NB312_311.out
      refine skip_ (w1:=?_) (by rfl) rfl ?_ ?_
      rotate_left
      ·go_simp
       rfl
      refine hK.out _ _ ⟨((cell_far (p:=⟨gb312,_,none⟩) NB311_312.out _).trans (((cell_far (p:=⟨gb312,_,none⟩) NB311_312.out _).trans (((cell_far (p:=⟨gb312,_,none⟩) NB311_312.out _).trans (hHeld.1)))))),((cell_far (p:=⟨gb312,_,none⟩) NB311_312.out _).trans (((cell_far (p:=⟨gb312,_,none⟩) NB311_312.out _).trans (((cell_far (p:=⟨gb312,_,none⟩) NB311_312.out _).trans (hHeld.2))))))⟩ (fun hHeld=>?_)
      clear hK K
      refine done_ (done_of HT_.out (by kernel_rfl)) ?_
      try go_wp2
      refine bodyPost_ret (results_cell_row rfl _ _ gb312 46 #[.bool true,.slice Ao22 y314.length co22,.slice Ao21 y317.length co21] (0,0) _ rfl (by (with_reducible repeat (first|refine blk_drewN ?_ _|refine blk_drew ?_|refine blk_alloc ?_ _));refine blk_put (cs:=#[.bool true,.slice Ao22 y314.length co22,.slice none 0 0]) ?_ 2 _ rfl;(with_reducible repeat (first|refine blk_drewN ?_ _|refine blk_drew ?_|refine blk_alloc ?_ _));refine blk_put (cs:=#[.bool true,.slice none 0 0,.slice none 0 0]) ?_ 1 _ rfl;(with_reducible repeat (first|refine blk_drewN ?_ _|refine blk_drew ?_|refine blk_alloc ?_ _));refine blk_put (cs:=#[.bool false,.slice none 0 0,.slice none 0 0]) ?_ 0 _ rfl;(with_reducible repeat (first|refine blk_drewN ?_ _|refine blk_drew ?_|refine blk_alloc ?_ _));exact BK312.out) Try.underlying46 rfl (by kernel_rfl)) rfl ?_
      exact ⟨_,_,by first|rfl|(simp [errW_none,errW_some] <;> rfl)|(simp [*,errW_none,errW_some] <;> rfl),by (with_reducible repeat (first|apply Kd.R_alloc|apply Kd.R_drewN|apply Kd.R_drew));exact Kd.R_mono (Kd.R_far (p:=⟨gb312,2,none⟩) (Kd.R_far (p:=⟨gb312,1,none⟩) (Kd.R_far (p:=⟨gb312,0,none⟩) (Kd.R_types HO316.out BK312.out (by decide)) (fun _ hk=>hk.2) (.bool true)) (fun _ hk=>hk.2) (.slice Ao22 y314.length co22)) (fun _ hk=>hk.2) (.slice Ao21 y317.length co21)) (fun _ hk=>trivial),by (with_reducible repeat (first|apply Kd.R_alloc|apply Kd.R_drewN|apply Kd.R_drew));exact Kd.R_mono (Kd.R_far (p:=⟨gb312,2,none⟩) (Kd.R_far (p:=⟨gb312,1,none⟩) (Kd.R_far (p:=⟨gb312,0,none⟩) (Kd.R_types HO319.out BK312.out (by decide)) (fun _ hk=>hk.2) (.bool true)) (fun _ hk=>hk.2) (.slice Ao22 y314.length co22)) (fun _ hk=>hk.2) (.slice Ao21 y317.length co21)) (fun _ hk=>trivial),by repeat (first|(with_reducible first|exact HB.out|apply below_alloc|apply pw_below_drewN|apply below_drew1|refine below_set ?_ GE311.out|refine below_set ?_ GE312.out)|exact HB.out)⟩
     ·rw [if_neg c7] at H
      exact absurd H (by simp)
    ·rw [if_neg c6] at H
     exact absurd H (by simp)
   ·rw [if_neg c5] at H
    exact absurd H (by simp)
  ·rw [if_neg c4] at H
   exact absurd H (by simp)
 ·rw [if_neg c3] at H
  have c3b0 : (t313 == 0) = false:=beq_eq_false_iff_ne.mpr c3
  have c3b1 : (t313 != 0) = true:=bne_iff_ne.mpr c3
  simp only [Option.some.injEq,Prod.mk.injEq] at H
  obtain ⟨rfl,rfl,rfl⟩:=H
  go_enter Try.func44,Try.ntmps44
  go_wp2_with (first|((with_reducible refine gate_dst (N:=1) rfl ?_);refine box_event ?hg (N:=1) ?hd (cs:=#[.int .i64 a0_0,.slice A0_1 l0_1.length c0_1]) (t:=30) ?hr ?_;(case hd=>rfl);(case hg=>rfl);(case hr=>first|(go_simp;done)|(go_simp;rfl));intro gb311 hg w26 hbox hb;have n0_:=Aside0.mk (below_step (by repeat (first|(with_reducible first|exact HB.out|apply below_alloc|apply pw_below_drewN|apply below_drew1)|exact HB.out)) hb);have n1_:=Aside0.mk (hbox);have n2_:=Aside0.mk ((by rw [hg];exact (below_size (by repeat (first|(with_reducible first|exact HB.out|apply below_alloc|apply pw_below_drewN|apply below_drew1)|exact HB.out))) : w.heap.size ≤ gb311));have n3_:=Aside0.mk ((by rw [hg];exact (below_size (by repeat (first|(with_reducible first|exact HB.out|apply below_alloc|apply pw_below_drewN|apply below_drew1)|exact HB.out))) : w.heap.size ≤ gb311));clear HB;have HB:=n0_;have BK311:=n1_;have GW311:=n2_;have GE311:=n3_;clear n0_ n1_ n2_ n3_;clear hb hbox hg)|((with_reducible refine gate_dst (N:=2) rfl ?_);refine box_event ?hg (N:=2) ?hd (cs:=#[.bool false,.slice none 0 0,.slice none 0 0]) (t:=46) ?hr ?_;(case hd=>rfl);(case hg=>rfl);(case hr=>first|(go_simp;done)|(go_simp;rfl));intro gb312 hg w27 hbox hb;have n0_:=Aside0.mk (blk_below (g:=gb311) (o:=.cells #[.int .i64 a0_0,.slice A0_1 l0_1.length c0_1] 30 (0,0)) (by (with_reducible repeat (first|refine blk_drewN ?_ _|refine blk_drew ?_|refine blk_alloc ?_ _));exact BK311.out) hb);have n1_:=Aside0.mk (below_step (by repeat (first|(with_reducible first|exact HB.out|apply below_alloc|apply pw_below_drewN|apply below_drew1|refine below_set ?_ GE311.out)|exact HB.out)) hb);have n2_:=Aside0.mk (hbox);have n3_:=Aside0.mk ((by rw [hg];exact (below_size (by repeat (first|(with_reducible first|exact HB.out|apply below_alloc|apply pw_below_drewN|apply below_drew1|refine below_set ?_ GE311.out)|exact HB.out))) : w.heap.size ≤ gb312));have n4_:=Aside0.mk ((by rw [hg];exact (below_size (by repeat (first|(with_reducible first|exact HB.out|apply below_alloc|apply pw_below_drewN|apply below_drew1|refine below_set ?_ GE311.out)|exact HB.out))) : w.heap.size ≤ gb312));have n5_:=Aside0.mk ((by rw [hg];exact Nat.ne_of_lt (blk_lt (g:=gb311) (o:=.cells #[.int .i64 a0_0,.slice A0_1 l0_1.length c0_1] 30 (0,0)) (by (with_reducible repeat (first|refine blk_drewN ?_ _|refine blk_drew ?_|refine blk_alloc ?_ _));exact BK311.out)) : gb311 ≠ gb312));have n6_:=Aside0.mk ((by rw [hg];exact Nat.ne_of_gt (blk_lt (g:=gb311) (o:=.cells #[.int .i64 a0_0,.slice A0_1 l0_1.length c0_1] 30 (0,0)) (by (with_reducible repeat (first|refine blk_drewN ?_ _|refine blk_drew ?_|refine blk_alloc ?_ _));exact BK311.out)) : gb312 ≠ gb311));clear BK311;clear HB;have BK311:=n0_;have HB:=n1_;have BK312:=n2_;have GW312:=n3_;have GE312:=n4_;have NB311_312:=n5_;have NB312_311:=n6_;clear n0_ n1_ n2_ n3_ n4_ n5_ n6_;clear hb hbox hg;have hnb28:=NB311_312.out;have hnc28:=NB312_311.out;have hcz29_0 : w27.cell? ⟨gb311,0,none⟩ = some (.int .i64 a0_0):=(blk_cell BK311.out 0).trans rfl;have hcz29_1 : w27.cell? ⟨gb311,1,none⟩ = some (.slice A0_1 l0_1.length c0_1):=(blk_cell BK311.out 1).trans rfl;have hfz29_0:=blk_frozen BK311.out 0;have hfz29_1:=blk_frozen BK311.out 1)|((with_reducible refine gate_callee (f:=25) rfl ?_);refine goesL_ (some 4) rfl rfl Try.func25 (by kernel_rfl) rfl #[.agg #[.int .i64 a0_0,.slice A0_1 l0_1.length c0_1]] rfl (by (try simp only [List.map_toArray,List.map_cons,List.map_nil]);first|done|rfl|(simp only [List.length_drop,List.length_take];rfl)) ?_;(with_reducible refine (impl_LayoutOk.calls a0_0 _ _ l0_1 t313 _ ?side1 ?side2 A2.out).mono ?_);(case side1=>repeat (first|exact (Kd.C_below HR0_1.out HB.out)|(with_reducible refine Kd.C_alloc ?_ _)|(with_reducible refine Kd.C_drewN ?_ _)|(with_reducible refine Kd.C_drew ?_)));(case side2=>exact HC0_1.out);rintro e w30 ⟨rfl,hb⟩;refine ⟨_,rfl,?_⟩;have n0_:=Aside0.mk (blk_below (g:=gb311) (o:=.cells #[.int .i64 a0_0,.slice A0_1 l0_1.length c0_1] 30 (0,0)) (by (with_reducible repeat (first|refine blk_drewN ?_ _|refine blk_drew ?_|refine blk_alloc ?_ _));exact BK311.out) hb);have n1_:=Aside0.mk (blk_below (g:=gb312) (o:=.cells #[.bool false,.slice none 0 0,.slice none 0 0] 46 (0,0)) (by (with_reducible repeat (first|refine blk_drewN ?_ _|refine blk_drew ?_|refine blk_alloc ?_ _));exact BK312.out) hb);have n2_:=Aside0.mk (below_step (by repeat (first|(with_reducible first|exact HB.out|apply below_alloc|apply pw_below_drewN|apply below_drew1|refine below_set ?_ GE311.out|refine below_set ?_ GE312.out)|exact HB.out)) hb);clear BK311;clear BK312;clear HB;have BK311:=n0_;have BK312:=n1_;have HB:=n2_;clear n0_ n1_ n2_;(try clear hb);(try clear hb2);(try clear hk);(try clear hi);have hcz31_0 : w30.cell? ⟨gb312,0,none⟩ = some (.bool false):=(blk_cell BK312.out 0).trans rfl;have hcz31_1 : w30.cell? ⟨gb312,1,none⟩ = some (.slice none 0 0):=(blk_cell BK312.out 1).trans rfl;have hcz31_2 : w30.cell? ⟨gb312,2,none⟩ = some (.slice none 0 0):=(blk_cell BK312.out 2).trans rfl;have hfz31_0:=blk_frozen BK312.out 0;have hfz31_1:=blk_frozen BK312.out 1;have hfz31_2:=blk_frozen BK312.out 2))
  refine bodyPost_ret (results_cell_row rfl _ _ gb312 46 #[.bool false,.slice none 0 0,.slice none 0 0] (0,0) _ rfl (by (with_reducible repeat (first|refine blk_drewN ?_ _|refine blk_drew ?_|refine blk_alloc ?_ _));refine blk_put (cs:=#[.bool false,.slice none 0 0,.slice none 0 0]) ?_ 2 _ rfl;(with_reducible repeat (first|refine blk_drewN ?_ _|refine blk_drew ?_|refine blk_alloc ?_ _));refine blk_put (cs:=#[.bool false,.slice none 0 0,.slice none 0 0]) ?_ 1 _ rfl;(with_reducible repeat (first|refine blk_drewN ?_ _|refine blk_drew ?_|refine blk_alloc ?_ _));refine blk_put (cs:=#[.bool false,.slice none 0 0,.slice none 0 0]) ?_ 0 _ rfl;(with_reducible repeat (first|refine blk_drewN ?_ _|refine blk_drew ?_|refine blk_alloc ?_ _));exact BK312.out) Try.underlying46 rfl (by kernel_rfl)) rfl ?_
  exact ⟨_,_,by first|rfl|(simp [errW_none,errW_some] <;> rfl)|(simp [*,errW_none,errW_some] <;> rfl),by first|exact Kd.R_nil _ _ _ _ _|exact Kd.N_nil _ _ _ _ _|exact Kd.V_nil _ _ _ _ _|exact Kd.Q_nil _ _ _ _ _|exact Kd.S_nil _ _ _ _ _,by first|exact Kd.R_nil _ _ _ _ _|exact Kd.N_nil _ _ _ _ _|exact Kd.V_nil _ _ _ _ _|exact Kd.Q_nil _ _ _ _ _|exact Kd.S_nil _ _ _ _ _,by repeat (first|(with_reducible first|exact HB.out|apply below_alloc|apply pw_below_drewN|apply below_drew1|refine below_set ?_ GE311.out|refine below_set ?_ GE312.out)|exact HB.out)⟩
end Go.Proofs.Ytpdnabhpkdchjaa.P
namespace Go.Proofs.Ytpdnabhpkdchjaa.P
open Go.RowKit Go.Proofs.YtpdnabhpkdchjaaW.PrintWords Go.Proofs.YtpdnabhpkdchjaaW.PrintLast Go.Proofs.YtpdnabhpkdchjaaW.PrintMore
attribute [local go_sem] max2_int min2_int max_two min_two max_three min_three max_four min_four
set_option linter.unusedVariables false
set_option linter.unusedSimpArgs false
mutual
def spec_EventOk.j0 : Nat → Int → Bool → Int → List (S88) → Int → Int → Int → Option (Bool)
 | 0,_,_,_,_,_,_,_=>none
 | k + 1,x9,x10,x218000,x218001,x219000,x219001,x219002=>if x10 = true then ((spec_l1in.f x219001 0 (wrap64 ((x218001.length : Int) - 1))).bind fun t220=>(if t220 = true then (if x219002 = 1 then (some true) else (some (x219002 == (-1)))) else (some false))) else (if x9 = 3 then (spec_EventOk.j1 k x9 (x9 == 3) x218000 x218001 x219000 x219001 x219002) else (spec_EventOk.j1 k x9 (x9 == 4) x218000 x218001 x219000 x219001 x219002))
def spec_EventOk.j1 : Nat → Int → Bool → Int → List (S88) → Int → Int → Int → Option (Bool)
 | 0,_,_,_,_,_,_,_=>none
 | k + 1,x9,x30,x218000,x218001,x219000,x219001,x219002=>if x30 = true then ((spec_l1in.f x219001 0 (wrap64 ((x218001.length : Int) - 1))).bind fun t221=>(if t221 = true then (some (x219002 == 0)) else (some false))) else (if x9 = 5 then ((spec_l1in.f x219001 0 (wrap64 (x218000 - 1))).bind fun t222=>(if t222 = true then (some (x219002 == 0)) else (some false))) else (some false))
end
def spec_EventOk.f (k : Nat) (a0_0 : Int) (l0_1 : List (S88)) (a1_0 : Int) (a1_1 : Int) (a1_2 : Int) : Option (Bool):=(spec_LayoutOk.f k a0_0 l0_1).bind fun t219=>(if t219 = 0 then (if a1_0 = 1 then (spec_EventOk.j0 k a1_0 (a1_0 == 1) a0_0 l0_1 a1_0 a1_1 a1_2) else (spec_EventOk.j0 k a1_0 (a1_0 == 2) a0_0 l0_1 a1_0 a1_1 a1_2)) else (some false))
set_option maxHeartbeats 8000000 in
set_option maxRecDepth 100000 in
theorem spec_EventOk.calls (k : Nat) (a0_0 : Int) (A0_1 : Option Addr) (c0_1 : Nat) (l0_1 : List (S88)) (a1_0 : Int) (a1_1 : Int) (a1_2 : Int) (r : Bool) (w : World) (hr0_1 : Kd.C k88 w A0_1 l0_1.length l0_1) (hc0_1 : l0_1.length ≤ c0_1) (h : spec_EventOk.f k a0_0 l0_1 a1_0 a1_1 a1_2 = some r) :
  Calls Try.prog 34 #[.agg #[.int .i64 a0_0,.slice A0_1 l0_1.length c0_1],.agg #[.int .i64 a1_0,.int .i64 a1_1,.int .i64 a1_2]] w fun e w'=>e = .returned (.bool r)∧Below w.heap.size w w':=by
 have hu30:=Try.underlying30
 have hu56:=Try.underlying56
 have HR0_1:=Aside0.mk hr0_1
 have HC0_1:=Aside0.mk hc0_1
 clear hr0_1 hc0_1
 have HB:=Aside0.mk (Below.refl w.heap.size w)
 have H : ((spec_LayoutOk.f k a0_0 l0_1).bind fun t219=>(if t219 = 0 then (if a1_0 = 1 then (spec_EventOk.j0 k a1_0 (a1_0 == 1) a0_0 l0_1 a1_0 a1_1 a1_2) else (spec_EventOk.j0 k a1_0 (a1_0 == 2) a0_0 l0_1 a1_0 a1_1 a1_2)) else (some false))) = some r:=h
 clear h
 replace H:=Option.bind_eq_some_iff.mp H
 obtain ⟨t219,A30,H⟩:=H
 replace H : (if t219 = 0 then (if a1_0 = 1 then (spec_EventOk.j0 k a1_0 (a1_0 == 1) a0_0 l0_1 a1_0 a1_1 a1_2) else (spec_EventOk.j0 k a1_0 (a1_0 == 2) a0_0 l0_1 a1_0 a1_1 a1_2)) else (some false)) = some r:=H
 have A3:=Aside0.mk A30
 clear A30
 by_cases c4 : t219 = 0
 ·rw [if_pos c4] at H
  have c4b0 : (t219 == 0) = true:=beq_iff_eq.mpr c4
  have c4b1 : (t219 != 0) = false:=bne_eq_false_iff_eq.mpr c4
  clear c4
  have HC5:=Aside0.mk H
  clear H
  go_enter Try.func34,Try.ntmps34
  go_upto_if 10 with (first|((with_reducible refine gate_dst (N:=2) rfl ?_);refine box_event ?hg (N:=2) ?hd (cs:=#[.int .i64 a0_0,.slice A0_1 l0_1.length c0_1]) (t:=30) ?hr ?_;(case hd=>rfl);(case hg=>rfl);(case hr=>first|(go_simp;done)|(go_simp;rfl));intro gb217 hg w6 hbox hb;have n0_:=Aside0.mk (below_step (by repeat (first|(with_reducible first|exact HB.out|apply below_alloc|apply pw_below_drewN|apply below_drew1)|exact HB.out)) hb);have n1_:=Aside0.mk (hbox);have n2_:=Aside0.mk ((by rw [hg];exact (below_size (by repeat (first|(with_reducible first|exact HB.out|apply below_alloc|apply pw_below_drewN|apply below_drew1)|exact HB.out))) : w.heap.size ≤ gb217));have n3_:=Aside0.mk ((by rw [hg];exact (below_size (by repeat (first|(with_reducible first|exact HB.out|apply below_alloc|apply pw_below_drewN|apply below_drew1)|exact HB.out))) : w.heap.size ≤ gb217));clear HB;have HB:=n0_;have BK217:=n1_;have GW217:=n2_;have GE217:=n3_;clear n0_ n1_ n2_ n3_;clear hb hbox hg)|((with_reducible refine gate_dst (N:=3) rfl ?_);refine box_event ?hg (N:=3) ?hd (cs:=#[.int .i64 a1_0,.int .i64 a1_1,.int .i64 a1_2]) (t:=56) ?hr ?_;(case hd=>rfl);(case hg=>rfl);(case hr=>first|(go_simp;done)|(go_simp;rfl));intro gb218 hg w7 hbox hb;have n0_:=Aside0.mk (blk_below (g:=gb217) (o:=.cells #[.int .i64 a0_0,.slice A0_1 l0_1.length c0_1] 30 (0,0)) (by (with_reducible repeat (first|refine blk_drewN ?_ _|refine blk_drew ?_|refine blk_alloc ?_ _));exact BK217.out) hb);have n1_:=Aside0.mk (below_step (by repeat (first|(with_reducible first|exact HB.out|apply below_alloc|apply pw_below_drewN|apply below_drew1|refine below_set ?_ GE217.out)|exact HB.out)) hb);have n2_:=Aside0.mk (hbox);have n3_:=Aside0.mk ((by rw [hg];exact (below_size (by repeat (first|(with_reducible first|exact HB.out|apply below_alloc|apply pw_below_drewN|apply below_drew1|refine below_set ?_ GE217.out)|exact HB.out))) : w.heap.size ≤ gb218));have n4_:=Aside0.mk ((by rw [hg];exact (below_size (by repeat (first|(with_reducible first|exact HB.out|apply below_alloc|apply pw_below_drewN|apply below_drew1|refine below_set ?_ GE217.out)|exact HB.out))) : w.heap.size ≤ gb218));have n5_:=Aside0.mk ((by rw [hg];exact Nat.ne_of_lt (blk_lt (g:=gb217) (o:=.cells #[.int .i64 a0_0,.slice A0_1 l0_1.length c0_1] 30 (0,0)) (by (with_reducible repeat (first|refine blk_drewN ?_ _|refine blk_drew ?_|refine blk_alloc ?_ _));exact BK217.out)) : gb217 ≠ gb218));have n6_:=Aside0.mk ((by rw [hg];exact Nat.ne_of_gt (blk_lt (g:=gb217) (o:=.cells #[.int .i64 a0_0,.slice A0_1 l0_1.length c0_1] 30 (0,0)) (by (with_reducible repeat (first|refine blk_drewN ?_ _|refine blk_drew ?_|refine blk_alloc ?_ _));exact BK217.out)) : gb218 ≠ gb217));clear BK217;clear HB;have BK217:=n0_;have HB:=n1_;have BK218:=n2_;have GW218:=n3_;have GE218:=n4_;have NB217_218:=n5_;have NB218_217:=n6_;clear n0_ n1_ n2_ n3_ n4_ n5_ n6_;clear hb hbox hg;have hnb8:=NB217_218.out;have hnc8:=NB218_217.out;have hcz9_0 : w7.cell? ⟨gb217,0,none⟩ = some (.int .i64 a0_0):=(blk_cell BK217.out 0).trans rfl;have hcz9_1 : w7.cell? ⟨gb217,1,none⟩ = some (.slice A0_1 l0_1.length c0_1):=(blk_cell BK217.out 1).trans rfl;have hfz9_0:=blk_frozen BK217.out 0;have hfz9_1:=blk_frozen BK217.out 1)|((with_reducible refine gate_callee (f:=23) rfl ?_);refine goesL_ (some 6) rfl rfl Try.func23 (by kernel_rfl) rfl #[.agg #[.int .i64 a0_0,.slice A0_1 l0_1.length c0_1]] rfl (by (try simp only [List.map_toArray,List.map_cons,List.map_nil]);first|done|rfl|(simp only [List.length_drop,List.length_take];rfl)) ?_;(with_reducible refine (spec_LayoutOk.calls k a0_0 _ _ l0_1 t219 _ ?side1 ?side2 A3.out).mono ?_);(case side1=>repeat (first|exact (Kd.C_below HR0_1.out HB.out)|(with_reducible refine Kd.C_alloc ?_ _)|(with_reducible refine Kd.C_drewN ?_ _)|(with_reducible refine Kd.C_drew ?_)));(case side2=>exact HC0_1.out);rintro e w10 ⟨rfl,hb⟩;refine ⟨_,rfl,?_⟩;have n0_:=Aside0.mk (blk_below (g:=gb217) (o:=.cells #[.int .i64 a0_0,.slice A0_1 l0_1.length c0_1] 30 (0,0)) (by (with_reducible repeat (first|refine blk_drewN ?_ _|refine blk_drew ?_|refine blk_alloc ?_ _));exact BK217.out) hb);have n1_:=Aside0.mk (blk_below (g:=gb218) (o:=.cells #[.int .i64 a1_0,.int .i64 a1_1,.int .i64 a1_2] 56 (0,0)) (by (with_reducible repeat (first|refine blk_drewN ?_ _|refine blk_drew ?_|refine blk_alloc ?_ _));exact BK218.out) hb);have n2_:=Aside0.mk (below_step (by repeat (first|(with_reducible first|exact HB.out|apply below_alloc|apply pw_below_drewN|apply below_drew1|refine below_set ?_ GE217.out|refine below_set ?_ GE218.out)|exact HB.out)) hb);clear BK217;clear BK218;clear HB;have BK217:=n0_;have BK218:=n1_;have HB:=n2_;clear n0_ n1_ n2_;(try clear hb);(try clear hb2);(try clear hk);(try clear hi);have hcz11_0 : w10.cell? ⟨gb218,0,none⟩ = some (.int .i64 a1_0):=(blk_cell BK218.out 0).trans rfl;have hcz11_1 : w10.cell? ⟨gb218,1,none⟩ = some (.int .i64 a1_1):=(blk_cell BK218.out 1).trans rfl;have hcz11_2 : w10.cell? ⟨gb218,2,none⟩ = some (.int .i64 a1_2):=(blk_cell BK218.out 2).trans rfl;have hfz11_0:=blk_frozen BK218.out 0;have hfz11_1:=blk_frozen BK218.out 1;have hfz11_2:=blk_frozen BK218.out 2))
  (try simp only [Act.put,List.setIfInBounds_toArray,List.set_cons_zero,List.set_cons_succ])
  go_cut [10] (fun v10 wc=>∃ (kq : Nat) (x10_4 : Bool),v10 = .bool x10_4∧Aside0 (spec_EventOk.j0 kq a1_0 x10_4 a0_0 l0_1 a1_0 a1_1 a1_2 = some r)∧Aside0 (kq ≤ k)∧Aside0 (wc.heap[gb217]? = some (.cells #[.int .i64 a0_0,(.slice A0_1 l0_1.length c0_1)] 30 (0,0)))∧Aside0 (wc.heap[gb218]? = some (.cells #[.int .i64 a1_0,.int .i64 a1_1,.int .i64 a1_2] 56 (0,0)))∧Aside0 (Below w.heap.size w wc))
  case first =>
   have H:=HC5.out
   clear HC5
   by_cases c12 : a1_0 = 1
   ·rw [if_pos c12] at H
    have c12b0 : (a1_0 == 1) = true:=beq_iff_eq.mpr c12
    have c12b1 : (a1_0 != 1) = false:=bne_eq_false_iff_eq.mpr c12
    clear c12
    (first|rw [c12b0]|(simp only [i64_w,i32_w];rw [c12b0])|skip)
    have H':=Aside0.mk H
    clear H
    go_wp2
    go_meet
    case rel=>exact ⟨_,((a1_0 == 1)),(by first|rfl|(simp;done)|(simp [*];done)),H',⟨by first|omega|exact Nat.le_refl _⟩,⟨by (with_reducible repeat (first|refine blk_drewN ?_ _|refine blk_drew ?_|refine blk_alloc ?_ _));exact BK217.out⟩,⟨by (with_reducible repeat (first|refine blk_drewN ?_ _|refine blk_drew ?_|refine blk_alloc ?_ _));exact BK218.out⟩,⟨by repeat (first|(with_reducible first|exact HB.out|apply below_alloc|apply pw_below_drewN|apply below_drew1|refine below_set ?_ GE217.out|refine below_set ?_ GE218.out)|exact HB.out)⟩⟩
   ·rw [if_neg c12] at H
    have c12b0 : (a1_0 == 1) = false:=beq_eq_false_iff_ne.mpr c12
    have c12b1 : (a1_0 != 1) = true:=bne_iff_ne.mpr c12
    (first|rw [c12b0]|(simp only [i64_w,i32_w];rw [c12b0])|skip)
    have H':=Aside0.mk H
    clear H
    go_wp2
    go_meet
    case rel=>exact ⟨_,((a1_0 == 2)),(by first|rfl|(simp;done)|(simp [*];done)),H',⟨by first|omega|exact Nat.le_refl _⟩,⟨by (with_reducible repeat (first|refine blk_drewN ?_ _|refine blk_drew ?_|refine blk_alloc ?_ _));exact BK217.out⟩,⟨by (with_reducible repeat (first|refine blk_drewN ?_ _|refine blk_drew ?_|refine blk_alloc ?_ _));exact BK218.out⟩,⟨by repeat (first|(with_reducible first|exact HB.out|apply below_alloc|apply pw_below_drewN|apply below_drew1|refine below_set ?_ GE217.out|refine below_set ?_ GE218.out)|exact HB.out)⟩⟩
  case rest =>
   clear HC5
   try clear c1
   try clear c2
   try clear p2
   try clear c3
   try clear c4
   try clear c4b0
   try clear c4b1
   try clear c8
   try clear c12
   try clear c12b0
   try clear c12b1
   try clear hcz11_0
   try clear hcz11_1
   try clear hcz11_2
   try clear hcz9_0
   try clear hcz9_1
   try clear hfz11_0
   try clear hfz11_1
   try clear hfz11_2
   try clear hfz9_0
   try clear hfz9_1
   obtain ⟨kq,x10_4,rfl,HA,HJ4,BK217,BK218,HB⟩:=hcut
   cases kq with
   | zero=>exact absurd HA.out (by simp [spec_EventOk.j0])
   | succ kj4 =>
    have H:=HA.out
    clear HA
    simp only [spec_EventOk.j0] at H
    by_cases c13 : x10_4 = true
    ·subst c13
     have H1 : ((spec_l1in.f a1_1 0 (wrap64 ((l0_1.length : Int) - 1))).bind fun t220=>(if t220 = true then (if a1_2 = 1 then (some true) else (some (a1_2 == (-1)))) else (some false))) = some r:=by rw [if_pos rfl] at H;exact H
     clear H
     have H:=H1
     clear H1
     replace H:=Option.bind_eq_some_iff.mp H
     obtain ⟨t220,A140,H⟩:=H
     replace H : (if t220 = true then (if a1_2 = 1 then (some true) else (some (a1_2 == (-1)))) else (some false)) = some r:=H
     have A14:=Aside0.mk A140
     clear A140
     by_cases c15 : t220 = true
     ·subst c15
      have H1 : (if a1_2 = 1 then (some true) else (some (a1_2 == (-1)))) = some r:=by rw [if_pos rfl] at H;exact H
      clear H
      have H:=H1
      clear H1
      by_cases c16 : a1_2 = 1
      ·rw [if_pos c16] at H
       have c16b0 : (a1_2 == 1) = true:=beq_iff_eq.mpr c16
       have c16b1 : (a1_2 != 1) = false:=bne_eq_false_iff_eq.mpr c16
       clear c16
       obtain rfl:=Option.some.inj H
       have hnb17:=NB218_217.out
       have hnc17:=NB217_218.out
       have hcz18_0 : wc.cell? ⟨gb218,0,none⟩ = some (.int .i64 a1_0):=(blk_cell BK218.out 0).trans rfl
       have hcz18_1 : wc.cell? ⟨gb218,1,none⟩ = some (.int .i64 a1_1):=(blk_cell BK218.out 1).trans rfl
       have hcz18_2 : wc.cell? ⟨gb218,2,none⟩ = some (.int .i64 a1_2):=(blk_cell BK218.out 2).trans rfl
       have hfz18_0:=blk_frozen BK218.out 0
       have hfz18_1:=blk_frozen BK218.out 1
       have hfz18_2:=blk_frozen BK218.out 2
       have hcz19_0 : wc.cell? ⟨gb217,0,none⟩ = some (.int .i64 a0_0):=(blk_cell BK217.out 0).trans rfl
       have hcz19_1 : wc.cell? ⟨gb217,1,none⟩ = some (.slice A0_1 l0_1.length c0_1):=(blk_cell BK217.out 1).trans rfl
       have hfz19_0:=blk_frozen BK217.out 0
       have hfz19_1:=blk_frozen BK217.out 1
       go_wp2_with (first|((with_reducible refine gate_callee (f:=87) rfl ?_);refine goesL_ (some 19) rfl rfl Try.func87 (by kernel_rfl) rfl #[.int .i64 a1_1,.int .i64 0,.int .i64 (wrap64 ((l0_1.length : Int) - 1))] rfl (by (try simp only [List.map_toArray,List.map_cons,List.map_nil]);first|done|rfl|(simp only [List.length_drop,List.length_take];rfl)) ?_;(with_reducible refine (spec_l1in.calls a1_1 0 (wrap64 ((l0_1.length : Int) - 1)) true _ A14.out).mono ?_);rintro e w' ⟨rfl,⟨nd,rfl⟩⟩;refine ⟨_,rfl,?_⟩))
       go_ret
       exact ⟨by first|rfl|(simp [errW_none,errW_some] <;> rfl)|(simp [*,errW_none,errW_some] <;> rfl),by repeat (first|(with_reducible first|exact HB.out|apply below_alloc|apply pw_below_drewN|apply below_drew1|refine below_set ?_ GE217.out|refine below_set ?_ GE218.out)|exact HB.out)⟩
      ·rw [if_neg c16] at H
       have c16b0 : (a1_2 == 1) = false:=beq_eq_false_iff_ne.mpr c16
       have c16b1 : (a1_2 != 1) = true:=bne_iff_ne.mpr c16
       obtain rfl:=Option.some.inj H
       have hnb20:=NB218_217.out
       have hnc20:=NB217_218.out
       have hcz21_0 : wc.cell? ⟨gb218,0,none⟩ = some (.int .i64 a1_0):=(blk_cell BK218.out 0).trans rfl
       have hcz21_1 : wc.cell? ⟨gb218,1,none⟩ = some (.int .i64 a1_1):=(blk_cell BK218.out 1).trans rfl
       have hcz21_2 : wc.cell? ⟨gb218,2,none⟩ = some (.int .i64 a1_2):=(blk_cell BK218.out 2).trans rfl
       have hfz21_0:=blk_frozen BK218.out 0
       have hfz21_1:=blk_frozen BK218.out 1
       have hfz21_2:=blk_frozen BK218.out 2
       have hcz22_0 : wc.cell? ⟨gb217,0,none⟩ = some (.int .i64 a0_0):=(blk_cell BK217.out 0).trans rfl
       have hcz22_1 : wc.cell? ⟨gb217,1,none⟩ = some (.slice A0_1 l0_1.length c0_1):=(blk_cell BK217.out 1).trans rfl
       have hfz22_0:=blk_frozen BK217.out 0
       have hfz22_1:=blk_frozen BK217.out 1
       go_wp2_with (first|((with_reducible refine gate_callee (f:=87) rfl ?_);refine goesL_ (some 19) rfl rfl Try.func87 (by kernel_rfl) rfl #[.int .i64 a1_1,.int .i64 0,.int .i64 (wrap64 ((l0_1.length : Int) - 1))] rfl (by (try simp only [List.map_toArray,List.map_cons,List.map_nil]);first|done|rfl|(simp only [List.length_drop,List.length_take];rfl)) ?_;(with_reducible refine (spec_l1in.calls a1_1 0 (wrap64 ((l0_1.length : Int) - 1)) true _ A14.out).mono ?_);rintro e w' ⟨rfl,⟨nd,rfl⟩⟩;refine ⟨_,rfl,?_⟩))
       go_ret
       exact ⟨by first|rfl|(simp [errW_none,errW_some] <;> rfl)|(simp [*,errW_none,errW_some] <;> rfl),by repeat (first|(with_reducible first|exact HB.out|apply below_alloc|apply pw_below_drewN|apply below_drew1|refine below_set ?_ GE217.out|refine below_set ?_ GE218.out)|exact HB.out)⟩
     ·replace c15:=Bool.eq_false_iff.mpr c15
      subst c15
      have H1 : (some false) = some r:=by rw [if_neg (show ¬ (false = true) by decide)] at H;exact H
      clear H
      have H:=H1
      clear H1
      obtain rfl:=Option.some.inj H
      have hnb23:=NB218_217.out
      have hnc23:=NB217_218.out
      have hcz24_0 : wc.cell? ⟨gb218,0,none⟩ = some (.int .i64 a1_0):=(blk_cell BK218.out 0).trans rfl
      have hcz24_1 : wc.cell? ⟨gb218,1,none⟩ = some (.int .i64 a1_1):=(blk_cell BK218.out 1).trans rfl
      have hcz24_2 : wc.cell? ⟨gb218,2,none⟩ = some (.int .i64 a1_2):=(blk_cell BK218.out 2).trans rfl
      have hfz24_0:=blk_frozen BK218.out 0
      have hfz24_1:=blk_frozen BK218.out 1
      have hfz24_2:=blk_frozen BK218.out 2
      have hcz25_0 : wc.cell? ⟨gb217,0,none⟩ = some (.int .i64 a0_0):=(blk_cell BK217.out 0).trans rfl
      have hcz25_1 : wc.cell? ⟨gb217,1,none⟩ = some (.slice A0_1 l0_1.length c0_1):=(blk_cell BK217.out 1).trans rfl
      have hfz25_0:=blk_frozen BK217.out 0
      have hfz25_1:=blk_frozen BK217.out 1
      go_wp2_with (first|((with_reducible refine gate_callee (f:=87) rfl ?_);refine goesL_ (some 19) rfl rfl Try.func87 (by kernel_rfl) rfl #[.int .i64 a1_1,.int .i64 0,.int .i64 (wrap64 ((l0_1.length : Int) - 1))] rfl (by (try simp only [List.map_toArray,List.map_cons,List.map_nil]);first|done|rfl|(simp only [List.length_drop,List.length_take];rfl)) ?_;(with_reducible refine (spec_l1in.calls a1_1 0 (wrap64 ((l0_1.length : Int) - 1)) false _ A14.out).mono ?_);rintro e w' ⟨rfl,⟨nd,rfl⟩⟩;refine ⟨_,rfl,?_⟩))
      go_ret
      exact ⟨by first|rfl|(simp [errW_none,errW_some] <;> rfl)|(simp [*,errW_none,errW_some] <;> rfl),by repeat (first|(with_reducible first|exact HB.out|apply below_alloc|apply pw_below_drewN|apply below_drew1|refine below_set ?_ GE217.out|refine below_set ?_ GE218.out)|exact HB.out)⟩
    ·replace c13:=Bool.eq_false_iff.mpr c13
     subst c13
     have H1 : (if a1_0 = 3 then (spec_EventOk.j1 kj4 a1_0 (a1_0 == 3) a0_0 l0_1 a1_0 a1_1 a1_2) else (spec_EventOk.j1 kj4 a1_0 (a1_0 == 4) a0_0 l0_1 a1_0 a1_1 a1_2)) = some r:=by rw [if_neg (show ¬ (false = true) by decide)] at H;exact H
     clear H
     have H:=H1
     clear H1
     have HC26:=Aside0.mk H
     clear H
     go_upto_if 30 with (fail)
     go_cut [30] (fun v30 wc=>∃ (kq : Nat) (x30_25 : Bool),v30 = .bool x30_25∧Aside0 (spec_EventOk.j1 kq a1_0 x30_25 a0_0 l0_1 a1_0 a1_1 a1_2 = some r)∧Aside0 (kq ≤ kj4)∧Aside0 (wc.heap[gb217]? = some (.cells #[.int .i64 a0_0,(.slice A0_1 l0_1.length c0_1)] 30 (0,0)))∧Aside0 (wc.heap[gb218]? = some (.cells #[.int .i64 a1_0,.int .i64 a1_1,.int .i64 a1_2] 56 (0,0)))∧Aside0 (Below w.heap.size w wc))
     case first =>
      have H:=HC26.out
      clear HC26
      by_cases c27 : a1_0 = 3
      ·rw [if_pos c27] at H
       have c27b0 : (a1_0 == 3) = true:=beq_iff_eq.mpr c27
       have c27b1 : (a1_0 != 3) = false:=bne_eq_false_iff_eq.mpr c27
       clear c27
       (first|rw [c27b0]|(simp only [i64_w,i32_w];rw [c27b0])|skip)
       have H':=Aside0.mk H
       clear H
       go_wp2
       go_meet
       case rel=>exact ⟨_,((a1_0 == 3)),(by first|rfl|(simp;done)|(simp [*];done)),H',⟨by have:=HJ4.out;first|omega|exact Nat.le_refl _⟩,⟨by (with_reducible repeat (first|refine blk_drewN ?_ _|refine blk_drew ?_|refine blk_alloc ?_ _));exact BK217.out⟩,⟨by (with_reducible repeat (first|refine blk_drewN ?_ _|refine blk_drew ?_|refine blk_alloc ?_ _));exact BK218.out⟩,⟨by repeat (first|(with_reducible first|exact HB.out|apply below_alloc|apply pw_below_drewN|apply below_drew1|refine below_set ?_ GE217.out|refine below_set ?_ GE218.out)|exact HB.out)⟩⟩
      ·rw [if_neg c27] at H
       have c27b0 : (a1_0 == 3) = false:=beq_eq_false_iff_ne.mpr c27
       have c27b1 : (a1_0 != 3) = true:=bne_iff_ne.mpr c27
       (first|rw [c27b0]|(simp only [i64_w,i32_w];rw [c27b0])|skip)
       have H':=Aside0.mk H
       clear H
       go_wp2
       go_meet
       case rel=>exact ⟨_,((a1_0 == 4)),(by first|rfl|(simp;done)|(simp [*];done)),H',⟨by have:=HJ4.out;first|omega|exact Nat.le_refl _⟩,⟨by (with_reducible repeat (first|refine blk_drewN ?_ _|refine blk_drew ?_|refine blk_alloc ?_ _));exact BK217.out⟩,⟨by (with_reducible repeat (first|refine blk_drewN ?_ _|refine blk_drew ?_|refine blk_alloc ?_ _));exact BK218.out⟩,⟨by repeat (first|(with_reducible first|exact HB.out|apply below_alloc|apply pw_below_drewN|apply below_drew1|refine below_set ?_ GE217.out|refine below_set ?_ GE218.out)|exact HB.out)⟩⟩
     case rest =>
      clear HC26
      try clear c1
      try clear c2
      try clear p2
      try clear c3
      try clear c4
      try clear c4b0
      try clear c4b1
      try clear p6
      try clear c8
      try clear c12
      try clear c12b0
      try clear c12b1
      try clear c13
      try clear c15
      try clear c16
      try clear c16b0
      try clear c16b1
      try clear c17
      try clear c20
      try clear c23
      try clear c27
      try clear c27b0
      try clear c27b1
      try clear hcz11_0
      try clear hcz11_1
      try clear hcz11_2
      try clear hcz18_0
      try clear hcz18_1
      try clear hcz18_2
      try clear hcz19_0
      try clear hcz19_1
      try clear hcz21_0
      try clear hcz21_1
      try clear hcz21_2
      try clear hcz22_0
      try clear hcz22_1
      try clear hcz24_0
      try clear hcz24_1
      try clear hcz24_2
      try clear hcz25_0
      try clear hcz25_1
      try clear hcz9_0
      try clear hcz9_1
      try clear hfz11_0
      try clear hfz11_1
      try clear hfz11_2
      try clear hfz18_0
      try clear hfz18_1
      try clear hfz18_2
      try clear hfz19_0
      try clear hfz19_1
      try clear hfz21_0
      try clear hfz21_1
      try clear hfz21_2
      try clear hfz22_0
      try clear hfz22_1
      try clear hfz24_0
      try clear hfz24_1
      try clear hfz24_2
      try clear hfz25_0
      try clear hfz25_1
      try clear hfz9_0
      try clear hfz9_1
      try clear p2
      obtain ⟨kq,x30_25,rfl,HA,HJ25,BK217,BK218,HB⟩:=hcut
      cases kq with
      | zero=>exact absurd HA.out (by simp [spec_EventOk.j1])
      | succ kj25 =>
       have H:=HA.out
       clear HA
       simp only [spec_EventOk.j1] at H
       by_cases c28 : x30_25 = true
       ·subst c28
        have H1 : ((spec_l1in.f a1_1 0 (wrap64 ((l0_1.length : Int) - 1))).bind fun t221=>(if t221 = true then (some (a1_2 == 0)) else (some false))) = some r:=by rw [if_pos rfl] at H;exact H
        clear H
        have H:=H1
        clear H1
        replace H:=Option.bind_eq_some_iff.mp H
        obtain ⟨t221,A290,H⟩:=H
        replace H : (if t221 = true then (some (a1_2 == 0)) else (some false)) = some r:=H
        have A29:=Aside0.mk A290
        clear A290
        by_cases c30 : t221 = true
        ·subst c30
         have H1 : (some (a1_2 == 0)) = some r:=by rw [if_pos rfl] at H;exact H
         clear H
         have H:=H1
         clear H1
         obtain rfl:=Option.some.inj H
         have hnb31:=NB218_217.out
         have hnc31:=NB217_218.out
         have hcz32_0 : wc.cell? ⟨gb218,0,none⟩ = some (.int .i64 a1_0):=(blk_cell BK218.out 0).trans rfl
         have hcz32_1 : wc.cell? ⟨gb218,1,none⟩ = some (.int .i64 a1_1):=(blk_cell BK218.out 1).trans rfl
         have hcz32_2 : wc.cell? ⟨gb218,2,none⟩ = some (.int .i64 a1_2):=(blk_cell BK218.out 2).trans rfl
         have hfz32_0:=blk_frozen BK218.out 0
         have hfz32_1:=blk_frozen BK218.out 1
         have hfz32_2:=blk_frozen BK218.out 2
         have hcz33_0 : wc.cell? ⟨gb217,0,none⟩ = some (.int .i64 a0_0):=(blk_cell BK217.out 0).trans rfl
         have hcz33_1 : wc.cell? ⟨gb217,1,none⟩ = some (.slice A0_1 l0_1.length c0_1):=(blk_cell BK217.out 1).trans rfl
         have hfz33_0:=blk_frozen BK217.out 0
         have hfz33_1:=blk_frozen BK217.out 1
         go_wp2_with (first|((with_reducible refine gate_callee (f:=87) rfl ?_);refine goesL_ (some 39) rfl rfl Try.func87 (by kernel_rfl) rfl #[.int .i64 a1_1,.int .i64 0,.int .i64 (wrap64 ((l0_1.length : Int) - 1))] rfl (by (try simp only [List.map_toArray,List.map_cons,List.map_nil]);first|done|rfl|(simp only [List.length_drop,List.length_take];rfl)) ?_;(with_reducible refine (spec_l1in.calls a1_1 0 (wrap64 ((l0_1.length : Int) - 1)) true _ A29.out).mono ?_);rintro e w' ⟨rfl,⟨nd,rfl⟩⟩;refine ⟨_,rfl,?_⟩))
         go_ret
         exact ⟨by first|rfl|(simp [errW_none,errW_some] <;> rfl)|(simp [*,errW_none,errW_some] <;> rfl),by repeat (first|(with_reducible first|exact HB.out|apply below_alloc|apply pw_below_drewN|apply below_drew1|refine below_set ?_ GE217.out|refine below_set ?_ GE218.out)|exact HB.out)⟩
        ·replace c30:=Bool.eq_false_iff.mpr c30
         subst c30
         have H1 : (some false) = some r:=by rw [if_neg (show ¬ (false = true) by decide)] at H;exact H
         clear H
         have H:=H1
         clear H1
         obtain rfl:=Option.some.inj H
         have hnb34:=NB218_217.out
         have hnc34:=NB217_218.out
         have hcz35_0 : wc.cell? ⟨gb218,0,none⟩ = some (.int .i64 a1_0):=(blk_cell BK218.out 0).trans rfl
         have hcz35_1 : wc.cell? ⟨gb218,1,none⟩ = some (.int .i64 a1_1):=(blk_cell BK218.out 1).trans rfl
         have hcz35_2 : wc.cell? ⟨gb218,2,none⟩ = some (.int .i64 a1_2):=(blk_cell BK218.out 2).trans rfl
         have hfz35_0:=blk_frozen BK218.out 0
         have hfz35_1:=blk_frozen BK218.out 1
         have hfz35_2:=blk_frozen BK218.out 2
         have hcz36_0 : wc.cell? ⟨gb217,0,none⟩ = some (.int .i64 a0_0):=(blk_cell BK217.out 0).trans rfl
         have hcz36_1 : wc.cell? ⟨gb217,1,none⟩ = some (.slice A0_1 l0_1.length c0_1):=(blk_cell BK217.out 1).trans rfl
         have hfz36_0:=blk_frozen BK217.out 0
         have hfz36_1:=blk_frozen BK217.out 1
         go_wp2_with (first|((with_reducible refine gate_callee (f:=87) rfl ?_);refine goesL_ (some 39) rfl rfl Try.func87 (by kernel_rfl) rfl #[.int .i64 a1_1,.int .i64 0,.int .i64 (wrap64 ((l0_1.length : Int) - 1))] rfl (by (try simp only [List.map_toArray,List.map_cons,List.map_nil]);first|done|rfl|(simp only [List.length_drop,List.length_take];rfl)) ?_;(with_reducible refine (spec_l1in.calls a1_1 0 (wrap64 ((l0_1.length : Int) - 1)) false _ A29.out).mono ?_);rintro e w' ⟨rfl,⟨nd,rfl⟩⟩;refine ⟨_,rfl,?_⟩))
         go_ret
         exact ⟨by first|rfl|(simp [errW_none,errW_some] <;> rfl)|(simp [*,errW_none,errW_some] <;> rfl),by repeat (first|(with_reducible first|exact HB.out|apply below_alloc|apply pw_below_drewN|apply below_drew1|refine below_set ?_ GE217.out|refine below_set ?_ GE218.out)|exact HB.out)⟩
       ·replace c28:=Bool.eq_false_iff.mpr c28
        subst c28
        have H1 : (if a1_0 = 5 then ((spec_l1in.f a1_1 0 (wrap64 (a0_0 - 1))).bind fun t222=>(if t222 = true then (some (a1_2 == 0)) else (some false))) else (some false)) = some r:=by rw [if_neg (show ¬ (false = true) by decide)] at H;exact H
        clear H
        have H:=H1
        clear H1
        by_cases c37 : a1_0 = 5
        ·rw [if_pos c37] at H
         have c37b0 : (a1_0 == 5) = true:=beq_iff_eq.mpr c37
         have c37b1 : (a1_0 != 5) = false:=bne_eq_false_iff_eq.mpr c37
         clear c37
         replace H:=Option.bind_eq_some_iff.mp H
         obtain ⟨t222,A380,H⟩:=H
         replace H : (if t222 = true then (some (a1_2 == 0)) else (some false)) = some r:=H
         have A38:=Aside0.mk A380
         clear A380
         by_cases c39 : t222 = true
         ·subst c39
          have H1 : (some (a1_2 == 0)) = some r:=by rw [if_pos rfl] at H;exact H
          clear H
          have H:=H1
          clear H1
          obtain rfl:=Option.some.inj H
          have hnb40:=NB218_217.out
          have hnc40:=NB217_218.out
          have hcz41_0 : wc.cell? ⟨gb218,0,none⟩ = some (.int .i64 a1_0):=(blk_cell BK218.out 0).trans rfl
          have hcz41_1 : wc.cell? ⟨gb218,1,none⟩ = some (.int .i64 a1_1):=(blk_cell BK218.out 1).trans rfl
          have hcz41_2 : wc.cell? ⟨gb218,2,none⟩ = some (.int .i64 a1_2):=(blk_cell BK218.out 2).trans rfl
          have hfz41_0:=blk_frozen BK218.out 0
          have hfz41_1:=blk_frozen BK218.out 1
          have hfz41_2:=blk_frozen BK218.out 2
          have hcz42_0 : wc.cell? ⟨gb217,0,none⟩ = some (.int .i64 a0_0):=(blk_cell BK217.out 0).trans rfl
          have hcz42_1 : wc.cell? ⟨gb217,1,none⟩ = some (.slice A0_1 l0_1.length c0_1):=(blk_cell BK217.out 1).trans rfl
          have hfz42_0:=blk_frozen BK217.out 0
          have hfz42_1:=blk_frozen BK217.out 1
          go_wp2_with (first|((with_reducible refine gate_callee (f:=87) rfl ?_);refine goesL_ (some 52) rfl rfl Try.func87 (by kernel_rfl) rfl #[.int .i64 a1_1,.int .i64 0,.int .i64 (wrap64 (a0_0 - 1))] rfl (by (try simp only [List.map_toArray,List.map_cons,List.map_nil]);first|done|rfl|(simp only [List.length_drop,List.length_take];rfl)) ?_;(with_reducible refine (spec_l1in.calls a1_1 0 (wrap64 (a0_0 - 1)) true _ A38.out).mono ?_);rintro e w' ⟨rfl,⟨nd,rfl⟩⟩;refine ⟨_,rfl,?_⟩))
          go_ret
          exact ⟨by first|rfl|(simp [errW_none,errW_some] <;> rfl)|(simp [*,errW_none,errW_some] <;> rfl),by repeat (first|(with_reducible first|exact HB.out|apply below_alloc|apply pw_below_drewN|apply below_drew1|refine below_set ?_ GE217.out|refine below_set ?_ GE218.out)|exact HB.out)⟩
         ·replace c39:=Bool.eq_false_iff.mpr c39
          subst c39
          have H1 : (some false) = some r:=by rw [if_neg (show ¬ (false = true) by decide)] at H;exact H
          clear H
          have H:=H1
          clear H1
          obtain rfl:=Option.some.inj H
          have hnb43:=NB218_217.out
          have hnc43:=NB217_218.out
          have hcz44_0 : wc.cell? ⟨gb218,0,none⟩ = some (.int .i64 a1_0):=(blk_cell BK218.out 0).trans rfl
          have hcz44_1 : wc.cell? ⟨gb218,1,none⟩ = some (.int .i64 a1_1):=(blk_cell BK218.out 1).trans rfl
          have hcz44_2 : wc.cell? ⟨gb218,2,none⟩ = some (.int .i64 a1_2):=(blk_cell BK218.out 2).trans rfl
          have hfz44_0:=blk_frozen BK218.out 0
          have hfz44_1:=blk_frozen BK218.out 1
          have hfz44_2:=blk_frozen BK218.out 2
          have hcz45_0 : wc.cell? ⟨gb217,0,none⟩ = some (.int .i64 a0_0):=(blk_cell BK217.out 0).trans rfl
          have hcz45_1 : wc.cell? ⟨gb217,1,none⟩ = some (.slice A0_1 l0_1.length c0_1):=(blk_cell BK217.out 1).trans rfl
          have hfz45_0:=blk_frozen BK217.out 0
          have hfz45_1:=blk_frozen BK217.out 1
          go_wp2_with (first|((with_reducible refine gate_callee (f:=87) rfl ?_);refine goesL_ (some 52) rfl rfl Try.func87 (by kernel_rfl) rfl #[.int .i64 a1_1,.int .i64 0,.int .i64 (wrap64 (a0_0 - 1))] rfl (by (try simp only [List.map_toArray,List.map_cons,List.map_nil]);first|done|rfl|(simp only [List.length_drop,List.length_take];rfl)) ?_;(with_reducible refine (spec_l1in.calls a1_1 0 (wrap64 (a0_0 - 1)) false _ A38.out).mono ?_);rintro e w' ⟨rfl,⟨nd,rfl⟩⟩;refine ⟨_,rfl,?_⟩))
          go_ret
          exact ⟨by first|rfl|(simp [errW_none,errW_some] <;> rfl)|(simp [*,errW_none,errW_some] <;> rfl),by repeat (first|(with_reducible first|exact HB.out|apply below_alloc|apply pw_below_drewN|apply below_drew1|refine below_set ?_ GE217.out|refine below_set ?_ GE218.out)|exact HB.out)⟩
        ·rw [if_neg c37] at H
         have c37b0 : (a1_0 == 5) = false:=beq_eq_false_iff_ne.mpr c37
         have c37b1 : (a1_0 != 5) = true:=bne_iff_ne.mpr c37
         obtain rfl:=Option.some.inj H
         go_wp2
         go_ret
         exact ⟨by first|rfl|(simp [errW_none,errW_some] <;> rfl)|(simp [*,errW_none,errW_some] <;> rfl),by repeat (first|(with_reducible first|exact HB.out|apply below_alloc|apply pw_below_drewN|apply below_drew1|refine below_set ?_ GE217.out|refine below_set ?_ GE218.out)|exact HB.out)⟩
 ·rw [if_neg c4] at H
  have c4b0 : (t219 == 0) = false:=beq_eq_false_iff_ne.mpr c4
  have c4b1 : (t219 != 0) = true:=bne_iff_ne.mpr c4
  obtain rfl:=Option.some.inj H
  go_enter Try.func34,Try.ntmps34
  go_wp2_with (first|((with_reducible refine gate_dst (N:=2) rfl ?_);refine box_event ?hg (N:=2) ?hd (cs:=#[.int .i64 a0_0,.slice A0_1 l0_1.length c0_1]) (t:=30) ?hr ?_;(case hd=>rfl);(case hg=>rfl);(case hr=>first|(go_simp;done)|(go_simp;rfl));intro gb217 hg w46 hbox hb;have n0_:=Aside0.mk (below_step (by repeat (first|(with_reducible first|exact HB.out|apply below_alloc|apply pw_below_drewN|apply below_drew1)|exact HB.out)) hb);have n1_:=Aside0.mk (hbox);have n2_:=Aside0.mk ((by rw [hg];exact (below_size (by repeat (first|(with_reducible first|exact HB.out|apply below_alloc|apply pw_below_drewN|apply below_drew1)|exact HB.out))) : w.heap.size ≤ gb217));have n3_:=Aside0.mk ((by rw [hg];exact (below_size (by repeat (first|(with_reducible first|exact HB.out|apply below_alloc|apply pw_below_drewN|apply below_drew1)|exact HB.out))) : w.heap.size ≤ gb217));clear HB;have HB:=n0_;have BK217:=n1_;have GW217:=n2_;have GE217:=n3_;clear n0_ n1_ n2_ n3_;clear hb hbox hg)|((with_reducible refine gate_dst (N:=3) rfl ?_);refine box_event ?hg (N:=3) ?hd (cs:=#[.int .i64 a1_0,.int .i64 a1_1,.int .i64 a1_2]) (t:=56) ?hr ?_;(case hd=>rfl);(case hg=>rfl);(case hr=>first|(go_simp;done)|(go_simp;rfl));intro gb218 hg w47 hbox hb;have n0_:=Aside0.mk (blk_below (g:=gb217) (o:=.cells #[.int .i64 a0_0,.slice A0_1 l0_1.length c0_1] 30 (0,0)) (by (with_reducible repeat (first|refine blk_drewN ?_ _|refine blk_drew ?_|refine blk_alloc ?_ _));exact BK217.out) hb);have n1_:=Aside0.mk (below_step (by repeat (first|(with_reducible first|exact HB.out|apply below_alloc|apply pw_below_drewN|apply below_drew1|refine below_set ?_ GE217.out)|exact HB.out)) hb);have n2_:=Aside0.mk (hbox);have n3_:=Aside0.mk ((by rw [hg];exact (below_size (by repeat (first|(with_reducible first|exact HB.out|apply below_alloc|apply pw_below_drewN|apply below_drew1|refine below_set ?_ GE217.out)|exact HB.out))) : w.heap.size ≤ gb218));have n4_:=Aside0.mk ((by rw [hg];exact (below_size (by repeat (first|(with_reducible first|exact HB.out|apply below_alloc|apply pw_below_drewN|apply below_drew1|refine below_set ?_ GE217.out)|exact HB.out))) : w.heap.size ≤ gb218));have n5_:=Aside0.mk ((by rw [hg];exact Nat.ne_of_lt (blk_lt (g:=gb217) (o:=.cells #[.int .i64 a0_0,.slice A0_1 l0_1.length c0_1] 30 (0,0)) (by (with_reducible repeat (first|refine blk_drewN ?_ _|refine blk_drew ?_|refine blk_alloc ?_ _));exact BK217.out)) : gb217 ≠ gb218));have n6_:=Aside0.mk ((by rw [hg];exact Nat.ne_of_gt (blk_lt (g:=gb217) (o:=.cells #[.int .i64 a0_0,.slice A0_1 l0_1.length c0_1] 30 (0,0)) (by (with_reducible repeat (first|refine blk_drewN ?_ _|refine blk_drew ?_|refine blk_alloc ?_ _));exact BK217.out)) : gb218 ≠ gb217));clear BK217;clear HB;have BK217:=n0_;have HB:=n1_;have BK218:=n2_;have GW218:=n3_;have GE218:=n4_;have NB217_218:=n5_;have NB218_217:=n6_;clear n0_ n1_ n2_ n3_ n4_ n5_ n6_;clear hb hbox hg;have hnb48:=NB217_218.out;have hnc48:=NB218_217.out;have hcz49_0 : w47.cell? ⟨gb217,0,none⟩ = some (.int .i64 a0_0):=(blk_cell BK217.out 0).trans rfl;have hcz49_1 : w47.cell? ⟨gb217,1,none⟩ = some (.slice A0_1 l0_1.length c0_1):=(blk_cell BK217.out 1).trans rfl;have hfz49_0:=blk_frozen BK217.out 0;have hfz49_1:=blk_frozen BK217.out 1)|((with_reducible refine gate_callee (f:=23) rfl ?_);refine goesL_ (some 6) rfl rfl Try.func23 (by kernel_rfl) rfl #[.agg #[.int .i64 a0_0,.slice A0_1 l0_1.length c0_1]] rfl (by (try simp only [List.map_toArray,List.map_cons,List.map_nil]);first|done|rfl|(simp only [List.length_drop,List.length_take];rfl)) ?_;(with_reducible refine (spec_LayoutOk.calls k a0_0 _ _ l0_1 t219 _ ?side1 ?side2 A3.out).mono ?_);(case side1=>repeat (first|exact (Kd.C_below HR0_1.out HB.out)|(with_reducible refine Kd.C_alloc ?_ _)|(with_reducible refine Kd.C_drewN ?_ _)|(with_reducible refine Kd.C_drew ?_)));(case side2=>exact HC0_1.out);rintro e w50 ⟨rfl,hb⟩;refine ⟨_,rfl,?_⟩;have n0_:=Aside0.mk (blk_below (g:=gb217) (o:=.cells #[.int .i64 a0_0,.slice A0_1 l0_1.length c0_1] 30 (0,0)) (by (with_reducible repeat (first|refine blk_drewN ?_ _|refine blk_drew ?_|refine blk_alloc ?_ _));exact BK217.out) hb);have n1_:=Aside0.mk (blk_below (g:=gb218) (o:=.cells #[.int .i64 a1_0,.int .i64 a1_1,.int .i64 a1_2] 56 (0,0)) (by (with_reducible repeat (first|refine blk_drewN ?_ _|refine blk_drew ?_|refine blk_alloc ?_ _));exact BK218.out) hb);have n2_:=Aside0.mk (below_step (by repeat (first|(with_reducible first|exact HB.out|apply below_alloc|apply pw_below_drewN|apply below_drew1|refine below_set ?_ GE217.out|refine below_set ?_ GE218.out)|exact HB.out)) hb);clear BK217;clear BK218;clear HB;have BK217:=n0_;have BK218:=n1_;have HB:=n2_;clear n0_ n1_ n2_;(try clear hb);(try clear hb2);(try clear hk);(try clear hi)))
  go_ret
  exact ⟨by first|rfl|(simp [errW_none,errW_some] <;> rfl)|(simp [*,errW_none,errW_some] <;> rfl),by repeat (first|(with_reducible first|exact HB.out|apply below_alloc|apply pw_below_drewN|apply below_drew1|refine below_set ?_ GE217.out|refine below_set ?_ GE218.out)|exact HB.out)⟩
end Go.Proofs.Ytpdnabhpkdchjaa.P
namespace Go.Proofs.Ytpdnabhpkdchjaa.P
open Go.RowKit Go.Proofs.YtpdnabhpkdchjaaW.PrintWords Go.Proofs.YtpdnabhpkdchjaaW.PrintLast Go.Proofs.YtpdnabhpkdchjaaW.PrintMore
attribute [local go_sem] max2_int min2_int max_two min_two max_three min_three max_four min_four
set_option linter.unusedVariables false
set_option linter.unusedSimpArgs false
mutual
def impl_EventOk.j0 : Nat → Bool → Int → List (S88) → Int → Int → Int → Option (Bool)
 | 0,_,_,_,_,_,_=>none
 | k + 1,x5,x309000,x309001,x310000,x310001,x310002=>if x310000 = 1 then (impl_EventOk.j1 k x5 x310000 (x310000 == 1) x309000 x309001 x310000 x310001 x310002) else (impl_EventOk.j1 k x5 x310000 (x310000 == 2) x309000 x309001 x310000 x310001 x310002)
def impl_EventOk.j1 : Nat → Bool → Int → Bool → Int → List (S88) → Int → Int → Int → Option (Bool)
 | 0,_,_,_,_,_,_,_,_=>none
 | k + 1,x5,x21,x22,x309000,x309001,x310000,x310001,x310002=>if x22 = true then (if x5 = true then (if x310002 = 1 then (some true) else (some (x310002 == (-1)))) else (some false)) else (if x21 = 3 then (impl_EventOk.j2 k x5 x21 (x21 == 3) x309000 x309001 x310000 x310001 x310002) else (impl_EventOk.j2 k x5 x21 (x21 == 4) x309000 x309001 x310000 x310001 x310002))
def impl_EventOk.j2 : Nat → Bool → Int → Bool → Int → List (S88) → Int → Int → Int → Option (Bool)
 | 0,_,_,_,_,_,_,_,_=>none
 | k + 1,x5,x21,x36,x309000,x309001,x310000,x310001,x310002=>if x36 = true then (if x5 = true then (some (x310002 == 0)) else (some false)) else (if x21 = 5 then (if x310001 ≥ 0 then (if x310001 < x309000 then (some (x310002 == 0)) else (some false)) else (some false)) else (some false))
end
def impl_EventOk.f (k : Nat) (a0_0 : Int) (l0_1 : List (S88)) (a1_0 : Int) (a1_1 : Int) (a1_2 : Int) : Option (Bool):=(impl_LayoutOk.f a0_0 l0_1).bind fun t310=>(if t310 = 0 then (if a1_1 ≥ 0 then (impl_EventOk.j0 k (decide (a1_1 < (l0_1.length : Int))) a0_0 l0_1 a1_0 a1_1 a1_2) else (impl_EventOk.j0 k false a0_0 l0_1 a1_0 a1_1 a1_2)) else (some false))
set_option maxHeartbeats 8000000 in
set_option maxRecDepth 100000 in
theorem impl_EventOk.calls (k : Nat) (a0_0 : Int) (A0_1 : Option Addr) (c0_1 : Nat) (l0_1 : List (S88)) (a1_0 : Int) (a1_1 : Int) (a1_2 : Int) (r : Bool) (w : World) (hr0_1 : Kd.C k88 w A0_1 l0_1.length l0_1) (hc0_1 : l0_1.length ≤ c0_1) (h : impl_EventOk.f k a0_0 l0_1 a1_0 a1_1 a1_2 = some r) :
  Calls Try.prog 36 #[.agg #[.int .i64 a0_0,.slice A0_1 l0_1.length c0_1],.agg #[.int .i64 a1_0,.int .i64 a1_1,.int .i64 a1_2]] w fun e w'=>e = .returned (.bool r)∧Below w.heap.size w w':=by
 have hu30:=Try.underlying30
 have hu56:=Try.underlying56
 have HR0_1:=Aside0.mk hr0_1
 have HC0_1:=Aside0.mk hc0_1
 clear hr0_1 hc0_1
 have HB:=Aside0.mk (Below.refl w.heap.size w)
 have H : ((impl_LayoutOk.f a0_0 l0_1).bind fun t310=>(if t310 = 0 then (if a1_1 ≥ 0 then (impl_EventOk.j0 k (decide (a1_1 < (l0_1.length : Int))) a0_0 l0_1 a1_0 a1_1 a1_2) else (impl_EventOk.j0 k false a0_0 l0_1 a1_0 a1_1 a1_2)) else (some false))) = some r:=h
 clear h
 replace H:=Option.bind_eq_some_iff.mp H
 obtain ⟨t310,A30,H⟩:=H
 replace H : (if t310 = 0 then (if a1_1 ≥ 0 then (impl_EventOk.j0 k (decide (a1_1 < (l0_1.length : Int))) a0_0 l0_1 a1_0 a1_1 a1_2) else (impl_EventOk.j0 k false a0_0 l0_1 a1_0 a1_1 a1_2)) else (some false)) = some r:=H
 have A3:=Aside0.mk A30
 clear A30
 by_cases c4 : t310 = 0
 ·rw [if_pos c4] at H
  have c4b0 : (t310 == 0) = true:=beq_iff_eq.mpr c4
  have c4b1 : (t310 != 0) = false:=bne_eq_false_iff_eq.mpr c4
  clear c4
  have HC5:=Aside0.mk H
  clear H
  go_enter Try.func36,Try.ntmps36
  go_upto_region 3 with (first|((with_reducible refine gate_dst (N:=2) rfl ?_);(try (refine gate_guard (by rfl) ?_;dsimp only));refine box_event ?hg (N:=2) ?hd (cs:=#[.int .i64 a0_0,.slice A0_1 l0_1.length c0_1]) (t:=30) ?hr ?_;(case hd=>rfl);(case hg=>rfl);(case hr=>first|(go_simp;done)|(go_simp;rfl));intro gb308 hg w6 hbox hb;have n0_:=Aside0.mk (below_step (by repeat (first|(with_reducible first|exact HB.out|apply below_alloc|apply pw_below_drewN|apply below_drew1)|exact HB.out)) hb);have n1_:=Aside0.mk (hbox);have n2_:=Aside0.mk ((by rw [hg];exact (below_size (by repeat (first|(with_reducible first|exact HB.out|apply below_alloc|apply pw_below_drewN|apply below_drew1)|exact HB.out))) : w.heap.size ≤ gb308));have n3_:=Aside0.mk ((by rw [hg];exact (below_size (by repeat (first|(with_reducible first|exact HB.out|apply below_alloc|apply pw_below_drewN|apply below_drew1)|exact HB.out))) : w.heap.size ≤ gb308));clear HB;have HB:=n0_;have BK308:=n1_;have GW308:=n2_;have GE308:=n3_;clear n0_ n1_ n2_ n3_;clear hb hbox hg)|((with_reducible refine gate_dst (N:=3) rfl ?_);(try (refine gate_guard (by rfl) ?_;dsimp only));refine box_event ?hg (N:=3) ?hd (cs:=#[.int .i64 a1_0,.int .i64 a1_1,.int .i64 a1_2]) (t:=56) ?hr ?_;(case hd=>rfl);(case hg=>rfl);(case hr=>first|(go_simp;done)|(go_simp;rfl));intro gb309 hg w7 hbox hb;have n0_:=Aside0.mk (blk_below (g:=gb308) (o:=.cells #[.int .i64 a0_0,.slice A0_1 l0_1.length c0_1] 30 (0,0)) (by (with_reducible repeat (first|refine blk_drewN ?_ _|refine blk_drew ?_|refine blk_alloc ?_ _));exact BK308.out) hb);have n1_:=Aside0.mk (below_step (by repeat (first|(with_reducible first|exact HB.out|apply below_alloc|apply pw_below_drewN|apply below_drew1|refine below_set ?_ GE308.out)|exact HB.out)) hb);have n2_:=Aside0.mk (hbox);have n3_:=Aside0.mk ((by rw [hg];exact (below_size (by repeat (first|(with_reducible first|exact HB.out|apply below_alloc|apply pw_below_drewN|apply below_drew1|refine below_set ?_ GE308.out)|exact HB.out))) : w.heap.size ≤ gb309));have n4_:=Aside0.mk ((by rw [hg];exact (below_size (by repeat (first|(with_reducible first|exact HB.out|apply below_alloc|apply pw_below_drewN|apply below_drew1|refine below_set ?_ GE308.out)|exact HB.out))) : w.heap.size ≤ gb309));have n5_:=Aside0.mk ((by rw [hg];exact Nat.ne_of_lt (blk_lt (g:=gb308) (o:=.cells #[.int .i64 a0_0,.slice A0_1 l0_1.length c0_1] 30 (0,0)) (by (with_reducible repeat (first|refine blk_drewN ?_ _|refine blk_drew ?_|refine blk_alloc ?_ _));exact BK308.out)) : gb308 ≠ gb309));have n6_:=Aside0.mk ((by rw [hg];exact Nat.ne_of_gt (blk_lt (g:=gb308) (o:=.cells #[.int .i64 a0_0,.slice A0_1 l0_1.length c0_1] 30 (0,0)) (by (with_reducible repeat (first|refine blk_drewN ?_ _|refine blk_drew ?_|refine blk_alloc ?_ _));exact BK308.out)) : gb309 ≠ gb308));clear BK308;clear HB;have BK308:=n0_;have HB:=n1_;have BK309:=n2_;have GW309:=n3_;have GE309:=n4_;have NB308_309:=n5_;have NB309_308:=n6_;clear n0_ n1_ n2_ n3_ n4_ n5_ n6_;clear hb hbox hg;have hnb8:=NB308_309.out;have hnc8:=NB309_308.out;have hcz9_0 : w7.cell? ⟨gb308,0,none⟩ = some (.int .i64 a0_0):=(blk_cell BK308.out 0).trans rfl;have hcz9_1 : w7.cell? ⟨gb308,1,none⟩ = some (.slice A0_1 l0_1.length c0_1):=(blk_cell BK308.out 1).trans rfl;have hfz9_0:=blk_frozen BK308.out 0;have hfz9_1:=blk_frozen BK308.out 1)|((with_reducible refine gate_callee (f:=25) rfl ?_);refine goesL_ (some 7) rfl rfl Try.func25 (by kernel_rfl) rfl #[.agg #[.int .i64 a0_0,.slice A0_1 l0_1.length c0_1]] rfl (by (try simp only [List.map_toArray,List.map_cons,List.map_nil]);first|done|rfl|(simp only [List.length_drop,List.length_take];rfl)) ?_;(with_reducible refine (impl_LayoutOk.calls a0_0 _ _ l0_1 t310 _ ?side1 ?side2 A3.out).mono ?_);(case side1=>repeat (first|exact (Kd.C_below HR0_1.out HB.out)|(with_reducible refine Kd.C_alloc ?_ _)|(with_reducible refine Kd.C_drewN ?_ _)|(with_reducible refine Kd.C_drew ?_)));(case side2=>exact HC0_1.out);rintro e w10 ⟨rfl,hb⟩;refine ⟨_,rfl,?_⟩;have n0_:=Aside0.mk (blk_below (g:=gb308) (o:=.cells #[.int .i64 a0_0,.slice A0_1 l0_1.length c0_1] 30 (0,0)) (by (with_reducible repeat (first|refine blk_drewN ?_ _|refine blk_drew ?_|refine blk_alloc ?_ _));exact BK308.out) hb);have n1_:=Aside0.mk (blk_below (g:=gb309) (o:=.cells #[.int .i64 a1_0,.int .i64 a1_1,.int .i64 a1_2] 56 (0,0)) (by (with_reducible repeat (first|refine blk_drewN ?_ _|refine blk_drew ?_|refine blk_alloc ?_ _));exact BK309.out) hb);have n2_:=Aside0.mk (below_step (by repeat (first|(with_reducible first|exact HB.out|apply below_alloc|apply pw_below_drewN|apply below_drew1|refine below_set ?_ GE308.out|refine below_set ?_ GE309.out)|exact HB.out)) hb);clear BK308;clear BK309;clear HB;have BK308:=n0_;have BK309:=n1_;have HB:=n2_;clear n0_ n1_ n2_;(try clear hb);(try clear hb2);(try clear hk);(try clear hi)))
  (try simp only [Act.put,List.setIfInBounds_toArray,List.set_cons_zero,List.set_cons_succ])
  go_cut [5] (fun v5 wc=>∃ (kq : Nat) (x5_4 : Bool),v5 = .bool x5_4∧Aside0 (impl_EventOk.j0 kq x5_4 a0_0 l0_1 a1_0 a1_1 a1_2 = some r)∧Aside0 (kq ≤ k)∧Aside0 (wc.heap[gb308]? = some (.cells #[.int .i64 a0_0,(.slice A0_1 l0_1.length c0_1)] 30 (0,0)))∧Aside0 (wc.heap[gb309]? = some (.cells #[.int .i64 a1_0,.int .i64 a1_1,.int .i64 a1_2] 56 (0,0)))∧Aside0 (Below w.heap.size w wc))
  case first =>
   have H:=HC5.out
   clear HC5
   by_cases c11 : a1_1 ≥ 0
   ·rw [if_pos c11] at H
    have c11b0 : decide (0 ≤ a1_1) = true:=decide_eq_true c11
    clear c11
    (first|rw [c11b0]|(simp only [i64_w,i32_w];rw [c11b0])|skip)
    have H':=Aside0.mk H
    clear H
    have hnb12:=NB309_308.out
    have hnc12:=NB308_309.out
    have hcz13_0 : w10.cell? ⟨gb309,0,none⟩ = some (.int .i64 a1_0):=(blk_cell BK309.out 0).trans rfl
    have hcz13_1 : w10.cell? ⟨gb309,1,none⟩ = some (.int .i64 a1_1):=(blk_cell BK309.out 1).trans rfl
    have hcz13_2 : w10.cell? ⟨gb309,2,none⟩ = some (.int .i64 a1_2):=(blk_cell BK309.out 2).trans rfl
    have hfz13_0:=blk_frozen BK309.out 0
    have hfz13_1:=blk_frozen BK309.out 1
    have hfz13_2:=blk_frozen BK309.out 2
    have hcz14_0 : w10.cell? ⟨gb308,0,none⟩ = some (.int .i64 a0_0):=(blk_cell BK308.out 0).trans rfl
    have hcz14_1 : w10.cell? ⟨gb308,1,none⟩ = some (.slice A0_1 l0_1.length c0_1):=(blk_cell BK308.out 1).trans rfl
    have hfz14_0:=blk_frozen BK308.out 0
    have hfz14_1:=blk_frozen BK308.out 1
    go_wp2
    go_meet
    case rel=>exact ⟨_,(decide (a1_1 < (l0_1.length : Int))),(by first|rfl|(simp;done)|(simp [*];done)),H',⟨by first|omega|exact Nat.le_refl _⟩,⟨by (with_reducible repeat (first|refine blk_drewN ?_ _|refine blk_drew ?_|refine blk_alloc ?_ _));exact BK308.out⟩,⟨by (with_reducible repeat (first|refine blk_drewN ?_ _|refine blk_drew ?_|refine blk_alloc ?_ _));exact BK309.out⟩,⟨by repeat (first|(with_reducible first|exact HB.out|apply below_alloc|apply pw_below_drewN|apply below_drew1|refine below_set ?_ GE308.out|refine below_set ?_ GE309.out)|exact HB.out)⟩⟩
   ·rw [if_neg c11] at H
    have c11b0 : decide (0 ≤ a1_1) = false:=decide_eq_false c11
    clear c11
    (first|rw [c11b0]|(simp only [i64_w,i32_w];rw [c11b0])|skip)
    have H':=Aside0.mk H
    clear H
    have hnb15:=NB309_308.out
    have hnc15:=NB308_309.out
    have hcz16_0 : w10.cell? ⟨gb309,0,none⟩ = some (.int .i64 a1_0):=(blk_cell BK309.out 0).trans rfl
    have hcz16_1 : w10.cell? ⟨gb309,1,none⟩ = some (.int .i64 a1_1):=(blk_cell BK309.out 1).trans rfl
    have hcz16_2 : w10.cell? ⟨gb309,2,none⟩ = some (.int .i64 a1_2):=(blk_cell BK309.out 2).trans rfl
    have hfz16_0:=blk_frozen BK309.out 0
    have hfz16_1:=blk_frozen BK309.out 1
    have hfz16_2:=blk_frozen BK309.out 2
    go_wp2
    go_meet
    case rel=>exact ⟨_,(false),(by first|rfl|(simp;done)|(simp [*];done)),H',⟨by first|omega|exact Nat.le_refl _⟩,⟨by (with_reducible repeat (first|refine blk_drewN ?_ _|refine blk_drew ?_|refine blk_alloc ?_ _));exact BK308.out⟩,⟨by (with_reducible repeat (first|refine blk_drewN ?_ _|refine blk_drew ?_|refine blk_alloc ?_ _));exact BK309.out⟩,⟨by repeat (first|(with_reducible first|exact HB.out|apply below_alloc|apply pw_below_drewN|apply below_drew1|refine below_set ?_ GE308.out|refine below_set ?_ GE309.out)|exact HB.out)⟩⟩
  case rest =>
   clear HC5
   try clear c1
   try clear c2
   try clear p2
   try clear c3
   try clear c4
   try clear c4b0
   try clear c4b1
   try clear c8
   try clear c11
   try clear c11b0
   try clear c12
   try clear c15
   try clear hcz13_0
   try clear hcz13_1
   try clear hcz13_2
   try clear hcz14_0
   try clear hcz14_1
   try clear hcz16_0
   try clear hcz16_1
   try clear hcz16_2
   try clear hcz9_0
   try clear hcz9_1
   try clear hfz13_0
   try clear hfz13_1
   try clear hfz13_2
   try clear hfz14_0
   try clear hfz14_1
   try clear hfz16_0
   try clear hfz16_1
   try clear hfz16_2
   try clear hfz9_0
   try clear hfz9_1
   obtain ⟨kq,x5_4,rfl,HA,HJ4,BK308,BK309,HB⟩:=hcut
   cases kq with
   | zero=>exact absurd HA.out (by simp [impl_EventOk.j0])
   | succ kj4 =>
    have H:=HA.out
    clear HA
    simp only [impl_EventOk.j0] at H
    have HC17:=Aside0.mk H
    clear H
    have hnb18:=NB309_308.out
    have hnc18:=NB308_309.out
    have hcz19_0 : wc.cell? ⟨gb309,0,none⟩ = some (.int .i64 a1_0):=(blk_cell BK309.out 0).trans rfl
    have hcz19_1 : wc.cell? ⟨gb309,1,none⟩ = some (.int .i64 a1_1):=(blk_cell BK309.out 1).trans rfl
    have hcz19_2 : wc.cell? ⟨gb309,2,none⟩ = some (.int .i64 a1_2):=(blk_cell BK309.out 2).trans rfl
    have hfz19_0:=blk_frozen BK309.out 0
    have hfz19_1:=blk_frozen BK309.out 1
    have hfz19_2:=blk_frozen BK309.out 2
    go_upto_if 22 with (fail)
    go_cut [22] (fun v22 wc=>∃ (kq : Nat) (x22_16 : Bool),v22 = .bool x22_16∧Aside0 (impl_EventOk.j1 kq x5_4 a1_0 x22_16 a0_0 l0_1 a1_0 a1_1 a1_2 = some r)∧Aside0 (kq ≤ kj4)∧Aside0 (wc.heap[gb308]? = some (.cells #[.int .i64 a0_0,(.slice A0_1 l0_1.length c0_1)] 30 (0,0)))∧Aside0 (wc.heap[gb309]? = some (.cells #[.int .i64 a1_0,.int .i64 a1_1,.int .i64 a1_2] 56 (0,0)))∧Aside0 (Below w.heap.size w wc))
    case first =>
     have H:=HC17.out
     clear HC17
     by_cases c20 : a1_0 = 1
     ·rw [if_pos c20] at H
      have c20b0 : (a1_0 == 1) = true:=beq_iff_eq.mpr c20
      have c20b1 : (a1_0 != 1) = false:=bne_eq_false_iff_eq.mpr c20
      clear c20
      (first|rw [c20b0]|(simp only [i64_w,i32_w];rw [c20b0])|skip)
      have H':=Aside0.mk H
      clear H
      go_wp2
      go_meet
      case rel=>exact ⟨_,((a1_0 == 1)),(by first|rfl|(simp;done)|(simp [*];done)),H',⟨by have:=HJ4.out;first|omega|exact Nat.le_refl _⟩,⟨by (with_reducible repeat (first|refine blk_drewN ?_ _|refine blk_drew ?_|refine blk_alloc ?_ _));exact BK308.out⟩,⟨by (with_reducible repeat (first|refine blk_drewN ?_ _|refine blk_drew ?_|refine blk_alloc ?_ _));exact BK309.out⟩,⟨by repeat (first|(with_reducible first|exact HB.out|apply below_alloc|apply pw_below_drewN|apply below_drew1|refine below_set ?_ GE308.out|refine below_set ?_ GE309.out)|exact HB.out)⟩⟩
     ·rw [if_neg c20] at H
      have c20b0 : (a1_0 == 1) = false:=beq_eq_false_iff_ne.mpr c20
      have c20b1 : (a1_0 != 1) = true:=bne_iff_ne.mpr c20
      (first|rw [c20b0]|(simp only [i64_w,i32_w];rw [c20b0])|skip)
      have H':=Aside0.mk H
      clear H
      go_wp2
      go_meet
      case rel=>exact ⟨_,((a1_0 == 2)),(by first|rfl|(simp;done)|(simp [*];done)),H',⟨by have:=HJ4.out;first|omega|exact Nat.le_refl _⟩,⟨by (with_reducible repeat (first|refine blk_drewN ?_ _|refine blk_drew ?_|refine blk_alloc ?_ _));exact BK308.out⟩,⟨by (with_reducible repeat (first|refine blk_drewN ?_ _|refine blk_drew ?_|refine blk_alloc ?_ _));exact BK309.out⟩,⟨by repeat (first|(with_reducible first|exact HB.out|apply below_alloc|apply pw_below_drewN|apply below_drew1|refine below_set ?_ GE308.out|refine below_set ?_ GE309.out)|exact HB.out)⟩⟩
    case rest =>
     clear HC17
     try clear c1
     try clear c2
     try clear p2
     try clear c3
     try clear c4
     try clear c4b0
     try clear c4b1
     try clear c8
     try clear c11
     try clear c11b0
     try clear c12
     try clear c15
     try clear c18
     try clear c20
     try clear c20b0
     try clear c20b1
     try clear hcz13_0
     try clear hcz13_1
     try clear hcz13_2
     try clear hcz14_0
     try clear hcz14_1
     try clear hcz16_0
     try clear hcz16_1
     try clear hcz16_2
     try clear hcz19_0
     try clear hcz19_1
     try clear hcz19_2
     try clear hcz9_0
     try clear hcz9_1
     try clear hfz13_0
     try clear hfz13_1
     try clear hfz13_2
     try clear hfz14_0
     try clear hfz14_1
     try clear hfz16_0
     try clear hfz16_1
     try clear hfz16_2
     try clear hfz19_0
     try clear hfz19_1
     try clear hfz19_2
     try clear hfz9_0
     try clear hfz9_1
     try clear p2
     obtain ⟨kq,x22_16,rfl,HA,HJ16,BK308,BK309,HB⟩:=hcut
     cases kq with
     | zero=>exact absurd HA.out (by simp [impl_EventOk.j1])
     | succ kj16 =>
      have H:=HA.out
      clear HA
      simp only [impl_EventOk.j1] at H
      by_cases c21 : x22_16 = true
      ·subst c21
       have H1 : (if x5_4 = true then (if a1_2 = 1 then (some true) else (some (a1_2 == (-1)))) else (some false)) = some r:=by rw [if_pos rfl] at H;exact H
       clear H
       have H:=H1
       clear H1
       by_cases c22 : x5_4 = true
       ·subst c22
        have H1 : (if a1_2 = 1 then (some true) else (some (a1_2 == (-1)))) = some r:=by rw [if_pos rfl] at H;exact H
        clear H
        have H:=H1
        clear H1
        by_cases c23 : a1_2 = 1
        ·rw [if_pos c23] at H
         have c23b0 : (a1_2 == 1) = true:=beq_iff_eq.mpr c23
         have c23b1 : (a1_2 != 1) = false:=bne_eq_false_iff_eq.mpr c23
         clear c23
         obtain rfl:=Option.some.inj H
         have hnb24:=NB309_308.out
         have hnc24:=NB308_309.out
         have hcz25_0 : wc.cell? ⟨gb309,0,none⟩ = some (.int .i64 a1_0):=(blk_cell BK309.out 0).trans rfl
         have hcz25_1 : wc.cell? ⟨gb309,1,none⟩ = some (.int .i64 a1_1):=(blk_cell BK309.out 1).trans rfl
         have hcz25_2 : wc.cell? ⟨gb309,2,none⟩ = some (.int .i64 a1_2):=(blk_cell BK309.out 2).trans rfl
         have hfz25_0:=blk_frozen BK309.out 0
         have hfz25_1:=blk_frozen BK309.out 1
         have hfz25_2:=blk_frozen BK309.out 2
         go_wp2
         go_ret
         exact ⟨by first|rfl|(simp [errW_none,errW_some] <;> rfl)|(simp [*,errW_none,errW_some] <;> rfl),by repeat (first|(with_reducible first|exact HB.out|apply below_alloc|apply pw_below_drewN|apply below_drew1|refine below_set ?_ GE308.out|refine below_set ?_ GE309.out)|exact HB.out)⟩
        ·rw [if_neg c23] at H
         have c23b0 : (a1_2 == 1) = false:=beq_eq_false_iff_ne.mpr c23
         have c23b1 : (a1_2 != 1) = true:=bne_iff_ne.mpr c23
         obtain rfl:=Option.some.inj H
         have hnb26:=NB309_308.out
         have hnc26:=NB308_309.out
         have hcz27_0 : wc.cell? ⟨gb309,0,none⟩ = some (.int .i64 a1_0):=(blk_cell BK309.out 0).trans rfl
         have hcz27_1 : wc.cell? ⟨gb309,1,none⟩ = some (.int .i64 a1_1):=(blk_cell BK309.out 1).trans rfl
         have hcz27_2 : wc.cell? ⟨gb309,2,none⟩ = some (.int .i64 a1_2):=(blk_cell BK309.out 2).trans rfl
         have hfz27_0:=blk_frozen BK309.out 0
         have hfz27_1:=blk_frozen BK309.out 1
         have hfz27_2:=blk_frozen BK309.out 2
         go_wp2
         go_ret
         exact ⟨by first|rfl|(simp [errW_none,errW_some] <;> rfl)|(simp [*,errW_none,errW_some] <;> rfl),by repeat (first|(with_reducible first|exact HB.out|apply below_alloc|apply pw_below_drewN|apply below_drew1|refine below_set ?_ GE308.out|refine below_set ?_ GE309.out)|exact HB.out)⟩
       ·replace c22:=Bool.eq_false_iff.mpr c22
        subst c22
        have H1 : (some false) = some r:=by rw [if_neg (show ¬ (false = true) by decide)] at H;exact H
        clear H
        have H:=H1
        clear H1
        obtain rfl:=Option.some.inj H
        go_wp2
        go_ret
        exact ⟨by first|rfl|(simp [errW_none,errW_some] <;> rfl)|(simp [*,errW_none,errW_some] <;> rfl),by repeat (first|(with_reducible first|exact HB.out|apply below_alloc|apply pw_below_drewN|apply below_drew1|refine below_set ?_ GE308.out|refine below_set ?_ GE309.out)|exact HB.out)⟩
      ·replace c21:=Bool.eq_false_iff.mpr c21
       subst c21
       have H1 : (if a1_0 = 3 then (impl_EventOk.j2 kj16 x5_4 a1_0 (a1_0 == 3) a0_0 l0_1 a1_0 a1_1 a1_2) else (impl_EventOk.j2 kj16 x5_4 a1_0 (a1_0 == 4) a0_0 l0_1 a1_0 a1_1 a1_2)) = some r:=by rw [if_neg (show ¬ (false = true) by decide)] at H;exact H
       clear H
       have H:=H1
       clear H1
       have HC28:=Aside0.mk H
       clear H
       go_upto_if 36 with (fail)
       go_cut [36] (fun v36 wc=>∃ (kq : Nat) (x36_27 : Bool),v36 = .bool x36_27∧Aside0 (impl_EventOk.j2 kq x5_4 a1_0 x36_27 a0_0 l0_1 a1_0 a1_1 a1_2 = some r)∧Aside0 (kq ≤ kj16)∧Aside0 (wc.heap[gb308]? = some (.cells #[.int .i64 a0_0,(.slice A0_1 l0_1.length c0_1)] 30 (0,0)))∧Aside0 (wc.heap[gb309]? = some (.cells #[.int .i64 a1_0,.int .i64 a1_1,.int .i64 a1_2] 56 (0,0)))∧Aside0 (Below w.heap.size w wc))
       case first =>
        have H:=HC28.out
        clear HC28
        by_cases c29 : a1_0 = 3
        ·rw [if_pos c29] at H
         have c29b0 : (a1_0 == 3) = true:=beq_iff_eq.mpr c29
         have c29b1 : (a1_0 != 3) = false:=bne_eq_false_iff_eq.mpr c29
         clear c29
         (first|rw [c29b0]|(simp only [i64_w,i32_w];rw [c29b0])|skip)
         have H':=Aside0.mk H
         clear H
         go_wp2
         go_meet
         case rel=>exact ⟨_,((a1_0 == 3)),(by first|rfl|(simp;done)|(simp [*];done)),H',⟨by have:=HJ4.out;have:=HJ16.out;first|omega|exact Nat.le_refl _⟩,⟨by (with_reducible repeat (first|refine blk_drewN ?_ _|refine blk_drew ?_|refine blk_alloc ?_ _));exact BK308.out⟩,⟨by (with_reducible repeat (first|refine blk_drewN ?_ _|refine blk_drew ?_|refine blk_alloc ?_ _));exact BK309.out⟩,⟨by repeat (first|(with_reducible first|exact HB.out|apply below_alloc|apply pw_below_drewN|apply below_drew1|refine below_set ?_ GE308.out|refine below_set ?_ GE309.out)|exact HB.out)⟩⟩
        ·rw [if_neg c29] at H
         have c29b0 : (a1_0 == 3) = false:=beq_eq_false_iff_ne.mpr c29
         have c29b1 : (a1_0 != 3) = true:=bne_iff_ne.mpr c29
         (first|rw [c29b0]|(simp only [i64_w,i32_w];rw [c29b0])|skip)
         have H':=Aside0.mk H
         clear H
         go_wp2
         go_meet
         case rel=>exact ⟨_,((a1_0 == 4)),(by first|rfl|(simp;done)|(simp [*];done)),H',⟨by have:=HJ4.out;have:=HJ16.out;first|omega|exact Nat.le_refl _⟩,⟨by (with_reducible repeat (first|refine blk_drewN ?_ _|refine blk_drew ?_|refine blk_alloc ?_ _));exact BK308.out⟩,⟨by (with_reducible repeat (first|refine blk_drewN ?_ _|refine blk_drew ?_|refine blk_alloc ?_ _));exact BK309.out⟩,⟨by repeat (first|(with_reducible first|exact HB.out|apply below_alloc|apply pw_below_drewN|apply below_drew1|refine below_set ?_ GE308.out|refine below_set ?_ GE309.out)|exact HB.out)⟩⟩
       case rest =>
        clear HC28
        try clear c1
        try clear c2
        try clear p2
        try clear c3
        try clear c4
        try clear c4b0
        try clear c4b1
        try clear c8
        try clear c11
        try clear c11b0
        try clear c12
        try clear c15
        try clear c18
        try clear c20
        try clear c20b0
        try clear c20b1
        try clear c21
        try clear c22
        try clear c23
        try clear c23b0
        try clear c23b1
        try clear c24
        try clear c25
        try clear c26
        try clear c29
        try clear c29b0
        try clear c29b1
        try clear hcz13_0
        try clear hcz13_1
        try clear hcz13_2
        try clear hcz14_0
        try clear hcz14_1
        try clear hcz16_0
        try clear hcz16_1
        try clear hcz16_2
        try clear hcz19_0
        try clear hcz19_1
        try clear hcz19_2
        try clear hcz25_0
        try clear hcz25_1
        try clear hcz25_2
        try clear hcz27_0
        try clear hcz27_1
        try clear hcz27_2
        try clear hcz9_0
        try clear hcz9_1
        try clear hfz13_0
        try clear hfz13_1
        try clear hfz13_2
        try clear hfz14_0
        try clear hfz14_1
        try clear hfz16_0
        try clear hfz16_1
        try clear hfz16_2
        try clear hfz19_0
        try clear hfz19_1
        try clear hfz19_2
        try clear hfz25_0
        try clear hfz25_1
        try clear hfz25_2
        try clear hfz27_0
        try clear hfz27_1
        try clear hfz27_2
        try clear hfz9_0
        try clear hfz9_1
        try clear p2
        obtain ⟨kq,x36_27,rfl,HA,HJ27,BK308,BK309,HB⟩:=hcut
        cases kq with
        | zero=>exact absurd HA.out (by simp [impl_EventOk.j2])
        | succ kj27 =>
         have H:=HA.out
         clear HA
         simp only [impl_EventOk.j2] at H
         by_cases c30 : x36_27 = true
         ·subst c30
          have H1 : (if x5_4 = true then (some (a1_2 == 0)) else (some false)) = some r:=by rw [if_pos rfl] at H;exact H
          clear H
          have H:=H1
          clear H1
          by_cases c31 : x5_4 = true
          ·subst c31
           have H1 : (some (a1_2 == 0)) = some r:=by rw [if_pos rfl] at H;exact H
           clear H
           have H:=H1
           clear H1
           obtain rfl:=Option.some.inj H
           have hnb32:=NB309_308.out
           have hnc32:=NB308_309.out
           have hcz33_0 : wc.cell? ⟨gb309,0,none⟩ = some (.int .i64 a1_0):=(blk_cell BK309.out 0).trans rfl
           have hcz33_1 : wc.cell? ⟨gb309,1,none⟩ = some (.int .i64 a1_1):=(blk_cell BK309.out 1).trans rfl
           have hcz33_2 : wc.cell? ⟨gb309,2,none⟩ = some (.int .i64 a1_2):=(blk_cell BK309.out 2).trans rfl
           have hfz33_0:=blk_frozen BK309.out 0
           have hfz33_1:=blk_frozen BK309.out 1
           have hfz33_2:=blk_frozen BK309.out 2
           go_wp2
           go_ret
           exact ⟨by first|rfl|(simp [errW_none,errW_some] <;> rfl)|(simp [*,errW_none,errW_some] <;> rfl),by repeat (first|(with_reducible first|exact HB.out|apply below_alloc|apply pw_below_drewN|apply below_drew1|refine below_set ?_ GE308.out|refine below_set ?_ GE309.out)|exact HB.out)⟩
          ·replace c31:=Bool.eq_false_iff.mpr c31
           subst c31
           have H1 : (some false) = some r:=by rw [if_neg (show ¬ (false = true) by decide)] at H;exact H
           clear H
           have H:=H1
           clear H1
           obtain rfl:=Option.some.inj H
           go_wp2
           go_ret
           exact ⟨by first|rfl|(simp [errW_none,errW_some] <;> rfl)|(simp [*,errW_none,errW_some] <;> rfl),by repeat (first|(with_reducible first|exact HB.out|apply below_alloc|apply pw_below_drewN|apply below_drew1|refine below_set ?_ GE308.out|refine below_set ?_ GE309.out)|exact HB.out)⟩
         ·replace c30:=Bool.eq_false_iff.mpr c30
          subst c30
          have H1 : (if a1_0 = 5 then (if a1_1 ≥ 0 then (if a1_1 < a0_0 then (some (a1_2 == 0)) else (some false)) else (some false)) else (some false)) = some r:=by rw [if_neg (show ¬ (false = true) by decide)] at H;exact H
          clear H
          have H:=H1
          clear H1
          by_cases c34 : a1_0 = 5
          ·rw [if_pos c34] at H
           have c34b0 : (a1_0 == 5) = true:=beq_iff_eq.mpr c34
           have c34b1 : (a1_0 != 5) = false:=bne_eq_false_iff_eq.mpr c34
           clear c34
           by_cases c35 : a1_1 ≥ 0
           ·rw [if_pos c35] at H
            have c35b0 : decide (0 ≤ a1_1) = true:=decide_eq_true c35
            clear c35
            by_cases c36 : a1_1 < a0_0
            ·rw [if_pos c36] at H
             have c36b0 : decide (a1_1 < a0_0) = true:=decide_eq_true c36
             clear c36
             obtain rfl:=Option.some.inj H
             have hnb37:=NB309_308.out
             have hnc37:=NB308_309.out
             have hcz38_0 : wc.cell? ⟨gb309,0,none⟩ = some (.int .i64 a1_0):=(blk_cell BK309.out 0).trans rfl
             have hcz38_1 : wc.cell? ⟨gb309,1,none⟩ = some (.int .i64 a1_1):=(blk_cell BK309.out 1).trans rfl
             have hcz38_2 : wc.cell? ⟨gb309,2,none⟩ = some (.int .i64 a1_2):=(blk_cell BK309.out 2).trans rfl
             have hfz38_0:=blk_frozen BK309.out 0
             have hfz38_1:=blk_frozen BK309.out 1
             have hfz38_2:=blk_frozen BK309.out 2
             have hcz39_0 : wc.cell? ⟨gb308,0,none⟩ = some (.int .i64 a0_0):=(blk_cell BK308.out 0).trans rfl
             have hcz39_1 : wc.cell? ⟨gb308,1,none⟩ = some (.slice A0_1 l0_1.length c0_1):=(blk_cell BK308.out 1).trans rfl
             have hfz39_0:=blk_frozen BK308.out 0
             have hfz39_1:=blk_frozen BK308.out 1
             go_wp2
             go_ret
             exact ⟨by first|rfl|(simp [errW_none,errW_some] <;> rfl)|(simp [*,errW_none,errW_some] <;> rfl),by repeat (first|(with_reducible first|exact HB.out|apply below_alloc|apply pw_below_drewN|apply below_drew1|refine below_set ?_ GE308.out|refine below_set ?_ GE309.out)|exact HB.out)⟩
            ·rw [if_neg c36] at H
             have c36b0 : decide (a1_1 < a0_0) = false:=decide_eq_false c36
             clear c36
             obtain rfl:=Option.some.inj H
             have hnb40:=NB309_308.out
             have hnc40:=NB308_309.out
             have hcz41_0 : wc.cell? ⟨gb309,0,none⟩ = some (.int .i64 a1_0):=(blk_cell BK309.out 0).trans rfl
             have hcz41_1 : wc.cell? ⟨gb309,1,none⟩ = some (.int .i64 a1_1):=(blk_cell BK309.out 1).trans rfl
             have hcz41_2 : wc.cell? ⟨gb309,2,none⟩ = some (.int .i64 a1_2):=(blk_cell BK309.out 2).trans rfl
             have hfz41_0:=blk_frozen BK309.out 0
             have hfz41_1:=blk_frozen BK309.out 1
             have hfz41_2:=blk_frozen BK309.out 2
             have hcz42_0 : wc.cell? ⟨gb308,0,none⟩ = some (.int .i64 a0_0):=(blk_cell BK308.out 0).trans rfl
             have hcz42_1 : wc.cell? ⟨gb308,1,none⟩ = some (.slice A0_1 l0_1.length c0_1):=(blk_cell BK308.out 1).trans rfl
             have hfz42_0:=blk_frozen BK308.out 0
             have hfz42_1:=blk_frozen BK308.out 1
             go_wp2
             go_ret
             exact ⟨by first|rfl|(simp [errW_none,errW_some] <;> rfl)|(simp [*,errW_none,errW_some] <;> rfl),by repeat (first|(with_reducible first|exact HB.out|apply below_alloc|apply pw_below_drewN|apply below_drew1|refine below_set ?_ GE308.out|refine below_set ?_ GE309.out)|exact HB.out)⟩
           ·rw [if_neg c35] at H
            have c35b0 : decide (0 ≤ a1_1) = false:=decide_eq_false c35
            clear c35
            obtain rfl:=Option.some.inj H
            have hnb43:=NB309_308.out
            have hnc43:=NB308_309.out
            have hcz44_0 : wc.cell? ⟨gb309,0,none⟩ = some (.int .i64 a1_0):=(blk_cell BK309.out 0).trans rfl
            have hcz44_1 : wc.cell? ⟨gb309,1,none⟩ = some (.int .i64 a1_1):=(blk_cell BK309.out 1).trans rfl
            have hcz44_2 : wc.cell? ⟨gb309,2,none⟩ = some (.int .i64 a1_2):=(blk_cell BK309.out 2).trans rfl
            have hfz44_0:=blk_frozen BK309.out 0
            have hfz44_1:=blk_frozen BK309.out 1
            have hfz44_2:=blk_frozen BK309.out 2
            go_wp2
            go_ret
            exact ⟨by first|rfl|(simp [errW_none,errW_some] <;> rfl)|(simp [*,errW_none,errW_some] <;> rfl),by repeat (first|(with_reducible first|exact HB.out|apply below_alloc|apply pw_below_drewN|apply below_drew1|refine below_set ?_ GE308.out|refine below_set ?_ GE309.out)|exact HB.out)⟩
          ·rw [if_neg c34] at H
           have c34b0 : (a1_0 == 5) = false:=beq_eq_false_iff_ne.mpr c34
           have c34b1 : (a1_0 != 5) = true:=bne_iff_ne.mpr c34
           obtain rfl:=Option.some.inj H
           go_wp2
           go_ret
           exact ⟨by first|rfl|(simp [errW_none,errW_some] <;> rfl)|(simp [*,errW_none,errW_some] <;> rfl),by repeat (first|(with_reducible first|exact HB.out|apply below_alloc|apply pw_below_drewN|apply below_drew1|refine below_set ?_ GE308.out|refine below_set ?_ GE309.out)|exact HB.out)⟩
 ·rw [if_neg c4] at H
  have c4b0 : (t310 == 0) = false:=beq_eq_false_iff_ne.mpr c4
  have c4b1 : (t310 != 0) = true:=bne_iff_ne.mpr c4
  obtain rfl:=Option.some.inj H
  go_enter Try.func36,Try.ntmps36
  go_wp2_with (first|((with_reducible refine gate_dst (N:=2) rfl ?_);(try (refine gate_guard (by rfl) ?_;dsimp only));refine box_event ?hg (N:=2) ?hd (cs:=#[.int .i64 a0_0,.slice A0_1 l0_1.length c0_1]) (t:=30) ?hr ?_;(case hd=>rfl);(case hg=>rfl);(case hr=>first|(go_simp;done)|(go_simp;rfl));intro gb308 hg w45 hbox hb;have n0_:=Aside0.mk (below_step (by repeat (first|(with_reducible first|exact HB.out|apply below_alloc|apply pw_below_drewN|apply below_drew1)|exact HB.out)) hb);have n1_:=Aside0.mk (hbox);have n2_:=Aside0.mk ((by rw [hg];exact (below_size (by repeat (first|(with_reducible first|exact HB.out|apply below_alloc|apply pw_below_drewN|apply below_drew1)|exact HB.out))) : w.heap.size ≤ gb308));have n3_:=Aside0.mk ((by rw [hg];exact (below_size (by repeat (first|(with_reducible first|exact HB.out|apply below_alloc|apply pw_below_drewN|apply below_drew1)|exact HB.out))) : w.heap.size ≤ gb308));clear HB;have HB:=n0_;have BK308:=n1_;have GW308:=n2_;have GE308:=n3_;clear n0_ n1_ n2_ n3_;clear hb hbox hg)|((with_reducible refine gate_dst (N:=3) rfl ?_);(try (refine gate_guard (by rfl) ?_;dsimp only));refine box_event ?hg (N:=3) ?hd (cs:=#[.int .i64 a1_0,.int .i64 a1_1,.int .i64 a1_2]) (t:=56) ?hr ?_;(case hd=>rfl);(case hg=>rfl);(case hr=>first|(go_simp;done)|(go_simp;rfl));intro gb309 hg w46 hbox hb;have n0_:=Aside0.mk (blk_below (g:=gb308) (o:=.cells #[.int .i64 a0_0,.slice A0_1 l0_1.length c0_1] 30 (0,0)) (by (with_reducible repeat (first|refine blk_drewN ?_ _|refine blk_drew ?_|refine blk_alloc ?_ _));exact BK308.out) hb);have n1_:=Aside0.mk (below_step (by repeat (first|(with_reducible first|exact HB.out|apply below_alloc|apply pw_below_drewN|apply below_drew1|refine below_set ?_ GE308.out)|exact HB.out)) hb);have n2_:=Aside0.mk (hbox);have n3_:=Aside0.mk ((by rw [hg];exact (below_size (by repeat (first|(with_reducible first|exact HB.out|apply below_alloc|apply pw_below_drewN|apply below_drew1|refine below_set ?_ GE308.out)|exact HB.out))) : w.heap.size ≤ gb309));have n4_:=Aside0.mk ((by rw [hg];exact (below_size (by repeat (first|(with_reducible first|exact HB.out|apply below_alloc|apply pw_below_drewN|apply below_drew1|refine below_set ?_ GE308.out)|exact HB.out))) : w.heap.size ≤ gb309));have n5_:=Aside0.mk ((by rw [hg];exact Nat.ne_of_lt (blk_lt (g:=gb308) (o:=.cells #[.int .i64 a0_0,.slice A0_1 l0_1.length c0_1] 30 (0,0)) (by (with_reducible repeat (first|refine blk_drewN ?_ _|refine blk_drew ?_|refine blk_alloc ?_ _));exact BK308.out)) : gb308 ≠ gb309));have n6_:=Aside0.mk ((by rw [hg];exact Nat.ne_of_gt (blk_lt (g:=gb308) (o:=.cells #[.int .i64 a0_0,.slice A0_1 l0_1.length c0_1] 30 (0,0)) (by (with_reducible repeat (first|refine blk_drewN ?_ _|refine blk_drew ?_|refine blk_alloc ?_ _));exact BK308.out)) : gb309 ≠ gb308));clear BK308;clear HB;have BK308:=n0_;have HB:=n1_;have BK309:=n2_;have GW309:=n3_;have GE309:=n4_;have NB308_309:=n5_;have NB309_308:=n6_;clear n0_ n1_ n2_ n3_ n4_ n5_ n6_;clear hb hbox hg;have hnb47:=NB308_309.out;have hnc47:=NB309_308.out;have hcz48_0 : w46.cell? ⟨gb308,0,none⟩ = some (.int .i64 a0_0):=(blk_cell BK308.out 0).trans rfl;have hcz48_1 : w46.cell? ⟨gb308,1,none⟩ = some (.slice A0_1 l0_1.length c0_1):=(blk_cell BK308.out 1).trans rfl;have hfz48_0:=blk_frozen BK308.out 0;have hfz48_1:=blk_frozen BK308.out 1)|((with_reducible refine gate_callee (f:=25) rfl ?_);refine goesL_ (some 7) rfl rfl Try.func25 (by kernel_rfl) rfl #[.agg #[.int .i64 a0_0,.slice A0_1 l0_1.length c0_1]] rfl (by (try simp only [List.map_toArray,List.map_cons,List.map_nil]);first|done|rfl|(simp only [List.length_drop,List.length_take];rfl)) ?_;(with_reducible refine (impl_LayoutOk.calls a0_0 _ _ l0_1 t310 _ ?side1 ?side2 A3.out).mono ?_);(case side1=>repeat (first|exact (Kd.C_below HR0_1.out HB.out)|(with_reducible refine Kd.C_alloc ?_ _)|(with_reducible refine Kd.C_drewN ?_ _)|(with_reducible refine Kd.C_drew ?_)));(case side2=>exact HC0_1.out);rintro e w49 ⟨rfl,hb⟩;refine ⟨_,rfl,?_⟩;have n0_:=Aside0.mk (blk_below (g:=gb308) (o:=.cells #[.int .i64 a0_0,.slice A0_1 l0_1.length c0_1] 30 (0,0)) (by (with_reducible repeat (first|refine blk_drewN ?_ _|refine blk_drew ?_|refine blk_alloc ?_ _));exact BK308.out) hb);have n1_:=Aside0.mk (blk_below (g:=gb309) (o:=.cells #[.int .i64 a1_0,.int .i64 a1_1,.int .i64 a1_2] 56 (0,0)) (by (with_reducible repeat (first|refine blk_drewN ?_ _|refine blk_drew ?_|refine blk_alloc ?_ _));exact BK309.out) hb);have n2_:=Aside0.mk (below_step (by repeat (first|(with_reducible first|exact HB.out|apply below_alloc|apply pw_below_drewN|apply below_drew1|refine below_set ?_ GE308.out|refine below_set ?_ GE309.out)|exact HB.out)) hb);clear BK308;clear BK309;clear HB;have BK308:=n0_;have BK309:=n1_;have HB:=n2_;clear n0_ n1_ n2_;(try clear hb);(try clear hb2);(try clear hk);(try clear hi)))
  go_ret
  exact ⟨by first|rfl|(simp [errW_none,errW_some] <;> rfl)|(simp [*,errW_none,errW_some] <;> rfl),by repeat (first|(with_reducible first|exact HB.out|apply below_alloc|apply pw_below_drewN|apply below_drew1|refine below_set ?_ GE308.out|refine below_set ?_ GE309.out)|exact HB.out)⟩
end Go.Proofs.Ytpdnabhpkdchjaa.P
namespace Go.Proofs.Ytpdnabhpkdchjaa.P
open Go.RowKit Go.Proofs.YtpdnabhpkdchjaaW.PrintWords Go.Proofs.YtpdnabhpkdchjaaW.PrintLast Go.Proofs.YtpdnabhpkdchjaaW.PrintMore
attribute [local go_sem] max2_int min2_int max_two min_two max_three min_three max_four min_four
set_option linter.unusedVariables false
set_option linter.unusedSimpArgs false
def laws_toEvent.f (a0_0 : Int) (a0_1 : Int) (a0_2 : Int) : Option (Int × Int × Int):=some (a0_0,a0_1,a0_2)
set_option maxHeartbeats 8000000 in
set_option maxRecDepth 100000 in
theorem laws_toEvent.calls (a0_0 : Int) (a0_1 : Int) (a0_2 : Int) (r1 : Int) (r2 : Int) (r3 : Int) (w : World) (h : laws_toEvent.f a0_0 a0_1 a0_2 = some (r1,r2,r3)) :
  Calls Try.prog 35 #[.agg #[.int .i64 a0_0,.int .i64 a0_1,.int .i64 a0_2]] w fun e w'=>e = .returned (.agg #[.int .i64 r1,.int .i64 r2,.int .i64 r3])∧Below w.heap.size w w':=by
 have hu54:=Try.underlying54
 have hu56:=Try.underlying56
 have HB:=Aside0.mk (Below.refl w.heap.size w)
 have H : (some (a0_0,a0_1,a0_2)) = some (r1,r2,r3):=h
 clear h
 simp only [Option.some.injEq,Prod.mk.injEq] at H
 obtain ⟨rfl,rfl,rfl⟩:=H
 go_enter Try.func35,Try.ntmps35
 go_wp2_with (first|((with_reducible refine gate_dst (N:=1) rfl ?_);refine box_event ?hg (N:=1) ?hd (cs:=#[.int .i64 a0_0,.int .i64 a0_1,.int .i64 a0_2]) (t:=54) ?hr ?_;(case hd=>rfl);(case hg=>rfl);(case hr=>first|(go_simp;done)|(go_simp;rfl));intro gb398 hg w2 hbox hb;have n0_:=Aside0.mk (below_step (by repeat (first|(with_reducible first|exact HB.out|apply below_alloc|apply pw_below_drewN|apply below_drew1)|exact HB.out)) hb);have n1_:=Aside0.mk (hbox);have n2_:=Aside0.mk ((by rw [hg];exact (below_size (by repeat (first|(with_reducible first|exact HB.out|apply below_alloc|apply pw_below_drewN|apply below_drew1)|exact HB.out))) : w.heap.size ≤ gb398));have n3_:=Aside0.mk ((by rw [hg];exact (below_size (by repeat (first|(with_reducible first|exact HB.out|apply below_alloc|apply pw_below_drewN|apply below_drew1)|exact HB.out))) : w.heap.size ≤ gb398));clear HB;have HB:=n0_;have BK398:=n1_;have GW398:=n2_;have GE398:=n3_;clear n0_ n1_ n2_ n3_;clear hb hbox hg)|((with_reducible refine gate_dst (N:=2) rfl ?_);refine box_event ?hg (N:=2) ?hd (cs:=#[.int .i64 0,.int .i64 0,.int .i64 0]) (t:=56) ?hr ?_;(case hd=>rfl);(case hg=>rfl);(case hr=>first|(go_simp;done)|(go_simp;rfl));intro gb399 hg w3 hbox hb;have n0_:=Aside0.mk (blk_below (g:=gb398) (o:=.cells #[.int .i64 a0_0,.int .i64 a0_1,.int .i64 a0_2] 54 (0,0)) (by (with_reducible repeat (first|refine blk_drewN ?_ _|refine blk_drew ?_|refine blk_alloc ?_ _));exact BK398.out) hb);have n1_:=Aside0.mk (below_step (by repeat (first|(with_reducible first|exact HB.out|apply below_alloc|apply pw_below_drewN|apply below_drew1|refine below_set ?_ GE398.out)|exact HB.out)) hb);have n2_:=Aside0.mk (hbox);have n3_:=Aside0.mk ((by rw [hg];exact (below_size (by repeat (first|(with_reducible first|exact HB.out|apply below_alloc|apply pw_below_drewN|apply below_drew1|refine below_set ?_ GE398.out)|exact HB.out))) : w.heap.size ≤ gb399));have n4_:=Aside0.mk ((by rw [hg];exact (below_size (by repeat (first|(with_reducible first|exact HB.out|apply below_alloc|apply pw_below_drewN|apply below_drew1|refine below_set ?_ GE398.out)|exact HB.out))) : w.heap.size ≤ gb399));have n5_:=Aside0.mk ((by rw [hg];exact Nat.ne_of_lt (blk_lt (g:=gb398) (o:=.cells #[.int .i64 a0_0,.int .i64 a0_1,.int .i64 a0_2] 54 (0,0)) (by (with_reducible repeat (first|refine blk_drewN ?_ _|refine blk_drew ?_|refine blk_alloc ?_ _));exact BK398.out)) : gb398 ≠ gb399));have n6_:=Aside0.mk ((by rw [hg];exact Nat.ne_of_gt (blk_lt (g:=gb398) (o:=.cells #[.int .i64 a0_0,.int .i64 a0_1,.int .i64 a0_2] 54 (0,0)) (by (with_reducible repeat (first|refine blk_drewN ?_ _|refine blk_drew ?_|refine blk_alloc ?_ _));exact BK398.out)) : gb399 ≠ gb398));clear BK398;clear HB;have BK398:=n0_;have HB:=n1_;have BK399:=n2_;have GW399:=n3_;have GE399:=n4_;have NB398_399:=n5_;have NB399_398:=n6_;clear n0_ n1_ n2_ n3_ n4_ n5_ n6_;clear hb hbox hg)|((with_reducible refine gate_dst (N:=3) rfl ?_);refine box_event ?hg (N:=3) ?hd (cs:=#[.int .i64 0,.int .i64 0,.int .i64 0]) (t:=56) ?hr ?_;(case hd=>rfl);(case hg=>rfl);(case hr=>first|(go_simp;done)|(go_simp;rfl));intro gb400 hg w4 hbox hb;have n0_:=Aside0.mk (blk_below (g:=gb398) (o:=.cells #[.int .i64 a0_0,.int .i64 a0_1,.int .i64 a0_2] 54 (0,0)) (by (with_reducible repeat (first|refine blk_drewN ?_ _|refine blk_drew ?_|refine blk_alloc ?_ _));exact BK398.out) hb);have n1_:=Aside0.mk (blk_below (g:=gb399) (o:=.cells #[.int .i64 0,.int .i64 0,.int .i64 0] 56 (0,0)) (by (with_reducible repeat (first|refine blk_drewN ?_ _|refine blk_drew ?_|refine blk_alloc ?_ _));exact BK399.out) hb);have n2_:=Aside0.mk (below_step (by repeat (first|(with_reducible first|exact HB.out|apply below_alloc|apply pw_below_drewN|apply below_drew1|refine below_set ?_ GE398.out|refine below_set ?_ GE399.out)|exact HB.out)) hb);have n3_:=Aside0.mk (hbox);have n4_:=Aside0.mk ((by rw [hg];exact (below_size (by repeat (first|(with_reducible first|exact HB.out|apply below_alloc|apply pw_below_drewN|apply below_drew1|refine below_set ?_ GE398.out|refine below_set ?_ GE399.out)|exact HB.out))) : w.heap.size ≤ gb400));have n5_:=Aside0.mk ((by rw [hg];exact (below_size (by repeat (first|(with_reducible first|exact HB.out|apply below_alloc|apply pw_below_drewN|apply below_drew1|refine below_set ?_ GE398.out|refine below_set ?_ GE399.out)|exact HB.out))) : w.heap.size ≤ gb400));have n6_:=Aside0.mk ((by rw [hg];exact Nat.ne_of_lt (blk_lt (g:=gb398) (o:=.cells #[.int .i64 a0_0,.int .i64 a0_1,.int .i64 a0_2] 54 (0,0)) (by (with_reducible repeat (first|refine blk_drewN ?_ _|refine blk_drew ?_|refine blk_alloc ?_ _));exact BK398.out)) : gb398 ≠ gb400));have n7_:=Aside0.mk ((by rw [hg];exact Nat.ne_of_gt (blk_lt (g:=gb398) (o:=.cells #[.int .i64 a0_0,.int .i64 a0_1,.int .i64 a0_2] 54 (0,0)) (by (with_reducible repeat (first|refine blk_drewN ?_ _|refine blk_drew ?_|refine blk_alloc ?_ _));exact BK398.out)) : gb400 ≠ gb398));have n8_:=Aside0.mk ((by rw [hg];exact Nat.ne_of_lt (blk_lt (g:=gb399) (o:=.cells #[.int .i64 0,.int .i64 0,.int .i64 0] 56 (0,0)) (by (with_reducible repeat (first|refine blk_drewN ?_ _|refine blk_drew ?_|refine blk_alloc ?_ _));exact BK399.out)) : gb399 ≠ gb400));have n9_:=Aside0.mk ((by rw [hg];exact Nat.ne_of_gt (blk_lt (g:=gb399) (o:=.cells #[.int .i64 0,.int .i64 0,.int .i64 0] 56 (0,0)) (by (with_reducible repeat (first|refine blk_drewN ?_ _|refine blk_drew ?_|refine blk_alloc ?_ _));exact BK399.out)) : gb400 ≠ gb399));clear BK398;clear BK399;clear HB;have BK398:=n0_;have BK399:=n1_;have HB:=n2_;have BK400:=n3_;have GW400:=n4_;have GE400:=n5_;have NB398_400:=n6_;have NB400_398:=n7_;have NB399_400:=n8_;have NB400_399:=n9_;clear n0_ n1_ n2_ n3_ n4_ n5_ n6_ n7_ n8_ n9_;clear hb hbox hg;have hnb5:=NB398_399.out;have hnc5:=NB399_398.out;have hnb6:=NB398_400.out;have hnc6:=NB400_398.out;have hcz7_0 : w4.cell? ⟨gb398,0,none⟩ = some (.int .i64 a0_0):=(blk_cell BK398.out 0).trans rfl;have hcz7_1 : w4.cell? ⟨gb398,1,none⟩ = some (.int .i64 a0_1):=(blk_cell BK398.out 1).trans rfl;have hcz7_2 : w4.cell? ⟨gb398,2,none⟩ = some (.int .i64 a0_2):=(blk_cell BK398.out 2).trans rfl;have hfz7_0:=blk_frozen BK398.out 0;have hfz7_1:=blk_frozen BK398.out 1;have hfz7_2:=blk_frozen BK398.out 2;have hnb8:=NB400_399.out;have hnc8:=NB399_400.out;have hcz9_0 : w4.cell? ⟨gb400,0,none⟩ = some (.int .i64 0):=(blk_cell BK400.out 0).trans rfl;have hcz9_1 : w4.cell? ⟨gb400,1,none⟩ = some (.int .i64 0):=(blk_cell BK400.out 1).trans rfl;have hcz9_2 : w4.cell? ⟨gb400,2,none⟩ = some (.int .i64 0):=(blk_cell BK400.out 2).trans rfl;have hfz9_0:=blk_frozen BK400.out 0;have hfz9_1:=blk_frozen BK400.out 1;have hfz9_2:=blk_frozen BK400.out 2;have hcz10_0 : w4.cell? ⟨gb399,0,none⟩ = some (.int .i64 0):=(blk_cell BK399.out 0).trans rfl;have hcz10_1 : w4.cell? ⟨gb399,1,none⟩ = some (.int .i64 0):=(blk_cell BK399.out 1).trans rfl;have hcz10_2 : w4.cell? ⟨gb399,2,none⟩ = some (.int .i64 0):=(blk_cell BK399.out 2).trans rfl;have hfz10_0:=blk_frozen BK399.out 0;have hfz10_1:=blk_frozen BK399.out 1;have hfz10_2:=blk_frozen BK399.out 2))
 refine bodyPost_ret (results_cell_row rfl _ _ gb399 56 #[.int .i64 a0_0,.int .i64 a0_1,.int .i64 a0_2] (0,0) _ rfl (by (with_reducible repeat (first|refine blk_drewN ?_ _|refine blk_drew ?_|refine blk_alloc ?_ _));refine blk_put (cs:=#[.int .i64 a0_0,.int .i64 a0_1,.int .i64 0]) ?_ 2 _ rfl;(with_reducible repeat (first|refine blk_drewN ?_ _|refine blk_drew ?_|refine blk_alloc ?_ _));refine blk_put (cs:=#[.int .i64 a0_0,.int .i64 0,.int .i64 0]) ?_ 1 _ rfl;(with_reducible repeat (first|refine blk_drewN ?_ _|refine blk_drew ?_|refine blk_alloc ?_ _));refine blk_put (cs:=#[.int .i64 0,.int .i64 0,.int .i64 0]) ?_ 0 _ rfl;(with_reducible repeat (first|refine blk_drewN ?_ _|refine blk_drew ?_|refine blk_alloc ?_ _));refine blk_far ?_ NB399_400.out _;(with_reducible repeat (first|refine blk_drewN ?_ _|refine blk_drew ?_|refine blk_alloc ?_ _));refine blk_far ?_ NB399_400.out _;(with_reducible repeat (first|refine blk_drewN ?_ _|refine blk_drew ?_|refine blk_alloc ?_ _));refine blk_far ?_ NB399_400.out _;(with_reducible repeat (first|refine blk_drewN ?_ _|refine blk_drew ?_|refine blk_alloc ?_ _));exact BK399.out) Try.underlying56 rfl (by kernel_rfl)) rfl ?_
 exact ⟨by first|rfl|(simp [errW_none,errW_some] <;> rfl)|(simp [*,errW_none,errW_some] <;> rfl),by repeat (first|(with_reducible first|exact HB.out|apply below_alloc|apply pw_below_drewN|apply below_drew1|refine below_set ?_ GE398.out|refine below_set ?_ GE399.out|refine below_set ?_ GE400.out)|exact HB.out)⟩
end Go.Proofs.Ytpdnabhpkdchjaa.P
namespace Go.Proofs.Ytpdnabhpkdchjaa.P
open Go.RowKit Go.Proofs.YtpdnabhpkdchjaaW.PrintWords Go.Proofs.YtpdnabhpkdchjaaW.PrintLast
set_option linter.unusedVariables false
set_option linter.unusedSimpArgs false
def eventOk (n : Int) (l : List S88) (op of dir : Int) : Bool :=
  if layoutOk n l = 0 then
    if op = 1 ∨ op = 2 then decide (0 ≤ of) && decide (of < l.length) && (decide (dir = 1) || decide (dir = -1))
    else if op = 3 ∨ op = 4 then decide (0 ≤ of) && decide (of < l.length) && decide (dir = 0)
    else if op = 5 then decide (0 ≤ of) && decide (of < n) && decide (dir = 0)
    else false
  else false
theorem beq_dec (a b : Int) : (a == b) = decide (a = b) := by by_cases h : a = b <;> simp [h]
theorem lay_n {n : Int} {l : List S88} (h : layoutOk n l = 0) : 1 ≤ n ∧ n ≤ 60 ∧ l.length ≤ 120 := by
  unfold layoutOk at h
  split at h
  · cases h
  · split at h
    · cases h
    · split at h
      · cases h
      · omega
theorem dec_le_pred (a b : Int) : decide (a ≤ b - 1) = decide (a < b) := by
  by_cases h : a < b
  · rw [decide_eq_true h, decide_eq_true (by omega)]
  · rw [decide_eq_false h, decide_eq_false (by omega)]
theorem specEventOk_ev (n : Int) (l : List S88) (op of dir : Int) : Ev (fun k => spec_EventOk.f k n l op of dir) (eventOk n l op of dir) := by
  unfold spec_EventOk.f
  refine Ev.bind (specLayoutOk_ev n l) ?_
  by_cases hl : layoutOk n l = 0
  · refine Ev.ite_pos hl ?_
    obtain ⟨hn1, hn2, hc⟩ := lay_n hl
    have w1 : wrap64 ((l.length : Int) - 1) = l.length - 1 := wrap_id (by omega) (by omega)
    have w2 : wrap64 (n - 1) = n - 1 := wrap_id (by omega) (by omega)
    have key : ∀ b : Bool, (b = true ↔ (op = 1 ∨ op = 2)) → Ev (fun k => spec_EventOk.j0 k op b n l op of dir) (eventOk n l op of dir) := by
      intro b hb
      by_cases h12 : op = 1 ∨ op = 2
      · refine Ev.step1 fun k => ?_
        simp only [spec_EventOk.j0, l1in_eq, Option.bind_some, w1, w2, dec_le_pred]
        rw [if_pos (hb.2 h12), eventOk, if_pos hl, if_pos h12]
        by_cases hr : (decide (0 ≤ of) && decide (of < l.length)) = true
        · rw [if_pos hr, hr]
          by_cases hd : dir = 1
          · simp [hd]
          · rw [if_neg hd]; simp [hd, beq_dec]
        · have hr' : (decide (0 ≤ of) && decide (of < l.length)) = false := by simpa using hr
          rw [if_neg hr, hr']; rfl
      · have key2 : ∀ b2 : Bool, (b2 = true ↔ (op = 3 ∨ op = 4)) → Ev (fun k => spec_EventOk.j1 k op b2 n l op of dir) (eventOk n l op of dir) := by
          intro b2 hb2
          refine Ev.step1 fun k => ?_
          simp only [spec_EventOk.j1, l1in_eq, Option.bind_some, w1, w2, dec_le_pred]
          rw [eventOk, if_pos hl, if_neg h12]
          by_cases h34 : op = 3 ∨ op = 4
          · rw [if_pos (hb2.2 h34), if_pos h34]
            by_cases hr : (decide (0 ≤ of) && decide (of < l.length)) = true
            · rw [if_pos hr, hr]; simp [beq_dec]
            · have hr' : (decide (0 ≤ of) && decide (of < l.length)) = false := by simpa using hr
              rw [if_neg hr, hr']; rfl
          · rw [if_neg (fun h => h34 (hb2.1 h)), if_neg h34]
            by_cases h5 : op = 5
            · rw [if_pos h5, if_pos h5]
              by_cases hr : (decide (0 ≤ of) && decide (of < n)) = true
              · rw [if_pos hr, hr]; simp [beq_dec]
              · have hr' : (decide (0 ≤ of) && decide (of < n)) = false := by simpa using hr
                rw [if_neg hr, hr']; rfl
            · rw [if_neg h5, if_neg h5]
        by_cases h3 : op = 3
        · refine Ev.step (fun k => ?_) (key2 (op == 3) (by simp [h3]))
          simp only [spec_EventOk.j0]
          rw [if_neg (fun h => h12 (hb.1 h)), if_pos h3]
        · refine Ev.step (fun k => ?_) (key2 (op == 4) (by simp [h3]))
          simp only [spec_EventOk.j0]
          rw [if_neg (fun h => h12 (hb.1 h)), if_neg h3]
    by_cases h1 : op = 1
    · exact Ev.ite_pos h1 (key _ (by simp [h1]))
    · exact Ev.ite_neg h1 (key _ (by simp [h1]))
  · refine Ev.ite_neg hl ?_
    rw [eventOk, if_neg hl]
    exact Ev.now _
theorem implEventOk_ev (n : Int) (l : List S88) (op of dir : Int) : Ev (fun k => impl_EventOk.f k n l op of dir) (eventOk n l op of dir) := by
  unfold impl_EventOk.f
  refine Ev.call (a := layoutOk n l) rfl ?_
  by_cases hl : layoutOk n l = 0
  · refine Ev.ite_pos hl ?_
    have key : ∀ b : Bool, b = (decide (0 ≤ of) && decide (of < l.length)) → Ev (fun k => impl_EventOk.j0 k b n l op of dir) (eventOk n l op of dir) := by
      intro b hb
      have k1 : ∀ b1 : Bool, (b1 = true ↔ (op = 1 ∨ op = 2)) → Ev (fun k => impl_EventOk.j1 k b op b1 n l op of dir) (eventOk n l op of dir) := by
        intro b1 hb1
        by_cases h12 : op = 1 ∨ op = 2
        · refine Ev.step1 fun k => ?_
          simp only [impl_EventOk.j1]
          rw [if_pos (hb1.2 h12), eventOk, if_pos hl, if_pos h12, ← hb]
          cases b with
          | true =>
            by_cases hd : dir = 1
            · simp [hd]
            · simp [hd, beq_dec]
          | false => rfl
        · have k2 : ∀ b2 : Bool, (b2 = true ↔ (op = 3 ∨ op = 4)) → Ev (fun k => impl_EventOk.j2 k b op b2 n l op of dir) (eventOk n l op of dir) := by
            intro b2 hb2
            refine Ev.step1 fun k => ?_
            simp only [impl_EventOk.j2]
            rw [eventOk, if_pos hl, if_neg h12, ← hb]
            by_cases h34 : op = 3 ∨ op = 4
            · rw [if_pos (hb2.2 h34), if_pos h34]
              cases b <;> simp [beq_dec]
            · rw [if_neg (fun h => h34 (hb2.1 h)), if_neg h34]
              by_cases h5 : op = 5
              · rw [if_pos h5, if_pos h5]
                by_cases h0 : of ≥ 0
                · rw [if_pos h0]
                  by_cases h6 : of < n
                  · rw [if_pos h6]; simp [beq_dec, h6, h0]
                  · rw [if_neg h6]; simp [h6]
                · rw [if_neg h0]; simp [show ¬ 0 ≤ of from h0]
              · rw [if_neg h5, if_neg h5]
          by_cases h3 : op = 3
          · refine Ev.step (fun k => ?_) (k2 (op == 3) (by simp [h3]))
            simp only [impl_EventOk.j1]
            rw [if_neg (fun h => h12 (hb1.1 h)), if_pos h3]
          · refine Ev.step (fun k => ?_) (k2 (op == 4) (by simp [h3]))
            simp only [impl_EventOk.j1]
            rw [if_neg (fun h => h12 (hb1.1 h)), if_neg h3]
      by_cases h1 : op = 1
      · refine Ev.step (fun k => ?_) (k1 (op == 1) (by simp [h1]))
        simp only [impl_EventOk.j0]
        rw [if_pos h1]
      · refine Ev.step (fun k => ?_) (k1 (op == 2) (by simp [h1]))
        simp only [impl_EventOk.j0]
        rw [if_neg h1]
    by_cases h0 : of ≥ 0
    · exact Ev.ite_pos h0 (key _ (by simp [show (0 : Int) ≤ of from h0]))
    · exact Ev.ite_neg h0 (key _ (by simp [show ¬ (0 : Int) ≤ of from h0]))
  · refine Ev.ite_neg hl ?_
    rw [eventOk, if_neg hl]
    exact Ev.now _
end Go.Proofs.Ytpdnabhpkdchjaa.P
namespace Go.Proofs.Ytpdnabhpkdchjaa.P
open Go.RowKit Go.Proofs.YtpdnabhpkdchjaaW.PrintWords Go.Proofs.YtpdnabhpkdchjaaW.PrintLast
set_option linter.unusedVariables false
set_option linter.unusedSimpArgs false
theorem eqSectionS_l0 (l : List S50) (hl : l.length ≤ 1048576) (d : Nat) : ∀ (i : Nat), i + d = l.length → Ev (fun k => laws_eqSectionS.l0 k l l i) true := by
  induction d with
  | zero => intro i hi; refine Ev.step1 fun k => ?_; simp only [laws_eqSectionS.l0]; rw [if_neg (by omega)]
  | succ d ih =>
    intro i hi
    refine Ev.step (fun k => ?_) (ih (i + 1) (by omega))
    simp only [laws_eqSectionS.l0, laws_eqSection.f, if_true, bne_self_eq_false, Option.bind_some, Bool.false_eq_true, if_false]
    rw [if_pos (by omega), if_pos (by omega), if_pos (by omega), wrap_succ (by omega)]
theorem eqBoolS_l0 (l : List Bool) (hl : l.length ≤ 1048576) (d : Nat) : ∀ (i : Nat), i + d = l.length → Ev (fun k => laws_eqBoolS.l0 k l l i) true := by
  induction d with
  | zero => intro i hi; refine Ev.step1 fun k => ?_; simp only [laws_eqBoolS.l0]; rw [if_neg (by omega)]
  | succ d ih =>
    intro i hi
    refine Ev.step (fun k => ?_) (ih (i + 1) (by omega))
    simp only [laws_eqBoolS.l0, if_true, bne_self_eq_false, Bool.false_eq_true, if_false]
    rw [if_pos (by omega), if_pos (by omega), if_pos (by omega), wrap_succ (by omega)]
theorem eqState_ev (b : Bool) (l : List S50) (m : List Bool) (hl : l.length ≤ 1048576) (hm : m.length ≤ 1048576) : Ev (fun k => laws_eqState.f k b l m b l m) true := by
  unfold laws_eqState.f
  refine Ev.ite_neg (by simp) ?_
  refine Ev.bind (a := true) ?_ (Ev.ite_pos rfl (Ev.bind (a := true) ?_ (Ev.ite_pos rfl (Ev.now _))))
  · unfold laws_eqSectionS.f
    exact Ev.ite_pos rfl (eqSectionS_l0 l hl l.length 0 (by omega))
  · unfold laws_eqBoolS.f
    exact Ev.ite_pos rfl (eqBoolS_l0 m hm m.length 0 (by omega))
def mkS (k : Int) : S50 := ⟨k, k + 1, (Int.tmod (k + 2) 3) == 0, (Int.tmod (k + 3) 3) == 0, k + 4⟩
def mkB (k : Int) : Bool := (Int.tmod k 3) == 0
theorem markSectionS_l0 (l : List S50) (a : Int) (ha : 0 ≤ a) (hl : a + 5 * l.length ≤ 4611686018427387903) (d : Nat) : ∀ (i : Nat), i + d = l.length →
    Ev (fun k => laws_markSectionS.l0 k ((marks mkS 5 a l.length).take i ++ l.drop i) (a + 5 * i) i) (a + 5 * l.length, marks mkS 5 a l.length) := by
  have hm : (marks mkS 5 a l.length).length = l.length := marks_length _ _ _ _
  induction d with
  | zero =>
    intro i hi
    refine Ev.step1 fun k => ?_
    simp only [laws_markSectionS.l0]
    rw [mid_length (by omega) hm, if_neg (by omega), List.take_of_length_le (by omega), List.drop_eq_nil_of_le (by omega), List.append_nil, show i = l.length by omega]
  | succ d ih =>
    intro i hi
    refine Ev.step (fun k => ?_) (ih (i + 1) (by omega))
    have hlen := mid_length (m := marks mkS 5 a l.length) (l := l) (i := i) (by omega) hm
    simp only [laws_markSectionS.l0, Option.bind_some]
    rw [hlen, if_pos (by omega), if_pos (by omega), wrap_succ (by omega), wrap_id (x := a + 5 * (i : Int) + 1) (by omega) (by omega), wrap_id (x := a + 5 * (i : Int) + 1 + 1) (by omega) (by omega), wrap_id (x := a + 5 * (i : Int) + 1 + 1 + 1) (by omega) (by omega),
      wrap_id (x := a + 5 * (i : Int) + 1 + 1 + 1 + 1) (by omega) (by omega), wrap_id (by omega) (by omega)]
    have rd_set : ∀ v : S50, rd_T50 (((marks mkS 5 a l.length).take i ++ l.drop i).set i v) (i : Int) = v := by
      intro v
      simp only [rd_T50, Int.toNat_natCast]
      rw [List.getD_eq_getElem?_getD, List.getElem?_set_self (by omega), Option.getD_some]
    simp only [Int.toNat_natCast, List.set_set, rd_set]
    have hv : (⟨a + 5 * (i : Int), a + 5 * (i : Int) + 1, (Int.tmod (a + 5 * (i : Int) + 1 + 1) 3) == 0, (Int.tmod (a + 5 * (i : Int) + 1 + 1 + 1) 3) == 0, a + 5 * (i : Int) + 1 + 1 + 1 + 1⟩ : S50) = mkS (a + 5 * i) := by
      simp only [mkS, Int.add_assoc, Int.reduceAdd]
    rw [hv, set_mid (by omega) hm (v := mkS (a + 5 * i)) (marks_get _ _ _ _ _ (by omega))]
    rw [show a + 5 * (i : Int) + 1 + 1 + 1 + 1 + 1 = a + 5 * ((i + 1 : Nat) : Int) by omega]
theorem markBoolS_l0 (l : List Bool) (a : Int) (ha : 0 ≤ a) (hl : a + l.length ≤ 4611686018427387903) (d : Nat) : ∀ (i : Nat), i + d = l.length →
    Ev (fun k => laws_markBoolS.l0 k ((marks mkB 1 a l.length).take i ++ l.drop i) (a + i) i) (a + l.length, marks mkB 1 a l.length) := by
  have hm : (marks mkB 1 a l.length).length = l.length := marks_length _ _ _ _
  induction d with
  | zero =>
    intro i hi
    refine Ev.step1 fun k => ?_
    simp only [laws_markBoolS.l0]
    rw [mid_length (by omega) hm, if_neg (by omega), List.take_of_length_le (by omega), List.drop_eq_nil_of_le (by omega), List.append_nil, show i = l.length by omega]
  | succ d ih =>
    intro i hi
    refine Ev.step (fun k => ?_) (ih (i + 1) (by omega))
    simp only [laws_markBoolS.l0]
    rw [mid_length (by omega) hm, if_pos (by omega), if_pos (by omega), wrap_succ (by omega), wrap_id (by omega) (by omega), Int.toNat_natCast,
      set_mid (by omega) hm (v := mkB (a + i)) (by rw [marks_get _ _ _ _ _ (by omega)]; simp) |> fun h => (show ((marks mkB 1 a l.length).take i ++ l.drop i).set i ((Int.tmod (a + i) 3) == 0) = _ from h), show a + (i : Int) + 1 = a + ((i + 1 : Nat) : Int) by omega]
theorem heldSectionS_l0 (n : Nat) (a : Int) (ha : 0 ≤ a) (hl : a + 5 * n ≤ 4611686018427387903) (d : Nat) : ∀ (i : Nat), i + d = n → Ev (fun k => laws_heldSectionS.l0 k (marks mkS 5 a n) (a + 5 * i) i) (a + 5 * n) := by
  have hm : (marks mkS 5 a n).length = n := marks_length _ _ _ _
  induction d with
  | zero =>
    intro i hi
    refine Ev.step1 fun k => ?_
    simp only [laws_heldSectionS.l0]
    rw [hm, if_neg (by omega), show i = n by omega]
  | succ d ih =>
    intro i hi
    have hr : rd_T50 (marks mkS 5 a n) (i : Int) = mkS (a + 5 * i) := by
      have := marks_get mkS 5 a n i (by omega)
      simp [rd_T50, List.getD_eq_getElem?_getD, List.getElem?_eq_getElem (show i < (marks mkS 5 a n).length by omega), this]
    refine Ev.step (fun k => ?_) (ih (i + 1) (by omega))
    simp only [laws_heldSectionS.l0, hr, mkS]
    rw [hm, if_pos (by omega), if_pos (by omega), wrap_succ (by omega), wrap_id (x := a + 5 * (i : Int) + 1) (by omega) (by omega), wrap_id (x := a + 5 * (i : Int) + 1 + 1) (by omega) (by omega), wrap_id (x := a + 5 * (i : Int) + 1 + 1 + 1) (by omega) (by omega),
      wrap_id (x := a + 5 * (i : Int) + 1 + 1 + 1 + 1) (by omega) (by omega), wrap_id (by omega) (by omega)]
    simp only [Int.add_assoc, Int.reduceAdd, if_true, bne_self_eq_false, Bool.false_eq_true, if_false]
    rw [show a + (5 * (i : Int) + 5) = a + 5 * ((i + 1 : Nat) : Int) by omega]
theorem heldBoolS_l0 (n : Nat) (a : Int) (ha : 0 ≤ a) (hl : a + n ≤ 4611686018427387903) (d : Nat) : ∀ (i : Nat), i + d = n → Ev (fun k => laws_heldBoolS.l0 k (marks mkB 1 a n) (a + i) i) (a + n) := by
  have hm : (marks mkB 1 a n).length = n := marks_length _ _ _ _
  induction d with
  | zero =>
    intro i hi
    refine Ev.step1 fun k => ?_
    simp only [laws_heldBoolS.l0]
    rw [hm, if_neg (by omega), show i = n by omega]
  | succ d ih =>
    intro i hi
    have hr : rdOf false (marks mkB 1 a n) (i : Int) = ((Int.tmod (a + i) 3) == 0) := by
      have := marks_get mkB 1 a n i (by omega)
      simp [rdOf, List.getD_eq_getElem?_getD, List.getElem?_eq_getElem (show i < (marks mkB 1 a n).length by omega), this, mkB]
    refine Ev.step (fun k => ?_) (ih (i + 1) (by omega))
    simp only [laws_heldBoolS.l0, hr, bne_self_eq_false, Bool.false_eq_true, if_false]
    rw [hm, if_pos (by omega), if_pos (by omega), wrap_succ (by omega), wrap_id (by omega) (by omega), show a + (i : Int) + 1 = a + ((i + 1 : Nat) : Int) by omega]
def begin3 (n : Int) (l : List S88) : Bool × List S50 × List Bool := if layoutOk n l = 0 then (true, List.replicate n.toNat z50, List.replicate l.length false) else (false, [], [])
theorem specBegin_ev (n : Int) (l : List S88) : Ev (fun k => spec_Begin.f k n l) (begin3 n l) := by
  unfold spec_Begin.f
  refine Ev.bind (specLayoutOk_ev n l) ?_
  by_cases hl : layoutOk n l = 0
  · obtain ⟨hn1, hn2, hc⟩ := lay_n hl
    refine Ev.ite_pos hl (Ev.ite_pos (by omega) (Ev.ite_pos (by omega) (Ev.ite_pos (by omega) (Ev.ite_pos (by omega) ?_))))
    rw [begin3, if_pos hl]
    exact Ev.now _
  · refine Ev.ite_neg hl ?_
    rw [begin3, if_neg hl]
    exact Ev.now _
theorem implBegin_eq (n : Int) (l : List S88) : impl_Begin.f n l = some (begin3 n l) := by
  unfold impl_Begin.f impl_LayoutOk.f
  rw [Option.bind_some, begin3]
  by_cases hl : layoutOk n l = 0
  · obtain ⟨hn1, hn2, hc⟩ := lay_n hl
    rw [if_pos hl, if_pos (by omega), if_pos (by omega), if_pos (by omega), if_pos (by omega), if_pos hl]
    rfl
  · rw [if_neg hl, if_neg hl]
end Go.Proofs.Ytpdnabhpkdchjaa.P
namespace Go.Proofs.Ytpdnabhpkdchjaa.P
open Go.RowKit Go.Proofs.YtpdnabhpkdchjaaW.PrintWords Go.Proofs.YtpdnabhpkdchjaaW.PrintLast Go.Proofs.YtpdnabhpkdchjaaW.PrintMore
set_option linter.unusedVariables false
set_option linter.unusedSimpArgs false
section
variable {w : World} {base : Nat} {ok : Nat → Prop} {g n c : Nat} {l : List S50}
theorem sec_at (h : Kd.R k50 50 w base ok (.slice (some ⟨g, 0, none⟩) n c) l) (i : Int) (h0 : 0 ≤ i) (h1 : i < n) :
    w.cell? ⟨g, i.toNat * 5, none⟩ = some (.int .i64 (rd_T50 l i).f0) ∧ w.cell? ⟨g, i.toNat * 5 + 1, none⟩ = some (.int .i64 (rd_T50 l i).f1) ∧ w.cell? ⟨g, i.toNat * 5 + 2, none⟩ = some (.bool (rd_T50 l i).f2) ∧
    w.cell? ⟨g, i.toNat * 5 + 3, none⟩ = some (.bool (rd_T50 l i).f3) ∧ w.cell? ⟨g, i.toNat * 5 + 4, none⟩ = some (.int .i64 (rd_T50 l i).f4) ∧
    w.frozen? ⟨g, i.toNat * 5, none⟩ = false ∧ w.frozen? ⟨g, i.toNat * 5 + 1, none⟩ = false ∧ w.frozen? ⟨g, i.toNat * 5 + 2, none⟩ = false ∧ w.frozen? ⟨g, i.toNat * 5 + 3, none⟩ = false ∧ w.frozen? ⟨g, i.toNat * 5 + 4, none⟩ = false := by
  obtain ⟨ce, hcl, hM, hcc, hfr⟩ := Kd.R_elem h z50 i h0 h1
  obtain rfl := k50_openM hM
  exact ⟨hcc 0 _ rfl, hcc 1 _ rfl, hcc 2 _ rfl, hcc 3 _ rfl, hcc 4 _ rfl, hfr 0, hfr 1, hfr 2, hfr 3, hfr 4⟩
theorem sec_put (h : Kd.R k50 50 w base ok (.slice (some ⟨g, 0, none⟩) n c) l) (i : Int) (h0 : 0 ≤ i) (h1 : i < n) (j : Nat) (hj : j < 5) (u : Value) (x' : S50)
    (hx : ([.int .i64 (rd_T50 l i).f0, .int .i64 (rd_T50 l i).f1, .bool (rd_T50 l i).f2, .bool (rd_T50 l i).f3, .int .i64 (rd_T50 l i).f4] : List Value).take j ++ [u] ++ ([.int .i64 (rd_T50 l i).f0, .int .i64 (rd_T50 l i).f1, .bool (rd_T50 l i).f2, .bool (rd_T50 l i).f3, .int .i64 (rd_T50 l i).f4] : List Value).drop (j + 1) = [.int .i64 x'.f0, .int .i64 x'.f1, .bool x'.f2, .bool x'.f3, .int .i64 x'.f4]) :
    Kd.R k50 50 (w.setCell ⟨g, i.toNat * 5 + j, none⟩ u) base ok (.slice (some ⟨g, 0, none⟩) n c) (l.set i.toNat x') ∧ w.grownBy (w.setCell ⟨g, i.toNat * 5 + j, none⟩ u) (some g) := by
  obtain ⟨ce, hcl, hM, hcc, hfr⟩ := Kd.R_elem h z50 i h0 h1
  have hM0 := k50_openM hM
  change ce = [.int .i64 (rd_T50 l i).f0, .int .i64 (rd_T50 l i).f1, .bool (rd_T50 l i).f2, .bool (rd_T50 l i).f3, .int .i64 (rd_T50 l i).f4] at hM0
  subst hM0
  have HP := Kd.R_seg h i h0 h1 (seg := [u]) (j := j) (okp := fun k => ok k ∧ k ≠ g) hcl hcc (show j + 1 ≤ 5 by omega) (x' := x') (by
    have e : ([.int .i64 (rd_T50 l i).f0, .int .i64 (rd_T50 l i).f1, .bool (rd_T50 l i).f2, .bool (rd_T50 l i).f3, .int .i64 (rd_T50 l i).f4] : List Value).take j ++ [u] ++ ([.int .i64 (rd_T50 l i).f0, .int .i64 (rd_T50 l i).f1, .bool (rd_T50 l i).f2, .bool (rd_T50 l i).f3, .int .i64 (rd_T50 l i).f4] : List Value).drop (j + 1) = _ := hx
    show k50.M w base _ x' (_ ++ [u] ++ List.drop (j + 1) _)
    rw [e]
    exact k50_mkM _ _ _ x') (fun _ hk => hk)
  exact HP
def SecSt (base : Nat) (ok : Nat → Prop) (g n c : Nat) (l : List S50) (i : Int) (w0 w : World) (y : S50) : Prop :=
  Kd.R k50 50 w base ok (.slice (some ⟨g, 0, none⟩) n c) (l.set i.toNat y) ∧ w0.grownBy w (some g)
variable {i : Int} {w0 : World} {a0 a1 a4 : Int} {a2 a3 : Bool}
theorem SecSt.start (h : Kd.R k50 50 w base ok (.slice (some ⟨g, 0, none⟩) n c) l) (h0 : 0 ≤ i) (h1 : i < n) : SecSt base ok g n c l i w w ⟨(rd_T50 l i).f0, (rd_T50 l i).f1, (rd_T50 l i).f2, (rd_T50 l i).f3, (rd_T50 l i).f4⟩ := by
  refine ⟨?_, World.grownBy.refl w _⟩
  have hl := (Kd.R_reads' h).1
  have e : l.set i.toNat ⟨(rd_T50 l i).f0, (rd_T50 l i).f1, (rd_T50 l i).f2, (rd_T50 l i).f3, (rd_T50 l i).f4⟩ = l := by
    have hlt : i.toNat < l.length := by omega
    show l.set i.toNat (rd_T50 l i) = l
    simp only [rd_T50, List.getD_eq_getElem?_getD, List.getElem?_eq_getElem hlt, Option.getD_some, List.set_getElem_self]
  rw [e]
  exact h
theorem SecSt.put (h : SecSt base ok g n c l i w0 w ⟨a0, a1, a2, a3, a4⟩) (h0 : 0 ≤ i) (h1 : i < n) (j : Nat) (hj : j < 5) (u : Value) (x' : S50)
    (hx : ([.int .i64 a0, .int .i64 a1, .bool a2, .bool a3, .int .i64 a4] : List Value).take j ++ [u] ++ ([.int .i64 a0, .int .i64 a1, .bool a2, .bool a3, .int .i64 a4] : List Value).drop (j + 1) = [.int .i64 x'.f0, .int .i64 x'.f1, .bool x'.f2, .bool x'.f3, .int .i64 x'.f4]) :
    SecSt base ok g n c l i w0 (w.setCell ⟨g, i.toNat * 5 + j, none⟩ u) x' := by
  have hl := (Kd.R_reads' h.1).1
  have hlt : i.toNat < l.length := by simp at hl; omega
  have e : rd_T50 (l.set i.toNat ⟨a0, a1, a2, a3, a4⟩) i = ⟨a0, a1, a2, a3, a4⟩ := by
    simp [rd_T50, List.getD_eq_getElem?_getD, List.getElem?_set_self hlt]
  obtain ⟨h2, h3⟩ := sec_put h.1 i h0 h1 j hj u x' (by rw [e]; exact hx)
  rw [List.set_set] at h2
  exact ⟨h2, h.2.trans h3⟩
theorem SecSt.put0 (h : SecSt base ok g n c l i w0 w ⟨a0, a1, a2, a3, a4⟩) (h0 : 0 ≤ i) (h1 : i < n) {u : Int} {off : Nat} (ho : off = i.toNat * 5 + 0) : SecSt base ok g n c l i w0 (w.setCell ⟨g, off, none⟩ (.int .i64 u)) ⟨u, a1, a2, a3, a4⟩ := ho ▸ h.put h0 h1 0 (by omega) _ _ rfl
theorem SecSt.put1 (h : SecSt base ok g n c l i w0 w ⟨a0, a1, a2, a3, a4⟩) (h0 : 0 ≤ i) (h1 : i < n) {u : Int} {off : Nat} (ho : off = i.toNat * 5 + 1) : SecSt base ok g n c l i w0 (w.setCell ⟨g, off, none⟩ (.int .i64 u)) ⟨a0, u, a2, a3, a4⟩ := ho ▸ h.put h0 h1 1 (by omega) _ _ rfl
theorem SecSt.put2 (h : SecSt base ok g n c l i w0 w ⟨a0, a1, a2, a3, a4⟩) (h0 : 0 ≤ i) (h1 : i < n) {u : Bool} {off : Nat} (ho : off = i.toNat * 5 + 2) : SecSt base ok g n c l i w0 (w.setCell ⟨g, off, none⟩ (.bool u)) ⟨a0, a1, u, a3, a4⟩ := ho ▸ h.put h0 h1 2 (by omega) _ _ rfl
theorem SecSt.put3 (h : SecSt base ok g n c l i w0 w ⟨a0, a1, a2, a3, a4⟩) (h0 : 0 ≤ i) (h1 : i < n) {u : Bool} {off : Nat} (ho : off = i.toNat * 5 + 3) : SecSt base ok g n c l i w0 (w.setCell ⟨g, off, none⟩ (.bool u)) ⟨a0, a1, a2, u, a4⟩ := ho ▸ h.put h0 h1 3 (by omega) _ _ rfl
theorem SecSt.put4 (h : SecSt base ok g n c l i w0 w ⟨a0, a1, a2, a3, a4⟩) (h0 : 0 ≤ i) (h1 : i < n) {u : Int} {off : Nat} (ho : off = i.toNat * 5 + 4) : SecSt base ok g n c l i w0 (w.setCell ⟨g, off, none⟩ (.int .i64 u)) ⟨a0, a1, a2, a3, u⟩ := ho ▸ h.put h0 h1 4 (by omega) _ _ rfl
theorem SecSt.eq {y z : S50} (h : SecSt base ok g n c l i w0 w y) (e : z = y) : SecSt base ok g n c l i w0 w z := e ▸ h
end
def cntN (x : S50) (b : Int) : Int := if -1000000 ≤ wrap64 (x.f1 + b) ∧ wrap64 (x.f1 + b) ≤ 1000000 then wrap64 (x.f1 + b) else x.f1
def countS (x : S50) (b : Int) : S50 := ⟨x.f0, cntN x b, x.f2 || decide (cntN x b < 0), x.f3 && !(decide (cntN x b = 0) && decide (b = -1)), b⟩
theorem cnt_in {x : S50} {b : Int} (h1 : -1000000 ≤ wrap64 (x.f1 + b)) (h2 : wrap64 (x.f1 + b) ≤ 1000000) : cntN x b = wrap64 (x.f1 + b) := by unfold cntN; rw [if_pos ⟨h1, h2⟩]
theorem cnt_lo {x : S50} {b : Int} (h1 : ¬ -1000000 ≤ wrap64 (x.f1 + b)) : cntN x b = x.f1 := by unfold cntN; rw [if_neg (fun h => h1 h.1)]
theorem cnt_hi {x : S50} {b : Int} (h1 : ¬ wrap64 (x.f1 + b) ≤ 1000000) : cntN x b = x.f1 := by unfold cntN; rw [if_neg (fun h => h1 h.2)]
theorem countS_eq {x : S50} {b C : Int} {lost sw : Bool} (hC : cntN x b = C) (hl : (x.f2 || decide (C < 0)) = lost) (hs : (x.f3 && !(decide (C = 0) && decide (b = -1))) = sw) : countS x b = ⟨x.f0, C, lost, sw, b⟩ := by
  unfold countS
  rw [hC, hl, hs]
theorem cnt_out (s b : Int) (v : Value) (w : World) (h : s < 0) : Calls Try.prog 130 #[.int .i64 s, .int .i64 b, v] w fun e w' => e = .returned (.tuple #[]) ∧ w = w' := by
  have h1 : decide (s < 0) = true := decide_eq_true h
  go_enter Try.func130, Try.ntmps130
  go_wp2
  refine bodyPost_ret (results_none rfl _ _ _) rfl ?_
  exact ⟨rfl, rfl⟩
set_option maxHeartbeats 4000000 in
set_option maxRecDepth 100000 in
theorem cnt_calls (s b : Int) (bo : Bool) (g gr n c : Nat) (v2 : Value) (l : List S50) (w : World) (base : Nat) (ok : Nat → Prop) (h0 : 0 ≤ s) (h1 : s < n)
    (hb : w.heap[g]? = some (.cells #[.bool bo, .slice (some ⟨gr, 0, none⟩) n c, v2] 46 (0, 0))) (HO : Kd.R k50 50 w base ok (.slice (some ⟨gr, 0, none⟩) n c) l) :
    Calls Try.prog 130 #[.int .i64 s, .int .i64 b, .pointer (some ⟨g, 0, none⟩)] w fun e w' => e = .returned (.tuple #[]) ∧ Kd.R k50 50 w' base ok (.slice (some ⟨gr, 0, none⟩) n c) (l.set s.toNat (countS (rd_T50 l s) b)) ∧ w.grownBy w' (some gr) := by
  obtain ⟨x0, x1, x2, x3, x4, f0, f1, f2, f3, f4⟩ := sec_at HO s h0 h1
  have hc1 : w.cell? ⟨g, 1, none⟩ = some (.slice (some ⟨gr, 0, none⟩) n c) := (blk_cell hb 1).trans rfl
  have hs : decide (s < 0) = false := decide_eq_false (by omega)
  have H0 := Aside0.mk h0
  have H1 := Aside0.mk h1
  have HO2 := Aside0.mk HO
  have hp0 := eq_true h0
  have hp1 := eq_true h1
  have ST := Aside0.mk (SecSt.start HO H0.out H1.out)
  generalize hx : rd_T50 l s = x at x0 x1 x2 x3 x4 ST ⊢
  have HX := hx
  clear hx hb h0 h1 HO HO2 HX
  by_cases q1 : -1000000 ≤ wrap64 (x.f1 + b)
  · skip
    have f1 : decide (wrap64 (x.f1 + b) ≥ -1000000) = true := decide_eq_true q1
    have Q1 := Aside0.mk q1
    clear q1
    by_cases q2 : wrap64 (x.f1 + b) ≤ 1000000
    · skip
      have f2 : decide (wrap64 (x.f1 + b) ≤ 1000000) = true := decide_eq_true q2
      have Q2 := Aside0.mk q2
      clear q2
      by_cases q3 : wrap64 (x.f1 + b) < 0
      · skip
        have f3 : decide (wrap64 (x.f1 + b) < 0) = true := decide_eq_true q3
        have Q3 := Aside0.mk q3
        clear q3
        rcases Bool.eq_false_or_eq_true x.f3 with q4 | q4
        · skip
          by_cases q5 : wrap64 (x.f1 + b) = 0
          · skip
            have f5 : (wrap64 (x.f1 + b) == 0) = true := beq_iff_eq.mpr q5
            have Q5 := Aside0.mk q5
            clear q5
            exact absurd Q5.out (by have := Q3.out; omega)
          · skip
            have f5 : (wrap64 (x.f1 + b) == 0) = false := beq_eq_false_iff_ne.mpr q5
            have Q5 := Aside0.mk q5
            clear q5
            go_enter Try.func130, Try.ntmps130
            go_wp2
            go_end0
            exact ⟨rfl, SecSt.eq (((ST.out.put1 H0.out H1.out rfl).put4 H0.out H1.out rfl).put2 H0.out H1.out rfl) (countS_eq (cnt_in (by have := Q1.out; omega) (by have := Q2.out; omega)) (by rw [decide_eq_true (by have := Q3.out; omega)]; simp) (by rw [decide_eq_false (by have := Q5.out; omega)]; simp))⟩
        · have Q4 := Aside0.mk q4
          go_enter Try.func130, Try.ntmps130
          go_wp2
          go_end0
          exact ⟨rfl, SecSt.eq (((ST.out.put1 H0.out H1.out rfl).put4 H0.out H1.out rfl).put2 H0.out H1.out rfl) (countS_eq (cnt_in (by have := Q1.out; omega) (by have := Q2.out; omega)) (by rw [decide_eq_true (by have := Q3.out; omega)]; simp) (by rw [Q4.out]; rfl))⟩
      · skip
        have f3 : decide (wrap64 (x.f1 + b) < 0) = false := decide_eq_false q3
        have Q3 := Aside0.mk q3
        clear q3
        rcases Bool.eq_false_or_eq_true x.f3 with q4 | q4
        · skip
          by_cases q5 : wrap64 (x.f1 + b) = 0
          · skip
            have f5 : (wrap64 (x.f1 + b) == 0) = true := beq_iff_eq.mpr q5
            have Q5 := Aside0.mk q5
            clear q5
            by_cases q6 : b = -1
            · skip
              have f6 : (b == -1) = true := beq_iff_eq.mpr q6
              have Q6 := Aside0.mk q6
              clear q6
              go_enter Try.func130, Try.ntmps130
              go_wp2
              go_end0
              exact ⟨rfl, SecSt.eq (((ST.out.put1 H0.out H1.out rfl).put4 H0.out H1.out rfl).put3 H0.out H1.out rfl) (countS_eq (cnt_in (by have := Q1.out; omega) (by have := Q2.out; omega)) (by rw [decide_eq_false (by have := Q3.out; omega)]; simp) (by rw [decide_eq_true (by have := Q5.out; omega), decide_eq_true (by have := Q6.out; omega)]; simp))⟩
            · skip
              have f6 : (b == -1) = false := beq_eq_false_iff_ne.mpr q6
              have Q6 := Aside0.mk q6
              clear q6
              go_enter Try.func130, Try.ntmps130
              go_wp2
              go_end0
              exact ⟨rfl, SecSt.eq ((ST.out.put1 H0.out H1.out rfl).put4 H0.out H1.out rfl) (countS_eq (cnt_in (by have := Q1.out; omega) (by have := Q2.out; omega)) (by rw [decide_eq_false (by have := Q3.out; omega)]; simp) (by rw [decide_eq_false (show ¬ b = -1 from Q6.out)]; simp))⟩
          · skip
            have f5 : (wrap64 (x.f1 + b) == 0) = false := beq_eq_false_iff_ne.mpr q5
            have Q5 := Aside0.mk q5
            clear q5
            go_enter Try.func130, Try.ntmps130
            go_wp2
            go_end0
            exact ⟨rfl, SecSt.eq ((ST.out.put1 H0.out H1.out rfl).put4 H0.out H1.out rfl) (countS_eq (cnt_in (by have := Q1.out; omega) (by have := Q2.out; omega)) (by rw [decide_eq_false (by have := Q3.out; omega)]; simp) (by rw [decide_eq_false (by have := Q5.out; omega)]; simp))⟩
        · have Q4 := Aside0.mk q4
          go_enter Try.func130, Try.ntmps130
          go_wp2
          go_end0
          exact ⟨rfl, SecSt.eq ((ST.out.put1 H0.out H1.out rfl).put4 H0.out H1.out rfl) (countS_eq (cnt_in (by have := Q1.out; omega) (by have := Q2.out; omega)) (by rw [decide_eq_false (by have := Q3.out; omega)]; simp) (by rw [Q4.out]; rfl))⟩
    · skip
      have f2 : decide (wrap64 (x.f1 + b) ≤ 1000000) = false := decide_eq_false q2
      have Q2 := Aside0.mk q2
      clear q2
      by_cases q3 : x.f1 < 0
      · skip
        have f3 : decide (x.f1 < 0) = true := decide_eq_true q3
        have Q3 := Aside0.mk q3
        clear q3
        rcases Bool.eq_false_or_eq_true x.f3 with q4 | q4
        · skip
          by_cases q5 : x.f1 = 0
          · skip
            have f5 : (x.f1 == 0) = true := beq_iff_eq.mpr q5
            have Q5 := Aside0.mk q5
            clear q5
            exact absurd Q5.out (by have := Q3.out; omega)
          · skip
            have f5 : (x.f1 == 0) = false := beq_eq_false_iff_ne.mpr q5
            have Q5 := Aside0.mk q5
            clear q5
            go_enter Try.func130, Try.ntmps130
            go_wp2
            go_end0
            exact ⟨rfl, SecSt.eq ((ST.out.put4 H0.out H1.out rfl).put2 H0.out H1.out rfl) (countS_eq (cnt_hi (by have := Q2.out; omega)) (by rw [decide_eq_true (by have := Q3.out; omega)]; simp) (by rw [decide_eq_false (by have := Q5.out; omega)]; simp))⟩
        · have Q4 := Aside0.mk q4
          go_enter Try.func130, Try.ntmps130
          go_wp2
          go_end0
          exact ⟨rfl, SecSt.eq ((ST.out.put4 H0.out H1.out rfl).put2 H0.out H1.out rfl) (countS_eq (cnt_hi (by have := Q2.out; omega)) (by rw [decide_eq_true (by have := Q3.out; omega)]; simp) (by rw [Q4.out]; rfl))⟩
      · skip
        have f3 : decide (x.f1 < 0) = false := decide_eq_false q3
        have Q3 := Aside0.mk q3
        clear q3
        rcases Bool.eq_false_or_eq_true x.f3 with q4 | q4
        · skip
          by_cases q5 : x.f1 = 0
          · skip
            have f5 : (x.f1 == 0) = true := beq_iff_eq.mpr q5
            have Q5 := Aside0.mk q5
            clear q5
            by_cases q6 : b = -1
            · skip
              have f6 : (b == -1) = true := beq_iff_eq.mpr q6
              have Q6 := Aside0.mk q6
              clear q6
              go_enter Try.func130, Try.ntmps130
              go_wp2
              go_end0
              exact ⟨rfl, SecSt.eq ((ST.out.put4 H0.out H1.out rfl).put3 H0.out H1.out rfl) (countS_eq (cnt_hi (by have := Q2.out; omega)) (by rw [decide_eq_false (by have := Q3.out; omega)]; simp) (by rw [decide_eq_true (by have := Q5.out; omega), decide_eq_true (by have := Q6.out; omega)]; simp))⟩
            · skip
              have f6 : (b == -1) = false := beq_eq_false_iff_ne.mpr q6
              have Q6 := Aside0.mk q6
              clear q6
              go_enter Try.func130, Try.ntmps130
              go_wp2
              go_end0
              exact ⟨rfl, SecSt.eq (ST.out.put4 H0.out H1.out rfl) (countS_eq (cnt_hi (by have := Q2.out; omega)) (by rw [decide_eq_false (by have := Q3.out; omega)]; simp) (by rw [decide_eq_false (show ¬ b = -1 from Q6.out)]; simp))⟩
          · skip
            have f5 : (x.f1 == 0) = false := beq_eq_false_iff_ne.mpr q5
            have Q5 := Aside0.mk q5
            clear q5
            go_enter Try.func130, Try.ntmps130
            go_wp2
            go_end0
            exact ⟨rfl, SecSt.eq (ST.out.put4 H0.out H1.out rfl) (countS_eq (cnt_hi (by have := Q2.out; omega)) (by rw [decide_eq_false (by have := Q3.out; omega)]; simp) (by rw [decide_eq_false (by have := Q5.out; omega)]; simp))⟩
        · have Q4 := Aside0.mk q4
          go_enter Try.func130, Try.ntmps130
          go_wp2
          go_end0
          exact ⟨rfl, SecSt.eq (ST.out.put4 H0.out H1.out rfl) (countS_eq (cnt_hi (by have := Q2.out; omega)) (by rw [decide_eq_false (by have := Q3.out; omega)]; simp) (by rw [Q4.out]; rfl))⟩
  · skip
    have f1 : decide (wrap64 (x.f1 + b) ≥ -1000000) = false := decide_eq_false q1
    have Q1 := Aside0.mk q1
    clear q1
    by_cases q3 : x.f1 < 0
    · skip
      have f3 : decide (x.f1 < 0) = true := decide_eq_true q3
      have Q3 := Aside0.mk q3
      clear q3
      rcases Bool.eq_false_or_eq_true x.f3 with q4 | q4
      · skip
        by_cases q5 : x.f1 = 0
        · skip
          have f5 : (x.f1 == 0) = true := beq_iff_eq.mpr q5
          have Q5 := Aside0.mk q5
          clear q5
          exact absurd Q5.out (by have := Q3.out; omega)
        · skip
          have f5 : (x.f1 == 0) = false := beq_eq_false_iff_ne.mpr q5
          have Q5 := Aside0.mk q5
          clear q5
          go_enter Try.func130, Try.ntmps130
          go_wp2
          go_end0
          exact ⟨rfl, SecSt.eq ((ST.out.put4 H0.out H1.out rfl).put2 H0.out H1.out rfl) (countS_eq (cnt_lo (by have := Q1.out; omega)) (by rw [decide_eq_true (by have := Q3.out; omega)]; simp) (by rw [decide_eq_false (by have := Q5.out; omega)]; simp))⟩
      · have Q4 := Aside0.mk q4
        go_enter Try.func130, Try.ntmps130
        go_wp2
        go_end0
        exact ⟨rfl, SecSt.eq ((ST.out.put4 H0.out H1.out rfl).put2 H0.out H1.out rfl) (countS_eq (cnt_lo (by have := Q1.out; omega)) (by rw [decide_eq_true (by have := Q3.out; omega)]; simp) (by rw [Q4.out]; rfl))⟩
    · skip
      have f3 : decide (x.f1 < 0) = false := decide_eq_false q3
      have Q3 := Aside0.mk q3
      clear q3
      rcases Bool.eq_false_or_eq_true x.f3 with q4 | q4
      · skip
        by_cases q5 : x.f1 = 0
        · skip
          have f5 : (x.f1 == 0) = true := beq_iff_eq.mpr q5
          have Q5 := Aside0.mk q5
          clear q5
          by_cases q6 : b = -1
          · skip
            have f6 : (b == -1) = true := beq_iff_eq.mpr q6
            have Q6 := Aside0.mk q6
            clear q6
            go_enter Try.func130, Try.ntmps130
            go_wp2
            go_end0
            exact ⟨rfl, SecSt.eq ((ST.out.put4 H0.out H1.out rfl).put3 H0.out H1.out rfl) (countS_eq (cnt_lo (by have := Q1.out; omega)) (by rw [decide_eq_false (by have := Q3.out; omega)]; simp) (by rw [decide_eq_true (by have := Q5.out; omega), decide_eq_true (by have := Q6.out; omega)]; simp))⟩
          · skip
            have f6 : (b == -1) = false := beq_eq_false_iff_ne.mpr q6
            have Q6 := Aside0.mk q6
            clear q6
            go_enter Try.func130, Try.ntmps130
            go_wp2
            go_end0
            exact ⟨rfl, SecSt.eq (ST.out.put4 H0.out H1.out rfl) (countS_eq (cnt_lo (by have := Q1.out; omega)) (by rw [decide_eq_false (by have := Q3.out; omega)]; simp) (by rw [decide_eq_false (show ¬ b = -1 from Q6.out)]; simp))⟩
        · skip
          have f5 : (x.f1 == 0) = false := beq_eq_false_iff_ne.mpr q5
          have Q5 := Aside0.mk q5
          clear q5
          go_enter Try.func130, Try.ntmps130
          go_wp2
          go_end0
          exact ⟨rfl, SecSt.eq (ST.out.put4 H0.out H1.out rfl) (countS_eq (cnt_lo (by have := Q1.out; omega)) (by rw [decide_eq_false (by have := Q3.out; omega)]; simp) (by rw [decide_eq_false (by have := Q5.out; omega)]; simp))⟩
      · have Q4 := Aside0.mk q4
        go_enter Try.func130, Try.ntmps130
        go_wp2
        go_end0
        exact ⟨rfl, SecSt.eq (ST.out.put4 H0.out H1.out rfl) (countS_eq (cnt_lo (by have := Q1.out; omega)) (by rw [decide_eq_false (by have := Q3.out; omega)]; simp) (by rw [Q4.out]; rfl))⟩
end Go.Proofs.Ytpdnabhpkdchjaa.P
namespace Go.Proofs.Ytpdnabhpkdchjaa.P
open Go.RowKit Go.Proofs.YtpdnabhpkdchjaaW.PrintWords Go.Proofs.YtpdnabhpkdchjaaW.PrintLast Go.Proofs.YtpdnabhpkdchjaaW.PrintMore
set_option linter.unusedVariables false
theorem R_off {α : Type} {d : Kd α} {e : Nat} {w : World} {base : Nat} {ok : Nat → Prop} {v : Value} {xs : List α} (hE : d.E = []) (h : d.R e w base ok v xs) {p : Addr} (hne : some p.block ≠ v.ownBlock) (u : Value) : d.R e (w.setCell p u) base (fun _ => True) v xs :=
  Kd.R_mono (Kd.R_far (Kd.R_tight hE h) (fun k hk hp => hne (hp ▸ hk)) u) (fun _ _ => trivial)
theorem R_on {α : Type} {d : Kd α} {e : Nat} {w w' : World} {base : Nat} {ok : Nat → Prop} {v : Value} {xs : List α} (hE : d.E = []) (h : d.R e w base ok v xs) {row : Option Nat} (hg : w.grownBy w' row) (hne : row ≠ v.ownBlock) : d.R e w' base (fun _ => True) v xs :=
  Kd.R_mono (Kd.R_step (Kd.R_tight hE h) (fun k hk hlt => hg.block k hlt (fun c => hne (c ▸ hk)))) (fun _ _ => trivial)
theorem R_up {α : Type} {d : Kd α} {e : Nat} {w w' : World} {base : Nat} {ok : Nat → Prop} {v : Value} {xs : List α} (h : d.R e w base ok v xs) (hb : Below w.heap.size w w') : d.R e w' base (fun _ => True) v xs :=
  Kd.R_mono (Kd.R_step h (fun k hk hlt => hb.block k hlt)) (fun _ _ => trivial)
end Go.Proofs.Ytpdnabhpkdchjaa.P
