/- The statement FnExactRun holds of the given program, for every argument; there are no conditions. (Part 4 of 6.) -/
import Derived.Test.YtpdnabhpkdchjaaBFnExactRun3
import Derived.Lib.SliceRun
namespace Go.Proofs.Ytpdnabhpkdchjaa.P
open Go.RowKit Go.Proofs.YtpdnabhpkdchjaaW.PrintWords Go.Proofs.YtpdnabhpkdchjaaW.PrintLast Go.Proofs.YtpdnabhpkdchjaaW.PrintMore
attribute [local go_sem] max2_int min2_int max_two min_two max_three min_three max_four min_four
set_option linter.unusedVariables false
set_option linter.unusedSimpArgs false
def laws_eqDone.f (k : Nat) (a0_0 : Int) (a0_1 : Bool) (l0_2 : List (S50)) (l0_3 : List Bool) (a1_0 : Int) (a1_1 : Bool) (l1_2 : List (S50)) (l1_3 : List Bool) : Option (Bool):=if a0_0 = a1_0 then ((laws_eqState.f k a0_1 l0_2 l0_3 a1_1 l1_2 l1_3).bind fun t889=>(if t889 = true then (some true) else (some false))) else (some false)
set_option maxHeartbeats 8000000 in
set_option maxRecDepth 100000 in
theorem laws_eqDone.calls (k : Nat) (a0_0 : Int) (a0_1 : Bool) (A0_2 : Option Addr) (c0_2 : Nat) (l0_2 : List (S50)) (A0_3 : Option Addr) (c0_3 : Nat) (l0_3 : List Bool) (a1_0 : Int) (a1_1 : Bool) (A1_2 : Option Addr) (c1_2 : Nat) (l1_2 : List (S50)) (A1_3 : Option Addr) (c1_3 : Nat) (l1_3 : List Bool) (r : Bool) (w : World) (hr0_2 : Kd.C k50 w A0_2 l0_2.length l0_2) (hc0_2 : l0_2.length ≤ c0_2) (hr0_3 : Kd.C Kd.bool w A0_3 l0_3.length l0_3) (hc0_3 : l0_3.length ≤ c0_3) (hr1_2 : Kd.C k50 w A1_2 l1_2.length l1_2) (hc1_2 : l1_2.length ≤ c1_2) (hr1_3 : Kd.C Kd.bool w A1_3 l1_3.length l1_3) (hc1_3 : l1_3.length ≤ c1_3) (h : laws_eqDone.f k a0_0 a0_1 l0_2 l0_3 a1_0 a1_1 l1_2 l1_3 = some r) :
  Calls Try.prog 71 #[.agg #[.int .i64 a0_0,.bool a0_1,.slice A0_2 l0_2.length c0_2,.slice A0_3 l0_3.length c0_3],.agg #[.int .i64 a1_0,.bool a1_1,.slice A1_2 l1_2.length c1_2,.slice A1_3 l1_3.length c1_3]] w fun e w'=>e = .returned (.bool r)∧Below w.heap.size w w':=by
 have hu48:=Try.underlying48
 have hu46:=Try.underlying46
 have HR0_2:=Aside0.mk hr0_2
 have HC0_2:=Aside0.mk hc0_2
 clear hr0_2 hc0_2
 have HR0_3:=Aside0.mk hr0_3
 have HC0_3:=Aside0.mk hc0_3
 clear hr0_3 hc0_3
 have HR1_2:=Aside0.mk hr1_2
 have HC1_2:=Aside0.mk hc1_2
 clear hr1_2 hc1_2
 have HR1_3:=Aside0.mk hr1_3
 have HC1_3:=Aside0.mk hc1_3
 clear hr1_3 hc1_3
 have HB:=Aside0.mk (Below.refl w.heap.size w)
 have H : (if a0_0 = a1_0 then ((laws_eqState.f k a0_1 l0_2 l0_3 a1_1 l1_2 l1_3).bind fun t889=>(if t889 = true then (some true) else (some false))) else (some false)) = some r:=h
 clear h
 by_cases c3 : a0_0 = a1_0
 ·rw [if_pos c3] at H
  have c3b0 : (a0_0 == a1_0) = true:=beq_iff_eq.mpr c3
  have c3b1 : (a0_0 != a1_0) = false:=bne_eq_false_iff_eq.mpr c3
  clear c3
  replace H:=Option.bind_eq_some_iff.mp H
  obtain ⟨t889,A40,H⟩:=H
  replace H : (if t889 = true then (some true) else (some false)) = some r:=H
  have A4:=Aside0.mk A40
  clear A40
  by_cases c5 : t889 = true
  ·subst c5
   have H1 : (some true) = some r:=by rw [if_pos rfl] at H;exact H
   clear H
   have H:=H1
   clear H1
   obtain rfl:=Option.some.inj H
   go_enter Try.func71,Try.ntmps71
   go_wp2_with (first|((with_reducible refine gate_dst (N:=2) rfl ?_);refine box_event ?hg (N:=2) ?hd (cs:=#[.int .i64 a0_0,.bool a0_1,.slice A0_2 l0_2.length c0_2,.slice A0_3 l0_3.length c0_3]) (t:=48) ?hr ?_;(case hd=>rfl);(case hg=>rfl);(case hr=>first|(go_simp;done)|(go_simp;rfl));intro gb887 hg w6 hbox hb;have n0_:=Aside0.mk (below_step (by repeat (first|(with_reducible first|exact HB.out|apply below_alloc|apply pw_below_drewN|apply below_drew1)|exact HB.out)) hb);have n1_:=Aside0.mk (hbox);have n2_:=Aside0.mk ((by rw [hg];exact (below_size (by repeat (first|(with_reducible first|exact HB.out|apply below_alloc|apply pw_below_drewN|apply below_drew1)|exact HB.out))) : w.heap.size ≤ gb887));have n3_:=Aside0.mk ((by rw [hg];exact (below_size (by repeat (first|(with_reducible first|exact HB.out|apply below_alloc|apply pw_below_drewN|apply below_drew1)|exact HB.out))) : w.heap.size ≤ gb887));clear HB;have HB:=n0_;have BK887:=n1_;have GW887:=n2_;have GE887:=n3_;clear n0_ n1_ n2_ n3_;clear hb hbox hg)|((with_reducible refine gate_dst (N:=3) rfl ?_);refine box_event ?hg (N:=3) ?hd (cs:=#[.int .i64 a1_0,.bool a1_1,.slice A1_2 l1_2.length c1_2,.slice A1_3 l1_3.length c1_3]) (t:=48) ?hr ?_;(case hd=>rfl);(case hg=>rfl);(case hr=>first|(go_simp;done)|(go_simp;rfl));intro gb888 hg w7 hbox hb;have n0_:=Aside0.mk (blk_below (g:=gb887) (o:=.cells #[.int .i64 a0_0,.bool a0_1,.slice A0_2 l0_2.length c0_2,.slice A0_3 l0_3.length c0_3] 48 (0,0)) (by (with_reducible repeat (first|refine blk_drewN ?_ _|refine blk_drew ?_|refine blk_alloc ?_ _));exact BK887.out) hb);have n1_:=Aside0.mk (below_step (by repeat (first|(with_reducible first|exact HB.out|apply below_alloc|apply pw_below_drewN|apply below_drew1|refine below_set ?_ GE887.out)|exact HB.out)) hb);have n2_:=Aside0.mk (hbox);have n3_:=Aside0.mk ((by rw [hg];exact (below_size (by repeat (first|(with_reducible first|exact HB.out|apply below_alloc|apply pw_below_drewN|apply below_drew1|refine below_set ?_ GE887.out)|exact HB.out))) : w.heap.size ≤ gb888));have n4_:=Aside0.mk ((by rw [hg];exact (below_size (by repeat (first|(with_reducible first|exact HB.out|apply below_alloc|apply pw_below_drewN|apply below_drew1|refine below_set ?_ GE887.out)|exact HB.out))) : w.heap.size ≤ gb888));have n5_:=Aside0.mk ((by rw [hg];exact Nat.ne_of_lt (blk_lt (g:=gb887) (o:=.cells #[.int .i64 a0_0,.bool a0_1,.slice A0_2 l0_2.length c0_2,.slice A0_3 l0_3.length c0_3] 48 (0,0)) (by (with_reducible repeat (first|refine blk_drewN ?_ _|refine blk_drew ?_|refine blk_alloc ?_ _));exact BK887.out)) : gb887 ≠ gb888));have n6_:=Aside0.mk ((by rw [hg];exact Nat.ne_of_gt (blk_lt (g:=gb887) (o:=.cells #[.int .i64 a0_0,.bool a0_1,.slice A0_2 l0_2.length c0_2,.slice A0_3 l0_3.length c0_3] 48 (0,0)) (by (with_reducible repeat (first|refine blk_drewN ?_ _|refine blk_drew ?_|refine blk_alloc ?_ _));exact BK887.out)) : gb888 ≠ gb887));clear BK887;clear HB;have BK887:=n0_;have HB:=n1_;have BK888:=n2_;have GW888:=n3_;have GE888:=n4_;have NB887_888:=n5_;have NB888_887:=n6_;clear n0_ n1_ n2_ n3_ n4_ n5_ n6_;clear hb hbox hg;have hnb8:=NB887_888.out;have hnc8:=NB888_887.out;have hcz9_0 : w7.cell? ⟨gb887,0,none⟩ = some (.int .i64 a0_0):=(blk_cell BK887.out 0).trans rfl;have hcz9_1 : w7.cell? ⟨gb887,1,none⟩ = some (.bool a0_1):=(blk_cell BK887.out 1).trans rfl;have hcz9_2 : w7.cell? ⟨gb887,2,none⟩ = some (.slice A0_2 l0_2.length c0_2):=(blk_cell BK887.out 2).trans rfl;have hcz9_3 : w7.cell? ⟨gb887,3,none⟩ = some (.slice A0_3 l0_3.length c0_3):=(blk_cell BK887.out 3).trans rfl;have hfz9_0:=blk_frozen BK887.out 0;have hfz9_1:=blk_frozen BK887.out 1;have hfz9_2:=blk_frozen BK887.out 2;have hfz9_3:=blk_frozen BK887.out 3;have hcz10_0 : w7.cell? ⟨gb888,0,none⟩ = some (.int .i64 a1_0):=(blk_cell BK888.out 0).trans rfl;have hcz10_1 : w7.cell? ⟨gb888,1,none⟩ = some (.bool a1_1):=(blk_cell BK888.out 1).trans rfl;have hcz10_2 : w7.cell? ⟨gb888,2,none⟩ = some (.slice A1_2 l1_2.length c1_2):=(blk_cell BK888.out 2).trans rfl;have hcz10_3 : w7.cell? ⟨gb888,3,none⟩ = some (.slice A1_3 l1_3.length c1_3):=(blk_cell BK888.out 3).trans rfl;have hfz10_0:=blk_frozen BK888.out 0;have hfz10_1:=blk_frozen BK888.out 1;have hfz10_2:=blk_frozen BK888.out 2;have hfz10_3:=blk_frozen BK888.out 3)|((with_reducible refine gate_callee (f:=45) rfl ?_);refine goesL_ (some 14) rfl rfl Try.func45 (by kernel_rfl) rfl #[.agg #[.bool a0_1,.slice A0_2 l0_2.length c0_2,.slice A0_3 l0_3.length c0_3],.agg #[.bool a1_1,.slice A1_2 l1_2.length c1_2,.slice A1_3 l1_3.length c1_3]] rfl (by (try simp only [List.map_toArray,List.map_cons,List.map_nil]);first|done|rfl|(simp only [List.length_drop,List.length_take];rfl)) ?_;(with_reducible refine (laws_eqState.calls k a0_1 _ _ l0_2 _ _ l0_3 a1_1 _ _ l1_2 _ _ l1_3 true _ ?side1 ?side2 ?side3 ?side4 ?side5 ?side6 ?side7 ?side8 A4.out).mono ?_);(case side1=>repeat (first|exact (Kd.C_below HR0_2.out HB.out)|(with_reducible refine Kd.C_alloc ?_ _)|(with_reducible refine Kd.C_drewN ?_ _)|(with_reducible refine Kd.C_drew ?_)));(case side2=>exact HC0_2.out);(case side3=>repeat (first|exact (Kd.C_below HR0_3.out HB.out)|(with_reducible refine Kd.C_alloc ?_ _)|(with_reducible refine Kd.C_drewN ?_ _)|(with_reducible refine Kd.C_drew ?_)));(case side4=>exact HC0_3.out);(case side5=>repeat (first|exact (Kd.C_below HR1_2.out HB.out)|(with_reducible refine Kd.C_alloc ?_ _)|(with_reducible refine Kd.C_drewN ?_ _)|(with_reducible refine Kd.C_drew ?_)));(case side6=>exact HC1_2.out);(case side7=>repeat (first|exact (Kd.C_below HR1_3.out HB.out)|(with_reducible refine Kd.C_alloc ?_ _)|(with_reducible refine Kd.C_drewN ?_ _)|(with_reducible refine Kd.C_drew ?_)));(case side8=>exact HC1_3.out);rintro e w11 ⟨rfl,hb⟩;refine ⟨_,rfl,?_⟩;have n0_:=Aside0.mk (blk_below (g:=gb887) (o:=.cells #[.int .i64 a0_0,.bool a0_1,.slice A0_2 l0_2.length c0_2,.slice A0_3 l0_3.length c0_3] 48 (0,0)) (by (with_reducible repeat (first|refine blk_drewN ?_ _|refine blk_drew ?_|refine blk_alloc ?_ _));exact BK887.out) hb);have n1_:=Aside0.mk (blk_below (g:=gb888) (o:=.cells #[.int .i64 a1_0,.bool a1_1,.slice A1_2 l1_2.length c1_2,.slice A1_3 l1_3.length c1_3] 48 (0,0)) (by (with_reducible repeat (first|refine blk_drewN ?_ _|refine blk_drew ?_|refine blk_alloc ?_ _));exact BK888.out) hb);have n2_:=Aside0.mk (below_step (by repeat (first|(with_reducible first|exact HB.out|apply below_alloc|apply pw_below_drewN|apply below_drew1|refine below_set ?_ GE887.out|refine below_set ?_ GE888.out)|exact HB.out)) hb);clear BK887;clear BK888;clear HB;have BK887:=n0_;have BK888:=n1_;have HB:=n2_;clear n0_ n1_ n2_;(try clear hb);(try clear hb2);(try clear hk);(try clear hi)))
   go_ret
   exact ⟨by first|rfl|(simp [errW_none,errW_some] <;> rfl)|(simp [*,errW_none,errW_some] <;> rfl),by repeat (first|(with_reducible first|exact HB.out|apply below_alloc|apply pw_below_drewN|apply below_drew1|refine below_set ?_ GE887.out|refine below_set ?_ GE888.out)|exact HB.out)⟩
  ·replace c5:=Bool.eq_false_iff.mpr c5
   subst c5
   have H1 : (some false) = some r:=by rw [if_neg (show ¬ (false = true) by decide)] at H;exact H
   clear H
   have H:=H1
   clear H1
   obtain rfl:=Option.some.inj H
   go_enter Try.func71,Try.ntmps71
   go_wp2_with (first|((with_reducible refine gate_dst (N:=2) rfl ?_);refine box_event ?hg (N:=2) ?hd (cs:=#[.int .i64 a0_0,.bool a0_1,.slice A0_2 l0_2.length c0_2,.slice A0_3 l0_3.length c0_3]) (t:=48) ?hr ?_;(case hd=>rfl);(case hg=>rfl);(case hr=>first|(go_simp;done)|(go_simp;rfl));intro gb887 hg w12 hbox hb;have n0_:=Aside0.mk (below_step (by repeat (first|(with_reducible first|exact HB.out|apply below_alloc|apply pw_below_drewN|apply below_drew1)|exact HB.out)) hb);have n1_:=Aside0.mk (hbox);have n2_:=Aside0.mk ((by rw [hg];exact (below_size (by repeat (first|(with_reducible first|exact HB.out|apply below_alloc|apply pw_below_drewN|apply below_drew1)|exact HB.out))) : w.heap.size ≤ gb887));have n3_:=Aside0.mk ((by rw [hg];exact (below_size (by repeat (first|(with_reducible first|exact HB.out|apply below_alloc|apply pw_below_drewN|apply below_drew1)|exact HB.out))) : w.heap.size ≤ gb887));clear HB;have HB:=n0_;have BK887:=n1_;have GW887:=n2_;have GE887:=n3_;clear n0_ n1_ n2_ n3_;clear hb hbox hg)|((with_reducible refine gate_dst (N:=3) rfl ?_);refine box_event ?hg (N:=3) ?hd (cs:=#[.int .i64 a1_0,.bool a1_1,.slice A1_2 l1_2.length c1_2,.slice A1_3 l1_3.length c1_3]) (t:=48) ?hr ?_;(case hd=>rfl);(case hg=>rfl);(case hr=>first|(go_simp;done)|(go_simp;rfl));intro gb888 hg w13 hbox hb;have n0_:=Aside0.mk (blk_below (g:=gb887) (o:=.cells #[.int .i64 a0_0,.bool a0_1,.slice A0_2 l0_2.length c0_2,.slice A0_3 l0_3.length c0_3] 48 (0,0)) (by (with_reducible repeat (first|refine blk_drewN ?_ _|refine blk_drew ?_|refine blk_alloc ?_ _));exact BK887.out) hb);have n1_:=Aside0.mk (below_step (by repeat (first|(with_reducible first|exact HB.out|apply below_alloc|apply pw_below_drewN|apply below_drew1|refine below_set ?_ GE887.out)|exact HB.out)) hb);have n2_:=Aside0.mk (hbox);have n3_:=Aside0.mk ((by rw [hg];exact (below_size (by repeat (first|(with_reducible first|exact HB.out|apply below_alloc|apply pw_below_drewN|apply below_drew1|refine below_set ?_ GE887.out)|exact HB.out))) : w.heap.size ≤ gb888));have n4_:=Aside0.mk ((by rw [hg];exact (below_size (by repeat (first|(with_reducible first|exact HB.out|apply below_alloc|apply pw_below_drewN|apply below_drew1|refine below_set ?_ GE887.out)|exact HB.out))) : w.heap.size ≤ gb888));have n5_:=Aside0.mk ((by rw [hg];exact Nat.ne_of_lt (blk_lt (g:=gb887) (o:=.cells #[.int .i64 a0_0,.bool a0_1,.slice A0_2 l0_2.length c0_2,.slice A0_3 l0_3.length c0_3] 48 (0,0)) (by (with_reducible repeat (first|refine blk_drewN ?_ _|refine blk_drew ?_|refine blk_alloc ?_ _));exact BK887.out)) : gb887 ≠ gb888));have n6_:=Aside0.mk ((by rw [hg];exact Nat.ne_of_gt (blk_lt (g:=gb887) (o:=.cells #[.int .i64 a0_0,.bool a0_1,.slice A0_2 l0_2.length c0_2,.slice A0_3 l0_3.length c0_3] 48 (0,0)) (by (with_reducible repeat (first|refine blk_drewN ?_ _|refine blk_drew ?_|refine blk_alloc ?_ _));exact BK887.out)) : gb888 ≠ gb887));clear BK887;clear HB;have BK887:=n0_;have HB:=n1_;have BK888:=n2_;have GW888:=n3_;have GE888:=n4_;have NB887_888:=n5_;have NB888_887:=n6_;clear n0_ n1_ n2_ n3_ n4_ n5_ n6_;clear hb hbox hg;have hnb14:=NB887_888.out;have hnc14:=NB888_887.out;have hcz15_0 : w13.cell? ⟨gb887,0,none⟩ = some (.int .i64 a0_0):=(blk_cell BK887.out 0).trans rfl;have hcz15_1 : w13.cell? ⟨gb887,1,none⟩ = some (.bool a0_1):=(blk_cell BK887.out 1).trans rfl;have hcz15_2 : w13.cell? ⟨gb887,2,none⟩ = some (.slice A0_2 l0_2.length c0_2):=(blk_cell BK887.out 2).trans rfl;have hcz15_3 : w13.cell? ⟨gb887,3,none⟩ = some (.slice A0_3 l0_3.length c0_3):=(blk_cell BK887.out 3).trans rfl;have hfz15_0:=blk_frozen BK887.out 0;have hfz15_1:=blk_frozen BK887.out 1;have hfz15_2:=blk_frozen BK887.out 2;have hfz15_3:=blk_frozen BK887.out 3;have hcz16_0 : w13.cell? ⟨gb888,0,none⟩ = some (.int .i64 a1_0):=(blk_cell BK888.out 0).trans rfl;have hcz16_1 : w13.cell? ⟨gb888,1,none⟩ = some (.bool a1_1):=(blk_cell BK888.out 1).trans rfl;have hcz16_2 : w13.cell? ⟨gb888,2,none⟩ = some (.slice A1_2 l1_2.length c1_2):=(blk_cell BK888.out 2).trans rfl;have hcz16_3 : w13.cell? ⟨gb888,3,none⟩ = some (.slice A1_3 l1_3.length c1_3):=(blk_cell BK888.out 3).trans rfl;have hfz16_0:=blk_frozen BK888.out 0;have hfz16_1:=blk_frozen BK888.out 1;have hfz16_2:=blk_frozen BK888.out 2;have hfz16_3:=blk_frozen BK888.out 3)|((with_reducible refine gate_callee (f:=45) rfl ?_);refine goesL_ (some 14) rfl rfl Try.func45 (by kernel_rfl) rfl #[.agg #[.bool a0_1,.slice A0_2 l0_2.length c0_2,.slice A0_3 l0_3.length c0_3],.agg #[.bool a1_1,.slice A1_2 l1_2.length c1_2,.slice A1_3 l1_3.length c1_3]] rfl (by (try simp only [List.map_toArray,List.map_cons,List.map_nil]);first|done|rfl|(simp only [List.length_drop,List.length_take];rfl)) ?_;(with_reducible refine (laws_eqState.calls k a0_1 _ _ l0_2 _ _ l0_3 a1_1 _ _ l1_2 _ _ l1_3 false _ ?side1 ?side2 ?side3 ?side4 ?side5 ?side6 ?side7 ?side8 A4.out).mono ?_);(case side1=>repeat (first|exact (Kd.C_below HR0_2.out HB.out)|(with_reducible refine Kd.C_alloc ?_ _)|(with_reducible refine Kd.C_drewN ?_ _)|(with_reducible refine Kd.C_drew ?_)));(case side2=>exact HC0_2.out);(case side3=>repeat (first|exact (Kd.C_below HR0_3.out HB.out)|(with_reducible refine Kd.C_alloc ?_ _)|(with_reducible refine Kd.C_drewN ?_ _)|(with_reducible refine Kd.C_drew ?_)));(case side4=>exact HC0_3.out);(case side5=>repeat (first|exact (Kd.C_below HR1_2.out HB.out)|(with_reducible refine Kd.C_alloc ?_ _)|(with_reducible refine Kd.C_drewN ?_ _)|(with_reducible refine Kd.C_drew ?_)));(case side6=>exact HC1_2.out);(case side7=>repeat (first|exact (Kd.C_below HR1_3.out HB.out)|(with_reducible refine Kd.C_alloc ?_ _)|(with_reducible refine Kd.C_drewN ?_ _)|(with_reducible refine Kd.C_drew ?_)));(case side8=>exact HC1_3.out);rintro e w17 ⟨rfl,hb⟩;refine ⟨_,rfl,?_⟩;have n0_:=Aside0.mk (blk_below (g:=gb887) (o:=.cells #[.int .i64 a0_0,.bool a0_1,.slice A0_2 l0_2.length c0_2,.slice A0_3 l0_3.length c0_3] 48 (0,0)) (by (with_reducible repeat (first|refine blk_drewN ?_ _|refine blk_drew ?_|refine blk_alloc ?_ _));exact BK887.out) hb);have n1_:=Aside0.mk (blk_below (g:=gb888) (o:=.cells #[.int .i64 a1_0,.bool a1_1,.slice A1_2 l1_2.length c1_2,.slice A1_3 l1_3.length c1_3] 48 (0,0)) (by (with_reducible repeat (first|refine blk_drewN ?_ _|refine blk_drew ?_|refine blk_alloc ?_ _));exact BK888.out) hb);have n2_:=Aside0.mk (below_step (by repeat (first|(with_reducible first|exact HB.out|apply below_alloc|apply pw_below_drewN|apply below_drew1|refine below_set ?_ GE887.out|refine below_set ?_ GE888.out)|exact HB.out)) hb);clear BK887;clear BK888;clear HB;have BK887:=n0_;have BK888:=n1_;have HB:=n2_;clear n0_ n1_ n2_;(try clear hb);(try clear hb2);(try clear hk);(try clear hi)))
   go_ret
   exact ⟨by first|rfl|(simp [errW_none,errW_some] <;> rfl)|(simp [*,errW_none,errW_some] <;> rfl),by repeat (first|(with_reducible first|exact HB.out|apply below_alloc|apply pw_below_drewN|apply below_drew1|refine below_set ?_ GE887.out|refine below_set ?_ GE888.out)|exact HB.out)⟩
 ·rw [if_neg c3] at H
  have c3b0 : (a0_0 == a1_0) = false:=beq_eq_false_iff_ne.mpr c3
  have c3b1 : (a0_0 != a1_0) = true:=bne_iff_ne.mpr c3
  obtain rfl:=Option.some.inj H
  go_enter Try.func71,Try.ntmps71
  go_wp2_with (first|((with_reducible refine gate_dst (N:=2) rfl ?_);refine box_event ?hg (N:=2) ?hd (cs:=#[.int .i64 a0_0,.bool a0_1,.slice A0_2 l0_2.length c0_2,.slice A0_3 l0_3.length c0_3]) (t:=48) ?hr ?_;(case hd=>rfl);(case hg=>rfl);(case hr=>first|(go_simp;done)|(go_simp;rfl));intro gb887 hg w18 hbox hb;have n0_:=Aside0.mk (below_step (by repeat (first|(with_reducible first|exact HB.out|apply below_alloc|apply pw_below_drewN|apply below_drew1)|exact HB.out)) hb);have n1_:=Aside0.mk (hbox);have n2_:=Aside0.mk ((by rw [hg];exact (below_size (by repeat (first|(with_reducible first|exact HB.out|apply below_alloc|apply pw_below_drewN|apply below_drew1)|exact HB.out))) : w.heap.size ≤ gb887));have n3_:=Aside0.mk ((by rw [hg];exact (below_size (by repeat (first|(with_reducible first|exact HB.out|apply below_alloc|apply pw_below_drewN|apply below_drew1)|exact HB.out))) : w.heap.size ≤ gb887));clear HB;have HB:=n0_;have BK887:=n1_;have GW887:=n2_;have GE887:=n3_;clear n0_ n1_ n2_ n3_;clear hb hbox hg)|((with_reducible refine gate_dst (N:=3) rfl ?_);refine box_event ?hg (N:=3) ?hd (cs:=#[.int .i64 a1_0,.bool a1_1,.slice A1_2 l1_2.length c1_2,.slice A1_3 l1_3.length c1_3]) (t:=48) ?hr ?_;(case hd=>rfl);(case hg=>rfl);(case hr=>first|(go_simp;done)|(go_simp;rfl));intro gb888 hg w19 hbox hb;have n0_:=Aside0.mk (blk_below (g:=gb887) (o:=.cells #[.int .i64 a0_0,.bool a0_1,.slice A0_2 l0_2.length c0_2,.slice A0_3 l0_3.length c0_3] 48 (0,0)) (by (with_reducible repeat (first|refine blk_drewN ?_ _|refine blk_drew ?_|refine blk_alloc ?_ _));exact BK887.out) hb);have n1_:=Aside0.mk (below_step (by repeat (first|(with_reducible first|exact HB.out|apply below_alloc|apply pw_below_drewN|apply below_drew1|refine below_set ?_ GE887.out)|exact HB.out)) hb);have n2_:=Aside0.mk (hbox);have n3_:=Aside0.mk ((by rw [hg];exact (below_size (by repeat (first|(with_reducible first|exact HB.out|apply below_alloc|apply pw_below_drewN|apply below_drew1|refine below_set ?_ GE887.out)|exact HB.out))) : w.heap.size ≤ gb888));have n4_:=Aside0.mk ((by rw [hg];exact (below_size (by repeat (first|(with_reducible first|exact HB.out|apply below_alloc|apply pw_below_drewN|apply below_drew1|refine below_set ?_ GE887.out)|exact HB.out))) : w.heap.size ≤ gb888));have n5_:=Aside0.mk ((by rw [hg];exact Nat.ne_of_lt (blk_lt (g:=gb887) (o:=.cells #[.int .i64 a0_0,.bool a0_1,.slice A0_2 l0_2.length c0_2,.slice A0_3 l0_3.length c0_3] 48 (0,0)) (by (with_reducible repeat (first|refine blk_drewN ?_ _|refine blk_drew ?_|refine blk_alloc ?_ _));exact BK887.out)) : gb887 ≠ gb888));have n6_:=Aside0.mk ((by rw [hg];exact Nat.ne_of_gt (blk_lt (g:=gb887) (o:=.cells #[.int .i64 a0_0,.bool a0_1,.slice A0_2 l0_2.length c0_2,.slice A0_3 l0_3.length c0_3] 48 (0,0)) (by (with_reducible repeat (first|refine blk_drewN ?_ _|refine blk_drew ?_|refine blk_alloc ?_ _));exact BK887.out)) : gb888 ≠ gb887));clear BK887;clear HB;have BK887:=n0_;have HB:=n1_;have BK888:=n2_;have GW888:=n3_;have GE888:=n4_;have NB887_888:=n5_;have NB888_887:=n6_;clear n0_ n1_ n2_ n3_ n4_ n5_ n6_;clear hb hbox hg;have hnb20:=NB887_888.out;have hnc20:=NB888_887.out;have hcz21_0 : w19.cell? ⟨gb887,0,none⟩ = some (.int .i64 a0_0):=(blk_cell BK887.out 0).trans rfl;have hcz21_1 : w19.cell? ⟨gb887,1,none⟩ = some (.bool a0_1):=(blk_cell BK887.out 1).trans rfl;have hcz21_2 : w19.cell? ⟨gb887,2,none⟩ = some (.slice A0_2 l0_2.length c0_2):=(blk_cell BK887.out 2).trans rfl;have hcz21_3 : w19.cell? ⟨gb887,3,none⟩ = some (.slice A0_3 l0_3.length c0_3):=(blk_cell BK887.out 3).trans rfl;have hfz21_0:=blk_frozen BK887.out 0;have hfz21_1:=blk_frozen BK887.out 1;have hfz21_2:=blk_frozen BK887.out 2;have hfz21_3:=blk_frozen BK887.out 3;have hcz22_0 : w19.cell? ⟨gb888,0,none⟩ = some (.int .i64 a1_0):=(blk_cell BK888.out 0).trans rfl;have hcz22_1 : w19.cell? ⟨gb888,1,none⟩ = some (.bool a1_1):=(blk_cell BK888.out 1).trans rfl;have hcz22_2 : w19.cell? ⟨gb888,2,none⟩ = some (.slice A1_2 l1_2.length c1_2):=(blk_cell BK888.out 2).trans rfl;have hcz22_3 : w19.cell? ⟨gb888,3,none⟩ = some (.slice A1_3 l1_3.length c1_3):=(blk_cell BK888.out 3).trans rfl;have hfz22_0:=blk_frozen BK888.out 0;have hfz22_1:=blk_frozen BK888.out 1;have hfz22_2:=blk_frozen BK888.out 2;have hfz22_3:=blk_frozen BK888.out 3))
  go_ret
  exact ⟨by first|rfl|(simp [errW_none,errW_some] <;> rfl)|(simp [*,errW_none,errW_some] <;> rfl),by repeat (first|(with_reducible first|exact HB.out|apply below_alloc|apply pw_below_drewN|apply below_drew1|refine below_set ?_ GE887.out|refine below_set ?_ GE888.out)|exact HB.out)⟩
end Go.Proofs.Ytpdnabhpkdchjaa.P
namespace Go.Proofs.Ytpdnabhpkdchjaa.P
open Go.RowKit Go.Proofs.YtpdnabhpkdchjaaW.PrintWords Go.Proofs.YtpdnabhpkdchjaaW.PrintLast Go.Proofs.YtpdnabhpkdchjaaW.PrintMore
attribute [local go_sem] max2_int min2_int max_two min_two max_three min_three max_four min_four
set_option linter.unusedVariables false
set_option linter.unusedSimpArgs false
def laws_eqDoneS.l0 : Nat → List (S48) → List (S48) → Int → Option (Bool)
 | 0,_,_,_=>none
 | k + 1,x0,x1,x5=>if x5 < (x0.length : Int) then (if 0 ≤ x5 then (if x5 < (x1.length : Int) then ((laws_eqDone.f k ((rd_T48 x0 x5).f0) ((rd_T48 x0 x5).f1.f0) ((rd_T48 x0 x5).f1.f1) ((rd_T48 x0 x5).f1.f2) ((rd_T48 x1 x5).f0) ((rd_T48 x1 x5).f1.f0) ((rd_T48 x1 x5).f1.f1) ((rd_T48 x1 x5).f1.f2)).bind fun t1056=>(if t1056 = true then (laws_eqDoneS.l0 k x0 x1 (wrap64 (x5 + 1))) else (some false))) else (none)) else (none)) else (some true)
def laws_eqDoneS.f (k : Nat) (l0 : List (S48)) (l1 : List (S48)) : Option (Bool):=if (l0.length : Int) = (l1.length : Int) then (laws_eqDoneS.l0 k l0 l1 0) else (some false)
def laws_eqDoneS.T6 : Bool × List (List Nat × List Nat):=(true,[([],[]),([],[]),([0,1],[0,1]),([2],[2]),([],[]),([],[]),([4,5],[4,5]),([6],[6]),([3,7],[3,7]),([8],[8])])
def laws_eqDoneS.B6 : List Nat:=[0,0,3,7,0,0,48,112,255,511]
theorem laws_eqDoneS.tab6 : rtab .any (opsOf Try.f76 6) = laws_eqDoneS.T6:=by kernel_rfl
theorem laws_eqDoneS.bits6 : waitsOk laws_eqDoneS.T6.2 laws_eqDoneS.B6 = true:=by kernel_rfl
set_option maxHeartbeats 8000000 in
set_option maxRecDepth 100000 in
theorem laws_eqDoneS.calls (k : Nat) (A0 : Option Addr) (c0 : Nat) (l0 : List (S48)) (A1 : Option Addr) (c1 : Nat) (l1 : List (S48)) (r : Bool) (w : World) (hr0 : Kd.C k48 w A0 l0.length l0) (hc0 : l0.length ≤ c0) (hr1 : Kd.C k48 w A1 l1.length l1) (hc1 : l1.length ≤ c1) (h : laws_eqDoneS.f k l0 l1 = some r) :
  Calls Try.prog 76 #[.slice A0 l0.length c0,.slice A1 l1.length c1] w fun e w'=>e = .returned (.bool r)∧Below w.heap.size w w':=by
 have hu48:=Try.underlying48
 have HR0:=Aside0.mk hr0
 have HC0:=Aside0.mk hc0
 clear hr0 hc0
 have HR1:=Aside0.mk hr1
 have HC1:=Aside0.mk hc1
 clear hr1 hc1
 have HB:=Aside0.mk (Below.refl w.heap.size w)
 have H : (if (l0.length : Int) = (l1.length : Int) then (laws_eqDoneS.l0 k l0 l1 0) else (some false)) = some r:=h
 clear h
 by_cases c3 : (l0.length : Int) = (l1.length : Int)
 ·rw [if_pos c3] at H
  have c3b0 : ((l0.length : Int) == (l1.length : Int)) = true:=beq_iff_eq.mpr c3
  have c3b1 : ((l0.length : Int) != (l1.length : Int)) = false:=bne_eq_false_iff_eq.mpr c3
  have c3b2 : (l0.length == l1.length) = true:=by first|simpa using c3|(simp at c3 ⊢;omega)
  clear c3
  have H':=Aside0.mk H
  clear H
  go_enter Try.func76,Try.ntmps76
  go_wp2
  go_loopg [5] k (fun kq v5 w'=>∃ (x5_1 : Int),v5 = .int .i64 x5_1∧Aside0 (laws_eqDoneS.l0 kq l0 l1 x5_1 = some r)∧Aside0 (kq ≤ k)∧Aside0 (Below w.heap.size w w'))
  case atStart=>exact ⟨(0),(by first|rfl|(simp;done)|(simp [*];done)),H',⟨Nat.le_refl _⟩,⟨by repeat (first|(with_reducible first|exact HB.out|apply below_alloc|apply pw_below_drewN|apply below_drew1)|exact HB.out)⟩⟩
  case round =>
   clear H'
   try clear c1
   try clear p2
   try clear c3
   try clear c3b0
   try clear c3b1
   try clear c3b2
   obtain ⟨x5_1,rfl,HA,HK1,HB⟩:=hrel
   cases gk with
   | zero=>exact absurd HA.out (by simp [laws_eqDoneS.l0])
   | succ k1 =>
    have H:=HA.out
    clear HA
    simp only [laws_eqDoneS.l0] at H
    by_cases c4 : x5_1 < (l0.length : Int)
    ·rw [if_pos c4] at H
     have c4b0 : decide (x5_1 < (l0.length : Int)) = true:=decide_eq_true c4
     clear c4
     by_cases c5 : 0 ≤ x5_1
     ·rw [if_pos c5] at H
      have c5b0 : decide (0 ≤ x5_1) = true:=decide_eq_true c5
      clear c5
      by_cases c6 : x5_1 < (l1.length : Int)
      ·rw [if_pos c6] at H
       have c6b0 : decide (x5_1 < (l1.length : Int)) = true:=decide_eq_true c6
       clear c6
       replace H:=Option.bind_eq_some_iff.mp H
       obtain ⟨t1056,A70,H⟩:=H
       replace H : (if t1056 = true then (laws_eqDoneS.l0 k1 l0 l1 (wrap64 (x5_1 + 1))) else (some false)) = some r:=H
       have A7:=Aside0.mk A70
       clear A70
       by_cases c8 : t1056 = true
       ·subst c8
        have H1 : (laws_eqDoneS.l0 k1 l0 l1 (wrap64 (x5_1 + 1))) = some r:=by rw [if_pos rfl] at H;exact H
        clear H
        have H:=H1
        clear H1
        have H':=Aside0.mk H
        clear H
        try go_wp2
        have n0_:=Aside0.mk (below_drew1 HB.out)
        clear HB
        have HB:=n0_
        clear n0_
        have p1054 : 0 ≤ (x5_1 : Int):=of_decide_eq_true (by first|(with_reducible assumption)|assumption)
        have q1054 : x5_1 < (l0.length : Int):=of_decide_eq_true (by first|(with_reducible assumption)|assumption)
        obtain ⟨ad1054,A1054_2,c1054_2,A1054_3,c1054_3,e1054,hx1054_0,hx1054_1,hx1054_2,hx1054_3,hl1054_2,hi1054_2,hl1054_3,hi1054_3⟩:=at_T48 HR0.out x5_1 p1054 q1054
        have hw1054_3:=hx1054_3
        have hw1054_2:=hx1054_2
        have hw1054_1:=hx1054_1
        have hw1054_0:=hx1054_0
        cases e1054
        replace hx1054_0:=(HB.out.cell (World.block_lt_of_cell? w _ hx1054_0)).trans hx1054_0
        replace hx1054_1:=(HB.out.cell (World.block_lt_of_cell? w _ hx1054_1)).trans hx1054_1
        replace hx1054_2:=(HB.out.cell (World.block_lt_of_cell? w _ hx1054_2)).trans hx1054_2
        replace hx1054_3:=(HB.out.cell (World.block_lt_of_cell? w _ hx1054_3)).trans hx1054_3
        have HR1054_2:=Aside0.mk hi1054_2
        have HC1054_2:=Aside0.mk hl1054_2
        clear hi1054_2 hl1054_2
        have HR1054_3:=Aside0.mk hi1054_3
        have HC1054_3:=Aside0.mk hl1054_3
        clear hi1054_3 hl1054_3
        replace p1054:=eq_true p1054
        replace q1054:=eq_true q1054
        have p1055 : 0 ≤ (x5_1 : Int):=of_decide_eq_true (by first|(with_reducible assumption)|assumption)
        have q1055 : x5_1 < (l1.length : Int):=of_decide_eq_true (by first|(with_reducible assumption)|assumption)
        obtain ⟨ad1055,A1055_2,c1055_2,A1055_3,c1055_3,e1055,hx1055_0,hx1055_1,hx1055_2,hx1055_3,hl1055_2,hi1055_2,hl1055_3,hi1055_3⟩:=at_T48 HR1.out x5_1 p1055 q1055
        have hw1055_3:=hx1055_3
        have hw1055_2:=hx1055_2
        have hw1055_1:=hx1055_1
        have hw1055_0:=hx1055_0
        cases e1055
        replace hx1055_0:=(HB.out.cell (World.block_lt_of_cell? w _ hx1055_0)).trans hx1055_0
        replace hx1055_1:=(HB.out.cell (World.block_lt_of_cell? w _ hx1055_1)).trans hx1055_1
        replace hx1055_2:=(HB.out.cell (World.block_lt_of_cell? w _ hx1055_2)).trans hx1055_2
        replace hx1055_3:=(HB.out.cell (World.block_lt_of_cell? w _ hx1055_3)).trans hx1055_3
        have HR1055_2:=Aside0.mk hi1055_2
        have HC1055_2:=Aside0.mk hl1055_2
        clear hi1055_2 hl1055_2
        have HR1055_3:=Aside0.mk hi1055_3
        have HC1055_3:=Aside0.mk hl1055_3
        clear hi1055_3 hl1055_3
        replace p1055:=eq_true p1055
        replace q1055:=eq_true q1055
        refine start_ (n:=10) (S:=fun w'=>w'.cell? (ad1054.add ((x5_1).toNat * 4)) = some (.int .i64 ((rd_T48 l0 x5_1).f0))∧w'.cell? ⟨(ad1054.add ((x5_1).toNat * 4)).block,(ad1054.add ((x5_1).toNat * 4)).off + 1,none⟩ = some (.bool ((rd_T48 l0 x5_1).f1.f0))∧w'.cell? ⟨(ad1054.add ((x5_1).toNat * 4)).block,(ad1054.add ((x5_1).toNat * 4)).off + 2,none⟩ = some (.slice A1054_2 ((rd_T48 l0 x5_1).f1.f1).length c1054_2)∧w'.cell? ⟨(ad1054.add ((x5_1).toNat * 4)).block,(ad1054.add ((x5_1).toNat * 4)).off + 3,none⟩ = some (.slice A1054_3 ((rd_T48 l0 x5_1).f1.f2).length c1054_3)∧w'.cell? (ad1055.add ((x5_1).toNat * 4)) = some (.int .i64 ((rd_T48 l1 x5_1).f0))∧w'.cell? ⟨(ad1055.add ((x5_1).toNat * 4)).block,(ad1055.add ((x5_1).toNat * 4)).off + 1,none⟩ = some (.bool ((rd_T48 l1 x5_1).f1.f0))∧w'.cell? ⟨(ad1055.add ((x5_1).toNat * 4)).block,(ad1055.add ((x5_1).toNat * 4)).off + 2,none⟩ = some (.slice A1055_2 ((rd_T48 l1 x5_1).f1.f1).length c1055_2)∧w'.cell? ⟨(ad1055.add ((x5_1).toNat * 4)).block,(ad1055.add ((x5_1).toNat * 4)).off + 3,none⟩ = some (.slice A1055_3 ((rd_T48 l1 x5_1).f1.f2).length c1055_3)) (ds:=[]) #[false,false,false,false,false,false,false,false,false,false] (by kernel_rfl) rfl rfl ⟨((HB.out.cell (World.block_lt_of_cell? w _ hw1054_0)).trans hw1054_0),((HB.out.cell (World.block_lt_of_cell? w _ hw1054_1)).trans hw1054_1),((HB.out.cell (World.block_lt_of_cell? w _ hw1054_2)).trans hw1054_2),((HB.out.cell (World.block_lt_of_cell? w _ hw1054_3)).trans hw1054_3),((HB.out.cell (World.block_lt_of_cell? w _ hw1055_0)).trans hw1055_0),((HB.out.cell (World.block_lt_of_cell? w _ hw1055_1)).trans hw1055_1),((HB.out.cell (World.block_lt_of_cell? w _ hw1055_2)).trans hw1055_2),((HB.out.cell (World.block_lt_of_cell? w _ hw1055_3)).trans hw1055_3)⟩ (fun hHeld=>?_);refine with_tabW laws_eqDoneS.tab6 laws_eqDoneS.bits6 (fun HT_ HW_=>?_)
        generalize wr.drew = w9 at HB HR1054_2 HR1054_3 HR1055_2 HR1055_3 hx1054_0 hx1054_1 hx1054_2 hx1054_3 hx1055_0 hx1055_1 hx1055_2 hx1055_3 hHeld ⊢
        refine pure_ (i:=0) (N:=some 17) (v:=?_) (a':=?_) #[true,false,false,false,false,false,false,false,false,false] rfl rfl (any_of HT_.out (by kernel_rfl)) (fun _ _ _ h=>h) (Or.inl ⟨by rfl,?_⟩) ?_ ?_
        rotate_left
        ·intro w'
         go_simp
         with_reducible rfl
        rotate_left
        ·simp only [Act.put,List.setIfInBounds_toArray,List.set_cons_zero,List.set_cons_succ,i64_w,i32_w]
         rfl
        refine pure_ (i:=1) (N:=some 18) (v:=?_) (a':=?_) #[true,true,false,false,false,false,false,false,false,false] rfl rfl (any_of HT_.out (by kernel_rfl)) (fun _ _ _ h=>h) (Or.inl ⟨by rfl,?_⟩) ?_ ?_
        rotate_left
        ·intro w'
         go_simp
         with_reducible rfl
        rotate_left
        ·simp only [Act.put,List.setIfInBounds_toArray,List.set_cons_zero,List.set_cons_succ,i64_w,i32_w]
         rfl
        refine pure_ (i:=2) (N:=some 19) (v:=?_) (a':=?_) #[true,true,true,false,false,false,false,false,false,false] rfl rfl (any_of HT_.out (by kernel_rfl)) (fun _ _ _ h=>h) (Or.inl ⟨by rfl,?_⟩) ?_ ?_
        rotate_left
        ·intro w'
         go_simp
         with_reducible rfl
        rotate_left
        ·simp only [Act.put,List.setIfInBounds_toArray,List.set_cons_zero,List.set_cons_succ,i64_w,i32_w]
         rfl
        refine pure_ (i:=4) (N:=some 21) (v:=?_) (a':=?_) #[true,true,true,false,true,false,false,false,false,false] rfl rfl (any_of HT_.out (by kernel_rfl)) (fun _ _ _ h=>h) (Or.inl ⟨by rfl,?_⟩) ?_ ?_
        rotate_left
        ·intro w'
         go_simp
         with_reducible rfl
        rotate_left
        ·simp only [Act.put,List.setIfInBounds_toArray,List.set_cons_zero,List.set_cons_succ,i64_w,i32_w]
         rfl
        refine pure_ (i:=5) (N:=some 22) (v:=?_) (a':=?_) #[true,true,true,false,true,true,false,false,false,false] rfl rfl (any_of HT_.out (by kernel_rfl)) (fun _ _ _ h=>h) (Or.inl ⟨by rfl,?_⟩) ?_ ?_
        rotate_left
        ·intro w'
         go_simp
         with_reducible rfl
        rotate_left
        ·simp only [Act.put,List.setIfInBounds_toArray,List.set_cons_zero,List.set_cons_succ,i64_w,i32_w]
         rfl
        refine pure_ (i:=6) (N:=some 23) (v:=?_) (a':=?_) #[true,true,true,false,true,true,true,false,false,false] rfl rfl (any_of HT_.out (by kernel_rfl)) (fun _ _ _ h=>h) (Or.inl ⟨by rfl,?_⟩) ?_ ?_
        rotate_left
        ·intro w'
         go_simp
         with_reducible rfl
        rotate_left
        ·simp only [Act.put,List.setIfInBounds_toArray,List.set_cons_zero,List.set_cons_succ,i64_w,i32_w]
         rfl
        refine take_ (i:=3) (N:=some 20) (v:=?_) (a':=?_) #[true,true,true,true,true,true,true,false,false,false] rfl rfl (take_ofW HT_.out HW_.out (by kernel_rfl)) (fun _ _ _ h=>h) (Or.inl ⟨by rfl,?_⟩) hHeld ?_ ?_
        rotate_left
        ·rintro w' ⟨s0,s1,s2,s3,s4,s5,s6,s7⟩
         go_simp
         with_reducible rfl
        rotate_left
        ·simp only [Act.put,List.setIfInBounds_toArray,List.set_cons_zero,List.set_cons_succ,i64_w,i32_w]
         rfl
        refine take_ (i:=7) (N:=some 24) (v:=?_) (a':=?_) #[true,true,true,true,true,true,true,true,false,false] rfl rfl (take_ofW HT_.out HW_.out (by kernel_rfl)) (fun _ _ _ h=>h) (Or.inl ⟨by rfl,?_⟩) hHeld ?_ ?_
        rotate_left
        ·rintro w' ⟨s0,s1,s2,s3,s4,s5,s6,s7⟩
         go_simp
         with_reducible rfl
        rotate_left
        ·simp only [Act.put,List.setIfInBounds_toArray,List.set_cons_zero,List.set_cons_succ,i64_w,i32_w]
         rfl
        refine one_ (i:=8) (N:=some 25) #[true,true,true,true,true,true,true,true,true,false] rfl rfl (one_of HT_.out (by kernel_rfl)) (by decide) (fun K hK=>?_)
        refine goes_ Try.func71 (by kernel_rfl) rfl #[.agg #[.int .i64 ((rd_T48 l0 x5_1).f0),.bool ((rd_T48 l0 x5_1).f1.f0),.slice A1054_2 ((rd_T48 l0 x5_1).f1.f1).length c1054_2,.slice A1054_3 ((rd_T48 l0 x5_1).f1.f2).length c1054_3],.agg #[.int .i64 ((rd_T48 l1 x5_1).f0),.bool ((rd_T48 l1 x5_1).f1.f0),.slice A1055_2 ((rd_T48 l1 x5_1).f1.f1).length c1055_2,.slice A1055_3 ((rd_T48 l1 x5_1).f1.f2).length c1055_3]] (by rfl) rfl rfl (by (try simp only [List.map_toArray,List.map_cons,List.map_nil]);first|done|rfl|(simp only [List.length_drop,List.length_take];rfl)) ?_
        with_reducible refine (laws_eqDone.calls k1 ((rd_T48 l0 x5_1).f0) ((rd_T48 l0 x5_1).f1.f0) _ _ ((rd_T48 l0 x5_1).f1.f1) _ _ ((rd_T48 l0 x5_1).f1.f2) ((rd_T48 l1 x5_1).f0) ((rd_T48 l1 x5_1).f1.f0) _ _ ((rd_T48 l1 x5_1).f1.f1) _ _ ((rd_T48 l1 x5_1).f1.f2) true _ ?side1 ?side2 ?side3 ?side4 ?side5 ?side6 ?side7 ?side8 A7.out).mono ?_
        (case side1=>repeat (first|exact (Kd.C_below HR1054_2.out HB.out)|(with_reducible refine Kd.C_alloc ?_ _)|(with_reducible refine Kd.C_drewN ?_ _)|(with_reducible refine Kd.C_drew ?_)))
        (case side2=>exact HC1054_2.out)
        (case side3=>repeat (first|exact (Kd.C_below HR1054_3.out HB.out)|(with_reducible refine Kd.C_alloc ?_ _)|(with_reducible refine Kd.C_drewN ?_ _)|(with_reducible refine Kd.C_drew ?_)))
        (case side4=>exact HC1054_3.out)
        (case side5=>repeat (first|exact (Kd.C_below HR1055_2.out HB.out)|(with_reducible refine Kd.C_alloc ?_ _)|(with_reducible refine Kd.C_drewN ?_ _)|(with_reducible refine Kd.C_drew ?_)))
        (case side6=>exact HC1055_2.out)
        (case side7=>repeat (first|exact (Kd.C_below HR1055_3.out HB.out)|(with_reducible refine Kd.C_alloc ?_ _)|(with_reducible refine Kd.C_drewN ?_ _)|(with_reducible refine Kd.C_drew ?_)))
        (case side8=>exact HC1055_3.out)
        rintro e w10 ⟨rfl,hb⟩
        refine ⟨_,rfl,?_⟩
        have n0_:=Aside0.mk (below_step (by repeat (first|(with_reducible first|exact HB.out|apply below_alloc|apply pw_below_drewN|apply below_drew1)|exact HB.out)) hb)
        clear HB
        have HB:=n0_
        clear n0_
        (try clear hb)
        (try clear hb2)
        (try clear hk)
        (try clear hi)
        refine hK.out _ _ ⟨((HB.out.cell (World.block_lt_of_cell? w _ hw1054_0)).trans hw1054_0),((HB.out.cell (World.block_lt_of_cell? w _ hw1054_1)).trans hw1054_1),((HB.out.cell (World.block_lt_of_cell? w _ hw1054_2)).trans hw1054_2),((HB.out.cell (World.block_lt_of_cell? w _ hw1054_3)).trans hw1054_3),((HB.out.cell (World.block_lt_of_cell? w _ hw1055_0)).trans hw1055_0),((HB.out.cell (World.block_lt_of_cell? w _ hw1055_1)).trans hw1055_1),((HB.out.cell (World.block_lt_of_cell? w _ hw1055_2)).trans hw1055_2),((HB.out.cell (World.block_lt_of_cell? w _ hw1055_3)).trans hw1055_3)⟩ (fun hHeld=>?_)
        clear hK K
        refine norm_ (a':=?_) ?_ ?_
        rotate_left
        ·show Act.put _ (some 25) _ = _
         simp only [Act.put,List.setIfInBounds_toArray,List.set_cons_zero,List.set_cons_succ,i64_w,i32_w]
         rfl
        refine pure_ (i:=9) (N:=some 26) (v:=?_) (a':=?_) #[true,true,true,true,true,true,true,true,true,true] rfl rfl (any_of HT_.out (by kernel_rfl)) (fun _ _ _ h=>h) (Or.inl ⟨by rfl,?_⟩) ?_ ?_
        rotate_left
        ·intro w'
         go_simp
         with_reducible rfl
        rotate_left
        ·simp only [Act.put,List.setIfInBounds_toArray,List.set_cons_zero,List.set_cons_succ,i64_w,i32_w]
         rfl
        refine done_ (done_of HT_.out (by kernel_rfl)) ?_
        try go_wp2
        go_roundg k1
        case measure=>have:=HK1.out;omega
        case rel=>exact ⟨(wrap64 (x5_1 + 1)),(by first|rfl|(simp;done)|(simp [*];done)),H',⟨by have:=HK1.out;omega⟩,⟨by repeat (first|(with_reducible first|exact HB.out|apply below_alloc|apply pw_below_drewN|apply below_drew1)|exact HB.out)⟩⟩
       ·replace c8:=Bool.eq_false_iff.mpr c8
        subst c8
        have H1 : (some false) = some r:=by rw [if_neg (show ¬ (false = true) by decide)] at H;exact H
        clear H
        have H:=H1
        clear H1
        obtain rfl:=Option.some.inj H
        try go_wp2
        have n0_:=Aside0.mk (below_drew1 HB.out)
        clear HB
        have HB:=n0_
        clear n0_
        have p1054 : 0 ≤ (x5_1 : Int):=of_decide_eq_true (by first|(with_reducible assumption)|assumption)
        have q1054 : x5_1 < (l0.length : Int):=of_decide_eq_true (by first|(with_reducible assumption)|assumption)
        obtain ⟨ad1054,A1054_2,c1054_2,A1054_3,c1054_3,e1054,hx1054_0,hx1054_1,hx1054_2,hx1054_3,hl1054_2,hi1054_2,hl1054_3,hi1054_3⟩:=at_T48 HR0.out x5_1 p1054 q1054
        have hw1054_3:=hx1054_3
        have hw1054_2:=hx1054_2
        have hw1054_1:=hx1054_1
        have hw1054_0:=hx1054_0
        cases e1054
        replace hx1054_0:=(HB.out.cell (World.block_lt_of_cell? w _ hx1054_0)).trans hx1054_0
        replace hx1054_1:=(HB.out.cell (World.block_lt_of_cell? w _ hx1054_1)).trans hx1054_1
        replace hx1054_2:=(HB.out.cell (World.block_lt_of_cell? w _ hx1054_2)).trans hx1054_2
        replace hx1054_3:=(HB.out.cell (World.block_lt_of_cell? w _ hx1054_3)).trans hx1054_3
        have HR1054_2:=Aside0.mk hi1054_2
        have HC1054_2:=Aside0.mk hl1054_2
        clear hi1054_2 hl1054_2
        have HR1054_3:=Aside0.mk hi1054_3
        have HC1054_3:=Aside0.mk hl1054_3
        clear hi1054_3 hl1054_3
        replace p1054:=eq_true p1054
        replace q1054:=eq_true q1054
        have p1055 : 0 ≤ (x5_1 : Int):=of_decide_eq_true (by first|(with_reducible assumption)|assumption)
        have q1055 : x5_1 < (l1.length : Int):=of_decide_eq_true (by first|(with_reducible assumption)|assumption)
        obtain ⟨ad1055,A1055_2,c1055_2,A1055_3,c1055_3,e1055,hx1055_0,hx1055_1,hx1055_2,hx1055_3,hl1055_2,hi1055_2,hl1055_3,hi1055_3⟩:=at_T48 HR1.out x5_1 p1055 q1055
        have hw1055_3:=hx1055_3
        have hw1055_2:=hx1055_2
        have hw1055_1:=hx1055_1
        have hw1055_0:=hx1055_0
        cases e1055
        replace hx1055_0:=(HB.out.cell (World.block_lt_of_cell? w _ hx1055_0)).trans hx1055_0
        replace hx1055_1:=(HB.out.cell (World.block_lt_of_cell? w _ hx1055_1)).trans hx1055_1
        replace hx1055_2:=(HB.out.cell (World.block_lt_of_cell? w _ hx1055_2)).trans hx1055_2
        replace hx1055_3:=(HB.out.cell (World.block_lt_of_cell? w _ hx1055_3)).trans hx1055_3
        have HR1055_2:=Aside0.mk hi1055_2
        have HC1055_2:=Aside0.mk hl1055_2
        clear hi1055_2 hl1055_2
        have HR1055_3:=Aside0.mk hi1055_3
        have HC1055_3:=Aside0.mk hl1055_3
        clear hi1055_3 hl1055_3
        replace p1055:=eq_true p1055
        replace q1055:=eq_true q1055
        refine start_ (n:=10) (S:=fun w'=>w'.cell? (ad1054.add ((x5_1).toNat * 4)) = some (.int .i64 ((rd_T48 l0 x5_1).f0))∧w'.cell? ⟨(ad1054.add ((x5_1).toNat * 4)).block,(ad1054.add ((x5_1).toNat * 4)).off + 1,none⟩ = some (.bool ((rd_T48 l0 x5_1).f1.f0))∧w'.cell? ⟨(ad1054.add ((x5_1).toNat * 4)).block,(ad1054.add ((x5_1).toNat * 4)).off + 2,none⟩ = some (.slice A1054_2 ((rd_T48 l0 x5_1).f1.f1).length c1054_2)∧w'.cell? ⟨(ad1054.add ((x5_1).toNat * 4)).block,(ad1054.add ((x5_1).toNat * 4)).off + 3,none⟩ = some (.slice A1054_3 ((rd_T48 l0 x5_1).f1.f2).length c1054_3)∧w'.cell? (ad1055.add ((x5_1).toNat * 4)) = some (.int .i64 ((rd_T48 l1 x5_1).f0))∧w'.cell? ⟨(ad1055.add ((x5_1).toNat * 4)).block,(ad1055.add ((x5_1).toNat * 4)).off + 1,none⟩ = some (.bool ((rd_T48 l1 x5_1).f1.f0))∧w'.cell? ⟨(ad1055.add ((x5_1).toNat * 4)).block,(ad1055.add ((x5_1).toNat * 4)).off + 2,none⟩ = some (.slice A1055_2 ((rd_T48 l1 x5_1).f1.f1).length c1055_2)∧w'.cell? ⟨(ad1055.add ((x5_1).toNat * 4)).block,(ad1055.add ((x5_1).toNat * 4)).off + 3,none⟩ = some (.slice A1055_3 ((rd_T48 l1 x5_1).f1.f2).length c1055_3)) (ds:=[]) #[false,false,false,false,false,false,false,false,false,false] (by kernel_rfl) rfl rfl ⟨((HB.out.cell (World.block_lt_of_cell? w _ hw1054_0)).trans hw1054_0),((HB.out.cell (World.block_lt_of_cell? w _ hw1054_1)).trans hw1054_1),((HB.out.cell (World.block_lt_of_cell? w _ hw1054_2)).trans hw1054_2),((HB.out.cell (World.block_lt_of_cell? w _ hw1054_3)).trans hw1054_3),((HB.out.cell (World.block_lt_of_cell? w _ hw1055_0)).trans hw1055_0),((HB.out.cell (World.block_lt_of_cell? w _ hw1055_1)).trans hw1055_1),((HB.out.cell (World.block_lt_of_cell? w _ hw1055_2)).trans hw1055_2),((HB.out.cell (World.block_lt_of_cell? w _ hw1055_3)).trans hw1055_3)⟩ (fun hHeld=>?_);refine with_tabW laws_eqDoneS.tab6 laws_eqDoneS.bits6 (fun HT_ HW_=>?_)
        generalize wr.drew = w11 at HB HR1054_2 HR1054_3 HR1055_2 HR1055_3 hx1054_0 hx1054_1 hx1054_2 hx1054_3 hx1055_0 hx1055_1 hx1055_2 hx1055_3 hHeld ⊢
        refine pure_ (i:=0) (N:=some 17) (v:=?_) (a':=?_) #[true,false,false,false,false,false,false,false,false,false] rfl rfl (any_of HT_.out (by kernel_rfl)) (fun _ _ _ h=>h) (Or.inl ⟨by rfl,?_⟩) ?_ ?_
        rotate_left
        ·intro w'
         go_simp
         with_reducible rfl
        rotate_left
        ·simp only [Act.put,List.setIfInBounds_toArray,List.set_cons_zero,List.set_cons_succ,i64_w,i32_w]
         rfl
        refine pure_ (i:=1) (N:=some 18) (v:=?_) (a':=?_) #[true,true,false,false,false,false,false,false,false,false] rfl rfl (any_of HT_.out (by kernel_rfl)) (fun _ _ _ h=>h) (Or.inl ⟨by rfl,?_⟩) ?_ ?_
        rotate_left
        ·intro w'
         go_simp
         with_reducible rfl
        rotate_left
        ·simp only [Act.put,List.setIfInBounds_toArray,List.set_cons_zero,List.set_cons_succ,i64_w,i32_w]
         rfl
        refine pure_ (i:=2) (N:=some 19) (v:=?_) (a':=?_) #[true,true,true,false,false,false,false,false,false,false] rfl rfl (any_of HT_.out (by kernel_rfl)) (fun _ _ _ h=>h) (Or.inl ⟨by rfl,?_⟩) ?_ ?_
        rotate_left
        ·intro w'
         go_simp
         with_reducible rfl
        rotate_left
        ·simp only [Act.put,List.setIfInBounds_toArray,List.set_cons_zero,List.set_cons_succ,i64_w,i32_w]
         rfl
        refine pure_ (i:=4) (N:=some 21) (v:=?_) (a':=?_) #[true,true,true,false,true,false,false,false,false,false] rfl rfl (any_of HT_.out (by kernel_rfl)) (fun _ _ _ h=>h) (Or.inl ⟨by rfl,?_⟩) ?_ ?_
        rotate_left
        ·intro w'
         go_simp
         with_reducible rfl
        rotate_left
        ·simp only [Act.put,List.setIfInBounds_toArray,List.set_cons_zero,List.set_cons_succ,i64_w,i32_w]
         rfl
        refine pure_ (i:=5) (N:=some 22) (v:=?_) (a':=?_) #[true,true,true,false,true,true,false,false,false,false] rfl rfl (any_of HT_.out (by kernel_rfl)) (fun _ _ _ h=>h) (Or.inl ⟨by rfl,?_⟩) ?_ ?_
        rotate_left
        ·intro w'
         go_simp
         with_reducible rfl
        rotate_left
        ·simp only [Act.put,List.setIfInBounds_toArray,List.set_cons_zero,List.set_cons_succ,i64_w,i32_w]
         rfl
        refine pure_ (i:=6) (N:=some 23) (v:=?_) (a':=?_) #[true,true,true,false,true,true,true,false,false,false] rfl rfl (any_of HT_.out (by kernel_rfl)) (fun _ _ _ h=>h) (Or.inl ⟨by rfl,?_⟩) ?_ ?_
        rotate_left
        ·intro w'
         go_simp
         with_reducible rfl
        rotate_left
        ·simp only [Act.put,List.setIfInBounds_toArray,List.set_cons_zero,List.set_cons_succ,i64_w,i32_w]
         rfl
        refine take_ (i:=3) (N:=some 20) (v:=?_) (a':=?_) #[true,true,true,true,true,true,true,false,false,false] rfl rfl (take_ofW HT_.out HW_.out (by kernel_rfl)) (fun _ _ _ h=>h) (Or.inl ⟨by rfl,?_⟩) hHeld ?_ ?_
        rotate_left
        ·rintro w' ⟨s0,s1,s2,s3,s4,s5,s6,s7⟩
         go_simp
         with_reducible rfl
        rotate_left
        ·simp only [Act.put,List.setIfInBounds_toArray,List.set_cons_zero,List.set_cons_succ,i64_w,i32_w]
         rfl
        refine take_ (i:=7) (N:=some 24) (v:=?_) (a':=?_) #[true,true,true,true,true,true,true,true,false,false] rfl rfl (take_ofW HT_.out HW_.out (by kernel_rfl)) (fun _ _ _ h=>h) (Or.inl ⟨by rfl,?_⟩) hHeld ?_ ?_
        rotate_left
        ·rintro w' ⟨s0,s1,s2,s3,s4,s5,s6,s7⟩
         go_simp
         with_reducible rfl
        rotate_left
        ·simp only [Act.put,List.setIfInBounds_toArray,List.set_cons_zero,List.set_cons_succ,i64_w,i32_w]
         rfl
        refine one_ (i:=8) (N:=some 25) #[true,true,true,true,true,true,true,true,true,false] rfl rfl (one_of HT_.out (by kernel_rfl)) (by decide) (fun K hK=>?_)
        refine goes_ Try.func71 (by kernel_rfl) rfl #[.agg #[.int .i64 ((rd_T48 l0 x5_1).f0),.bool ((rd_T48 l0 x5_1).f1.f0),.slice A1054_2 ((rd_T48 l0 x5_1).f1.f1).length c1054_2,.slice A1054_3 ((rd_T48 l0 x5_1).f1.f2).length c1054_3],.agg #[.int .i64 ((rd_T48 l1 x5_1).f0),.bool ((rd_T48 l1 x5_1).f1.f0),.slice A1055_2 ((rd_T48 l1 x5_1).f1.f1).length c1055_2,.slice A1055_3 ((rd_T48 l1 x5_1).f1.f2).length c1055_3]] (by rfl) rfl rfl (by (try simp only [List.map_toArray,List.map_cons,List.map_nil]);first|done|rfl|(simp only [List.length_drop,List.length_take];rfl)) ?_
        with_reducible refine (laws_eqDone.calls k1 ((rd_T48 l0 x5_1).f0) ((rd_T48 l0 x5_1).f1.f0) _ _ ((rd_T48 l0 x5_1).f1.f1) _ _ ((rd_T48 l0 x5_1).f1.f2) ((rd_T48 l1 x5_1).f0) ((rd_T48 l1 x5_1).f1.f0) _ _ ((rd_T48 l1 x5_1).f1.f1) _ _ ((rd_T48 l1 x5_1).f1.f2) false _ ?side1 ?side2 ?side3 ?side4 ?side5 ?side6 ?side7 ?side8 A7.out).mono ?_
        (case side1=>repeat (first|exact (Kd.C_below HR1054_2.out HB.out)|(with_reducible refine Kd.C_alloc ?_ _)|(with_reducible refine Kd.C_drewN ?_ _)|(with_reducible refine Kd.C_drew ?_)))
        (case side2=>exact HC1054_2.out)
        (case side3=>repeat (first|exact (Kd.C_below HR1054_3.out HB.out)|(with_reducible refine Kd.C_alloc ?_ _)|(with_reducible refine Kd.C_drewN ?_ _)|(with_reducible refine Kd.C_drew ?_)))
        (case side4=>exact HC1054_3.out)
        (case side5=>repeat (first|exact (Kd.C_below HR1055_2.out HB.out)|(with_reducible refine Kd.C_alloc ?_ _)|(with_reducible refine Kd.C_drewN ?_ _)|(with_reducible refine Kd.C_drew ?_)))
        (case side6=>exact HC1055_2.out)
        (case side7=>repeat (first|exact (Kd.C_below HR1055_3.out HB.out)|(with_reducible refine Kd.C_alloc ?_ _)|(with_reducible refine Kd.C_drewN ?_ _)|(with_reducible refine Kd.C_drew ?_)))
        (case side8=>exact HC1055_3.out)
        rintro e w12 ⟨rfl,hb⟩
        refine ⟨_,rfl,?_⟩
        have n0_:=Aside0.mk (below_step (by repeat (first|(with_reducible first|exact HB.out|apply below_alloc|apply pw_below_drewN|apply below_drew1)|exact HB.out)) hb)
        clear HB
        have HB:=n0_
        clear n0_
        (try clear hb)
        (try clear hb2)
        (try clear hk)
        (try clear hi)
        refine hK.out _ _ ⟨((HB.out.cell (World.block_lt_of_cell? w _ hw1054_0)).trans hw1054_0),((HB.out.cell (World.block_lt_of_cell? w _ hw1054_1)).trans hw1054_1),((HB.out.cell (World.block_lt_of_cell? w _ hw1054_2)).trans hw1054_2),((HB.out.cell (World.block_lt_of_cell? w _ hw1054_3)).trans hw1054_3),((HB.out.cell (World.block_lt_of_cell? w _ hw1055_0)).trans hw1055_0),((HB.out.cell (World.block_lt_of_cell? w _ hw1055_1)).trans hw1055_1),((HB.out.cell (World.block_lt_of_cell? w _ hw1055_2)).trans hw1055_2),((HB.out.cell (World.block_lt_of_cell? w _ hw1055_3)).trans hw1055_3)⟩ (fun hHeld=>?_)
        clear hK K
        refine norm_ (a':=?_) ?_ ?_
        rotate_left
        ·show Act.put _ (some 25) _ = _
         simp only [Act.put,List.setIfInBounds_toArray,List.set_cons_zero,List.set_cons_succ,i64_w,i32_w]
         rfl
        refine pure_ (i:=9) (N:=some 26) (v:=?_) (a':=?_) #[true,true,true,true,true,true,true,true,true,true] rfl rfl (any_of HT_.out (by kernel_rfl)) (fun _ _ _ h=>h) (Or.inl ⟨by rfl,?_⟩) ?_ ?_
        rotate_left
        ·intro w'
         go_simp
         with_reducible rfl
        rotate_left
        ·simp only [Act.put,List.setIfInBounds_toArray,List.set_cons_zero,List.set_cons_succ,i64_w,i32_w]
         rfl
        refine done_ (done_of HT_.out (by kernel_rfl)) ?_
        try go_wp2
        go_ret
        exact ⟨by first|rfl|(simp [errW_none,errW_some] <;> rfl)|(simp [*,errW_none,errW_some] <;> rfl),by repeat (first|(with_reducible first|exact HB.out|apply below_alloc|apply pw_below_drewN|apply below_drew1)|exact HB.out)⟩
      ·rw [if_neg c6] at H
       exact absurd H (by simp)
     ·rw [if_neg c5] at H
      exact absurd H (by simp)
    ·rw [if_neg c4] at H
     have c4b0 : decide (x5_1 < (l0.length : Int)) = false:=decide_eq_false c4
     clear c4
     obtain rfl:=Option.some.inj H
     go_wp2
     go_ret
     exact ⟨by first|rfl|(simp [errW_none,errW_some] <;> rfl)|(simp [*,errW_none,errW_some] <;> rfl),by repeat (first|(with_reducible first|exact HB.out|apply below_alloc|apply pw_below_drewN|apply below_drew1)|exact HB.out)⟩
 ·rw [if_neg c3] at H
  have c3b0 : ((l0.length : Int) == (l1.length : Int)) = false:=beq_eq_false_iff_ne.mpr c3
  have c3b1 : ((l0.length : Int) != (l1.length : Int)) = true:=bne_iff_ne.mpr c3
  have c3b2 : (l0.length == l1.length) = false:=by first|simpa using c3|(simp at c3 ⊢;omega)
  obtain rfl:=Option.some.inj H
  go_enter Try.func76,Try.ntmps76
  go_wp2
  go_ret
  exact ⟨by first|rfl|(simp [errW_none,errW_some] <;> rfl)|(simp [*,errW_none,errW_some] <;> rfl),by repeat (first|(with_reducible first|exact HB.out|apply below_alloc|apply pw_below_drewN|apply below_drew1)|exact HB.out)⟩
end Go.Proofs.Ytpdnabhpkdchjaa.P
namespace Go.Proofs.Ytpdnabhpkdchjaa.P
open Go.RowKit Go.Proofs.YtpdnabhpkdchjaaW.PrintWords Go.Proofs.YtpdnabhpkdchjaaW.PrintLast Go.Proofs.YtpdnabhpkdchjaaW.PrintMore
attribute [local go_sem] max2_int min2_int max_two min_two max_three min_three max_four min_four
set_option linter.unusedVariables false
set_option linter.unusedSimpArgs false
def laws_heldDoneS.l0 : Nat → List (S48) → Int → Int → Option (Int)
 | 0,_,_,_=>none
 | k + 1,x0,x1,x5=>if x5 < (x0.length : Int) then (if 0 ≤ x5 then (if ((rd_T48 x0 x5).f0) = x1 then (if (((rd_T48 x0 x5).f1.f0) != ((Int.tmod (wrap64 (x1 + 1)) 3) == 0)) = true then (some (-1)) else ((laws_heldSectionS.f k ((rd_T48 x0 x5).f1.f1) (wrap64 ((wrap64 (x1 + 1)) + 1))).bind fun t1060=>(if t1060 < 0 then (some (-1)) else ((laws_heldBoolS.f k ((rd_T48 x0 x5).f1.f2) t1060).bind fun t1062=>(if t1062 < 0 then (some (-1)) else (laws_heldDoneS.l0 k x0 t1062 (wrap64 (x5 + 1)))))))) else (some (-1))) else (none)) else (some x1)
def laws_heldDoneS.f (k : Nat) (l0 : List (S48)) (a1 : Int) : Option (Int):=laws_heldDoneS.l0 k l0 a1 0
set_option maxHeartbeats 8000000 in
set_option maxRecDepth 100000 in
theorem laws_heldDoneS.calls (k : Nat) (A0 : Option Addr) (c0 : Nat) (l0 : List (S48)) (a1 : Int) (r : Int) (w : World) (hr0 : Kd.C k48 w A0 l0.length l0) (hc0 : l0.length ≤ c0) (h : laws_heldDoneS.f k l0 a1 = some r) :
  Calls Try.prog 78 #[.slice A0 l0.length c0,.int .i64 a1] w fun e w'=>e = .returned (.int .i64 r)∧Drawn0 w w':=by
 have HR0:=Aside0.mk hr0
 have HC0:=Aside0.mk hc0
 clear hr0 hc0
 have H : (laws_heldDoneS.l0 k l0 a1 0) = some r:=h
 clear h
 have H':=Aside0.mk H
 clear H
 go_enter Try.func78,Try.ntmps78
 go_wp2
 go_loopg [1,5] k (fun kq v1 v5 w'=>∃ (x1_1 : Int) (x5_1 : Int),v1 = .int .i64 x1_1∧v5 = .int .i64 x5_1∧Aside0 (laws_heldDoneS.l0 kq l0 x1_1 x5_1 = some r)∧Aside0 (kq ≤ k)∧Drawn0 w w')
 case atStart=>exact ⟨(a1),(0),(by first|rfl|(simp;done)|(simp [*];done)),(by first|rfl|(simp;done)|(simp [*];done)),H',⟨Nat.le_refl _⟩,by repeat (first|exact Drawn0.refl _|apply Drawn0.step)⟩
 case round =>
  clear H'
  try clear p2
  obtain ⟨x1_1,x5_1,rfl,rfl,HA,HK1,⟨m1,rfl⟩⟩:=hrel
  cases gk with
  | zero=>exact absurd HA.out (by simp [laws_heldDoneS.l0])
  | succ k1 =>
   have H:=HA.out
   clear HA
   simp only [laws_heldDoneS.l0] at H
   by_cases c3 : x5_1 < (l0.length : Int)
   ·rw [if_pos c3] at H
    have c3b0 : decide (x5_1 < (l0.length : Int)) = true:=decide_eq_true c3
    clear c3
    by_cases c4 : 0 ≤ x5_1
    ·rw [if_pos c4] at H
     have c4b0 : decide (0 ≤ x5_1) = true:=decide_eq_true c4
     clear c4
     by_cases c5 : ((rd_T48 l0 x5_1).f0) = x1_1
     ·rw [if_pos c5] at H
      have c5b0 : (((rd_T48 l0 x5_1).f0) == x1_1) = true:=beq_iff_eq.mpr c5
      have c5b1 : (((rd_T48 l0 x5_1).f0) != x1_1) = false:=bne_eq_false_iff_eq.mpr c5
      clear c5
      by_cases c6 : (((rd_T48 l0 x5_1).f1.f0) != ((Int.tmod (wrap64 (x1_1 + 1)) 3) == 0)) = true
      ·rw [if_pos c6] at H
       have c6b0 : (((rd_T48 l0 x5_1).f1.f0) != ((Int.tmod (wrap64 (x1_1 + 1)) 3) == 0)) = true:=c6
       (try (have c6b1 : decide (((rd_T48 l0 x5_1).f1.f0) = ((Int.tmod (wrap64 (x1_1 + 1)) 3) == 0)) = false:=by simpa using c6))
       (try (have c6b2 : (((rd_T48 l0 x5_1).f1.f0) == ((Int.tmod (wrap64 (x1_1 + 1)) 3) == 0)) = false:=by simpa using c6))
       (try (have c6b3 : ¬ (((rd_T48 l0 x5_1).f1.f0) = ((Int.tmod (wrap64 (x1_1 + 1)) 3) == 0)):=by simpa using c6))
       clear c6
       obtain rfl:=Option.some.inj H
       have p1057 : 0 ≤ (x5_1 : Int):=of_decide_eq_true (by first|(with_reducible assumption)|assumption)
       have q1057 : x5_1 < (l0.length : Int):=of_decide_eq_true (by first|(with_reducible assumption)|assumption)
       obtain ⟨ad1057,A1057_2,c1057_2,A1057_3,c1057_3,e1057,hx1057_0,hx1057_1,hx1057_2,hx1057_3,hl1057_2,hi1057_2,hl1057_3,hi1057_3⟩:=at_T48 HR0.out x5_1 p1057 q1057
       cases e1057
       have HR1057_2:=Aside0.mk hi1057_2
       have HC1057_2:=Aside0.mk hl1057_2
       clear hi1057_2 hl1057_2
       have HR1057_3:=Aside0.mk hi1057_3
       have HC1057_3:=Aside0.mk hl1057_3
       clear hi1057_3 hl1057_3
       replace p1057:=eq_true p1057
       replace q1057:=eq_true q1057
       have p1058 : 0 ≤ (x5_1 : Int):=of_decide_eq_true (by first|(with_reducible assumption)|assumption)
       have q1058 : x5_1 < (l0.length : Int):=of_decide_eq_true (by first|(with_reducible assumption)|assumption)
       obtain ⟨ad1058,A1058_2,c1058_2,A1058_3,c1058_3,e1058,hx1058_0,hx1058_1,hx1058_2,hx1058_3,hl1058_2,hi1058_2,hl1058_3,hi1058_3⟩:=at_T48 HR0.out x5_1 p1058 q1058
       obtain rfl : ad1057 = ad1058:=(by injection e1058)
       have HR1058_2:=Aside0.mk hi1058_2
       have HC1058_2:=Aside0.mk hl1058_2
       clear hi1058_2 hl1058_2
       have HR1058_3:=Aside0.mk hi1058_3
       have HC1058_3:=Aside0.mk hl1058_3
       clear hi1058_3 hl1058_3
       replace p1058:=eq_true p1058
       replace q1058:=eq_true q1058
       have ea_:=Option.some.inj (hx1057_2.symm.trans hx1058_2)
       injection ea_ with ea_ en_ ec_
       subst ea_
       subst ec_
       clear en_
       have ea_:=Option.some.inj (hx1057_3.symm.trans hx1058_3)
       injection ea_ with ea_ en_ ec_
       subst ea_
       subst ec_
       clear en_
       go_wp2
       go_ret
       exact ⟨by first|rfl|(simp;done)|(simp [*];done),by repeat (first|exact Drawn0.refl _|apply Drawn0.step)⟩
      ·rw [if_neg c6] at H
       have c6b0 : (((rd_T48 l0 x5_1).f1.f0) != ((Int.tmod (wrap64 (x1_1 + 1)) 3) == 0)) = false:=by simpa using c6
       (try (have c6b1 : decide (((rd_T48 l0 x5_1).f1.f0) = ((Int.tmod (wrap64 (x1_1 + 1)) 3) == 0)) = true:=by simpa using c6))
       (try (have c6b2 : (((rd_T48 l0 x5_1).f1.f0) == ((Int.tmod (wrap64 (x1_1 + 1)) 3) == 0)) = true:=by simpa using c6))
       clear c6
       replace H:=Option.bind_eq_some_iff.mp H
       obtain ⟨t1060,A70,H⟩:=H
       replace H : (if t1060 < 0 then (some (-1)) else ((laws_heldBoolS.f k1 ((rd_T48 l0 x5_1).f1.f2) t1060).bind fun t1062=>(if t1062 < 0 then (some (-1)) else (laws_heldDoneS.l0 k1 l0 t1062 (wrap64 (x5_1 + 1)))))) = some r:=H
       have A7:=Aside0.mk A70
       clear A70
       by_cases c8 : t1060 < 0
       ·rw [if_pos c8] at H
        have c8b0 : decide (t1060 < 0) = true:=decide_eq_true c8
        clear c8
        obtain rfl:=Option.some.inj H
        have p1057 : 0 ≤ (x5_1 : Int):=of_decide_eq_true (by first|(with_reducible assumption)|assumption)
        have q1057 : x5_1 < (l0.length : Int):=of_decide_eq_true (by first|(with_reducible assumption)|assumption)
        obtain ⟨ad1057,A1057_2,c1057_2,A1057_3,c1057_3,e1057,hx1057_0,hx1057_1,hx1057_2,hx1057_3,hl1057_2,hi1057_2,hl1057_3,hi1057_3⟩:=at_T48 HR0.out x5_1 p1057 q1057
        cases e1057
        have HR1057_2:=Aside0.mk hi1057_2
        have HC1057_2:=Aside0.mk hl1057_2
        clear hi1057_2 hl1057_2
        have HR1057_3:=Aside0.mk hi1057_3
        have HC1057_3:=Aside0.mk hl1057_3
        clear hi1057_3 hl1057_3
        replace p1057:=eq_true p1057
        replace q1057:=eq_true q1057
        have p1058 : 0 ≤ (x5_1 : Int):=of_decide_eq_true (by first|(with_reducible assumption)|assumption)
        have q1058 : x5_1 < (l0.length : Int):=of_decide_eq_true (by first|(with_reducible assumption)|assumption)
        obtain ⟨ad1058,A1058_2,c1058_2,A1058_3,c1058_3,e1058,hx1058_0,hx1058_1,hx1058_2,hx1058_3,hl1058_2,hi1058_2,hl1058_3,hi1058_3⟩:=at_T48 HR0.out x5_1 p1058 q1058
        obtain rfl : ad1057 = ad1058:=(by injection e1058)
        have HR1058_2:=Aside0.mk hi1058_2
        have HC1058_2:=Aside0.mk hl1058_2
        clear hi1058_2 hl1058_2
        have HR1058_3:=Aside0.mk hi1058_3
        have HC1058_3:=Aside0.mk hl1058_3
        clear hi1058_3 hl1058_3
        replace p1058:=eq_true p1058
        replace q1058:=eq_true q1058
        have ea_:=Option.some.inj (hx1057_2.symm.trans hx1058_2)
        injection ea_ with ea_ en_ ec_
        subst ea_
        subst ec_
        clear en_
        have ea_:=Option.some.inj (hx1057_3.symm.trans hx1058_3)
        injection ea_ with ea_ en_ ec_
        subst ea_
        subst ec_
        clear en_
        have p1059 : 0 ≤ (x5_1 : Int):=of_decide_eq_true (by first|(with_reducible assumption)|assumption)
        have q1059 : x5_1 < (l0.length : Int):=of_decide_eq_true (by first|(with_reducible assumption)|assumption)
        obtain ⟨ad1059,A1059_2,c1059_2,A1059_3,c1059_3,e1059,hx1059_0,hx1059_1,hx1059_2,hx1059_3,hl1059_2,hi1059_2,hl1059_3,hi1059_3⟩:=at_T48 HR0.out x5_1 p1059 q1059
        obtain rfl : ad1057 = ad1059:=(by injection e1059)
        have HR1059_2:=Aside0.mk hi1059_2
        have HC1059_2:=Aside0.mk hl1059_2
        clear hi1059_2 hl1059_2
        have HR1059_3:=Aside0.mk hi1059_3
        have HC1059_3:=Aside0.mk hl1059_3
        clear hi1059_3 hl1059_3
        replace p1059:=eq_true p1059
        replace q1059:=eq_true q1059
        have ea_:=Option.some.inj (hx1057_2.symm.trans hx1059_2)
        injection ea_ with ea_ en_ ec_
        subst ea_
        subst ec_
        clear en_
        have ea_:=Option.some.inj (hx1057_3.symm.trans hx1059_3)
        injection ea_ with ea_ en_ ec_
        subst ea_
        subst ec_
        clear en_
        go_wp2_with (first|((with_reducible refine gate_callee (f:=104) rfl ?_);refine goesL_ (some 40) rfl rfl Try.func104 (by kernel_rfl) rfl #[.slice A1057_2 ((rd_T48 l0 x5_1).f1.f1).length c1057_2,.int .i64 (wrap64 ((wrap64 (x1_1 + 1)) + 1))] rfl (by (try simp only [List.map_toArray,List.map_cons,List.map_nil]);first|done|rfl|(simp only [List.length_drop,List.length_take];rfl)) ?_;(with_reducible refine (laws_heldSectionS.calls k1 _ _ ((rd_T48 l0 x5_1).f1.f1) (wrap64 ((wrap64 (x1_1 + 1)) + 1)) t1060 _ ?side1 ?side2 A7.out).mono ?_);(case side1=>repeat (first|exact HR1059_2.out|(with_reducible refine Kd.C_alloc ?_ _)|(with_reducible refine Kd.C_drewN ?_ _)|(with_reducible refine Kd.C_drew ?_)));(case side2=>exact HC1059_2.out);rintro e w' ⟨rfl,⟨nd,rfl⟩⟩;refine ⟨_,rfl,?_⟩))
        go_ret
        exact ⟨by first|rfl|(simp;done)|(simp [*];done),by repeat (first|exact Drawn0.refl _|apply Drawn0.step)⟩
       ·rw [if_neg c8] at H
        have c8b0 : decide (t1060 < 0) = false:=decide_eq_false c8
        clear c8
        replace H:=Option.bind_eq_some_iff.mp H
        obtain ⟨t1062,A90,H⟩:=H
        replace H : (if t1062 < 0 then (some (-1)) else (laws_heldDoneS.l0 k1 l0 t1062 (wrap64 (x5_1 + 1)))) = some r:=H
        have A9:=Aside0.mk A90
        clear A90
        by_cases c10 : t1062 < 0
        ·rw [if_pos c10] at H
         have c10b0 : decide (t1062 < 0) = true:=decide_eq_true c10
         clear c10
         obtain rfl:=Option.some.inj H
         have p1057 : 0 ≤ (x5_1 : Int):=of_decide_eq_true (by first|(with_reducible assumption)|assumption)
         have q1057 : x5_1 < (l0.length : Int):=of_decide_eq_true (by first|(with_reducible assumption)|assumption)
         obtain ⟨ad1057,A1057_2,c1057_2,A1057_3,c1057_3,e1057,hx1057_0,hx1057_1,hx1057_2,hx1057_3,hl1057_2,hi1057_2,hl1057_3,hi1057_3⟩:=at_T48 HR0.out x5_1 p1057 q1057
         cases e1057
         have HR1057_2:=Aside0.mk hi1057_2
         have HC1057_2:=Aside0.mk hl1057_2
         clear hi1057_2 hl1057_2
         have HR1057_3:=Aside0.mk hi1057_3
         have HC1057_3:=Aside0.mk hl1057_3
         clear hi1057_3 hl1057_3
         replace p1057:=eq_true p1057
         replace q1057:=eq_true q1057
         have p1058 : 0 ≤ (x5_1 : Int):=of_decide_eq_true (by first|(with_reducible assumption)|assumption)
         have q1058 : x5_1 < (l0.length : Int):=of_decide_eq_true (by first|(with_reducible assumption)|assumption)
         obtain ⟨ad1058,A1058_2,c1058_2,A1058_3,c1058_3,e1058,hx1058_0,hx1058_1,hx1058_2,hx1058_3,hl1058_2,hi1058_2,hl1058_3,hi1058_3⟩:=at_T48 HR0.out x5_1 p1058 q1058
         obtain rfl : ad1057 = ad1058:=(by injection e1058)
         have HR1058_2:=Aside0.mk hi1058_2
         have HC1058_2:=Aside0.mk hl1058_2
         clear hi1058_2 hl1058_2
         have HR1058_3:=Aside0.mk hi1058_3
         have HC1058_3:=Aside0.mk hl1058_3
         clear hi1058_3 hl1058_3
         replace p1058:=eq_true p1058
         replace q1058:=eq_true q1058
         have ea_:=Option.some.inj (hx1057_2.symm.trans hx1058_2)
         injection ea_ with ea_ en_ ec_
         subst ea_
         subst ec_
         clear en_
         have ea_:=Option.some.inj (hx1057_3.symm.trans hx1058_3)
         injection ea_ with ea_ en_ ec_
         subst ea_
         subst ec_
         clear en_
         have p1059 : 0 ≤ (x5_1 : Int):=of_decide_eq_true (by first|(with_reducible assumption)|assumption)
         have q1059 : x5_1 < (l0.length : Int):=of_decide_eq_true (by first|(with_reducible assumption)|assumption)
         obtain ⟨ad1059,A1059_2,c1059_2,A1059_3,c1059_3,e1059,hx1059_0,hx1059_1,hx1059_2,hx1059_3,hl1059_2,hi1059_2,hl1059_3,hi1059_3⟩:=at_T48 HR0.out x5_1 p1059 q1059
         obtain rfl : ad1057 = ad1059:=(by injection e1059)
         have HR1059_2:=Aside0.mk hi1059_2
         have HC1059_2:=Aside0.mk hl1059_2
         clear hi1059_2 hl1059_2
         have HR1059_3:=Aside0.mk hi1059_3
         have HC1059_3:=Aside0.mk hl1059_3
         clear hi1059_3 hl1059_3
         replace p1059:=eq_true p1059
         replace q1059:=eq_true q1059
         have ea_:=Option.some.inj (hx1057_2.symm.trans hx1059_2)
         injection ea_ with ea_ en_ ec_
         subst ea_
         subst ec_
         clear en_
         have ea_:=Option.some.inj (hx1057_3.symm.trans hx1059_3)
         injection ea_ with ea_ en_ ec_
         subst ea_
         subst ec_
         clear en_
         go_wp2_with (first|((with_reducible refine gate_callee (f:=104) rfl ?_);refine goesL_ (some 40) rfl rfl Try.func104 (by kernel_rfl) rfl #[.slice A1057_2 ((rd_T48 l0 x5_1).f1.f1).length c1057_2,.int .i64 (wrap64 ((wrap64 (x1_1 + 1)) + 1))] rfl (by (try simp only [List.map_toArray,List.map_cons,List.map_nil]);first|done|rfl|(simp only [List.length_drop,List.length_take];rfl)) ?_;(with_reducible refine (laws_heldSectionS.calls k1 _ _ ((rd_T48 l0 x5_1).f1.f1) (wrap64 ((wrap64 (x1_1 + 1)) + 1)) t1060 _ ?side1 ?side2 A7.out).mono ?_);(case side1=>repeat (first|exact HR1059_2.out|(with_reducible refine Kd.C_alloc ?_ _)|(with_reducible refine Kd.C_drewN ?_ _)|(with_reducible refine Kd.C_drew ?_)));(case side2=>exact HC1059_2.out);rintro e w' ⟨rfl,⟨nd,rfl⟩⟩;refine ⟨_,rfl,?_⟩;have p1061 : 0 ≤ (x5_1 : Int):=of_decide_eq_true (by first|(with_reducible assumption)|assumption);have q1061 : x5_1 < (l0.length : Int):=of_decide_eq_true (by first|(with_reducible assumption)|assumption);obtain ⟨ad1061,A1061_2,c1061_2,A1061_3,c1061_3,e1061,hx1061_0,hx1061_1,hx1061_2,hx1061_3,hl1061_2,hi1061_2,hl1061_3,hi1061_3⟩:=at_T48 HR0.out x5_1 p1061 q1061;obtain rfl : ad1057 = ad1061:=(by injection e1061);have HR1061_2:=Aside0.mk hi1061_2;have HC1061_2:=Aside0.mk hl1061_2;clear hi1061_2 hl1061_2;have HR1061_3:=Aside0.mk hi1061_3;have HC1061_3:=Aside0.mk hl1061_3;clear hi1061_3 hl1061_3;replace p1061:=eq_true p1061;replace q1061:=eq_true q1061;have ea_:=Option.some.inj (hx1057_2.symm.trans hx1061_2);injection ea_ with ea_ en_ ec_;subst ea_;subst ec_;clear en_;have ea_:=Option.some.inj (hx1057_3.symm.trans hx1061_3);injection ea_ with ea_ en_ ec_;subst ea_;subst ec_;clear en_)|((with_reducible refine gate_callee (f:=105) rfl ?_);refine goesL_ (some 50) rfl rfl Try.func105 (by kernel_rfl) rfl #[.slice A1057_3 ((rd_T48 l0 x5_1).f1.f2).length c1057_3,.int .i64 t1060] rfl (by (try simp only [List.map_toArray,List.map_cons,List.map_nil]);first|done|rfl|(simp only [List.length_drop,List.length_take];rfl)) ?_;(with_reducible refine (laws_heldBoolS.calls k1 _ _ ((rd_T48 l0 x5_1).f1.f2) t1060 t1062 _ ?side1 ?side2 A9.out).mono ?_);(case side1=>repeat (first|exact HR1061_3.out|(with_reducible refine Kd.C_alloc ?_ _)|(with_reducible refine Kd.C_drewN ?_ _)|(with_reducible refine Kd.C_drew ?_)));(case side2=>exact HC1061_3.out);rintro e w' ⟨rfl,⟨nd,rfl⟩⟩;refine ⟨_,rfl,?_⟩))
         go_ret
         exact ⟨by first|rfl|(simp;done)|(simp [*];done),by repeat (first|exact Drawn0.refl _|apply Drawn0.step)⟩
        ·rw [if_neg c10] at H
         have c10b0 : decide (t1062 < 0) = false:=decide_eq_false c10
         clear c10
         have H':=Aside0.mk H
         clear H
         have p1057 : 0 ≤ (x5_1 : Int):=of_decide_eq_true (by first|(with_reducible assumption)|assumption)
         have q1057 : x5_1 < (l0.length : Int):=of_decide_eq_true (by first|(with_reducible assumption)|assumption)
         obtain ⟨ad1057,A1057_2,c1057_2,A1057_3,c1057_3,e1057,hx1057_0,hx1057_1,hx1057_2,hx1057_3,hl1057_2,hi1057_2,hl1057_3,hi1057_3⟩:=at_T48 HR0.out x5_1 p1057 q1057
         cases e1057
         have HR1057_2:=Aside0.mk hi1057_2
         have HC1057_2:=Aside0.mk hl1057_2
         clear hi1057_2 hl1057_2
         have HR1057_3:=Aside0.mk hi1057_3
         have HC1057_3:=Aside0.mk hl1057_3
         clear hi1057_3 hl1057_3
         replace p1057:=eq_true p1057
         replace q1057:=eq_true q1057
         have p1058 : 0 ≤ (x5_1 : Int):=of_decide_eq_true (by first|(with_reducible assumption)|assumption)
         have q1058 : x5_1 < (l0.length : Int):=of_decide_eq_true (by first|(with_reducible assumption)|assumption)
         obtain ⟨ad1058,A1058_2,c1058_2,A1058_3,c1058_3,e1058,hx1058_0,hx1058_1,hx1058_2,hx1058_3,hl1058_2,hi1058_2,hl1058_3,hi1058_3⟩:=at_T48 HR0.out x5_1 p1058 q1058
         obtain rfl : ad1057 = ad1058:=(by injection e1058)
         have HR1058_2:=Aside0.mk hi1058_2
         have HC1058_2:=Aside0.mk hl1058_2
         clear hi1058_2 hl1058_2
         have HR1058_3:=Aside0.mk hi1058_3
         have HC1058_3:=Aside0.mk hl1058_3
         clear hi1058_3 hl1058_3
         replace p1058:=eq_true p1058
         replace q1058:=eq_true q1058
         have ea_:=Option.some.inj (hx1057_2.symm.trans hx1058_2)
         injection ea_ with ea_ en_ ec_
         subst ea_
         subst ec_
         clear en_
         have ea_:=Option.some.inj (hx1057_3.symm.trans hx1058_3)
         injection ea_ with ea_ en_ ec_
         subst ea_
         subst ec_
         clear en_
         have p1059 : 0 ≤ (x5_1 : Int):=of_decide_eq_true (by first|(with_reducible assumption)|assumption)
         have q1059 : x5_1 < (l0.length : Int):=of_decide_eq_true (by first|(with_reducible assumption)|assumption)
         obtain ⟨ad1059,A1059_2,c1059_2,A1059_3,c1059_3,e1059,hx1059_0,hx1059_1,hx1059_2,hx1059_3,hl1059_2,hi1059_2,hl1059_3,hi1059_3⟩:=at_T48 HR0.out x5_1 p1059 q1059
         obtain rfl : ad1057 = ad1059:=(by injection e1059)
         have HR1059_2:=Aside0.mk hi1059_2
         have HC1059_2:=Aside0.mk hl1059_2
         clear hi1059_2 hl1059_2
         have HR1059_3:=Aside0.mk hi1059_3
         have HC1059_3:=Aside0.mk hl1059_3
         clear hi1059_3 hl1059_3
         replace p1059:=eq_true p1059
         replace q1059:=eq_true q1059
         have ea_:=Option.some.inj (hx1057_2.symm.trans hx1059_2)
         injection ea_ with ea_ en_ ec_
         subst ea_
         subst ec_
         clear en_
         have ea_:=Option.some.inj (hx1057_3.symm.trans hx1059_3)
         injection ea_ with ea_ en_ ec_
         subst ea_
         subst ec_
         clear en_
         go_wp2_with (first|((with_reducible refine gate_callee (f:=104) rfl ?_);refine goesL_ (some 40) rfl rfl Try.func104 (by kernel_rfl) rfl #[.slice A1057_2 ((rd_T48 l0 x5_1).f1.f1).length c1057_2,.int .i64 (wrap64 ((wrap64 (x1_1 + 1)) + 1))] rfl (by (try simp only [List.map_toArray,List.map_cons,List.map_nil]);first|done|rfl|(simp only [List.length_drop,List.length_take];rfl)) ?_;(with_reducible refine (laws_heldSectionS.calls k1 _ _ ((rd_T48 l0 x5_1).f1.f1) (wrap64 ((wrap64 (x1_1 + 1)) + 1)) t1060 _ ?side1 ?side2 A7.out).mono ?_);(case side1=>repeat (first|exact HR1059_2.out|(with_reducible refine Kd.C_alloc ?_ _)|(with_reducible refine Kd.C_drewN ?_ _)|(with_reducible refine Kd.C_drew ?_)));(case side2=>exact HC1059_2.out);rintro e w' ⟨rfl,⟨nd,rfl⟩⟩;refine ⟨_,rfl,?_⟩;have p1061 : 0 ≤ (x5_1 : Int):=of_decide_eq_true (by first|(with_reducible assumption)|assumption);have q1061 : x5_1 < (l0.length : Int):=of_decide_eq_true (by first|(with_reducible assumption)|assumption);obtain ⟨ad1061,A1061_2,c1061_2,A1061_3,c1061_3,e1061,hx1061_0,hx1061_1,hx1061_2,hx1061_3,hl1061_2,hi1061_2,hl1061_3,hi1061_3⟩:=at_T48 HR0.out x5_1 p1061 q1061;obtain rfl : ad1057 = ad1061:=(by injection e1061);have HR1061_2:=Aside0.mk hi1061_2;have HC1061_2:=Aside0.mk hl1061_2;clear hi1061_2 hl1061_2;have HR1061_3:=Aside0.mk hi1061_3;have HC1061_3:=Aside0.mk hl1061_3;clear hi1061_3 hl1061_3;replace p1061:=eq_true p1061;replace q1061:=eq_true q1061;have ea_:=Option.some.inj (hx1057_2.symm.trans hx1061_2);injection ea_ with ea_ en_ ec_;subst ea_;subst ec_;clear en_;have ea_:=Option.some.inj (hx1057_3.symm.trans hx1061_3);injection ea_ with ea_ en_ ec_;subst ea_;subst ec_;clear en_)|((with_reducible refine gate_callee (f:=105) rfl ?_);refine goesL_ (some 50) rfl rfl Try.func105 (by kernel_rfl) rfl #[.slice A1057_3 ((rd_T48 l0 x5_1).f1.f2).length c1057_3,.int .i64 t1060] rfl (by (try simp only [List.map_toArray,List.map_cons,List.map_nil]);first|done|rfl|(simp only [List.length_drop,List.length_take];rfl)) ?_;(with_reducible refine (laws_heldBoolS.calls k1 _ _ ((rd_T48 l0 x5_1).f1.f2) t1060 t1062 _ ?side1 ?side2 A9.out).mono ?_);(case side1=>repeat (first|exact HR1061_3.out|(with_reducible refine Kd.C_alloc ?_ _)|(with_reducible refine Kd.C_drewN ?_ _)|(with_reducible refine Kd.C_drew ?_)));(case side2=>exact HC1061_3.out);rintro e w' ⟨rfl,⟨nd,rfl⟩⟩;refine ⟨_,rfl,?_⟩))
         go_roundg k1
         case measure=>have:=HK1.out;omega
         case rel=>exact ⟨(t1062),(wrap64 (x5_1 + 1)),(by first|rfl|(simp;done)|(simp [*];done)),(by first|rfl|(simp;done)|(simp [*];done)),H',⟨by have:=HK1.out;omega⟩,by repeat (first|exact Drawn0.refl _|apply Drawn0.step)⟩
     ·rw [if_neg c5] at H
      have c5b0 : (((rd_T48 l0 x5_1).f0) == x1_1) = false:=beq_eq_false_iff_ne.mpr c5
      have c5b1 : (((rd_T48 l0 x5_1).f0) != x1_1) = true:=bne_iff_ne.mpr c5
      obtain rfl:=Option.some.inj H
      have p1057 : 0 ≤ (x5_1 : Int):=of_decide_eq_true (by first|(with_reducible assumption)|assumption)
      have q1057 : x5_1 < (l0.length : Int):=of_decide_eq_true (by first|(with_reducible assumption)|assumption)
      obtain ⟨ad1057,A1057_2,c1057_2,A1057_3,c1057_3,e1057,hx1057_0,hx1057_1,hx1057_2,hx1057_3,hl1057_2,hi1057_2,hl1057_3,hi1057_3⟩:=at_T48 HR0.out x5_1 p1057 q1057
      cases e1057
      have HR1057_2:=Aside0.mk hi1057_2
      have HC1057_2:=Aside0.mk hl1057_2
      clear hi1057_2 hl1057_2
      have HR1057_3:=Aside0.mk hi1057_3
      have HC1057_3:=Aside0.mk hl1057_3
      clear hi1057_3 hl1057_3
      replace p1057:=eq_true p1057
      replace q1057:=eq_true q1057
      go_wp2
      go_ret
      exact ⟨by first|rfl|(simp;done)|(simp [*];done),by repeat (first|exact Drawn0.refl _|apply Drawn0.step)⟩
    ·rw [if_neg c4] at H
     exact absurd H (by simp)
   ·rw [if_neg c3] at H
    have c3b0 : decide (x5_1 < (l0.length : Int)) = false:=decide_eq_false c3
    clear c3
    obtain rfl:=Option.some.inj H
    go_wp2
    go_ret
    exact ⟨by first|rfl|(simp;done)|(simp [*];done),by repeat (first|exact Drawn0.refl _|apply Drawn0.step)⟩
end Go.Proofs.Ytpdnabhpkdchjaa.P
namespace Go.Proofs.Ytpdnabhpkdchjaa.P
open Go.RowKit Go.Proofs.YtpdnabhpkdchjaaW.PrintWords Go.Proofs.YtpdnabhpkdchjaaW.PrintLast Go.Proofs.YtpdnabhpkdchjaaW.PrintMore
set_option linter.unusedVariables false
set_option linter.unusedSimpArgs false
def wgtD (x : S48) : Nat := 2 + 5 * x.f1.f1.length + x.f1.f2.length
def totD : List S48 → Nat
  | [] => 0
  | x :: xs => wgtD x + totD xs
def markD1 (x : S48) (a : Int) : S48 := ⟨a, ⟨(Int.tmod (a + 1) 3) == 0, marks mkS 5 (a + 2) x.f1.f1.length, marks mkB 1 (a + 2 + 5 * (x.f1.f1.length : Int)) x.f1.f2.length⟩⟩
def markD : List S48 → Int → List S48
  | [], _ => []
  | x :: xs, a => markD1 x a :: markD xs (a + (wgtD x : Int))
theorem totD_append (s t : List S48) : totD (s ++ t) = totD s + totD t := by
  induction s with
  | nil => simp [totD]
  | cons r rs ih => simp only [List.cons_append, totD, ih]; omega
theorem markD_length (t : List S48) : ∀ a, (markD t a).length = t.length := by
  induction t with
  | nil => intro a; rfl
  | cons r rs ih => intro a; simp [markD, ih]
theorem markD_append (s t : List S48) : ∀ a, markD (s ++ t) a = markD s a ++ markD t (a + (totD s : Int)) := by
  induction s with
  | nil => intro a; simp [markD, totD]
  | cons r rs ih =>
    intro a
    simp only [List.cons_append, markD, ih, totD]
    rw [show a + (wgtD r : Int) + (totD rs : Int) = a + ((wgtD r + totD rs : Nat) : Int) by omega]
theorem totD_take_le (t : List S48) (i : Nat) : totD (t.take i) ≤ totD t := by
  have := totD_append (t.take i) (t.drop i)
  rw [List.take_append_drop] at this
  omega
theorem totD_take_succ (t : List S48) (i : Nat) (h : i < t.length) : totD (t.take (i + 1)) = totD (t.take i) + wgtD t[i] := by
  rw [List.take_succ_eq_append_getElem h, totD_append]; simp [totD]
theorem rd48 (t : List S48) (i : Nat) (h : i < t.length) : rd_T48 t (i : Int) = t[i] := by simp [rd_T48, h]
theorem markD_get (t : List S48) (a : Int) (i : Nat) (h : i < t.length) : (markD t a)[i]'(by rw [markD_length]; exact h) = markD1 t[i] (a + (totD (t.take i) : Int)) := by
  have e : t = t.take i ++ t[i] :: t.drop (i + 1) := by rw [← List.drop_eq_getElem_cons h, List.take_append_drop]
  have h2 : markD t a = markD (t.take i) a ++ markD1 t[i] (a + (totD (t.take i) : Int)) :: markD (t.drop (i + 1)) (a + (totD (t.take i) : Int) + (wgtD t[i] : Int)) := by
    conv => lhs; rw [e]
    rw [markD_append]
    rfl
  have hl : (markD (t.take i) a).length = i := by rw [markD_length, List.length_take]; omega
  simp only [h2]
  rw [List.getElem_append_right (by omega)]
  simp [hl]
theorem eqDone_ev (x : S48) (h1 : x.f1.f1.length ≤ 1048576) (h2 : x.f1.f2.length ≤ 1048576) : Ev (fun k => laws_eqDone.f k x.f0 x.f1.f0 x.f1.f1 x.f1.f2 x.f0 x.f1.f0 x.f1.f1 x.f1.f2) true := by
  unfold laws_eqDone.f
  exact Ev.ite_pos rfl (Ev.bind (eqState_ev _ _ _ h1 h2) (Ev.ite_pos rfl (Ev.now _)))
theorem eqDoneS_l0 (t : List S48) (hl : t.length ≤ 1000000000) (hr : ∀ x ∈ t, x.f1.f1.length ≤ 1048576 ∧ x.f1.f2.length ≤ 1048576) (d : Nat) : ∀ (i : Nat), i + d = t.length → Ev (fun k => laws_eqDoneS.l0 k t t i) true := by
  induction d with
  | zero => intro i hi; refine Ev.step1 fun k => ?_; simp only [laws_eqDoneS.l0]; rw [if_neg (by omega)]
  | succ d ih =>
    intro i hi
    have hlt : i < t.length := by omega
    have hx := hr t[i] (List.getElem_mem hlt)
    refine Ev.step (fun k => by simp only [laws_eqDoneS.l0, rd48 t i hlt, wrap_succ (show i < 9223372036854775807 by omega)]; rw [if_pos (by omega), if_pos (by omega), if_pos (by omega)]) ?_
    exact Ev.bind (eqDone_ev t[i] hx.1 hx.2) (Ev.ite_pos rfl (ih (i + 1) (by omega)))
theorem eqDoneS_ev (t : List S48) (hl : t.length ≤ 1000000000) (hr : ∀ x ∈ t, x.f1.f1.length ≤ 1048576 ∧ x.f1.f2.length ≤ 1048576) : Ev (fun k => laws_eqDoneS.f k t t) true := by
  unfold laws_eqDoneS.f
  exact Ev.ite_pos rfl (eqDoneS_l0 t hl hr t.length 0 (by omega))
theorem heldDoneS_l0 (t : List S48) (a : Int) (ha : 0 ≤ a) (hl : a + t.length ≤ 4000000000) (ht : a + totD t ≤ 4000000000) (d : Nat) : ∀ (i : Nat), i + d = t.length → Ev (fun k => laws_heldDoneS.l0 k (markD t a) (a + (totD (t.take i) : Int)) i) (a + (totD t : Int)) := by
  induction d with
  | zero =>
    intro i hi
    refine Ev.step1 fun k => ?_
    simp only [laws_heldDoneS.l0]
    rw [if_neg (by rw [markD_length]; omega), List.take_of_length_le (by omega)]
  | succ d ih =>
    intro i hi
    have hlt : i < t.length := by omega
    have h1 := totD_take_succ t i hlt
    have h2 := totD_take_le t (i + 1)
    have h3 := ih (i + 1) (by omega)
    have hg : rd_T48 (markD t a) (i : Int) = markD1 t[i] (a + (totD (t.take i) : Int)) := by rw [rd48 _ i (by rw [markD_length]; exact hlt), markD_get t a i hlt]
    have hw : wgtD t[i] = 2 + 5 * t[i].f1.f1.length + t[i].f1.f2.length := rfl
    generalize hb : a + (totD (t.take i) : Int) = b at *
    refine Ev.step (fun k => by
      simp only [laws_heldDoneS.l0, hg, markD1, wrap_succ (show i < 9223372036854775807 by omega)]
      rw [if_pos (by rw [markD_length]; omega), if_pos (by omega), if_pos trivial, wrap_id (x := b + 1) (by omega) (by omega), wrap_id (x := b + 1 + 1) (by omega) (by omega), if_neg (by simp), show b + 1 + 1 = b + 2 by omega]) ?_
    have e1 : Ev (fun k => laws_heldSectionS.f k (marks mkS 5 (b + 2) t[i].f1.f1.length) (b + 2)) (b + 2 + 5 * (t[i].f1.f1.length : Int)) := by
      unfold laws_heldSectionS.f
      simpa using heldSectionS_l0 t[i].f1.f1.length (b + 2) (by omega) (by omega) t[i].f1.f1.length 0 (by omega)
    have e2 : Ev (fun k => laws_heldBoolS.f k (marks mkB 1 (b + 2 + 5 * (t[i].f1.f1.length : Int)) t[i].f1.f2.length) (b + 2 + 5 * (t[i].f1.f1.length : Int))) (b + 2 + 5 * (t[i].f1.f1.length : Int) + (t[i].f1.f2.length : Int)) := by
      unfold laws_heldBoolS.f
      simpa using heldBoolS_l0 t[i].f1.f2.length (b + 2 + 5 * (t[i].f1.f1.length : Int)) (by omega) (by omega) t[i].f1.f2.length 0 (by omega)
    refine Ev.bind e1 (Ev.ite_neg (by omega) (Ev.bind e2 (Ev.ite_neg (by omega) ?_)))
    rw [h1] at h3
    rwa [show b + 2 + 5 * (t[i].f1.f1.length : Int) + (t[i].f1.f2.length : Int) = a + ((totD (t.take i) + wgtD t[i] : Nat) : Int) by omega]
theorem heldDoneS_ev (t : List S48) (a : Int) (ha : 0 ≤ a) (hl : a + t.length ≤ 4000000000) (ht : a + totD t ≤ 4000000000) : Ev (fun k => laws_heldDoneS.f k (markD t a) a) (a + (totD t : Int)) := by
  unfold laws_heldDoneS.f
  simpa [totD] using heldDoneS_l0 t a ha hl ht t.length 0 (by omega)
theorem elemD {w w0 : World} {g n cap j : Nat} {xs : List S48} {ok oki : Nat → Prop} {x0 : Int} {x1 : Bool} {s2 s3 : Value} {ss : List S50} {dd : List Bool}
    (hH : Kd.H k48 48 w w0.heap.size ok (.slice (some ⟨g, 0, none⟩) n cap) xs (j : Int) oki [.int .i64 x0, .bool x1, s2, s3]) (q1 : (j : Int) < n) (R2 : Kd.R k50 50 w w0.heap.size oki s2 ss) (R3 : Kd.R Kd.bool 4 w w0.heap.size oki s3 dd)
    (hoki : ∀ k, oki k → ok k ∧ k ≠ g) (hog : ok g) (hB : Below w0.heap.size w0 w) (hO : ∀ k, ok k → w0.heap.size ≤ k) (b : Int) (q : Bool) :
    Kd.H k48 48 ((w.setCell ⟨g, j * 4, none⟩ (.int .i64 b)).setCell ⟨g, j * 4 + 1, none⟩ (.bool q)) w0.heap.size ok (.slice (some ⟨g, 0, none⟩) n cap) xs (j : Int) oki [.int .i64 b, .bool q, s2, s3] ∧
    Kd.R k50 50 ((w.setCell ⟨g, j * 4, none⟩ (.int .i64 b)).setCell ⟨g, j * 4 + 1, none⟩ (.bool q)) w0.heap.size oki s2 ss ∧ Kd.R Kd.bool 4 ((w.setCell ⟨g, j * 4, none⟩ (.int .i64 b)).setCell ⟨g, j * 4 + 1, none⟩ (.bool q)) w0.heap.size oki s3 dd ∧
    Kept w ((w.setCell ⟨g, j * 4, none⟩ (.int .i64 b)).setCell ⟨g, j * 4 + 1, none⟩ (.bool q)) ok ∧ Below w0.heap.size w0 ((w.setCell ⟨g, j * 4, none⟩ (.int .i64 b)).setCell ⟨g, j * 4 + 1, none⟩ (.bool q)) := by
  have q0 : (0 : Int) ≤ (j : Int) := by omega
  obtain ⟨hH1, hg1⟩ := Kd.H_seg hH q0 q1 (seg := [.int .i64 b]) (j := 0) (by show 0 + 1 ≤ 4; omega) (by simp [Value.oneCell'])
  obtain ⟨hH2, hg2⟩ := Kd.H_seg hH1 q0 q1 (seg := [.bool q]) (j := 1) (by show 1 + 1 ≤ 4; omega) (by simp [Value.oneCell'])
  have hne2 : ∀ k, oki k → some k ≠ some g := fun k hk e => (hoki k hk).2 (by injection e)
  have R2a := Kd.R_grown (Kd.R_grown R2 hg1 hne2) hg2 hne2
  have R3a := Kd.R_grown (Kd.R_grown R3 hg1 hne2) hg2 hne2
  have hgk : Kept w _ ok := Kept.of_grown hg2 (Kept.of_grown hg1 (Kept.refl w ok) (fun k hk => .inl (by cases hk; exact hog))) (fun k hk => .inl (by cases hk; exact hog))
  have hgB := pw_below_grown (pw_below_grown hB _ hB.size hg1 (fun k hk => by cases hk; exact hO g hog)) _ (by have := hB.size; have := hg1.size; omega) hg2 (fun k hk => by cases hk; exact hO g hog)
  exact ⟨hH2, R2a, R3a, hgk, hgB⟩
theorem mark1D {w2 w3 : World} {B : Nat} {ok oki : Nat → Prop} {v s2 s3 : Value} {xs : List S48} {i : Int} {cs : List Value} {ss ss2 : List S50} {dd : List Bool} {P : Nat → Prop}
    (hH : Kd.H k48 48 w2 B ok v xs i oki cs) (R2 : Kd.R k50 50 w2 B oki s2 ss) (R3 : Kd.R Kd.bool 4 w2 B oki s3 dd) (R2' : Kd.R k50 50 w3 B P s2 ss2) (K : Kept w2 w3 (fun k => some k = s2.ownBlock)) :
    Kd.H k48 48 w3 B ok v xs i oki cs ∧ Kd.R k50 50 w3 B oki s2 ss2 ∧ Kd.R Kd.bool 4 w3 B oki s3 dd := by
  have a2 : ∀ k, some k = s2.ownBlock → oki k := fun k hk => R2.1 k hk.symm
  exact ⟨Kd.H_kept hH K (fun k ho hn hk => hn (a2 k hk)), Kd.R_reok rfl R2' (fun k hk => R2.1 k hk),
    Kd.R_mono (Kd.R_kept (Kd.R_apart' R3 (v := s2) (e' := 50) (Kd.R_typed R2) (fun q hq => by rcases List.mem_cons.mp hq with rfl | hq; decide; cases hq)) K (fun k hk hs => hk.2 hs)) (fun _ h => h.1)⟩
theorem mark2D {w2 w3 : World} {B : Nat} {ok oki : Nat → Prop} {v s2 s3 : Value} {xs : List S48} {i : Int} {cs : List Value} {ss : List S50} {dd dd2 : List Bool} {P : Nat → Prop}
    (hH : Kd.H k48 48 w2 B ok v xs i oki cs) (R2 : Kd.R k50 50 w2 B oki s2 ss) (R3 : Kd.R Kd.bool 4 w2 B oki s3 dd) (R3' : Kd.R Kd.bool 4 w3 B P s3 dd2) (K : Kept w2 w3 (fun k => some k = s3.ownBlock)) :
    Kd.H k48 48 w3 B ok v xs i oki cs ∧ Kd.R k50 50 w3 B oki s2 ss ∧ Kd.R Kd.bool 4 w3 B oki s3 dd2 := by
  have a2 : ∀ k, some k = s3.ownBlock → oki k := fun k hk => R3.1 k hk.symm
  exact ⟨Kd.H_kept hH K (fun k ho hn hk => hn (a2 k hk)),
    Kd.R_mono (Kd.R_kept (Kd.R_apart' R2 (v := s3) (e' := 4) (Kd.R_typed R3) (fun q hq => by rcases List.mem_cons.mp hq with rfl | hq; decide; cases hq)) K (fun k hk hs => hk.2 hs)) (fun _ h => h.1), Kd.R_reok rfl R3' (fun k hk => R3.1 k hk)⟩
theorem markSectionS_ev (l : List S50) (a : Int) (ha : 0 ≤ a) (hl : a + 5 * l.length ≤ 4611686018427387903) : Ev (fun k => laws_markSectionS.f k l a) (a + 5 * l.length, marks mkS 5 a l.length) := by
  unfold laws_markSectionS.f
  simpa using markSectionS_l0 l a ha hl l.length 0 (by omega)
theorem markBoolS_ev (l : List Bool) (a : Int) (ha : 0 ≤ a) (hl : a + l.length ≤ 4611686018427387903) : Ev (fun k => laws_markBoolS.f k l a) (a + l.length, marks mkB 1 a l.length) := by
  unfold laws_markBoolS.f
  simpa using markBoolS_l0 l a ha hl l.length 0 (by omega)
theorem ret_iD {a b : Int} (h : a = b) : Ending.returned (.int .i64 a) = .returned (.int .i64 b) := by rw [h]
set_option maxHeartbeats 4000000 in
set_option maxRecDepth 100000 in
theorem markDoneS_is (g c : Nat) (t : List S48) (a : Int) (w0 w : World) (ok : Nat → Prop) (hB : Below w0.heap.size w0 w) (hH : Kd.S k48 48 w w0.heap.size ok (.slice (some ⟨g, 0, none⟩) t.length c) t)
    (hok : ∀ k, ok k → w0.heap.size ≤ k) (ha : 0 ≤ a) (hl : t.length ≤ 1000000000) (ht : a + totD t ≤ 4000000000) :
    Calls Try.prog 77 #[.slice (some ⟨g, 0, none⟩) t.length c, .int .i64 a] w fun e w' => e = .returned (.int .i64 (a + (totD t : Int))) ∧ Kd.S k48 48 w' w0.heap.size ok (.slice (some ⟨g, 0, none⟩) t.length c) (markD t a) ∧ Below w0.heap.size w0 w' ∧ Kept w w' ok := by
  have HT := Aside0.mk ht
  have HA := Aside0.mk ha
  have HB := Aside0.mk hB
  have HS := Aside0.mk hH
  have HO := Aside0.mk hok
  clear hB hH ha ht hok
  go_enter Try.func77, Try.ntmps77
  go_wp2
  go_loopg [1, 5] t.length (fun kq v1 v5 w' => ∃ j : Nat, v1 = .int .i64 (a + (totD (t.take j) : Int)) ∧ v5 = .int .i64 j ∧ Aside0 (j + kq = t.length) ∧ Aside0 (Kd.S k48 48 w' w0.heap.size ok (.slice (some ⟨g, 0, none⟩) t.length c) (markD (t.take j) a ++ t.drop j)) ∧ Aside0 (Below w0.heap.size w0 w') ∧ Aside0 (Kept w w' ok))
  case atStart => exact ⟨0, by simp [totD], rfl, ⟨by omega⟩, HS, HB, ⟨Kept.refl _ _⟩⟩
  case round =>
    clear HS HB
    obtain ⟨j, rfl, rfl, HJ, HS, HB, HK⟩ := hrel
    by_cases hlt : j < t.length
    · cases gk with
      | zero => exact absurd HJ.out (by omega)
      | succ gk =>
      have q0 : (0 : Int) ≤ (j : Int) := by omega
      have q1 : (j : Int) < (t.length : Int) := by omega
      have hlt' : decide ((j : Int) < (t.length : Int)) = true := decide_eq_true q1
      obtain ⟨oki, ce, hcl, hM, hcc, hoki, hH⟩ := Kd.S_lend HS.out z48 (j : Int) q0 q1
      have hm : (markD (t.take j) a).length = j := by rw [markD_length, List.length_take]; omega
      have hrow : (markD (t.take j) a ++ t.drop j).getD ((j : Int)).toNat z48 = t[j] := by
        rw [Int.toNat_natCast, List.getD_eq_getElem?_getD, List.getElem?_append_right (by omega), hm, Nat.sub_self, List.drop_eq_getElem_cons hlt]
        rfl
      rw [hrow] at hM
      have h1 := totD_take_succ t j hlt
      have h2 := totD_take_le t (j + 1)
      have hw : wgtD t[j] = 2 + 5 * t[j].f1.f1.length + t[j].f1.f2.length := rfl
      have hb0 : 0 ≤ a + (totD (t.take j) : Int) := by have := HA.out; omega
      have hb1 : a + (totD (t.take j) : Int) + (wgtD t[j] : Int) ≤ 4000000000 := by have := HT.out; omega
      have eset : (markD (t.take j) a ++ t.drop j).set ((j : Int)).toNat (markD1 t[j] (a + (totD (t.take j) : Int))) = markD (t.take (j + 1)) a ++ t.drop (j + 1) := by
        rw [Int.toNat_natCast, List.set_append_right _ _ (by omega), hm, Nat.sub_self, List.drop_eq_getElem_cons hlt, List.set_cons_zero, List.take_succ_eq_append_getElem hlt, markD_append, List.append_assoc]
        rfl
      have ESET := Aside0.mk eset
      have ETO := Aside0.mk (show a + (totD (t.take (j + 1)) : Int) = a + (totD (t.take j) : Int) + (wgtD t[j] : Int) by omega)
      generalize t[j] = x at hM ESET ETO hw hb1
      generalize hbb : a + (totD (t.take j) : Int) = b at ESET ETO hb0 hb1 ⊢
      clear hbb h1 h2 hm hrow eset hcl
      obtain ⟨v2, v3, rfl, hR2, hR3⟩ := k48_openM hM
      obtain ⟨A2, c2, rfl⟩ := Kd.R_slice hR2
      obtain ⟨A3, c3, rfl⟩ := Kd.R_slice hR3
      have hogs := (Kd.S_R HS.out).1 g rfl
      obtain ⟨cc, zf⟩ := Kd.H_at hH q0 q1
      have y0 : wr.cell? ⟨g, j * 4, none⟩ = some (.int .i64 x.f0) := cc 0 _ rfl
      have y1 : wr.cell? ⟨g, j * 4 + 1, none⟩ = some (.bool x.f1.f0) := cc 1 _ rfl
      have f0 : wr.frozen? ⟨g, j * 4, none⟩ = false := zf 0
      have f1 : wr.frozen? ⟨g, j * 4 + 1, none⟩ = false := zf 1
      have EL := Aside0.mk (elemD hH q1 hR2 hR3 hoki hogs HB.out HO.out b ((b + 1) % 3 == 0))
      have HOI := Aside0.mk hoki
      have HW := Aside0.mk hw
      have w1 : IntKind.i64.wrap (b + 1) = b + 1 := by rw [i64_w]; exact wrap_id (by omega) (by omega)
      have w2 : IntKind.i64.wrap (b + 1 + 1) = b + 2 := by rw [i64_w]; exact (wrap_id (by omega) (by omega)).trans (by omega)
      have w3 : wrap64 (b + 1) = b + 1 := wrap_id (by omega) (by omega)
      have w4 : wrap64 (b + 1 + 1) = b + 2 := (wrap_id (by omega) (by omega)).trans (by omega)
      clear cc zf hH hR2 hR3 hM hoki hcc
      have m3 : Int.tmod (b + 1) 3 = (b + 1) % 3 := Int.tmod_eq_emod_of_nonneg (by omega)
      obtain ⟨k2, e2⟩ := (markSectionS_ev x.f1.f1 (b + 2) (by omega) (by omega)).rounds
      obtain ⟨k3, e3⟩ := (markBoolS_ev x.f1.f2 (b + 2 + 5 * (x.f1.f1.length : Int)) (by omega) (by omega)).rounds
      have E2 := Aside0.mk e2
      have E3 := Aside0.mk e3
      have M3 := Aside0.mk m3
      clear e2 e3 m3
      go_upto_region 8 with fail
      generalize (wr.setCell ⟨g, j * 4, none⟩ (.int .i64 b)).setCell ⟨g, j * 4 + 1, none⟩ (.bool ((b + 1) % 3 == 0)) = w2 at EL ⊢
      obtain ⟨⟨hH2, hR2, hR3, hK2, hB2⟩⟩ := EL
      obtain ⟨cc, zf⟩ := Kd.H_at hH2 q0 q1
      have y2 : w2.cell? ⟨g, j * 4 + 2, none⟩ = some (.slice A2 x.f1.f1.length c2) := cc 2 _ rfl
      have y3 : w2.cell? ⟨g, j * 4 + 3, none⟩ = some (.slice A3 x.f1.f2.length c3) := cc 3 _ rfl
      have HH2 := Aside0.mk hH2
      have HR2 := Aside0.mk hR2
      have HR3 := Aside0.mk hR3
      have HK2 := Aside0.mk hK2
      have HB2 := Aside0.mk hB2
      clear cc zf hH2 hR2 hR3 hK2 hB2 y0 y1 f0 f1
      go_upto_region 9 with (go_at_call 102; refine (laws_markSectionS.calls k2 (fun k => some k = (Value.slice A2 x.f1.f1.length c2).ownBlock) _ _ _ _ _ w0 _ HB2.out (Kd.R_tight rfl HR2.out) E2.out).mono ?_; rintro e w3 ⟨rfl, hR4, hB4, hK4⟩; have HB4 := Aside0.mk hB4; have HM1 := Aside0.mk (mark1D HH2.out HR2.out HR3.out hR4 hK4); have HK4 := Aside0.mk hK4; clear hB4 hR4 hK4)
      obtain ⟨⟨hH5, hR5, hR6⟩⟩ := HM1
      obtain ⟨cc, zf⟩ := Kd.H_at hH5 q0 q1
      have z3 : w3.cell? ⟨g, j * 4 + 3, none⟩ = some (.slice A3 x.f1.f2.length c3) := cc 3 _ rfl
      have HH5 := Aside0.mk hH5
      have HR5 := Aside0.mk hR5
      have HR6 := Aside0.mk hR6
      clear cc zf hH5 hR5 hR6 y2 y3
      go_wp2_with (go_at_call 103; refine (laws_markBoolS.calls k3 (fun k => some k = (Value.slice A3 x.f1.f2.length c3).ownBlock) _ _ _ _ _ w0 _ HB4.out (Kd.R_tight rfl HR6.out) E3.out).mono ?_; rintro e w5 ⟨rfl, hR7, hB7, hK7⟩; have HB7 := Aside0.mk hB7; have HM2 := Aside0.mk (mark2D HH5.out HR5.out HR6.out hR7 hK7); have HK7 := Aside0.mk hK7; clear hB7 hR7 hK7)
      go_roundg gk
      case measure => omega
      case rel =>
        refine ⟨j + 1, ?_, by go_num, ⟨by have := HJ.out; omega⟩, ⟨?_⟩, HB7, ⟨((HK.out.then_ HK2.out (fun _ h => .inl h)).then_ HK4.out (fun k hk => .inl (HOI.out k (HR2.out.1 k hk.symm)).1)).then_ HK7.out (fun k hk => .inl (HOI.out k (HR3.out.1 k hk.symm)).1)⟩⟩
        · rw [ETO.out]; exact congrArg (Value.int .i64) (by have := HW.out; omega)
        · have := Kd.H_back HM2.out.1 (x' := markD1 x b) (okp := oki) (by
            have := k48_mkM w5 w0.heap.size oki (markD1 x b) HM2.out.2.1 HM2.out.2.2
            have e : (markD1 x b).f1.f0 = ((b + 1) % 3 == 0) := by show (Int.tmod (b + 1) 3 == 0) = _; rw [M3.out]
            rw [e] at this
            exact this) (fun _ h => h)
          rw [ESET.out] at this
          exact this
    · have hj : j = t.length := by have := HJ.out; omega
      have hlt' : decide ((j : Int) < (t.length : Int)) = false := decide_eq_false (by omega)
      have e1 : t.take j = t := List.take_of_length_le (by omega)
      have HS2 := Aside0.mk (show Kd.S k48 48 wr w0.heap.size ok (.slice (some ⟨g, 0, none⟩) t.length c) (markD t a) by have := HS.out; rw [e1, List.drop_eq_nil_of_le (by omega), List.append_nil] at this; exact this)
      have HE := Aside0.mk e1
      clear hj e1
      go_wp2
      go_ret
      exact ⟨ret_iD (congrArg (fun x : List S48 => a + (totD x : Int)) HE.out), HS2.out, HB.out, HK.out⟩
theorem markDoneS_nil (A : Option Addr) (c : Nat) (a : Int) (w : World) : Calls Try.prog 77 #[.slice A 0 c, .int .i64 a] w fun e w' => e = .returned (.int .i64 a) ∧ w = w' := by
  go_enter Try.func77, Try.ntmps77
  go_wp2
  refine wp_loop_rounds 1 ?_
  rw [rounds_succ]
  go_wp2
  go_ret
  exact ⟨rfl, rfl⟩
section
variable {A A' : Option Addr} {n n' c c' : Nat} {t : List S48} {w0 w : World} {base base' : Nat} {ok ok' : Nat → Prop}
theorem markD_any (hB : Below w0.heap.size w0 w) (hH : Kd.S k48 48 w w0.heap.size ok (.slice A t.length c) t) (hok : ∀ k, ok k → w0.heap.size ≤ k) (hl : t.length ≤ 1000000000) (ht : totD t ≤ 3000000000) :
    Calls Try.prog 77 #[.slice A t.length c, .int .i64 1] w fun e w' => e = .returned (.int .i64 (1 + (totD t : Int))) ∧ Kd.S k48 48 w' w0.heap.size ok (.slice A t.length c) (markD t 1) ∧ Below w0.heap.size w0 w' ∧ Kept w w' ok := by
  rcases Nat.eq_zero_or_pos t.length with h0 | h0
  · have e := List.eq_nil_of_length_eq_zero h0
    subst e
    refine (markDoneS_nil A c 1 w).mono ?_
    rintro e w' ⟨he, rfl⟩
    exact ⟨he, hH, hB, Kept.refl _ _⟩
  · obtain ⟨g, cap, e, _, _, _⟩ := Kd.S_form hH h0
    cases e
    exact markDoneS_is g c t 1 w0 w ok hB hH hok (by omega) (by omega) (by omega)
theorem eqD_any (h1 : Kd.S k48 48 w base ok (.slice A n c) t) (h2 : Kd.S k48 48 w base' ok' (.slice A' n' c') t) (hl : t.length ≤ 1000000000) (hr : ∀ x ∈ t, x.f1.f1.length ≤ 1048576 ∧ x.f1.f2.length ≤ 1048576) :
    Calls Try.prog 76 #[.slice A n c, .slice A' n' c'] w fun e w' => e = .returned (.bool true) ∧ Below w.heap.size w w' := by
  obtain ⟨rfl, l1, r1⟩ := Kd.S_reads' h1
  obtain ⟨rfl, l2, r2⟩ := Kd.S_reads' h2
  obtain ⟨k, hk⟩ := (eqDoneS_ev t (by omega) hr).rounds
  exact laws_eqDoneS.calls k A c t A' c' t true w r1 l1 r2 l2 hk
theorem heldD_any (h1 : Kd.S k48 48 w base ok (.slice A n c) (markD t 1)) (hl : t.length ≤ 1000000000) (ht : totD t ≤ 3000000000) :
    Calls Try.prog 78 #[.slice A n c, .int .i64 1] w fun e w' => e = .returned (.int .i64 (1 + (totD t : Int))) ∧ Below w.heap.size w w' := by
  obtain ⟨rfl, l1, r1⟩ := Kd.S_reads' h1
  obtain ⟨k, hk⟩ := (heldDoneS_ev t 1 (by omega) (by omega) (by omega)).rounds
  exact (laws_heldDoneS.calls k A c _ 1 _ w r1 l1 hk).mono fun e w' ⟨he, hd⟩ => ⟨he, hd.below⟩
end
end Go.Proofs.Ytpdnabhpkdchjaa.P
namespace Go.Proofs.Ytpdnabhpkdchjaa.P
open Go.RowKit Go.Proofs.YtpdnabhpkdchjaaW.PrintWords Go.Proofs.YtpdnabhpkdchjaaW.PrintLast Go.Proofs.YtpdnabhpkdchjaaW.PrintMore
attribute [local go_sem] max2_int min2_int max_two min_two max_three min_three max_four min_four
set_option linter.unusedVariables false
set_option linter.unusedSimpArgs false
def laws_szEventS.f (l0 : List (S54)) (a1 : Int) : Option (Int):=if (wrap64 (a1 - (l0.length : Int))) < 0 then (some (-1)) else (some (wrap64 (a1 - (l0.length : Int))))
set_option maxHeartbeats 8000000 in
set_option maxRecDepth 100000 in
theorem laws_szEventS.calls (A0 : Option Addr) (c0 : Nat) (l0 : List (S54)) (a1 : Int) (r : Int) (w : World) (hr0 : Kd.C k54 w A0 l0.length l0) (hc0 : l0.length ≤ c0) (h : laws_szEventS.f l0 a1 = some r) :
  Calls Try.prog 48 #[.slice A0 l0.length c0,.int .i64 a1] w fun e w'=>e = .returned (.int .i64 r)∧Drawn0 w w':=by
 have HR0:=Aside0.mk hr0
 have HC0:=Aside0.mk hc0
 clear hr0 hc0
 have H : (if (wrap64 (a1 - (l0.length : Int))) < 0 then (some (-1)) else (some (wrap64 (a1 - (l0.length : Int))))) = some r:=h
 clear h
 by_cases c3 : (wrap64 (a1 - (l0.length : Int))) < 0
 ·rw [if_pos c3] at H
  have c3b0 : decide ((wrap64 (a1 - (l0.length : Int))) < 0) = true:=decide_eq_true c3
  clear c3
  obtain rfl:=Option.some.inj H
  go_enter Try.func48,Try.ntmps48
  go_wp2
  go_ret
  exact ⟨by first|rfl|(simp;done)|(simp [*];done),by repeat (first|exact Drawn0.refl _|apply Drawn0.step)⟩
 ·rw [if_neg c3] at H
  have c3b0 : decide ((wrap64 (a1 - (l0.length : Int))) < 0) = false:=decide_eq_false c3
  clear c3
  obtain rfl:=Option.some.inj H
  go_enter Try.func48,Try.ntmps48
  go_wp2
  go_ret
  exact ⟨by first|rfl|(simp;done)|(simp [*];done),by repeat (first|exact Drawn0.refl _|apply Drawn0.step)⟩
end Go.Proofs.Ytpdnabhpkdchjaa.P
namespace Go.Proofs.Ytpdnabhpkdchjaa.P
open Go.RowKit Go.Proofs.YtpdnabhpkdchjaaW.PrintWords Go.Proofs.YtpdnabhpkdchjaaW.PrintLast Go.Proofs.YtpdnabhpkdchjaaW.PrintMore
attribute [local go_sem] max2_int min2_int max_two min_two max_three min_three max_four min_four
set_option linter.unusedVariables false
set_option linter.unusedSimpArgs false
def laws_toEventS.l0 : Nat → List (S54) → List (S56) → Int → Option ((List (S56)))
 | 0,_,_,_=>none
 | k + 1,x0,x3,x4=>if x4 < (x0.length : Int) then (if 0 ≤ x4 then ((laws_toEvent.f ((rd_T54 x0 x4).f0) ((rd_T54 x0 x4).f1) ((rd_T54 x0 x4).f2)).bind fun bt607=>(if x4 < (x3.length : Int) then (laws_toEventS.l0 k x0 (x3.set (x4 : Int).toNat (⟨bt607.1,bt607.2.1,bt607.2.2⟩ : S56)) (wrap64 (x4 + 1))) else (none))) else (none)) else (some x3)
def laws_toEventS.f (k : Nat) (l0 : List (S54)) : Option ((List (S56))):=if 0 ≤ (l0.length : Int) then (if ((l0.length : Int) : Int).toNat ≤ 11728124029610 then (laws_toEventS.l0 k l0 (List.replicate ((l0.length : Int) : Int).toNat z56) 0) else (none)) else (none)
set_option maxHeartbeats 8000000 in
set_option maxRecDepth 100000 in
theorem laws_toEventS.calls (k : Nat) (A0 : Option Addr) (c0 : Nat) (l0 : List (S54)) (r : List (S56)) (w : World) (hr0 : Kd.C k54 w A0 l0.length l0) (hc0 : l0.length ≤ c0) (h : laws_toEventS.f k l0 = some r) :
  Calls Try.prog 50 #[.slice A0 l0.length c0] w fun e w'=>∃ v0_ : Value,e = .returned (v0_)∧Kd.R k56 56 w' w.heap.size (fun _=>True) v0_ r∧Below w.heap.size w w':=by
 have hu54:=Try.underlying54
 have hu56:=Try.underlying56
 have HR0:=Aside0.mk hr0
 have HC0:=Aside0.mk hc0
 clear hr0 hc0
 have HB:=Aside0.mk (Below.refl w.heap.size w)
 have H : (if 0 ≤ (l0.length : Int) then (if ((l0.length : Int) : Int).toNat ≤ 11728124029610 then (laws_toEventS.l0 k l0 (List.replicate ((l0.length : Int) : Int).toNat z56) 0) else (none)) else (none)) = some r:=h
 clear h
 by_cases c2 : 0 ≤ (l0.length : Int)
 ·rw [if_pos c2] at H
  have c2b0:=eq_true c2
  have c2b1 : decide (0 ≤ (l0.length : Int)) = true:=decide_eq_true c2
  clear c2
  by_cases c3 : ((l0.length : Int) : Int).toNat ≤ 11728124029610
  ·rw [if_pos c3] at H
   have c3b0:=eq_true c3
   have c3b1 : decide (((l0.length : Int) : Int).toNat ≤ 11728124029610) = true:=decide_eq_true c3
   clear c3
   obtain ⟨y603,hy603⟩ : ∃ y_ : List (S56),y_ = (List.replicate ((l0.length : Int) : Int).toNat z56):=⟨_,rfl⟩
   replace H : (laws_toEventS.l0 k l0 y603 0) = some r:=by first|(rw [hy603];with_reducible exact H)|(have H2_:=(Option.bind_some _ _).symm.trans H;rw [hy603];with_reducible exact H2_)|(have H2_:=(Option.bind_some _ _).symm.trans H;with_reducible exact H2_)|with_reducible exact H|(rw [hy603];exact H)|exact H
   have Ny603:=Aside0.mk hy603
   clear hy603
   have H':=Aside0.mk H
   clear H
   go_enter Try.func50,Try.ntmps50
   go_wp2_with (first|((with_reducible refine gate_dst (N:=7) rfl ?_);refine Kd.R_make k56 _ 56 rfl (N:=7) rfl 35 _ _ rfl (l0.length : Int) rfl rfl Try.underlying35 (.agg #[(.int .i64 0),(.int .i64 0),(.int .i64 0)]) 24 info56 rfl (by decide) (by omega) z56 (ok:=fun _=>True) (okp:=fun _=>True) (k56_mkM _ _ _ z56 ) (fun _ hk=>hk) trivial (of_decide_eq_true (by first|(with_reducible assumption)|assumption)) (Nat.le_trans (Nat.mul_le_mul_right _ (of_decide_eq_true (by first|(with_reducible assumption)|assumption) : (l0.length : Int).toNat ≤ 11728124029610)) (by omega)) (Below.refl _ _) (Nat.le_refl _) ?_;intro v604 w4 ho5 hb hg_ hnew_;clear hg_ hnew_;(first|rw [← Ny603.out] at ho5|(simp only [Int.reduceToNat] at ho5;rw [← Ny603.out] at ho5));have n0_:=Aside0.mk (Kd.R_lower ho5 (below_size (by repeat (first|(with_reducible first|exact HB.out|apply below_alloc|apply pw_below_drewN|apply below_drew1)|exact HB.out))));have n1_:=Aside0.mk (below_step (by repeat (first|(with_reducible first|exact HB.out|apply below_alloc|apply pw_below_drewN|apply below_drew1)|exact HB.out)) hb);clear HB;have HO605:=n0_;have HB:=n1_;clear n0_ n1_;clear hb ho5))
   go_loopg [4] k (fun kq v4 w'=>∃ (x3_1 : List (S56)) (x4_1 : Int),v4 = .int .i64 x4_1∧Aside0 (laws_toEventS.l0 kq l0 x3_1 x4_1 = some r)∧Aside0 (kq ≤ k)∧Aside0 (Kd.R k56 56 w' w.heap.size (fun _=>True) v604 x3_1)∧Aside0 (Below w.heap.size w w'))
   case atStart=>exact ⟨(y603),(0),(by first|rfl|(simp;done)|(simp [*];done)),H',⟨Nat.le_refl _⟩,⟨by (with_reducible repeat (first|apply Kd.R_alloc|apply Kd.R_drewN|apply Kd.R_drew));exact HO605.out⟩,⟨by repeat (first|(with_reducible first|exact HB.out|apply below_alloc|apply pw_below_drewN|apply below_drew1)|exact HB.out)⟩⟩
   case round =>
    clear H'
    try clear c2
    try clear c2b0
    try clear c2b1
    try clear p2
    try clear c3
    try clear c3b0
    try clear c3b1
    try clear c5
    obtain ⟨x3_1,x4_1,rfl,HA,HK1,HO_3,HB⟩:=hrel
    cases gk with
    | zero=>exact absurd HA.out (by simp [laws_toEventS.l0])
    | succ k1 =>
     have H:=HA.out
     clear HA
     simp only [laws_toEventS.l0] at H
     by_cases c6 : x4_1 < (l0.length : Int)
     ·rw [if_pos c6] at H
      have c6b0 : decide (x4_1 < (l0.length : Int)) = true:=decide_eq_true c6
      clear c6
      by_cases c7 : 0 ≤ x4_1
      ·rw [if_pos c7] at H
       have c7b0 : decide (0 ≤ x4_1) = true:=decide_eq_true c7
       clear c7
       replace H:=Option.bind_eq_some_iff.mp H
       obtain ⟨⟨t607,t608,t609⟩,A80,H⟩:=H
       replace H : (if x4_1 < (x3_1.length : Int) then (laws_toEventS.l0 k1 l0 (x3_1.set (x4_1 : Int).toNat (⟨t607,t608,t609⟩ : S56)) (wrap64 (x4_1 + 1))) else (none)) = some r:=H
       have A8:=Aside0.mk A80
       clear A80
       by_cases c9 : x4_1 < (x3_1.length : Int)
       ·rw [if_pos c9] at H
        have c9b0 : decide (x4_1 < (x3_1.length : Int)) = true:=decide_eq_true c9
        clear c9
        obtain ⟨y610,hy610⟩ : ∃ y_ : List (S56),y_ = (x3_1.set (x4_1 : Int).toNat (⟨t607,t608,t609⟩ : S56)):=⟨_,rfl⟩
        replace H : (laws_toEventS.l0 k1 l0 y610 (wrap64 (x4_1 + 1))) = some r:=by first|(rw [hy610];with_reducible exact H)|(have H2_:=(Option.bind_some _ _).symm.trans H;rw [hy610];with_reducible exact H2_)|(have H2_:=(Option.bind_some _ _).symm.trans H;with_reducible exact H2_)|with_reducible exact H|(rw [hy610];exact H)|exact H
        have Ny610:=Aside0.mk hy610
        clear hy610
        have H':=Aside0.mk H
        clear H
        have p606 : 0 ≤ (x4_1 : Int):=of_decide_eq_true (by first|(with_reducible assumption)|assumption)
        have q606 : x4_1 < (l0.length : Int):=of_decide_eq_true (by first|(with_reducible assumption)|assumption)
        obtain ⟨ad606,e606,hx606_0,hx606_1,hx606_2⟩:=at_T54 HR0.out x4_1 p606 q606
        cases e606
        replace hx606_0:=(HB.out.cell (World.block_lt_of_cell? w _ hx606_0)).trans hx606_0
        replace hx606_1:=(HB.out.cell (World.block_lt_of_cell? w _ hx606_1)).trans hx606_1
        replace hx606_2:=(HB.out.cell (World.block_lt_of_cell? w _ hx606_2)).trans hx606_2
        replace p606:=eq_true p606
        replace q606:=eq_true q606
        go_wp2_with (first|((with_reducible refine gate_callee (f:=35) rfl ?_);refine goesL_ (some 20) rfl rfl Try.func35 (by kernel_rfl) rfl #[.agg #[.int .i64 ((rd_T54 l0 x4_1).f0),.int .i64 ((rd_T54 l0 x4_1).f1),.int .i64 ((rd_T54 l0 x4_1).f2)]] rfl (by (try simp only [List.map_toArray,List.map_cons,List.map_nil]);first|done|rfl|(simp only [List.length_drop,List.length_take];rfl)) ?_;(with_reducible refine (laws_toEvent.calls ((rd_T54 l0 x4_1).f0) ((rd_T54 l0 x4_1).f1) ((rd_T54 l0 x4_1).f2) t607 t608 t609 _ A8.out).mono ?_);rintro e w11 ⟨rfl,hb⟩;refine ⟨_,rfl,?_⟩;have n0_:=Aside0.mk (Kd.R_below (by (with_reducible repeat (first|apply Kd.R_alloc|apply Kd.R_drewN|apply Kd.R_drew));exact HO_3.out) hb);have n1_:=Aside0.mk (below_step (by repeat (first|(with_reducible first|exact HB.out|apply below_alloc|apply pw_below_drewN|apply below_drew1)|exact HB.out)) hb);clear HO_3;clear HB;have HO_3:=n0_;have HB:=n1_;clear n0_ n1_;(try clear hb);(try clear hb2);(try clear hk);(try clear hi);have p10 : 0 ≤ (x4_1 : Int):=of_decide_eq_true (by first|(with_reducible assumption)|assumption);have q10 : (x4_1 : Int) < ((x3_1.length : Int) : Int):=of_decide_eq_true (by first|(with_reducible assumption)|assumption);obtain ⟨go10,co10,eo10,gb10,gl10,cl10,HG10⟩:=Kd.R_form HO_3.out (by omega);(first|cases eo10|(injection eo10 with ea_ en_ ec_;(first|subst ea_|(injection ea_ with ea_;subst ea_));subst ec_;clear en_));have GB10:=Aside0.mk gb10;have GG10:=Aside0.mk HG10;clear gb10 gl10 HG10;obtain ⟨ce10,hcl10,hM10,hcc10,hfr10⟩:=Kd.R_elem HO_3.out z56 (x4_1 : Int) p10 q10;obtain rfl:=k56_openM hM10;have hx10_0 : w11.cell? ⟨go10,(x4_1 : Int).toNat * 3,none⟩ = some (.int .i64 ((rd_T56 x3_1 x4_1).f0)):=hcc10 0 _ rfl;have hx10_1 : w11.cell? ⟨go10,(x4_1 : Int).toNat * 3 + 1,none⟩ = some (.int .i64 ((rd_T56 x3_1 x4_1).f1)):=hcc10 1 _ rfl;have hx10_2 : w11.cell? ⟨go10,(x4_1 : Int).toNat * 3 + 2,none⟩ = some (.int .i64 ((rd_T56 x3_1 x4_1).f2)):=hcc10 2 _ rfl;have hf10_0 : w11.frozen? ⟨go10,(x4_1 : Int).toNat * 3,none⟩ = false:=hfr10 0;have hf10_1 : w11.frozen? ⟨go10,(x4_1 : Int).toNat * 3 + 1,none⟩ = false:=hfr10 1;have hf10_2 : w11.frozen? ⟨go10,(x4_1 : Int).toNat * 3 + 2,none⟩ = false:=hfr10 2;clear hcl10 hcc10 hfr10 hM10;replace p10:=eq_true p10;replace q10:=eq_true q10;have HX12:=Aside0.mk (show Kd.R k56 56 w11 w.heap.size (fun _=>True) (.slice (some ⟨go10,0,none⟩) x3_1.length co10) x3_1 from (by (with_reducible repeat (first|apply Kd.R_alloc|apply Kd.R_drewN|apply Kd.R_drew));exact HO_3.out));obtain ⟨ce12,hcl12,hM12,hcc12,hfr12⟩:=Kd.R_elem HX12.out z56 (x4_1 : Int) (of_decide_eq_true (by first|(with_reducible assumption)|assumption)) (by have h_ : (x4_1 : Int) < ((x3_1.length : Int) : Int):=of_decide_eq_true (by first|(with_reducible assumption)|assumption);first|exact h_|(have e_:=(Kd.R_reads' HO_3.out).1;omega)|simpa using h_);obtain rfl:=k56_openM hM12;have HP12:=Kd.R_seg HX12.out (x4_1 : Int) (of_decide_eq_true (by first|(with_reducible assumption)|assumption)) (by have h_ : (x4_1 : Int) < ((x3_1.length : Int) : Int):=of_decide_eq_true (by first|(with_reducible assumption)|assumption);first|exact h_|(have e_:=(Kd.R_reads' HO_3.out).1;omega)|simpa using h_) (seg:=[.int .i64 t607,.int .i64 t608,.int .i64 t609]) (j:=0) hcl12 hcc12 (show 3 ≤ 3 from by decide) (x':=(⟨t607,t608,t609⟩ : S56)) (k56_mkM _ _ _ (⟨t607,t608,t609⟩ : S56) ) (fun _ hk=>hk);have hx12_0:=hcc12 0 _ rfl;(try simp only [show (k56).sz = 3 from rfl,Nat.mul_one,Nat.add_zero] at hx12_0);have hf12_0:=hfr12 0;(try simp only [show (k56).sz = 3 from rfl,Nat.mul_one,Nat.add_zero] at hf12_0);have hx12_1:=hcc12 1 _ rfl;(try simp only [show (k56).sz = 3 from rfl,Nat.mul_one,Nat.add_zero] at hx12_1);have hf12_1:=hfr12 1;(try simp only [show (k56).sz = 3 from rfl,Nat.mul_one,Nat.add_zero] at hf12_1);have hx12_2:=hcc12 2 _ rfl;(try simp only [show (k56).sz = 3 from rfl,Nat.mul_one,Nat.add_zero] at hx12_2);have hf12_2:=hfr12 2;(try simp only [show (k56).sz = 3 from rfl,Nat.mul_one,Nat.add_zero] at hf12_2);clear hcl12 hcc12 hfr12 hM12)|((with_reducible refine gate_store (t:=56) (p:=21) rfl ?_);refine store_event (t:=56) (p:=21) (v:=?vo_w13) (w1:=(((w11.setCell ⟨go10,(x4_1 : Int).toNat * 3,none⟩ (.int .i64 t607)).setCell ⟨go10,(x4_1 : Int).toNat * 3 + 1,none⟩ (.int .i64 t608)).setCell ⟨go10,(x4_1 : Int).toNat * 3 + 2,none⟩ (.int .i64 t609))) ?hg ?ho ?hn ?hr ?_;(case ho=>rfl);(case hg=>rfl);(case hn=>rfl);(case hr=>first|(go_simp;done)|(go_simp;rfl));intro w13 hw;have hg : w11.grownBy w13 (some go10):=(by rw [hw];exact HP12.2);have hp_ : Kd.R k56 56 w13 w.heap.size (fun _=>True) (.slice (some ⟨go10,0,none⟩) x3_1.length co10) y610:=(by rw [hw,Ny610.out];exact HP12.1);clear HP12;have n0_:=Aside0.mk (hp_);have n1_:=Aside0.mk ((by rw [hw];exact below_set (below_set (below_set (HB.out) GB10.out) GB10.out) GB10.out : Below w.heap.size w w13));clear HO_3;clear HB;have HO_3:=n0_;have HB:=n1_;clear n0_ n1_;clear hg hw hp_))
        go_roundg k1
        case measure=>have:=HK1.out;omega
        case rel=>exact ⟨(y610),(wrap64 (x4_1 + 1)),(by first|rfl|(simp;done)|(simp [*];done)),H',⟨by have:=HK1.out;omega⟩,⟨by (with_reducible repeat (first|apply Kd.R_alloc|apply Kd.R_drewN|apply Kd.R_drew));exact HO_3.out⟩,⟨by repeat (first|(with_reducible first|exact HB.out|apply below_alloc|apply pw_below_drewN|apply below_drew1)|exact HB.out)⟩⟩
       ·rw [if_neg c9] at H
        exact absurd H (by simp)
      ·rw [if_neg c7] at H
       exact absurd H (by simp)
     ·rw [if_neg c6] at H
      have c6b0 : decide (x4_1 < (l0.length : Int)) = false:=decide_eq_false c6
      clear c6
      obtain rfl:=Option.some.inj H
      go_wp2
      go_ret
      exact ⟨_,by first|rfl|(simp [errW_none,errW_some] <;> rfl)|(simp [*,errW_none,errW_some] <;> rfl),by (with_reducible repeat (first|apply Kd.R_alloc|apply Kd.R_drewN|apply Kd.R_drew));exact HO_3.out,by repeat (first|(with_reducible first|exact HB.out|apply below_alloc|apply pw_below_drewN|apply below_drew1)|exact HB.out)⟩
  ·rw [if_neg c3] at H
   exact absurd H (by simp)
 ·rw [if_neg c2] at H
  exact absurd H (by simp)
end Go.Proofs.Ytpdnabhpkdchjaa.P
namespace Go.Proofs.Ytpdnabhpkdchjaa.P
open Go.RowKit Go.Proofs.YtpdnabhpkdchjaaW.PrintWords Go.Proofs.YtpdnabhpkdchjaaW.PrintLast Go.Proofs.YtpdnabhpkdchjaaW.PrintMore
attribute [local go_sem] max2_int min2_int max_two min_two max_three min_three max_four min_four
set_option linter.unusedVariables false
set_option linter.unusedSimpArgs false
def laws_eqEvent.f (a0_0 : Int) (a0_1 : Int) (a0_2 : Int) (a1_0 : Int) (a1_1 : Int) (a1_2 : Int) : Option (Bool):=if a0_0 = a1_0 then (if a0_1 = a1_1 then (if a0_2 = a1_2 then (some true) else (some false)) else (some false)) else (some false)
set_option maxHeartbeats 8000000 in
set_option maxRecDepth 100000 in
theorem laws_eqEvent.calls (a0_0 : Int) (a0_1 : Int) (a0_2 : Int) (a1_0 : Int) (a1_1 : Int) (a1_2 : Int) (r : Bool) (w : World) (h : laws_eqEvent.f a0_0 a0_1 a0_2 a1_0 a1_1 a1_2 = some r) :
  Calls Try.prog 107 #[.agg #[.int .i64 a0_0,.int .i64 a0_1,.int .i64 a0_2],.agg #[.int .i64 a1_0,.int .i64 a1_1,.int .i64 a1_2]] w fun e w'=>e = .returned (.bool r)∧Below w.heap.size w w':=by
 have hu56:=Try.underlying56
 have HB:=Aside0.mk (Below.refl w.heap.size w)
 have H : (if a0_0 = a1_0 then (if a0_1 = a1_1 then (if a0_2 = a1_2 then (some true) else (some false)) else (some false)) else (some false)) = some r:=h
 clear h
 by_cases c3 : a0_0 = a1_0
 ·rw [if_pos c3] at H
  have c3b0 : (a0_0 == a1_0) = true:=beq_iff_eq.mpr c3
  have c3b1 : (a0_0 != a1_0) = false:=bne_eq_false_iff_eq.mpr c3
  clear c3
  by_cases c4 : a0_1 = a1_1
  ·rw [if_pos c4] at H
   have c4b0 : (a0_1 == a1_1) = true:=beq_iff_eq.mpr c4
   have c4b1 : (a0_1 != a1_1) = false:=bne_eq_false_iff_eq.mpr c4
   clear c4
   by_cases c5 : a0_2 = a1_2
   ·rw [if_pos c5] at H
    have c5b0 : (a0_2 == a1_2) = true:=beq_iff_eq.mpr c5
    have c5b1 : (a0_2 != a1_2) = false:=bne_eq_false_iff_eq.mpr c5
    clear c5
    obtain rfl:=Option.some.inj H
    go_enter Try.func107,Try.ntmps107
    go_wp2_with (first|((with_reducible refine gate_dst (N:=2) rfl ?_);refine box_event ?hg (N:=2) ?hd (cs:=#[.int .i64 a0_0,.int .i64 a0_1,.int .i64 a0_2]) (t:=56) ?hr ?_;(case hd=>rfl);(case hg=>rfl);(case hr=>first|(go_simp;done)|(go_simp;rfl));intro gb677 hg w6 hbox hb;have n0_:=Aside0.mk (below_step (by repeat (first|(with_reducible first|exact HB.out|apply below_alloc|apply pw_below_drewN|apply below_drew1)|exact HB.out)) hb);have n1_:=Aside0.mk (hbox);have n2_:=Aside0.mk ((by rw [hg];exact (below_size (by repeat (first|(with_reducible first|exact HB.out|apply below_alloc|apply pw_below_drewN|apply below_drew1)|exact HB.out))) : w.heap.size ≤ gb677));have n3_:=Aside0.mk ((by rw [hg];exact (below_size (by repeat (first|(with_reducible first|exact HB.out|apply below_alloc|apply pw_below_drewN|apply below_drew1)|exact HB.out))) : w.heap.size ≤ gb677));clear HB;have HB:=n0_;have BK677:=n1_;have GW677:=n2_;have GE677:=n3_;clear n0_ n1_ n2_ n3_;clear hb hbox hg)|((with_reducible refine gate_dst (N:=3) rfl ?_);refine box_event ?hg (N:=3) ?hd (cs:=#[.int .i64 a1_0,.int .i64 a1_1,.int .i64 a1_2]) (t:=56) ?hr ?_;(case hd=>rfl);(case hg=>rfl);(case hr=>first|(go_simp;done)|(go_simp;rfl));intro gb678 hg w7 hbox hb;have n0_:=Aside0.mk (blk_below (g:=gb677) (o:=.cells #[.int .i64 a0_0,.int .i64 a0_1,.int .i64 a0_2] 56 (0,0)) (by (with_reducible repeat (first|refine blk_drewN ?_ _|refine blk_drew ?_|refine blk_alloc ?_ _));exact BK677.out) hb);have n1_:=Aside0.mk (below_step (by repeat (first|(with_reducible first|exact HB.out|apply below_alloc|apply pw_below_drewN|apply below_drew1|refine below_set ?_ GE677.out)|exact HB.out)) hb);have n2_:=Aside0.mk (hbox);have n3_:=Aside0.mk ((by rw [hg];exact (below_size (by repeat (first|(with_reducible first|exact HB.out|apply below_alloc|apply pw_below_drewN|apply below_drew1|refine below_set ?_ GE677.out)|exact HB.out))) : w.heap.size ≤ gb678));have n4_:=Aside0.mk ((by rw [hg];exact (below_size (by repeat (first|(with_reducible first|exact HB.out|apply below_alloc|apply pw_below_drewN|apply below_drew1|refine below_set ?_ GE677.out)|exact HB.out))) : w.heap.size ≤ gb678));have n5_:=Aside0.mk ((by rw [hg];exact Nat.ne_of_lt (blk_lt (g:=gb677) (o:=.cells #[.int .i64 a0_0,.int .i64 a0_1,.int .i64 a0_2] 56 (0,0)) (by (with_reducible repeat (first|refine blk_drewN ?_ _|refine blk_drew ?_|refine blk_alloc ?_ _));exact BK677.out)) : gb677 ≠ gb678));have n6_:=Aside0.mk ((by rw [hg];exact Nat.ne_of_gt (blk_lt (g:=gb677) (o:=.cells #[.int .i64 a0_0,.int .i64 a0_1,.int .i64 a0_2] 56 (0,0)) (by (with_reducible repeat (first|refine blk_drewN ?_ _|refine blk_drew ?_|refine blk_alloc ?_ _));exact BK677.out)) : gb678 ≠ gb677));clear BK677;clear HB;have BK677:=n0_;have HB:=n1_;have BK678:=n2_;have GW678:=n3_;have GE678:=n4_;have NB677_678:=n5_;have NB678_677:=n6_;clear n0_ n1_ n2_ n3_ n4_ n5_ n6_;clear hb hbox hg;have hnb8:=NB677_678.out;have hnc8:=NB678_677.out;have hcz9_0 : w7.cell? ⟨gb677,0,none⟩ = some (.int .i64 a0_0):=(blk_cell BK677.out 0).trans rfl;have hcz9_1 : w7.cell? ⟨gb677,1,none⟩ = some (.int .i64 a0_1):=(blk_cell BK677.out 1).trans rfl;have hcz9_2 : w7.cell? ⟨gb677,2,none⟩ = some (.int .i64 a0_2):=(blk_cell BK677.out 2).trans rfl;have hfz9_0:=blk_frozen BK677.out 0;have hfz9_1:=blk_frozen BK677.out 1;have hfz9_2:=blk_frozen BK677.out 2;have hcz10_0 : w7.cell? ⟨gb678,0,none⟩ = some (.int .i64 a1_0):=(blk_cell BK678.out 0).trans rfl;have hcz10_1 : w7.cell? ⟨gb678,1,none⟩ = some (.int .i64 a1_1):=(blk_cell BK678.out 1).trans rfl;have hcz10_2 : w7.cell? ⟨gb678,2,none⟩ = some (.int .i64 a1_2):=(blk_cell BK678.out 2).trans rfl;have hfz10_0:=blk_frozen BK678.out 0;have hfz10_1:=blk_frozen BK678.out 1;have hfz10_2:=blk_frozen BK678.out 2))
    go_ret
    exact ⟨by first|rfl|(simp [errW_none,errW_some] <;> rfl)|(simp [*,errW_none,errW_some] <;> rfl),by repeat (first|(with_reducible first|exact HB.out|apply below_alloc|apply pw_below_drewN|apply below_drew1|refine below_set ?_ GE677.out|refine below_set ?_ GE678.out)|exact HB.out)⟩
   ·rw [if_neg c5] at H
    have c5b0 : (a0_2 == a1_2) = false:=beq_eq_false_iff_ne.mpr c5
    have c5b1 : (a0_2 != a1_2) = true:=bne_iff_ne.mpr c5
    obtain rfl:=Option.some.inj H
    go_enter Try.func107,Try.ntmps107
    go_wp2_with (first|((with_reducible refine gate_dst (N:=2) rfl ?_);refine box_event ?hg (N:=2) ?hd (cs:=#[.int .i64 a0_0,.int .i64 a0_1,.int .i64 a0_2]) (t:=56) ?hr ?_;(case hd=>rfl);(case hg=>rfl);(case hr=>first|(go_simp;done)|(go_simp;rfl));intro gb677 hg w11 hbox hb;have n0_:=Aside0.mk (below_step (by repeat (first|(with_reducible first|exact HB.out|apply below_alloc|apply pw_below_drewN|apply below_drew1)|exact HB.out)) hb);have n1_:=Aside0.mk (hbox);have n2_:=Aside0.mk ((by rw [hg];exact (below_size (by repeat (first|(with_reducible first|exact HB.out|apply below_alloc|apply pw_below_drewN|apply below_drew1)|exact HB.out))) : w.heap.size ≤ gb677));have n3_:=Aside0.mk ((by rw [hg];exact (below_size (by repeat (first|(with_reducible first|exact HB.out|apply below_alloc|apply pw_below_drewN|apply below_drew1)|exact HB.out))) : w.heap.size ≤ gb677));clear HB;have HB:=n0_;have BK677:=n1_;have GW677:=n2_;have GE677:=n3_;clear n0_ n1_ n2_ n3_;clear hb hbox hg)|((with_reducible refine gate_dst (N:=3) rfl ?_);refine box_event ?hg (N:=3) ?hd (cs:=#[.int .i64 a1_0,.int .i64 a1_1,.int .i64 a1_2]) (t:=56) ?hr ?_;(case hd=>rfl);(case hg=>rfl);(case hr=>first|(go_simp;done)|(go_simp;rfl));intro gb678 hg w12 hbox hb;have n0_:=Aside0.mk (blk_below (g:=gb677) (o:=.cells #[.int .i64 a0_0,.int .i64 a0_1,.int .i64 a0_2] 56 (0,0)) (by (with_reducible repeat (first|refine blk_drewN ?_ _|refine blk_drew ?_|refine blk_alloc ?_ _));exact BK677.out) hb);have n1_:=Aside0.mk (below_step (by repeat (first|(with_reducible first|exact HB.out|apply below_alloc|apply pw_below_drewN|apply below_drew1|refine below_set ?_ GE677.out)|exact HB.out)) hb);have n2_:=Aside0.mk (hbox);have n3_:=Aside0.mk ((by rw [hg];exact (below_size (by repeat (first|(with_reducible first|exact HB.out|apply below_alloc|apply pw_below_drewN|apply below_drew1|refine below_set ?_ GE677.out)|exact HB.out))) : w.heap.size ≤ gb678));have n4_:=Aside0.mk ((by rw [hg];exact (below_size (by repeat (first|(with_reducible first|exact HB.out|apply below_alloc|apply pw_below_drewN|apply below_drew1|refine below_set ?_ GE677.out)|exact HB.out))) : w.heap.size ≤ gb678));have n5_:=Aside0.mk ((by rw [hg];exact Nat.ne_of_lt (blk_lt (g:=gb677) (o:=.cells #[.int .i64 a0_0,.int .i64 a0_1,.int .i64 a0_2] 56 (0,0)) (by (with_reducible repeat (first|refine blk_drewN ?_ _|refine blk_drew ?_|refine blk_alloc ?_ _));exact BK677.out)) : gb677 ≠ gb678));have n6_:=Aside0.mk ((by rw [hg];exact Nat.ne_of_gt (blk_lt (g:=gb677) (o:=.cells #[.int .i64 a0_0,.int .i64 a0_1,.int .i64 a0_2] 56 (0,0)) (by (with_reducible repeat (first|refine blk_drewN ?_ _|refine blk_drew ?_|refine blk_alloc ?_ _));exact BK677.out)) : gb678 ≠ gb677));clear BK677;clear HB;have BK677:=n0_;have HB:=n1_;have BK678:=n2_;have GW678:=n3_;have GE678:=n4_;have NB677_678:=n5_;have NB678_677:=n6_;clear n0_ n1_ n2_ n3_ n4_ n5_ n6_;clear hb hbox hg;have hnb13:=NB677_678.out;have hnc13:=NB678_677.out;have hcz14_0 : w12.cell? ⟨gb677,0,none⟩ = some (.int .i64 a0_0):=(blk_cell BK677.out 0).trans rfl;have hcz14_1 : w12.cell? ⟨gb677,1,none⟩ = some (.int .i64 a0_1):=(blk_cell BK677.out 1).trans rfl;have hcz14_2 : w12.cell? ⟨gb677,2,none⟩ = some (.int .i64 a0_2):=(blk_cell BK677.out 2).trans rfl;have hfz14_0:=blk_frozen BK677.out 0;have hfz14_1:=blk_frozen BK677.out 1;have hfz14_2:=blk_frozen BK677.out 2;have hcz15_0 : w12.cell? ⟨gb678,0,none⟩ = some (.int .i64 a1_0):=(blk_cell BK678.out 0).trans rfl;have hcz15_1 : w12.cell? ⟨gb678,1,none⟩ = some (.int .i64 a1_1):=(blk_cell BK678.out 1).trans rfl;have hcz15_2 : w12.cell? ⟨gb678,2,none⟩ = some (.int .i64 a1_2):=(blk_cell BK678.out 2).trans rfl;have hfz15_0:=blk_frozen BK678.out 0;have hfz15_1:=blk_frozen BK678.out 1;have hfz15_2:=blk_frozen BK678.out 2))
    go_ret
    exact ⟨by first|rfl|(simp [errW_none,errW_some] <;> rfl)|(simp [*,errW_none,errW_some] <;> rfl),by repeat (first|(with_reducible first|exact HB.out|apply below_alloc|apply pw_below_drewN|apply below_drew1|refine below_set ?_ GE677.out|refine below_set ?_ GE678.out)|exact HB.out)⟩
  ·rw [if_neg c4] at H
   have c4b0 : (a0_1 == a1_1) = false:=beq_eq_false_iff_ne.mpr c4
   have c4b1 : (a0_1 != a1_1) = true:=bne_iff_ne.mpr c4
   obtain rfl:=Option.some.inj H
   go_enter Try.func107,Try.ntmps107
   go_wp2_with (first|((with_reducible refine gate_dst (N:=2) rfl ?_);refine box_event ?hg (N:=2) ?hd (cs:=#[.int .i64 a0_0,.int .i64 a0_1,.int .i64 a0_2]) (t:=56) ?hr ?_;(case hd=>rfl);(case hg=>rfl);(case hr=>first|(go_simp;done)|(go_simp;rfl));intro gb677 hg w16 hbox hb;have n0_:=Aside0.mk (below_step (by repeat (first|(with_reducible first|exact HB.out|apply below_alloc|apply pw_below_drewN|apply below_drew1)|exact HB.out)) hb);have n1_:=Aside0.mk (hbox);have n2_:=Aside0.mk ((by rw [hg];exact (below_size (by repeat (first|(with_reducible first|exact HB.out|apply below_alloc|apply pw_below_drewN|apply below_drew1)|exact HB.out))) : w.heap.size ≤ gb677));have n3_:=Aside0.mk ((by rw [hg];exact (below_size (by repeat (first|(with_reducible first|exact HB.out|apply below_alloc|apply pw_below_drewN|apply below_drew1)|exact HB.out))) : w.heap.size ≤ gb677));clear HB;have HB:=n0_;have BK677:=n1_;have GW677:=n2_;have GE677:=n3_;clear n0_ n1_ n2_ n3_;clear hb hbox hg)|((with_reducible refine gate_dst (N:=3) rfl ?_);refine box_event ?hg (N:=3) ?hd (cs:=#[.int .i64 a1_0,.int .i64 a1_1,.int .i64 a1_2]) (t:=56) ?hr ?_;(case hd=>rfl);(case hg=>rfl);(case hr=>first|(go_simp;done)|(go_simp;rfl));intro gb678 hg w17 hbox hb;have n0_:=Aside0.mk (blk_below (g:=gb677) (o:=.cells #[.int .i64 a0_0,.int .i64 a0_1,.int .i64 a0_2] 56 (0,0)) (by (with_reducible repeat (first|refine blk_drewN ?_ _|refine blk_drew ?_|refine blk_alloc ?_ _));exact BK677.out) hb);have n1_:=Aside0.mk (below_step (by repeat (first|(with_reducible first|exact HB.out|apply below_alloc|apply pw_below_drewN|apply below_drew1|refine below_set ?_ GE677.out)|exact HB.out)) hb);have n2_:=Aside0.mk (hbox);have n3_:=Aside0.mk ((by rw [hg];exact (below_size (by repeat (first|(with_reducible first|exact HB.out|apply below_alloc|apply pw_below_drewN|apply below_drew1|refine below_set ?_ GE677.out)|exact HB.out))) : w.heap.size ≤ gb678));have n4_:=Aside0.mk ((by rw [hg];exact (below_size (by repeat (first|(with_reducible first|exact HB.out|apply below_alloc|apply pw_below_drewN|apply below_drew1|refine below_set ?_ GE677.out)|exact HB.out))) : w.heap.size ≤ gb678));have n5_:=Aside0.mk ((by rw [hg];exact Nat.ne_of_lt (blk_lt (g:=gb677) (o:=.cells #[.int .i64 a0_0,.int .i64 a0_1,.int .i64 a0_2] 56 (0,0)) (by (with_reducible repeat (first|refine blk_drewN ?_ _|refine blk_drew ?_|refine blk_alloc ?_ _));exact BK677.out)) : gb677 ≠ gb678));have n6_:=Aside0.mk ((by rw [hg];exact Nat.ne_of_gt (blk_lt (g:=gb677) (o:=.cells #[.int .i64 a0_0,.int .i64 a0_1,.int .i64 a0_2] 56 (0,0)) (by (with_reducible repeat (first|refine blk_drewN ?_ _|refine blk_drew ?_|refine blk_alloc ?_ _));exact BK677.out)) : gb678 ≠ gb677));clear BK677;clear HB;have BK677:=n0_;have HB:=n1_;have BK678:=n2_;have GW678:=n3_;have GE678:=n4_;have NB677_678:=n5_;have NB678_677:=n6_;clear n0_ n1_ n2_ n3_ n4_ n5_ n6_;clear hb hbox hg;have hnb18:=NB677_678.out;have hnc18:=NB678_677.out;have hcz19_0 : w17.cell? ⟨gb677,0,none⟩ = some (.int .i64 a0_0):=(blk_cell BK677.out 0).trans rfl;have hcz19_1 : w17.cell? ⟨gb677,1,none⟩ = some (.int .i64 a0_1):=(blk_cell BK677.out 1).trans rfl;have hcz19_2 : w17.cell? ⟨gb677,2,none⟩ = some (.int .i64 a0_2):=(blk_cell BK677.out 2).trans rfl;have hfz19_0:=blk_frozen BK677.out 0;have hfz19_1:=blk_frozen BK677.out 1;have hfz19_2:=blk_frozen BK677.out 2;have hcz20_0 : w17.cell? ⟨gb678,0,none⟩ = some (.int .i64 a1_0):=(blk_cell BK678.out 0).trans rfl;have hcz20_1 : w17.cell? ⟨gb678,1,none⟩ = some (.int .i64 a1_1):=(blk_cell BK678.out 1).trans rfl;have hcz20_2 : w17.cell? ⟨gb678,2,none⟩ = some (.int .i64 a1_2):=(blk_cell BK678.out 2).trans rfl;have hfz20_0:=blk_frozen BK678.out 0;have hfz20_1:=blk_frozen BK678.out 1;have hfz20_2:=blk_frozen BK678.out 2))
   go_ret
   exact ⟨by first|rfl|(simp [errW_none,errW_some] <;> rfl)|(simp [*,errW_none,errW_some] <;> rfl),by repeat (first|(with_reducible first|exact HB.out|apply below_alloc|apply pw_below_drewN|apply below_drew1|refine below_set ?_ GE677.out|refine below_set ?_ GE678.out)|exact HB.out)⟩
 ·rw [if_neg c3] at H
  have c3b0 : (a0_0 == a1_0) = false:=beq_eq_false_iff_ne.mpr c3
  have c3b1 : (a0_0 != a1_0) = true:=bne_iff_ne.mpr c3
  obtain rfl:=Option.some.inj H
  go_enter Try.func107,Try.ntmps107
  go_wp2_with (first|((with_reducible refine gate_dst (N:=2) rfl ?_);refine box_event ?hg (N:=2) ?hd (cs:=#[.int .i64 a0_0,.int .i64 a0_1,.int .i64 a0_2]) (t:=56) ?hr ?_;(case hd=>rfl);(case hg=>rfl);(case hr=>first|(go_simp;done)|(go_simp;rfl));intro gb677 hg w21 hbox hb;have n0_:=Aside0.mk (below_step (by repeat (first|(with_reducible first|exact HB.out|apply below_alloc|apply pw_below_drewN|apply below_drew1)|exact HB.out)) hb);have n1_:=Aside0.mk (hbox);have n2_:=Aside0.mk ((by rw [hg];exact (below_size (by repeat (first|(with_reducible first|exact HB.out|apply below_alloc|apply pw_below_drewN|apply below_drew1)|exact HB.out))) : w.heap.size ≤ gb677));have n3_:=Aside0.mk ((by rw [hg];exact (below_size (by repeat (first|(with_reducible first|exact HB.out|apply below_alloc|apply pw_below_drewN|apply below_drew1)|exact HB.out))) : w.heap.size ≤ gb677));clear HB;have HB:=n0_;have BK677:=n1_;have GW677:=n2_;have GE677:=n3_;clear n0_ n1_ n2_ n3_;clear hb hbox hg)|((with_reducible refine gate_dst (N:=3) rfl ?_);refine box_event ?hg (N:=3) ?hd (cs:=#[.int .i64 a1_0,.int .i64 a1_1,.int .i64 a1_2]) (t:=56) ?hr ?_;(case hd=>rfl);(case hg=>rfl);(case hr=>first|(go_simp;done)|(go_simp;rfl));intro gb678 hg w22 hbox hb;have n0_:=Aside0.mk (blk_below (g:=gb677) (o:=.cells #[.int .i64 a0_0,.int .i64 a0_1,.int .i64 a0_2] 56 (0,0)) (by (with_reducible repeat (first|refine blk_drewN ?_ _|refine blk_drew ?_|refine blk_alloc ?_ _));exact BK677.out) hb);have n1_:=Aside0.mk (below_step (by repeat (first|(with_reducible first|exact HB.out|apply below_alloc|apply pw_below_drewN|apply below_drew1|refine below_set ?_ GE677.out)|exact HB.out)) hb);have n2_:=Aside0.mk (hbox);have n3_:=Aside0.mk ((by rw [hg];exact (below_size (by repeat (first|(with_reducible first|exact HB.out|apply below_alloc|apply pw_below_drewN|apply below_drew1|refine below_set ?_ GE677.out)|exact HB.out))) : w.heap.size ≤ gb678));have n4_:=Aside0.mk ((by rw [hg];exact (below_size (by repeat (first|(with_reducible first|exact HB.out|apply below_alloc|apply pw_below_drewN|apply below_drew1|refine below_set ?_ GE677.out)|exact HB.out))) : w.heap.size ≤ gb678));have n5_:=Aside0.mk ((by rw [hg];exact Nat.ne_of_lt (blk_lt (g:=gb677) (o:=.cells #[.int .i64 a0_0,.int .i64 a0_1,.int .i64 a0_2] 56 (0,0)) (by (with_reducible repeat (first|refine blk_drewN ?_ _|refine blk_drew ?_|refine blk_alloc ?_ _));exact BK677.out)) : gb677 ≠ gb678));have n6_:=Aside0.mk ((by rw [hg];exact Nat.ne_of_gt (blk_lt (g:=gb677) (o:=.cells #[.int .i64 a0_0,.int .i64 a0_1,.int .i64 a0_2] 56 (0,0)) (by (with_reducible repeat (first|refine blk_drewN ?_ _|refine blk_drew ?_|refine blk_alloc ?_ _));exact BK677.out)) : gb678 ≠ gb677));clear BK677;clear HB;have BK677:=n0_;have HB:=n1_;have BK678:=n2_;have GW678:=n3_;have GE678:=n4_;have NB677_678:=n5_;have NB678_677:=n6_;clear n0_ n1_ n2_ n3_ n4_ n5_ n6_;clear hb hbox hg;have hnb23:=NB677_678.out;have hnc23:=NB678_677.out;have hcz24_0 : w22.cell? ⟨gb677,0,none⟩ = some (.int .i64 a0_0):=(blk_cell BK677.out 0).trans rfl;have hcz24_1 : w22.cell? ⟨gb677,1,none⟩ = some (.int .i64 a0_1):=(blk_cell BK677.out 1).trans rfl;have hcz24_2 : w22.cell? ⟨gb677,2,none⟩ = some (.int .i64 a0_2):=(blk_cell BK677.out 2).trans rfl;have hfz24_0:=blk_frozen BK677.out 0;have hfz24_1:=blk_frozen BK677.out 1;have hfz24_2:=blk_frozen BK677.out 2;have hcz25_0 : w22.cell? ⟨gb678,0,none⟩ = some (.int .i64 a1_0):=(blk_cell BK678.out 0).trans rfl;have hcz25_1 : w22.cell? ⟨gb678,1,none⟩ = some (.int .i64 a1_1):=(blk_cell BK678.out 1).trans rfl;have hcz25_2 : w22.cell? ⟨gb678,2,none⟩ = some (.int .i64 a1_2):=(blk_cell BK678.out 2).trans rfl;have hfz25_0:=blk_frozen BK678.out 0;have hfz25_1:=blk_frozen BK678.out 1;have hfz25_2:=blk_frozen BK678.out 2))
  go_ret
  exact ⟨by first|rfl|(simp [errW_none,errW_some] <;> rfl)|(simp [*,errW_none,errW_some] <;> rfl),by repeat (first|(with_reducible first|exact HB.out|apply below_alloc|apply pw_below_drewN|apply below_drew1|refine below_set ?_ GE677.out|refine below_set ?_ GE678.out)|exact HB.out)⟩
end Go.Proofs.Ytpdnabhpkdchjaa.P
namespace Go.Proofs.Ytpdnabhpkdchjaa.P
open Go.RowKit Go.Proofs.YtpdnabhpkdchjaaW.PrintWords Go.Proofs.YtpdnabhpkdchjaaW.PrintLast Go.Proofs.YtpdnabhpkdchjaaW.PrintMore
attribute [local go_sem] max2_int min2_int max_two min_two max_three min_three max_four min_four
set_option linter.unusedVariables false
set_option linter.unusedSimpArgs false
def laws_eqEventS.l0 : Nat → List (S56) → List (S56) → Int → Option (Bool)
 | 0,_,_,_=>none
 | k + 1,x0,x1,x5=>if x5 < (x0.length : Int) then (if 0 ≤ x5 then (if x5 < (x1.length : Int) then ((laws_eqEvent.f ((rd_T56 x0 x5).f0) ((rd_T56 x0 x5).f1) ((rd_T56 x0 x5).f2) ((rd_T56 x1 x5).f0) ((rd_T56 x1 x5).f1) ((rd_T56 x1 x5).f2)).bind fun t681=>(if t681 = true then (laws_eqEventS.l0 k x0 x1 (wrap64 (x5 + 1))) else (some false))) else (none)) else (none)) else (some true)
def laws_eqEventS.f (k : Nat) (l0 : List (S56)) (l1 : List (S56)) : Option (Bool):=if (l0.length : Int) = (l1.length : Int) then (laws_eqEventS.l0 k l0 l1 0) else (some false)
def laws_eqEventS.T6 : Bool × List (List Nat × List Nat):=(true,[([],[]),([],[]),([0,1],[0,1]),([2],[2]),([],[]),([],[]),([4,5],[4,5]),([6],[6]),([3,7],[3,7]),([8],[8])])
def laws_eqEventS.B6 : List Nat:=[0,0,3,7,0,0,48,112,255,511]
theorem laws_eqEventS.tab6 : rtab .any (opsOf Try.f52 6) = laws_eqEventS.T6:=by kernel_rfl
theorem laws_eqEventS.bits6 : waitsOk laws_eqEventS.T6.2 laws_eqEventS.B6 = true:=by kernel_rfl
set_option maxHeartbeats 8000000 in
set_option maxRecDepth 100000 in
theorem laws_eqEventS.calls (k : Nat) (A0 : Option Addr) (c0 : Nat) (l0 : List (S56)) (A1 : Option Addr) (c1 : Nat) (l1 : List (S56)) (r : Bool) (w : World) (hr0 : Kd.C k56 w A0 l0.length l0) (hc0 : l0.length ≤ c0) (hr1 : Kd.C k56 w A1 l1.length l1) (hc1 : l1.length ≤ c1) (h : laws_eqEventS.f k l0 l1 = some r) :
  Calls Try.prog 52 #[.slice A0 l0.length c0,.slice A1 l1.length c1] w fun e w'=>e = .returned (.bool r)∧Below w.heap.size w w':=by
 have hu56:=Try.underlying56
 have HR0:=Aside0.mk hr0
 have HC0:=Aside0.mk hc0
 clear hr0 hc0
 have HR1:=Aside0.mk hr1
 have HC1:=Aside0.mk hc1
 clear hr1 hc1
 have HB:=Aside0.mk (Below.refl w.heap.size w)
 have H : (if (l0.length : Int) = (l1.length : Int) then (laws_eqEventS.l0 k l0 l1 0) else (some false)) = some r:=h
 clear h
 by_cases c3 : (l0.length : Int) = (l1.length : Int)
 ·rw [if_pos c3] at H
  have c3b0 : ((l0.length : Int) == (l1.length : Int)) = true:=beq_iff_eq.mpr c3
  have c3b1 : ((l0.length : Int) != (l1.length : Int)) = false:=bne_eq_false_iff_eq.mpr c3
  have c3b2 : (l0.length == l1.length) = true:=by first|simpa using c3|(simp at c3 ⊢;omega)
  clear c3
  have H':=Aside0.mk H
  clear H
  go_enter Try.func52,Try.ntmps52
  go_wp2
  go_loopg [5] k (fun kq v5 w'=>∃ (x5_1 : Int),v5 = .int .i64 x5_1∧Aside0 (laws_eqEventS.l0 kq l0 l1 x5_1 = some r)∧Aside0 (kq ≤ k)∧Aside0 (Below w.heap.size w w'))
  case atStart=>exact ⟨(0),(by first|rfl|(simp;done)|(simp [*];done)),H',⟨Nat.le_refl _⟩,⟨by repeat (first|(with_reducible first|exact HB.out|apply below_alloc|apply pw_below_drewN|apply below_drew1)|exact HB.out)⟩⟩
  case round =>
   clear H'
   try clear c1
   try clear p2
   try clear c3
   try clear c3b0
   try clear c3b1
   try clear c3b2
   obtain ⟨x5_1,rfl,HA,HK1,HB⟩:=hrel
   cases gk with
   | zero=>exact absurd HA.out (by simp [laws_eqEventS.l0])
   | succ k1 =>
    have H:=HA.out
    clear HA
    simp only [laws_eqEventS.l0] at H
    by_cases c4 : x5_1 < (l0.length : Int)
    ·rw [if_pos c4] at H
     have c4b0 : decide (x5_1 < (l0.length : Int)) = true:=decide_eq_true c4
     clear c4
     by_cases c5 : 0 ≤ x5_1
     ·rw [if_pos c5] at H
      have c5b0 : decide (0 ≤ x5_1) = true:=decide_eq_true c5
      clear c5
      by_cases c6 : x5_1 < (l1.length : Int)
      ·rw [if_pos c6] at H
       have c6b0 : decide (x5_1 < (l1.length : Int)) = true:=decide_eq_true c6
       clear c6
       replace H:=Option.bind_eq_some_iff.mp H
       obtain ⟨t681,A70,H⟩:=H
       replace H : (if t681 = true then (laws_eqEventS.l0 k1 l0 l1 (wrap64 (x5_1 + 1))) else (some false)) = some r:=H
       have A7:=Aside0.mk A70
       clear A70
       by_cases c8 : t681 = true
       ·subst c8
        have H1 : (laws_eqEventS.l0 k1 l0 l1 (wrap64 (x5_1 + 1))) = some r:=by rw [if_pos rfl] at H;exact H
        clear H
        have H:=H1
        clear H1
        have H':=Aside0.mk H
        clear H
        try go_wp2
        have n0_:=Aside0.mk (below_drew1 HB.out)
        clear HB
        have HB:=n0_
        clear n0_
        have p679 : 0 ≤ (x5_1 : Int):=of_decide_eq_true (by first|(with_reducible assumption)|assumption)
        have q679 : x5_1 < (l0.length : Int):=of_decide_eq_true (by first|(with_reducible assumption)|assumption)
        obtain ⟨ad679,e679,hx679_0,hx679_1,hx679_2⟩:=at_T56 HR0.out x5_1 p679 q679
        have hw679_2:=hx679_2
        have hw679_1:=hx679_1
        have hw679_0:=hx679_0
        cases e679
        replace hx679_0:=(HB.out.cell (World.block_lt_of_cell? w _ hx679_0)).trans hx679_0
        replace hx679_1:=(HB.out.cell (World.block_lt_of_cell? w _ hx679_1)).trans hx679_1
        replace hx679_2:=(HB.out.cell (World.block_lt_of_cell? w _ hx679_2)).trans hx679_2
        replace p679:=eq_true p679
        replace q679:=eq_true q679
        have p680 : 0 ≤ (x5_1 : Int):=of_decide_eq_true (by first|(with_reducible assumption)|assumption)
        have q680 : x5_1 < (l1.length : Int):=of_decide_eq_true (by first|(with_reducible assumption)|assumption)
        obtain ⟨ad680,e680,hx680_0,hx680_1,hx680_2⟩:=at_T56 HR1.out x5_1 p680 q680
        have hw680_2:=hx680_2
        have hw680_1:=hx680_1
        have hw680_0:=hx680_0
        cases e680
        replace hx680_0:=(HB.out.cell (World.block_lt_of_cell? w _ hx680_0)).trans hx680_0
        replace hx680_1:=(HB.out.cell (World.block_lt_of_cell? w _ hx680_1)).trans hx680_1
        replace hx680_2:=(HB.out.cell (World.block_lt_of_cell? w _ hx680_2)).trans hx680_2
        replace p680:=eq_true p680
        replace q680:=eq_true q680
        refine start_ (n:=10) (S:=fun w'=>w'.cell? (ad679.add ((x5_1).toNat * 3)) = some (.int .i64 ((rd_T56 l0 x5_1).f0))∧w'.cell? ⟨(ad679.add ((x5_1).toNat * 3)).block,(ad679.add ((x5_1).toNat * 3)).off + 1,none⟩ = some (.int .i64 ((rd_T56 l0 x5_1).f1))∧w'.cell? ⟨(ad679.add ((x5_1).toNat * 3)).block,(ad679.add ((x5_1).toNat * 3)).off + 2,none⟩ = some (.int .i64 ((rd_T56 l0 x5_1).f2))∧w'.cell? (ad680.add ((x5_1).toNat * 3)) = some (.int .i64 ((rd_T56 l1 x5_1).f0))∧w'.cell? ⟨(ad680.add ((x5_1).toNat * 3)).block,(ad680.add ((x5_1).toNat * 3)).off + 1,none⟩ = some (.int .i64 ((rd_T56 l1 x5_1).f1))∧w'.cell? ⟨(ad680.add ((x5_1).toNat * 3)).block,(ad680.add ((x5_1).toNat * 3)).off + 2,none⟩ = some (.int .i64 ((rd_T56 l1 x5_1).f2))) (ds:=[]) #[false,false,false,false,false,false,false,false,false,false] (by kernel_rfl) rfl rfl ⟨((HB.out.cell (World.block_lt_of_cell? w _ hw679_0)).trans hw679_0),((HB.out.cell (World.block_lt_of_cell? w _ hw679_1)).trans hw679_1),((HB.out.cell (World.block_lt_of_cell? w _ hw679_2)).trans hw679_2),((HB.out.cell (World.block_lt_of_cell? w _ hw680_0)).trans hw680_0),((HB.out.cell (World.block_lt_of_cell? w _ hw680_1)).trans hw680_1),((HB.out.cell (World.block_lt_of_cell? w _ hw680_2)).trans hw680_2)⟩ (fun hHeld=>?_);refine with_tabW laws_eqEventS.tab6 laws_eqEventS.bits6 (fun HT_ HW_=>?_)
        generalize wr.drew = w9 at HB hx679_0 hx679_1 hx679_2 hx680_0 hx680_1 hx680_2 hHeld ⊢
        refine pure_ (i:=0) (N:=some 17) (v:=?_) (a':=?_) #[true,false,false,false,false,false,false,false,false,false] rfl rfl (any_of HT_.out (by kernel_rfl)) (fun _ _ _ h=>h) (Or.inl ⟨by rfl,?_⟩) ?_ ?_
        rotate_left
        ·intro w'
         go_simp
         with_reducible rfl
        rotate_left
        ·simp only [Act.put,List.setIfInBounds_toArray,List.set_cons_zero,List.set_cons_succ,i64_w,i32_w]
         rfl
        refine pure_ (i:=1) (N:=some 18) (v:=?_) (a':=?_) #[true,true,false,false,false,false,false,false,false,false] rfl rfl (any_of HT_.out (by kernel_rfl)) (fun _ _ _ h=>h) (Or.inl ⟨by rfl,?_⟩) ?_ ?_
        rotate_left
        ·intro w'
         go_simp
         with_reducible rfl
        rotate_left
        ·simp only [Act.put,List.setIfInBounds_toArray,List.set_cons_zero,List.set_cons_succ,i64_w,i32_w]
         rfl
        refine pure_ (i:=2) (N:=some 19) (v:=?_) (a':=?_) #[true,true,true,false,false,false,false,false,false,false] rfl rfl (any_of HT_.out (by kernel_rfl)) (fun _ _ _ h=>h) (Or.inl ⟨by rfl,?_⟩) ?_ ?_
        rotate_left
        ·intro w'
         go_simp
         with_reducible rfl
        rotate_left
        ·simp only [Act.put,List.setIfInBounds_toArray,List.set_cons_zero,List.set_cons_succ,i64_w,i32_w]
         rfl
        refine pure_ (i:=4) (N:=some 21) (v:=?_) (a':=?_) #[true,true,true,false,true,false,false,false,false,false] rfl rfl (any_of HT_.out (by kernel_rfl)) (fun _ _ _ h=>h) (Or.inl ⟨by rfl,?_⟩) ?_ ?_
        rotate_left
        ·intro w'
         go_simp
         with_reducible rfl
        rotate_left
        ·simp only [Act.put,List.setIfInBounds_toArray,List.set_cons_zero,List.set_cons_succ,i64_w,i32_w]
         rfl
        refine pure_ (i:=5) (N:=some 22) (v:=?_) (a':=?_) #[true,true,true,false,true,true,false,false,false,false] rfl rfl (any_of HT_.out (by kernel_rfl)) (fun _ _ _ h=>h) (Or.inl ⟨by rfl,?_⟩) ?_ ?_
        rotate_left
        ·intro w'
         go_simp
         with_reducible rfl
        rotate_left
        ·simp only [Act.put,List.setIfInBounds_toArray,List.set_cons_zero,List.set_cons_succ,i64_w,i32_w]
         rfl
        refine pure_ (i:=6) (N:=some 23) (v:=?_) (a':=?_) #[true,true,true,false,true,true,true,false,false,false] rfl rfl (any_of HT_.out (by kernel_rfl)) (fun _ _ _ h=>h) (Or.inl ⟨by rfl,?_⟩) ?_ ?_
        rotate_left
        ·intro w'
         go_simp
         with_reducible rfl
        rotate_left
        ·simp only [Act.put,List.setIfInBounds_toArray,List.set_cons_zero,List.set_cons_succ,i64_w,i32_w]
         rfl
        refine take_ (i:=3) (N:=some 20) (v:=?_) (a':=?_) #[true,true,true,true,true,true,true,false,false,false] rfl rfl (take_ofW HT_.out HW_.out (by kernel_rfl)) (fun _ _ _ h=>h) (Or.inl ⟨by rfl,?_⟩) hHeld ?_ ?_
        rotate_left
        ·rintro w' ⟨s0,s1,s2,s3,s4,s5⟩
         go_simp
         with_reducible rfl
        rotate_left
        ·simp only [Act.put,List.setIfInBounds_toArray,List.set_cons_zero,List.set_cons_succ,i64_w,i32_w]
         rfl
        refine take_ (i:=7) (N:=some 24) (v:=?_) (a':=?_) #[true,true,true,true,true,true,true,true,false,false] rfl rfl (take_ofW HT_.out HW_.out (by kernel_rfl)) (fun _ _ _ h=>h) (Or.inl ⟨by rfl,?_⟩) hHeld ?_ ?_
        rotate_left
        ·rintro w' ⟨s0,s1,s2,s3,s4,s5⟩
         go_simp
         with_reducible rfl
        rotate_left
        ·simp only [Act.put,List.setIfInBounds_toArray,List.set_cons_zero,List.set_cons_succ,i64_w,i32_w]
         rfl
        refine one_ (i:=8) (N:=some 25) #[true,true,true,true,true,true,true,true,true,false] rfl rfl (one_of HT_.out (by kernel_rfl)) (by decide) (fun K hK=>?_)
        refine goes_ Try.func107 (by kernel_rfl) rfl #[.agg #[.int .i64 ((rd_T56 l0 x5_1).f0),.int .i64 ((rd_T56 l0 x5_1).f1),.int .i64 ((rd_T56 l0 x5_1).f2)],.agg #[.int .i64 ((rd_T56 l1 x5_1).f0),.int .i64 ((rd_T56 l1 x5_1).f1),.int .i64 ((rd_T56 l1 x5_1).f2)]] (by rfl) rfl rfl (by (try simp only [List.map_toArray,List.map_cons,List.map_nil]);first|done|rfl|(simp only [List.length_drop,List.length_take];rfl)) ?_
        with_reducible refine (laws_eqEvent.calls ((rd_T56 l0 x5_1).f0) ((rd_T56 l0 x5_1).f1) ((rd_T56 l0 x5_1).f2) ((rd_T56 l1 x5_1).f0) ((rd_T56 l1 x5_1).f1) ((rd_T56 l1 x5_1).f2) true _ A7.out).mono ?_
        rintro e w10 ⟨rfl,hb⟩
        refine ⟨_,rfl,?_⟩
        have n0_:=Aside0.mk (below_step (by repeat (first|(with_reducible first|exact HB.out|apply below_alloc|apply pw_below_drewN|apply below_drew1)|exact HB.out)) hb)
        clear HB
        have HB:=n0_
        clear n0_
        (try clear hb)
        (try clear hb2)
        (try clear hk)
        (try clear hi)
        refine hK.out _ _ ⟨((HB.out.cell (World.block_lt_of_cell? w _ hw679_0)).trans hw679_0),((HB.out.cell (World.block_lt_of_cell? w _ hw679_1)).trans hw679_1),((HB.out.cell (World.block_lt_of_cell? w _ hw679_2)).trans hw679_2),((HB.out.cell (World.block_lt_of_cell? w _ hw680_0)).trans hw680_0),((HB.out.cell (World.block_lt_of_cell? w _ hw680_1)).trans hw680_1),((HB.out.cell (World.block_lt_of_cell? w _ hw680_2)).trans hw680_2)⟩ (fun hHeld=>?_)
        clear hK K
        refine norm_ (a':=?_) ?_ ?_
        rotate_left
        ·show Act.put _ (some 25) _ = _
         simp only [Act.put,List.setIfInBounds_toArray,List.set_cons_zero,List.set_cons_succ,i64_w,i32_w]
         rfl
        refine pure_ (i:=9) (N:=some 26) (v:=?_) (a':=?_) #[true,true,true,true,true,true,true,true,true,true] rfl rfl (any_of HT_.out (by kernel_rfl)) (fun _ _ _ h=>h) (Or.inl ⟨by rfl,?_⟩) ?_ ?_
        rotate_left
        ·intro w'
         go_simp
         with_reducible rfl
        rotate_left
        ·simp only [Act.put,List.setIfInBounds_toArray,List.set_cons_zero,List.set_cons_succ,i64_w,i32_w]
         rfl
        refine done_ (done_of HT_.out (by kernel_rfl)) ?_
        try go_wp2
        go_roundg k1
        case measure=>have:=HK1.out;omega
        case rel=>exact ⟨(wrap64 (x5_1 + 1)),(by first|rfl|(simp;done)|(simp [*];done)),H',⟨by have:=HK1.out;omega⟩,⟨by repeat (first|(with_reducible first|exact HB.out|apply below_alloc|apply pw_below_drewN|apply below_drew1)|exact HB.out)⟩⟩
       ·replace c8:=Bool.eq_false_iff.mpr c8
        subst c8
        have H1 : (some false) = some r:=by rw [if_neg (show ¬ (false = true) by decide)] at H;exact H
        clear H
        have H:=H1
        clear H1
        obtain rfl:=Option.some.inj H
        try go_wp2
        have n0_:=Aside0.mk (below_drew1 HB.out)
        clear HB
        have HB:=n0_
        clear n0_
        have p679 : 0 ≤ (x5_1 : Int):=of_decide_eq_true (by first|(with_reducible assumption)|assumption)
        have q679 : x5_1 < (l0.length : Int):=of_decide_eq_true (by first|(with_reducible assumption)|assumption)
        obtain ⟨ad679,e679,hx679_0,hx679_1,hx679_2⟩:=at_T56 HR0.out x5_1 p679 q679
        have hw679_2:=hx679_2
        have hw679_1:=hx679_1
        have hw679_0:=hx679_0
        cases e679
        replace hx679_0:=(HB.out.cell (World.block_lt_of_cell? w _ hx679_0)).trans hx679_0
        replace hx679_1:=(HB.out.cell (World.block_lt_of_cell? w _ hx679_1)).trans hx679_1
        replace hx679_2:=(HB.out.cell (World.block_lt_of_cell? w _ hx679_2)).trans hx679_2
        replace p679:=eq_true p679
        replace q679:=eq_true q679
        have p680 : 0 ≤ (x5_1 : Int):=of_decide_eq_true (by first|(with_reducible assumption)|assumption)
        have q680 : x5_1 < (l1.length : Int):=of_decide_eq_true (by first|(with_reducible assumption)|assumption)
        obtain ⟨ad680,e680,hx680_0,hx680_1,hx680_2⟩:=at_T56 HR1.out x5_1 p680 q680
        have hw680_2:=hx680_2
        have hw680_1:=hx680_1
        have hw680_0:=hx680_0
        cases e680
        replace hx680_0:=(HB.out.cell (World.block_lt_of_cell? w _ hx680_0)).trans hx680_0
        replace hx680_1:=(HB.out.cell (World.block_lt_of_cell? w _ hx680_1)).trans hx680_1
        replace hx680_2:=(HB.out.cell (World.block_lt_of_cell? w _ hx680_2)).trans hx680_2
        replace p680:=eq_true p680
        replace q680:=eq_true q680
        refine start_ (n:=10) (S:=fun w'=>w'.cell? (ad679.add ((x5_1).toNat * 3)) = some (.int .i64 ((rd_T56 l0 x5_1).f0))∧w'.cell? ⟨(ad679.add ((x5_1).toNat * 3)).block,(ad679.add ((x5_1).toNat * 3)).off + 1,none⟩ = some (.int .i64 ((rd_T56 l0 x5_1).f1))∧w'.cell? ⟨(ad679.add ((x5_1).toNat * 3)).block,(ad679.add ((x5_1).toNat * 3)).off + 2,none⟩ = some (.int .i64 ((rd_T56 l0 x5_1).f2))∧w'.cell? (ad680.add ((x5_1).toNat * 3)) = some (.int .i64 ((rd_T56 l1 x5_1).f0))∧w'.cell? ⟨(ad680.add ((x5_1).toNat * 3)).block,(ad680.add ((x5_1).toNat * 3)).off + 1,none⟩ = some (.int .i64 ((rd_T56 l1 x5_1).f1))∧w'.cell? ⟨(ad680.add ((x5_1).toNat * 3)).block,(ad680.add ((x5_1).toNat * 3)).off + 2,none⟩ = some (.int .i64 ((rd_T56 l1 x5_1).f2))) (ds:=[]) #[false,false,false,false,false,false,false,false,false,false] (by kernel_rfl) rfl rfl ⟨((HB.out.cell (World.block_lt_of_cell? w _ hw679_0)).trans hw679_0),((HB.out.cell (World.block_lt_of_cell? w _ hw679_1)).trans hw679_1),((HB.out.cell (World.block_lt_of_cell? w _ hw679_2)).trans hw679_2),((HB.out.cell (World.block_lt_of_cell? w _ hw680_0)).trans hw680_0),((HB.out.cell (World.block_lt_of_cell? w _ hw680_1)).trans hw680_1),((HB.out.cell (World.block_lt_of_cell? w _ hw680_2)).trans hw680_2)⟩ (fun hHeld=>?_);refine with_tabW laws_eqEventS.tab6 laws_eqEventS.bits6 (fun HT_ HW_=>?_)
        generalize wr.drew = w11 at HB hx679_0 hx679_1 hx679_2 hx680_0 hx680_1 hx680_2 hHeld ⊢
        refine pure_ (i:=0) (N:=some 17) (v:=?_) (a':=?_) #[true,false,false,false,false,false,false,false,false,false] rfl rfl (any_of HT_.out (by kernel_rfl)) (fun _ _ _ h=>h) (Or.inl ⟨by rfl,?_⟩) ?_ ?_
        rotate_left
        ·intro w'
         go_simp
         with_reducible rfl
        rotate_left
        ·simp only [Act.put,List.setIfInBounds_toArray,List.set_cons_zero,List.set_cons_succ,i64_w,i32_w]
         rfl
        refine pure_ (i:=1) (N:=some 18) (v:=?_) (a':=?_) #[true,true,false,false,false,false,false,false,false,false] rfl rfl (any_of HT_.out (by kernel_rfl)) (fun _ _ _ h=>h) (Or.inl ⟨by rfl,?_⟩) ?_ ?_
        rotate_left
        ·intro w'
         go_simp
         with_reducible rfl
        rotate_left
        ·simp only [Act.put,List.setIfInBounds_toArray,List.set_cons_zero,List.set_cons_succ,i64_w,i32_w]
         rfl
        refine pure_ (i:=2) (N:=some 19) (v:=?_) (a':=?_) #[true,true,true,false,false,false,false,false,false,false] rfl rfl (any_of HT_.out (by kernel_rfl)) (fun _ _ _ h=>h) (Or.inl ⟨by rfl,?_⟩) ?_ ?_
        rotate_left
        ·intro w'
         go_simp
         with_reducible rfl
        rotate_left
        ·simp only [Act.put,List.setIfInBounds_toArray,List.set_cons_zero,List.set_cons_succ,i64_w,i32_w]
         rfl
        refine pure_ (i:=4) (N:=some 21) (v:=?_) (a':=?_) #[true,true,true,false,true,false,false,false,false,false] rfl rfl (any_of HT_.out (by kernel_rfl)) (fun _ _ _ h=>h) (Or.inl ⟨by rfl,?_⟩) ?_ ?_
        rotate_left
        ·intro w'
         go_simp
         with_reducible rfl
        rotate_left
        ·simp only [Act.put,List.setIfInBounds_toArray,List.set_cons_zero,List.set_cons_succ,i64_w,i32_w]
         rfl
        refine pure_ (i:=5) (N:=some 22) (v:=?_) (a':=?_) #[true,true,true,false,true,true,false,false,false,false] rfl rfl (any_of HT_.out (by kernel_rfl)) (fun _ _ _ h=>h) (Or.inl ⟨by rfl,?_⟩) ?_ ?_
        rotate_left
        ·intro w'
         go_simp
         with_reducible rfl
        rotate_left
        ·simp only [Act.put,List.setIfInBounds_toArray,List.set_cons_zero,List.set_cons_succ,i64_w,i32_w]
         rfl
        refine pure_ (i:=6) (N:=some 23) (v:=?_) (a':=?_) #[true,true,true,false,true,true,true,false,false,false] rfl rfl (any_of HT_.out (by kernel_rfl)) (fun _ _ _ h=>h) (Or.inl ⟨by rfl,?_⟩) ?_ ?_
        rotate_left
        ·intro w'
         go_simp
         with_reducible rfl
        rotate_left
        ·simp only [Act.put,List.setIfInBounds_toArray,List.set_cons_zero,List.set_cons_succ,i64_w,i32_w]
         rfl
        refine take_ (i:=3) (N:=some 20) (v:=?_) (a':=?_) #[true,true,true,true,true,true,true,false,false,false] rfl rfl (take_ofW HT_.out HW_.out (by kernel_rfl)) (fun _ _ _ h=>h) (Or.inl ⟨by rfl,?_⟩) hHeld ?_ ?_
        rotate_left
        ·rintro w' ⟨s0,s1,s2,s3,s4,s5⟩
         go_simp
         with_reducible rfl
        rotate_left
        ·simp only [Act.put,List.setIfInBounds_toArray,List.set_cons_zero,List.set_cons_succ,i64_w,i32_w]
         rfl
        refine take_ (i:=7) (N:=some 24) (v:=?_) (a':=?_) #[true,true,true,true,true,true,true,true,false,false] rfl rfl (take_ofW HT_.out HW_.out (by kernel_rfl)) (fun _ _ _ h=>h) (Or.inl ⟨by rfl,?_⟩) hHeld ?_ ?_
        rotate_left
        ·rintro w' ⟨s0,s1,s2,s3,s4,s5⟩
         go_simp
         with_reducible rfl
        rotate_left
        ·simp only [Act.put,List.setIfInBounds_toArray,List.set_cons_zero,List.set_cons_succ,i64_w,i32_w]
         rfl
        refine one_ (i:=8) (N:=some 25) #[true,true,true,true,true,true,true,true,true,false] rfl rfl (one_of HT_.out (by kernel_rfl)) (by decide) (fun K hK=>?_)
        refine goes_ Try.func107 (by kernel_rfl) rfl #[.agg #[.int .i64 ((rd_T56 l0 x5_1).f0),.int .i64 ((rd_T56 l0 x5_1).f1),.int .i64 ((rd_T56 l0 x5_1).f2)],.agg #[.int .i64 ((rd_T56 l1 x5_1).f0),.int .i64 ((rd_T56 l1 x5_1).f1),.int .i64 ((rd_T56 l1 x5_1).f2)]] (by rfl) rfl rfl (by (try simp only [List.map_toArray,List.map_cons,List.map_nil]);first|done|rfl|(simp only [List.length_drop,List.length_take];rfl)) ?_
        with_reducible refine (laws_eqEvent.calls ((rd_T56 l0 x5_1).f0) ((rd_T56 l0 x5_1).f1) ((rd_T56 l0 x5_1).f2) ((rd_T56 l1 x5_1).f0) ((rd_T56 l1 x5_1).f1) ((rd_T56 l1 x5_1).f2) false _ A7.out).mono ?_
        rintro e w12 ⟨rfl,hb⟩
        refine ⟨_,rfl,?_⟩
        have n0_:=Aside0.mk (below_step (by repeat (first|(with_reducible first|exact HB.out|apply below_alloc|apply pw_below_drewN|apply below_drew1)|exact HB.out)) hb)
        clear HB
        have HB:=n0_
        clear n0_
        (try clear hb)
        (try clear hb2)
        (try clear hk)
        (try clear hi)
        refine hK.out _ _ ⟨((HB.out.cell (World.block_lt_of_cell? w _ hw679_0)).trans hw679_0),((HB.out.cell (World.block_lt_of_cell? w _ hw679_1)).trans hw679_1),((HB.out.cell (World.block_lt_of_cell? w _ hw679_2)).trans hw679_2),((HB.out.cell (World.block_lt_of_cell? w _ hw680_0)).trans hw680_0),((HB.out.cell (World.block_lt_of_cell? w _ hw680_1)).trans hw680_1),((HB.out.cell (World.block_lt_of_cell? w _ hw680_2)).trans hw680_2)⟩ (fun hHeld=>?_)
        clear hK K
        refine norm_ (a':=?_) ?_ ?_
        rotate_left
        ·show Act.put _ (some 25) _ = _
         simp only [Act.put,List.setIfInBounds_toArray,List.set_cons_zero,List.set_cons_succ,i64_w,i32_w]
         rfl
        refine pure_ (i:=9) (N:=some 26) (v:=?_) (a':=?_) #[true,true,true,true,true,true,true,true,true,true] rfl rfl (any_of HT_.out (by kernel_rfl)) (fun _ _ _ h=>h) (Or.inl ⟨by rfl,?_⟩) ?_ ?_
        rotate_left
        ·intro w'
         go_simp
         with_reducible rfl
        rotate_left
        ·simp only [Act.put,List.setIfInBounds_toArray,List.set_cons_zero,List.set_cons_succ,i64_w,i32_w]
         rfl
        refine done_ (done_of HT_.out (by kernel_rfl)) ?_
        try go_wp2
        go_ret
        exact ⟨by first|rfl|(simp [errW_none,errW_some] <;> rfl)|(simp [*,errW_none,errW_some] <;> rfl),by repeat (first|(with_reducible first|exact HB.out|apply below_alloc|apply pw_below_drewN|apply below_drew1)|exact HB.out)⟩
      ·rw [if_neg c6] at H
       exact absurd H (by simp)
     ·rw [if_neg c5] at H
      exact absurd H (by simp)
    ·rw [if_neg c4] at H
     have c4b0 : decide (x5_1 < (l0.length : Int)) = false:=decide_eq_false c4
     clear c4
     obtain rfl:=Option.some.inj H
     go_wp2
     go_ret
     exact ⟨by first|rfl|(simp [errW_none,errW_some] <;> rfl)|(simp [*,errW_none,errW_some] <;> rfl),by repeat (first|(with_reducible first|exact HB.out|apply below_alloc|apply pw_below_drewN|apply below_drew1)|exact HB.out)⟩
 ·rw [if_neg c3] at H
  have c3b0 : ((l0.length : Int) == (l1.length : Int)) = false:=beq_eq_false_iff_ne.mpr c3
  have c3b1 : ((l0.length : Int) != (l1.length : Int)) = true:=bne_iff_ne.mpr c3
  have c3b2 : (l0.length == l1.length) = false:=by first|simpa using c3|(simp at c3 ⊢;omega)
  obtain rfl:=Option.some.inj H
  go_enter Try.func52,Try.ntmps52
  go_wp2
  go_ret
  exact ⟨by first|rfl|(simp [errW_none,errW_some] <;> rfl)|(simp [*,errW_none,errW_some] <;> rfl),by repeat (first|(with_reducible first|exact HB.out|apply below_alloc|apply pw_below_drewN|apply below_drew1)|exact HB.out)⟩
end Go.Proofs.Ytpdnabhpkdchjaa.P
namespace Go.Proofs.Ytpdnabhpkdchjaa.P
open Go.RowKit Go.Proofs.YtpdnabhpkdchjaaW.PrintWords Go.Proofs.YtpdnabhpkdchjaaW.PrintLast
set_option linter.unusedVariables false
set_option linter.unusedSimpArgs false
theorem szEventS_eq (l : List S54) (left : Int) (h0 : 0 ≤ left) (h1 : left ≤ 1048576) (hl : l.length ≤ 9223372036854775807) :
    laws_szEventS.f l left = some (if left < (l.length : Int) then -1 else left - l.length) := by
  unfold laws_szEventS.f
  rw [wrap_id (by omega) (by omega)]
  by_cases h : left < (l.length : Int)
  · rw [if_pos (by omega), if_pos h]
  · rw [if_neg (by omega), if_neg h]
def cvE (x : S54) : S56 := ⟨x.f0, x.f1, x.f2⟩
theorem rd54 (l : List S54) (i : Nat) (h : i < l.length) : rd_T54 l (i : Int) = l[i] := by simp [rd_T54, h]
theorem toEventS_l0 (l : List S54) (hl : l.length ≤ 1048576) (d : Nat) : ∀ (i : Nat), i + d = l.length → Ev (fun k => laws_toEventS.l0 k l ((l.take i).map cvE ++ List.replicate d z56) i) (l.map cvE) := by
  induction d with
  | zero =>
    intro i hi
    refine Ev.step1 fun k => ?_
    simp only [laws_toEventS.l0]
    rw [if_neg (by omega), List.take_of_length_le (by omega)]
    simp
  | succ d ih =>
    intro i hi
    have hlt : i < l.length := by omega
    refine Ev.step (fun k => ?_) (ih (i + 1) (by omega))
    simp only [laws_toEventS.l0, laws_toEvent.f]
    rw [if_pos (by omega), if_pos (by omega)]
    simp only [Option.bind_some]
    rw [if_pos (by simp; omega), wrap_succ (by omega), rd54 l i hlt]
    congr 1
    rw [Int.toNat_natCast, List.set_append_right _ _ (by simp; omega)]
    simp only [List.map_take, List.length_take, List.length_map, Nat.min_eq_left (Nat.le_of_lt hlt), Nat.sub_self, List.replicate_succ, List.set_cons_zero]
    rw [List.take_succ_eq_append_getElem (by simpa using hlt)]
    simp [cvE]
theorem toEventS_ev (l : List S54) (hl : l.length ≤ 1048576) : Ev (fun k => laws_toEventS.f k l) (l.map cvE) := by
  unfold laws_toEventS.f
  refine Ev.ite_pos (by omega) (Ev.ite_pos (by omega) ?_)
  simpa using toEventS_l0 l hl l.length 0 (by omega)
theorem eqEventS_l0 (l : List S56) (hl : l.length ≤ 1048576) (d : Nat) : ∀ (i : Nat), i + d = l.length → Ev (fun k => laws_eqEventS.l0 k l l i) true := by
  induction d with
  | zero => intro i hi; refine Ev.step1 fun k => ?_; simp only [laws_eqEventS.l0]; rw [if_neg (by omega)]
  | succ d ih =>
    intro i hi
    refine Ev.step (fun k => ?_) (ih (i + 1) (by omega))
    simp only [laws_eqEventS.l0, laws_eqEvent.f, if_true, Option.bind_some]
    rw [if_pos (by omega), if_pos (by omega), if_pos (by omega), wrap_succ (by omega)]
theorem eqEventS_ev (l : List S56) (hl : l.length ≤ 1048576) : Ev (fun k => laws_eqEventS.f k l l) true := by
  unfold laws_eqEventS.f
  exact Ev.ite_pos rfl (eqEventS_l0 l hl l.length 0 (by omega))
end Go.Proofs.Ytpdnabhpkdchjaa.P
namespace Go.Proofs.Ytpdnabhpkdchjaa.P
open Go.RowKit Go.Proofs.YtpdnabhpkdchjaaW.PrintWords Go.Proofs.YtpdnabhpkdchjaaW.PrintLast Go.Proofs.YtpdnabhpkdchjaaW.PrintMore
attribute [local go_sem] max2_int min2_int max_two min_two max_three min_three max_four min_four
set_option linter.unusedVariables false
set_option linter.unusedSimpArgs false
def laws_markEventS.l0 : Nat → List (S56) → Int → Int → Option (Int × (List (S56)))
 | 0,_,_,_=>none
 | k + 1,x0,x1,x5=>if x5 < (x0.length : Int) then (if 0 ≤ x5 then ((some (x0.set (x5 : Int).toNat (⟨x1,(rd_T56 x0 x5).f1,(rd_T56 x0 x5).f2⟩ : S56) : List (S56))).bind fun y801=>((some (y801.set (x5 : Int).toNat (⟨(rd_T56 y801 x5).f0,wrap64 (x1 + 1),(rd_T56 y801 x5).f2⟩ : S56) : List (S56))).bind fun y802=>(laws_markEventS.l0 k (y802.set (x5 : Int).toNat (⟨(rd_T56 y802 x5).f0,(rd_T56 y802 x5).f1,wrap64 ((wrap64 (x1 + 1)) + 1)⟩ : S56)) (wrap64 ((wrap64 ((wrap64 (x1 + 1)) + 1)) + 1)) (wrap64 (x5 + 1))))) else (none)) else (some (x1,x0))
def laws_markEventS.f (k : Nat) (l0 : List (S56)) (a1 : Int) : Option (Int × (List (S56))):=laws_markEventS.l0 k l0 a1 0
set_option maxHeartbeats 8000000 in
set_option maxRecDepth 100000 in
theorem laws_markEventS.calls (k : Nat) (P0_ : Nat → Prop) (u9000_ : Value) (l0 : List (S56)) (a1 : Int) (r1 : Int) (r2 : List (S56)) (w0 w : World) (hB : Below w0.heap.size w0 w) (ho0 : Kd.R k56 56 w w0.heap.size P0_ u9000_ l0) (h : laws_markEventS.f k l0 a1 = some (r1,r2)) :
  Calls Try.prog 60 #[u9000_,.int .i64 a1] w fun e w'=>e = .returned (.int .i64 r1)∧Kd.R k56 56 w' w0.heap.size (fun k_=>(P0_ k_ ∨ w.heap.size ≤ k_)) u9000_ r2∧Below w0.heap.size w0 w'∧Kept w w' (fun k_=>P0_ k_):=by
 have HO0:=Aside0.mk (show Kd.R k56 56 w w0.heap.size (fun k_=>(P0_ k_ ∨ w.heap.size ≤ k_)) u9000_ l0 from Kd.R_mono ho0 (fun k_ hk=>(.inl hk)))
 have HK:=Aside0.mk (Kept.refl w (fun k_=>P0_ k_))
 have HW0:=Aside0.mk hB.size
 have HB:=Aside0.mk hB
 clear hB
 have H : (laws_markEventS.l0 k l0 a1 0) = some (r1,r2):=h
 clear h
 have H':=Aside0.mk H
 clear H
 go_enter Try.func60,Try.ntmps60
 go_wp2
 go_loopg [1,5] k (fun kq v1 v5 w'=>∃ (x0_1 : List (S56)) (x1_1 : Int) (x5_1 : Int),v1 = .int .i64 x1_1∧v5 = .int .i64 x5_1∧Aside0 (laws_markEventS.l0 kq x0_1 x1_1 x5_1 = some (r1,r2))∧Aside0 (kq ≤ k)∧Aside0 (Kd.R k56 56 w' w0.heap.size (fun k_=>(P0_ k_ ∨ w.heap.size ≤ k_)) u9000_ x0_1)∧Aside0 (Kept w w' (fun k_=>P0_ k_))∧Aside0 (Below w0.heap.size w0 w'))
 case atStart=>exact ⟨(l0),(a1),(0),(by first|rfl|(simp;done)|(simp [*];done)),(by first|rfl|(simp;done)|(simp [*];done)),H',⟨Nat.le_refl _⟩,⟨by (with_reducible repeat (first|apply Kd.R_alloc|apply Kd.R_drewN|apply Kd.R_drew));exact HO0.out⟩,⟨by repeat (first|(with_reducible first|exact HK.out|apply Kept.alloc|apply Kept.drewN|apply Kept.drew)|exact HK.out)⟩,⟨by repeat (first|(with_reducible first|exact HB.out|apply below_alloc|apply pw_below_drewN|apply below_drew1)|exact HB.out)⟩⟩
 case round =>
  clear H'
  try clear p2
  obtain ⟨x0_1,x1_1,x5_1,rfl,rfl,HA,HK1,HO_0,HK,HB⟩:=hrel
  cases gk with
  | zero=>exact absurd HA.out (by simp [laws_markEventS.l0])
  | succ k1 =>
   have H:=HA.out
   clear HA
   simp only [laws_markEventS.l0] at H
   by_cases c3 : x5_1 < (x0_1.length : Int)
   ·rw [if_pos c3] at H
    have c3b0 : decide (x5_1 < (x0_1.length : Int)) = true:=decide_eq_true c3
    clear c3
    by_cases c4 : 0 ≤ x5_1
    ·rw [if_pos c4] at H
     have c4b0 : decide (0 ≤ x5_1) = true:=decide_eq_true c4
     clear c4
     obtain ⟨y801,hy801⟩ : ∃ y_ : List (S56),y_ = (x0_1.set (x5_1 : Int).toNat (⟨x1_1,(rd_T56 x0_1 x5_1).f1,(rd_T56 x0_1 x5_1).f2⟩ : S56)):=⟨_,rfl⟩
     replace H : ((some (y801.set (x5_1 : Int).toNat (⟨(rd_T56 y801 x5_1).f0,wrap64 (x1_1 + 1),(rd_T56 y801 x5_1).f2⟩ : S56) : List (S56))).bind fun y802=>(laws_markEventS.l0 k1 (y802.set (x5_1 : Int).toNat (⟨(rd_T56 y802 x5_1).f0,(rd_T56 y802 x5_1).f1,wrap64 ((wrap64 (x1_1 + 1)) + 1)⟩ : S56)) (wrap64 ((wrap64 ((wrap64 (x1_1 + 1)) + 1)) + 1)) (wrap64 (x5_1 + 1)))) = some (r1,r2):=by first|(rw [hy801];with_reducible exact H)|(have H2_:=(Option.bind_some _ _).symm.trans H;rw [hy801];with_reducible exact H2_)|(have H2_:=(Option.bind_some _ _).symm.trans H;with_reducible exact H2_)|with_reducible exact H|(rw [hy801];exact H)|exact H
     have Ny801:=Aside0.mk hy801
     clear hy801
     obtain ⟨y802,hy802⟩ : ∃ y_ : List (S56),y_ = (y801.set (x5_1 : Int).toNat (⟨(rd_T56 y801 x5_1).f0,wrap64 (x1_1 + 1),(rd_T56 y801 x5_1).f2⟩ : S56)):=⟨_,rfl⟩
     replace H : (laws_markEventS.l0 k1 (y802.set (x5_1 : Int).toNat (⟨(rd_T56 y802 x5_1).f0,(rd_T56 y802 x5_1).f1,wrap64 ((wrap64 (x1_1 + 1)) + 1)⟩ : S56)) (wrap64 ((wrap64 ((wrap64 (x1_1 + 1)) + 1)) + 1)) (wrap64 (x5_1 + 1))) = some (r1,r2):=by first|(rw [hy802];with_reducible exact H)|(have H2_:=(Option.bind_some _ _).symm.trans H;rw [hy802];with_reducible exact H2_)|(have H2_:=(Option.bind_some _ _).symm.trans H;with_reducible exact H2_)|with_reducible exact H|(rw [hy802];exact H)|exact H
     have Ny802:=Aside0.mk hy802
     clear hy802
     obtain ⟨y803,hy803⟩ : ∃ y_ : List (S56),y_ = (y802.set (x5_1 : Int).toNat (⟨(rd_T56 y802 x5_1).f0,(rd_T56 y802 x5_1).f1,wrap64 ((wrap64 (x1_1 + 1)) + 1)⟩ : S56)):=⟨_,rfl⟩
     replace H : (laws_markEventS.l0 k1 y803 (wrap64 ((wrap64 ((wrap64 (x1_1 + 1)) + 1)) + 1)) (wrap64 (x5_1 + 1))) = some (r1,r2):=by first|(rw [hy803];with_reducible exact H)|(have H2_:=(Option.bind_some _ _).symm.trans H;rw [hy803];with_reducible exact H2_)|(have H2_:=(Option.bind_some _ _).symm.trans H;with_reducible exact H2_)|with_reducible exact H|(rw [hy803];exact H)|exact H
     have Ny803:=Aside0.mk hy803
     clear hy803
     have H':=Aside0.mk H
     clear H
     obtain ⟨Ao8,co8,eo8⟩:=Kd.R_slice HO_0.out
     subst eo8
     have p5 : 0 ≤ (x5_1 : Int):=of_decide_eq_true (by first|(with_reducible assumption)|assumption)
     have q5 : (x5_1 : Int) < ((x0_1.length : Int) : Int):=of_decide_eq_true (by first|(with_reducible assumption)|assumption)
     obtain ⟨go5,co5,eo5,gb5,gl5,cl5,HG5⟩:=Kd.R_form HO_0.out (by omega)
     (first|cases eo5|(injection eo5 with ea_ en_ ec_;(first|subst ea_|(injection ea_ with ea_;subst ea_));subst ec_;clear en_))
     have GB5:=Aside0.mk gb5
     have GG5:=Aside0.mk HG5
     clear gb5 gl5 HG5
     have HMgo5:=Aside0.mk (show (P0_ go5 ∨ w.heap.size ≤ go5) from (HO_0.out.1 _ rfl))
     obtain ⟨ce5,hcl5,hM5,hcc5,hfr5⟩:=Kd.R_elem HO_0.out z56 (x5_1 : Int) p5 q5
     obtain rfl:=k56_openM hM5
     have hx5_0 : wr.cell? ⟨go5,(x5_1 : Int).toNat * 3,none⟩ = some (.int .i64 ((rd_T56 x0_1 x5_1).f0)):=hcc5 0 _ rfl
     have hx5_1 : wr.cell? ⟨go5,(x5_1 : Int).toNat * 3 + 1,none⟩ = some (.int .i64 ((rd_T56 x0_1 x5_1).f1)):=hcc5 1 _ rfl
     have hx5_2 : wr.cell? ⟨go5,(x5_1 : Int).toNat * 3 + 2,none⟩ = some (.int .i64 ((rd_T56 x0_1 x5_1).f2)):=hcc5 2 _ rfl
     have hf5_0 : wr.frozen? ⟨go5,(x5_1 : Int).toNat * 3,none⟩ = false:=hfr5 0
     have hf5_1 : wr.frozen? ⟨go5,(x5_1 : Int).toNat * 3 + 1,none⟩ = false:=hfr5 1
     have hf5_2 : wr.frozen? ⟨go5,(x5_1 : Int).toNat * 3 + 2,none⟩ = false:=hfr5 2
     clear hcl5 hcc5 hfr5 hM5
     replace p5:=eq_true p5
     replace q5:=eq_true q5
     have HX9:=Aside0.mk (show Kd.R k56 56 wr w0.heap.size (fun k_=>(P0_ k_ ∨ w.heap.size ≤ k_)) (.slice (some ⟨go5,0,none⟩) x0_1.length co8) x0_1 from (by (with_reducible repeat (first|apply Kd.R_alloc|apply Kd.R_drewN|apply Kd.R_drew));exact HO_0.out))
     obtain ⟨ce9,hcl9,hM9,hcc9,hfr9⟩:=Kd.R_elem HX9.out z56 (x5_1 : Int) (of_decide_eq_true (by first|(with_reducible assumption)|assumption)) (by have h_ : (x5_1 : Int) < ((x0_1.length : Int) : Int):=of_decide_eq_true (by first|(with_reducible assumption)|assumption);first|exact h_|(have e_:=(Kd.R_reads' HO_0.out).1;omega)|simpa using h_)
     obtain rfl:=k56_openM hM9
     have HP9:=Kd.R_seg HX9.out (x5_1 : Int) (of_decide_eq_true (by first|(with_reducible assumption)|assumption)) (by have h_ : (x5_1 : Int) < ((x0_1.length : Int) : Int):=of_decide_eq_true (by first|(with_reducible assumption)|assumption);first|exact h_|(have e_:=(Kd.R_reads' HO_0.out).1;omega)|simpa using h_) (seg:=[.int .i64 x1_1]) (j:=0) hcl9 hcc9 (show 1 ≤ 3 from by decide) (x':=(⟨x1_1,(rd_T56 x0_1 x5_1).f1,(rd_T56 x0_1 x5_1).f2⟩ : S56)) (k56_mkM _ _ _ (⟨x1_1,(rd_T56 x0_1 x5_1).f1,(rd_T56 x0_1 x5_1).f2⟩ : S56) ) (fun _ hk=>hk)
     have hx9_0:=hcc9 0 _ rfl
     (try simp only [show (k56).sz = 3 from rfl,Nat.mul_one,Nat.add_zero] at hx9_0)
     have hf9_0:=hfr9 0
     (try simp only [show (k56).sz = 3 from rfl,Nat.mul_one,Nat.add_zero] at hf9_0)
     clear hcl9 hcc9 hfr9 hM9
     go_wp2_with (first|((with_reducible refine gate_store (t:=3) (p:=16) rfl ?_);refine store_event (t:=3) (p:=16) (v:=?vo_w10) (w1:=(wr.setCell ⟨go5,(x5_1 : Int).toNat * 3,none⟩ (.int .i64 x1_1))) ?hg ?ho ?hn ?hr ?_;(case ho=>rfl);(case hg=>rfl);(case hn=>rfl);(case hr=>first|(go_simp;done)|(go_simp;rfl));intro w10 hw;have hg : wr.grownBy w10 (some go5):=(by rw [hw];exact HP9.2);have hp_ : Kd.R k56 56 w10 w0.heap.size (fun k_=>(P0_ k_ ∨ w.heap.size ≤ k_)) (.slice (some ⟨go5,0,none⟩) x0_1.length co8) y801:=(by rw [hw,Ny801.out];exact HP9.1);clear HP9;have n0_:=Aside0.mk (hp_);have n1_:=Aside0.mk ((by rw [hw];exact below_set (HB.out) GB5.out : Below w0.heap.size w0 w10));have n2_:=Aside0.mk (Kept.of_grown (S:=(fun k_=>P0_ k_)) hg (by repeat (first|(with_reducible first|exact HK.out|apply Kept.alloc|apply Kept.drewN|apply Kept.drew)|exact HK.out)) (fun k_ e_=>(HO_0.out.1 k_ e_)));clear HO_0;clear HB;clear HK;have HO_0:=n0_;have HB:=n1_;have HK:=n2_;clear n0_ n1_ n2_;clear hg hw hp_;have p6 : 0 ≤ (x5_1 : Int):=of_decide_eq_true (by first|(with_reducible assumption)|assumption);have q6 : (x5_1 : Int) < ((x0_1.length : Int) : Int):=of_decide_eq_true (by first|(with_reducible assumption)|assumption);obtain ⟨ce6,hcl6,hM6,hcc6,hfr6⟩:=Kd.R_elem HO_0.out z56 (x5_1 : Int) p6 q6;obtain rfl:=k56_openM hM6;have hx6_0 : w10.cell? ⟨go5,(x5_1 : Int).toNat * 3,none⟩ = some (.int .i64 ((rd_T56 y801 x5_1).f0)):=hcc6 0 _ rfl;have hx6_1 : w10.cell? ⟨go5,(x5_1 : Int).toNat * 3 + 1,none⟩ = some (.int .i64 ((rd_T56 y801 x5_1).f1)):=hcc6 1 _ rfl;have hx6_2 : w10.cell? ⟨go5,(x5_1 : Int).toNat * 3 + 2,none⟩ = some (.int .i64 ((rd_T56 y801 x5_1).f2)):=hcc6 2 _ rfl;have hf6_0 : w10.frozen? ⟨go5,(x5_1 : Int).toNat * 3,none⟩ = false:=hfr6 0;have hf6_1 : w10.frozen? ⟨go5,(x5_1 : Int).toNat * 3 + 1,none⟩ = false:=hfr6 1;have hf6_2 : w10.frozen? ⟨go5,(x5_1 : Int).toNat * 3 + 2,none⟩ = false:=hfr6 2;clear hcl6 hcc6 hfr6 hM6;replace p6:=eq_true p6;replace q6:=eq_true q6;have HX11:=Aside0.mk (show Kd.R k56 56 w10 w0.heap.size (fun k_=>(P0_ k_ ∨ w.heap.size ≤ k_)) (.slice (some ⟨go5,0,none⟩) x0_1.length co8) y801 from (by (with_reducible repeat (first|apply Kd.R_alloc|apply Kd.R_drewN|apply Kd.R_drew));exact HO_0.out));obtain ⟨ce11,hcl11,hM11,hcc11,hfr11⟩:=Kd.R_elem HX11.out z56 (x5_1 : Int) (of_decide_eq_true (by first|(with_reducible assumption)|assumption)) (by have h_ : (x5_1 : Int) < ((x0_1.length : Int) : Int):=of_decide_eq_true (by first|(with_reducible assumption)|assumption);first|exact h_|(have e_:=(Kd.R_reads' HO_0.out).1;omega)|simpa using h_);obtain rfl:=k56_openM hM11;have HP11:=Kd.R_seg HX11.out (x5_1 : Int) (of_decide_eq_true (by first|(with_reducible assumption)|assumption)) (by have h_ : (x5_1 : Int) < ((x0_1.length : Int) : Int):=of_decide_eq_true (by first|(with_reducible assumption)|assumption);first|exact h_|(have e_:=(Kd.R_reads' HO_0.out).1;omega)|simpa using h_) (seg:=[.int .i64 (wrap64 (x1_1 + 1))]) (j:=1) hcl11 hcc11 (show 2 ≤ 3 from by decide) (x':=(⟨(rd_T56 y801 x5_1).f0,wrap64 (x1_1 + 1),(rd_T56 y801 x5_1).f2⟩ : S56)) (k56_mkM _ _ _ (⟨(rd_T56 y801 x5_1).f0,wrap64 (x1_1 + 1),(rd_T56 y801 x5_1).f2⟩ : S56) ) (fun _ hk=>hk);have hx11_1:=hcc11 1 _ rfl;(try simp only [show (k56).sz = 3 from rfl,Nat.mul_one,Nat.add_zero] at hx11_1);have hf11_1:=hfr11 1;(try simp only [show (k56).sz = 3 from rfl,Nat.mul_one,Nat.add_zero] at hf11_1);clear hcl11 hcc11 hfr11 hM11)|((with_reducible refine gate_store (t:=3) (p:=23) rfl ?_);refine store_event (t:=3) (p:=23) (v:=?vo_w12) (w1:=(w10.setCell ⟨go5,(x5_1 : Int).toNat * 3 + 1,none⟩ (.int .i64 (wrap64 (x1_1 + 1))))) ?hg ?ho ?hn ?hr ?_;(case ho=>rfl);(case hg=>rfl);(case hn=>rfl);(case hr=>first|(go_simp;done)|(go_simp;rfl));intro w12 hw;have hg : w10.grownBy w12 (some go5):=(by rw [hw];exact HP11.2);have hp_ : Kd.R k56 56 w12 w0.heap.size (fun k_=>(P0_ k_ ∨ w.heap.size ≤ k_)) (.slice (some ⟨go5,0,none⟩) x0_1.length co8) y802:=(by rw [hw,Ny802.out];exact HP11.1);clear HP11;have n0_:=Aside0.mk (hp_);have n1_:=Aside0.mk ((by rw [hw];exact below_set (HB.out) GB5.out : Below w0.heap.size w0 w12));have n2_:=Aside0.mk (Kept.of_grown (S:=(fun k_=>P0_ k_)) hg (by repeat (first|(with_reducible first|exact HK.out|apply Kept.alloc|apply Kept.drewN|apply Kept.drew)|exact HK.out)) (fun k_ e_=>(HO_0.out.1 k_ e_)));clear HO_0;clear HB;clear HK;have HO_0:=n0_;have HB:=n1_;have HK:=n2_;clear n0_ n1_ n2_;clear hg hw hp_;have p7 : 0 ≤ (x5_1 : Int):=of_decide_eq_true (by first|(with_reducible assumption)|assumption);have q7 : (x5_1 : Int) < ((x0_1.length : Int) : Int):=of_decide_eq_true (by first|(with_reducible assumption)|assumption);obtain ⟨ce7,hcl7,hM7,hcc7,hfr7⟩:=Kd.R_elem HO_0.out z56 (x5_1 : Int) p7 q7;obtain rfl:=k56_openM hM7;have hx7_0 : w12.cell? ⟨go5,(x5_1 : Int).toNat * 3,none⟩ = some (.int .i64 ((rd_T56 y802 x5_1).f0)):=hcc7 0 _ rfl;have hx7_1 : w12.cell? ⟨go5,(x5_1 : Int).toNat * 3 + 1,none⟩ = some (.int .i64 ((rd_T56 y802 x5_1).f1)):=hcc7 1 _ rfl;have hx7_2 : w12.cell? ⟨go5,(x5_1 : Int).toNat * 3 + 2,none⟩ = some (.int .i64 ((rd_T56 y802 x5_1).f2)):=hcc7 2 _ rfl;have hf7_0 : w12.frozen? ⟨go5,(x5_1 : Int).toNat * 3,none⟩ = false:=hfr7 0;have hf7_1 : w12.frozen? ⟨go5,(x5_1 : Int).toNat * 3 + 1,none⟩ = false:=hfr7 1;have hf7_2 : w12.frozen? ⟨go5,(x5_1 : Int).toNat * 3 + 2,none⟩ = false:=hfr7 2;clear hcl7 hcc7 hfr7 hM7;replace p7:=eq_true p7;replace q7:=eq_true q7;have HX13:=Aside0.mk (show Kd.R k56 56 w12 w0.heap.size (fun k_=>(P0_ k_ ∨ w.heap.size ≤ k_)) (.slice (some ⟨go5,0,none⟩) x0_1.length co8) y802 from (by (with_reducible repeat (first|apply Kd.R_alloc|apply Kd.R_drewN|apply Kd.R_drew));exact HO_0.out));obtain ⟨ce13,hcl13,hM13,hcc13,hfr13⟩:=Kd.R_elem HX13.out z56 (x5_1 : Int) (of_decide_eq_true (by first|(with_reducible assumption)|assumption)) (by have h_ : (x5_1 : Int) < ((x0_1.length : Int) : Int):=of_decide_eq_true (by first|(with_reducible assumption)|assumption);first|exact h_|(have e_:=(Kd.R_reads' HO_0.out).1;omega)|simpa using h_);obtain rfl:=k56_openM hM13;have HP13:=Kd.R_seg HX13.out (x5_1 : Int) (of_decide_eq_true (by first|(with_reducible assumption)|assumption)) (by have h_ : (x5_1 : Int) < ((x0_1.length : Int) : Int):=of_decide_eq_true (by first|(with_reducible assumption)|assumption);first|exact h_|(have e_:=(Kd.R_reads' HO_0.out).1;omega)|simpa using h_) (seg:=[.int .i64 (wrap64 ((wrap64 (x1_1 + 1)) + 1))]) (j:=2) hcl13 hcc13 (show 3 ≤ 3 from by decide) (x':=(⟨(rd_T56 y802 x5_1).f0,(rd_T56 y802 x5_1).f1,wrap64 ((wrap64 (x1_1 + 1)) + 1)⟩ : S56)) (k56_mkM _ _ _ (⟨(rd_T56 y802 x5_1).f0,(rd_T56 y802 x5_1).f1,wrap64 ((wrap64 (x1_1 + 1)) + 1)⟩ : S56) ) (fun _ hk=>hk);have hx13_2:=hcc13 2 _ rfl;(try simp only [show (k56).sz = 3 from rfl,Nat.mul_one,Nat.add_zero] at hx13_2);have hf13_2:=hfr13 2;(try simp only [show (k56).sz = 3 from rfl,Nat.mul_one,Nat.add_zero] at hf13_2);clear hcl13 hcc13 hfr13 hM13)|((with_reducible refine gate_store (t:=3) (p:=30) rfl ?_);refine store_event (t:=3) (p:=30) (v:=?vo_w14) (w1:=(w12.setCell ⟨go5,(x5_1 : Int).toNat * 3 + 2,none⟩ (.int .i64 (wrap64 ((wrap64 (x1_1 + 1)) + 1))))) ?hg ?ho ?hn ?hr ?_;(case ho=>rfl);(case hg=>rfl);(case hn=>rfl);(case hr=>first|(go_simp;done)|(go_simp;rfl));intro w14 hw;have hg : w12.grownBy w14 (some go5):=(by rw [hw];exact HP13.2);have hp_ : Kd.R k56 56 w14 w0.heap.size (fun k_=>(P0_ k_ ∨ w.heap.size ≤ k_)) (.slice (some ⟨go5,0,none⟩) x0_1.length co8) y803:=(by rw [hw,Ny803.out];exact HP13.1);clear HP13;have n0_:=Aside0.mk (hp_);have n1_:=Aside0.mk ((by rw [hw];exact below_set (HB.out) GB5.out : Below w0.heap.size w0 w14));have n2_:=Aside0.mk (Kept.of_grown (S:=(fun k_=>P0_ k_)) hg (by repeat (first|(with_reducible first|exact HK.out|apply Kept.alloc|apply Kept.drewN|apply Kept.drew)|exact HK.out)) (fun k_ e_=>(HO_0.out.1 k_ e_)));clear HO_0;clear HB;clear HK;have HO_0:=n0_;have HB:=n1_;have HK:=n2_;clear n0_ n1_ n2_;clear hg hw hp_))
     go_roundg k1
     case measure=>have:=HK1.out;omega
     case rel=>exact ⟨(y803),(wrap64 ((wrap64 ((wrap64 (x1_1 + 1)) + 1)) + 1)),(wrap64 (x5_1 + 1)),(by first|rfl|(simp;done)|(simp [*];done)),(by first|rfl|(simp;done)|(simp [*];done)),H',⟨by have:=HK1.out;omega⟩,⟨by (with_reducible repeat (first|apply Kd.R_alloc|apply Kd.R_drewN|apply Kd.R_drew));exact HO_0.out⟩,⟨by repeat (first|(with_reducible first|exact HK.out|apply Kept.alloc|apply Kept.drewN|apply Kept.drew)|exact HK.out)⟩,⟨by repeat (first|(with_reducible first|exact HB.out|apply below_alloc|apply pw_below_drewN|apply below_drew1)|exact HB.out)⟩⟩
    ·rw [if_neg c4] at H
     exact absurd H (by simp)
   ·rw [if_neg c3] at H
    have c3b0 : decide (x5_1 < (x0_1.length : Int)) = false:=decide_eq_false c3
    clear c3
    simp only [Option.some.injEq,Prod.mk.injEq] at H
    obtain ⟨rfl,rfl⟩:=H
    obtain ⟨Ao15,co15,eo15⟩:=Kd.R_slice HO_0.out
    subst eo15
    go_wp2
    go_ret
    exact ⟨by first|rfl|(simp [errW_none,errW_some] <;> rfl)|(simp [*,errW_none,errW_some] <;> rfl),by (with_reducible repeat (first|apply Kd.R_alloc|apply Kd.R_drewN|apply Kd.R_drew));exact HO_0.out,by repeat (first|(with_reducible first|exact HB.out|apply below_alloc|apply pw_below_drewN|apply below_drew1)|exact HB.out),by repeat (first|(with_reducible first|exact HK.out|apply Kept.alloc|apply Kept.drewN|apply Kept.drew)|exact HK.out)⟩
end Go.Proofs.Ytpdnabhpkdchjaa.P
namespace Go.Proofs.Ytpdnabhpkdchjaa.P
open Go.RowKit Go.Proofs.YtpdnabhpkdchjaaW.PrintWords Go.Proofs.YtpdnabhpkdchjaaW.PrintLast
set_option linter.unusedVariables false
theorem markEventS_l0 (N : Nat) (hN : N ≤ 1048576) (d : Nat) : ∀ (i : Nat) (xs : List S56) (a : Int), xs.length = N → i + d = N → 0 ≤ a → a ≤ 1000000000000 + 3 * i → ∃ r, Ev (fun k => laws_markEventS.l0 k xs a i) (a + 3 * d, r) := by
  induction d with
  | zero =>
    intro i xs a hx hi h0 h1
    refine ⟨xs, Ev.step1 fun k => ?_⟩
    simp only [laws_markEventS.l0]
    rw [if_neg (by omega)]
    simp
  | succ d ih =>
    intro i xs a hx hi h0 h1
    obtain ⟨r, hr⟩ := ih (i + 1) (((xs.set i (⟨a, (rd_T56 xs i).f1, (rd_T56 xs i).f2⟩ : S56)).set i (⟨(rd_T56 (xs.set i (⟨a, (rd_T56 xs i).f1, (rd_T56 xs i).f2⟩ : S56)) i).f0, a + 1, (rd_T56 (xs.set i (⟨a, (rd_T56 xs i).f1, (rd_T56 xs i).f2⟩ : S56)) i).f2⟩ : S56)).set i (⟨(rd_T56 ((xs.set i (⟨a, (rd_T56 xs i).f1, (rd_T56 xs i).f2⟩ : S56)).set i (⟨(rd_T56 (xs.set i (⟨a, (rd_T56 xs i).f1, (rd_T56 xs i).f2⟩ : S56)) i).f0, a + 1, (rd_T56 (xs.set i (⟨a, (rd_T56 xs i).f1, (rd_T56 xs i).f2⟩ : S56)) i).f2⟩ : S56)) i).f0, (rd_T56 ((xs.set i (⟨a, (rd_T56 xs i).f1, (rd_T56 xs i).f2⟩ : S56)).set i (⟨(rd_T56 (xs.set i (⟨a, (rd_T56 xs i).f1, (rd_T56 xs i).f2⟩ : S56)) i).f0, a + 1, (rd_T56 (xs.set i (⟨a, (rd_T56 xs i).f1, (rd_T56 xs i).f2⟩ : S56)) i).f2⟩ : S56)) i).f1, a + 1 + 1⟩ : S56)) (a + 1 + 1 + 1) (by simp [hx]) (by omega) (by omega) (by omega)
    refine ⟨r, ?_⟩
    rw [show a + 1 + 1 + 1 + 3 * (d : Int) = a + 3 * ((d + 1 : Nat) : Int) by omega] at hr
    refine Ev.step (fun k => ?_) hr
    simp only [laws_markEventS.l0, Option.bind_some, Int.toNat_natCast]
    rw [if_pos (by omega), if_pos (by omega), wrap_id (x := a + 1) (by omega) (by omega), wrap_id (x := a + 1 + 1) (by omega) (by omega), wrap_id (x := a + 1 + 1 + 1) (by omega) (by omega), wrap_succ (by omega)]
theorem markEventS_ev (xs : List S56) (a : Int) (hx : xs.length ≤ 1048576) (h0 : 0 ≤ a) (h1 : a ≤ 1000000000000) : ∃ r, Ev (fun k => laws_markEventS.f k xs a) (a + 3 * (xs.length : Int), r) := by
  unfold laws_markEventS.f
  exact markEventS_l0 xs.length hx xs.length 0 xs a rfl (by omega) h0 (by omega)
end Go.Proofs.Ytpdnabhpkdchjaa.P
namespace Go.Proofs.Ytpdnabhpkdchjaa.P
open Go.RowKit Go.Proofs.YtpdnabhpkdchjaaW.PrintWords Go.Proofs.YtpdnabhpkdchjaaW.PrintLast Go.Proofs.YtpdnabhpkdchjaaW.PrintMore
set_option linter.unusedVariables false
set_option linter.unusedSimpArgs false
theorem own_empty {α : Type} (d : Kd α) (e : Nat) (W : World) : d.R e (W.alloc (.cells #[] e)) W.heap.size (fun _ => True) (.slice (some ⟨W.heap.size, 0, none⟩) 0 0) [] :=
  ⟨fun _ _ => trivial, OwnRow.lit W W.heap.size (Reps.none _ _) (Nat.le_refl _) (by simp)⟩
theorem C_none {α : Type} {d : Kd α} {w : World} {l : List α} (h : d.C w none l.length l) : l = [] := by
  rcases Nat.eq_zero_or_pos l.length with h0 | h0
  · exact List.eq_nil_of_length_eq_zero h0
  · obtain ⟨ad, h, _⟩ := h.2.2 h0
    cases h
def impl_Section.f (l0 : List S50) : Option (List S50) := if l0.length ≤ 1000000 then some l0 else none
set_option maxHeartbeats 1000000 in
set_option maxRecDepth 100000 in
theorem impl_Section.calls (A0 : Option Addr) (c0 : Nat) (l0 : List S50) (r : List S50) (w : World) (hr0 : Kd.C k50 w A0 l0.length l0) (hc0 : l0.length ≤ c0) (h : impl_Section.f l0 = some r) :
    Calls Try.prog 94 #[.slice A0 l0.length c0] w fun e w' => ∃ v0_ : Value, e = .returned (v0_) ∧ Kd.R k50 50 w' w.heap.size (fun _ => True) v0_ r ∧ Below w.heap.size w w' := by
  have hq : ∀ (w : World) (a : Option Addr) (n c n' c' : Nat), (binOp .eql 43 (.slice a n c) (.slice none n' c')).run Try.prog w = .ok (.bool a.isNone) w := fun w a n c n' c' => Lib.run_eql_slice_nil w _ _ a n c n' c' Try.underlying43
  unfold impl_Section.f at h
  split at h
  · rename_i hl
    obtain rfl := Option.some.inj h
    clear h
    have HL := Aside0.mk hl
    have HR := Aside0.mk hr0
    clear hr0 hl hc0
    rcases A0 with _ | ad
    · have h0 := C_none HR.out
      subst h0
      go_enter Try.func94, Try.ntmps94
      go_wp2
      go_ret
      exact ⟨_, rfl, Kd.R_nil _ _ _ _ _, Below.refl _ _⟩
    · go_enter Try.func94, Try.ntmps94
      go_wp2_with (at_builtin; refine Kd.R_append_rows k50 (w0 := w) w.heap.size rfl (.tmp 5) (.tmp 6) 43 50 (.agg #[(.int .i64 0), (.int .i64 0), (.bool false), (.bool false), (.int .i64 0)]) 32 rfl Try.underlying43 info50 rfl (by decide) (by decide) (.slice (some ⟨w.heap.size, 0, none⟩) 0 0) [] l0 _ _ _ (fun _ => True) (fun _ => False) rfl rfl (own_empty k50 50 w) (Kd.C_below HR.out (below_alloc (Below.refl _ _) _)) (fun _ _ h => h) (fun _ h => h.elim) (fun _ _ => trivial) (below_alloc (Below.refl _ _) _) (by simp) (by have := HL.out; simp; omega) ?_; intro v1 w1 hown hB _ _; have HO := Aside0.mk hown; have HB := Aside0.mk hB; clear hown hB)
      go_ret
      exact ⟨_, rfl, HO.out, HB.out⟩
  · cases h
def slices_Clone_bool_bool.f (l0 : List Bool) : Option (List Bool) := if l0.length ≤ 1000000 then some l0 else none
set_option maxHeartbeats 1000000 in
set_option maxRecDepth 100000 in
theorem slices_Clone_bool_bool.calls (A0 : Option Addr) (c0 : Nat) (l0 : List Bool) (r : List Bool) (w : World) (hr0 : Kd.C Kd.bool w A0 l0.length l0) (hc0 : l0.length ≤ c0) (h : slices_Clone_bool_bool.f l0 = some r) :
    Calls Try.prog 95 #[.slice A0 l0.length c0] w fun e w' => ∃ v0_ : Value, e = .returned (v0_) ∧ Kd.R Kd.bool 4 w' w.heap.size (fun _ => True) v0_ r ∧ Below w.heap.size w w' := by
  have hq : ∀ (w : World) (a : Option Addr) (n c n' c' : Nat), (binOp .eql 44 (.slice a n c) (.slice none n' c')).run Try.prog w = .ok (.bool a.isNone) w := fun w a n c n' c' => Lib.run_eql_slice_nil w _ _ a n c n' c' Try.underlying44
  unfold slices_Clone_bool_bool.f at h
  split at h
  · rename_i hl
    obtain rfl := Option.some.inj h
    clear h
    have HL := Aside0.mk hl
    have HR := Aside0.mk hr0
    clear hr0 hl hc0
    rcases A0 with _ | ad
    · have h0 := C_none HR.out
      subst h0
      go_enter Try.func95, Try.ntmps95
      go_wp2
      go_ret
      exact ⟨_, rfl, Kd.R_nil _ _ _ _ _, Below.refl _ _⟩
    · go_enter Try.func95, Try.ntmps95
      go_wp2_with (at_builtin; refine Kd.R_append_rows Kd.bool (w0 := w) w.heap.size rfl (.tmp 5) (.tmp 6) 44 4 (.bool false) 1 rfl Try.underlying44 info4 rfl (by decide) (by decide) (.slice (some ⟨w.heap.size, 0, none⟩) 0 0) [] l0 _ _ _ (fun _ => True) (fun _ => False) rfl rfl (own_empty Kd.bool 4 w) (Kd.C_below HR.out (below_alloc (Below.refl _ _) _)) (fun _ _ h => h) (fun _ h => h.elim) (fun _ _ => trivial) (below_alloc (Below.refl _ _) _) (by simp) (by have := HL.out; simp; omega) ?_; intro v1 w1 hown hB _ _; have HO := Aside0.mk hown; have HB := Aside0.mk hB; clear hown hB)
      go_ret
      exact ⟨_, rfl, HO.out, HB.out⟩
  · cases h
end Go.Proofs.Ytpdnabhpkdchjaa.P
namespace Go.Proofs.Ytpdnabhpkdchjaa.P
open Go.RowKit Go.Proofs.YtpdnabhpkdchjaaW.PrintWords Go.Proofs.YtpdnabhpkdchjaaW.PrintLast
set_option linter.unusedVariables false
set_option linter.unusedSimpArgs false
theorem lay_ctr {n : Int} {l : List S88} (h : layoutOk n l = 0) : ∀ x ∈ l, -1 ≤ x.f0 ∧ x.f0 < n ∧ -1 ≤ x.f1 ∧ x.f1 < n ∧ x.f0 ≠ x.f1 := by
  unfold layoutOk at h
  split at h
  · cases h
  · split at h
    · cases h
    · split at h
      · cases h
      · split at h
        · rename_i hall
          intro x hx
          have := List.all_eq_true.1 hall x hx
          simp only [ctrOk, inB, Bool.and_eq_true, decide_eq_true_eq, Bool.not_eq_true', beq_eq_false_iff_ne] at this
          exact ⟨this.1.1.1, this.1.1.2, this.1.2.1, this.1.2.2, this.2⟩
        · cases h
theorem lay_rd {n : Int} {l : List S88} (h : layoutOk n l = 0) (i : Int) (h0 : 0 ≤ i) (h1 : i < l.length) : -1 ≤ (rd_T88 l i).f0 ∧ (rd_T88 l i).f0 < n ∧ -1 ≤ (rd_T88 l i).f1 ∧ (rd_T88 l i).f1 < n ∧ (rd_T88 l i).f0 ≠ (rd_T88 l i).f1 := by
  refine lay_ctr h _ ?_
  have hlt : i.toNat < l.length := by omega
  have : rd_T88 l i = l[i.toNat] := by simp [rd_T88, hlt]
  rw [this]
  exact List.getElem_mem hlt
section
variable {n : Int} {l : List S88} {es : List S56} {R : List (List Int)}
theorem rd56 (l : List S56) (i : Nat) (h : i < l.length) : rd_T56 l (i : Int) = l[i] := by simp [rd_T56, h]
end
end Go.Proofs.Ytpdnabhpkdchjaa.P
namespace Go.Proofs.Ytpdnabhpkdchjaa.P
open Go.RowKit Go.Proofs.YtpdnabhpkdchjaaW.PrintWords Go.Proofs.YtpdnabhpkdchjaaW.PrintLast Go.Proofs.YtpdnabhpkdchjaaW.PrintMore
set_option linter.unusedVariables false
section
variable {n : Int} {A : Option Addr} {c : Nat} {l : List S88} {w : World}
theorem lay_is (hr : Kd.C k88 w A l.length l) (hc : l.length ≤ c) : Calls Try.prog 25 #[.agg #[.int .i64 n, .slice A l.length c]] w fun e w' => e = .returned (.int .i64 (layoutOk n l)) ∧ Below w.heap.size w w' :=
  impl_LayoutOk.calls n A c l _ w hr hc rfl
theorem slay_is (hr : Kd.C k88 w A l.length l) (hc : l.length ≤ c) : Calls Try.prog 23 #[.agg #[.int .i64 n, .slice A l.length c]] w fun e w' => e = .returned (.int .i64 (layoutOk n l)) ∧ Below w.heap.size w w' := by
  obtain ⟨k, h⟩ := (specLayoutOk_ev n l).rounds
  exact spec_LayoutOk.calls k n A c l _ w hr hc h
theorem ev_is (op of dir : Int) (hr : Kd.C k88 w A l.length l) (hc : l.length ≤ c) : Calls Try.prog 36 #[.agg #[.int .i64 n, .slice A l.length c], .agg #[.int .i64 op, .int .i64 of, .int .i64 dir]] w fun e w' => e = .returned (.bool (eventOk n l op of dir)) ∧ Below w.heap.size w w' := by
  obtain ⟨k, h⟩ := (implEventOk_ev n l op of dir).rounds
  exact impl_EventOk.calls k n A c l op of dir _ w hr hc h
theorem ev_at {b : Bool} (op of dir : Int) (hb : eventOk n l op of dir = b) (hr : Kd.C k88 w A l.length l) (hc : l.length ≤ c) : Calls Try.prog 36 #[.agg #[.int .i64 n, .slice A l.length c], .agg #[.int .i64 op, .int .i64 of, .int .i64 dir]] w fun e w' => e = .returned (.bool b) ∧ Below w.heap.size w w' := hb ▸ ev_is op of dir hr hc
theorem sev_is (op of dir : Int) (hr : Kd.C k88 w A l.length l) (hc : l.length ≤ c) : Calls Try.prog 34 #[.agg #[.int .i64 n, .slice A l.length c], .agg #[.int .i64 op, .int .i64 of, .int .i64 dir]] w fun e w' => e = .returned (.bool (eventOk n l op of dir)) ∧ Below w.heap.size w w' := by
  obtain ⟨k, h⟩ := (specEventOk_ev n l op of dir).rounds
  exact spec_EventOk.calls k n A c l op of dir _ w hr hc h
variable {A1 : Option Addr} {c1 : Nat} {es : List S56}
end
end Go.Proofs.Ytpdnabhpkdchjaa.P
namespace Go.Proofs.Ytpdnabhpkdchjaa.P
open Go.RowKit Go.Proofs.YtpdnabhpkdchjaaW.PrintWords Go.Proofs.YtpdnabhpkdchjaaW.PrintLast Go.Proofs.YtpdnabhpkdchjaaW.PrintMore
set_option linter.unusedVariables false
set_option linter.unusedSimpArgs false
def loseS (x : S50) : S50 := ⟨x.f0, x.f1, true, x.f3, x.f4⟩
theorem lose_none (s : Int) (v : Value) (w : World) (h : s < 0) : Calls Try.prog 131 #[.int .i64 s, v] w fun e w' => e = .returned (.tuple #[]) ∧ w = w' := by
  have h1 : decide (s ≥ 0) = false := decide_eq_false (by omega)
  go_enter Try.func131, Try.ntmps131
  go_wp2
  go_end0
  exact ⟨rfl, rfl⟩
set_option maxHeartbeats 4000000 in
set_option maxRecDepth 100000 in
theorem lose_calls (s : Int) (bo : Bool) (g gr n c : Nat) (v2 : Value) (l : List S50) (w : World) (base : Nat) (ok : Nat → Prop) (h0 : 0 ≤ s) (h1 : s < n)
    (hb : w.heap[g]? = some (.cells #[.bool bo, .slice (some ⟨gr, 0, none⟩) n c, v2] 46 (0, 0))) (HO : Kd.R k50 50 w base ok (.slice (some ⟨gr, 0, none⟩) n c) l) :
    Calls Try.prog 131 #[.int .i64 s, .pointer (some ⟨g, 0, none⟩)] w fun e w' => e = .returned (.tuple #[]) ∧ Kd.R k50 50 w' base ok (.slice (some ⟨gr, 0, none⟩) n c) (l.set s.toNat (loseS (rd_T50 l s))) ∧ w.grownBy w' (some gr) := by
  obtain ⟨x0, x1, x2, x3, x4, f0, f1, f2, f3, f4⟩ := sec_at HO s h0 h1
  have hc1 : w.cell? ⟨g, 1, none⟩ = some (.slice (some ⟨gr, 0, none⟩) n c) := (blk_cell hb 1).trans rfl
  have hs : decide (s ≥ 0) = true := decide_eq_true (by omega)
  have H0 := Aside0.mk h0
  have H1 := Aside0.mk h1
  have hp0 := eq_true h0
  have hp1 := eq_true h1
  have ST := Aside0.mk (SecSt.start HO H0.out H1.out)
  generalize hx : rd_T50 l s = x at x0 x1 x2 x3 x4 ST ⊢
  clear hx hb h0 h1 HO
  go_enter Try.func131, Try.ntmps131
  go_wp2
  go_end0
  exact ⟨rfl, SecSt.eq (ST.out.put2 H0.out H1.out rfl) rfl⟩
end Go.Proofs.Ytpdnabhpkdchjaa.P
namespace Go.Proofs.Ytpdnabhpkdchjaa.P
open Go.RowKit Go.Proofs.YtpdnabhpkdchjaaW.PrintWords Go.Proofs.YtpdnabhpkdchjaaW.PrintLast Go.Proofs.YtpdnabhpkdchjaaW.PrintMore
attribute [local go_sem] max2_int min2_int max_two min_two max_three min_three max_four min_four
set_option linter.unusedVariables false
set_option linter.unusedSimpArgs false
mutual
def spec_Around.j0 : Nat → Int → Bool → Int → List (S88) → Option (List Int)
 | 0,_,_,_,_=>none
 | k + 1,x1,x18,x224000,x224001=>if x18 = true then (some ([] : List Int)) else (spec_Around.l0 k x1 ([] : List Int) x224001 (x224001.length : Int) 0)
def spec_Around.l0 : Nat → Int → List Int → List (S88) → Int → Int → Option (List Int)
 | 0,_,_,_,_,_=>none
 | k + 1,x1,x5,x20,x21,x22=>if x22 < x21 then (if 0 ≤ x22 then (if x22 < (x20.length : Int) then (if ((rd_T88 x20 x22).f0) = x1 then (if x5.length < 17592186044416 then (spec_Around.l0 k x1 (x5 ++ [x22]) x20 x21 (wrap64 (x22 + 1))) else (none)) else (if ((rd_T88 x20 x22).f1) = x1 then (if x5.length < 17592186044416 then (spec_Around.l0 k x1 (x5 ++ [x22]) x20 x21 (wrap64 (x22 + 1))) else (none)) else (spec_Around.l0 k x1 x5 x20 x21 (wrap64 (x22 + 1))))) else (none)) else (none)) else (some x5)
end
def spec_Around.f (k : Nat) (a0_0 : Int) (l0_1 : List (S88)) (a1 : Int) : Option (List Int):=(spec_LayoutOk.f k a0_0 l0_1).bind fun t224=>(if t224 = 0 then ((spec_l1in.f a1 0 (wrap64 (a0_0 - 1))).bind fun t225=>(spec_Around.j0 k a1 (!t225) a0_0 l0_1)) else (spec_Around.j0 k a1 true a0_0 l0_1))
set_option maxHeartbeats 8000000 in
set_option maxRecDepth 100000 in
theorem spec_Around.calls (k : Nat) (a0_0 : Int) (A0_1 : Option Addr) (c0_1 : Nat) (l0_1 : List (S88)) (a1 : Int) (r : List Int) (w : World) (hr0_1 : Kd.C k88 w A0_1 l0_1.length l0_1) (hc0_1 : l0_1.length ≤ c0_1) (h : spec_Around.f k a0_0 l0_1 a1 = some r) :
  Calls Try.prog 37 #[.agg #[.int .i64 a0_0,.slice A0_1 l0_1.length c0_1],.int .i64 a1] w fun e w'=>∃ v0_ : Value,e = .returned (v0_)∧Kd.R (Kd.int .i64) 3 w' w.heap.size (fun _=>True) v0_ r∧Below w.heap.size w w':=by
 have hu30:=Try.underlying30
 have hu88:=Try.underlying88
 have HR0_1:=Aside0.mk hr0_1
 have HC0_1:=Aside0.mk hc0_1
 clear hr0_1 hc0_1
 have HB:=Aside0.mk (Below.refl w.heap.size w)
 have H : ((spec_LayoutOk.f k a0_0 l0_1).bind fun t224=>(if t224 = 0 then ((spec_l1in.f a1 0 (wrap64 (a0_0 - 1))).bind fun t225=>(spec_Around.j0 k a1 (!t225) a0_0 l0_1)) else (spec_Around.j0 k a1 true a0_0 l0_1))) = some r:=h
 clear h
 have HC3:=Aside0.mk H
 clear H
 go_enter Try.func37,Try.ntmps37
 go_upto_region 1 with (first|((with_reducible refine gate_dst (N:=2) rfl ?_);refine box_event ?hg (N:=2) ?hd (cs:=#[.int .i64 a0_0,.slice A0_1 l0_1.length c0_1]) (t:=30) ?hr ?_;(case hd=>rfl);(case hg=>rfl);(case hr=>first|(go_simp;done)|(go_simp;rfl));intro gb223 hg w4 hbox hb;have n0_:=Aside0.mk (below_step (by repeat (first|(with_reducible first|exact HB.out|apply below_alloc|apply pw_below_drewN|apply below_drew1)|exact HB.out)) hb);have n1_:=Aside0.mk (hbox);have n2_:=Aside0.mk ((by rw [hg];exact (below_size (by repeat (first|(with_reducible first|exact HB.out|apply below_alloc|apply pw_below_drewN|apply below_drew1)|exact HB.out))) : w.heap.size ≤ gb223));have n3_:=Aside0.mk ((by rw [hg];exact (below_size (by repeat (first|(with_reducible first|exact HB.out|apply below_alloc|apply pw_below_drewN|apply below_drew1)|exact HB.out))) : w.heap.size ≤ gb223));clear HB;have HB:=n0_;have BK223:=n1_;have GW223:=n2_;have GE223:=n3_;clear n0_ n1_ n2_ n3_;clear hb hbox hg))
 (try simp only [Act.put,List.setIfInBounds_toArray,List.set_cons_zero,List.set_cons_succ])
 go_cut [18] (fun v18 wc=>∃ (kq : Nat) (x18_2 : Bool),v18 = .bool x18_2∧Aside0 (spec_Around.j0 kq a1 x18_2 a0_0 l0_1 = some r)∧Aside0 (kq ≤ k)∧Aside0 (wc.heap[gb223]? = some (.cells #[.int .i64 a0_0,(.slice A0_1 l0_1.length c0_1)] 30 (0,0)))∧Aside0 (Below w.heap.size w wc))
 case first =>
  have H:=HC3.out
  clear HC3
  replace H:=Option.bind_eq_some_iff.mp H
  obtain ⟨t224,A50,H⟩:=H
  replace H : (if t224 = 0 then ((spec_l1in.f a1 0 (wrap64 (a0_0 - 1))).bind fun t225=>(spec_Around.j0 k a1 (!t225) a0_0 l0_1)) else (spec_Around.j0 k a1 true a0_0 l0_1)) = some r:=H
  have A5:=Aside0.mk A50
  clear A50
  by_cases c6 : t224 = 0
  ·rw [if_pos c6] at H
   have c6b0 : (t224 == 0) = true:=beq_iff_eq.mpr c6
   have c6b1 : (t224 != 0) = false:=bne_eq_false_iff_eq.mpr c6
   clear c6
   (first|rw [c6b0]|(simp only [i64_w,i32_w];rw [c6b0])|skip)
   replace H:=Option.bind_eq_some_iff.mp H
   obtain ⟨t225,A70,H⟩:=H
   replace H : (spec_Around.j0 k a1 (!t225) a0_0 l0_1) = some r:=H
   have A7:=Aside0.mk A70
   clear A70
   have H':=Aside0.mk H
   clear H
   have hcz8_0 : w4.cell? ⟨gb223,0,none⟩ = some (.int .i64 a0_0):=(blk_cell BK223.out 0).trans rfl
   have hcz8_1 : w4.cell? ⟨gb223,1,none⟩ = some (.slice A0_1 l0_1.length c0_1):=(blk_cell BK223.out 1).trans rfl
   have hfz8_0:=blk_frozen BK223.out 0
   have hfz8_1:=blk_frozen BK223.out 1
   go_wp2_with (first|((with_reducible refine gate_callee (f:=23) rfl ?_);refine goesL_ (some 9) rfl rfl Try.func23 (by kernel_rfl) rfl #[.agg #[.int .i64 a0_0,.slice A0_1 l0_1.length c0_1]] rfl (by (try simp only [List.map_toArray,List.map_cons,List.map_nil]);first|done|rfl|(simp only [List.length_drop,List.length_take];rfl)) ?_;(with_reducible refine (spec_LayoutOk.calls k a0_0 _ _ l0_1 t224 _ ?side1 ?side2 A5.out).mono ?_);(case side1=>repeat (first|exact (Kd.C_below HR0_1.out HB.out)|(with_reducible refine Kd.C_alloc ?_ _)|(with_reducible refine Kd.C_drewN ?_ _)|(with_reducible refine Kd.C_drew ?_)));(case side2=>exact HC0_1.out);rintro e w9 ⟨rfl,hb⟩;refine ⟨_,rfl,?_⟩;have n0_:=Aside0.mk (blk_below (g:=gb223) (o:=.cells #[.int .i64 a0_0,.slice A0_1 l0_1.length c0_1] 30 (0,0)) (by (with_reducible repeat (first|refine blk_drewN ?_ _|refine blk_drew ?_|refine blk_alloc ?_ _));exact BK223.out) hb);have n1_:=Aside0.mk (below_step (by repeat (first|(with_reducible first|exact HB.out|apply below_alloc|apply pw_below_drewN|apply below_drew1|refine below_set ?_ GE223.out)|exact HB.out)) hb);clear BK223;clear HB;have BK223:=n0_;have HB:=n1_;clear n0_ n1_;(try clear hb);(try clear hb2);(try clear hk);(try clear hi);have hcz10_0 : w9.cell? ⟨gb223,0,none⟩ = some (.int .i64 a0_0):=(blk_cell BK223.out 0).trans rfl;have hcz10_1 : w9.cell? ⟨gb223,1,none⟩ = some (.slice A0_1 l0_1.length c0_1):=(blk_cell BK223.out 1).trans rfl;have hfz10_0:=blk_frozen BK223.out 0;have hfz10_1:=blk_frozen BK223.out 1)|(go_at_call 87;(with_reducible refine (spec_l1in.calls a1 0 (wrap64 (a0_0 - 1)) t225 _ A7.out).mono ?_);rintro e w' ⟨rfl,⟨nd,rfl⟩⟩))
   go_meet
   case rel=>exact ⟨_,(!t225),(by first|rfl|(simp;done)|(simp [*];done)),H',⟨by first|omega|exact Nat.le_refl _⟩,⟨by (with_reducible repeat (first|refine blk_drewN ?_ _|refine blk_drew ?_|refine blk_alloc ?_ _));exact BK223.out⟩,⟨by repeat (first|(with_reducible first|exact HB.out|apply below_alloc|apply pw_below_drewN|apply below_drew1|refine below_set ?_ GE223.out)|exact HB.out)⟩⟩
  ·rw [if_neg c6] at H
   have c6b0 : (t224 == 0) = false:=beq_eq_false_iff_ne.mpr c6
   have c6b1 : (t224 != 0) = true:=bne_iff_ne.mpr c6
   (first|rw [c6b0]|(simp only [i64_w,i32_w];rw [c6b0])|skip)
   have H':=Aside0.mk H
   clear H
   have hcz11_0 : w4.cell? ⟨gb223,0,none⟩ = some (.int .i64 a0_0):=(blk_cell BK223.out 0).trans rfl
   have hcz11_1 : w4.cell? ⟨gb223,1,none⟩ = some (.slice A0_1 l0_1.length c0_1):=(blk_cell BK223.out 1).trans rfl
   have hfz11_0:=blk_frozen BK223.out 0
   have hfz11_1:=blk_frozen BK223.out 1
   go_wp2_with (first|((with_reducible refine gate_callee (f:=23) rfl ?_);refine goesL_ (some 9) rfl rfl Try.func23 (by kernel_rfl) rfl #[.agg #[.int .i64 a0_0,.slice A0_1 l0_1.length c0_1]] rfl (by (try simp only [List.map_toArray,List.map_cons,List.map_nil]);first|done|rfl|(simp only [List.length_drop,List.length_take];rfl)) ?_;(with_reducible refine (spec_LayoutOk.calls k a0_0 _ _ l0_1 t224 _ ?side1 ?side2 A5.out).mono ?_);(case side1=>repeat (first|exact (Kd.C_below HR0_1.out HB.out)|(with_reducible refine Kd.C_alloc ?_ _)|(with_reducible refine Kd.C_drewN ?_ _)|(with_reducible refine Kd.C_drew ?_)));(case side2=>exact HC0_1.out);rintro e w12 ⟨rfl,hb⟩;refine ⟨_,rfl,?_⟩;have n0_:=Aside0.mk (blk_below (g:=gb223) (o:=.cells #[.int .i64 a0_0,.slice A0_1 l0_1.length c0_1] 30 (0,0)) (by (with_reducible repeat (first|refine blk_drewN ?_ _|refine blk_drew ?_|refine blk_alloc ?_ _));exact BK223.out) hb);have n1_:=Aside0.mk (below_step (by repeat (first|(with_reducible first|exact HB.out|apply below_alloc|apply pw_below_drewN|apply below_drew1|refine below_set ?_ GE223.out)|exact HB.out)) hb);clear BK223;clear HB;have BK223:=n0_;have HB:=n1_;clear n0_ n1_;(try clear hb);(try clear hb2);(try clear hk);(try clear hi)))
   go_meet
   case rel=>exact ⟨_,(true),(by first|rfl|(simp;done)|(simp [*];done)),H',⟨by first|omega|exact Nat.le_refl _⟩,⟨by (with_reducible repeat (first|refine blk_drewN ?_ _|refine blk_drew ?_|refine blk_alloc ?_ _));exact BK223.out⟩,⟨by repeat (first|(with_reducible first|exact HB.out|apply below_alloc|apply pw_below_drewN|apply below_drew1|refine below_set ?_ GE223.out)|exact HB.out)⟩⟩
 case rest =>
  clear HC3
  try clear c2
  try clear p2
  try clear c3
  try clear c6
  try clear c6b0
  try clear c6b1
  try clear p6
  try clear hcz10_0
  try clear hcz10_1
  try clear hcz11_0
  try clear hcz11_1
  try clear hcz8_0
  try clear hcz8_1
  try clear hfz10_0
  try clear hfz10_1
  try clear hfz11_0
  try clear hfz11_1
  try clear hfz8_0
  try clear hfz8_1
  obtain ⟨kq,x18_2,rfl,HA,HJ2,BK223,HB⟩:=hcut
  cases kq with
  | zero=>exact absurd HA.out (by simp [spec_Around.j0])
  | succ kj2 =>
   have H:=HA.out
   clear HA
   simp only [spec_Around.j0] at H
   by_cases c13 : x18_2 = true
   ·subst c13
    have H1 : (some ([] : List Int)) = some r:=by rw [if_pos rfl] at H;exact H
    clear H
    have H:=H1
    clear H1
    obtain rfl:=Option.some.inj H
    go_wp2
    go_ret
    exact ⟨_,by first|rfl|(simp [errW_none,errW_some] <;> rfl)|(simp [*,errW_none,errW_some] <;> rfl),by first|exact Kd.R_nil _ _ _ _ _|exact Kd.N_nil _ _ _ _ _|exact Kd.V_nil _ _ _ _ _|exact Kd.Q_nil _ _ _ _ _|exact Kd.S_nil _ _ _ _ _,by repeat (first|(with_reducible first|exact HB.out|apply below_alloc|apply pw_below_drewN|apply below_drew1|refine below_set ?_ GE223.out)|exact HB.out)⟩
   ·replace c13:=Bool.eq_false_iff.mpr c13
    subst c13
    have H1 : (spec_Around.l0 kj2 a1 ([] : List Int) l0_1 (l0_1.length : Int) 0) = some r:=by rw [if_neg (show ¬ (false = true) by decide)] at H;exact H
    clear H
    have H:=H1
    clear H1
    have H':=Aside0.mk H
    clear H
    have hcz14_0 : wc.cell? ⟨gb223,0,none⟩ = some (.int .i64 a0_0):=(blk_cell BK223.out 0).trans rfl
    have hcz14_1 : wc.cell? ⟨gb223,1,none⟩ = some (.slice A0_1 l0_1.length c0_1):=(blk_cell BK223.out 1).trans rfl
    have hfz14_0:=blk_frozen BK223.out 0
    have hfz14_1:=blk_frozen BK223.out 1
    go_wp2
    go_loopg [5,22] kj2 (fun kq v5 v22 w'=>∃ (x5_2 : List Int) (x22_2 : Int),v22 = .int .i64 x22_2∧Aside0 (spec_Around.l0 kq a1 x5_2 l0_1 (l0_1.length : Int) x22_2 = some r)∧Aside0 (kq ≤ kj2)∧Aside0 (Kd.R (Kd.int .i64) 3 w' w.heap.size (fun _=>True) v5 x5_2)∧Aside0 (w'.heap[gb223]? = some (.cells #[.int .i64 a0_0,(.slice A0_1 l0_1.length c0_1)] 30 (0,0)))∧Aside0 (Below w.heap.size w w'))
    case atStart=>exact ⟨(([] : List Int)),(0),(by first|rfl|(simp;done)|(simp [*];done)),H',⟨Nat.le_refl _⟩,⟨by first|exact Kd.R_nil _ _ _ _ _|exact Kd.N_nil _ _ _ _ _|exact Kd.V_nil _ _ _ _ _|exact Kd.Q_nil _ _ _ _ _|exact Kd.S_nil _ _ _ _ _⟩,⟨by (with_reducible repeat (first|refine blk_drewN ?_ _|refine blk_drew ?_|refine blk_alloc ?_ _));exact BK223.out⟩,⟨by repeat (first|(with_reducible first|exact HB.out|apply below_alloc|apply pw_below_drewN|apply below_drew1|refine below_set ?_ GE223.out)|exact HB.out)⟩⟩
    case round =>
     clear H'
     try clear c1
     try clear c2
     try clear p2
     try clear c3
     try clear c6
     try clear c6b0
     try clear c6b1
     try clear p6
     try clear c13
     try clear hcz10_0
     try clear hcz10_1
     try clear hcz11_0
     try clear hcz11_1
     try clear hcz14_0
     try clear hcz14_1
     try clear hcz8_0
     try clear hcz8_1
     try clear hfz10_0
     try clear hfz10_1
     try clear hfz11_0
     try clear hfz11_1
     try clear hfz14_0
     try clear hfz14_1
     try clear hfz8_0
     try clear hfz8_1
     try clear p2
     try clear p6
     obtain ⟨x5_2,x22_2,rfl,HA,HK2,HO_5,BK223,HB⟩:=hrel
     cases gk with
     | zero=>exact absurd HA.out (by simp [spec_Around.l0])
     | succ k2 =>
      have H:=HA.out
      clear HA
      simp only [spec_Around.l0] at H
      by_cases c15 : x22_2 < (l0_1.length : Int)
      ·rw [if_pos c15] at H
       have c15b0 : decide (x22_2 < (l0_1.length : Int)) = true:=decide_eq_true c15
       clear c15
       by_cases c16 : 0 ≤ x22_2
       ·rw [if_pos c16] at H
        have c16b0 : decide (0 ≤ x22_2) = true:=decide_eq_true c16
        clear c16
        by_cases c17 : x22_2 < (l0_1.length : Int)
        ·rw [if_pos c17] at H
         have c17b0 : decide (x22_2 < (l0_1.length : Int)) = true:=decide_eq_true c17
         clear c17
         by_cases c18 : ((rd_T88 l0_1 x22_2).f0) = a1
         ·rw [if_pos c18] at H
          have c18b0 : (((rd_T88 l0_1 x22_2).f0) == a1) = true:=beq_iff_eq.mpr c18
          have c18b1 : (((rd_T88 l0_1 x22_2).f0) != a1) = false:=bne_eq_false_iff_eq.mpr c18
          clear c18
          by_cases c19 : x5_2.length < 17592186044416
          ·rw [if_pos c19] at H
           have LMc19:=Aside0.mk c19
           clear c19
           obtain ⟨y228,hy228⟩ : ∃ y_ : List Int,y_ = (x5_2 ++ [x22_2]):=⟨_,rfl⟩
           replace H : (spec_Around.l0 k2 a1 y228 l0_1 (l0_1.length : Int) (wrap64 (x22_2 + 1))) = some r:=by first|(rw [hy228];with_reducible exact H)|(have H2_:=(Option.bind_some _ _).symm.trans H;rw [hy228];with_reducible exact H2_)|(have H2_:=(Option.bind_some _ _).symm.trans H;with_reducible exact H2_)|with_reducible exact H|(rw [hy228];exact H)|exact H
           have Ny228:=Aside0.mk hy228
           clear hy228
           have H':=Aside0.mk H
           clear H
           have p226 : 0 ≤ (x22_2 : Int):=of_decide_eq_true (by first|(with_reducible assumption)|assumption)
           have q226 : x22_2 < (l0_1.length : Int):=of_decide_eq_true (by first|(with_reducible assumption)|assumption)
           obtain ⟨ad226,e226,hx226_0,hx226_1⟩:=at_T88 HR0_1.out x22_2 p226 q226
           cases e226
           replace hx226_0:=(HB.out.cell (World.block_lt_of_cell? w _ hx226_0)).trans hx226_0
           replace hx226_1:=(HB.out.cell (World.block_lt_of_cell? w _ hx226_1)).trans hx226_1
           replace p226:=eq_true p226
           replace q226:=eq_true q226
           go_wp2_with (first|((with_reducible refine gate_dst (N:=7) rfl ?_);refine box_event ?hg (N:=7) ?hd (cs:=#[.int .i64 0,.int .i64 0]) (t:=88) ?hr ?_;(case hd=>rfl);(case hg=>rfl);(case hr=>first|(go_simp;done)|(go_simp;rfl));intro gb227 hg w20 hbox hb;have n0_:=Aside0.mk (Kd.R_below (by (with_reducible repeat (first|apply Kd.R_alloc|apply Kd.R_drewN|apply Kd.R_drew));exact HO_5.out) hb);have n1_:=Aside0.mk (blk_below (g:=gb223) (o:=.cells #[.int .i64 a0_0,.slice (some ad226) l0_1.length c0_1] 30 (0,0)) (by (with_reducible repeat (first|refine blk_drewN ?_ _|refine blk_drew ?_|refine blk_alloc ?_ _));exact BK223.out) hb);have n2_:=Aside0.mk (below_step (by repeat (first|(with_reducible first|exact HB.out|apply below_alloc|apply pw_below_drewN|apply below_drew1|refine below_set ?_ GE223.out)|exact HB.out)) hb);have n3_:=Aside0.mk (hbox);have n4_:=Aside0.mk ((by rw [hg];exact (below_size (by repeat (first|(with_reducible first|exact HB.out|apply below_alloc|apply pw_below_drewN|apply below_drew1|refine below_set ?_ GE223.out)|exact HB.out))) : w.heap.size ≤ gb227));have n5_:=Aside0.mk ((by rw [hg];exact (below_size (by repeat (first|(with_reducible first|exact HB.out|apply below_alloc|apply pw_below_drewN|apply below_drew1|refine below_set ?_ GE223.out)|exact HB.out))) : w.heap.size ≤ gb227));have n6_:=Aside0.mk ((by rw [hg];exact Nat.ne_of_lt (blk_lt (g:=gb223) (o:=.cells #[.int .i64 a0_0,.slice (some ad226) l0_1.length c0_1] 30 (0,0)) (by (with_reducible repeat (first|refine blk_drewN ?_ _|refine blk_drew ?_|refine blk_alloc ?_ _));exact BK223.out)) : gb223 ≠ gb227));have n7_:=Aside0.mk ((by rw [hg];exact Nat.ne_of_gt (blk_lt (g:=gb223) (o:=.cells #[.int .i64 a0_0,.slice (some ad226) l0_1.length c0_1] 30 (0,0)) (by (with_reducible repeat (first|refine blk_drewN ?_ _|refine blk_drew ?_|refine blk_alloc ?_ _));exact BK223.out)) : gb227 ≠ gb223));clear HO_5;clear BK223;clear HB;have HO_5:=n0_;have BK223:=n1_;have HB:=n2_;have BK227:=n3_;have GW227:=n4_;have GE227:=n5_;have NB223_227:=n6_;have NB227_223:=n7_;clear n0_ n1_ n2_ n3_ n4_ n5_ n6_ n7_;clear hb hbox hg;have hnb21:=NB227_223.out;have hnc21:=NB223_227.out;have hcz22_0 : w20.cell? ⟨gb227,0,none⟩ = some (.int .i64 0):=(blk_cell BK227.out 0).trans rfl;have hcz22_1 : w20.cell? ⟨gb227,1,none⟩ = some (.int .i64 0):=(blk_cell BK227.out 1).trans rfl;have hfz22_0:=blk_frozen BK227.out 0;have hfz22_1:=blk_frozen BK227.out 1)|((with_reducible refine gate_builtin (b:=.append) (xs:=#[.tmp 37,.tmp 39]) rfl ?_);at_builtin;refine Kd.R_append (Kd.int .i64) (w0:=w) w.heap.size rfl (.tmp 37) (.tmp 39) 59 3 (.int .i64 0) 8 rfl Try.underlying59 info3 rfl (by decide) (by omega) u5 x5_2 x22_2 [.int .i64 x22_2] (fun _=>True) (fun _=>False) rfl (by first|(go_simp;done)|(go_simp;rfl)) ?aP (fun _ hk=>hk.elim) ?aF ?aO ?aB ?aS ?aL ?_;(case aP=>exact rfl);(case aB=>exact (by repeat (first|(with_reducible first|exact HB.out|apply below_alloc|apply pw_below_drewN|apply below_drew1|refine below_set ?_ GE223.out|refine below_set ?_ GE227.out)|exact HB.out)));(case aF=>exact (fun _ _=>trivial));(case aO=>exact (by (with_reducible repeat (first|apply Kd.R_alloc|apply Kd.R_drewN|apply Kd.R_drew));exact Kd.R_mono (Kd.R_far (p:=⟨gb227,1,none⟩) (Kd.R_far (p:=⟨gb227,0,none⟩) (Kd.R_types HO_5.out BK227.out (by decide)) (fun _ hk=>hk.2) (.int .i64 ((rd_T88 l0_1 x22_2).f0))) (fun _ hk=>hk.2) (.int .i64 ((rd_T88 l0_1 x22_2).f1))) (fun _ hk=>trivial)));(case aS=>exact (below_size (by repeat (first|(with_reducible first|exact HB.out|apply below_alloc|apply pw_below_drewN|apply below_drew1|refine below_set ?_ GE223.out|refine below_set ?_ GE227.out)|exact HB.out))));(case aL=>have:=LMc19.out;omega);intro v229 w23 ho hb hg hat;rw [← Ny228.out] at ho;have n0_:=Aside0.mk (blk_grown (g:=gb223) (o:=.cells #[.int .i64 a0_0,.slice (some ad226) l0_1.length c0_1] 30 (0,0)) (by (with_reducible repeat (first|refine blk_drewN ?_ _|refine blk_drew ?_|refine blk_alloc ?_ _));refine blk_far ?_ NB223_227.out _;(with_reducible repeat (first|refine blk_drewN ?_ _|refine blk_drew ?_|refine blk_alloc ?_ _));refine blk_far ?_ NB223_227.out _;(with_reducible repeat (first|refine blk_drewN ?_ _|refine blk_drew ?_|refine blk_alloc ?_ _));exact BK223.out) hg (Kd.R_ne HO_5.out BK223.out (by decide)));have n1_:=Aside0.mk (blk_grown (g:=gb227) (o:=.cells #[.int .i64 ((rd_T88 l0_1 x22_2).f0),.int .i64 ((rd_T88 l0_1 x22_2).f1)] 88 (0,0)) (by (with_reducible repeat (first|refine blk_drewN ?_ _|refine blk_drew ?_|refine blk_alloc ?_ _));refine blk_put (cs:=#[.int .i64 ((rd_T88 l0_1 x22_2).f0),.int .i64 0]) ?_ 1 _ rfl;(with_reducible repeat (first|refine blk_drewN ?_ _|refine blk_drew ?_|refine blk_alloc ?_ _));refine blk_put (cs:=#[.int .i64 0,.int .i64 0]) ?_ 0 _ rfl;(with_reducible repeat (first|refine blk_drewN ?_ _|refine blk_drew ?_|refine blk_alloc ?_ _));exact BK227.out) hg (Kd.R_ne HO_5.out BK227.out (by decide)));have n2_:=Aside0.mk (hb);have n3_:=Aside0.mk (ho);clear BK223;clear BK227;clear HB;clear HO_5;have BK223:=n0_;have BK227:=n1_;have HB:=n2_;have HO230:=n3_;clear n0_ n1_ n2_ n3_;clear ho hb hg hat))
           go_roundg k2
           case measure=>have:=HJ2.out;have:=HK2.out;omega
           case rel=>exact ⟨(y228),(wrap64 (x22_2 + 1)),(by first|rfl|(simp;done)|(simp [*];done)),H',⟨by have:=HJ2.out;have:=HK2.out;omega⟩,⟨by (with_reducible repeat (first|apply Kd.R_alloc|apply Kd.R_drewN|apply Kd.R_drew));exact HO230.out⟩,⟨by (with_reducible repeat (first|refine blk_drewN ?_ _|refine blk_drew ?_|refine blk_alloc ?_ _));exact BK223.out⟩,⟨by repeat (first|(with_reducible first|exact HB.out|apply below_alloc|apply pw_below_drewN|apply below_drew1|refine below_set ?_ GE223.out|refine below_set ?_ GE227.out)|exact HB.out)⟩⟩
          ·rw [if_neg c19] at H
           exact absurd H (by simp)
         ·rw [if_neg c18] at H
          have c18b0 : (((rd_T88 l0_1 x22_2).f0) == a1) = false:=beq_eq_false_iff_ne.mpr c18
          have c18b1 : (((rd_T88 l0_1 x22_2).f0) != a1) = true:=bne_iff_ne.mpr c18
          by_cases c24 : ((rd_T88 l0_1 x22_2).f1) = a1
          ·rw [if_pos c24] at H
           have c24b0 : (((rd_T88 l0_1 x22_2).f1) == a1) = true:=beq_iff_eq.mpr c24
           have c24b1 : (((rd_T88 l0_1 x22_2).f1) != a1) = false:=bne_eq_false_iff_eq.mpr c24
           clear c24
           by_cases c25 : x5_2.length < 17592186044416
           ·rw [if_pos c25] at H
            have LMc25:=Aside0.mk c25
            clear c25
            obtain ⟨y231,hy231⟩ : ∃ y_ : List Int,y_ = (x5_2 ++ [x22_2]):=⟨_,rfl⟩
            replace H : (spec_Around.l0 k2 a1 y231 l0_1 (l0_1.length : Int) (wrap64 (x22_2 + 1))) = some r:=by first|(rw [hy231];with_reducible exact H)|(have H2_:=(Option.bind_some _ _).symm.trans H;rw [hy231];with_reducible exact H2_)|(have H2_:=(Option.bind_some _ _).symm.trans H;with_reducible exact H2_)|with_reducible exact H|(rw [hy231];exact H)|exact H
            have Ny231:=Aside0.mk hy231
            clear hy231
            have H':=Aside0.mk H
            clear H
            have p226 : 0 ≤ (x22_2 : Int):=of_decide_eq_true (by first|(with_reducible assumption)|assumption)
            have q226 : x22_2 < (l0_1.length : Int):=of_decide_eq_true (by first|(with_reducible assumption)|assumption)
            obtain ⟨ad226,e226,hx226_0,hx226_1⟩:=at_T88 HR0_1.out x22_2 p226 q226
            cases e226
            replace hx226_0:=(HB.out.cell (World.block_lt_of_cell? w _ hx226_0)).trans hx226_0
            replace hx226_1:=(HB.out.cell (World.block_lt_of_cell? w _ hx226_1)).trans hx226_1
            replace p226:=eq_true p226
            replace q226:=eq_true q226
            go_wp2_with (first|((with_reducible refine gate_dst (N:=7) rfl ?_);refine box_event ?hg (N:=7) ?hd (cs:=#[.int .i64 0,.int .i64 0]) (t:=88) ?hr ?_;(case hd=>rfl);(case hg=>rfl);(case hr=>first|(go_simp;done)|(go_simp;rfl));intro gb227 hg w26 hbox hb;have n0_:=Aside0.mk (Kd.R_below (by (with_reducible repeat (first|apply Kd.R_alloc|apply Kd.R_drewN|apply Kd.R_drew));exact HO_5.out) hb);have n1_:=Aside0.mk (blk_below (g:=gb223) (o:=.cells #[.int .i64 a0_0,.slice (some ad226) l0_1.length c0_1] 30 (0,0)) (by (with_reducible repeat (first|refine blk_drewN ?_ _|refine blk_drew ?_|refine blk_alloc ?_ _));exact BK223.out) hb);have n2_:=Aside0.mk (below_step (by repeat (first|(with_reducible first|exact HB.out|apply below_alloc|apply pw_below_drewN|apply below_drew1|refine below_set ?_ GE223.out)|exact HB.out)) hb);have n3_:=Aside0.mk (hbox);have n4_:=Aside0.mk ((by rw [hg];exact (below_size (by repeat (first|(with_reducible first|exact HB.out|apply below_alloc|apply pw_below_drewN|apply below_drew1|refine below_set ?_ GE223.out)|exact HB.out))) : w.heap.size ≤ gb227));have n5_:=Aside0.mk ((by rw [hg];exact (below_size (by repeat (first|(with_reducible first|exact HB.out|apply below_alloc|apply pw_below_drewN|apply below_drew1|refine below_set ?_ GE223.out)|exact HB.out))) : w.heap.size ≤ gb227));have n6_:=Aside0.mk ((by rw [hg];exact Nat.ne_of_lt (blk_lt (g:=gb223) (o:=.cells #[.int .i64 a0_0,.slice (some ad226) l0_1.length c0_1] 30 (0,0)) (by (with_reducible repeat (first|refine blk_drewN ?_ _|refine blk_drew ?_|refine blk_alloc ?_ _));exact BK223.out)) : gb223 ≠ gb227));have n7_:=Aside0.mk ((by rw [hg];exact Nat.ne_of_gt (blk_lt (g:=gb223) (o:=.cells #[.int .i64 a0_0,.slice (some ad226) l0_1.length c0_1] 30 (0,0)) (by (with_reducible repeat (first|refine blk_drewN ?_ _|refine blk_drew ?_|refine blk_alloc ?_ _));exact BK223.out)) : gb227 ≠ gb223));clear HO_5;clear BK223;clear HB;have HO_5:=n0_;have BK223:=n1_;have HB:=n2_;have BK227:=n3_;have GW227:=n4_;have GE227:=n5_;have NB223_227:=n6_;have NB227_223:=n7_;clear n0_ n1_ n2_ n3_ n4_ n5_ n6_ n7_;clear hb hbox hg;have hnb27:=NB227_223.out;have hnc27:=NB223_227.out;have hcz28_0 : w26.cell? ⟨gb227,0,none⟩ = some (.int .i64 0):=(blk_cell BK227.out 0).trans rfl;have hcz28_1 : w26.cell? ⟨gb227,1,none⟩ = some (.int .i64 0):=(blk_cell BK227.out 1).trans rfl;have hfz28_0:=blk_frozen BK227.out 0;have hfz28_1:=blk_frozen BK227.out 1)|((with_reducible refine gate_builtin (b:=.append) (xs:=#[.tmp 37,.tmp 39]) rfl ?_);at_builtin;refine Kd.R_append (Kd.int .i64) (w0:=w) w.heap.size rfl (.tmp 37) (.tmp 39) 59 3 (.int .i64 0) 8 rfl Try.underlying59 info3 rfl (by decide) (by omega) u5 x5_2 x22_2 [.int .i64 x22_2] (fun _=>True) (fun _=>False) rfl (by first|(go_simp;done)|(go_simp;rfl)) ?aP (fun _ hk=>hk.elim) ?aF ?aO ?aB ?aS ?aL ?_;(case aP=>exact rfl);(case aB=>exact (by repeat (first|(with_reducible first|exact HB.out|apply below_alloc|apply pw_below_drewN|apply below_drew1|refine below_set ?_ GE223.out|refine below_set ?_ GE227.out)|exact HB.out)));(case aF=>exact (fun _ _=>trivial));(case aO=>exact (by (with_reducible repeat (first|apply Kd.R_alloc|apply Kd.R_drewN|apply Kd.R_drew));exact Kd.R_mono (Kd.R_far (p:=⟨gb227,1,none⟩) (Kd.R_far (p:=⟨gb227,0,none⟩) (Kd.R_types HO_5.out BK227.out (by decide)) (fun _ hk=>hk.2) (.int .i64 ((rd_T88 l0_1 x22_2).f0))) (fun _ hk=>hk.2) (.int .i64 ((rd_T88 l0_1 x22_2).f1))) (fun _ hk=>trivial)));(case aS=>exact (below_size (by repeat (first|(with_reducible first|exact HB.out|apply below_alloc|apply pw_below_drewN|apply below_drew1|refine below_set ?_ GE223.out|refine below_set ?_ GE227.out)|exact HB.out))));(case aL=>have:=LMc25.out;omega);intro v232 w29 ho hb hg hat;rw [← Ny231.out] at ho;have n0_:=Aside0.mk (blk_grown (g:=gb223) (o:=.cells #[.int .i64 a0_0,.slice (some ad226) l0_1.length c0_1] 30 (0,0)) (by (with_reducible repeat (first|refine blk_drewN ?_ _|refine blk_drew ?_|refine blk_alloc ?_ _));refine blk_far ?_ NB223_227.out _;(with_reducible repeat (first|refine blk_drewN ?_ _|refine blk_drew ?_|refine blk_alloc ?_ _));refine blk_far ?_ NB223_227.out _;(with_reducible repeat (first|refine blk_drewN ?_ _|refine blk_drew ?_|refine blk_alloc ?_ _));exact BK223.out) hg (Kd.R_ne HO_5.out BK223.out (by decide)));have n1_:=Aside0.mk (blk_grown (g:=gb227) (o:=.cells #[.int .i64 ((rd_T88 l0_1 x22_2).f0),.int .i64 ((rd_T88 l0_1 x22_2).f1)] 88 (0,0)) (by (with_reducible repeat (first|refine blk_drewN ?_ _|refine blk_drew ?_|refine blk_alloc ?_ _));refine blk_put (cs:=#[.int .i64 ((rd_T88 l0_1 x22_2).f0),.int .i64 0]) ?_ 1 _ rfl;(with_reducible repeat (first|refine blk_drewN ?_ _|refine blk_drew ?_|refine blk_alloc ?_ _));refine blk_put (cs:=#[.int .i64 0,.int .i64 0]) ?_ 0 _ rfl;(with_reducible repeat (first|refine blk_drewN ?_ _|refine blk_drew ?_|refine blk_alloc ?_ _));exact BK227.out) hg (Kd.R_ne HO_5.out BK227.out (by decide)));have n2_:=Aside0.mk (hb);have n3_:=Aside0.mk (ho);clear BK223;clear BK227;clear HB;clear HO_5;have BK223:=n0_;have BK227:=n1_;have HB:=n2_;have HO233:=n3_;clear n0_ n1_ n2_ n3_;clear ho hb hg hat))
            go_roundg k2
            case measure=>have:=HJ2.out;have:=HK2.out;omega
            case rel=>exact ⟨(y231),(wrap64 (x22_2 + 1)),(by first|rfl|(simp;done)|(simp [*];done)),H',⟨by have:=HJ2.out;have:=HK2.out;omega⟩,⟨by (with_reducible repeat (first|apply Kd.R_alloc|apply Kd.R_drewN|apply Kd.R_drew));exact HO233.out⟩,⟨by (with_reducible repeat (first|refine blk_drewN ?_ _|refine blk_drew ?_|refine blk_alloc ?_ _));exact BK223.out⟩,⟨by repeat (first|(with_reducible first|exact HB.out|apply below_alloc|apply pw_below_drewN|apply below_drew1|refine below_set ?_ GE223.out|refine below_set ?_ GE227.out)|exact HB.out)⟩⟩
           ·rw [if_neg c25] at H
            exact absurd H (by simp)
          ·rw [if_neg c24] at H
           have c24b0 : (((rd_T88 l0_1 x22_2).f1) == a1) = false:=beq_eq_false_iff_ne.mpr c24
           have c24b1 : (((rd_T88 l0_1 x22_2).f1) != a1) = true:=bne_iff_ne.mpr c24
           have H':=Aside0.mk H
           clear H
           have p226 : 0 ≤ (x22_2 : Int):=of_decide_eq_true (by first|(with_reducible assumption)|assumption)
           have q226 : x22_2 < (l0_1.length : Int):=of_decide_eq_true (by first|(with_reducible assumption)|assumption)
           obtain ⟨ad226,e226,hx226_0,hx226_1⟩:=at_T88 HR0_1.out x22_2 p226 q226
           cases e226
           replace hx226_0:=(HB.out.cell (World.block_lt_of_cell? w _ hx226_0)).trans hx226_0
           replace hx226_1:=(HB.out.cell (World.block_lt_of_cell? w _ hx226_1)).trans hx226_1
           replace p226:=eq_true p226
           replace q226:=eq_true q226
           go_wp2_with (first|((with_reducible refine gate_dst (N:=7) rfl ?_);refine box_event ?hg (N:=7) ?hd (cs:=#[.int .i64 0,.int .i64 0]) (t:=88) ?hr ?_;(case hd=>rfl);(case hg=>rfl);(case hr=>first|(go_simp;done)|(go_simp;rfl));intro gb227 hg w30 hbox hb;have n0_:=Aside0.mk (Kd.R_below (by (with_reducible repeat (first|apply Kd.R_alloc|apply Kd.R_drewN|apply Kd.R_drew));exact HO_5.out) hb);have n1_:=Aside0.mk (blk_below (g:=gb223) (o:=.cells #[.int .i64 a0_0,.slice (some ad226) l0_1.length c0_1] 30 (0,0)) (by (with_reducible repeat (first|refine blk_drewN ?_ _|refine blk_drew ?_|refine blk_alloc ?_ _));exact BK223.out) hb);have n2_:=Aside0.mk (below_step (by repeat (first|(with_reducible first|exact HB.out|apply below_alloc|apply pw_below_drewN|apply below_drew1|refine below_set ?_ GE223.out)|exact HB.out)) hb);have n3_:=Aside0.mk (hbox);have n4_:=Aside0.mk ((by rw [hg];exact (below_size (by repeat (first|(with_reducible first|exact HB.out|apply below_alloc|apply pw_below_drewN|apply below_drew1|refine below_set ?_ GE223.out)|exact HB.out))) : w.heap.size ≤ gb227));have n5_:=Aside0.mk ((by rw [hg];exact (below_size (by repeat (first|(with_reducible first|exact HB.out|apply below_alloc|apply pw_below_drewN|apply below_drew1|refine below_set ?_ GE223.out)|exact HB.out))) : w.heap.size ≤ gb227));have n6_:=Aside0.mk ((by rw [hg];exact Nat.ne_of_lt (blk_lt (g:=gb223) (o:=.cells #[.int .i64 a0_0,.slice (some ad226) l0_1.length c0_1] 30 (0,0)) (by (with_reducible repeat (first|refine blk_drewN ?_ _|refine blk_drew ?_|refine blk_alloc ?_ _));exact BK223.out)) : gb223 ≠ gb227));have n7_:=Aside0.mk ((by rw [hg];exact Nat.ne_of_gt (blk_lt (g:=gb223) (o:=.cells #[.int .i64 a0_0,.slice (some ad226) l0_1.length c0_1] 30 (0,0)) (by (with_reducible repeat (first|refine blk_drewN ?_ _|refine blk_drew ?_|refine blk_alloc ?_ _));exact BK223.out)) : gb227 ≠ gb223));clear HO_5;clear BK223;clear HB;have HO_5:=n0_;have BK223:=n1_;have HB:=n2_;have BK227:=n3_;have GW227:=n4_;have GE227:=n5_;have NB223_227:=n6_;have NB227_223:=n7_;clear n0_ n1_ n2_ n3_ n4_ n5_ n6_ n7_;clear hb hbox hg;have hnb31:=NB227_223.out;have hnc31:=NB223_227.out;have hcz32_0 : w30.cell? ⟨gb227,0,none⟩ = some (.int .i64 0):=(blk_cell BK227.out 0).trans rfl;have hcz32_1 : w30.cell? ⟨gb227,1,none⟩ = some (.int .i64 0):=(blk_cell BK227.out 1).trans rfl;have hfz32_0:=blk_frozen BK227.out 0;have hfz32_1:=blk_frozen BK227.out 1))
           go_roundg k2
           case measure=>have:=HJ2.out;have:=HK2.out;omega
           case rel=>exact ⟨(x5_2),(wrap64 (x22_2 + 1)),(by first|rfl|(simp;done)|(simp [*];done)),H',⟨by have:=HJ2.out;have:=HK2.out;omega⟩,⟨by (with_reducible repeat (first|apply Kd.R_alloc|apply Kd.R_drewN|apply Kd.R_drew));exact Kd.R_mono (Kd.R_far (p:=⟨gb227,1,none⟩) (Kd.R_far (p:=⟨gb227,0,none⟩) (Kd.R_types HO_5.out BK227.out (by decide)) (fun _ hk=>hk.2) (.int .i64 ((rd_T88 l0_1 x22_2).f0))) (fun _ hk=>hk.2) (.int .i64 ((rd_T88 l0_1 x22_2).f1))) (fun _ hk=>trivial)⟩,⟨by (with_reducible repeat (first|refine blk_drewN ?_ _|refine blk_drew ?_|refine blk_alloc ?_ _));refine blk_far ?_ NB223_227.out _;(with_reducible repeat (first|refine blk_drewN ?_ _|refine blk_drew ?_|refine blk_alloc ?_ _));refine blk_far ?_ NB223_227.out _;(with_reducible repeat (first|refine blk_drewN ?_ _|refine blk_drew ?_|refine blk_alloc ?_ _));exact BK223.out⟩,⟨by repeat (first|(with_reducible first|exact HB.out|apply below_alloc|apply pw_below_drewN|apply below_drew1|refine below_set ?_ GE223.out|refine below_set ?_ GE227.out)|exact HB.out)⟩⟩
        ·rw [if_neg c17] at H
         exact absurd H (by simp)
       ·rw [if_neg c16] at H
        exact absurd H (by simp)
      ·rw [if_neg c15] at H
       have c15b0 : decide (x22_2 < (l0_1.length : Int)) = false:=decide_eq_false c15
       clear c15
       obtain rfl:=Option.some.inj H
       go_wp2
       go_ret
       exact ⟨_,by first|rfl|(simp [errW_none,errW_some] <;> rfl)|(simp [*,errW_none,errW_some] <;> rfl),by (with_reducible repeat (first|apply Kd.R_alloc|apply Kd.R_drewN|apply Kd.R_drew));exact HO_5.out,by repeat (first|(with_reducible first|exact HB.out|apply below_alloc|apply pw_below_drewN|apply below_drew1|refine below_set ?_ GE223.out)|exact HB.out)⟩
end Go.Proofs.Ytpdnabhpkdchjaa.P
namespace Go.Proofs.Ytpdnabhpkdchjaa.P
open Go.RowKit Go.Proofs.YtpdnabhpkdchjaaW.PrintWords Go.Proofs.YtpdnabhpkdchjaaW.PrintLast
set_option linter.unusedVariables false
set_option linter.unusedSimpArgs false
def hits (s : Int) (x : S88) : Bool := decide (x.f0 = s) || decide (x.f1 = s)
def hitsTo (l : List S88) (s : Int) (i : Nat) : List Int := ((List.range i).filter fun j : Nat => hits s (rd_T88 l (j : Int))).map Int.ofNat
def around (n : Int) (l : List S88) (s : Int) : List Int := if layoutOk n l = 0 ∧ 0 ≤ s ∧ s < n then hitsTo l s l.length else []
theorem hitsTo_succ (l : List S88) (s : Int) (i : Nat) : hitsTo l s (i + 1) = if hits s (rd_T88 l (i : Int)) = true then hitsTo l s i ++ [(i : Int)] else hitsTo l s i := by
  unfold hitsTo
  rw [List.range_succ, List.filter_append, List.map_append]
  by_cases h : hits s (rd_T88 l (i : Int)) = true
  · rw [if_pos h]; simp [List.filter, h]
  · rw [if_neg h]; simp [List.filter, h]
theorem hitsTo_length (l : List S88) (s : Int) (i : Nat) : (hitsTo l s i).length ≤ i := by
  unfold hitsTo
  rw [List.length_map]
  exact Nat.le_trans (List.length_filter_le _ _) (by simp)
theorem specAround_l0 (l : List S88) (s : Int) (hl : l.length ≤ 120) (d : Nat) : ∀ (i : Nat), i + d = l.length → Ev (fun k => spec_Around.l0 k s (hitsTo l s i) l (l.length : Int) i) (hitsTo l s l.length) := by
  induction d with
  | zero => intro i hi; refine Ev.step1 fun k => ?_; simp only [spec_Around.l0]; rw [if_neg (by omega), show i = l.length by omega]
  | succ d ih =>
    intro i hi
    have hlen := hitsTo_length l s i
    refine Ev.step (fun k => ?_) (ih (i + 1) (by omega))
    simp only [spec_Around.l0]
    rw [if_pos (by omega), if_pos (by omega), if_pos (by omega), wrap_succ (by omega), hitsTo_succ]
    by_cases h0 : (rd_T88 l (i : Int)).f0 = s
    · rw [if_pos h0, if_pos (by omega), if_pos (show hits s _ = true by simp [hits, h0])]
    · by_cases h1 : (rd_T88 l (i : Int)).f1 = s
      · rw [if_neg h0, if_pos h1, if_pos (by omega), if_pos (show hits s _ = true by simp [hits, h1])]
      · rw [if_neg h0, if_neg h1, if_neg (show ¬ (hits s _ = true) by simp [hits, h0, h1])]
theorem specAround_ev (n : Int) (l : List S88) (s : Int) : Ev (fun k => spec_Around.f k n l s) (around n l s) := by
  unfold spec_Around.f
  refine Ev.bind (specLayoutOk_ev n l) ?_
  by_cases hl : layoutOk n l = 0
  · obtain ⟨hn1, hn2, hc⟩ := lay_n hl
    refine Ev.ite_pos hl (Ev.call (l1in_eq _ _ _) ?_)
    rw [wrap_id (by omega) (by omega), dec_le_pred]
    by_cases hs : 0 ≤ s ∧ s < n
    · rw [around, if_pos ⟨hl, hs.1, hs.2⟩]
      refine Ev.step (fun k => ?_) (specAround_l0 l s hc l.length 0 (by omega))
      simp only [spec_Around.j0]
      rw [if_neg (by simp [hs.1, hs.2])]
      rfl
    · refine Ev.step1 fun k => ?_
      simp only [spec_Around.j0]
      rw [if_pos (by simp only [Bool.not_eq_true', Bool.and_eq_false_iff, decide_eq_false_iff_not]; omega), around, if_neg (fun h => hs h.2)]
  · refine Ev.ite_neg hl (Ev.step1 fun k => ?_)
    simp only [spec_Around.j0, if_true]
    rw [around, if_neg (fun h => hl h.1)]
end Go.Proofs.Ytpdnabhpkdchjaa.P
namespace Go.Proofs.Ytpdnabhpkdchjaa.P
open Go.RowKit Go.Proofs.YtpdnabhpkdchjaaW.PrintWords Go.Proofs.YtpdnabhpkdchjaaW.PrintLast Go.Proofs.YtpdnabhpkdchjaaW.PrintMore
attribute [local go_sem] max2_int min2_int max_two min_two max_three min_three max_four min_four
set_option linter.unusedVariables false
set_option linter.unusedSimpArgs false
def impl_dead.l0 : Nat → Int → List (S88) → Int → Int → Bool → List (S50) → List Bool → Option (Bool)
 | 0,_,_,_,_,_,_,_=>none
 | k + 1,x2,x10,x11,x12,x328000,x328001,x328002=>if x12 < x11 then (if 0 ≤ x12 then (if x12 < (x10.length : Int) then (if x12 < (x328002.length : Int) then (if rdOf false x328002 x12 = true then (if ((rd_T88 x10 x12).f0) = x2 then (some true) else (if ((rd_T88 x10 x12).f1) = x2 then (some true) else (impl_dead.l0 k x2 x10 x11 (wrap64 (x12 + 1)) x328000 x328001 x328002))) else (impl_dead.l0 k x2 x10 x11 (wrap64 (x12 + 1)) x328000 x328001 x328002)) else (none)) else (none)) else (none)) else (some false)
def impl_dead.f (k : Nat) (a0_0 : Int) (l0_1 : List (S88)) (a1_0 : Bool) (l1_1 : List (S50)) (l1_2 : List Bool) (a2 : Int) : Option (Bool):=impl_dead.l0 k a2 l0_1 (l0_1.length : Int) 0 a1_0 l1_1 l1_2
set_option maxHeartbeats 8000000 in
set_option maxRecDepth 100000 in
theorem impl_dead.calls (k : Nat) (a0_0 : Int) (A0_1 : Option Addr) (c0_1 : Nat) (l0_1 : List (S88)) (a1_0 : Bool) (A1_1 : Option Addr) (c1_1 : Nat) (l1_1 : List (S50)) (A1_2 : Option Addr) (c1_2 : Nat) (l1_2 : List Bool) (a2 : Int) (r : Bool) (w : World) (hr0_1 : Kd.C k88 w A0_1 l0_1.length l0_1) (hc0_1 : l0_1.length ≤ c0_1) (hr1_1 : Kd.C k50 w A1_1 l1_1.length l1_1) (hc1_1 : l1_1.length ≤ c1_1) (hr1_2 : Kd.C Kd.bool w A1_2 l1_2.length l1_2) (hc1_2 : l1_2.length ≤ c1_2) (h : impl_dead.f k a0_0 l0_1 a1_0 l1_1 l1_2 a2 = some r) :
  Calls Try.prog 98 #[.agg #[.int .i64 a0_0,.slice A0_1 l0_1.length c0_1],.agg #[.bool a1_0,.slice A1_1 l1_1.length c1_1,.slice A1_2 l1_2.length c1_2],.int .i64 a2] w fun e w'=>e = .returned (.bool r)∧Below w.heap.size w w':=by
 have hu30:=Try.underlying30
 have hu46:=Try.underlying46
 have hu88:=Try.underlying88
 have HR0_1:=Aside0.mk hr0_1
 have HC0_1:=Aside0.mk hc0_1
 clear hr0_1 hc0_1
 have HR1_1:=Aside0.mk hr1_1
 have HC1_1:=Aside0.mk hc1_1
 clear hr1_1 hc1_1
 have HR1_2:=Aside0.mk hr1_2
 have HC1_2:=Aside0.mk hc1_2
 clear hr1_2 hc1_2
 have HB:=Aside0.mk (Below.refl w.heap.size w)
 have H : (impl_dead.l0 k a2 l0_1 (l0_1.length : Int) 0 a1_0 l1_1 l1_2) = some r:=h
 clear h
 have H':=Aside0.mk H
 clear H
 go_enter Try.func98,Try.ntmps98
 go_wp2_with (first|((with_reducible refine gate_dst (N:=3) rfl ?_);refine box_event ?hg (N:=3) ?hd (cs:=#[.int .i64 a0_0,.slice A0_1 l0_1.length c0_1]) (t:=30) ?hr ?_;(case hd=>rfl);(case hg=>rfl);(case hr=>first|(go_simp;done)|(go_simp;rfl));intro gb326 hg w4 hbox hb;have n0_:=Aside0.mk (below_step (by repeat (first|(with_reducible first|exact HB.out|apply below_alloc|apply pw_below_drewN|apply below_drew1)|exact HB.out)) hb);have n1_:=Aside0.mk (hbox);have n2_:=Aside0.mk ((by rw [hg];exact (below_size (by repeat (first|(with_reducible first|exact HB.out|apply below_alloc|apply pw_below_drewN|apply below_drew1)|exact HB.out))) : w.heap.size ≤ gb326));have n3_:=Aside0.mk ((by rw [hg];exact (below_size (by repeat (first|(with_reducible first|exact HB.out|apply below_alloc|apply pw_below_drewN|apply below_drew1)|exact HB.out))) : w.heap.size ≤ gb326));clear HB;have HB:=n0_;have BK326:=n1_;have GW326:=n2_;have GE326:=n3_;clear n0_ n1_ n2_ n3_;clear hb hbox hg)|((with_reducible refine gate_dst (N:=4) rfl ?_);refine box_event ?hg (N:=4) ?hd (cs:=#[.bool a1_0,.slice A1_1 l1_1.length c1_1,.slice A1_2 l1_2.length c1_2]) (t:=46) ?hr ?_;(case hd=>rfl);(case hg=>rfl);(case hr=>first|(go_simp;done)|(go_simp;rfl));intro gb327 hg w5 hbox hb;have n0_:=Aside0.mk (blk_below (g:=gb326) (o:=.cells #[.int .i64 a0_0,.slice A0_1 l0_1.length c0_1] 30 (0,0)) (by (with_reducible repeat (first|refine blk_drewN ?_ _|refine blk_drew ?_|refine blk_alloc ?_ _));exact BK326.out) hb);have n1_:=Aside0.mk (below_step (by repeat (first|(with_reducible first|exact HB.out|apply below_alloc|apply pw_below_drewN|apply below_drew1|refine below_set ?_ GE326.out)|exact HB.out)) hb);have n2_:=Aside0.mk (hbox);have n3_:=Aside0.mk ((by rw [hg];exact (below_size (by repeat (first|(with_reducible first|exact HB.out|apply below_alloc|apply pw_below_drewN|apply below_drew1|refine below_set ?_ GE326.out)|exact HB.out))) : w.heap.size ≤ gb327));have n4_:=Aside0.mk ((by rw [hg];exact (below_size (by repeat (first|(with_reducible first|exact HB.out|apply below_alloc|apply pw_below_drewN|apply below_drew1|refine below_set ?_ GE326.out)|exact HB.out))) : w.heap.size ≤ gb327));have n5_:=Aside0.mk ((by rw [hg];exact Nat.ne_of_lt (blk_lt (g:=gb326) (o:=.cells #[.int .i64 a0_0,.slice A0_1 l0_1.length c0_1] 30 (0,0)) (by (with_reducible repeat (first|refine blk_drewN ?_ _|refine blk_drew ?_|refine blk_alloc ?_ _));exact BK326.out)) : gb326 ≠ gb327));have n6_:=Aside0.mk ((by rw [hg];exact Nat.ne_of_gt (blk_lt (g:=gb326) (o:=.cells #[.int .i64 a0_0,.slice A0_1 l0_1.length c0_1] 30 (0,0)) (by (with_reducible repeat (first|refine blk_drewN ?_ _|refine blk_drew ?_|refine blk_alloc ?_ _));exact BK326.out)) : gb327 ≠ gb326));clear BK326;clear HB;have BK326:=n0_;have HB:=n1_;have BK327:=n2_;have GW327:=n3_;have GE327:=n4_;have NB326_327:=n5_;have NB327_326:=n6_;clear n0_ n1_ n2_ n3_ n4_ n5_ n6_;clear hb hbox hg;have hnb6:=NB326_327.out;have hnc6:=NB327_326.out;have hcz7_0 : w5.cell? ⟨gb326,0,none⟩ = some (.int .i64 a0_0):=(blk_cell BK326.out 0).trans rfl;have hcz7_1 : w5.cell? ⟨gb326,1,none⟩ = some (.slice A0_1 l0_1.length c0_1):=(blk_cell BK326.out 1).trans rfl;have hfz7_0:=blk_frozen BK326.out 0;have hfz7_1:=blk_frozen BK326.out 1))
 go_loopg [12] k (fun kq v12 w'=>∃ (x12_1 : Int),v12 = .int .i64 x12_1∧Aside0 (impl_dead.l0 kq a2 l0_1 (l0_1.length : Int) x12_1 a1_0 l1_1 l1_2 = some r)∧Aside0 (kq ≤ k)∧Aside0 (w'.heap[gb326]? = some (.cells #[.int .i64 a0_0,(.slice A0_1 l0_1.length c0_1)] 30 (0,0)))∧Aside0 (w'.heap[gb327]? = some (.cells #[.bool a1_0,(.slice A1_1 l1_1.length c1_1),(.slice A1_2 l1_2.length c1_2)] 46 (0,0)))∧Aside0 (Below w.heap.size w w'))
 case atStart=>exact ⟨(0),(by first|rfl|(simp;done)|(simp [*];done)),H',⟨Nat.le_refl _⟩,⟨by (with_reducible repeat (first|refine blk_drewN ?_ _|refine blk_drew ?_|refine blk_alloc ?_ _));exact BK326.out⟩,⟨by (with_reducible repeat (first|refine blk_drewN ?_ _|refine blk_drew ?_|refine blk_alloc ?_ _));exact BK327.out⟩,⟨by repeat (first|(with_reducible first|exact HB.out|apply below_alloc|apply pw_below_drewN|apply below_drew1|refine below_set ?_ GE326.out|refine below_set ?_ GE327.out)|exact HB.out)⟩⟩
 case round =>
  clear H'
  try clear c1
  try clear p2
  try clear c6
  try clear hcz7_0
  try clear hcz7_1
  try clear hfz7_0
  try clear hfz7_1
  obtain ⟨x12_1,rfl,HA,HK1,BK326,BK327,HB⟩:=hrel
  cases gk with
  | zero=>exact absurd HA.out (by simp [impl_dead.l0])
  | succ k1 =>
   have H:=HA.out
   clear HA
   simp only [impl_dead.l0] at H
   by_cases c8 : x12_1 < (l0_1.length : Int)
   ·rw [if_pos c8] at H
    have c8b0 : decide (x12_1 < (l0_1.length : Int)) = true:=decide_eq_true c8
    clear c8
    by_cases c9 : 0 ≤ x12_1
    ·rw [if_pos c9] at H
     have c9b0 : decide (0 ≤ x12_1) = true:=decide_eq_true c9
     clear c9
     by_cases c10 : x12_1 < (l0_1.length : Int)
     ·rw [if_pos c10] at H
      have c10b0 : decide (x12_1 < (l0_1.length : Int)) = true:=decide_eq_true c10
      clear c10
      by_cases c11 : x12_1 < (l1_2.length : Int)
      ·rw [if_pos c11] at H
       have c11b0 : decide (x12_1 < (l1_2.length : Int)) = true:=decide_eq_true c11
       clear c11
       obtain ⟨bq12,hbq12⟩ : ∃ b_ : Bool,b_ = (rdOf false l1_2 x12_1):=⟨_,rfl⟩
       replace H : (if bq12 = true then (if ((rd_T88 l0_1 x12_1).f0) = a2 then (some true) else (if ((rd_T88 l0_1 x12_1).f1) = a2 then (some true) else (impl_dead.l0 k1 a2 l0_1 (l0_1.length : Int) (wrap64 (x12_1 + 1)) a1_0 l1_1 l1_2))) else (impl_dead.l0 k1 a2 l0_1 (l0_1.length : Int) (wrap64 (x12_1 + 1)) a1_0 l1_1 l1_2)) = some r:=by rw [← hbq12] at H;exact H
       have Nbq12:=Aside0.mk hbq12
       clear hbq12
       by_cases c13 : bq12 = true
       ·subst c13
        have H1 : (if ((rd_T88 l0_1 x12_1).f0) = a2 then (some true) else (if ((rd_T88 l0_1 x12_1).f1) = a2 then (some true) else (impl_dead.l0 k1 a2 l0_1 (l0_1.length : Int) (wrap64 (x12_1 + 1)) a1_0 l1_1 l1_2))) = some r:=by rw [if_pos rfl] at H;exact H
        clear H
        have H:=H1
        clear H1
        by_cases c14 : ((rd_T88 l0_1 x12_1).f0) = a2
        ·rw [if_pos c14] at H
         have c14b0 : (((rd_T88 l0_1 x12_1).f0) == a2) = true:=beq_iff_eq.mpr c14
         have c14b1 : (((rd_T88 l0_1 x12_1).f0) != a2) = false:=bne_eq_false_iff_eq.mpr c14
         clear c14
         obtain rfl:=Option.some.inj H
         have p328 : 0 ≤ (x12_1 : Int):=of_decide_eq_true (by first|(with_reducible assumption)|assumption)
         have q328 : x12_1 < (l0_1.length : Int):=of_decide_eq_true (by first|(with_reducible assumption)|assumption)
         obtain ⟨ad328,e328,hx328_0,hx328_1⟩:=at_T88 HR0_1.out x12_1 p328 q328
         cases e328
         replace hx328_0:=(HB.out.cell (World.block_lt_of_cell? w _ hx328_0)).trans hx328_0
         replace hx328_1:=(HB.out.cell (World.block_lt_of_cell? w _ hx328_1)).trans hx328_1
         replace p328:=eq_true p328
         replace q328:=eq_true q328
         go_wp2_with (first|((with_reducible refine gate_dst (N:=8) rfl ?_);refine box_event ?hg (N:=8) ?hd (cs:=#[.int .i64 0,.int .i64 0]) (t:=88) ?hr ?_;(case hd=>rfl);(case hg=>rfl);(case hr=>first|(go_simp;done)|(go_simp;rfl));intro gb329 hg w15 hbox hb;have n0_:=Aside0.mk (blk_below (g:=gb326) (o:=.cells #[.int .i64 a0_0,.slice (some ad328) l0_1.length c0_1] 30 (0,0)) (by (with_reducible repeat (first|refine blk_drewN ?_ _|refine blk_drew ?_|refine blk_alloc ?_ _));exact BK326.out) hb);have n1_:=Aside0.mk (blk_below (g:=gb327) (o:=.cells #[.bool a1_0,.slice A1_1 l1_1.length c1_1,.slice A1_2 l1_2.length c1_2] 46 (0,0)) (by (with_reducible repeat (first|refine blk_drewN ?_ _|refine blk_drew ?_|refine blk_alloc ?_ _));exact BK327.out) hb);have n2_:=Aside0.mk (below_step (by repeat (first|(with_reducible first|exact HB.out|apply below_alloc|apply pw_below_drewN|apply below_drew1|refine below_set ?_ GE326.out|refine below_set ?_ GE327.out)|exact HB.out)) hb);have n3_:=Aside0.mk (hbox);have n4_:=Aside0.mk ((by rw [hg];exact (below_size (by repeat (first|(with_reducible first|exact HB.out|apply below_alloc|apply pw_below_drewN|apply below_drew1|refine below_set ?_ GE326.out|refine below_set ?_ GE327.out)|exact HB.out))) : w.heap.size ≤ gb329));have n5_:=Aside0.mk ((by rw [hg];exact (below_size (by repeat (first|(with_reducible first|exact HB.out|apply below_alloc|apply pw_below_drewN|apply below_drew1|refine below_set ?_ GE326.out|refine below_set ?_ GE327.out)|exact HB.out))) : w.heap.size ≤ gb329));have n6_:=Aside0.mk ((by rw [hg];exact Nat.ne_of_lt (blk_lt (g:=gb326) (o:=.cells #[.int .i64 a0_0,.slice (some ad328) l0_1.length c0_1] 30 (0,0)) (by (with_reducible repeat (first|refine blk_drewN ?_ _|refine blk_drew ?_|refine blk_alloc ?_ _));exact BK326.out)) : gb326 ≠ gb329));have n7_:=Aside0.mk ((by rw [hg];exact Nat.ne_of_gt (blk_lt (g:=gb326) (o:=.cells #[.int .i64 a0_0,.slice (some ad328) l0_1.length c0_1] 30 (0,0)) (by (with_reducible repeat (first|refine blk_drewN ?_ _|refine blk_drew ?_|refine blk_alloc ?_ _));exact BK326.out)) : gb329 ≠ gb326));have n8_:=Aside0.mk ((by rw [hg];exact Nat.ne_of_lt (blk_lt (g:=gb327) (o:=.cells #[.bool a1_0,.slice A1_1 l1_1.length c1_1,.slice A1_2 l1_2.length c1_2] 46 (0,0)) (by (with_reducible repeat (first|refine blk_drewN ?_ _|refine blk_drew ?_|refine blk_alloc ?_ _));exact BK327.out)) : gb327 ≠ gb329));have n9_:=Aside0.mk ((by rw [hg];exact Nat.ne_of_gt (blk_lt (g:=gb327) (o:=.cells #[.bool a1_0,.slice A1_1 l1_1.length c1_1,.slice A1_2 l1_2.length c1_2] 46 (0,0)) (by (with_reducible repeat (first|refine blk_drewN ?_ _|refine blk_drew ?_|refine blk_alloc ?_ _));exact BK327.out)) : gb329 ≠ gb327));clear BK326;clear BK327;clear HB;have BK326:=n0_;have BK327:=n1_;have HB:=n2_;have BK329:=n3_;have GW329:=n4_;have GE329:=n5_;have NB326_329:=n6_;have NB329_326:=n7_;have NB327_329:=n8_;have NB329_327:=n9_;clear n0_ n1_ n2_ n3_ n4_ n5_ n6_ n7_ n8_ n9_;clear hb hbox hg;have hnb16:=NB329_326.out;have hnc16:=NB326_329.out;have hnb17:=NB329_327.out;have hnc17:=NB327_329.out;have hcz18_0 : w15.cell? ⟨gb329,0,none⟩ = some (.int .i64 0):=(blk_cell BK329.out 0).trans rfl;have hcz18_1 : w15.cell? ⟨gb329,1,none⟩ = some (.int .i64 0):=(blk_cell BK329.out 1).trans rfl;have hfz18_0:=blk_frozen BK329.out 0;have hfz18_1:=blk_frozen BK329.out 1;have hnb19:=NB327_326.out;have hnc19:=NB326_327.out;have hcz20_0 : w15.cell? ⟨gb327,0,none⟩ = some (.bool a1_0):=(blk_cell BK327.out 0).trans rfl;have hcz20_1 : w15.cell? ⟨gb327,1,none⟩ = some (.slice A1_1 l1_1.length c1_1):=(blk_cell BK327.out 1).trans rfl;have hcz20_2 : w15.cell? ⟨gb327,2,none⟩ = some (.slice A1_2 l1_2.length c1_2):=(blk_cell BK327.out 2).trans rfl;have hfz20_0:=blk_frozen BK327.out 0;have hfz20_1:=blk_frozen BK327.out 1;have hfz20_2:=blk_frozen BK327.out 2;have p330 : 0 ≤ (x12_1 : Int):=of_decide_eq_true (by first|(with_reducible assumption)|assumption);have q330 : x12_1 < (l1_2.length : Int):=of_decide_eq_true (by first|(with_reducible assumption)|assumption);obtain ⟨ad330,e330,hx330_0⟩:=Kd.at_bool HR1_2.out x12_1 p330 q330;(try rw [← Nbq12.out] at hx330_0);cases e330;have hn330_0 : ad330.block ≠ gb329:=Nat.ne_of_lt (Nat.lt_of_lt_of_le (by have:=World.block_lt_of_cell? _ _ hx330_0;first|rwa [add_block] at this|exact this) GW329.out);have hn330_1 : ad330.block ≠ gb329:=Nat.ne_of_lt (Nat.lt_of_lt_of_le (by have:=World.block_lt_of_cell? _ _ hx330_0;first|rwa [add_block] at this|exact this) GW329.out);replace hx330_0:=(HB.out.cell (World.block_lt_of_cell? w _ hx330_0)).trans hx330_0;replace hx330_0:=(cell_far (p:=⟨gb329,0,none⟩) (by first|(rw [add_block];exact hn330_0)|(show (Addr.add _ _).block ≠ _;rw [add_block];exact hn330_0)|exact hn330_0) (.int .i64 ((rd_T88 l0_1 x12_1).f0))).trans hx330_0;replace hx330_0:=(cell_far (p:=⟨gb329,1,none⟩) (by first|(rw [add_block];exact hn330_1)|(show (Addr.add _ _).block ≠ _;rw [add_block];exact hn330_1)|exact hn330_1) (.int .i64 ((rd_T88 l0_1 x12_1).f1))).trans hx330_0;clear hn330_0;clear hn330_1;replace p330:=eq_true p330;replace q330:=eq_true q330))
         go_ret
         exact ⟨by first|rfl|(simp [errW_none,errW_some] <;> rfl)|(simp [*,errW_none,errW_some] <;> rfl),by repeat (first|(with_reducible first|exact HB.out|apply below_alloc|apply pw_below_drewN|apply below_drew1|refine below_set ?_ GE326.out|refine below_set ?_ GE327.out|refine below_set ?_ GE329.out)|exact HB.out)⟩
        ·rw [if_neg c14] at H
         have c14b0 : (((rd_T88 l0_1 x12_1).f0) == a2) = false:=beq_eq_false_iff_ne.mpr c14
         have c14b1 : (((rd_T88 l0_1 x12_1).f0) != a2) = true:=bne_iff_ne.mpr c14
         by_cases c21 : ((rd_T88 l0_1 x12_1).f1) = a2
         ·rw [if_pos c21] at H
          have c21b0 : (((rd_T88 l0_1 x12_1).f1) == a2) = true:=beq_iff_eq.mpr c21
          have c21b1 : (((rd_T88 l0_1 x12_1).f1) != a2) = false:=bne_eq_false_iff_eq.mpr c21
          clear c21
          obtain rfl:=Option.some.inj H
          have p328 : 0 ≤ (x12_1 : Int):=of_decide_eq_true (by first|(with_reducible assumption)|assumption)
          have q328 : x12_1 < (l0_1.length : Int):=of_decide_eq_true (by first|(with_reducible assumption)|assumption)
          obtain ⟨ad328,e328,hx328_0,hx328_1⟩:=at_T88 HR0_1.out x12_1 p328 q328
          cases e328
          replace hx328_0:=(HB.out.cell (World.block_lt_of_cell? w _ hx328_0)).trans hx328_0
          replace hx328_1:=(HB.out.cell (World.block_lt_of_cell? w _ hx328_1)).trans hx328_1
          replace p328:=eq_true p328
          replace q328:=eq_true q328
          go_wp2_with (first|((with_reducible refine gate_dst (N:=8) rfl ?_);refine box_event ?hg (N:=8) ?hd (cs:=#[.int .i64 0,.int .i64 0]) (t:=88) ?hr ?_;(case hd=>rfl);(case hg=>rfl);(case hr=>first|(go_simp;done)|(go_simp;rfl));intro gb329 hg w22 hbox hb;have n0_:=Aside0.mk (blk_below (g:=gb326) (o:=.cells #[.int .i64 a0_0,.slice (some ad328) l0_1.length c0_1] 30 (0,0)) (by (with_reducible repeat (first|refine blk_drewN ?_ _|refine blk_drew ?_|refine blk_alloc ?_ _));exact BK326.out) hb);have n1_:=Aside0.mk (blk_below (g:=gb327) (o:=.cells #[.bool a1_0,.slice A1_1 l1_1.length c1_1,.slice A1_2 l1_2.length c1_2] 46 (0,0)) (by (with_reducible repeat (first|refine blk_drewN ?_ _|refine blk_drew ?_|refine blk_alloc ?_ _));exact BK327.out) hb);have n2_:=Aside0.mk (below_step (by repeat (first|(with_reducible first|exact HB.out|apply below_alloc|apply pw_below_drewN|apply below_drew1|refine below_set ?_ GE326.out|refine below_set ?_ GE327.out)|exact HB.out)) hb);have n3_:=Aside0.mk (hbox);have n4_:=Aside0.mk ((by rw [hg];exact (below_size (by repeat (first|(with_reducible first|exact HB.out|apply below_alloc|apply pw_below_drewN|apply below_drew1|refine below_set ?_ GE326.out|refine below_set ?_ GE327.out)|exact HB.out))) : w.heap.size ≤ gb329));have n5_:=Aside0.mk ((by rw [hg];exact (below_size (by repeat (first|(with_reducible first|exact HB.out|apply below_alloc|apply pw_below_drewN|apply below_drew1|refine below_set ?_ GE326.out|refine below_set ?_ GE327.out)|exact HB.out))) : w.heap.size ≤ gb329));have n6_:=Aside0.mk ((by rw [hg];exact Nat.ne_of_lt (blk_lt (g:=gb326) (o:=.cells #[.int .i64 a0_0,.slice (some ad328) l0_1.length c0_1] 30 (0,0)) (by (with_reducible repeat (first|refine blk_drewN ?_ _|refine blk_drew ?_|refine blk_alloc ?_ _));exact BK326.out)) : gb326 ≠ gb329));have n7_:=Aside0.mk ((by rw [hg];exact Nat.ne_of_gt (blk_lt (g:=gb326) (o:=.cells #[.int .i64 a0_0,.slice (some ad328) l0_1.length c0_1] 30 (0,0)) (by (with_reducible repeat (first|refine blk_drewN ?_ _|refine blk_drew ?_|refine blk_alloc ?_ _));exact BK326.out)) : gb329 ≠ gb326));have n8_:=Aside0.mk ((by rw [hg];exact Nat.ne_of_lt (blk_lt (g:=gb327) (o:=.cells #[.bool a1_0,.slice A1_1 l1_1.length c1_1,.slice A1_2 l1_2.length c1_2] 46 (0,0)) (by (with_reducible repeat (first|refine blk_drewN ?_ _|refine blk_drew ?_|refine blk_alloc ?_ _));exact BK327.out)) : gb327 ≠ gb329));have n9_:=Aside0.mk ((by rw [hg];exact Nat.ne_of_gt (blk_lt (g:=gb327) (o:=.cells #[.bool a1_0,.slice A1_1 l1_1.length c1_1,.slice A1_2 l1_2.length c1_2] 46 (0,0)) (by (with_reducible repeat (first|refine blk_drewN ?_ _|refine blk_drew ?_|refine blk_alloc ?_ _));exact BK327.out)) : gb329 ≠ gb327));clear BK326;clear BK327;clear HB;have BK326:=n0_;have BK327:=n1_;have HB:=n2_;have BK329:=n3_;have GW329:=n4_;have GE329:=n5_;have NB326_329:=n6_;have NB329_326:=n7_;have NB327_329:=n8_;have NB329_327:=n9_;clear n0_ n1_ n2_ n3_ n4_ n5_ n6_ n7_ n8_ n9_;clear hb hbox hg;have hnb23:=NB329_326.out;have hnc23:=NB326_329.out;have hnb24:=NB329_327.out;have hnc24:=NB327_329.out;have hcz25_0 : w22.cell? ⟨gb329,0,none⟩ = some (.int .i64 0):=(blk_cell BK329.out 0).trans rfl;have hcz25_1 : w22.cell? ⟨gb329,1,none⟩ = some (.int .i64 0):=(blk_cell BK329.out 1).trans rfl;have hfz25_0:=blk_frozen BK329.out 0;have hfz25_1:=blk_frozen BK329.out 1;have hnb26:=NB327_326.out;have hnc26:=NB326_327.out;have hcz27_0 : w22.cell? ⟨gb327,0,none⟩ = some (.bool a1_0):=(blk_cell BK327.out 0).trans rfl;have hcz27_1 : w22.cell? ⟨gb327,1,none⟩ = some (.slice A1_1 l1_1.length c1_1):=(blk_cell BK327.out 1).trans rfl;have hcz27_2 : w22.cell? ⟨gb327,2,none⟩ = some (.slice A1_2 l1_2.length c1_2):=(blk_cell BK327.out 2).trans rfl;have hfz27_0:=blk_frozen BK327.out 0;have hfz27_1:=blk_frozen BK327.out 1;have hfz27_2:=blk_frozen BK327.out 2;have p330 : 0 ≤ (x12_1 : Int):=of_decide_eq_true (by first|(with_reducible assumption)|assumption);have q330 : x12_1 < (l1_2.length : Int):=of_decide_eq_true (by first|(with_reducible assumption)|assumption);obtain ⟨ad330,e330,hx330_0⟩:=Kd.at_bool HR1_2.out x12_1 p330 q330;(try rw [← Nbq12.out] at hx330_0);cases e330;have hn330_0 : ad330.block ≠ gb329:=Nat.ne_of_lt (Nat.lt_of_lt_of_le (by have:=World.block_lt_of_cell? _ _ hx330_0;first|rwa [add_block] at this|exact this) GW329.out);have hn330_1 : ad330.block ≠ gb329:=Nat.ne_of_lt (Nat.lt_of_lt_of_le (by have:=World.block_lt_of_cell? _ _ hx330_0;first|rwa [add_block] at this|exact this) GW329.out);replace hx330_0:=(HB.out.cell (World.block_lt_of_cell? w _ hx330_0)).trans hx330_0;replace hx330_0:=(cell_far (p:=⟨gb329,0,none⟩) (by first|(rw [add_block];exact hn330_0)|(show (Addr.add _ _).block ≠ _;rw [add_block];exact hn330_0)|exact hn330_0) (.int .i64 ((rd_T88 l0_1 x12_1).f0))).trans hx330_0;replace hx330_0:=(cell_far (p:=⟨gb329,1,none⟩) (by first|(rw [add_block];exact hn330_1)|(show (Addr.add _ _).block ≠ _;rw [add_block];exact hn330_1)|exact hn330_1) (.int .i64 ((rd_T88 l0_1 x12_1).f1))).trans hx330_0;clear hn330_0;clear hn330_1;replace p330:=eq_true p330;replace q330:=eq_true q330))
          go_ret
          exact ⟨by first|rfl|(simp [errW_none,errW_some] <;> rfl)|(simp [*,errW_none,errW_some] <;> rfl),by repeat (first|(with_reducible first|exact HB.out|apply below_alloc|apply pw_below_drewN|apply below_drew1|refine below_set ?_ GE326.out|refine below_set ?_ GE327.out|refine below_set ?_ GE329.out)|exact HB.out)⟩
         ·rw [if_neg c21] at H
          have c21b0 : (((rd_T88 l0_1 x12_1).f1) == a2) = false:=beq_eq_false_iff_ne.mpr c21
          have c21b1 : (((rd_T88 l0_1 x12_1).f1) != a2) = true:=bne_iff_ne.mpr c21
          have H':=Aside0.mk H
          clear H
          have p328 : 0 ≤ (x12_1 : Int):=of_decide_eq_true (by first|(with_reducible assumption)|assumption)
          have q328 : x12_1 < (l0_1.length : Int):=of_decide_eq_true (by first|(with_reducible assumption)|assumption)
          obtain ⟨ad328,e328,hx328_0,hx328_1⟩:=at_T88 HR0_1.out x12_1 p328 q328
          cases e328
          replace hx328_0:=(HB.out.cell (World.block_lt_of_cell? w _ hx328_0)).trans hx328_0
          replace hx328_1:=(HB.out.cell (World.block_lt_of_cell? w _ hx328_1)).trans hx328_1
          replace p328:=eq_true p328
          replace q328:=eq_true q328
          go_wp2_with (first|((with_reducible refine gate_dst (N:=8) rfl ?_);refine box_event ?hg (N:=8) ?hd (cs:=#[.int .i64 0,.int .i64 0]) (t:=88) ?hr ?_;(case hd=>rfl);(case hg=>rfl);(case hr=>first|(go_simp;done)|(go_simp;rfl));intro gb329 hg w28 hbox hb;have n0_:=Aside0.mk (blk_below (g:=gb326) (o:=.cells #[.int .i64 a0_0,.slice (some ad328) l0_1.length c0_1] 30 (0,0)) (by (with_reducible repeat (first|refine blk_drewN ?_ _|refine blk_drew ?_|refine blk_alloc ?_ _));exact BK326.out) hb);have n1_:=Aside0.mk (blk_below (g:=gb327) (o:=.cells #[.bool a1_0,.slice A1_1 l1_1.length c1_1,.slice A1_2 l1_2.length c1_2] 46 (0,0)) (by (with_reducible repeat (first|refine blk_drewN ?_ _|refine blk_drew ?_|refine blk_alloc ?_ _));exact BK327.out) hb);have n2_:=Aside0.mk (below_step (by repeat (first|(with_reducible first|exact HB.out|apply below_alloc|apply pw_below_drewN|apply below_drew1|refine below_set ?_ GE326.out|refine below_set ?_ GE327.out)|exact HB.out)) hb);have n3_:=Aside0.mk (hbox);have n4_:=Aside0.mk ((by rw [hg];exact (below_size (by repeat (first|(with_reducible first|exact HB.out|apply below_alloc|apply pw_below_drewN|apply below_drew1|refine below_set ?_ GE326.out|refine below_set ?_ GE327.out)|exact HB.out))) : w.heap.size ≤ gb329));have n5_:=Aside0.mk ((by rw [hg];exact (below_size (by repeat (first|(with_reducible first|exact HB.out|apply below_alloc|apply pw_below_drewN|apply below_drew1|refine below_set ?_ GE326.out|refine below_set ?_ GE327.out)|exact HB.out))) : w.heap.size ≤ gb329));have n6_:=Aside0.mk ((by rw [hg];exact Nat.ne_of_lt (blk_lt (g:=gb326) (o:=.cells #[.int .i64 a0_0,.slice (some ad328) l0_1.length c0_1] 30 (0,0)) (by (with_reducible repeat (first|refine blk_drewN ?_ _|refine blk_drew ?_|refine blk_alloc ?_ _));exact BK326.out)) : gb326 ≠ gb329));have n7_:=Aside0.mk ((by rw [hg];exact Nat.ne_of_gt (blk_lt (g:=gb326) (o:=.cells #[.int .i64 a0_0,.slice (some ad328) l0_1.length c0_1] 30 (0,0)) (by (with_reducible repeat (first|refine blk_drewN ?_ _|refine blk_drew ?_|refine blk_alloc ?_ _));exact BK326.out)) : gb329 ≠ gb326));have n8_:=Aside0.mk ((by rw [hg];exact Nat.ne_of_lt (blk_lt (g:=gb327) (o:=.cells #[.bool a1_0,.slice A1_1 l1_1.length c1_1,.slice A1_2 l1_2.length c1_2] 46 (0,0)) (by (with_reducible repeat (first|refine blk_drewN ?_ _|refine blk_drew ?_|refine blk_alloc ?_ _));exact BK327.out)) : gb327 ≠ gb329));have n9_:=Aside0.mk ((by rw [hg];exact Nat.ne_of_gt (blk_lt (g:=gb327) (o:=.cells #[.bool a1_0,.slice A1_1 l1_1.length c1_1,.slice A1_2 l1_2.length c1_2] 46 (0,0)) (by (with_reducible repeat (first|refine blk_drewN ?_ _|refine blk_drew ?_|refine blk_alloc ?_ _));exact BK327.out)) : gb329 ≠ gb327));clear BK326;clear BK327;clear HB;have BK326:=n0_;have BK327:=n1_;have HB:=n2_;have BK329:=n3_;have GW329:=n4_;have GE329:=n5_;have NB326_329:=n6_;have NB329_326:=n7_;have NB327_329:=n8_;have NB329_327:=n9_;clear n0_ n1_ n2_ n3_ n4_ n5_ n6_ n7_ n8_ n9_;clear hb hbox hg;have hnb29:=NB329_326.out;have hnc29:=NB326_329.out;have hnb30:=NB329_327.out;have hnc30:=NB327_329.out;have hcz31_0 : w28.cell? ⟨gb329,0,none⟩ = some (.int .i64 0):=(blk_cell BK329.out 0).trans rfl;have hcz31_1 : w28.cell? ⟨gb329,1,none⟩ = some (.int .i64 0):=(blk_cell BK329.out 1).trans rfl;have hfz31_0:=blk_frozen BK329.out 0;have hfz31_1:=blk_frozen BK329.out 1;have hnb32:=NB327_326.out;have hnc32:=NB326_327.out;have hcz33_0 : w28.cell? ⟨gb327,0,none⟩ = some (.bool a1_0):=(blk_cell BK327.out 0).trans rfl;have hcz33_1 : w28.cell? ⟨gb327,1,none⟩ = some (.slice A1_1 l1_1.length c1_1):=(blk_cell BK327.out 1).trans rfl;have hcz33_2 : w28.cell? ⟨gb327,2,none⟩ = some (.slice A1_2 l1_2.length c1_2):=(blk_cell BK327.out 2).trans rfl;have hfz33_0:=blk_frozen BK327.out 0;have hfz33_1:=blk_frozen BK327.out 1;have hfz33_2:=blk_frozen BK327.out 2;have p330 : 0 ≤ (x12_1 : Int):=of_decide_eq_true (by first|(with_reducible assumption)|assumption);have q330 : x12_1 < (l1_2.length : Int):=of_decide_eq_true (by first|(with_reducible assumption)|assumption);obtain ⟨ad330,e330,hx330_0⟩:=Kd.at_bool HR1_2.out x12_1 p330 q330;(try rw [← Nbq12.out] at hx330_0);cases e330;have hn330_0 : ad330.block ≠ gb329:=Nat.ne_of_lt (Nat.lt_of_lt_of_le (by have:=World.block_lt_of_cell? _ _ hx330_0;first|rwa [add_block] at this|exact this) GW329.out);have hn330_1 : ad330.block ≠ gb329:=Nat.ne_of_lt (Nat.lt_of_lt_of_le (by have:=World.block_lt_of_cell? _ _ hx330_0;first|rwa [add_block] at this|exact this) GW329.out);replace hx330_0:=(HB.out.cell (World.block_lt_of_cell? w _ hx330_0)).trans hx330_0;replace hx330_0:=(cell_far (p:=⟨gb329,0,none⟩) (by first|(rw [add_block];exact hn330_0)|(show (Addr.add _ _).block ≠ _;rw [add_block];exact hn330_0)|exact hn330_0) (.int .i64 ((rd_T88 l0_1 x12_1).f0))).trans hx330_0;replace hx330_0:=(cell_far (p:=⟨gb329,1,none⟩) (by first|(rw [add_block];exact hn330_1)|(show (Addr.add _ _).block ≠ _;rw [add_block];exact hn330_1)|exact hn330_1) (.int .i64 ((rd_T88 l0_1 x12_1).f1))).trans hx330_0;clear hn330_0;clear hn330_1;replace p330:=eq_true p330;replace q330:=eq_true q330))
          go_roundg k1
          case measure=>have:=HK1.out;omega
          case rel=>exact ⟨(wrap64 (x12_1 + 1)),(by first|rfl|(simp;done)|(simp [*];done)),H',⟨by have:=HK1.out;omega⟩,⟨by (with_reducible repeat (first|refine blk_drewN ?_ _|refine blk_drew ?_|refine blk_alloc ?_ _));refine blk_far ?_ NB326_329.out _;(with_reducible repeat (first|refine blk_drewN ?_ _|refine blk_drew ?_|refine blk_alloc ?_ _));refine blk_far ?_ NB326_329.out _;(with_reducible repeat (first|refine blk_drewN ?_ _|refine blk_drew ?_|refine blk_alloc ?_ _));exact BK326.out⟩,⟨by (with_reducible repeat (first|refine blk_drewN ?_ _|refine blk_drew ?_|refine blk_alloc ?_ _));refine blk_far ?_ NB327_329.out _;(with_reducible repeat (first|refine blk_drewN ?_ _|refine blk_drew ?_|refine blk_alloc ?_ _));refine blk_far ?_ NB327_329.out _;(with_reducible repeat (first|refine blk_drewN ?_ _|refine blk_drew ?_|refine blk_alloc ?_ _));exact BK327.out⟩,⟨by repeat (first|(with_reducible first|exact HB.out|apply below_alloc|apply pw_below_drewN|apply below_drew1|refine below_set ?_ GE326.out|refine below_set ?_ GE327.out|refine below_set ?_ GE329.out)|exact HB.out)⟩⟩
       ·replace c13:=Bool.eq_false_iff.mpr c13
        subst c13
        have H1 : (impl_dead.l0 k1 a2 l0_1 (l0_1.length : Int) (wrap64 (x12_1 + 1)) a1_0 l1_1 l1_2) = some r:=by rw [if_neg (show ¬ (false = true) by decide)] at H;exact H
        clear H
        have H:=H1
        clear H1
        have H':=Aside0.mk H
        clear H
        have p328 : 0 ≤ (x12_1 : Int):=of_decide_eq_true (by first|(with_reducible assumption)|assumption)
        have q328 : x12_1 < (l0_1.length : Int):=of_decide_eq_true (by first|(with_reducible assumption)|assumption)
        obtain ⟨ad328,e328,hx328_0,hx328_1⟩:=at_T88 HR0_1.out x12_1 p328 q328
        cases e328
        replace hx328_0:=(HB.out.cell (World.block_lt_of_cell? w _ hx328_0)).trans hx328_0
        replace hx328_1:=(HB.out.cell (World.block_lt_of_cell? w _ hx328_1)).trans hx328_1
        replace p328:=eq_true p328
        replace q328:=eq_true q328
        go_wp2_with (first|((with_reducible refine gate_dst (N:=8) rfl ?_);refine box_event ?hg (N:=8) ?hd (cs:=#[.int .i64 0,.int .i64 0]) (t:=88) ?hr ?_;(case hd=>rfl);(case hg=>rfl);(case hr=>first|(go_simp;done)|(go_simp;rfl));intro gb329 hg w34 hbox hb;have n0_:=Aside0.mk (blk_below (g:=gb326) (o:=.cells #[.int .i64 a0_0,.slice (some ad328) l0_1.length c0_1] 30 (0,0)) (by (with_reducible repeat (first|refine blk_drewN ?_ _|refine blk_drew ?_|refine blk_alloc ?_ _));exact BK326.out) hb);have n1_:=Aside0.mk (blk_below (g:=gb327) (o:=.cells #[.bool a1_0,.slice A1_1 l1_1.length c1_1,.slice A1_2 l1_2.length c1_2] 46 (0,0)) (by (with_reducible repeat (first|refine blk_drewN ?_ _|refine blk_drew ?_|refine blk_alloc ?_ _));exact BK327.out) hb);have n2_:=Aside0.mk (below_step (by repeat (first|(with_reducible first|exact HB.out|apply below_alloc|apply pw_below_drewN|apply below_drew1|refine below_set ?_ GE326.out|refine below_set ?_ GE327.out)|exact HB.out)) hb);have n3_:=Aside0.mk (hbox);have n4_:=Aside0.mk ((by rw [hg];exact (below_size (by repeat (first|(with_reducible first|exact HB.out|apply below_alloc|apply pw_below_drewN|apply below_drew1|refine below_set ?_ GE326.out|refine below_set ?_ GE327.out)|exact HB.out))) : w.heap.size ≤ gb329));have n5_:=Aside0.mk ((by rw [hg];exact (below_size (by repeat (first|(with_reducible first|exact HB.out|apply below_alloc|apply pw_below_drewN|apply below_drew1|refine below_set ?_ GE326.out|refine below_set ?_ GE327.out)|exact HB.out))) : w.heap.size ≤ gb329));have n6_:=Aside0.mk ((by rw [hg];exact Nat.ne_of_lt (blk_lt (g:=gb326) (o:=.cells #[.int .i64 a0_0,.slice (some ad328) l0_1.length c0_1] 30 (0,0)) (by (with_reducible repeat (first|refine blk_drewN ?_ _|refine blk_drew ?_|refine blk_alloc ?_ _));exact BK326.out)) : gb326 ≠ gb329));have n7_:=Aside0.mk ((by rw [hg];exact Nat.ne_of_gt (blk_lt (g:=gb326) (o:=.cells #[.int .i64 a0_0,.slice (some ad328) l0_1.length c0_1] 30 (0,0)) (by (with_reducible repeat (first|refine blk_drewN ?_ _|refine blk_drew ?_|refine blk_alloc ?_ _));exact BK326.out)) : gb329 ≠ gb326));have n8_:=Aside0.mk ((by rw [hg];exact Nat.ne_of_lt (blk_lt (g:=gb327) (o:=.cells #[.bool a1_0,.slice A1_1 l1_1.length c1_1,.slice A1_2 l1_2.length c1_2] 46 (0,0)) (by (with_reducible repeat (first|refine blk_drewN ?_ _|refine blk_drew ?_|refine blk_alloc ?_ _));exact BK327.out)) : gb327 ≠ gb329));have n9_:=Aside0.mk ((by rw [hg];exact Nat.ne_of_gt (blk_lt (g:=gb327) (o:=.cells #[.bool a1_0,.slice A1_1 l1_1.length c1_1,.slice A1_2 l1_2.length c1_2] 46 (0,0)) (by (with_reducible repeat (first|refine blk_drewN ?_ _|refine blk_drew ?_|refine blk_alloc ?_ _));exact BK327.out)) : gb329 ≠ gb327));clear BK326;clear BK327;clear HB;have BK326:=n0_;have BK327:=n1_;have HB:=n2_;have BK329:=n3_;have GW329:=n4_;have GE329:=n5_;have NB326_329:=n6_;have NB329_326:=n7_;have NB327_329:=n8_;have NB329_327:=n9_;clear n0_ n1_ n2_ n3_ n4_ n5_ n6_ n7_ n8_ n9_;clear hb hbox hg;have hnb35:=NB329_326.out;have hnc35:=NB326_329.out;have hnb36:=NB329_327.out;have hnc36:=NB327_329.out;have hcz37_0 : w34.cell? ⟨gb329,0,none⟩ = some (.int .i64 0):=(blk_cell BK329.out 0).trans rfl;have hcz37_1 : w34.cell? ⟨gb329,1,none⟩ = some (.int .i64 0):=(blk_cell BK329.out 1).trans rfl;have hfz37_0:=blk_frozen BK329.out 0;have hfz37_1:=blk_frozen BK329.out 1;have hnb38:=NB327_326.out;have hnc38:=NB326_327.out;have hcz39_0 : w34.cell? ⟨gb327,0,none⟩ = some (.bool a1_0):=(blk_cell BK327.out 0).trans rfl;have hcz39_1 : w34.cell? ⟨gb327,1,none⟩ = some (.slice A1_1 l1_1.length c1_1):=(blk_cell BK327.out 1).trans rfl;have hcz39_2 : w34.cell? ⟨gb327,2,none⟩ = some (.slice A1_2 l1_2.length c1_2):=(blk_cell BK327.out 2).trans rfl;have hfz39_0:=blk_frozen BK327.out 0;have hfz39_1:=blk_frozen BK327.out 1;have hfz39_2:=blk_frozen BK327.out 2;have p330 : 0 ≤ (x12_1 : Int):=of_decide_eq_true (by first|(with_reducible assumption)|assumption);have q330 : x12_1 < (l1_2.length : Int):=of_decide_eq_true (by first|(with_reducible assumption)|assumption);obtain ⟨ad330,e330,hx330_0⟩:=Kd.at_bool HR1_2.out x12_1 p330 q330;(try rw [← Nbq12.out] at hx330_0);cases e330;have hn330_0 : ad330.block ≠ gb329:=Nat.ne_of_lt (Nat.lt_of_lt_of_le (by have:=World.block_lt_of_cell? _ _ hx330_0;first|rwa [add_block] at this|exact this) GW329.out);have hn330_1 : ad330.block ≠ gb329:=Nat.ne_of_lt (Nat.lt_of_lt_of_le (by have:=World.block_lt_of_cell? _ _ hx330_0;first|rwa [add_block] at this|exact this) GW329.out);replace hx330_0:=(HB.out.cell (World.block_lt_of_cell? w _ hx330_0)).trans hx330_0;replace hx330_0:=(cell_far (p:=⟨gb329,0,none⟩) (by first|(rw [add_block];exact hn330_0)|(show (Addr.add _ _).block ≠ _;rw [add_block];exact hn330_0)|exact hn330_0) (.int .i64 ((rd_T88 l0_1 x12_1).f0))).trans hx330_0;replace hx330_0:=(cell_far (p:=⟨gb329,1,none⟩) (by first|(rw [add_block];exact hn330_1)|(show (Addr.add _ _).block ≠ _;rw [add_block];exact hn330_1)|exact hn330_1) (.int .i64 ((rd_T88 l0_1 x12_1).f1))).trans hx330_0;clear hn330_0;clear hn330_1;replace p330:=eq_true p330;replace q330:=eq_true q330))
        go_roundg k1
        case measure=>have:=HK1.out;omega
        case rel=>exact ⟨(wrap64 (x12_1 + 1)),(by first|rfl|(simp;done)|(simp [*];done)),H',⟨by have:=HK1.out;omega⟩,⟨by (with_reducible repeat (first|refine blk_drewN ?_ _|refine blk_drew ?_|refine blk_alloc ?_ _));refine blk_far ?_ NB326_329.out _;(with_reducible repeat (first|refine blk_drewN ?_ _|refine blk_drew ?_|refine blk_alloc ?_ _));refine blk_far ?_ NB326_329.out _;(with_reducible repeat (first|refine blk_drewN ?_ _|refine blk_drew ?_|refine blk_alloc ?_ _));exact BK326.out⟩,⟨by (with_reducible repeat (first|refine blk_drewN ?_ _|refine blk_drew ?_|refine blk_alloc ?_ _));refine blk_far ?_ NB327_329.out _;(with_reducible repeat (first|refine blk_drewN ?_ _|refine blk_drew ?_|refine blk_alloc ?_ _));refine blk_far ?_ NB327_329.out _;(with_reducible repeat (first|refine blk_drewN ?_ _|refine blk_drew ?_|refine blk_alloc ?_ _));exact BK327.out⟩,⟨by repeat (first|(with_reducible first|exact HB.out|apply below_alloc|apply pw_below_drewN|apply below_drew1|refine below_set ?_ GE326.out|refine below_set ?_ GE327.out|refine below_set ?_ GE329.out)|exact HB.out)⟩⟩
      ·rw [if_neg c11] at H
       exact absurd H (by simp)
     ·rw [if_neg c10] at H
      exact absurd H (by simp)
    ·rw [if_neg c9] at H
     exact absurd H (by simp)
   ·rw [if_neg c8] at H
    have c8b0 : decide (x12_1 < (l0_1.length : Int)) = false:=decide_eq_false c8
    clear c8
    obtain rfl:=Option.some.inj H
    go_wp2
    go_ret
    exact ⟨by first|rfl|(simp [errW_none,errW_some] <;> rfl)|(simp [*,errW_none,errW_some] <;> rfl),by repeat (first|(with_reducible first|exact HB.out|apply below_alloc|apply pw_below_drewN|apply below_drew1|refine below_set ?_ GE326.out|refine below_set ?_ GE327.out)|exact HB.out)⟩
end Go.Proofs.Ytpdnabhpkdchjaa.P
