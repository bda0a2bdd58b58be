/- The statement FnExactReadEventsCardSaid holds of the given program, for every argument; there are no conditions. (Part 4 of 5.) -/
import Derived.Test.YtpdnabhpkdchjaaDoorBFnExactReadEvents3
import Derived.Maps.OwnSet
import Derived.Maps.OwnOps
import Derived.Carry
import Derived.Deep.RegionWith
namespace Go.Proofs.YtpdnabhpkdchjaaDoor.P
open Go.RowKit Go.Proofs.YtpdnabhpkdchjaaDoorW.PrintWords Go.Proofs.YtpdnabhpkdchjaaDoorW.PrintLast Go.Proofs.YtpdnabhpkdchjaaDoorW.PrintMore
attribute [local go_sem] max2_int min2_int max_two min_two max_three min_three max_four min_four
set_option linter.unusedVariables false
set_option linter.unusedSimpArgs false
def spec_ReadEvents.l0:Nat→ByteArray→List (S52)→Int→Int→Int→Int→List (S98)→Option (Int × Int × (List (S52)))
 | 0,_,_,_,_,_,_,_=>none
 | k+1,x1,x5,x6,x7,x8,x237000,x237001=>if x8<(x1.size:Int) then (if 0≤x8 then (if (bt x1 x8)=10 then (if 0≤x6 then (if x6≤x8 then (if x8≤(x1.size:Int) then ((spec_l4event.f k x237000 x237001 (x1.extract (x6:Int).toNat (x8:Int).toNat)).bind fun bt239=>(if bt239.2.2.2=true then (if (x5.length:Int)=2000 then (some (3,wrap64 (x7+1),([]:List (S52)))) else (if x5.length<5864062014805 then (spec_ReadEvents.l0 k x1 (x5 ++ [(⟨bt239.1,bt239.2.1,bt239.2.2.1⟩:S52)]) (wrap64 (x8+1)) (wrap64 (x7+1)) (wrap64 (x8+1)) x237000 x237001) else (none))) else (some (3,wrap64 (x7+1),([]:List (S52)))))) else (none)) else (none)) else (none)) else (spec_ReadEvents.l0 k x1 x5 x6 x7 (wrap64 (x8+1)) x237000 x237001)) else (none)) else (if x6<(x1.size:Int) then (some (3,wrap64 (x7+1),([]:List (S52)))) else (some (0,0,x5)))
def spec_ReadEvents.f (k:Nat) (a0_0:Int) (l0_1:List (S98)) (a1:ByteArray):Option (Int × Int × (List (S52))):=(spec_LayoutOk.f k a0_0 l0_1).bind fun t238=>(if t238=0 then (if (a1.size:Int) > 20000 then (some (2,0,([]:List (S52)))) else (spec_ReadEvents.l0 k a1 ([]:List (S52)) 0 0 0 a0_0 l0_1)) else (some (1,0,([]:List (S52)))))
def spec_ReadEvents.T13:Bool × List (List Nat × List Nat):=(true,[([],[]),([],[]),([],[]),([],[]),([1,2,3],[1,2,3]),([0,4],[0,4]),([5],[5]),([6],[6]),([6],[6]),([],[]),([9,7,5,0,1,2,3,4,5,6,7,9],[7,9]),([8,10,0,1,2,3,4,5,6,7,8,9,10],[8])])
def spec_ReadEvents.B13:List Nat:=[0,0,0,0,14,31,63,127,127,0,767,2047]
theorem spec_ReadEvents.tab13:rtab .any (opsOf Tryd.f15 13)=spec_ReadEvents.T13:=by kernel_rfl
theorem spec_ReadEvents.bits13:waitsOk spec_ReadEvents.T13.2 spec_ReadEvents.B13=true:=by kernel_rfl
set_option maxHeartbeats 8000000 in
set_option maxRecDepth 100000 in
theorem spec_ReadEvents.calls (k:Nat) (a0_0:Int) (A0_1:Option Addr) (c0_1:Nat) (l0_1:List (S98)) (a1:ByteArray) (r1:Int) (r2:Int) (r3:List (S52)) (w:World) (hr0_1:Kd.C k98 w A0_1 l0_1.length l0_1) (hc0_1:l0_1.length≤c0_1) (h:spec_ReadEvents.f k a0_0 l0_1 a1=some (r1,r2,r3)) :
  Calls Tryd.prog 15 #[.agg #[.int .i64 a0_0,.slice A0_1 l0_1.length c0_1],.string a1] w fun e w'=>∃ v2_:Value,e=.returned (.agg #[.int .i64 r1,.int .i64 r2,v2_])∧Kd.R k52 52 w' w.heap.size (fun _=>True) v2_ r3∧Below w.heap.size w w':=by
 have hu31:=Tryd.underlying31
 have hu39:=Tryd.underlying39
 have hu52:=Tryd.underlying52
 have HR0_1:=Aside0.mk hr0_1
 have HC0_1:=Aside0.mk hc0_1
 clear hr0_1 hc0_1
 have HB:=Aside0.mk (Below.refl w.heap.size w)
 have H:((spec_LayoutOk.f k a0_0 l0_1).bind fun t238=>(if t238=0 then (if (a1.size:Int) > 20000 then (some (2,0,([]:List (S52)))) else (spec_ReadEvents.l0 k a1 ([]:List (S52)) 0 0 0 a0_0 l0_1)) else (some (1,0,([]:List (S52))))))=some (r1,r2,r3):=h
 clear h
 replace H:=Option.bind_eq_some_iff.mp H
 obtain ⟨t238,A30,H⟩:=H
 replace H:(if t238=0 then (if (a1.size:Int) > 20000 then (some (2,0,([]:List (S52)))) else (spec_ReadEvents.l0 k a1 ([]:List (S52)) 0 0 0 a0_0 l0_1)) else (some (1,0,([]:List (S52)))))=some (r1,r2,r3):=H
 have A3:=Aside0.mk A30
 clear A30
 by_cases c4:t238=0
 ·rw [if_pos c4] at H
  have c4b0:(t238==0)=true:=beq_iff_eq.mpr c4
  have c4b1:(t238 != 0)=false:=bne_eq_false_iff_eq.mpr c4
  clear c4
  by_cases c5:(a1.size:Int) > 20000
  ·rw [if_pos c5] at H
   have c5b0:decide (20000<(a1.size:Int))=true:=decide_eq_true c5
   have c5b1:decide (20000<a1.size)=true:=decide_eq_true (by omega)
   clear c5
   simp only [Option.some.injEq,Prod.mk.injEq] at H
   obtain ⟨rfl,rfl,rfl⟩:=H
   go_enter Tryd.func15,Tryd.ntmps15
   go_wp2_with (first|((with_reducible refine gate_dst (N:=2) rfl ?_);(try (refine gate_guard (by rfl) ?_;dsimp only));refine box_event ?hg (N:=2) ?hd (cs:=#[.int .i64 a0_0,.slice A0_1 l0_1.length c0_1]) (t:=31) ?hr ?_;(case hd=>rfl);(case hg=>rfl);(case hr=>first|(go_simp;done)|(go_simp;rfl));intro gb236 hg w6 hbox hb;have n0_:=Aside0.mk (below_step (by repeat (first|(with_reducible first|exact HB.out|apply below_alloc|apply pw_below_drewN|apply below_drew1)|exact HB.out)) hb);have n1_:=Aside0.mk (hbox);have n2_:=Aside0.mk ((by rw [hg];exact (below_size (by repeat (first|(with_reducible first|exact HB.out|apply below_alloc|apply pw_below_drewN|apply below_drew1)|exact HB.out))):w.heap.size≤gb236));have n3_:=Aside0.mk ((by rw [hg];exact (below_size (by repeat (first|(with_reducible first|exact HB.out|apply below_alloc|apply pw_below_drewN|apply below_drew1)|exact HB.out))):w.heap.size≤gb236));clear HB;have HB:=n0_;have BK236:=n1_;have GW236:=n2_;have GE236:=n3_;clear n0_ n1_ n2_ n3_;clear hb hbox hg)|((with_reducible refine gate_dst (N:=4) rfl ?_);(try (refine gate_guard (by rfl) ?_;dsimp only));refine box_event ?hg (N:=4) ?hd (cs:=#[.int .i64 0,.int .i64 0,.slice none 0 0]) (t:=39) ?hr ?_;(case hd=>rfl);(case hg=>rfl);(case hr=>first|(go_simp;done)|(go_simp;rfl));intro gb237 hg w7 hbox hb;have n0_:=Aside0.mk (blk_below (g:=gb236) (o:=.cells #[.int .i64 a0_0,.slice A0_1 l0_1.length c0_1] 31 (0,0)) (by (with_reducible repeat (first|refine blk_drewN ?_ _|refine blk_drew ?_|refine blk_alloc ?_ _));exact BK236.out) hb);have n1_:=Aside0.mk (below_step (by repeat (first|(with_reducible first|exact HB.out|apply below_alloc|apply pw_below_drewN|apply below_drew1|refine below_set ?_ GE236.out)|exact HB.out)) hb);have n2_:=Aside0.mk (hbox);have n3_:=Aside0.mk ((by rw [hg];exact (below_size (by repeat (first|(with_reducible first|exact HB.out|apply below_alloc|apply pw_below_drewN|apply below_drew1|refine below_set ?_ GE236.out)|exact HB.out))):w.heap.size≤gb237));have n4_:=Aside0.mk ((by rw [hg];exact (below_size (by repeat (first|(with_reducible first|exact HB.out|apply below_alloc|apply pw_below_drewN|apply below_drew1|refine below_set ?_ GE236.out)|exact HB.out))):w.heap.size≤gb237));have n5_:=Aside0.mk ((by rw [hg];exact Nat.ne_of_lt (blk_lt (g:=gb236) (o:=.cells #[.int .i64 a0_0,.slice A0_1 l0_1.length c0_1] 31 (0,0)) (by (with_reducible repeat (first|refine blk_drewN ?_ _|refine blk_drew ?_|refine blk_alloc ?_ _));exact BK236.out)):gb236 ≠ gb237));have n6_:=Aside0.mk ((by rw [hg];exact Nat.ne_of_gt (blk_lt (g:=gb236) (o:=.cells #[.int .i64 a0_0,.slice A0_1 l0_1.length c0_1] 31 (0,0)) (by (with_reducible repeat (first|refine blk_drewN ?_ _|refine blk_drew ?_|refine blk_alloc ?_ _));exact BK236.out)):gb237 ≠ gb236));clear BK236;clear HB;have BK236:=n0_;have HB:=n1_;have BK237:=n2_;have GW237:=n3_;have GE237:=n4_;have NB236_237:=n5_;have NB237_236:=n6_;clear n0_ n1_ n2_ n3_ n4_ n5_ n6_;clear hb hbox hg;have hnb8:=NB236_237.out;have hnc8:=NB237_236.out;have hcz9_0:w7.cell? ⟨gb236,0,none⟩=some (.int .i64 a0_0):=(blk_cell BK236.out 0).trans rfl;have hcz9_1:w7.cell? ⟨gb236,1,none⟩=some (.slice A0_1 l0_1.length c0_1):=(blk_cell BK236.out 1).trans rfl;have hfz9_0:=blk_frozen BK236.out 0;have hfz9_1:=blk_frozen BK236.out 1)|((with_reducible refine gate_callee (f:=38) rfl ?_);refine goesL_ (some 12) rfl rfl Tryd.func38 (by kernel_rfl) rfl #[.agg #[.int .i64 a0_0,.slice A0_1 l0_1.length c0_1]] rfl (by (try simp only [List.map_toArray,List.map_cons,List.map_nil]);first|done|rfl|(simp only [List.length_drop,List.length_take];rfl)) ?_;(with_reducible refine (spec_LayoutOk.calls k a0_0 _ _ l0_1 t238 _ ?side1 ?side2 A3.out).mono ?_);(case side1=>repeat (first|exact (Kd.C_below HR0_1.out HB.out)|(with_reducible refine Kd.C_alloc ?_ _)|(with_reducible refine Kd.C_drewN ?_ _)|(with_reducible refine Kd.C_drew ?_)));(case side2=>exact HC0_1.out);rintro e w10 ⟨rfl,hb⟩;refine ⟨_,rfl,?_⟩;have n0_:=Aside0.mk (blk_below (g:=gb236) (o:=.cells #[.int .i64 a0_0,.slice A0_1 l0_1.length c0_1] 31 (0,0)) (by (with_reducible repeat (first|refine blk_drewN ?_ _|refine blk_drew ?_|refine blk_alloc ?_ _));exact BK236.out) hb);have n1_:=Aside0.mk (blk_below (g:=gb237) (o:=.cells #[.int .i64 0,.int .i64 0,.slice none 0 0] 39 (0,0)) (by (with_reducible repeat (first|refine blk_drewN ?_ _|refine blk_drew ?_|refine blk_alloc ?_ _));exact BK237.out) hb);have n2_:=Aside0.mk (below_step (by repeat (first|(with_reducible first|exact HB.out|apply below_alloc|apply pw_below_drewN|apply below_drew1|refine below_set ?_ GE236.out|refine below_set ?_ GE237.out)|exact HB.out)) hb);clear BK236;clear BK237;clear HB;have BK236:=n0_;have BK237:=n1_;have HB:=n2_;clear n0_ n1_ n2_;(try clear hb);(try clear hb2);(try clear hk);(try clear hi);have hcz11_0:w10.cell? ⟨gb237,0,none⟩=some (.int .i64 0):=(blk_cell BK237.out 0).trans rfl;have hcz11_1:w10.cell? ⟨gb237,1,none⟩=some (.int .i64 0):=(blk_cell BK237.out 1).trans rfl;have hcz11_2:w10.cell? ⟨gb237,2,none⟩=some (.slice none 0 0):=(blk_cell BK237.out 2).trans rfl;have hfz11_0:=blk_frozen BK237.out 0;have hfz11_1:=blk_frozen BK237.out 1;have hfz11_2:=blk_frozen BK237.out 2))
   refine bodyPost_ret (results_cell_row rfl _ _ gb237 39 #[.int .i64 2,.int .i64 0,.slice none 0 0] (0,0) _ rfl (by (with_reducible repeat (first|refine blk_drewN ?_ _|refine blk_drew ?_|refine blk_alloc ?_ _));refine blk_put (cs:=#[.int .i64 2,.int .i64 0,.slice none 0 0]) ?_ 2 _ rfl;(with_reducible repeat (first|refine blk_drewN ?_ _|refine blk_drew ?_|refine blk_alloc ?_ _));refine blk_put (cs:=#[.int .i64 2,.int .i64 0,.slice none 0 0]) ?_ 1 _ rfl;(with_reducible repeat (first|refine blk_drewN ?_ _|refine blk_drew ?_|refine blk_alloc ?_ _));refine blk_put (cs:=#[.int .i64 0,.int .i64 0,.slice none 0 0]) ?_ 0 _ rfl;(with_reducible repeat (first|refine blk_drewN ?_ _|refine blk_drew ?_|refine blk_alloc ?_ _));exact BK237.out) Tryd.underlying39 rfl (by kernel_rfl)) rfl ?_
   exact ⟨_,by first|rfl|(simp [errW_none,errW_some] <;> rfl)|(simp [*,errW_none,errW_some] <;> rfl),by first|exact Kd.R_nil _ _ _ _ _|exact Kd.N_nil _ _ _ _ _|exact Kd.V_nil _ _ _ _ _|exact Kd.Q_nil _ _ _ _ _|exact Kd.S_nil _ _ _ _ _,by repeat (first|(with_reducible first|exact HB.out|apply below_alloc|apply pw_below_drewN|apply below_drew1|refine below_set ?_ GE236.out|refine below_set ?_ GE237.out)|exact HB.out)⟩
  rw [if_neg c5] at H
  have c5b0:decide (20000<(a1.size:Int))=false:=decide_eq_false c5
  have c5b1:decide (20000<a1.size)=false:=decide_eq_false (by omega)
  clear c5
  have H':=Aside0.mk H
  clear H
  go_enter Tryd.func15,Tryd.ntmps15
  go_wp2_with (first|((with_reducible refine gate_dst (N:=2) rfl ?_);(try (refine gate_guard (by rfl) ?_;dsimp only));refine box_event ?hg (N:=2) ?hd (cs:=#[.int .i64 a0_0,.slice A0_1 l0_1.length c0_1]) (t:=31) ?hr ?_;(case hd=>rfl);(case hg=>rfl);(case hr=>first|(go_simp;done)|(go_simp;rfl));intro gb236 hg w12 hbox hb;have n0_:=Aside0.mk (below_step (by repeat (first|(with_reducible first|exact HB.out|apply below_alloc|apply pw_below_drewN|apply below_drew1)|exact HB.out)) hb);have n1_:=Aside0.mk (hbox);have n2_:=Aside0.mk ((by rw [hg];exact (below_size (by repeat (first|(with_reducible first|exact HB.out|apply below_alloc|apply pw_below_drewN|apply below_drew1)|exact HB.out))):w.heap.size≤gb236));have n3_:=Aside0.mk ((by rw [hg];exact (below_size (by repeat (first|(with_reducible first|exact HB.out|apply below_alloc|apply pw_below_drewN|apply below_drew1)|exact HB.out))):w.heap.size≤gb236));clear HB;have HB:=n0_;have BK236:=n1_;have GW236:=n2_;have GE236:=n3_;clear n0_ n1_ n2_ n3_;clear hb hbox hg)|((with_reducible refine gate_dst (N:=4) rfl ?_);(try (refine gate_guard (by rfl) ?_;dsimp only));refine box_event ?hg (N:=4) ?hd (cs:=#[.int .i64 0,.int .i64 0,.slice none 0 0]) (t:=39) ?hr ?_;(case hd=>rfl);(case hg=>rfl);(case hr=>first|(go_simp;done)|(go_simp;rfl));intro gb237 hg w13 hbox hb;have n0_:=Aside0.mk (blk_below (g:=gb236) (o:=.cells #[.int .i64 a0_0,.slice A0_1 l0_1.length c0_1] 31 (0,0)) (by (with_reducible repeat (first|refine blk_drewN ?_ _|refine blk_drew ?_|refine blk_alloc ?_ _));exact BK236.out) hb);have n1_:=Aside0.mk (below_step (by repeat (first|(with_reducible first|exact HB.out|apply below_alloc|apply pw_below_drewN|apply below_drew1|refine below_set ?_ GE236.out)|exact HB.out)) hb);have n2_:=Aside0.mk (hbox);have n3_:=Aside0.mk ((by rw [hg];exact (below_size (by repeat (first|(with_reducible first|exact HB.out|apply below_alloc|apply pw_below_drewN|apply below_drew1|refine below_set ?_ GE236.out)|exact HB.out))):w.heap.size≤gb237));have n4_:=Aside0.mk ((by rw [hg];exact (below_size (by repeat (first|(with_reducible first|exact HB.out|apply below_alloc|apply pw_below_drewN|apply below_drew1|refine below_set ?_ GE236.out)|exact HB.out))):w.heap.size≤gb237));have n5_:=Aside0.mk ((by rw [hg];exact Nat.ne_of_lt (blk_lt (g:=gb236) (o:=.cells #[.int .i64 a0_0,.slice A0_1 l0_1.length c0_1] 31 (0,0)) (by (with_reducible repeat (first|refine blk_drewN ?_ _|refine blk_drew ?_|refine blk_alloc ?_ _));exact BK236.out)):gb236 ≠ gb237));have n6_:=Aside0.mk ((by rw [hg];exact Nat.ne_of_gt (blk_lt (g:=gb236) (o:=.cells #[.int .i64 a0_0,.slice A0_1 l0_1.length c0_1] 31 (0,0)) (by (with_reducible repeat (first|refine blk_drewN ?_ _|refine blk_drew ?_|refine blk_alloc ?_ _));exact BK236.out)):gb237 ≠ gb236));clear BK236;clear HB;have BK236:=n0_;have HB:=n1_;have BK237:=n2_;have GW237:=n3_;have GE237:=n4_;have NB236_237:=n5_;have NB237_236:=n6_;clear n0_ n1_ n2_ n3_ n4_ n5_ n6_;clear hb hbox hg;have hnb14:=NB236_237.out;have hnc14:=NB237_236.out;have hcz15_0:w13.cell? ⟨gb236,0,none⟩=some (.int .i64 a0_0):=(blk_cell BK236.out 0).trans rfl;have hcz15_1:w13.cell? ⟨gb236,1,none⟩=some (.slice A0_1 l0_1.length c0_1):=(blk_cell BK236.out 1).trans rfl;have hfz15_0:=blk_frozen BK236.out 0;have hfz15_1:=blk_frozen BK236.out 1)|((with_reducible refine gate_callee (f:=38) rfl ?_);refine goesL_ (some 12) rfl rfl Tryd.func38 (by kernel_rfl) rfl #[.agg #[.int .i64 a0_0,.slice A0_1 l0_1.length c0_1]] rfl (by (try simp only [List.map_toArray,List.map_cons,List.map_nil]);first|done|rfl|(simp only [List.length_drop,List.length_take];rfl)) ?_;(with_reducible refine (spec_LayoutOk.calls k a0_0 _ _ l0_1 t238 _ ?side1 ?side2 A3.out).mono ?_);(case side1=>repeat (first|exact (Kd.C_below HR0_1.out HB.out)|(with_reducible refine Kd.C_alloc ?_ _)|(with_reducible refine Kd.C_drewN ?_ _)|(with_reducible refine Kd.C_drew ?_)));(case side2=>exact HC0_1.out);rintro e w16 ⟨rfl,hb⟩;refine ⟨_,rfl,?_⟩;have n0_:=Aside0.mk (blk_below (g:=gb236) (o:=.cells #[.int .i64 a0_0,.slice A0_1 l0_1.length c0_1] 31 (0,0)) (by (with_reducible repeat (first|refine blk_drewN ?_ _|refine blk_drew ?_|refine blk_alloc ?_ _));exact BK236.out) hb);have n1_:=Aside0.mk (blk_below (g:=gb237) (o:=.cells #[.int .i64 0,.int .i64 0,.slice none 0 0] 39 (0,0)) (by (with_reducible repeat (first|refine blk_drewN ?_ _|refine blk_drew ?_|refine blk_alloc ?_ _));exact BK237.out) hb);have n2_:=Aside0.mk (below_step (by repeat (first|(with_reducible first|exact HB.out|apply below_alloc|apply pw_below_drewN|apply below_drew1|refine below_set ?_ GE236.out|refine below_set ?_ GE237.out)|exact HB.out)) hb);clear BK236;clear BK237;clear HB;have BK236:=n0_;have BK237:=n1_;have HB:=n2_;clear n0_ n1_ n2_;(try clear hb);(try clear hb2);(try clear hk);(try clear hi)))
  go_loopg [5,6,7,8] k (fun kq v5 v6 v7 v8 w'=>∃ (x5_1:List (S52)) (x6_1:Int) (x7_1:Int) (x8_1:Int) (x238000_1:Int) (x238001_1:Int),v6=.int .i64 x6_1∧v7=.int .i64 x7_1∧v8=.int .i64 x8_1∧Aside0 (spec_ReadEvents.l0 kq a1 x5_1 x6_1 x7_1 x8_1 a0_0 l0_1=some (r1,r2,r3))∧Aside0 (kq≤k)∧Aside0 (Kd.R k52 52 w' w.heap.size (fun _=>True) v5 x5_1)∧Aside0 (w'.heap[gb236]?=some (.cells #[.int .i64 a0_0,(.slice A0_1 l0_1.length c0_1)] 31 (0,0)))∧Aside0 (w'.heap[gb237]?=some (.cells #[.int .i64 x238000_1,.int .i64 x238001_1,(.slice none 0 0)] 39 (0,0)))∧Aside0 (Below w.heap.size w w'))
  case atStart=>exact ⟨(([]:List (S52))),(0),(0),(0),(0),(0),(by first|rfl|(simp;done)|(simp [*];done)),(by first|rfl|(simp;done)|(simp [*];done)),(by first|rfl|(simp;done)|(simp [*];done)),H',⟨Nat.le_refl _⟩,⟨by first|exact Kd.R_nil _ _ _ _ _|exact Kd.N_nil _ _ _ _ _|exact Kd.V_nil _ _ _ _ _|exact Kd.Q_nil _ _ _ _ _|exact Kd.S_nil _ _ _ _ _⟩,⟨by (with_reducible repeat (first|refine blk_drewN ?_ _|refine blk_drew ?_|refine blk_alloc ?_ _));exact BK236.out⟩,⟨by (with_reducible repeat (first|refine blk_drewN ?_ _|refine blk_drew ?_|refine blk_alloc ?_ _));exact BK237.out⟩,⟨by repeat (first|(with_reducible first|exact HB.out|apply below_alloc|apply pw_below_drewN|apply below_drew1|refine below_set ?_ GE236.out|refine below_set ?_ GE237.out)|exact HB.out)⟩⟩
  case round =>
   clear H'
   try clear c1
   try clear p2
   try clear c3
   try clear c4
   try clear c4b0
   try clear c4b1
   try clear c5
   try clear c5b0
   try clear c5b1
   try clear c8
   try clear c14
   try clear c15
   try clear hcz11_0
   try clear hcz11_1
   try clear hcz11_2
   try clear hcz15_0
   try clear hcz15_1
   try clear hcz9_0
   try clear hcz9_1
   try clear hfz11_0
   try clear hfz11_1
   try clear hfz11_2
   try clear hfz15_0
   try clear hfz15_1
   try clear hfz9_0
   try clear hfz9_1
   obtain ⟨x5_1,x6_1,x7_1,x8_1,x238000_1,x238001_1,rfl,rfl,rfl,HA,HK1,HO_5,BK236,BK237,HB⟩:=hrel
   cases gk with
   | zero=>exact absurd HA.out (by simp [spec_ReadEvents.l0])
   | succ k1 =>
    have H:=HA.out
    clear HA
    simp only [spec_ReadEvents.l0] at H
    by_cases c17:x8_1<(a1.size:Int)
    ·rw [if_pos c17] at H
     have c17b0:decide (x8_1<(a1.size:Int))=true:=decide_eq_true c17
     clear c17
     by_cases c18:0≤x8_1
     ·rw [if_pos c18] at H
      have c18b0:decide (0≤x8_1)=true:=decide_eq_true c18
      clear c18
      by_cases c20:(bt a1 x8_1)=10
      ·rw [if_pos c20] at H
       have c20b0:((bt a1 x8_1)==10)=true:=beq_iff_eq.mpr c20
       have c20b1:((bt a1 x8_1) != 10)=false:=bne_eq_false_iff_eq.mpr c20
       clear c20
       by_cases c21:0≤x6_1
       ·rw [if_pos c21] at H
        have c21b0:=eq_true c21
        have c21b1:decide (0≤x6_1)=true:=decide_eq_true c21
        clear c21
        by_cases c22:x6_1≤x8_1
        ·rw [if_pos c22] at H
         have c22b0:=eq_true c22
         have c22b1:decide (x6_1≤x8_1)=true:=decide_eq_true c22
         clear c22
         by_cases c23:x8_1≤(a1.size:Int)
         ·rw [if_pos c23] at H
          have c23b0:=eq_true c23
          have c23b1:decide (x8_1≤(a1.size:Int))=true:=decide_eq_true c23
          clear c23
          replace H:=Option.bind_eq_some_iff.mp H
          obtain ⟨⟨t239,t240,t241,t242⟩,A240,H⟩:=H
          replace H:(if t242=true then (if (x5_1.length:Int)=2000 then (some (3,wrap64 (x7_1+1),([]:List (S52)))) else (if x5_1.length<5864062014805 then (spec_ReadEvents.l0 k1 a1 (x5_1 ++ [(⟨t239,t240,t241⟩:S52)]) (wrap64 (x8_1+1)) (wrap64 (x7_1+1)) (wrap64 (x8_1+1)) a0_0 l0_1) else (none))) else (some (3,wrap64 (x7_1+1),([]:List (S52)))))=some (r1,r2,r3):=H
          have A24:=Aside0.mk A240
          clear A240
          by_cases c25:t242=true
          ·subst c25
           have H1:(if (x5_1.length:Int)=2000 then (some (3,wrap64 (x7_1+1),([]:List (S52)))) else (if x5_1.length<5864062014805 then (spec_ReadEvents.l0 k1 a1 (x5_1 ++ [(⟨t239,t240,t241⟩:S52)]) (wrap64 (x8_1+1)) (wrap64 (x7_1+1)) (wrap64 (x8_1+1)) a0_0 l0_1) else (none)))=some (r1,r2,r3):=by rw [if_pos rfl] at H;exact H
           clear H
           have H:=H1
           clear H1
           by_cases c26:(x5_1.length:Int)=2000
           ·rw [if_pos c26] at H
            have c26b0:((x5_1.length:Int)==2000)=true:=beq_iff_eq.mpr c26
            have c26b1:((x5_1.length:Int) != 2000)=false:=bne_eq_false_iff_eq.mpr c26
            clear c26
            simp only [Option.some.injEq,Prod.mk.injEq] at H
            obtain ⟨rfl,rfl,rfl⟩:=H
            have p19:0≤(x8_1:Int):=of_decide_eq_true (by first|(with_reducible assumption)|assumption)
            have q19:x8_1<(a1.size:Int):=of_decide_eq_true (by first|(with_reducible assumption)|assumption)
            have hx19:=bt_at a1 x8_1
            replace p19:=eq_true p19
            replace q19:=eq_true q19
            try go_wp2
            have n0_:=Aside0.mk (Kd.R_drew HO_5.out)
            have n1_:=Aside0.mk (blk_drew BK236.out)
            have n2_:=Aside0.mk (blk_drew BK237.out)
            have n3_:=Aside0.mk (below_drew1 HB.out)
            clear HO_5
            clear BK236
            clear BK237
            clear HB
            have HO_5:=n0_
            have BK236:=n1_
            have BK237:=n2_
            have HB:=n3_
            clear n0_ n1_ n2_ n3_
            refine start_ (n:=12) (S:=fun w'=>w'.cell? ⟨gb236,0,none⟩=some (.int .i64 a0_0)∧w'.cell? ⟨gb236,1,none⟩=some (.slice A0_1 l0_1.length c0_1)) (ds:=[]) #[false,false,false,false,false,false,false,false,false,false,false,false] (by kernel_rfl) rfl rfl ⟨(blk_cell BK236.out 0).trans rfl,(blk_cell BK236.out 1).trans rfl⟩ (fun hHeld=>?_);refine with_tabW spec_ReadEvents.tab13 spec_ReadEvents.bits13 (fun HT_ HW_=>?_)
            generalize wr.drew=w27 at HO_5 BK236 BK237 HB hHeld ⊢
            refine pure_ (i:=1) (N:=some 33) (v:=?_) (a':=?_) #[false,true,false,false,false,false,false,false,false,false,false,false] rfl rfl (any_of HT_.out (by kernel_rfl)) (fun _ _ _ h=>h) (Or.inl ⟨by rfl,?_⟩) ?_ ?_
            rotate_left
            ·intro w'
             go_simp
             with_reducible rfl
            rotate_left
            ·simp only [Act.put,List.setIfInBounds_toArray,List.set_cons_zero,List.set_cons_succ,i64_w,i32_w]
             rfl
            refine pure_ (i:=2) (N:=some 34) (v:=?_) (a':=?_) #[false,true,true,false,false,false,false,false,false,false,false,false] rfl rfl (any_of HT_.out (by kernel_rfl)) (fun _ _ _ h=>h) (Or.inl ⟨by rfl,?_⟩) ?_ ?_
            rotate_left
            ·intro w'
             go_simp
             with_reducible rfl
            rotate_left
            ·simp only [Act.put,List.setIfInBounds_toArray,List.set_cons_zero,List.set_cons_succ,i64_w,i32_w]
             rfl
            refine pure_ (i:=3) (N:=some 35) (v:=?_) (a':=?_) #[false,true,true,true,false,false,false,false,false,false,false,false] rfl rfl (any_of HT_.out (by kernel_rfl)) (fun _ _ _ h=>h) (Or.inl ⟨by rfl,?_⟩) ?_ ?_
            rotate_left
            ·intro w'
             go_simp
             with_reducible rfl
            rotate_left
            ·simp only [Act.put,List.setIfInBounds_toArray,List.set_cons_zero,List.set_cons_succ,i64_w,i32_w]
             rfl
            refine pure_ (i:=4) (N:=some 36) (v:=?_) (a':=?_) #[false,true,true,true,true,false,false,false,false,false,false,false] rfl rfl (any_of HT_.out (by kernel_rfl)) (fun _ _ _ h=>h) (Or.inl ⟨by rfl,?_⟩) ?_ ?_
            rotate_left
            ·intro w'
             go_simp
             with_reducible rfl
            rotate_left
            ·simp only [Act.put,List.setIfInBounds_toArray,List.set_cons_zero,List.set_cons_succ,i64_w,i32_w]
             rfl
            refine take_ (i:=0) (N:=some 32) (v:=?_) (a':=?_) #[true,true,true,true,true,false,false,false,false,false,false,false] rfl rfl (take_ofW HT_.out HW_.out (by kernel_rfl)) (fun _ _ _ h=>h) (Or.inl ⟨by rfl,?_⟩) hHeld ?_ ?_
            rotate_left
            ·rintro w' ⟨s0,s1⟩
             go_simp
             with_reducible rfl
            rotate_left
            ·simp only [Act.put,List.setIfInBounds_toArray,List.set_cons_zero,List.set_cons_succ,i64_w,i32_w]
             rfl
            refine join_ (σ:=Nat) 2 #[true,true,true,true,true,true,true,true,true,true,false,false] (fun s_=>[(37,.tuple #[.agg #[.int .i64 t239,.int .i64 t240,.int .i64 t241],.bool true]),(9,.pointer (some ⟨s_,0,none⟩)),(31,.tuple #[.agg #[.int .i64 t239,.int .i64 t240,.int .i64 t241],.bool true]),(38,.agg #[.int .i64 t239,.int .i64 t240,.int .i64 t241]),(39,.bool true)]) (fun s_ w'=>(w'.cell? ⟨gb236,0,none⟩=some (.int .i64 a0_0)∧w'.cell? ⟨gb236,1,none⟩=some (.slice A0_1 l0_1.length c0_1))∧(Kd.R k52 52 w' w.heap.size (fun k_=>k_ ≠ s_) u5 x5_1)∧(w'.heap[gb236]?=some (.cells #[.int .i64 a0_0,.slice A0_1 l0_1.length c0_1] 31 (0,0)))∧(w'.heap[gb237]?=some (.cells #[.int .i64 x238000_1,.int .i64 x238001_1,.slice none 0 0] 39 (0,0)))∧(w'.heap[s_]?=some (.cells #[.int .i64 0,.int .i64 0,.int .i64 0] 52 (0,0)))∧(w.heap.size≤s_)∧(w.heap.size≤s_)∧(gb236 ≠ s_)∧(s_ ≠ gb236)∧(gb237 ≠ s_)∧(s_ ≠ gb237)∧(Below w.heap.size w w')) ?_ ?_
            rotate_left
            ·intro hCont
             refine two_ (i:=5) (j:=9) (Ni:=some 37) (Nj:=some 9) #[true,true,true,true,true,true,false,false,false,false,false,false] #[true,true,true,true,true,false,false,false,false,true,false,false] rfl rfl rfl rfl (two_of HT_.out (by kernel_rfl)) (by decide) (by decide) (fun K hK=>?_) (fun K hK=>?_)
             ·skip
              refine goes_ Tryd.func39 (by kernel_rfl) rfl #[.agg #[.int .i64 a0_0,.slice A0_1 l0_1.length c0_1],.string (a1.extract (x6_1:Int).toNat (x8_1:Int).toNat)] (by rfl) rfl rfl (by (try simp only [List.map_toArray,List.map_cons,List.map_nil]);first|done|rfl|(simp only [List.length_drop,List.length_take];rfl)) ?_
              with_reducible refine (spec_l4event.calls k1 a0_0 _ _ l0_1 (a1.extract (x6_1:Int).toNat (x8_1:Int).toNat) t239 t240 t241 true _ ?side1 ?side2 A24.out).mono ?_
              (case side1=>repeat (first|exact (Kd.C_below HR0_1.out HB.out)|(with_reducible refine Kd.C_alloc ?_ _)|(with_reducible refine Kd.C_drewN ?_ _)|(with_reducible refine Kd.C_drew ?_)))
              (case side2=>exact HC0_1.out)
              rintro e w28 ⟨rfl,hb⟩
              refine ⟨_,rfl,?_⟩
              have n0_:=Aside0.mk (Kd.R_below (by (with_reducible repeat (first|apply Kd.R_alloc|apply Kd.R_drewN|apply Kd.R_drew));exact HO_5.out) hb)
              have n1_:=Aside0.mk (blk_below (g:=gb236) (o:=.cells #[.int .i64 a0_0,.slice A0_1 l0_1.length c0_1] 31 (0,0)) (by (with_reducible repeat (first|refine blk_drewN ?_ _|refine blk_drew ?_|refine blk_alloc ?_ _));exact BK236.out) hb)
              have n2_:=Aside0.mk (blk_below (g:=gb237) (o:=.cells #[.int .i64 x238000_1,.int .i64 x238001_1,.slice none 0 0] 39 (0,0)) (by (with_reducible repeat (first|refine blk_drewN ?_ _|refine blk_drew ?_|refine blk_alloc ?_ _));exact BK237.out) hb)
              have n3_:=Aside0.mk (below_step (by repeat (first|(with_reducible first|exact HB.out|apply below_alloc|apply pw_below_drewN|apply below_drew1|refine below_set ?_ GE236.out|refine below_set ?_ GE237.out)|exact HB.out)) hb)
              clear HO_5
              clear BK236
              clear BK237
              clear HB
              have HO_5:=n0_
              have BK236:=n1_
              have BK237:=n2_
              have HB:=n3_
              clear n0_ n1_ n2_ n3_
              (try clear hb)
              (try clear hb2)
              (try clear hk)
              (try clear hi)
              refine hK.out _ _ ⟨(blk_cell BK236.out 0).trans rfl,(blk_cell BK236.out 1).trans rfl⟩ (fun hHeld=>?_)
              clear hK K
              refine norm_ (a':=?_) ?_ ?_
              rotate_left
              ·show Act.put _ (some 37) _=_
               simp only [Act.put,List.setIfInBounds_toArray,List.set_cons_zero,List.set_cons_succ,i64_w,i32_w]
               rfl
              refine pure_ (i:=6) (N:=some 31) (v:=?_) (a':=?_) #[true,true,true,true,true,true,true,false,false,false,false,false] rfl rfl (any_of HT_.out (by kernel_rfl)) (fun _ _ _ h=>h) (Or.inl ⟨by rfl,?_⟩) ?_ ?_
              rotate_left
              ·intro w'
               go_simp
               with_reducible rfl
              rotate_left
              ·simp only [Act.put,List.setIfInBounds_toArray,List.set_cons_zero,List.set_cons_succ,i64_w,i32_w]
               rfl
              refine pure_ (i:=7) (N:=some 38) (v:=?_) (a':=?_) #[true,true,true,true,true,true,true,true,false,false,false,false] rfl rfl (any_of HT_.out (by kernel_rfl)) (fun _ _ _ h=>h) (Or.inl ⟨by rfl,?_⟩) ?_ ?_
              rotate_left
              ·intro w'
               go_simp
               with_reducible rfl
              rotate_left
              ·simp only [Act.put,List.setIfInBounds_toArray,List.set_cons_zero,List.set_cons_succ,i64_w,i32_w]
               rfl
              refine pure_ (i:=8) (N:=some 39) (v:=?_) (a':=?_) #[true,true,true,true,true,true,true,true,true,false,false,false] rfl rfl (any_of HT_.out (by kernel_rfl)) (fun _ _ _ h=>h) (Or.inl ⟨by rfl,?_⟩) ?_ ?_
              rotate_left
              ·intro w'
               go_simp
               with_reducible rfl
              rotate_left
              ·simp only [Act.put,List.setIfInBounds_toArray,List.set_cons_zero,List.set_cons_succ,i64_w,i32_w]
               rfl
              refine one_ (i:=9) (N:=some 9) #[true,true,true,true,true,true,true,true,true,true,false,false] rfl rfl (one_of HT_.out (by kernel_rfl)) (by decide) (fun K hK=>?_)
              refine box_step ?hg (N:=9) ?hd (cs:=#[.int .i64 0,.int .i64 0,.int .i64 0]) (t:=52) ?hr ?_;(case hd=>rfl);(case hg=>rfl);(case hr=>first|(go_simp;done)|(go_simp;rfl))
              intro gb243 hg w29 hbox hb
              have n0_:=Aside0.mk (Kd.R_below (Kd.R_elderB (by (with_reducible repeat (first|apply Kd.R_alloc|apply Kd.R_drewN|apply Kd.R_drew));exact HO_5.out) gb243 (Nat.le_of_eq hg.symm)) hb)
              have n1_:=Aside0.mk (blk_below (g:=gb236) (o:=.cells #[.int .i64 a0_0,.slice A0_1 l0_1.length c0_1] 31 (0,0)) (by (with_reducible repeat (first|refine blk_drewN ?_ _|refine blk_drew ?_|refine blk_alloc ?_ _));exact BK236.out) hb)
              have n2_:=Aside0.mk (blk_below (g:=gb237) (o:=.cells #[.int .i64 x238000_1,.int .i64 x238001_1,.slice none 0 0] 39 (0,0)) (by (with_reducible repeat (first|refine blk_drewN ?_ _|refine blk_drew ?_|refine blk_alloc ?_ _));exact BK237.out) hb)
              have n3_:=Aside0.mk (below_step (by repeat (first|(with_reducible first|exact HB.out|apply below_alloc|apply pw_below_drewN|apply below_drew1|refine below_set ?_ GE236.out|refine below_set ?_ GE237.out)|exact HB.out)) hb)
              have n4_:=Aside0.mk (hbox)
              have n5_:=Aside0.mk ((by rw [hg];exact (below_size (by repeat (first|(with_reducible first|exact HB.out|apply below_alloc|apply pw_below_drewN|apply below_drew1|refine below_set ?_ GE236.out|refine below_set ?_ GE237.out)|exact HB.out))):w.heap.size≤gb243))
              have n6_:=Aside0.mk ((by rw [hg];exact (below_size (by repeat (first|(with_reducible first|exact HB.out|apply below_alloc|apply pw_below_drewN|apply below_drew1|refine below_set ?_ GE236.out|refine below_set ?_ GE237.out)|exact HB.out))):w.heap.size≤gb243))
              have n7_:=Aside0.mk ((by rw [hg];exact Nat.ne_of_lt (blk_lt (g:=gb236) (o:=.cells #[.int .i64 a0_0,.slice A0_1 l0_1.length c0_1] 31 (0,0)) (by (with_reducible repeat (first|refine blk_drewN ?_ _|refine blk_drew ?_|refine blk_alloc ?_ _));exact BK236.out)):gb236 ≠ gb243))
              have n8_:=Aside0.mk ((by rw [hg];exact Nat.ne_of_gt (blk_lt (g:=gb236) (o:=.cells #[.int .i64 a0_0,.slice A0_1 l0_1.length c0_1] 31 (0,0)) (by (with_reducible repeat (first|refine blk_drewN ?_ _|refine blk_drew ?_|refine blk_alloc ?_ _));exact BK236.out)):gb243 ≠ gb236))
              have n9_:=Aside0.mk ((by rw [hg];exact Nat.ne_of_lt (blk_lt (g:=gb237) (o:=.cells #[.int .i64 x238000_1,.int .i64 x238001_1,.slice none 0 0] 39 (0,0)) (by (with_reducible repeat (first|refine blk_drewN ?_ _|refine blk_drew ?_|refine blk_alloc ?_ _));exact BK237.out)):gb237 ≠ gb243))
              have n10_:=Aside0.mk ((by rw [hg];exact Nat.ne_of_gt (blk_lt (g:=gb237) (o:=.cells #[.int .i64 x238000_1,.int .i64 x238001_1,.slice none 0 0] 39 (0,0)) (by (with_reducible repeat (first|refine blk_drewN ?_ _|refine blk_drew ?_|refine blk_alloc ?_ _));exact BK237.out)):gb243 ≠ gb237))
              clear HO_5
              clear BK236
              clear BK237
              clear HB
              have HO_5:=n0_
              have BK236:=n1_
              have BK237:=n2_
              have HB:=n3_
              have BK243:=n4_
              have GW243:=n5_
              have GE243:=n6_
              have NB236_243:=n7_
              have NB243_236:=n8_
              have NB237_243:=n9_
              have NB243_237:=n10_
              clear n0_ n1_ n2_ n3_ n4_ n5_ n6_ n7_ n8_ n9_ n10_
              clear hb hbox hg
              refine hK.out _ _ ⟨(blk_cell BK236.out 0).trans rfl,(blk_cell BK236.out 1).trans rfl⟩ (fun hHeld=>?_)
              clear hK K
              refine norm_ (a':=?_) ?_ ?_
              rotate_left
              ·show Act.put _ (some 9) _=_
               simp only [Act.put,List.setIfInBounds_toArray,List.set_cons_zero,List.set_cons_succ,i64_w,i32_w]
               rfl
              exact norm_ (by simp only [putAll,Act.put,List.setIfInBounds_toArray,List.set_cons_zero,List.set_cons_succ]) (hCont (gb243) _ ⟨hHeld,(by (with_reducible repeat (first|apply Kd.R_alloc|apply Kd.R_drewN|apply Kd.R_drew));exact Kd.R_mono HO_5.out (fun _ hk=>hk.2)),(by (with_reducible repeat (first|refine blk_drewN ?_ _|refine blk_drew ?_|refine blk_alloc ?_ _));exact BK236.out),(by (with_reducible repeat (first|refine blk_drewN ?_ _|refine blk_drew ?_|refine blk_alloc ?_ _));exact BK237.out),(by (with_reducible repeat (first|refine blk_drewN ?_ _|refine blk_drew ?_|refine blk_alloc ?_ _));exact BK243.out),GW243.out,GE243.out,NB236_243.out,NB243_236.out,NB237_243.out,NB243_237.out,(by repeat (first|(with_reducible first|exact HB.out|apply below_alloc|apply pw_below_drewN|apply below_drew1|refine below_set ?_ GE236.out|refine below_set ?_ GE237.out|refine below_set ?_ GE243.out)|exact HB.out))⟩)
             skip
             refine box_step ?hg (N:=9) ?hd (cs:=#[.int .i64 0,.int .i64 0,.int .i64 0]) (t:=52) ?hr ?_;(case hd=>rfl);(case hg=>rfl);(case hr=>first|(go_simp;done)|(go_simp;rfl))
             intro gb243 hg w28 hbox hb
             have n0_:=Aside0.mk (Kd.R_below (Kd.R_elderB (by (with_reducible repeat (first|apply Kd.R_alloc|apply Kd.R_drewN|apply Kd.R_drew));exact HO_5.out) gb243 (Nat.le_of_eq hg.symm)) hb)
             have n1_:=Aside0.mk (blk_below (g:=gb236) (o:=.cells #[.int .i64 a0_0,.slice A0_1 l0_1.length c0_1] 31 (0,0)) (by (with_reducible repeat (first|refine blk_drewN ?_ _|refine blk_drew ?_|refine blk_alloc ?_ _));exact BK236.out) hb)
             have n2_:=Aside0.mk (blk_below (g:=gb237) (o:=.cells #[.int .i64 x238000_1,.int .i64 x238001_1,.slice none 0 0] 39 (0,0)) (by (with_reducible repeat (first|refine blk_drewN ?_ _|refine blk_drew ?_|refine blk_alloc ?_ _));exact BK237.out) hb)
             have n3_:=Aside0.mk (below_step (by repeat (first|(with_reducible first|exact HB.out|apply below_alloc|apply pw_below_drewN|apply below_drew1|refine below_set ?_ GE236.out|refine below_set ?_ GE237.out)|exact HB.out)) hb)
             have n4_:=Aside0.mk (hbox)
             have n5_:=Aside0.mk ((by rw [hg];exact (below_size (by repeat (first|(with_reducible first|exact HB.out|apply below_alloc|apply pw_below_drewN|apply below_drew1|refine below_set ?_ GE236.out|refine below_set ?_ GE237.out)|exact HB.out))):w.heap.size≤gb243))
             have n6_:=Aside0.mk ((by rw [hg];exact (below_size (by repeat (first|(with_reducible first|exact HB.out|apply below_alloc|apply pw_below_drewN|apply below_drew1|refine below_set ?_ GE236.out|refine below_set ?_ GE237.out)|exact HB.out))):w.heap.size≤gb243))
             have n7_:=Aside0.mk ((by rw [hg];exact Nat.ne_of_lt (blk_lt (g:=gb236) (o:=.cells #[.int .i64 a0_0,.slice A0_1 l0_1.length c0_1] 31 (0,0)) (by (with_reducible repeat (first|refine blk_drewN ?_ _|refine blk_drew ?_|refine blk_alloc ?_ _));exact BK236.out)):gb236 ≠ gb243))
             have n8_:=Aside0.mk ((by rw [hg];exact Nat.ne_of_gt (blk_lt (g:=gb236) (o:=.cells #[.int .i64 a0_0,.slice A0_1 l0_1.length c0_1] 31 (0,0)) (by (with_reducible repeat (first|refine blk_drewN ?_ _|refine blk_drew ?_|refine blk_alloc ?_ _));exact BK236.out)):gb243 ≠ gb236))
             have n9_:=Aside0.mk ((by rw [hg];exact Nat.ne_of_lt (blk_lt (g:=gb237) (o:=.cells #[.int .i64 x238000_1,.int .i64 x238001_1,.slice none 0 0] 39 (0,0)) (by (with_reducible repeat (first|refine blk_drewN ?_ _|refine blk_drew ?_|refine blk_alloc ?_ _));exact BK237.out)):gb237 ≠ gb243))
             have n10_:=Aside0.mk ((by rw [hg];exact Nat.ne_of_gt (blk_lt (g:=gb237) (o:=.cells #[.int .i64 x238000_1,.int .i64 x238001_1,.slice none 0 0] 39 (0,0)) (by (with_reducible repeat (first|refine blk_drewN ?_ _|refine blk_drew ?_|refine blk_alloc ?_ _));exact BK237.out)):gb243 ≠ gb237))
             clear HO_5
             clear BK236
             clear BK237
             clear HB
             have HO_5:=n0_
             have BK236:=n1_
             have BK237:=n2_
             have HB:=n3_
             have BK243:=n4_
             have GW243:=n5_
             have GE243:=n6_
             have NB236_243:=n7_
             have NB243_236:=n8_
             have NB237_243:=n9_
             have NB243_237:=n10_
             clear n0_ n1_ n2_ n3_ n4_ n5_ n6_ n7_ n8_ n9_ n10_
             clear hb hbox hg
             refine hK.out _ _ ⟨(blk_cell BK236.out 0).trans rfl,(blk_cell BK236.out 1).trans rfl⟩ (fun hHeld=>?_)
             clear hK K
             refine norm_ (a':=?_) ?_ ?_
             rotate_left
             ·show Act.put _ (some 9) _=_
              simp only [Act.put,List.setIfInBounds_toArray,List.set_cons_zero,List.set_cons_succ,i64_w,i32_w]
              rfl
             refine one_ (i:=5) (N:=some 37) #[true,true,true,true,true,true,false,false,false,true,false,false] rfl rfl (one_of HT_.out (by kernel_rfl)) (by decide) (fun K hK=>?_)
             refine goes_ Tryd.func39 (by kernel_rfl) rfl #[.agg #[.int .i64 a0_0,.slice A0_1 l0_1.length c0_1],.string (a1.extract (x6_1:Int).toNat (x8_1:Int).toNat)] (by rfl) rfl rfl (by (try simp only [List.map_toArray,List.map_cons,List.map_nil]);first|done|rfl|(simp only [List.length_drop,List.length_take];rfl)) ?_
             with_reducible refine (spec_l4event.calls k1 a0_0 _ _ l0_1 (a1.extract (x6_1:Int).toNat (x8_1:Int).toNat) t239 t240 t241 true _ ?side1 ?side2 A24.out).mono ?_
             (case side1=>repeat (first|exact (Kd.C_below HR0_1.out HB.out)|(with_reducible refine Kd.C_alloc ?_ _)|(with_reducible refine Kd.C_drewN ?_ _)|(with_reducible refine Kd.C_drew ?_)))
             (case side2=>exact HC0_1.out)
             rintro e w29 ⟨rfl,hb⟩
             refine ⟨_,rfl,?_⟩
             have n0_:=Aside0.mk (Kd.R_below (by (with_reducible repeat (first|apply Kd.R_alloc|apply Kd.R_drewN|apply Kd.R_drew));exact HO_5.out) hb)
             have n1_:=Aside0.mk (blk_below (g:=gb236) (o:=.cells #[.int .i64 a0_0,.slice A0_1 l0_1.length c0_1] 31 (0,0)) (by (with_reducible repeat (first|refine blk_drewN ?_ _|refine blk_drew ?_|refine blk_alloc ?_ _));exact BK236.out) hb)
             have n2_:=Aside0.mk (blk_below (g:=gb237) (o:=.cells #[.int .i64 x238000_1,.int .i64 x238001_1,.slice none 0 0] 39 (0,0)) (by (with_reducible repeat (first|refine blk_drewN ?_ _|refine blk_drew ?_|refine blk_alloc ?_ _));exact BK237.out) hb)
             have n3_:=Aside0.mk (blk_below (g:=gb243) (o:=.cells #[.int .i64 0,.int .i64 0,.int .i64 0] 52 (0,0)) (by (with_reducible repeat (first|refine blk_drewN ?_ _|refine blk_drew ?_|refine blk_alloc ?_ _));exact BK243.out) hb)
             have n4_:=Aside0.mk (below_step (by repeat (first|(with_reducible first|exact HB.out|apply below_alloc|apply pw_below_drewN|apply below_drew1|refine below_set ?_ GE236.out|refine below_set ?_ GE237.out|refine below_set ?_ GE243.out)|exact HB.out)) hb)
             clear HO_5
             clear BK236
             clear BK237
             clear BK243
             clear HB
             have HO_5:=n0_
             have BK236:=n1_
             have BK237:=n2_
             have BK243:=n3_
             have HB:=n4_
             clear n0_ n1_ n2_ n3_ n4_
             (try clear hb)
             (try clear hb2)
             (try clear hk)
             (try clear hi)
             refine hK.out _ _ ⟨(blk_cell BK236.out 0).trans rfl,(blk_cell BK236.out 1).trans rfl⟩ (fun hHeld=>?_)
             clear hK K
             refine norm_ (a':=?_) ?_ ?_
             rotate_left
             ·show Act.put _ (some 37) _=_
              simp only [Act.put,List.setIfInBounds_toArray,List.set_cons_zero,List.set_cons_succ,i64_w,i32_w]
              rfl
             refine pure_ (i:=6) (N:=some 31) (v:=?_) (a':=?_) #[true,true,true,true,true,true,true,false,false,true,false,false] rfl rfl (any_of HT_.out (by kernel_rfl)) (fun _ _ _ h=>h) (Or.inl ⟨by rfl,?_⟩) ?_ ?_
             rotate_left
             ·intro w'
              go_simp
              with_reducible rfl
             rotate_left
             ·simp only [Act.put,List.setIfInBounds_toArray,List.set_cons_zero,List.set_cons_succ,i64_w,i32_w]
              rfl
             refine pure_ (i:=7) (N:=some 38) (v:=?_) (a':=?_) #[true,true,true,true,true,true,true,true,false,true,false,false] rfl rfl (any_of HT_.out (by kernel_rfl)) (fun _ _ _ h=>h) (Or.inl ⟨by rfl,?_⟩) ?_ ?_
             rotate_left
             ·intro w'
              go_simp
              with_reducible rfl
             rotate_left
             ·simp only [Act.put,List.setIfInBounds_toArray,List.set_cons_zero,List.set_cons_succ,i64_w,i32_w]
              rfl
             refine pure_ (i:=8) (N:=some 39) (v:=?_) (a':=?_) #[true,true,true,true,true,true,true,true,true,true,false,false] rfl rfl (any_of HT_.out (by kernel_rfl)) (fun _ _ _ h=>h) (Or.inl ⟨by rfl,?_⟩) ?_ ?_
             rotate_left
             ·intro w'
              go_simp
              with_reducible rfl
             rotate_left
             ·simp only [Act.put,List.setIfInBounds_toArray,List.set_cons_zero,List.set_cons_succ,i64_w,i32_w]
              rfl
             exact norm_ (by simp only [putAll,Act.put,List.setIfInBounds_toArray,List.set_cons_zero,List.set_cons_succ]) (hCont (gb243) _ ⟨hHeld,(by (with_reducible repeat (first|apply Kd.R_alloc|apply Kd.R_drewN|apply Kd.R_drew));exact Kd.R_mono HO_5.out (fun _ hk=>hk.2)),(by (with_reducible repeat (first|refine blk_drewN ?_ _|refine blk_drew ?_|refine blk_alloc ?_ _));exact BK236.out),(by (with_reducible repeat (first|refine blk_drewN ?_ _|refine blk_drew ?_|refine blk_alloc ?_ _));exact BK237.out),(by (with_reducible repeat (first|refine blk_drewN ?_ _|refine blk_drew ?_|refine blk_alloc ?_ _));exact BK243.out),GW243.out,GE243.out,NB236_243.out,NB243_236.out,NB237_243.out,NB243_237.out,(by repeat (first|(with_reducible first|exact HB.out|apply below_alloc|apply pw_below_drewN|apply below_drew1|refine below_set ?_ GE236.out|refine below_set ?_ GE237.out|refine below_set ?_ GE243.out)|exact HB.out))⟩)
            rintro gb243 w30 ⟨hS_,h0_,h1_,h2_,h3_,h4_,h5_,h6_,h7_,h8_,h9_,h10_⟩
            have n0_:Aside0 (Kd.R k52 52 w30 w.heap.size (fun k_=>k_ ≠ gb243) u5 x5_1):=⟨h0_⟩
            have n1_:Aside0 (w30.heap[gb236]?=some (.cells #[.int .i64 a0_0,.slice A0_1 l0_1.length c0_1] 31 (0,0))):=⟨h1_⟩
            have n2_:Aside0 (w30.heap[gb237]?=some (.cells #[.int .i64 x238000_1,.int .i64 x238001_1,.slice none 0 0] 39 (0,0))):=⟨h2_⟩
            have n3_:Aside0 (w30.heap[gb243]?=some (.cells #[.int .i64 0,.int .i64 0,.int .i64 0] 52 (0,0))):=⟨h3_⟩
            have n4_:Aside0 (w.heap.size≤gb243):=⟨h4_⟩
            have n5_:Aside0 (w.heap.size≤gb243):=⟨h5_⟩
            have n6_:Aside0 (gb236 ≠ gb243):=⟨h6_⟩
            have n7_:Aside0 (gb243 ≠ gb236):=⟨h7_⟩
            have n8_:Aside0 (gb237 ≠ gb243):=⟨h8_⟩
            have n9_:Aside0 (gb243 ≠ gb237):=⟨h9_⟩
            have n10_:Aside0 (Below w.heap.size w w30):=⟨h10_⟩
            clear HO_5
            clear BK236
            clear BK237
            clear HB
            clear h0_ h1_ h2_ h3_ h4_ h5_ h6_ h7_ h8_ h9_ h10_
            have HO_5:=n0_
            have BK236:=n1_
            have BK237:=n2_
            have BK243:=n3_
            have GW243:=n4_
            have GE243:=n5_
            have NB236_243:=n6_
            have NB243_236:=n7_
            have NB237_243:=n8_
            have NB243_237:=n9_
            have HB:=n10_
            clear n0_ n1_ n2_ n3_ n4_ n5_ n6_ n7_ n8_ n9_ n10_
            have hHeld:w30.cell? ⟨gb236,0,none⟩=some (.int .i64 a0_0)∧w30.cell? ⟨gb236,1,none⟩=some (.slice A0_1 l0_1.length c0_1):=hS_
            refine norm_ (a':=?_) ?_ ?_
            rotate_left
            ·simp only [putAll,Act.put,List.setIfInBounds_toArray,List.set_cons_zero,List.set_cons_succ]
             rfl
            refine one_ (i:=10) (N:=none) #[true,true,true,true,true,true,true,true,true,true,true,false] rfl rfl (one_of HT_.out (by kernel_rfl)) (by decide) (fun K hK=>?_)
            have hs31:w30.cell? ⟨gb243,0,none⟩=some (.int .i64 0):=(blk_cell BK243.out 0).trans rfl
            have hfs31:=blk_frozen BK243.out 0
            have hns31_0:=NB236_243.out
            have hns31_1:=NB237_243.out
            have hms31_0:=NB243_236.out
            have hms31_1:=NB243_237.out
            have hs32:w30.cell? ⟨gb243,1,none⟩=some (.int .i64 0):=(blk_cell BK243.out 1).trans rfl
            have hfs32:=blk_frozen BK243.out 1
            have hns32_0:=NB236_243.out
            have hns32_1:=NB237_243.out
            have hms32_0:=NB243_236.out
            have hms32_1:=NB243_237.out
            have hs33:w30.cell? ⟨gb243,2,none⟩=some (.int .i64 0):=(blk_cell BK243.out 2).trans rfl
            have hfs33:=blk_frozen BK243.out 2
            have hns33_0:=NB236_243.out
            have hns33_1:=NB237_243.out
            have hms33_0:=NB243_236.out
            have hms33_1:=NB243_237.out
            refine skip_ (w1:=?_) (by rfl) rfl ?_ ?_
            rotate_left
            ·go_simp
             rfl
            refine hK.out _ _ ⟨((cell_far (p:=⟨gb243,_,none⟩) NB236_243.out _).trans (((cell_far (p:=⟨gb243,_,none⟩) NB236_243.out _).trans (((cell_far (p:=⟨gb243,_,none⟩) NB236_243.out _).trans (hHeld.1)))))),((cell_far (p:=⟨gb243,_,none⟩) NB236_243.out _).trans (((cell_far (p:=⟨gb243,_,none⟩) NB236_243.out _).trans (((cell_far (p:=⟨gb243,_,none⟩) NB236_243.out _).trans (hHeld.2))))))⟩ (fun hHeld=>?_)
            clear hK K
            refine pure_ (i:=11) (N:=some 10) (v:=?_) (a':=?_) #[true,true,true,true,true,true,true,true,true,true,true,true] rfl rfl (any_of HT_.out (by kernel_rfl)) (fun _ _ _ h=>h) (Or.inl ⟨by rfl,?_⟩) ?_ ?_
            rotate_left
            ·intro w'
             go_simp
             with_reducible rfl
            rotate_left
            ·simp only [Act.put,List.setIfInBounds_toArray,List.set_cons_zero,List.set_cons_succ,i64_w,i32_w]
             rfl
            refine done_ (done_of HT_.out (by kernel_rfl)) ?_
            obtain ⟨Ao34,co34,eo34⟩:=Kd.R_slice HO_5.out
            subst eo34
            have hnb35:=NB237_236.out
            have hnc35:=NB236_237.out
            have hnb36:=NB237_243.out
            have hnc36:=NB243_237.out
            have hcz37_0:w30.cell? ⟨gb237,0,none⟩=some (.int .i64 x238000_1):=(blk_cell BK237.out 0).trans rfl
            have hcz37_1:w30.cell? ⟨gb237,1,none⟩=some (.int .i64 x238001_1):=(blk_cell BK237.out 1).trans rfl
            have hcz37_2:w30.cell? ⟨gb237,2,none⟩=some (.slice none 0 0):=(blk_cell BK237.out 2).trans rfl
            have hfz37_0:=blk_frozen BK237.out 0
            have hfz37_1:=blk_frozen BK237.out 1
            have hfz37_2:=blk_frozen BK237.out 2
            try go_wp2
            refine bodyPost_ret (results_cell_row rfl _ _ gb237 39 #[.int .i64 3,.int .i64 (wrap64 (x7_1+1)),.slice none 0 0] (0,0) _ rfl (by (with_reducible repeat (first|refine blk_drewN ?_ _|refine blk_drew ?_|refine blk_alloc ?_ _));refine blk_put (cs:=#[.int .i64 3,.int .i64 (wrap64 (x7_1+1)),.slice none 0 0]) ?_ 2 _ rfl;(with_reducible repeat (first|refine blk_drewN ?_ _|refine blk_drew ?_|refine blk_alloc ?_ _));refine blk_put (cs:=#[.int .i64 3,.int .i64 x238001_1,.slice none 0 0]) ?_ 1 _ rfl;(with_reducible repeat (first|refine blk_drewN ?_ _|refine blk_drew ?_|refine blk_alloc ?_ _));refine blk_put (cs:=#[.int .i64 x238000_1,.int .i64 x238001_1,.slice none 0 0]) ?_ 0 _ rfl;(with_reducible repeat (first|refine blk_drewN ?_ _|refine blk_drew ?_|refine blk_alloc ?_ _));refine blk_far ?_ NB237_243.out _;(with_reducible repeat (first|refine blk_drewN ?_ _|refine blk_drew ?_|refine blk_alloc ?_ _));refine blk_far ?_ NB237_243.out _;(with_reducible repeat (first|refine blk_drewN ?_ _|refine blk_drew ?_|refine blk_alloc ?_ _));refine blk_far ?_ NB237_243.out _;(with_reducible repeat (first|refine blk_drewN ?_ _|refine blk_drew ?_|refine blk_alloc ?_ _));exact BK237.out) Tryd.underlying39 rfl (by kernel_rfl)) rfl ?_
            exact ⟨_,by first|rfl|(simp [errW_none,errW_some] <;> rfl)|(simp [*,errW_none,errW_some] <;> rfl),by first|exact Kd.R_nil _ _ _ _ _|exact Kd.N_nil _ _ _ _ _|exact Kd.V_nil _ _ _ _ _|exact Kd.Q_nil _ _ _ _ _|exact Kd.S_nil _ _ _ _ _,by repeat (first|(with_reducible first|exact HB.out|apply below_alloc|apply pw_below_drewN|apply below_drew1|refine below_set ?_ GE236.out|refine below_set ?_ GE237.out|refine below_set ?_ GE243.out)|exact HB.out)⟩
           rw [if_neg c26] at H
           have c26b0:((x5_1.length:Int)==2000)=false:=beq_eq_false_iff_ne.mpr c26
           have c26b1:((x5_1.length:Int) != 2000)=true:=bne_iff_ne.mpr c26
           by_cases c38:x5_1.length<5864062014805
           ·rw [if_pos c38] at H
            have LMc38:=Aside0.mk c38
            clear c38
            obtain ⟨y244,hy244⟩:∃ y_:List (S52),y_=(x5_1 ++ [(⟨t239,t240,t241⟩:S52)]):=⟨_,rfl⟩
            replace H:(spec_ReadEvents.l0 k1 a1 y244 (wrap64 (x8_1+1)) (wrap64 (x7_1+1)) (wrap64 (x8_1+1)) a0_0 l0_1)=some (r1,r2,r3):=by first|(rw [hy244];with_reducible exact H)|(have H2_:=(Option.bind_some _ _).symm.trans H;rw [hy244];with_reducible exact H2_)|(have H2_:=(Option.bind_some _ _).symm.trans H;with_reducible exact H2_)|with_reducible exact H|(rw [hy244];exact H)|exact H
            have Ny244:=Aside0.mk hy244
            clear hy244
            have H':=Aside0.mk H
            clear H
            have p19:0≤(x8_1:Int):=of_decide_eq_true (by first|(with_reducible assumption)|assumption)
            have q19:x8_1<(a1.size:Int):=of_decide_eq_true (by first|(with_reducible assumption)|assumption)
            have hx19:=bt_at a1 x8_1
            replace p19:=eq_true p19
            replace q19:=eq_true q19
            try go_wp2
            have n0_:=Aside0.mk (Kd.R_drew HO_5.out)
            have n1_:=Aside0.mk (blk_drew BK236.out)
            have n2_:=Aside0.mk (blk_drew BK237.out)
            have n3_:=Aside0.mk (below_drew1 HB.out)
            clear HO_5
            clear BK236
            clear BK237
            clear HB
            have HO_5:=n0_
            have BK236:=n1_
            have BK237:=n2_
            have HB:=n3_
            clear n0_ n1_ n2_ n3_
            refine start_ (n:=12) (S:=fun w'=>w'.cell? ⟨gb236,0,none⟩=some (.int .i64 a0_0)∧w'.cell? ⟨gb236,1,none⟩=some (.slice A0_1 l0_1.length c0_1)) (ds:=[]) #[false,false,false,false,false,false,false,false,false,false,false,false] (by kernel_rfl) rfl rfl ⟨(blk_cell BK236.out 0).trans rfl,(blk_cell BK236.out 1).trans rfl⟩ (fun hHeld=>?_);refine with_tabW spec_ReadEvents.tab13 spec_ReadEvents.bits13 (fun HT_ HW_=>?_)
            generalize wr.drew=w39 at HO_5 BK236 BK237 HB hHeld ⊢
            refine pure_ (i:=1) (N:=some 33) (v:=?_) (a':=?_) #[false,true,false,false,false,false,false,false,false,false,false,false] rfl rfl (any_of HT_.out (by kernel_rfl)) (fun _ _ _ h=>h) (Or.inl ⟨by rfl,?_⟩) ?_ ?_
            rotate_left
            ·intro w'
             go_simp
             with_reducible rfl
            rotate_left
            ·simp only [Act.put,List.setIfInBounds_toArray,List.set_cons_zero,List.set_cons_succ,i64_w,i32_w]
             rfl
            refine pure_ (i:=2) (N:=some 34) (v:=?_) (a':=?_) #[false,true,true,false,false,false,false,false,false,false,false,false] rfl rfl (any_of HT_.out (by kernel_rfl)) (fun _ _ _ h=>h) (Or.inl ⟨by rfl,?_⟩) ?_ ?_
            rotate_left
            ·intro w'
             go_simp
             with_reducible rfl
            rotate_left
            ·simp only [Act.put,List.setIfInBounds_toArray,List.set_cons_zero,List.set_cons_succ,i64_w,i32_w]
             rfl
            refine pure_ (i:=3) (N:=some 35) (v:=?_) (a':=?_) #[false,true,true,true,false,false,false,false,false,false,false,false] rfl rfl (any_of HT_.out (by kernel_rfl)) (fun _ _ _ h=>h) (Or.inl ⟨by rfl,?_⟩) ?_ ?_
            rotate_left
            ·intro w'
             go_simp
             with_reducible rfl
            rotate_left
            ·simp only [Act.put,List.setIfInBounds_toArray,List.set_cons_zero,List.set_cons_succ,i64_w,i32_w]
             rfl
            refine pure_ (i:=4) (N:=some 36) (v:=?_) (a':=?_) #[false,true,true,true,true,false,false,false,false,false,false,false] rfl rfl (any_of HT_.out (by kernel_rfl)) (fun _ _ _ h=>h) (Or.inl ⟨by rfl,?_⟩) ?_ ?_
            rotate_left
            ·intro w'
             go_simp
             with_reducible rfl
            rotate_left
            ·simp only [Act.put,List.setIfInBounds_toArray,List.set_cons_zero,List.set_cons_succ,i64_w,i32_w]
             rfl
            refine take_ (i:=0) (N:=some 32) (v:=?_) (a':=?_) #[true,true,true,true,true,false,false,false,false,false,false,false] rfl rfl (take_ofW HT_.out HW_.out (by kernel_rfl)) (fun _ _ _ h=>h) (Or.inl ⟨by rfl,?_⟩) hHeld ?_ ?_
            rotate_left
            ·rintro w' ⟨s0,s1⟩
             go_simp
             with_reducible rfl
            rotate_left
            ·simp only [Act.put,List.setIfInBounds_toArray,List.set_cons_zero,List.set_cons_succ,i64_w,i32_w]
             rfl
            refine join_ (σ:=Nat) 2 #[true,true,true,true,true,true,true,true,true,true,false,false] (fun s_=>[(37,.tuple #[.agg #[.int .i64 t239,.int .i64 t240,.int .i64 t241],.bool true]),(9,.pointer (some ⟨s_,0,none⟩)),(31,.tuple #[.agg #[.int .i64 t239,.int .i64 t240,.int .i64 t241],.bool true]),(38,.agg #[.int .i64 t239,.int .i64 t240,.int .i64 t241]),(39,.bool true)]) (fun s_ w'=>(w'.cell? ⟨gb236,0,none⟩=some (.int .i64 a0_0)∧w'.cell? ⟨gb236,1,none⟩=some (.slice A0_1 l0_1.length c0_1))∧(Kd.R k52 52 w' w.heap.size (fun k_=>k_ ≠ s_) u5 x5_1)∧(w'.heap[gb236]?=some (.cells #[.int .i64 a0_0,.slice A0_1 l0_1.length c0_1] 31 (0,0)))∧(w'.heap[gb237]?=some (.cells #[.int .i64 x238000_1,.int .i64 x238001_1,.slice none 0 0] 39 (0,0)))∧(w'.heap[s_]?=some (.cells #[.int .i64 0,.int .i64 0,.int .i64 0] 52 (0,0)))∧(w.heap.size≤s_)∧(w.heap.size≤s_)∧(gb236 ≠ s_)∧(s_ ≠ gb236)∧(gb237 ≠ s_)∧(s_ ≠ gb237)∧(Below w.heap.size w w')) ?_ ?_
            rotate_left
            ·intro hCont
             refine two_ (i:=5) (j:=9) (Ni:=some 37) (Nj:=some 9) #[true,true,true,true,true,true,false,false,false,false,false,false] #[true,true,true,true,true,false,false,false,false,true,false,false] rfl rfl rfl rfl (two_of HT_.out (by kernel_rfl)) (by decide) (by decide) (fun K hK=>?_) (fun K hK=>?_)
             ·skip
              refine goes_ Tryd.func39 (by kernel_rfl) rfl #[.agg #[.int .i64 a0_0,.slice A0_1 l0_1.length c0_1],.string (a1.extract (x6_1:Int).toNat (x8_1:Int).toNat)] (by rfl) rfl rfl (by (try simp only [List.map_toArray,List.map_cons,List.map_nil]);first|done|rfl|(simp only [List.length_drop,List.length_take];rfl)) ?_
              with_reducible refine (spec_l4event.calls k1 a0_0 _ _ l0_1 (a1.extract (x6_1:Int).toNat (x8_1:Int).toNat) t239 t240 t241 true _ ?side1 ?side2 A24.out).mono ?_
              (case side1=>repeat (first|exact (Kd.C_below HR0_1.out HB.out)|(with_reducible refine Kd.C_alloc ?_ _)|(with_reducible refine Kd.C_drewN ?_ _)|(with_reducible refine Kd.C_drew ?_)))
              (case side2=>exact HC0_1.out)
              rintro e w40 ⟨rfl,hb⟩
              refine ⟨_,rfl,?_⟩
              have n0_:=Aside0.mk (Kd.R_below (by (with_reducible repeat (first|apply Kd.R_alloc|apply Kd.R_drewN|apply Kd.R_drew));exact HO_5.out) hb)
              have n1_:=Aside0.mk (blk_below (g:=gb236) (o:=.cells #[.int .i64 a0_0,.slice A0_1 l0_1.length c0_1] 31 (0,0)) (by (with_reducible repeat (first|refine blk_drewN ?_ _|refine blk_drew ?_|refine blk_alloc ?_ _));exact BK236.out) hb)
              have n2_:=Aside0.mk (blk_below (g:=gb237) (o:=.cells #[.int .i64 x238000_1,.int .i64 x238001_1,.slice none 0 0] 39 (0,0)) (by (with_reducible repeat (first|refine blk_drewN ?_ _|refine blk_drew ?_|refine blk_alloc ?_ _));exact BK237.out) hb)
              have n3_:=Aside0.mk (below_step (by repeat (first|(with_reducible first|exact HB.out|apply below_alloc|apply pw_below_drewN|apply below_drew1|refine below_set ?_ GE236.out|refine below_set ?_ GE237.out)|exact HB.out)) hb)
              clear HO_5
              clear BK236
              clear BK237
              clear HB
              have HO_5:=n0_
              have BK236:=n1_
              have BK237:=n2_
              have HB:=n3_
              clear n0_ n1_ n2_ n3_
              (try clear hb)
              (try clear hb2)
              (try clear hk)
              (try clear hi)
              refine hK.out _ _ ⟨(blk_cell BK236.out 0).trans rfl,(blk_cell BK236.out 1).trans rfl⟩ (fun hHeld=>?_)
              clear hK K
              refine norm_ (a':=?_) ?_ ?_
              rotate_left
              ·show Act.put _ (some 37) _=_
               simp only [Act.put,List.setIfInBounds_toArray,List.set_cons_zero,List.set_cons_succ,i64_w,i32_w]
               rfl
              refine pure_ (i:=6) (N:=some 31) (v:=?_) (a':=?_) #[true,true,true,true,true,true,true,false,false,false,false,false] rfl rfl (any_of HT_.out (by kernel_rfl)) (fun _ _ _ h=>h) (Or.inl ⟨by rfl,?_⟩) ?_ ?_
              rotate_left
              ·intro w'
               go_simp
               with_reducible rfl
              rotate_left
              ·simp only [Act.put,List.setIfInBounds_toArray,List.set_cons_zero,List.set_cons_succ,i64_w,i32_w]
               rfl
              refine pure_ (i:=7) (N:=some 38) (v:=?_) (a':=?_) #[true,true,true,true,true,true,true,true,false,false,false,false] rfl rfl (any_of HT_.out (by kernel_rfl)) (fun _ _ _ h=>h) (Or.inl ⟨by rfl,?_⟩) ?_ ?_
              rotate_left
              ·intro w'
               go_simp
               with_reducible rfl
              rotate_left
              ·simp only [Act.put,List.setIfInBounds_toArray,List.set_cons_zero,List.set_cons_succ,i64_w,i32_w]
               rfl
              refine pure_ (i:=8) (N:=some 39) (v:=?_) (a':=?_) #[true,true,true,true,true,true,true,true,true,false,false,false] rfl rfl (any_of HT_.out (by kernel_rfl)) (fun _ _ _ h=>h) (Or.inl ⟨by rfl,?_⟩) ?_ ?_
              rotate_left
              ·intro w'
               go_simp
               with_reducible rfl
              rotate_left
              ·simp only [Act.put,List.setIfInBounds_toArray,List.set_cons_zero,List.set_cons_succ,i64_w,i32_w]
               rfl
              refine one_ (i:=9) (N:=some 9) #[true,true,true,true,true,true,true,true,true,true,false,false] rfl rfl (one_of HT_.out (by kernel_rfl)) (by decide) (fun K hK=>?_)
              refine box_step ?hg (N:=9) ?hd (cs:=#[.int .i64 0,.int .i64 0,.int .i64 0]) (t:=52) ?hr ?_;(case hd=>rfl);(case hg=>rfl);(case hr=>first|(go_simp;done)|(go_simp;rfl))
              intro gb243 hg w41 hbox hb
              have n0_:=Aside0.mk (Kd.R_below (Kd.R_elderB (by (with_reducible repeat (first|apply Kd.R_alloc|apply Kd.R_drewN|apply Kd.R_drew));exact HO_5.out) gb243 (Nat.le_of_eq hg.symm)) hb)
              have n1_:=Aside0.mk (blk_below (g:=gb236) (o:=.cells #[.int .i64 a0_0,.slice A0_1 l0_1.length c0_1] 31 (0,0)) (by (with_reducible repeat (first|refine blk_drewN ?_ _|refine blk_drew ?_|refine blk_alloc ?_ _));exact BK236.out) hb)
              have n2_:=Aside0.mk (blk_below (g:=gb237) (o:=.cells #[.int .i64 x238000_1,.int .i64 x238001_1,.slice none 0 0] 39 (0,0)) (by (with_reducible repeat (first|refine blk_drewN ?_ _|refine blk_drew ?_|refine blk_alloc ?_ _));exact BK237.out) hb)
              have n3_:=Aside0.mk (below_step (by repeat (first|(with_reducible first|exact HB.out|apply below_alloc|apply pw_below_drewN|apply below_drew1|refine below_set ?_ GE236.out|refine below_set ?_ GE237.out)|exact HB.out)) hb)
              have n4_:=Aside0.mk (hbox)
              have n5_:=Aside0.mk ((by rw [hg];exact (below_size (by repeat (first|(with_reducible first|exact HB.out|apply below_alloc|apply pw_below_drewN|apply below_drew1|refine below_set ?_ GE236.out|refine below_set ?_ GE237.out)|exact HB.out))):w.heap.size≤gb243))
              have n6_:=Aside0.mk ((by rw [hg];exact (below_size (by repeat (first|(with_reducible first|exact HB.out|apply below_alloc|apply pw_below_drewN|apply below_drew1|refine below_set ?_ GE236.out|refine below_set ?_ GE237.out)|exact HB.out))):w.heap.size≤gb243))
              have n7_:=Aside0.mk ((by rw [hg];exact Nat.ne_of_lt (blk_lt (g:=gb236) (o:=.cells #[.int .i64 a0_0,.slice A0_1 l0_1.length c0_1] 31 (0,0)) (by (with_reducible repeat (first|refine blk_drewN ?_ _|refine blk_drew ?_|refine blk_alloc ?_ _));exact BK236.out)):gb236 ≠ gb243))
              have n8_:=Aside0.mk ((by rw [hg];exact Nat.ne_of_gt (blk_lt (g:=gb236) (o:=.cells #[.int .i64 a0_0,.slice A0_1 l0_1.length c0_1] 31 (0,0)) (by (with_reducible repeat (first|refine blk_drewN ?_ _|refine blk_drew ?_|refine blk_alloc ?_ _));exact BK236.out)):gb243 ≠ gb236))
              have n9_:=Aside0.mk ((by rw [hg];exact Nat.ne_of_lt (blk_lt (g:=gb237) (o:=.cells #[.int .i64 x238000_1,.int .i64 x238001_1,.slice none 0 0] 39 (0,0)) (by (with_reducible repeat (first|refine blk_drewN ?_ _|refine blk_drew ?_|refine blk_alloc ?_ _));exact BK237.out)):gb237 ≠ gb243))
              have n10_:=Aside0.mk ((by rw [hg];exact Nat.ne_of_gt (blk_lt (g:=gb237) (o:=.cells #[.int .i64 x238000_1,.int .i64 x238001_1,.slice none 0 0] 39 (0,0)) (by (with_reducible repeat (first|refine blk_drewN ?_ _|refine blk_drew ?_|refine blk_alloc ?_ _));exact BK237.out)):gb243 ≠ gb237))
              clear HO_5
              clear BK236
              clear BK237
              clear HB
              have HO_5:=n0_
              have BK236:=n1_
              have BK237:=n2_
              have HB:=n3_
              have BK243:=n4_
              have GW243:=n5_
              have GE243:=n6_
              have NB236_243:=n7_
              have NB243_236:=n8_
              have NB237_243:=n9_
              have NB243_237:=n10_
              clear n0_ n1_ n2_ n3_ n4_ n5_ n6_ n7_ n8_ n9_ n10_
              clear hb hbox hg
              refine hK.out _ _ ⟨(blk_cell BK236.out 0).trans rfl,(blk_cell BK236.out 1).trans rfl⟩ (fun hHeld=>?_)
              clear hK K
              refine norm_ (a':=?_) ?_ ?_
              rotate_left
              ·show Act.put _ (some 9) _=_
               simp only [Act.put,List.setIfInBounds_toArray,List.set_cons_zero,List.set_cons_succ,i64_w,i32_w]
               rfl
              exact norm_ (by simp only [putAll,Act.put,List.setIfInBounds_toArray,List.set_cons_zero,List.set_cons_succ]) (hCont (gb243) _ ⟨hHeld,(by (with_reducible repeat (first|apply Kd.R_alloc|apply Kd.R_drewN|apply Kd.R_drew));exact Kd.R_mono HO_5.out (fun _ hk=>hk.2)),(by (with_reducible repeat (first|refine blk_drewN ?_ _|refine blk_drew ?_|refine blk_alloc ?_ _));exact BK236.out),(by (with_reducible repeat (first|refine blk_drewN ?_ _|refine blk_drew ?_|refine blk_alloc ?_ _));exact BK237.out),(by (with_reducible repeat (first|refine blk_drewN ?_ _|refine blk_drew ?_|refine blk_alloc ?_ _));exact BK243.out),GW243.out,GE243.out,NB236_243.out,NB243_236.out,NB237_243.out,NB243_237.out,(by repeat (first|(with_reducible first|exact HB.out|apply below_alloc|apply pw_below_drewN|apply below_drew1|refine below_set ?_ GE236.out|refine below_set ?_ GE237.out|refine below_set ?_ GE243.out)|exact HB.out))⟩)
             skip
             refine box_step ?hg (N:=9) ?hd (cs:=#[.int .i64 0,.int .i64 0,.int .i64 0]) (t:=52) ?hr ?_;(case hd=>rfl);(case hg=>rfl);(case hr=>first|(go_simp;done)|(go_simp;rfl))
             intro gb243 hg w40 hbox hb
             have n0_:=Aside0.mk (Kd.R_below (Kd.R_elderB (by (with_reducible repeat (first|apply Kd.R_alloc|apply Kd.R_drewN|apply Kd.R_drew));exact HO_5.out) gb243 (Nat.le_of_eq hg.symm)) hb)
             have n1_:=Aside0.mk (blk_below (g:=gb236) (o:=.cells #[.int .i64 a0_0,.slice A0_1 l0_1.length c0_1] 31 (0,0)) (by (with_reducible repeat (first|refine blk_drewN ?_ _|refine blk_drew ?_|refine blk_alloc ?_ _));exact BK236.out) hb)
             have n2_:=Aside0.mk (blk_below (g:=gb237) (o:=.cells #[.int .i64 x238000_1,.int .i64 x238001_1,.slice none 0 0] 39 (0,0)) (by (with_reducible repeat (first|refine blk_drewN ?_ _|refine blk_drew ?_|refine blk_alloc ?_ _));exact BK237.out) hb)
             have n3_:=Aside0.mk (below_step (by repeat (first|(with_reducible first|exact HB.out|apply below_alloc|apply pw_below_drewN|apply below_drew1|refine below_set ?_ GE236.out|refine below_set ?_ GE237.out)|exact HB.out)) hb)
             have n4_:=Aside0.mk (hbox)
             have n5_:=Aside0.mk ((by rw [hg];exact (below_size (by repeat (first|(with_reducible first|exact HB.out|apply below_alloc|apply pw_below_drewN|apply below_drew1|refine below_set ?_ GE236.out|refine below_set ?_ GE237.out)|exact HB.out))):w.heap.size≤gb243))
             have n6_:=Aside0.mk ((by rw [hg];exact (below_size (by repeat (first|(with_reducible first|exact HB.out|apply below_alloc|apply pw_below_drewN|apply below_drew1|refine below_set ?_ GE236.out|refine below_set ?_ GE237.out)|exact HB.out))):w.heap.size≤gb243))
             have n7_:=Aside0.mk ((by rw [hg];exact Nat.ne_of_lt (blk_lt (g:=gb236) (o:=.cells #[.int .i64 a0_0,.slice A0_1 l0_1.length c0_1] 31 (0,0)) (by (with_reducible repeat (first|refine blk_drewN ?_ _|refine blk_drew ?_|refine blk_alloc ?_ _));exact BK236.out)):gb236 ≠ gb243))
             have n8_:=Aside0.mk ((by rw [hg];exact Nat.ne_of_gt (blk_lt (g:=gb236) (o:=.cells #[.int .i64 a0_0,.slice A0_1 l0_1.length c0_1] 31 (0,0)) (by (with_reducible repeat (first|refine blk_drewN ?_ _|refine blk_drew ?_|refine blk_alloc ?_ _));exact BK236.out)):gb243 ≠ gb236))
             have n9_:=Aside0.mk ((by rw [hg];exact Nat.ne_of_lt (blk_lt (g:=gb237) (o:=.cells #[.int .i64 x238000_1,.int .i64 x238001_1,.slice none 0 0] 39 (0,0)) (by (with_reducible repeat (first|refine blk_drewN ?_ _|refine blk_drew ?_|refine blk_alloc ?_ _));exact BK237.out)):gb237 ≠ gb243))
             have n10_:=Aside0.mk ((by rw [hg];exact Nat.ne_of_gt (blk_lt (g:=gb237) (o:=.cells #[.int .i64 x238000_1,.int .i64 x238001_1,.slice none 0 0] 39 (0,0)) (by (with_reducible repeat (first|refine blk_drewN ?_ _|refine blk_drew ?_|refine blk_alloc ?_ _));exact BK237.out)):gb243 ≠ gb237))
             clear HO_5
             clear BK236
             clear BK237
             clear HB
             have HO_5:=n0_
             have BK236:=n1_
             have BK237:=n2_
             have HB:=n3_
             have BK243:=n4_
             have GW243:=n5_
             have GE243:=n6_
             have NB236_243:=n7_
             have NB243_236:=n8_
             have NB237_243:=n9_
             have NB243_237:=n10_
             clear n0_ n1_ n2_ n3_ n4_ n5_ n6_ n7_ n8_ n9_ n10_
             clear hb hbox hg
             refine hK.out _ _ ⟨(blk_cell BK236.out 0).trans rfl,(blk_cell BK236.out 1).trans rfl⟩ (fun hHeld=>?_)
             clear hK K
             refine norm_ (a':=?_) ?_ ?_
             rotate_left
             ·show Act.put _ (some 9) _=_
              simp only [Act.put,List.setIfInBounds_toArray,List.set_cons_zero,List.set_cons_succ,i64_w,i32_w]
              rfl
             refine one_ (i:=5) (N:=some 37) #[true,true,true,true,true,true,false,false,false,true,false,false] rfl rfl (one_of HT_.out (by kernel_rfl)) (by decide) (fun K hK=>?_)
             refine goes_ Tryd.func39 (by kernel_rfl) rfl #[.agg #[.int .i64 a0_0,.slice A0_1 l0_1.length c0_1],.string (a1.extract (x6_1:Int).toNat (x8_1:Int).toNat)] (by rfl) rfl rfl (by (try simp only [List.map_toArray,List.map_cons,List.map_nil]);first|done|rfl|(simp only [List.length_drop,List.length_take];rfl)) ?_
             with_reducible refine (spec_l4event.calls k1 a0_0 _ _ l0_1 (a1.extract (x6_1:Int).toNat (x8_1:Int).toNat) t239 t240 t241 true _ ?side1 ?side2 A24.out).mono ?_
             (case side1=>repeat (first|exact (Kd.C_below HR0_1.out HB.out)|(with_reducible refine Kd.C_alloc ?_ _)|(with_reducible refine Kd.C_drewN ?_ _)|(with_reducible refine Kd.C_drew ?_)))
             (case side2=>exact HC0_1.out)
             rintro e w41 ⟨rfl,hb⟩
             refine ⟨_,rfl,?_⟩
             have n0_:=Aside0.mk (Kd.R_below (by (with_reducible repeat (first|apply Kd.R_alloc|apply Kd.R_drewN|apply Kd.R_drew));exact HO_5.out) hb)
             have n1_:=Aside0.mk (blk_below (g:=gb236) (o:=.cells #[.int .i64 a0_0,.slice A0_1 l0_1.length c0_1] 31 (0,0)) (by (with_reducible repeat (first|refine blk_drewN ?_ _|refine blk_drew ?_|refine blk_alloc ?_ _));exact BK236.out) hb)
             have n2_:=Aside0.mk (blk_below (g:=gb237) (o:=.cells #[.int .i64 x238000_1,.int .i64 x238001_1,.slice none 0 0] 39 (0,0)) (by (with_reducible repeat (first|refine blk_drewN ?_ _|refine blk_drew ?_|refine blk_alloc ?_ _));exact BK237.out) hb)
             have n3_:=Aside0.mk (blk_below (g:=gb243) (o:=.cells #[.int .i64 0,.int .i64 0,.int .i64 0] 52 (0,0)) (by (with_reducible repeat (first|refine blk_drewN ?_ _|refine blk_drew ?_|refine blk_alloc ?_ _));exact BK243.out) hb)
             have n4_:=Aside0.mk (below_step (by repeat (first|(with_reducible first|exact HB.out|apply below_alloc|apply pw_below_drewN|apply below_drew1|refine below_set ?_ GE236.out|refine below_set ?_ GE237.out|refine below_set ?_ GE243.out)|exact HB.out)) hb)
             clear HO_5
             clear BK236
             clear BK237
             clear BK243
             clear HB
             have HO_5:=n0_
             have BK236:=n1_
             have BK237:=n2_
             have BK243:=n3_
             have HB:=n4_
             clear n0_ n1_ n2_ n3_ n4_
             (try clear hb)
             (try clear hb2)
             (try clear hk)
             (try clear hi)
             refine hK.out _ _ ⟨(blk_cell BK236.out 0).trans rfl,(blk_cell BK236.out 1).trans rfl⟩ (fun hHeld=>?_)
             clear hK K
             refine norm_ (a':=?_) ?_ ?_
             rotate_left
             ·show Act.put _ (some 37) _=_
              simp only [Act.put,List.setIfInBounds_toArray,List.set_cons_zero,List.set_cons_succ,i64_w,i32_w]
              rfl
             refine pure_ (i:=6) (N:=some 31) (v:=?_) (a':=?_) #[true,true,true,true,true,true,true,false,false,true,false,false] rfl rfl (any_of HT_.out (by kernel_rfl)) (fun _ _ _ h=>h) (Or.inl ⟨by rfl,?_⟩) ?_ ?_
             rotate_left
             ·intro w'
              go_simp
              with_reducible rfl
             rotate_left
             ·simp only [Act.put,List.setIfInBounds_toArray,List.set_cons_zero,List.set_cons_succ,i64_w,i32_w]
              rfl
             refine pure_ (i:=7) (N:=some 38) (v:=?_) (a':=?_) #[true,true,true,true,true,true,true,true,false,true,false,false] rfl rfl (any_of HT_.out (by kernel_rfl)) (fun _ _ _ h=>h) (Or.inl ⟨by rfl,?_⟩) ?_ ?_
             rotate_left
             ·intro w'
              go_simp
              with_reducible rfl
             rotate_left
             ·simp only [Act.put,List.setIfInBounds_toArray,List.set_cons_zero,List.set_cons_succ,i64_w,i32_w]
              rfl
             refine pure_ (i:=8) (N:=some 39) (v:=?_) (a':=?_) #[true,true,true,true,true,true,true,true,true,true,false,false] rfl rfl (any_of HT_.out (by kernel_rfl)) (fun _ _ _ h=>h) (Or.inl ⟨by rfl,?_⟩) ?_ ?_
             rotate_left
             ·intro w'
              go_simp
              with_reducible rfl
             rotate_left
             ·simp only [Act.put,List.setIfInBounds_toArray,List.set_cons_zero,List.set_cons_succ,i64_w,i32_w]
              rfl
             exact norm_ (by simp only [putAll,Act.put,List.setIfInBounds_toArray,List.set_cons_zero,List.set_cons_succ]) (hCont (gb243) _ ⟨hHeld,(by (with_reducible repeat (first|apply Kd.R_alloc|apply Kd.R_drewN|apply Kd.R_drew));exact Kd.R_mono HO_5.out (fun _ hk=>hk.2)),(by (with_reducible repeat (first|refine blk_drewN ?_ _|refine blk_drew ?_|refine blk_alloc ?_ _));exact BK236.out),(by (with_reducible repeat (first|refine blk_drewN ?_ _|refine blk_drew ?_|refine blk_alloc ?_ _));exact BK237.out),(by (with_reducible repeat (first|refine blk_drewN ?_ _|refine blk_drew ?_|refine blk_alloc ?_ _));exact BK243.out),GW243.out,GE243.out,NB236_243.out,NB243_236.out,NB237_243.out,NB243_237.out,(by repeat (first|(with_reducible first|exact HB.out|apply below_alloc|apply pw_below_drewN|apply below_drew1|refine below_set ?_ GE236.out|refine below_set ?_ GE237.out|refine below_set ?_ GE243.out)|exact HB.out))⟩)
            rintro gb243 w42 ⟨hS_,h0_,h1_,h2_,h3_,h4_,h5_,h6_,h7_,h8_,h9_,h10_⟩
            have n0_:Aside0 (Kd.R k52 52 w42 w.heap.size (fun k_=>k_ ≠ gb243) u5 x5_1):=⟨h0_⟩
            have n1_:Aside0 (w42.heap[gb236]?=some (.cells #[.int .i64 a0_0,.slice A0_1 l0_1.length c0_1] 31 (0,0))):=⟨h1_⟩
            have n2_:Aside0 (w42.heap[gb237]?=some (.cells #[.int .i64 x238000_1,.int .i64 x238001_1,.slice none 0 0] 39 (0,0))):=⟨h2_⟩
            have n3_:Aside0 (w42.heap[gb243]?=some (.cells #[.int .i64 0,.int .i64 0,.int .i64 0] 52 (0,0))):=⟨h3_⟩
            have n4_:Aside0 (w.heap.size≤gb243):=⟨h4_⟩
            have n5_:Aside0 (w.heap.size≤gb243):=⟨h5_⟩
            have n6_:Aside0 (gb236 ≠ gb243):=⟨h6_⟩
            have n7_:Aside0 (gb243 ≠ gb236):=⟨h7_⟩
            have n8_:Aside0 (gb237 ≠ gb243):=⟨h8_⟩
            have n9_:Aside0 (gb243 ≠ gb237):=⟨h9_⟩
            have n10_:Aside0 (Below w.heap.size w w42):=⟨h10_⟩
            clear HO_5
            clear BK236
            clear BK237
            clear HB
            clear h0_ h1_ h2_ h3_ h4_ h5_ h6_ h7_ h8_ h9_ h10_
            have HO_5:=n0_
            have BK236:=n1_
            have BK237:=n2_
            have BK243:=n3_
            have GW243:=n4_
            have GE243:=n5_
            have NB236_243:=n6_
            have NB243_236:=n7_
            have NB237_243:=n8_
            have NB243_237:=n9_
            have HB:=n10_
            clear n0_ n1_ n2_ n3_ n4_ n5_ n6_ n7_ n8_ n9_ n10_
            have hHeld:w42.cell? ⟨gb236,0,none⟩=some (.int .i64 a0_0)∧w42.cell? ⟨gb236,1,none⟩=some (.slice A0_1 l0_1.length c0_1):=hS_
            refine norm_ (a':=?_) ?_ ?_
            rotate_left
            ·simp only [putAll,Act.put,List.setIfInBounds_toArray,List.set_cons_zero,List.set_cons_succ]
             rfl
            refine one_ (i:=10) (N:=none) #[true,true,true,true,true,true,true,true,true,true,true,false] rfl rfl (one_of HT_.out (by kernel_rfl)) (by decide) (fun K hK=>?_)
            have hs43:w42.cell? ⟨gb243,0,none⟩=some (.int .i64 0):=(blk_cell BK243.out 0).trans rfl
            have hfs43:=blk_frozen BK243.out 0
            have hns43_0:=NB236_243.out
            have hns43_1:=NB237_243.out
            have hms43_0:=NB243_236.out
            have hms43_1:=NB243_237.out
            have hs44:w42.cell? ⟨gb243,1,none⟩=some (.int .i64 0):=(blk_cell BK243.out 1).trans rfl
            have hfs44:=blk_frozen BK243.out 1
            have hns44_0:=NB236_243.out
            have hns44_1:=NB237_243.out
            have hms44_0:=NB243_236.out
            have hms44_1:=NB243_237.out
            have hs45:w42.cell? ⟨gb243,2,none⟩=some (.int .i64 0):=(blk_cell BK243.out 2).trans rfl
            have hfs45:=blk_frozen BK243.out 2
            have hns45_0:=NB236_243.out
            have hns45_1:=NB237_243.out
            have hms45_0:=NB243_236.out
            have hms45_1:=NB243_237.out
            refine skip_ (w1:=?_) (by rfl) rfl ?_ ?_
            rotate_left
            ·go_simp
             rfl
            refine hK.out _ _ ⟨((cell_far (p:=⟨gb243,_,none⟩) NB236_243.out _).trans (((cell_far (p:=⟨gb243,_,none⟩) NB236_243.out _).trans (((cell_far (p:=⟨gb243,_,none⟩) NB236_243.out _).trans (hHeld.1)))))),((cell_far (p:=⟨gb243,_,none⟩) NB236_243.out _).trans (((cell_far (p:=⟨gb243,_,none⟩) NB236_243.out _).trans (((cell_far (p:=⟨gb243,_,none⟩) NB236_243.out _).trans (hHeld.2))))))⟩ (fun hHeld=>?_)
            clear hK K
            refine pure_ (i:=11) (N:=some 10) (v:=?_) (a':=?_) #[true,true,true,true,true,true,true,true,true,true,true,true] rfl rfl (any_of HT_.out (by kernel_rfl)) (fun _ _ _ h=>h) (Or.inl ⟨by rfl,?_⟩) ?_ ?_
            rotate_left
            ·intro w'
             go_simp
             with_reducible rfl
            rotate_left
            ·simp only [Act.put,List.setIfInBounds_toArray,List.set_cons_zero,List.set_cons_succ,i64_w,i32_w]
             rfl
            refine done_ (done_of HT_.out (by kernel_rfl)) ?_
            obtain ⟨Ao46,co46,eo46⟩:=Kd.R_slice HO_5.out
            subst eo46
            have hnb47:=NB243_236.out
            have hnc47:=NB236_243.out
            have hnb48:=NB243_237.out
            have hnc48:=NB237_243.out
            have hcz49_0:w42.cell? ⟨gb243,0,none⟩=some (.int .i64 0):=(blk_cell BK243.out 0).trans rfl
            have hcz49_1:w42.cell? ⟨gb243,1,none⟩=some (.int .i64 0):=(blk_cell BK243.out 1).trans rfl
            have hcz49_2:w42.cell? ⟨gb243,2,none⟩=some (.int .i64 0):=(blk_cell BK243.out 2).trans rfl
            have hfz49_0:=blk_frozen BK243.out 0
            have hfz49_1:=blk_frozen BK243.out 1
            have hfz49_2:=blk_frozen BK243.out 2
            try go_wp2_with (first|((with_reducible refine gate_builtin (b:=.append) (xs:=#[.tmp 49,.tmp 51]) rfl ?_);(try (refine gate_guard (by rfl) ?_;dsimp only));at_builtin;refine Kd.R_append k52 (w0:=w) w.heap.size rfl (.tmp 49) (.tmp 51) 33 52 (.agg #[(.int .i64 0),(.int .i64 0),(.int .i64 0)]) 24 rfl Tryd.underlying33 info52 rfl (by decide) (by omega) (.slice Ao46 x5_1.length co46) x5_1 (⟨t239,t240,t241⟩:S52) [.int .i64 t239,.int .i64 t240,.int .i64 t241] (fun k_=>k_ ≠ gb243) (fun _=>False) rfl (by first|(go_simp;done)|(go_simp;rfl)) ?aP (fun _ hk=>hk.elim) ?aF ?aO ?aB ?aS ?aL ?_;(case aP=>exact k52_mkM _ _ _ (⟨t239,t240,t241⟩:S52));(case aB=>exact (by repeat (first|(with_reducible first|exact HB.out|apply below_alloc|apply pw_below_drewN|apply below_drew1|refine below_set ?_ GE236.out|refine below_set ?_ GE237.out|refine below_set ?_ GE243.out)|exact HB.out)));(case aF=>exact (fun k_ hk=>Kd.freshB (g:=gb243) (o:=.cells #[.int .i64 t239,.int .i64 t240,.int .i64 t241] 52 (0,0)) (by (with_reducible repeat (first|refine blk_drewN ?_ _|refine blk_drew ?_|refine blk_alloc ?_ _));refine blk_put (cs:=#[.int .i64 t239,.int .i64 t240,.int .i64 0]) ?_ 2 _ rfl;(with_reducible repeat (first|refine blk_drewN ?_ _|refine blk_drew ?_|refine blk_alloc ?_ _));refine blk_put (cs:=#[.int .i64 t239,.int .i64 0,.int .i64 0]) ?_ 1 _ rfl;(with_reducible repeat (first|refine blk_drewN ?_ _|refine blk_drew ?_|refine blk_alloc ?_ _));refine blk_put (cs:=#[.int .i64 0,.int .i64 0,.int .i64 0]) ?_ 0 _ rfl;(with_reducible repeat (first|refine blk_drewN ?_ _|refine blk_drew ?_|refine blk_alloc ?_ _));exact BK243.out) k_ hk));(case aO=>exact (by (with_reducible repeat (first|apply Kd.R_alloc|apply Kd.R_drewN|apply Kd.R_drew));exact Kd.R_mono (Kd.R_far (p:=⟨gb243,2,none⟩) (Kd.R_far (p:=⟨gb243,1,none⟩) (Kd.R_far (p:=⟨gb243,0,none⟩) (Kd.R_mono HO_5.out (fun k_ hk=>(⟨hk,hk⟩:_∧k_ ≠ gb243))) (fun _ hk=>hk.2) (.int .i64 t239)) (fun _ hk=>hk.2) (.int .i64 t240)) (fun _ hk=>hk.2) (.int .i64 t241)) (fun _ hk=>hk.1)));(case aS=>exact (below_size (by repeat (first|(with_reducible first|exact HB.out|apply below_alloc|apply pw_below_drewN|apply below_drew1|refine below_set ?_ GE236.out|refine below_set ?_ GE237.out|refine below_set ?_ GE243.out)|exact HB.out))));(case aL=>have:=LMc38.out;omega);intro v245 w50 ho hb hg hat;rw [← Ny244.out] at ho;have n0_:=Aside0.mk (blk_grown (g:=gb236) (o:=.cells #[.int .i64 a0_0,.slice A0_1 l0_1.length c0_1] 31 (0,0)) (by (with_reducible repeat (first|refine blk_drewN ?_ _|refine blk_drew ?_|refine blk_alloc ?_ _));refine blk_far ?_ NB236_243.out _;(with_reducible repeat (first|refine blk_drewN ?_ _|refine blk_drew ?_|refine blk_alloc ?_ _));refine blk_far ?_ NB236_243.out _;(with_reducible repeat (first|refine blk_drewN ?_ _|refine blk_drew ?_|refine blk_alloc ?_ _));refine blk_far ?_ NB236_243.out _;(with_reducible repeat (first|refine blk_drewN ?_ _|refine blk_drew ?_|refine blk_alloc ?_ _));exact BK236.out) hg (Kd.R_ne HO_5.out BK236.out (by decide)));have n1_:=Aside0.mk (blk_grown (g:=gb237) (o:=.cells #[.int .i64 x238000_1,.int .i64 x238001_1,.slice none 0 0] 39 (0,0)) (by (with_reducible repeat (first|refine blk_drewN ?_ _|refine blk_drew ?_|refine blk_alloc ?_ _));refine blk_far ?_ NB237_243.out _;(with_reducible repeat (first|refine blk_drewN ?_ _|refine blk_drew ?_|refine blk_alloc ?_ _));refine blk_far ?_ NB237_243.out _;(with_reducible repeat (first|refine blk_drewN ?_ _|refine blk_drew ?_|refine blk_alloc ?_ _));refine blk_far ?_ NB237_243.out _;(with_reducible repeat (first|refine blk_drewN ?_ _|refine blk_drew ?_|refine blk_alloc ?_ _));exact BK237.out) hg (Kd.R_ne HO_5.out BK237.out (by decide)));have n2_:=Aside0.mk (blk_grown (g:=gb243) (o:=.cells #[.int .i64 t239,.int .i64 t240,.int .i64 t241] 52 (0,0)) (by (with_reducible repeat (first|refine blk_drewN ?_ _|refine blk_drew ?_|refine blk_alloc ?_ _));refine blk_put (cs:=#[.int .i64 t239,.int .i64 t240,.int .i64 0]) ?_ 2 _ rfl;(with_reducible repeat (first|refine blk_drewN ?_ _|refine blk_drew ?_|refine blk_alloc ?_ _));refine blk_put (cs:=#[.int .i64 t239,.int .i64 0,.int .i64 0]) ?_ 1 _ rfl;(with_reducible repeat (first|refine blk_drewN ?_ _|refine blk_drew ?_|refine blk_alloc ?_ _));refine blk_put (cs:=#[.int .i64 0,.int .i64 0,.int .i64 0]) ?_ 0 _ rfl;(with_reducible repeat (first|refine blk_drewN ?_ _|refine blk_drew ?_|refine blk_alloc ?_ _));exact BK243.out) hg (Kd.R_away HO_5.out (fun _ hk=>hk)));have n3_:=Aside0.mk (hb);have n4_:=Aside0.mk (ho);clear BK236;clear BK237;clear BK243;clear HB;clear HO_5;have BK236:=n0_;have BK237:=n1_;have BK243:=n2_;have HB:=n3_;have HO246:=n4_;clear n0_ n1_ n2_ n3_ n4_;clear ho hb hg hat))
            go_roundg k1
            case measure=>have:=HK1.out;omega
            case rel=>exact ⟨(y244),(wrap64 (x8_1+1)),(wrap64 (x7_1+1)),(wrap64 (x8_1+1)),(x238000_1),(x238001_1),(by first|rfl|(simp;done)|(simp [*];done)),(by first|rfl|(simp;done)|(simp [*];done)),(by first|rfl|(simp;done)|(simp [*];done)),H',⟨by have:=HK1.out;omega⟩,⟨by (with_reducible repeat (first|apply Kd.R_alloc|apply Kd.R_drewN|apply Kd.R_drew));exact Kd.R_mono HO246.out (fun _ hk=>trivial)⟩,⟨by (with_reducible repeat (first|refine blk_drewN ?_ _|refine blk_drew ?_|refine blk_alloc ?_ _));exact BK236.out⟩,⟨by (with_reducible repeat (first|refine blk_drewN ?_ _|refine blk_drew ?_|refine blk_alloc ?_ _));exact BK237.out⟩,⟨by repeat (first|(with_reducible first|exact HB.out|apply below_alloc|apply pw_below_drewN|apply below_drew1|refine below_set ?_ GE236.out|refine below_set ?_ GE237.out|refine below_set ?_ GE243.out)|exact HB.out)⟩⟩
           rw [if_neg c38] at H
           exact absurd H (by simp)
          replace c25:=Bool.eq_false_iff.mpr c25
          subst c25
          have H1:(some (3,wrap64 (x7_1+1),([]:List (S52))))=some (r1,r2,r3):=by rw [if_neg (show ¬ (false=true) by decide)] at H;exact H
          clear H
          have H:=H1
          clear H1
          simp only [Option.some.injEq,Prod.mk.injEq] at H
          obtain ⟨rfl,rfl,rfl⟩:=H
          have p19:0≤(x8_1:Int):=of_decide_eq_true (by first|(with_reducible assumption)|assumption)
          have q19:x8_1<(a1.size:Int):=of_decide_eq_true (by first|(with_reducible assumption)|assumption)
          have hx19:=bt_at a1 x8_1
          replace p19:=eq_true p19
          replace q19:=eq_true q19
          try go_wp2
          have n0_:=Aside0.mk (Kd.R_drew HO_5.out)
          have n1_:=Aside0.mk (blk_drew BK236.out)
          have n2_:=Aside0.mk (blk_drew BK237.out)
          have n3_:=Aside0.mk (below_drew1 HB.out)
          clear HO_5
          clear BK236
          clear BK237
          clear HB
          have HO_5:=n0_
          have BK236:=n1_
          have BK237:=n2_
          have HB:=n3_
          clear n0_ n1_ n2_ n3_
          refine start_ (n:=12) (S:=fun w'=>w'.cell? ⟨gb236,0,none⟩=some (.int .i64 a0_0)∧w'.cell? ⟨gb236,1,none⟩=some (.slice A0_1 l0_1.length c0_1)) (ds:=[]) #[false,false,false,false,false,false,false,false,false,false,false,false] (by kernel_rfl) rfl rfl ⟨(blk_cell BK236.out 0).trans rfl,(blk_cell BK236.out 1).trans rfl⟩ (fun hHeld=>?_);refine with_tabW spec_ReadEvents.tab13 spec_ReadEvents.bits13 (fun HT_ HW_=>?_)
          generalize wr.drew=w51 at HO_5 BK236 BK237 HB hHeld ⊢
          refine pure_ (i:=1) (N:=some 33) (v:=?_) (a':=?_) #[false,true,false,false,false,false,false,false,false,false,false,false] rfl rfl (any_of HT_.out (by kernel_rfl)) (fun _ _ _ h=>h) (Or.inl ⟨by rfl,?_⟩) ?_ ?_
          rotate_left
          ·intro w'
           go_simp
           with_reducible rfl
          rotate_left
          ·simp only [Act.put,List.setIfInBounds_toArray,List.set_cons_zero,List.set_cons_succ,i64_w,i32_w]
           rfl
          refine pure_ (i:=2) (N:=some 34) (v:=?_) (a':=?_) #[false,true,true,false,false,false,false,false,false,false,false,false] rfl rfl (any_of HT_.out (by kernel_rfl)) (fun _ _ _ h=>h) (Or.inl ⟨by rfl,?_⟩) ?_ ?_
          rotate_left
          ·intro w'
           go_simp
           with_reducible rfl
          rotate_left
          ·simp only [Act.put,List.setIfInBounds_toArray,List.set_cons_zero,List.set_cons_succ,i64_w,i32_w]
           rfl
          refine pure_ (i:=3) (N:=some 35) (v:=?_) (a':=?_) #[false,true,true,true,false,false,false,false,false,false,false,false] rfl rfl (any_of HT_.out (by kernel_rfl)) (fun _ _ _ h=>h) (Or.inl ⟨by rfl,?_⟩) ?_ ?_
          rotate_left
          ·intro w'
           go_simp
           with_reducible rfl
          rotate_left
          ·simp only [Act.put,List.setIfInBounds_toArray,List.set_cons_zero,List.set_cons_succ,i64_w,i32_w]
           rfl
          refine pure_ (i:=4) (N:=some 36) (v:=?_) (a':=?_) #[false,true,true,true,true,false,false,false,false,false,false,false] rfl rfl (any_of HT_.out (by kernel_rfl)) (fun _ _ _ h=>h) (Or.inl ⟨by rfl,?_⟩) ?_ ?_
          rotate_left
          ·intro w'
           go_simp
           with_reducible rfl
          rotate_left
          ·simp only [Act.put,List.setIfInBounds_toArray,List.set_cons_zero,List.set_cons_succ,i64_w,i32_w]
           rfl
          refine take_ (i:=0) (N:=some 32) (v:=?_) (a':=?_) #[true,true,true,true,true,false,false,false,false,false,false,false] rfl rfl (take_ofW HT_.out HW_.out (by kernel_rfl)) (fun _ _ _ h=>h) (Or.inl ⟨by rfl,?_⟩) hHeld ?_ ?_
          rotate_left
          ·rintro w' ⟨s0,s1⟩
           go_simp
           with_reducible rfl
          rotate_left
          ·simp only [Act.put,List.setIfInBounds_toArray,List.set_cons_zero,List.set_cons_succ,i64_w,i32_w]
           rfl
          refine join_ (σ:=Nat) 2 #[true,true,true,true,true,true,true,true,true,true,false,false] (fun s_=>[(37,.tuple #[.agg #[.int .i64 t239,.int .i64 t240,.int .i64 t241],.bool false]),(9,.pointer (some ⟨s_,0,none⟩)),(31,.tuple #[.agg #[.int .i64 t239,.int .i64 t240,.int .i64 t241],.bool false]),(38,.agg #[.int .i64 t239,.int .i64 t240,.int .i64 t241]),(39,.bool false)]) (fun s_ w'=>(w'.cell? ⟨gb236,0,none⟩=some (.int .i64 a0_0)∧w'.cell? ⟨gb236,1,none⟩=some (.slice A0_1 l0_1.length c0_1))∧(Kd.R k52 52 w' w.heap.size (fun k_=>k_ ≠ s_) u5 x5_1)∧(w'.heap[gb236]?=some (.cells #[.int .i64 a0_0,.slice A0_1 l0_1.length c0_1] 31 (0,0)))∧(w'.heap[gb237]?=some (.cells #[.int .i64 x238000_1,.int .i64 x238001_1,.slice none 0 0] 39 (0,0)))∧(w'.heap[s_]?=some (.cells #[.int .i64 0,.int .i64 0,.int .i64 0] 52 (0,0)))∧(w.heap.size≤s_)∧(w.heap.size≤s_)∧(gb236 ≠ s_)∧(s_ ≠ gb236)∧(gb237 ≠ s_)∧(s_ ≠ gb237)∧(Below w.heap.size w w')) ?_ ?_
          rotate_left
          ·intro hCont
           refine two_ (i:=5) (j:=9) (Ni:=some 37) (Nj:=some 9) #[true,true,true,true,true,true,false,false,false,false,false,false] #[true,true,true,true,true,false,false,false,false,true,false,false] rfl rfl rfl rfl (two_of HT_.out (by kernel_rfl)) (by decide) (by decide) (fun K hK=>?_) (fun K hK=>?_)
           ·skip
            refine goes_ Tryd.func39 (by kernel_rfl) rfl #[.agg #[.int .i64 a0_0,.slice A0_1 l0_1.length c0_1],.string (a1.extract (x6_1:Int).toNat (x8_1:Int).toNat)] (by rfl) rfl rfl (by (try simp only [List.map_toArray,List.map_cons,List.map_nil]);first|done|rfl|(simp only [List.length_drop,List.length_take];rfl)) ?_
            with_reducible refine (spec_l4event.calls k1 a0_0 _ _ l0_1 (a1.extract (x6_1:Int).toNat (x8_1:Int).toNat) t239 t240 t241 false _ ?side1 ?side2 A24.out).mono ?_
            (case side1=>repeat (first|exact (Kd.C_below HR0_1.out HB.out)|(with_reducible refine Kd.C_alloc ?_ _)|(with_reducible refine Kd.C_drewN ?_ _)|(with_reducible refine Kd.C_drew ?_)))
            (case side2=>exact HC0_1.out)
            rintro e w52 ⟨rfl,hb⟩
            refine ⟨_,rfl,?_⟩
            have n0_:=Aside0.mk (Kd.R_below (by (with_reducible repeat (first|apply Kd.R_alloc|apply Kd.R_drewN|apply Kd.R_drew));exact HO_5.out) hb)
            have n1_:=Aside0.mk (blk_below (g:=gb236) (o:=.cells #[.int .i64 a0_0,.slice A0_1 l0_1.length c0_1] 31 (0,0)) (by (with_reducible repeat (first|refine blk_drewN ?_ _|refine blk_drew ?_|refine blk_alloc ?_ _));exact BK236.out) hb)
            have n2_:=Aside0.mk (blk_below (g:=gb237) (o:=.cells #[.int .i64 x238000_1,.int .i64 x238001_1,.slice none 0 0] 39 (0,0)) (by (with_reducible repeat (first|refine blk_drewN ?_ _|refine blk_drew ?_|refine blk_alloc ?_ _));exact BK237.out) hb)
            have n3_:=Aside0.mk (below_step (by repeat (first|(with_reducible first|exact HB.out|apply below_alloc|apply pw_below_drewN|apply below_drew1|refine below_set ?_ GE236.out|refine below_set ?_ GE237.out)|exact HB.out)) hb)
            clear HO_5
            clear BK236
            clear BK237
            clear HB
            have HO_5:=n0_
            have BK236:=n1_
            have BK237:=n2_
            have HB:=n3_
            clear n0_ n1_ n2_ n3_
            (try clear hb)
            (try clear hb2)
            (try clear hk)
            (try clear hi)
            refine hK.out _ _ ⟨(blk_cell BK236.out 0).trans rfl,(blk_cell BK236.out 1).trans rfl⟩ (fun hHeld=>?_)
            clear hK K
            refine norm_ (a':=?_) ?_ ?_
            rotate_left
            ·show Act.put _ (some 37) _=_
             simp only [Act.put,List.setIfInBounds_toArray,List.set_cons_zero,List.set_cons_succ,i64_w,i32_w]
             rfl
            refine pure_ (i:=6) (N:=some 31) (v:=?_) (a':=?_) #[true,true,true,true,true,true,true,false,false,false,false,false] rfl rfl (any_of HT_.out (by kernel_rfl)) (fun _ _ _ h=>h) (Or.inl ⟨by rfl,?_⟩) ?_ ?_
            rotate_left
            ·intro w'
             go_simp
             with_reducible rfl
            rotate_left
            ·simp only [Act.put,List.setIfInBounds_toArray,List.set_cons_zero,List.set_cons_succ,i64_w,i32_w]
             rfl
            refine pure_ (i:=7) (N:=some 38) (v:=?_) (a':=?_) #[true,true,true,true,true,true,true,true,false,false,false,false] rfl rfl (any_of HT_.out (by kernel_rfl)) (fun _ _ _ h=>h) (Or.inl ⟨by rfl,?_⟩) ?_ ?_
            rotate_left
            ·intro w'
             go_simp
             with_reducible rfl
            rotate_left
            ·simp only [Act.put,List.setIfInBounds_toArray,List.set_cons_zero,List.set_cons_succ,i64_w,i32_w]
             rfl
            refine pure_ (i:=8) (N:=some 39) (v:=?_) (a':=?_) #[true,true,true,true,true,true,true,true,true,false,false,false] rfl rfl (any_of HT_.out (by kernel_rfl)) (fun _ _ _ h=>h) (Or.inl ⟨by rfl,?_⟩) ?_ ?_
            rotate_left
            ·intro w'
             go_simp
             with_reducible rfl
            rotate_left
            ·simp only [Act.put,List.setIfInBounds_toArray,List.set_cons_zero,List.set_cons_succ,i64_w,i32_w]
             rfl
            refine one_ (i:=9) (N:=some 9) #[true,true,true,true,true,true,true,true,true,true,false,false] rfl rfl (one_of HT_.out (by kernel_rfl)) (by decide) (fun K hK=>?_)
            refine box_step ?hg (N:=9) ?hd (cs:=#[.int .i64 0,.int .i64 0,.int .i64 0]) (t:=52) ?hr ?_;(case hd=>rfl);(case hg=>rfl);(case hr=>first|(go_simp;done)|(go_simp;rfl))
            intro gb243 hg w53 hbox hb
            have n0_:=Aside0.mk (Kd.R_below (Kd.R_elderB (by (with_reducible repeat (first|apply Kd.R_alloc|apply Kd.R_drewN|apply Kd.R_drew));exact HO_5.out) gb243 (Nat.le_of_eq hg.symm)) hb)
            have n1_:=Aside0.mk (blk_below (g:=gb236) (o:=.cells #[.int .i64 a0_0,.slice A0_1 l0_1.length c0_1] 31 (0,0)) (by (with_reducible repeat (first|refine blk_drewN ?_ _|refine blk_drew ?_|refine blk_alloc ?_ _));exact BK236.out) hb)
            have n2_:=Aside0.mk (blk_below (g:=gb237) (o:=.cells #[.int .i64 x238000_1,.int .i64 x238001_1,.slice none 0 0] 39 (0,0)) (by (with_reducible repeat (first|refine blk_drewN ?_ _|refine blk_drew ?_|refine blk_alloc ?_ _));exact BK237.out) hb)
            have n3_:=Aside0.mk (below_step (by repeat (first|(with_reducible first|exact HB.out|apply below_alloc|apply pw_below_drewN|apply below_drew1|refine below_set ?_ GE236.out|refine below_set ?_ GE237.out)|exact HB.out)) hb)
            have n4_:=Aside0.mk (hbox)
            have n5_:=Aside0.mk ((by rw [hg];exact (below_size (by repeat (first|(with_reducible first|exact HB.out|apply below_alloc|apply pw_below_drewN|apply below_drew1|refine below_set ?_ GE236.out|refine below_set ?_ GE237.out)|exact HB.out))):w.heap.size≤gb243))
            have n6_:=Aside0.mk ((by rw [hg];exact (below_size (by repeat (first|(with_reducible first|exact HB.out|apply below_alloc|apply pw_below_drewN|apply below_drew1|refine below_set ?_ GE236.out|refine below_set ?_ GE237.out)|exact HB.out))):w.heap.size≤gb243))
            have n7_:=Aside0.mk ((by rw [hg];exact Nat.ne_of_lt (blk_lt (g:=gb236) (o:=.cells #[.int .i64 a0_0,.slice A0_1 l0_1.length c0_1] 31 (0,0)) (by (with_reducible repeat (first|refine blk_drewN ?_ _|refine blk_drew ?_|refine blk_alloc ?_ _));exact BK236.out)):gb236 ≠ gb243))
            have n8_:=Aside0.mk ((by rw [hg];exact Nat.ne_of_gt (blk_lt (g:=gb236) (o:=.cells #[.int .i64 a0_0,.slice A0_1 l0_1.length c0_1] 31 (0,0)) (by (with_reducible repeat (first|refine blk_drewN ?_ _|refine blk_drew ?_|refine blk_alloc ?_ _));exact BK236.out)):gb243 ≠ gb236))
            have n9_:=Aside0.mk ((by rw [hg];exact Nat.ne_of_lt (blk_lt (g:=gb237) (o:=.cells #[.int .i64 x238000_1,.int .i64 x238001_1,.slice none 0 0] 39 (0,0)) (by (with_reducible repeat (first|refine blk_drewN ?_ _|refine blk_drew ?_|refine blk_alloc ?_ _));exact BK237.out)):gb237 ≠ gb243))
            have n10_:=Aside0.mk ((by rw [hg];exact Nat.ne_of_gt (blk_lt (g:=gb237) (o:=.cells #[.int .i64 x238000_1,.int .i64 x238001_1,.slice none 0 0] 39 (0,0)) (by (with_reducible repeat (first|refine blk_drewN ?_ _|refine blk_drew ?_|refine blk_alloc ?_ _));exact BK237.out)):gb243 ≠ gb237))
            clear HO_5
            clear BK236
            clear BK237
            clear HB
            have HO_5:=n0_
            have BK236:=n1_
            have BK237:=n2_
            have HB:=n3_
            have BK243:=n4_
            have GW243:=n5_
            have GE243:=n6_
            have NB236_243:=n7_
            have NB243_236:=n8_
            have NB237_243:=n9_
            have NB243_237:=n10_
            clear n0_ n1_ n2_ n3_ n4_ n5_ n6_ n7_ n8_ n9_ n10_
            clear hb hbox hg
            refine hK.out _ _ ⟨(blk_cell BK236.out 0).trans rfl,(blk_cell BK236.out 1).trans rfl⟩ (fun hHeld=>?_)
            clear hK K
            refine norm_ (a':=?_) ?_ ?_
            rotate_left
            ·show Act.put _ (some 9) _=_
             simp only [Act.put,List.setIfInBounds_toArray,List.set_cons_zero,List.set_cons_succ,i64_w,i32_w]
             rfl
            exact norm_ (by simp only [putAll,Act.put,List.setIfInBounds_toArray,List.set_cons_zero,List.set_cons_succ]) (hCont (gb243) _ ⟨hHeld,(by (with_reducible repeat (first|apply Kd.R_alloc|apply Kd.R_drewN|apply Kd.R_drew));exact Kd.R_mono HO_5.out (fun _ hk=>hk.2)),(by (with_reducible repeat (first|refine blk_drewN ?_ _|refine blk_drew ?_|refine blk_alloc ?_ _));exact BK236.out),(by (with_reducible repeat (first|refine blk_drewN ?_ _|refine blk_drew ?_|refine blk_alloc ?_ _));exact BK237.out),(by (with_reducible repeat (first|refine blk_drewN ?_ _|refine blk_drew ?_|refine blk_alloc ?_ _));exact BK243.out),GW243.out,GE243.out,NB236_243.out,NB243_236.out,NB237_243.out,NB243_237.out,(by repeat (first|(with_reducible first|exact HB.out|apply below_alloc|apply pw_below_drewN|apply below_drew1|refine below_set ?_ GE236.out|refine below_set ?_ GE237.out|refine below_set ?_ GE243.out)|exact HB.out))⟩)
           skip
           refine box_step ?hg (N:=9) ?hd (cs:=#[.int .i64 0,.int .i64 0,.int .i64 0]) (t:=52) ?hr ?_;(case hd=>rfl);(case hg=>rfl);(case hr=>first|(go_simp;done)|(go_simp;rfl))
           intro gb243 hg w52 hbox hb
           have n0_:=Aside0.mk (Kd.R_below (Kd.R_elderB (by (with_reducible repeat (first|apply Kd.R_alloc|apply Kd.R_drewN|apply Kd.R_drew));exact HO_5.out) gb243 (Nat.le_of_eq hg.symm)) hb)
           have n1_:=Aside0.mk (blk_below (g:=gb236) (o:=.cells #[.int .i64 a0_0,.slice A0_1 l0_1.length c0_1] 31 (0,0)) (by (with_reducible repeat (first|refine blk_drewN ?_ _|refine blk_drew ?_|refine blk_alloc ?_ _));exact BK236.out) hb)
           have n2_:=Aside0.mk (blk_below (g:=gb237) (o:=.cells #[.int .i64 x238000_1,.int .i64 x238001_1,.slice none 0 0] 39 (0,0)) (by (with_reducible repeat (first|refine blk_drewN ?_ _|refine blk_drew ?_|refine blk_alloc ?_ _));exact BK237.out) hb)
           have n3_:=Aside0.mk (below_step (by repeat (first|(with_reducible first|exact HB.out|apply below_alloc|apply pw_below_drewN|apply below_drew1|refine below_set ?_ GE236.out|refine below_set ?_ GE237.out)|exact HB.out)) hb)
           have n4_:=Aside0.mk (hbox)
           have n5_:=Aside0.mk ((by rw [hg];exact (below_size (by repeat (first|(with_reducible first|exact HB.out|apply below_alloc|apply pw_below_drewN|apply below_drew1|refine below_set ?_ GE236.out|refine below_set ?_ GE237.out)|exact HB.out))):w.heap.size≤gb243))
           have n6_:=Aside0.mk ((by rw [hg];exact (below_size (by repeat (first|(with_reducible first|exact HB.out|apply below_alloc|apply pw_below_drewN|apply below_drew1|refine below_set ?_ GE236.out|refine below_set ?_ GE237.out)|exact HB.out))):w.heap.size≤gb243))
           have n7_:=Aside0.mk ((by rw [hg];exact Nat.ne_of_lt (blk_lt (g:=gb236) (o:=.cells #[.int .i64 a0_0,.slice A0_1 l0_1.length c0_1] 31 (0,0)) (by (with_reducible repeat (first|refine blk_drewN ?_ _|refine blk_drew ?_|refine blk_alloc ?_ _));exact BK236.out)):gb236 ≠ gb243))
           have n8_:=Aside0.mk ((by rw [hg];exact Nat.ne_of_gt (blk_lt (g:=gb236) (o:=.cells #[.int .i64 a0_0,.slice A0_1 l0_1.length c0_1] 31 (0,0)) (by (with_reducible repeat (first|refine blk_drewN ?_ _|refine blk_drew ?_|refine blk_alloc ?_ _));exact BK236.out)):gb243 ≠ gb236))
           have n9_:=Aside0.mk ((by rw [hg];exact Nat.ne_of_lt (blk_lt (g:=gb237) (o:=.cells #[.int .i64 x238000_1,.int .i64 x238001_1,.slice none 0 0] 39 (0,0)) (by (with_reducible repeat (first|refine blk_drewN ?_ _|refine blk_drew ?_|refine blk_alloc ?_ _));exact BK237.out)):gb237 ≠ gb243))
           have n10_:=Aside0.mk ((by rw [hg];exact Nat.ne_of_gt (blk_lt (g:=gb237) (o:=.cells #[.int .i64 x238000_1,.int .i64 x238001_1,.slice none 0 0] 39 (0,0)) (by (with_reducible repeat (first|refine blk_drewN ?_ _|refine blk_drew ?_|refine blk_alloc ?_ _));exact BK237.out)):gb243 ≠ gb237))
           clear HO_5
           clear BK236
           clear BK237
           clear HB
           have HO_5:=n0_
           have BK236:=n1_
           have BK237:=n2_
           have HB:=n3_
           have BK243:=n4_
           have GW243:=n5_
           have GE243:=n6_
           have NB236_243:=n7_
           have NB243_236:=n8_
           have NB237_243:=n9_
           have NB243_237:=n10_
           clear n0_ n1_ n2_ n3_ n4_ n5_ n6_ n7_ n8_ n9_ n10_
           clear hb hbox hg
           refine hK.out _ _ ⟨(blk_cell BK236.out 0).trans rfl,(blk_cell BK236.out 1).trans rfl⟩ (fun hHeld=>?_)
           clear hK K
           refine norm_ (a':=?_) ?_ ?_
           rotate_left
           ·show Act.put _ (some 9) _=_
            simp only [Act.put,List.setIfInBounds_toArray,List.set_cons_zero,List.set_cons_succ,i64_w,i32_w]
            rfl
           refine one_ (i:=5) (N:=some 37) #[true,true,true,true,true,true,false,false,false,true,false,false] rfl rfl (one_of HT_.out (by kernel_rfl)) (by decide) (fun K hK=>?_)
           refine goes_ Tryd.func39 (by kernel_rfl) rfl #[.agg #[.int .i64 a0_0,.slice A0_1 l0_1.length c0_1],.string (a1.extract (x6_1:Int).toNat (x8_1:Int).toNat)] (by rfl) rfl rfl (by (try simp only [List.map_toArray,List.map_cons,List.map_nil]);first|done|rfl|(simp only [List.length_drop,List.length_take];rfl)) ?_
           with_reducible refine (spec_l4event.calls k1 a0_0 _ _ l0_1 (a1.extract (x6_1:Int).toNat (x8_1:Int).toNat) t239 t240 t241 false _ ?side1 ?side2 A24.out).mono ?_
           (case side1=>repeat (first|exact (Kd.C_below HR0_1.out HB.out)|(with_reducible refine Kd.C_alloc ?_ _)|(with_reducible refine Kd.C_drewN ?_ _)|(with_reducible refine Kd.C_drew ?_)))
           (case side2=>exact HC0_1.out)
           rintro e w53 ⟨rfl,hb⟩
           refine ⟨_,rfl,?_⟩
           have n0_:=Aside0.mk (Kd.R_below (by (with_reducible repeat (first|apply Kd.R_alloc|apply Kd.R_drewN|apply Kd.R_drew));exact HO_5.out) hb)
           have n1_:=Aside0.mk (blk_below (g:=gb236) (o:=.cells #[.int .i64 a0_0,.slice A0_1 l0_1.length c0_1] 31 (0,0)) (by (with_reducible repeat (first|refine blk_drewN ?_ _|refine blk_drew ?_|refine blk_alloc ?_ _));exact BK236.out) hb)
           have n2_:=Aside0.mk (blk_below (g:=gb237) (o:=.cells #[.int .i64 x238000_1,.int .i64 x238001_1,.slice none 0 0] 39 (0,0)) (by (with_reducible repeat (first|refine blk_drewN ?_ _|refine blk_drew ?_|refine blk_alloc ?_ _));exact BK237.out) hb)
           have n3_:=Aside0.mk (blk_below (g:=gb243) (o:=.cells #[.int .i64 0,.int .i64 0,.int .i64 0] 52 (0,0)) (by (with_reducible repeat (first|refine blk_drewN ?_ _|refine blk_drew ?_|refine blk_alloc ?_ _));exact BK243.out) hb)
           have n4_:=Aside0.mk (below_step (by repeat (first|(with_reducible first|exact HB.out|apply below_alloc|apply pw_below_drewN|apply below_drew1|refine below_set ?_ GE236.out|refine below_set ?_ GE237.out|refine below_set ?_ GE243.out)|exact HB.out)) hb)
           clear HO_5
           clear BK236
           clear BK237
           clear BK243
           clear HB
           have HO_5:=n0_
           have BK236:=n1_
           have BK237:=n2_
           have BK243:=n3_
           have HB:=n4_
           clear n0_ n1_ n2_ n3_ n4_
           (try clear hb)
           (try clear hb2)
           (try clear hk)
           (try clear hi)
           refine hK.out _ _ ⟨(blk_cell BK236.out 0).trans rfl,(blk_cell BK236.out 1).trans rfl⟩ (fun hHeld=>?_)
           clear hK K
           refine norm_ (a':=?_) ?_ ?_
           rotate_left
           ·show Act.put _ (some 37) _=_
            simp only [Act.put,List.setIfInBounds_toArray,List.set_cons_zero,List.set_cons_succ,i64_w,i32_w]
            rfl
           refine pure_ (i:=6) (N:=some 31) (v:=?_) (a':=?_) #[true,true,true,true,true,true,true,false,false,true,false,false] rfl rfl (any_of HT_.out (by kernel_rfl)) (fun _ _ _ h=>h) (Or.inl ⟨by rfl,?_⟩) ?_ ?_
           rotate_left
           ·intro w'
            go_simp
            with_reducible rfl
           rotate_left
           ·simp only [Act.put,List.setIfInBounds_toArray,List.set_cons_zero,List.set_cons_succ,i64_w,i32_w]
            rfl
           refine pure_ (i:=7) (N:=some 38) (v:=?_) (a':=?_) #[true,true,true,true,true,true,true,true,false,true,false,false] rfl rfl (any_of HT_.out (by kernel_rfl)) (fun _ _ _ h=>h) (Or.inl ⟨by rfl,?_⟩) ?_ ?_
           rotate_left
           ·intro w'
            go_simp
            with_reducible rfl
           rotate_left
           ·simp only [Act.put,List.setIfInBounds_toArray,List.set_cons_zero,List.set_cons_succ,i64_w,i32_w]
            rfl
           refine pure_ (i:=8) (N:=some 39) (v:=?_) (a':=?_) #[true,true,true,true,true,true,true,true,true,true,false,false] rfl rfl (any_of HT_.out (by kernel_rfl)) (fun _ _ _ h=>h) (Or.inl ⟨by rfl,?_⟩) ?_ ?_
           rotate_left
           ·intro w'
            go_simp
            with_reducible rfl
           rotate_left
           ·simp only [Act.put,List.setIfInBounds_toArray,List.set_cons_zero,List.set_cons_succ,i64_w,i32_w]
            rfl
           exact norm_ (by simp only [putAll,Act.put,List.setIfInBounds_toArray,List.set_cons_zero,List.set_cons_succ]) (hCont (gb243) _ ⟨hHeld,(by (with_reducible repeat (first|apply Kd.R_alloc|apply Kd.R_drewN|apply Kd.R_drew));exact Kd.R_mono HO_5.out (fun _ hk=>hk.2)),(by (with_reducible repeat (first|refine blk_drewN ?_ _|refine blk_drew ?_|refine blk_alloc ?_ _));exact BK236.out),(by (with_reducible repeat (first|refine blk_drewN ?_ _|refine blk_drew ?_|refine blk_alloc ?_ _));exact BK237.out),(by (with_reducible repeat (first|refine blk_drewN ?_ _|refine blk_drew ?_|refine blk_alloc ?_ _));exact BK243.out),GW243.out,GE243.out,NB236_243.out,NB243_236.out,NB237_243.out,NB243_237.out,(by repeat (first|(with_reducible first|exact HB.out|apply below_alloc|apply pw_below_drewN|apply below_drew1|refine below_set ?_ GE236.out|refine below_set ?_ GE237.out|refine below_set ?_ GE243.out)|exact HB.out))⟩)
          rintro gb243 w54 ⟨hS_,h0_,h1_,h2_,h3_,h4_,h5_,h6_,h7_,h8_,h9_,h10_⟩
          have n0_:Aside0 (Kd.R k52 52 w54 w.heap.size (fun k_=>k_ ≠ gb243) u5 x5_1):=⟨h0_⟩
          have n1_:Aside0 (w54.heap[gb236]?=some (.cells #[.int .i64 a0_0,.slice A0_1 l0_1.length c0_1] 31 (0,0))):=⟨h1_⟩
          have n2_:Aside0 (w54.heap[gb237]?=some (.cells #[.int .i64 x238000_1,.int .i64 x238001_1,.slice none 0 0] 39 (0,0))):=⟨h2_⟩
          have n3_:Aside0 (w54.heap[gb243]?=some (.cells #[.int .i64 0,.int .i64 0,.int .i64 0] 52 (0,0))):=⟨h3_⟩
          have n4_:Aside0 (w.heap.size≤gb243):=⟨h4_⟩
          have n5_:Aside0 (w.heap.size≤gb243):=⟨h5_⟩
          have n6_:Aside0 (gb236 ≠ gb243):=⟨h6_⟩
          have n7_:Aside0 (gb243 ≠ gb236):=⟨h7_⟩
          have n8_:Aside0 (gb237 ≠ gb243):=⟨h8_⟩
          have n9_:Aside0 (gb243 ≠ gb237):=⟨h9_⟩
          have n10_:Aside0 (Below w.heap.size w w54):=⟨h10_⟩
          clear HO_5
          clear BK236
          clear BK237
          clear HB
          clear h0_ h1_ h2_ h3_ h4_ h5_ h6_ h7_ h8_ h9_ h10_
          have HO_5:=n0_
          have BK236:=n1_
          have BK237:=n2_
          have BK243:=n3_
          have GW243:=n4_
          have GE243:=n5_
          have NB236_243:=n6_
          have NB243_236:=n7_
          have NB237_243:=n8_
          have NB243_237:=n9_
          have HB:=n10_
          clear n0_ n1_ n2_ n3_ n4_ n5_ n6_ n7_ n8_ n9_ n10_
          have hHeld:w54.cell? ⟨gb236,0,none⟩=some (.int .i64 a0_0)∧w54.cell? ⟨gb236,1,none⟩=some (.slice A0_1 l0_1.length c0_1):=hS_
          refine norm_ (a':=?_) ?_ ?_
          rotate_left
          ·simp only [putAll,Act.put,List.setIfInBounds_toArray,List.set_cons_zero,List.set_cons_succ]
           rfl
          refine one_ (i:=10) (N:=none) #[true,true,true,true,true,true,true,true,true,true,true,false] rfl rfl (one_of HT_.out (by kernel_rfl)) (by decide) (fun K hK=>?_)
          have hs55:w54.cell? ⟨gb243,0,none⟩=some (.int .i64 0):=(blk_cell BK243.out 0).trans rfl
          have hfs55:=blk_frozen BK243.out 0
          have hns55_0:=NB236_243.out
          have hns55_1:=NB237_243.out
          have hms55_0:=NB243_236.out
          have hms55_1:=NB243_237.out
          have hs56:w54.cell? ⟨gb243,1,none⟩=some (.int .i64 0):=(blk_cell BK243.out 1).trans rfl
          have hfs56:=blk_frozen BK243.out 1
          have hns56_0:=NB236_243.out
          have hns56_1:=NB237_243.out
          have hms56_0:=NB243_236.out
          have hms56_1:=NB243_237.out
          have hs57:w54.cell? ⟨gb243,2,none⟩=some (.int .i64 0):=(blk_cell BK243.out 2).trans rfl
          have hfs57:=blk_frozen BK243.out 2
          have hns57_0:=NB236_243.out
          have hns57_1:=NB237_243.out
          have hms57_0:=NB243_236.out
          have hms57_1:=NB243_237.out
          refine skip_ (w1:=?_) (by rfl) rfl ?_ ?_
          rotate_left
          ·go_simp
           rfl
          refine hK.out _ _ ⟨((cell_far (p:=⟨gb243,_,none⟩) NB236_243.out _).trans (((cell_far (p:=⟨gb243,_,none⟩) NB236_243.out _).trans (((cell_far (p:=⟨gb243,_,none⟩) NB236_243.out _).trans (hHeld.1)))))),((cell_far (p:=⟨gb243,_,none⟩) NB236_243.out _).trans (((cell_far (p:=⟨gb243,_,none⟩) NB236_243.out _).trans (((cell_far (p:=⟨gb243,_,none⟩) NB236_243.out _).trans (hHeld.2))))))⟩ (fun hHeld=>?_)
          clear hK K
          refine pure_ (i:=11) (N:=some 10) (v:=?_) (a':=?_) #[true,true,true,true,true,true,true,true,true,true,true,true] rfl rfl (any_of HT_.out (by kernel_rfl)) (fun _ _ _ h=>h) (Or.inl ⟨by rfl,?_⟩) ?_ ?_
          rotate_left
          ·intro w'
           go_simp
           with_reducible rfl
          rotate_left
          ·simp only [Act.put,List.setIfInBounds_toArray,List.set_cons_zero,List.set_cons_succ,i64_w,i32_w]
           rfl
          refine done_ (done_of HT_.out (by kernel_rfl)) ?_
          have hnb58:=NB237_236.out
          have hnc58:=NB236_237.out
          have hnb59:=NB237_243.out
          have hnc59:=NB243_237.out
          have hcz60_0:w54.cell? ⟨gb237,0,none⟩=some (.int .i64 x238000_1):=(blk_cell BK237.out 0).trans rfl
          have hcz60_1:w54.cell? ⟨gb237,1,none⟩=some (.int .i64 x238001_1):=(blk_cell BK237.out 1).trans rfl
          have hcz60_2:w54.cell? ⟨gb237,2,none⟩=some (.slice none 0 0):=(blk_cell BK237.out 2).trans rfl
          have hfz60_0:=blk_frozen BK237.out 0
          have hfz60_1:=blk_frozen BK237.out 1
          have hfz60_2:=blk_frozen BK237.out 2
          try go_wp2
          refine bodyPost_ret (results_cell_row rfl _ _ gb237 39 #[.int .i64 3,.int .i64 (wrap64 (x7_1+1)),.slice none 0 0] (0,0) _ rfl (by (with_reducible repeat (first|refine blk_drewN ?_ _|refine blk_drew ?_|refine blk_alloc ?_ _));refine blk_put (cs:=#[.int .i64 3,.int .i64 (wrap64 (x7_1+1)),.slice none 0 0]) ?_ 2 _ rfl;(with_reducible repeat (first|refine blk_drewN ?_ _|refine blk_drew ?_|refine blk_alloc ?_ _));refine blk_put (cs:=#[.int .i64 3,.int .i64 x238001_1,.slice none 0 0]) ?_ 1 _ rfl;(with_reducible repeat (first|refine blk_drewN ?_ _|refine blk_drew ?_|refine blk_alloc ?_ _));refine blk_put (cs:=#[.int .i64 x238000_1,.int .i64 x238001_1,.slice none 0 0]) ?_ 0 _ rfl;(with_reducible repeat (first|refine blk_drewN ?_ _|refine blk_drew ?_|refine blk_alloc ?_ _));refine blk_far ?_ NB237_243.out _;(with_reducible repeat (first|refine blk_drewN ?_ _|refine blk_drew ?_|refine blk_alloc ?_ _));refine blk_far ?_ NB237_243.out _;(with_reducible repeat (first|refine blk_drewN ?_ _|refine blk_drew ?_|refine blk_alloc ?_ _));refine blk_far ?_ NB237_243.out _;(with_reducible repeat (first|refine blk_drewN ?_ _|refine blk_drew ?_|refine blk_alloc ?_ _));exact BK237.out) Tryd.underlying39 rfl (by kernel_rfl)) rfl ?_
          exact ⟨_,by first|rfl|(simp [errW_none,errW_some] <;> rfl)|(simp [*,errW_none,errW_some] <;> rfl),by first|exact Kd.R_nil _ _ _ _ _|exact Kd.N_nil _ _ _ _ _|exact Kd.V_nil _ _ _ _ _|exact Kd.Q_nil _ _ _ _ _|exact Kd.S_nil _ _ _ _ _,by repeat (first|(with_reducible first|exact HB.out|apply below_alloc|apply pw_below_drewN|apply below_drew1|refine below_set ?_ GE236.out|refine below_set ?_ GE237.out|refine below_set ?_ GE243.out)|exact HB.out)⟩
         rw [if_neg c23] at H
         exact absurd H (by simp)
        rw [if_neg c22] at H
        exact absurd H (by simp)
       rw [if_neg c21] at H
       exact absurd H (by simp)
      rw [if_neg c20] at H
      have c20b0:((bt a1 x8_1)==10)=false:=beq_eq_false_iff_ne.mpr c20
      have c20b1:((bt a1 x8_1) != 10)=true:=bne_iff_ne.mpr c20
      have H':=Aside0.mk H
      clear H
      have p19:0≤(x8_1:Int):=of_decide_eq_true (by first|(with_reducible assumption)|assumption)
      have q19:x8_1<(a1.size:Int):=of_decide_eq_true (by first|(with_reducible assumption)|assumption)
      have hx19:=bt_at a1 x8_1
      replace p19:=eq_true p19
      replace q19:=eq_true q19
      go_wp2
      go_roundg k1
      case measure=>have:=HK1.out;omega
      case rel=>exact ⟨(x5_1),(x6_1),(x7_1),(wrap64 (x8_1+1)),(x238000_1),(x238001_1),(by first|rfl|(simp;done)|(simp [*];done)),(by first|rfl|(simp;done)|(simp [*];done)),(by first|rfl|(simp;done)|(simp [*];done)),H',⟨by have:=HK1.out;omega⟩,⟨by (with_reducible repeat (first|apply Kd.R_alloc|apply Kd.R_drewN|apply Kd.R_drew));exact HO_5.out⟩,⟨by (with_reducible repeat (first|refine blk_drewN ?_ _|refine blk_drew ?_|refine blk_alloc ?_ _));exact BK236.out⟩,⟨by (with_reducible repeat (first|refine blk_drewN ?_ _|refine blk_drew ?_|refine blk_alloc ?_ _));exact BK237.out⟩,⟨by repeat (first|(with_reducible first|exact HB.out|apply below_alloc|apply pw_below_drewN|apply below_drew1|refine below_set ?_ GE236.out|refine below_set ?_ GE237.out)|exact HB.out)⟩⟩
     rw [if_neg c18] at H
     exact absurd H (by simp)
    rw [if_neg c17] at H
    have c17b0:decide (x8_1<(a1.size:Int))=false:=decide_eq_false c17
    clear c17
    by_cases c61:x6_1<(a1.size:Int)
    ·rw [if_pos c61] at H
     have c61b0:decide (x6_1<(a1.size:Int))=true:=decide_eq_true c61
     clear c61
     simp only [Option.some.injEq,Prod.mk.injEq] at H
     obtain ⟨rfl,rfl,rfl⟩:=H
     have hnb62:=NB237_236.out
     have hnc62:=NB236_237.out
     have hcz63_0:wr.cell? ⟨gb237,0,none⟩=some (.int .i64 x238000_1):=(blk_cell BK237.out 0).trans rfl
     have hcz63_1:wr.cell? ⟨gb237,1,none⟩=some (.int .i64 x238001_1):=(blk_cell BK237.out 1).trans rfl
     have hcz63_2:wr.cell? ⟨gb237,2,none⟩=some (.slice none 0 0):=(blk_cell BK237.out 2).trans rfl
     have hfz63_0:=blk_frozen BK237.out 0
     have hfz63_1:=blk_frozen BK237.out 1
     have hfz63_2:=blk_frozen BK237.out 2
     go_wp2
     refine bodyPost_ret (results_cell_row rfl _ _ gb237 39 #[.int .i64 3,.int .i64 (wrap64 (x7_1+1)),.slice none 0 0] (0,0) _ rfl (by (with_reducible repeat (first|refine blk_drewN ?_ _|refine blk_drew ?_|refine blk_alloc ?_ _));refine blk_put (cs:=#[.int .i64 3,.int .i64 (wrap64 (x7_1+1)),.slice none 0 0]) ?_ 2 _ rfl;(with_reducible repeat (first|refine blk_drewN ?_ _|refine blk_drew ?_|refine blk_alloc ?_ _));refine blk_put (cs:=#[.int .i64 3,.int .i64 x238001_1,.slice none 0 0]) ?_ 1 _ rfl;(with_reducible repeat (first|refine blk_drewN ?_ _|refine blk_drew ?_|refine blk_alloc ?_ _));refine blk_put (cs:=#[.int .i64 x238000_1,.int .i64 x238001_1,.slice none 0 0]) ?_ 0 _ rfl;(with_reducible repeat (first|refine blk_drewN ?_ _|refine blk_drew ?_|refine blk_alloc ?_ _));exact BK237.out) Tryd.underlying39 rfl (by kernel_rfl)) rfl ?_
     exact ⟨_,by first|rfl|(simp [errW_none,errW_some] <;> rfl)|(simp [*,errW_none,errW_some] <;> rfl),by first|exact Kd.R_nil _ _ _ _ _|exact Kd.N_nil _ _ _ _ _|exact Kd.V_nil _ _ _ _ _|exact Kd.Q_nil _ _ _ _ _|exact Kd.S_nil _ _ _ _ _,by repeat (first|(with_reducible first|exact HB.out|apply below_alloc|apply pw_below_drewN|apply below_drew1|refine below_set ?_ GE236.out|refine below_set ?_ GE237.out)|exact HB.out)⟩
    rw [if_neg c61] at H
    have c61b0:decide (x6_1<(a1.size:Int))=false:=decide_eq_false c61
    clear c61
    simp only [Option.some.injEq,Prod.mk.injEq] at H
    obtain ⟨rfl,rfl,rfl⟩:=H
    obtain ⟨Ao64,co64,eo64⟩:=Kd.R_slice HO_5.out
    subst eo64
    have hnb65:=NB237_236.out
    have hnc65:=NB236_237.out
    have hcz66_0:wr.cell? ⟨gb237,0,none⟩=some (.int .i64 x238000_1):=(blk_cell BK237.out 0).trans rfl
    have hcz66_1:wr.cell? ⟨gb237,1,none⟩=some (.int .i64 x238001_1):=(blk_cell BK237.out 1).trans rfl
    have hcz66_2:wr.cell? ⟨gb237,2,none⟩=some (.slice none 0 0):=(blk_cell BK237.out 2).trans rfl
    have hfz66_0:=blk_frozen BK237.out 0
    have hfz66_1:=blk_frozen BK237.out 1
    have hfz66_2:=blk_frozen BK237.out 2
    go_wp2
    refine bodyPost_ret (results_cell_row rfl _ _ gb237 39 #[.int .i64 0,.int .i64 0,.slice Ao64 x5_1.length co64] (0,0) _ rfl (by (with_reducible repeat (first|refine blk_drewN ?_ _|refine blk_drew ?_|refine blk_alloc ?_ _));refine blk_put (cs:=#[.int .i64 0,.int .i64 0,.slice none 0 0]) ?_ 2 _ rfl;(with_reducible repeat (first|refine blk_drewN ?_ _|refine blk_drew ?_|refine blk_alloc ?_ _));refine blk_put (cs:=#[.int .i64 0,.int .i64 x238001_1,.slice none 0 0]) ?_ 1 _ rfl;(with_reducible repeat (first|refine blk_drewN ?_ _|refine blk_drew ?_|refine blk_alloc ?_ _));refine blk_put (cs:=#[.int .i64 x238000_1,.int .i64 x238001_1,.slice none 0 0]) ?_ 0 _ rfl;(with_reducible repeat (first|refine blk_drewN ?_ _|refine blk_drew ?_|refine blk_alloc ?_ _));exact BK237.out) Tryd.underlying39 rfl (by kernel_rfl)) rfl ?_
    exact ⟨_,by first|rfl|(simp [errW_none,errW_some] <;> rfl)|(simp [*,errW_none,errW_some] <;> rfl),by (with_reducible repeat (first|apply Kd.R_alloc|apply Kd.R_drewN|apply Kd.R_drew));exact Kd.R_mono (Kd.R_far (p:=⟨gb237,2,none⟩) (Kd.R_far (p:=⟨gb237,1,none⟩) (Kd.R_far (p:=⟨gb237,0,none⟩) (Kd.R_types HO_5.out BK237.out (by decide)) (fun _ hk=>hk.2) (.int .i64 0)) (fun _ hk=>hk.2) (.int .i64 0)) (fun _ hk=>hk.2) (.slice Ao64 x5_1.length co64)) (fun _ hk=>trivial),by repeat (first|(with_reducible first|exact HB.out|apply below_alloc|apply pw_below_drewN|apply below_drew1|refine below_set ?_ GE236.out|refine below_set ?_ GE237.out)|exact HB.out)⟩
 rw [if_neg c4] at H
 have c4b0:(t238==0)=false:=beq_eq_false_iff_ne.mpr c4
 have c4b1:(t238 != 0)=true:=bne_iff_ne.mpr c4
 simp only [Option.some.injEq,Prod.mk.injEq] at H
 obtain ⟨rfl,rfl,rfl⟩:=H
 go_enter Tryd.func15,Tryd.ntmps15
 go_wp2_with (first|((with_reducible refine gate_dst (N:=2) rfl ?_);(try (refine gate_guard (by rfl) ?_;dsimp only));refine box_event ?hg (N:=2) ?hd (cs:=#[.int .i64 a0_0,.slice A0_1 l0_1.length c0_1]) (t:=31) ?hr ?_;(case hd=>rfl);(case hg=>rfl);(case hr=>first|(go_simp;done)|(go_simp;rfl));intro gb236 hg w67 hbox hb;have n0_:=Aside0.mk (below_step (by repeat (first|(with_reducible first|exact HB.out|apply below_alloc|apply pw_below_drewN|apply below_drew1)|exact HB.out)) hb);have n1_:=Aside0.mk (hbox);have n2_:=Aside0.mk ((by rw [hg];exact (below_size (by repeat (first|(with_reducible first|exact HB.out|apply below_alloc|apply pw_below_drewN|apply below_drew1)|exact HB.out))):w.heap.size≤gb236));have n3_:=Aside0.mk ((by rw [hg];exact (below_size (by repeat (first|(with_reducible first|exact HB.out|apply below_alloc|apply pw_below_drewN|apply below_drew1)|exact HB.out))):w.heap.size≤gb236));clear HB;have HB:=n0_;have BK236:=n1_;have GW236:=n2_;have GE236:=n3_;clear n0_ n1_ n2_ n3_;clear hb hbox hg)|((with_reducible refine gate_dst (N:=4) rfl ?_);(try (refine gate_guard (by rfl) ?_;dsimp only));refine box_event ?hg (N:=4) ?hd (cs:=#[.int .i64 0,.int .i64 0,.slice none 0 0]) (t:=39) ?hr ?_;(case hd=>rfl);(case hg=>rfl);(case hr=>first|(go_simp;done)|(go_simp;rfl));intro gb237 hg w68 hbox hb;have n0_:=Aside0.mk (blk_below (g:=gb236) (o:=.cells #[.int .i64 a0_0,.slice A0_1 l0_1.length c0_1] 31 (0,0)) (by (with_reducible repeat (first|refine blk_drewN ?_ _|refine blk_drew ?_|refine blk_alloc ?_ _));exact BK236.out) hb);have n1_:=Aside0.mk (below_step (by repeat (first|(with_reducible first|exact HB.out|apply below_alloc|apply pw_below_drewN|apply below_drew1|refine below_set ?_ GE236.out)|exact HB.out)) hb);have n2_:=Aside0.mk (hbox);have n3_:=Aside0.mk ((by rw [hg];exact (below_size (by repeat (first|(with_reducible first|exact HB.out|apply below_alloc|apply pw_below_drewN|apply below_drew1|refine below_set ?_ GE236.out)|exact HB.out))):w.heap.size≤gb237));have n4_:=Aside0.mk ((by rw [hg];exact (below_size (by repeat (first|(with_reducible first|exact HB.out|apply below_alloc|apply pw_below_drewN|apply below_drew1|refine below_set ?_ GE236.out)|exact HB.out))):w.heap.size≤gb237));have n5_:=Aside0.mk ((by rw [hg];exact Nat.ne_of_lt (blk_lt (g:=gb236) (o:=.cells #[.int .i64 a0_0,.slice A0_1 l0_1.length c0_1] 31 (0,0)) (by (with_reducible repeat (first|refine blk_drewN ?_ _|refine blk_drew ?_|refine blk_alloc ?_ _));exact BK236.out)):gb236 ≠ gb237));have n6_:=Aside0.mk ((by rw [hg];exact Nat.ne_of_gt (blk_lt (g:=gb236) (o:=.cells #[.int .i64 a0_0,.slice A0_1 l0_1.length c0_1] 31 (0,0)) (by (with_reducible repeat (first|refine blk_drewN ?_ _|refine blk_drew ?_|refine blk_alloc ?_ _));exact BK236.out)):gb237 ≠ gb236));clear BK236;clear HB;have BK236:=n0_;have HB:=n1_;have BK237:=n2_;have GW237:=n3_;have GE237:=n4_;have NB236_237:=n5_;have NB237_236:=n6_;clear n0_ n1_ n2_ n3_ n4_ n5_ n6_;clear hb hbox hg;have hnb69:=NB236_237.out;have hnc69:=NB237_236.out;have hcz70_0:w68.cell? ⟨gb236,0,none⟩=some (.int .i64 a0_0):=(blk_cell BK236.out 0).trans rfl;have hcz70_1:w68.cell? ⟨gb236,1,none⟩=some (.slice A0_1 l0_1.length c0_1):=(blk_cell BK236.out 1).trans rfl;have hfz70_0:=blk_frozen BK236.out 0;have hfz70_1:=blk_frozen BK236.out 1)|((with_reducible refine gate_callee (f:=38) rfl ?_);refine goesL_ (some 12) rfl rfl Tryd.func38 (by kernel_rfl) rfl #[.agg #[.int .i64 a0_0,.slice A0_1 l0_1.length c0_1]] rfl (by (try simp only [List.map_toArray,List.map_cons,List.map_nil]);first|done|rfl|(simp only [List.length_drop,List.length_take];rfl)) ?_;(with_reducible refine (spec_LayoutOk.calls k a0_0 _ _ l0_1 t238 _ ?side1 ?side2 A3.out).mono ?_);(case side1=>repeat (first|exact (Kd.C_below HR0_1.out HB.out)|(with_reducible refine Kd.C_alloc ?_ _)|(with_reducible refine Kd.C_drewN ?_ _)|(with_reducible refine Kd.C_drew ?_)));(case side2=>exact HC0_1.out);rintro e w71 ⟨rfl,hb⟩;refine ⟨_,rfl,?_⟩;have n0_:=Aside0.mk (blk_below (g:=gb236) (o:=.cells #[.int .i64 a0_0,.slice A0_1 l0_1.length c0_1] 31 (0,0)) (by (with_reducible repeat (first|refine blk_drewN ?_ _|refine blk_drew ?_|refine blk_alloc ?_ _));exact BK236.out) hb);have n1_:=Aside0.mk (blk_below (g:=gb237) (o:=.cells #[.int .i64 0,.int .i64 0,.slice none 0 0] 39 (0,0)) (by (with_reducible repeat (first|refine blk_drewN ?_ _|refine blk_drew ?_|refine blk_alloc ?_ _));exact BK237.out) hb);have n2_:=Aside0.mk (below_step (by repeat (first|(with_reducible first|exact HB.out|apply below_alloc|apply pw_below_drewN|apply below_drew1|refine below_set ?_ GE236.out|refine below_set ?_ GE237.out)|exact HB.out)) hb);clear BK236;clear BK237;clear HB;have BK236:=n0_;have BK237:=n1_;have HB:=n2_;clear n0_ n1_ n2_;(try clear hb);(try clear hb2);(try clear hk);(try clear hi);have hcz72_0:w71.cell? ⟨gb237,0,none⟩=some (.int .i64 0):=(blk_cell BK237.out 0).trans rfl;have hcz72_1:w71.cell? ⟨gb237,1,none⟩=some (.int .i64 0):=(blk_cell BK237.out 1).trans rfl;have hcz72_2:w71.cell? ⟨gb237,2,none⟩=some (.slice none 0 0):=(blk_cell BK237.out 2).trans rfl;have hfz72_0:=blk_frozen BK237.out 0;have hfz72_1:=blk_frozen BK237.out 1;have hfz72_2:=blk_frozen BK237.out 2))
 refine bodyPost_ret (results_cell_row rfl _ _ gb237 39 #[.int .i64 1,.int .i64 0,.slice none 0 0] (0,0) _ rfl (by (with_reducible repeat (first|refine blk_drewN ?_ _|refine blk_drew ?_|refine blk_alloc ?_ _));refine blk_put (cs:=#[.int .i64 1,.int .i64 0,.slice none 0 0]) ?_ 2 _ rfl;(with_reducible repeat (first|refine blk_drewN ?_ _|refine blk_drew ?_|refine blk_alloc ?_ _));refine blk_put (cs:=#[.int .i64 1,.int .i64 0,.slice none 0 0]) ?_ 1 _ rfl;(with_reducible repeat (first|refine blk_drewN ?_ _|refine blk_drew ?_|refine blk_alloc ?_ _));refine blk_put (cs:=#[.int .i64 0,.int .i64 0,.slice none 0 0]) ?_ 0 _ rfl;(with_reducible repeat (first|refine blk_drewN ?_ _|refine blk_drew ?_|refine blk_alloc ?_ _));exact BK237.out) Tryd.underlying39 rfl (by kernel_rfl)) rfl ?_
 exact ⟨_,by first|rfl|(simp [errW_none,errW_some] <;> rfl)|(simp [*,errW_none,errW_some] <;> rfl),by first|exact Kd.R_nil _ _ _ _ _|exact Kd.N_nil _ _ _ _ _|exact Kd.V_nil _ _ _ _ _|exact Kd.Q_nil _ _ _ _ _|exact Kd.S_nil _ _ _ _ _,by repeat (first|(with_reducible first|exact HB.out|apply below_alloc|apply pw_below_drewN|apply below_drew1|refine below_set ?_ GE236.out|refine below_set ?_ GE237.out)|exact HB.out)⟩
end Go.Proofs.YtpdnabhpkdchjaaDoor.P
namespace Go.Proofs.YtpdnabhpkdchjaaDoor.P
open Go Go.RowKit Go.Proofs.YtpdnabhpkdchjaaDoorW.PrintWords Go.Proofs.YtpdnabhpkdchjaaDoorW.PrintLast Go.Proofs.YtpdnabhpkdchjaaDoorW.PrintMore
set_option linter.unusedVariables false
set_option linter.unusedSimpArgs false
open Classical in
noncomputable def readGo (n : Int) (l : List S98) : Nat → List UInt8 → Int → List S52 → Int × Int × List S52
  | 0, _, _, out => (0, 0, out)
  | f + 1, s, m, out => if s = [] then (0, 0, out) else if (10 : UInt8) ∉ s then (3, m + 1, []) else
    match evOf n l (s.takeWhile (· != 10)) with
    | none => (3, m + 1, [])
    | some e => if out.length = 2000 then (3, m + 1, []) else readGo n l f (s.dropWhile (· != 10)).tail (m + 1) (out ++ [e])
noncomputable def readE (n : Int) (l : List S98) (s : List UInt8) : Int × Int × List S52 :=
  if layoutOk n l = 0 then (if s.length > 20000 then (2, 0, []) else readGo n l s.length s 0 []) else (1, 0, [])
theorem line_cut {a r : List UInt8} (h : (10 : UInt8) ∉ a) : (a ++ 10 :: r).takeWhile (· != 10) = a ∧ ((a ++ 10 :: r).dropWhile (· != 10)).tail = r := by
  induction a with
  | nil => simp [List.takeWhile, List.dropWhile]
  | cons x a ih =>
    simp only [List.mem_cons, not_or] at h
    have hx : (x != 10) = true := by simpa using (fun hc => h.1 hc.symm)
    have := ih h.2
    rw [List.cons_append, List.takeWhile_cons, List.dropWhile_cons, if_pos hx, if_pos hx]
    exact ⟨by rw [this.1], this.2⟩
theorem bt_bs (s : List UInt8) (i : Nat) (h : i < s.length) : bt (bs s) (i : Int) = (s[i].toNat : Int) := by
  rw [← rd_bytesOf, bs_bytes]
  simp [rd, h]
theorem read_l0 (n : Int) (l : List S98) (s : List UInt8) (hl : layoutOk n l = 0) (hs : s.length ≤ 20000) (d : Nat) :
    ∀ (i at_ : Nat) (m : Int) (out : List S52) (f : Nat), i + d = s.length → at_ ≤ i → (10 : UInt8) ∉ (s.take i).drop at_ → 0 ≤ m → m ≤ i → out.length ≤ 2000 → s.length - at_ ≤ f →
    Ev (fun k => spec_ReadEvents.l0 k (bs s) out at_ m i n l) (readGo n l f (s.drop at_) m out) := by
  induction d with
  | zero =>
    intro i at_ m out f hi ha h10 hm0 hm ho hf
    obtain rfl : i = s.length := by omega
    rw [List.take_length] at h10
    refine Ev.step (f := fun _ => some (readGo n l f (s.drop at_) m out)) (fun k => ?_) (Ev.now _)
    rw [spec_ReadEvents.l0, if_neg (by rw [bs_size]; omega), bs_size]
    by_cases hat : at_ < s.length
    · obtain ⟨f, rfl⟩ : ∃ f', f = f' + 1 := ⟨f - 1, by omega⟩
      rw [if_pos (by omega), readGo, if_neg (by simpa using hat), if_pos h10, wrap_id (by omega) (by omega)]
    · have hd : s.drop at_ = [] := List.drop_of_length_le (by omega)
      rw [if_neg (by omega), hd]
      cases f <;> simp [readGo]
  | succ d ih =>
    intro i at_ m out f hi ha h10 hm0 hm ho hf
    have hil : i < s.length := by omega
    have e0 : ∀ k, spec_ReadEvents.l0 (k + 1) (bs s) out at_ m i n l = (if (s[i].toNat : Int) = 10 then ((spec_l4event.f k n l (bs ((s.take i).drop at_))).bind fun bt239 => (if bt239.2.2.2 = true then (if (out.length : Int) = 2000 then (some (3, m + 1, ([] : List (S52)))) else (if out.length < 5864062014805 then (spec_ReadEvents.l0 k (bs s) (out ++ [(⟨bt239.1, bt239.2.1, bt239.2.2.1⟩ : S52)]) ((i + 1 : Nat) : Int) (m + 1) ((i + 1 : Nat) : Int) n l) else (none))) else (some (3, m + 1, ([] : List (S52)))))) else (spec_ReadEvents.l0 k (bs s) out at_ m ((i + 1 : Nat) : Int) n l)) := by
      intro k
      rw [spec_ReadEvents.l0, if_pos (by rw [bs_size]; omega), if_pos (by omega), bt_bs s i hil]
      by_cases h : (s[i].toNat : Int) = 10
      · rw [if_pos h, if_pos h, if_pos (by omega), if_pos (by omega), if_pos (by rw [bs_size]; omega), wrap_succ (by omega), wrap_id (x := m + 1) (by omega) (by omega), Int.toNat_natCast, Int.toNat_natCast, bs_take]
      · rw [if_neg h, if_neg h, wrap_succ (by omega)]
    refine Ev.step e0 ?_
    by_cases h : (s[i].toNat : Int) = 10
    · refine Ev.ite_pos h ?_
      have h' : s[i] = 10 := by
        apply UInt8.toNat_inj.1
        show s[i].toNat = 10
        omega
      have hsp : s.drop at_ = (s.take i).drop at_ ++ 10 :: s.drop (i + 1) := by
        rw [← h', ← List.drop_eq_getElem_cons hil, ← List.drop_append_of_le_length (by rw [List.length_take]; omega), List.take_append_drop]
      have hc := line_cut (r := s.drop (i + 1)) h10
      obtain ⟨f, rfl⟩ : ∃ f', f = f' + 1 := ⟨f - 1, by omega⟩
      refine Ev.bind (l4event_ev (s := (s.take i).drop at_) hl) ?_
      rw [readGo, if_neg (by rw [hsp]; simp), if_neg (by rw [hsp]; simp), hsp, hc.1, hc.2]
      unfold evRes
      cases hev : evOf n l ((s.take i).drop at_) with
      | none => exact Ev.ite_neg (by simp) (Ev.now _)
      | some e =>
        refine Ev.ite_pos rfl ?_
        dsimp only
        by_cases h2 : out.length = 2000
        · rw [if_pos h2]
          exact Ev.ite_pos (by omega) (Ev.now _)
        · rw [if_neg h2]
          refine Ev.ite_neg (by omega) (Ev.ite_pos (by omega) ?_)
          have hz : (10 : UInt8) ∉ (s.take (i + 1)).drop (i + 1) := by
            rw [List.drop_of_length_le (by rw [List.length_take]; omega)]
            simp
          exact ih (i + 1) (i + 1) (m + 1) (out ++ [e]) f (by omega) (by omega) hz (by omega) (by omega) (by simp; omega) (by omega)
    · refine Ev.ite_neg h ?_
      refine ih (i + 1) at_ m out f (by omega) (by omega) ?_ hm0 (by omega) ho hf
      rw [List.take_succ_eq_append_getElem hil, List.drop_append_of_le_length (by rw [List.length_take]; omega)]
      intro hc
      rcases List.mem_append.1 hc with hc | hc
      · exact h10 hc
      · have : s[i] = 10 := by simpa using (List.mem_singleton.1 hc).symm
        rw [this] at h
        exact h rfl
theorem specRead_ev (n : Int) (l : List S98) (s : List UInt8) : Ev (fun k => spec_ReadEvents.f k n l (bs s)) (readE n l s) := by
  unfold spec_ReadEvents.f readE
  refine Ev.bind (specLayoutOk_ev n l) ?_
  by_cases hl : layoutOk n l = 0
  · rw [if_pos hl]
    refine Ev.ite_pos hl ?_
    by_cases hs : s.length > 20000
    · rw [if_pos hs]
      exact Ev.ite_pos (by rw [bs_size]; omega) (Ev.now _)
    · rw [if_neg hs]
      refine Ev.ite_neg (by rw [bs_size]; omega) ?_
      have := read_l0 n l s hl (by omega) s.length 0 0 0 [] s.length (by omega) (by omega) (by simp) (by omega) (by omega) (by simp) (by omega)
      simpa using this
  · rw [if_neg hl]
    exact Ev.ite_neg hl (Ev.now _)
end Go.Proofs.YtpdnabhpkdchjaaDoor.P
namespace Go.Proofs.YtpdnabhpkdchjaaDoor.P
open Go Go.RowKit Go.Proofs.YtpdnabhpkdchjaaDoorW.PrintWords Go.Proofs.YtpdnabhpkdchjaaDoorW.PrintLast Go.Proofs.YtpdnabhpkdchjaaDoorW.PrintMore
set_option linter.unusedVariables false
set_option linter.unusedSimpArgs false
theorem readGo_form {n : Int} {l : List S98} : ∀ (f : Nat) (s : List UInt8) (m : Int) (out : List S52), 0 ≤ m → out.length ≤ 2000 → ((readGo n l f s m out).1 = 0 ∨ (readGo n l f s m out).1 = 3) ∧ (readGo n l f s m out).2.2.length ≤ 2000 ∧ 0 ≤ (readGo n l f s m out).2.1 ∧ (readGo n l f s m out).2.1 ≤ m + f
  | 0, s, m, out, h0, h => by rw [readGo]; exact ⟨.inl rfl, h, Int.le_refl _, by show (0 : Int) ≤ m + ((0 : Nat) : Int); omega⟩
  | f + 1, s, m, out, h0, h => by
    rw [readGo]
    split
    · exact ⟨.inl rfl, h, by simp, by simp; omega⟩
    · split
      · exact ⟨.inr rfl, by simp, by simp; omega, by simp; omega⟩
      · split
        · exact ⟨.inr rfl, by simp, by simp; omega, by simp; omega⟩
        · split
          · exact ⟨.inr rfl, by simp, by simp; omega, by simp; omega⟩
          · rename_i e _ h2
            have := readGo_form (n := n) (l := l) f (s.dropWhile (· != 10)).tail (m + 1) (out ++ [e]) (by omega) (by rw [List.length_append, List.length_singleton]; omega)
            exact ⟨this.1, this.2.1, this.2.2.1, by omega⟩
theorem readE_form (n : Int) (l : List S98) (s : List UInt8) : (0 ≤ (readE n l s).1 ∧ (readE n l s).1 ≤ 3) ∧ (0 ≤ (readE n l s).2.1 ∧ (readE n l s).2.1 ≤ 20000) ∧ (readE n l s).2.2.length ≤ 2000 := by
  unfold readE
  split
  · split
    · simp
    · have := readGo_form (n := n) (l := l) s.length s 0 [] (by omega) (by simp)
      exact ⟨by rcases this.1 with h | h <;> omega, ⟨this.2.2.1, by omega⟩, this.2.1⟩
  · simp
end Go.Proofs.YtpdnabhpkdchjaaDoor.P
namespace Go.Proofs.YtpdnabhpkdchjaaDoor.P
open Go Go.RowKit Go.Maps Go.Proofs.YtpdnabhpkdchjaaDoorW.PrintWords Go.Proofs.YtpdnabhpkdchjaaDoorW.PrintLast Go.Proofs.YtpdnabhpkdchjaaDoorW.PrintMore
set_option linter.unusedVariables false
set_option linter.unusedSimpArgs false
def evV (e : S52) : Value := .agg #[.int .i64 e.f0, .int .i64 e.f1, .int .i64 e.f2]
def evD (e : S52) : DataW Unit := .agg [.lit (.int .i64 e.f0), .lit (.int .i64 e.f1), .lit (.int .i64 e.f2)]
theorem evV_inj {e f : S52} (h : evV e = evV f) : e = f := by
  cases e; cases f
  simp [evV] at h
  simp [h]
open Classical in
noncomputable def evR (v : Value) : Option (DataW Unit × List MemPlace) := if h : ∃ e, v = evV e then some (evD h.choose, []) else none
theorem evR_mk (e : S52) : evR (evV e) = some (evD e, []) := by
  have hx : ∃ f, evV e = evV f := ⟨e, rfl⟩
  rw [evR, dif_pos hx, ← evV_inj hx.choose_spec]
theorem evR_inv {v : Value} {d : DataW Unit} {ps : List MemPlace} (h : evR v = some (d, ps)) : ∃ e, v = evV e ∧ d = evD e := by
  unfold evR at h
  split at h
  · rename_i hx
    exact ⟨hx.choose, hx.choose_spec, (Prod.mk.inj (Option.some.inj h)).1.symm⟩
  · cases h
theorem evD_inj {e f : S52} (h : evD e = evD f) : e = f := by
  cases e; cases f
  simp [evD] at h
  simp [h]
theorem evB_line (e : S52) : evB e = lineN e.f0 e.f1 e.f2 ++ [10] := rfl
theorem evB_inj {n : Int} {l : List S98} {e f : S52} (he : eventOk n l e.f0 e.f1 e.f2 = true) (hf : eventOk n l f.f0 f.f1 f.f2 = true) (h : evB e = evB f) : e = f := by
  rw [evB_line, evB_line] at h
  have h2 := List.append_cancel_right h
  exact Tells.one (s := lineN f.f0 f.f1 f.f2) ⟨he, h2⟩ ⟨hf, rfl⟩
structure Known (n : Int) (l : List S98) (P : S52 → Prop) (D : DataW Unit) : Prop where
  isMap : IsMap D
  ok : ∀ e, P e → eventOk n l e.f0 e.f1 e.f2 = true
  there : ∀ e, P e → Maps.has D (.string (evB e)) = true ∧ D.atKey (.string (evB e)) (evD ⟨0, 0, 0⟩) = evD e
  back : ∀ s, Maps.has D (.string s) = true → ∃ e, P e ∧ evB e = s
theorem Known.none {n : Int} {l : List S98} {P : S52 → Prop} (h : ∀ e, ¬ P e) : Known n l P (.map []) :=
  ⟨isMap_empty, fun e he => absurd he (h e), fun e he => absurd he (h e), fun s hs => by simp [Maps.has] at hs⟩
theorem Known.same {n : Int} {l : List S98} {P P' : S52 → Prop} {D : DataW Unit} (h : Known n l P D) (hp : ∀ e, P' e ↔ P e) : Known n l P' D :=
  ⟨h.isMap, fun e he => h.ok e ((hp e).1 he), fun e he => h.there e ((hp e).1 he), fun s hs => by obtain ⟨e, h1, h2⟩ := h.back s hs; exact ⟨e, (hp e).2 h1, h2⟩⟩
theorem Known.put {n : Int} {l : List S98} {P P' : S52 → Prop} {D : DataW Unit} {f : S52} (h : Known n l P D) (hf : eventOk n l f.f0 f.f1 f.f2 = true) (hp : ∀ e, P' e ↔ P e ∨ e = f) : Known n l P' (D.put (.string (evB f)) (evD f)) := by
  have hk : WideAt.IsKeyLit (.string (evB f)) := by trivial
  refine ⟨h.isMap.put _ _, fun e he => ?_, fun e he => ?_, fun s hs => ?_⟩
  · rcases (hp e).1 he with he | rfl
    · exact h.ok e he
    · exact hf
  · by_cases hef : e = f
    · subst hef
      exact ⟨has_put_same h.isMap hk _, atKey_put_same h.isMap hk _ _⟩
    · have hP : P e := ((hp e).1 he).resolve_right hef
      have hne : (Lit.string (evB e)) ≠ .string (evB f) := fun hc => hef (evB_inj (h.ok e hP) hf (by injection hc))
      rw [has_put_other hne, atKey_put_other hne]
      exact h.there e hP
  · by_cases hsf : s = evB f
    · exact ⟨f, (hp f).2 (.inr rfl), hsf.symm⟩
    · have hne : (Lit.string s) ≠ .string (evB f) := fun hc => hsf (by injection hc)
      rw [has_put_other hne] at hs
      obtain ⟨e, h1, h2⟩ := h.back s hs
      exact ⟨e, (hp e).2 (.inl h1), h2⟩
def OkE (n : Int) (l : List S98) (e : S52) : Prop := eventOk n l e.f0 e.f1 e.f2 = true
theorem look_some {n : Int} {l : List S98} {D : DataW Unit} {a : List UInt8} {e : S52} (h : Known n l (OkE n l) D) (he : evOf n l a = some e) : Maps.has D (.string (a ++ [10])) = true ∧ D.atKey (.string (a ++ [10])) (evD ⟨0, 0, 0⟩) = evD e := by
  have ht : Tells n l a e := by
    unfold evOf at he
    split at he
    · rename_i hx
      have := hx.choose_spec
      rw [Option.some.inj he] at this
      exact this
    · cases he
  have := h.there e ht.1
  rwa [evB_line, ht.2] at this
theorem look_none {n : Int} {l : List S98} {D : DataW Unit} {a : List UInt8} (h : Known n l (OkE n l) D) (he : evOf n l a = none) : Maps.has D (.string (a ++ [10])) = false := by
  cases hh : Maps.has D (.string (a ++ [10])) with
  | false => rfl
  | true =>
    obtain ⟨e, h1, h2⟩ := h.back _ hh
    rw [evB_line] at h2
    have ht : Tells n l a e := ⟨h1, List.append_cancel_right h2⟩
    rw [evOf_some ht] at he
    cases he
theorem look_empty {n : Int} {l : List S98} {D : DataW Unit} {P : S52 → Prop} (h : Known n l P D) : Maps.has D (.string []) = false := by
  cases hh : Maps.has D (.string []) with
  | false => rfl
  | true =>
    obtain ⟨e, h1, h2⟩ := h.back _ hh
    rw [evB_line] at h2
    simp at h2
def P2 (n : Int) (l : List S98) (op of dir : Int) (e : S52) : Prop := OkE n l e ∧ (e.f0 < op ∨ e.f0 = op ∧ (e.f1 < of ∨ e.f1 = of ∧ e.f2 < dir))
theorem p2_put {n : Int} {l : List S98} {op of dir : Int} (h : eventOk n l op of dir = true) (e : S52) : P2 n l op of (dir + 1) e ↔ P2 n l op of dir e ∨ e = ⟨op, of, dir⟩ := by
  unfold P2
  constructor
  · rintro ⟨h1, h2⟩
    by_cases he : e = ⟨op, of, dir⟩
    · exact .inr he
    · refine .inl ⟨h1, ?_⟩
      have : ¬ (e.f0 = op ∧ e.f1 = of ∧ e.f2 = dir) := fun hc => he (by cases e; simp_all)
      omega
  · rintro (⟨h1, h2⟩ | rfl)
    · exact ⟨h1, by omega⟩
    · exact ⟨h, by right; exact ⟨rfl, .inr ⟨rfl, by show dir < dir + 1; omega⟩⟩⟩
theorem p2_skip {n : Int} {l : List S98} {op of dir : Int} (h : eventOk n l op of dir = false) (e : S52) : P2 n l op of (dir + 1) e ↔ P2 n l op of dir e := by
  unfold P2
  constructor
  · rintro ⟨h1, h2⟩
    refine ⟨h1, ?_⟩
    have : ¬ (e.f0 = op ∧ e.f1 = of ∧ e.f2 = dir) := by
      rintro ⟨a, b, c⟩
      unfold OkE at h1
      rw [a, b, c, h] at h1
      cases h1
    omega
  · rintro ⟨h1, h2⟩
    exact ⟨h1, by omega⟩
theorem p2_of {n : Int} {l : List S98} {op of : Int} (e : S52) : P2 n l op (of + 1) (-1) e ↔ P2 n l op of 2 e := by
  unfold P2
  constructor
  · rintro ⟨h1, h2⟩
    have := ev_parts h1
    exact ⟨h1, by omega⟩
  · rintro ⟨h1, h2⟩
    have := ev_parts h1
    exact ⟨h1, by omega⟩
theorem p2_op {n : Int} {l : List S98} {op : Int} (e : S52) : P2 n l (op + 1) 0 (-1) e ↔ P2 n l op (most n l) (-1) e := by
  unfold P2
  constructor
  · rintro ⟨h1, h2⟩
    have := ev_parts h1
    have := ev_most h1
    exact ⟨h1, by omega⟩
  · rintro ⟨h1, h2⟩
    have := ev_parts h1
    have := ev_most h1
    exact ⟨h1, by omega⟩
theorem p2_start {n : Int} {l : List S98} (e : S52) : ¬ P2 n l 1 0 (-1) e := by
  rintro ⟨h1, h2⟩
  have := ev_parts h1
  omega
theorem p2_end {n : Int} {l : List S98} (e : S52) : OkE n l e ↔ P2 n l 6 0 (-1) e := by
  constructor
  · intro h
    have := ev_parts h
    exact ⟨h, by omega⟩
  · exact fun h => h.1
theorem map_nx {w w' : World} {b cnt : Nat} {D : DataW Unit} (h : w.ownsMap Tryd.prog 9 evR b cnt D) (hb : Below w.heap.size w w') : w'.ownsMap Tryd.prog 9 evR b cnt D := by
  have hlt := h.lt
  obtain ⟨es, clock, hh, r⟩ := h
  exact ⟨es, clock, (hb.block b hlt).trans hh, r⟩
end Go.Proofs.YtpdnabhpkdchjaaDoor.P
namespace Go.Proofs.YtpdnabhpkdchjaaDoor.P
open Go.RowKit Go.Proofs.YtpdnabhpkdchjaaDoorW.PrintWords Go.Proofs.YtpdnabhpkdchjaaDoorW.PrintLast Go.Proofs.YtpdnabhpkdchjaaDoorW.PrintMore
set_option linter.unusedVariables false
set_option linter.unusedSimpArgs false
section
variable {w : World} {base : Nat} {ok : Nat → Prop} {g n c : Nat} {l : List S87}
theorem sec_put (h : Kd.R k87 87 w base ok (.slice (some ⟨g, 0, none⟩) n c) l) (i : Int) (h0 : 0 ≤ i) (h1 : i < n) (j : Nat) (hj : j < 5) (u : Value) (x' : S87)
    (hx : ([.int .i64 (rd_T87 l i).f0, .int .i64 (rd_T87 l i).f1, .bool (rd_T87 l i).f2, .bool (rd_T87 l i).f3, .int .i64 (rd_T87 l i).f4] : List Value).take j ++ [u] ++ ([.int .i64 (rd_T87 l i).f0, .int .i64 (rd_T87 l i).f1, .bool (rd_T87 l i).f2, .bool (rd_T87 l i).f3, .int .i64 (rd_T87 l i).f4] : List Value).drop (j + 1) = [.int .i64 x'.f0, .int .i64 x'.f1, .bool x'.f2, .bool x'.f3, .int .i64 x'.f4]) :
    Kd.R k87 87 (w.setCell ⟨g, i.toNat * 5 + j, none⟩ u) base ok (.slice (some ⟨g, 0, none⟩) n c) (l.set i.toNat x') ∧ w.grownBy (w.setCell ⟨g, i.toNat * 5 + j, none⟩ u) (some g) := by
  obtain ⟨ce, hcl, hM, hcc, hfr⟩ := Kd.R_elem h z87 i h0 h1
  have hM0 := k87_openM hM
  change ce = [.int .i64 (rd_T87 l i).f0, .int .i64 (rd_T87 l i).f1, .bool (rd_T87 l i).f2, .bool (rd_T87 l i).f3, .int .i64 (rd_T87 l i).f4] at hM0
  subst hM0
  have HP := Kd.R_seg h i h0 h1 (seg := [u]) (j := j) (okp := fun k => ok k ∧ k ≠ g) hcl hcc (show j + 1 ≤ 5 by omega) (x' := x') (by
    have e : ([.int .i64 (rd_T87 l i).f0, .int .i64 (rd_T87 l i).f1, .bool (rd_T87 l i).f2, .bool (rd_T87 l i).f3, .int .i64 (rd_T87 l i).f4] : List Value).take j ++ [u] ++ ([.int .i64 (rd_T87 l i).f0, .int .i64 (rd_T87 l i).f1, .bool (rd_T87 l i).f2, .bool (rd_T87 l i).f3, .int .i64 (rd_T87 l i).f4] : List Value).drop (j + 1) = _ := hx
    show k87.M w base _ x' (_ ++ [u] ++ List.drop (j + 1) _)
    rw [e]
    exact k87_mkM _ _ _ x') (fun _ hk => hk)
  exact HP
def SecSt (base : Nat) (ok : Nat → Prop) (g n c : Nat) (l : List S87) (i : Int) (w0 w : World) (y : S87) : Prop :=
  Kd.R k87 87 w base ok (.slice (some ⟨g, 0, none⟩) n c) (l.set i.toNat y) ∧ w0.grownBy w (some g)
variable {i : Int} {w0 : World} {a0 a1 a4 : Int} {a2 a3 : Bool}
theorem SecSt.put (h : SecSt base ok g n c l i w0 w ⟨a0, a1, a2, a3, a4⟩) (h0 : 0 ≤ i) (h1 : i < n) (j : Nat) (hj : j < 5) (u : Value) (x' : S87)
    (hx : ([.int .i64 a0, .int .i64 a1, .bool a2, .bool a3, .int .i64 a4] : List Value).take j ++ [u] ++ ([.int .i64 a0, .int .i64 a1, .bool a2, .bool a3, .int .i64 a4] : List Value).drop (j + 1) = [.int .i64 x'.f0, .int .i64 x'.f1, .bool x'.f2, .bool x'.f3, .int .i64 x'.f4]) :
    SecSt base ok g n c l i w0 (w.setCell ⟨g, i.toNat * 5 + j, none⟩ u) x' := by
  have hl := (Kd.R_reads' h.1).1
  have hlt : i.toNat < l.length := by simp at hl; omega
  have e : rd_T87 (l.set i.toNat ⟨a0, a1, a2, a3, a4⟩) i = ⟨a0, a1, a2, a3, a4⟩ := by
    simp [rd_T87, List.getD_eq_getElem?_getD, List.getElem?_set_self hlt]
  obtain ⟨h2, h3⟩ := sec_put h.1 i h0 h1 j hj u x' (by rw [e]; exact hx)
  rw [List.set_set] at h2
  exact ⟨h2, h.2.trans h3⟩
theorem SecSt.eq {y z : S87} (h : SecSt base ok g n c l i w0 w y) (e : z = y) : SecSt base ok g n c l i w0 w z := e ▸ h
end
end Go.Proofs.YtpdnabhpkdchjaaDoor.P
namespace Go.Proofs.YtpdnabhpkdchjaaDoor.P
open Go.RowKit Go.Proofs.YtpdnabhpkdchjaaDoorW.PrintWords Go.Proofs.YtpdnabhpkdchjaaDoorW.PrintLast Go.Proofs.YtpdnabhpkdchjaaDoorW.PrintMore
set_option linter.unusedVariables false
theorem R_off {α : Type} {d : Kd α} {e : Nat} {w : World} {base : Nat} {ok : Nat → Prop} {v : Value} {xs : List α} (hE : d.E = []) (h : d.R e w base ok v xs) {p : Addr} (hne : some p.block ≠ v.ownBlock) (u : Value) : d.R e (w.setCell p u) base (fun _ => True) v xs :=
  Kd.R_mono (Kd.R_far (Kd.R_tight hE h) (fun k hk hp => hne (hp ▸ hk)) u) (fun _ _ => trivial)
theorem R_up {α : Type} {d : Kd α} {e : Nat} {w w' : World} {base : Nat} {ok : Nat → Prop} {v : Value} {xs : List α} (h : d.R e w base ok v xs) (hb : Below w.heap.size w w') : d.R e w' base (fun _ => True) v xs :=
  Kd.R_mono (Kd.R_step h (fun k hk hlt => hb.block k hlt)) (fun _ _ => trivial)
end Go.Proofs.YtpdnabhpkdchjaaDoor.P
namespace Go.Proofs.YtpdnabhpkdchjaaDoor.P
open Go Go.RowKit Go.Proofs.YtpdnabhpkdchjaaDoorW.PrintWords Go.Proofs.YtpdnabhpkdchjaaDoorW.PrintLast Go.Proofs.YtpdnabhpkdchjaaDoorW.PrintMore
set_option linter.unusedVariables false
set_option linter.unusedSimpArgs false
theorem index_no : ∀ {a : List UInt8}, (10 : UInt8) ∉ a → Lib.indexByte a 10 = -1
  | [], _ => rfl
  | x :: a, h => by
    simp only [List.mem_cons, not_or] at h
    have hx : (x == 10) = false := by simpa using (fun hc => h.1 hc.symm)
    rw [Lib.indexByte, hx, index_no h.2]
    rfl
theorem index_yes : ∀ {a r : List UInt8}, (10 : UInt8) ∉ a → Lib.indexByte (a ++ 10 :: r) 10 = (a.length : Int)
  | [], r, _ => rfl
  | x :: a, r, h => by
    simp only [List.mem_cons, not_or] at h
    have hx : (x == 10) = false := by simpa using (fun hc => h.1 hc.symm)
    have hn : ((a.length : Int) == -1) = false := by
      simp
    rw [List.cons_append, Lib.indexByte, hx, index_yes h.2, hn]
    simp
theorem split_ten : ∀ {s : List UInt8}, (10 : UInt8) ∈ s → ∃ a r, s = a ++ 10 :: r ∧ (10 : UInt8) ∉ a
  | [], h => by cases h
  | x :: s, h => by
    by_cases hx : x = 10
    · exact ⟨[], s, by rw [hx]; rfl, by simp⟩
    · have h2 : (10 : UInt8) ∈ s := by
        rcases List.mem_cons.1 h with h | h
        · exact absurd h.symm hx
        · exact h
      obtain ⟨a, r, rfl, ha⟩ := split_ten h2
      exact ⟨x :: a, r, rfl, by simp only [List.mem_cons, not_or]; exact ⟨fun hc => hx hc.symm, ha⟩⟩
theorem read_round {n : Int} {l : List S98} {D : DataW Unit} {s : List UInt8} (hs : s ≠ []) (h : Known n l (OkE n l) D) :
    ∃ k : Nat, Lib.indexByte s 10 + 1 = (k : Int) ∧ k ≤ s.length ∧
      ((Maps.has D (.string (s.take k)) = false ∧ ∀ f m out, s.length ≤ f → readGo n l f s m out = (3, m + 1, [])) ∨
       (0 < k ∧ Maps.has D (.string (s.take k)) = true ∧ ∃ e, D.atKey (.string (s.take k)) (evD ⟨0, 0, 0⟩) = evD e ∧ ∀ f m out, s.length ≤ f + 1 → readGo n l (f + 1) s m out = if out.length = 2000 then (3, m + 1, []) else readGo n l f (s.drop k) (m + 1) (out ++ [e]))) := by
  by_cases h10 : (10 : UInt8) ∈ s
  · obtain ⟨a, r, rfl, ha⟩ := split_ten h10
    have hc := line_cut (r := r) ha
    have ht : (a ++ 10 :: r).take (a.length + 1) = a ++ [10] := by
      rw [List.take_append, List.take_of_length_le (by omega)]
      simp
    have hd : (a ++ 10 :: r).drop (a.length + 1) = r := by
      rw [List.drop_append, List.drop_of_length_le (by omega)]
      simp
    refine ⟨a.length + 1, by rw [index_yes ha]; omega, by rw [List.length_append, List.length_cons]; omega, ?_⟩
    rw [ht, hd]
    cases he : evOf n l a with
    | none =>
      refine .inl ⟨look_none h he, fun f m out hf => ?_⟩
      rw [List.length_append, List.length_cons] at hf
      obtain ⟨f, rfl⟩ : ∃ f', f = f' + 1 := ⟨f - 1, by omega⟩
      rw [readGo, if_neg hs, if_neg (by simp), hc.1, he]
    | some e =>
      have hl := look_some h he
      refine .inr ⟨by omega, hl.1, e, hl.2, fun f m out hf => ?_⟩
      rw [readGo, if_neg hs, if_neg (by simp), hc.1, hc.2, he]
  · refine ⟨0, by rw [index_no h10]; rfl, Nat.zero_le _, .inl ⟨look_empty h, fun f m out hf => ?_⟩⟩
    have : 0 < s.length := List.length_pos_iff.2 hs
    obtain ⟨f, rfl⟩ : ∃ f', f = f' + 1 := ⟨f - 1, by omega⟩
    rw [readGo, if_neg hs, if_pos h10]
theorem readGo_nil (n : Int) (l : List S98) (f : Nat) (m : Int) (out : List S52) : readGo n l f [] m out = (0, 0, out) := by
  cases f <;> simp [readGo]
theorem keyed9 : Maps.Keyed Tryd.prog 9 := Maps.string_keyed Tryd.underlying9
theorem look_run {w : World} {gm k : Nat} {D : DataW Unit} {s : List UInt8} {b : Bool} (h : ∃ cnt, w.ownsMap Tryd.prog 9 evR gm cnt D) (hs : s.length ≤ 20000) (hb : Maps.has D (.string (s.take k)) = b) :
    ∃ e : S52, (Instr.lookup 72 (.map (some gm)) (.string ((bs s).extract 0 k)) true).run Tryd.prog w = .ok (.tuple #[.agg #[.int .i64 e.f0, .int .i64 e.f1, .int .i64 e.f2], .bool b]) w ∧ evD e = D.atKey (.string (s.take k)) (evD ⟨0, 0, 0⟩) := by
  obtain ⟨cnt, h⟩ := h
  have hx : (bs s).extract 0 k = bs (s.take k) := by rw [bs_take, List.drop_zero]
  have hkey : keyOf Tryd.prog 9 (.string ((bs s).extract 0 k)) = some (.string (s.take k)) := by
    rw [hx]
    exact Go.WideMaps.keyOf_string_mk (s := bs (s.take k)) Tryd.underlying9 (by rw [bs_size, List.length_take]; unfold maxLen; omega)
  obtain ⟨v, ps, hrun, hv⟩ := h.look_ok keyed9 Tryd.underlying72 (Tryd.zeroValue52 w) (evR_mk ⟨0, 0, 0⟩) hkey
  obtain ⟨e, rfl, hd⟩ := evR_inv hv
  rw [hb] at hrun
  exact ⟨e, hrun, hd.symm⟩
structure RdSt (wI : World) (b0 : Nat) (w : World) (gh gr gm : Nat) (D : DataW Unit) (v2 : Value) (out : List S52) : Prop where
  hh : w.heap[gh]? = some (.cells #[.int .i64 0, .int .i64 0, .slice none 0 0] 39 (0, 0))
  hr : w.heap[gr]? = some (.cells #[.int .i64 0, .int .i64 0, v2] 39 (0, 0))
  hm : ∃ cnt, w.ownsMap Tryd.prog 9 evR gm cnt D
  H2 : Kd.R k52 52 w b0 (fun _ => True) v2 out
  hB : Below wI.heap.size wI w
  b1 : wI.heap.size ≤ b0
  b2 : b0 ≤ w.heap.size
  hlt : gh < b0
  rlt : gr < b0
  mlt : gm < b0
  hge : wI.heap.size ≤ gh
  rge : wI.heap.size ≤ gr
  ne : gh ≠ gr
section
variable {wI w w' : World} {b0 gh gr gm : Nat} {D : DataW Unit} {v2 v2' : Value} {out out' : List S52}
theorem RdSt.up (h : RdSt wI b0 w gh gr gm D v2 out) (hb : Below w.heap.size w w') : RdSt wI b0 w' gh gr gm D v2 out := by
  obtain ⟨cnt, hm⟩ := h.hm
  exact ⟨blk_below h.hh hb, blk_below h.hr hb, ⟨cnt, map_nx hm hb⟩, R_up h.H2 hb, below_step h.hB hb, h.b1, Nat.le_trans h.b2 hb.size, h.hlt, h.rlt, h.mlt, h.hge, h.rge, h.ne⟩
theorem map_same {w w' : World} {b cnt : Nat} {D : DataW Unit} (h : w.ownsMap Tryd.prog 9 evR b cnt D) (hb : w'.heap[b]? = w.heap[b]?) : w'.ownsMap Tryd.prog 9 evR b cnt D := by
  obtain ⟨es, clock, hh, r⟩ := h
  exact ⟨es, clock, hb.trans hh, r⟩
theorem RdSt.ne_map (h : RdSt wI b0 w gh gr gm D v2 out) : gm ≠ gr := by
  rintro rfl
  obtain ⟨cnt, es, clock, hh, r⟩ := h.hm
  rw [h.hr] at hh
  cases hh
theorem RdSt.ne2 (h : RdSt wI b0 w gh gr gm D v2 out) {g : Nat} (hg : g < b0) : some g ≠ v2.ownBlock := fun e => by have := Kd.R_base h.H2 g e.symm; omega
theorem RdSt.app (h : RdSt wI b0 w gh gr gm D v2 out) (H2 : Kd.R k52 52 w' b0 (fun _ => True) v2' out') (hg : w.grownBy w' v2.ownBlock) : RdSt wI b0 (w'.setCell ⟨gr, 2, none⟩ v2') gh gr gm D v2' out' := by
  obtain ⟨cnt, hm⟩ := h.hm
  have a := (hg.block gh (blk_lt h.hh) (h.ne2 h.hlt)).trans h.hh
  have b := (hg.block gr (blk_lt h.hr) (h.ne2 h.rlt)).trans h.hr
  have m := map_same hm (hg.block gm hm.lt (h.ne2 h.mlt))
  have hs : w'.heap.size ≤ (w'.setCell ⟨gr, 2, none⟩ v2').heap.size := by simp [World.setCell]
  refine ⟨blk_far a h.ne _, blk_put b 2 v2' rfl, ⟨cnt, map_same m ?_⟩, R_off rfl H2 (Kd.R_ne H2 b (by decide)) _, below_set (pw_below_grown h.hB _ h.hB.size hg (fun k hk => Nat.le_trans h.b1 (Kd.R_base h.H2 k hk))) h.rge, h.b1, Nat.le_trans h.b2 (Nat.le_trans hg.size hs), h.hlt, h.rlt, h.mlt, h.hge, h.rge, h.ne⟩
  exact Below.heap_setCell _ _ _ _ h.ne_map
theorem RdSt.grn (h : RdSt wI b0 w gh gr gm D v2 out) (hg : w.grownBy w' v2.ownBlock) : w'.heap[gr]? = some (.cells #[.int .i64 0, .int .i64 0, v2] 39 (0, 0)) :=
  (hg.block gr (blk_lt h.hr) (h.ne2 h.rlt)).trans h.hr
theorem RdSt.at_ (h : RdSt wI b0 w gh gr gm D v2 out) : w.cell? ⟨gr, 0, none⟩ = some (.int .i64 0) ∧ w.cell? ⟨gr, 1, none⟩ = some (.int .i64 0) ∧ w.cell? ⟨gr, 2, none⟩ = some v2 ∧ w.frozen? ⟨gr, 0, none⟩ = false ∧ w.frozen? ⟨gr, 1, none⟩ = false ∧ w.frozen? ⟨gr, 2, none⟩ = false :=
  ⟨blk_cell h.hr 0, blk_cell h.hr 1, blk_cell h.hr 2, blk_frozen h.hr 0, blk_frozen h.hr 1, blk_frozen h.hr 2⟩
theorem RdSt.ath (h : RdSt wI b0 w gh gr gm D v2 out) : w.cell? ⟨gh, 0, none⟩ = some (.int .i64 0) ∧ w.cell? ⟨gh, 1, none⟩ = some (.int .i64 0) ∧ w.cell? ⟨gh, 2, none⟩ = some (.slice none 0 0) ∧ w.frozen? ⟨gh, 0, none⟩ = false ∧ w.frozen? ⟨gh, 1, none⟩ = false ∧ w.frozen? ⟨gh, 2, none⟩ = false :=
  ⟨blk_cell h.hh 0, blk_cell h.hh 1, blk_cell h.hh 2, blk_frozen h.hh 0, blk_frozen h.hh 1, blk_frozen h.hh 2⟩
end
end Go.Proofs.YtpdnabhpkdchjaaDoor.P
namespace Go.Proofs.YtpdnabhpkdchjaaDoor.P
open Go Go.RowKit Go.Proofs.YtpdnabhpkdchjaaDoorW.PrintWords Go.Proofs.YtpdnabhpkdchjaaDoorW.PrintLast Go.Proofs.YtpdnabhpkdchjaaDoorW.PrintMore
set_option linter.unusedVariables false
set_option linter.unusedSimpArgs false
theorem key_ev {n : Int} {l : List S98} {op of dir : Int} (h : eventOk n l op of dir = true) : keyOf Tryd.prog 9 (.string ⟨(lineB op of dir).toArray⟩) = some (.string (evB ⟨op, of, dir⟩)) :=
  Go.WideMaps.keyOf_string_mk (s := ⟨(lineB op of dir).toArray⟩) Tryd.underlying9 (by have := evB_len (n := n) (l := l) (e := ⟨op, of, dir⟩) h; have e : (⟨(lineB op of dir).toArray⟩ : ByteArray).size = (evB ⟨op, of, dir⟩).length := bs_size _; rw [e]; unfold maxLen; omega)
set_option maxHeartbeats 8000000 in
set_option maxRecDepth 100000 in
theorem iread_is {T : Addr} {tc : Nat} (n : Int) (A : Option Addr) (c : Nat) (l : List S98) (s : List UInt8) (tx : ByteArray) (htx : tx = bs s) (w : World) (hr : Kd.C k98 w A l.length l) (hc : l.length ≤ c) (hT : Tabs T tc w) :
    Calls Tryd.prog 16 #[.agg #[.int .i64 n, .slice A l.length c], .string tx] w fun e w' => ∃ v2_ : Value, e = .returned (.agg #[.int .i64 (readE n l s).1, .int .i64 (readE n l s).2.1, v2_]) ∧ Kd.R k52 52 w' w.heap.size (fun _ => True) v2_ (readE n l s).2.2 ∧ Below w.heap.size w w' := by
  have HR := Aside0.mk hr
  have HC := Aside0.mk hc
  have HT := Aside0.mk hT
  have TX := Aside0.mk htx
  have TS := Aside0.mk (show tx.size = s.length by rw [htx]; exact bs_size s)
  clear hr hc hT htx
  by_cases hl : layoutOk n l = 0
  · by_cases hz : s.length ≤ 20000
    · have hz1 : decide (20000 < (tx.size : Int)) = false := decide_eq_false (by rw [TS.out]; omega)
      have HL := Aside0.mk hl
      have HZ := Aside0.mk hz
      have hmm := @run_makeMap Tryd.prog
      go_enter Tryd.func16, Tryd.ntmps16
      go_upto_region 1 with (first | ((with_reducible refine gate_dst (N := 2) rfl ?_); refine box_event ?hg (N := 2) ?hd (cs := #[.int .i64 n, .slice A l.length c]) (t := 31) ?hr ?_; (case hd => rfl); (case hg => rfl); (case hr => first | (go_simp; done) | (go_simp; rfl)); intro gl el wl kl bl; have EL := Aside0.mk el; have KL := Aside0.mk kl; have BL := Aside0.mk bl; clear el kl bl; have kl0 : wl.cell? ⟨gl, 0, none⟩ = some (.int .i64 n) := (blk_cell KL.out 0).trans rfl; have zkl0 := blk_frozen KL.out 0; have kl1 : wl.cell? ⟨gl, 1, none⟩ = some (.slice A l.length c) := (blk_cell KL.out 1).trans rfl; have zkl1 := blk_frozen KL.out 1) | ((with_reducible refine gate_dst (N := 4) rfl ?_); refine box_event ?hg (N := 4) ?hd (cs := #[.int .i64 0, .int .i64 0, .slice none 0 0]) (t := 39) ?hr ?_; (case hd => rfl); (case hg => rfl); (case hr => first | (go_simp; done) | (go_simp; rfl)); intro gh eh wh kh bh; have EH := Aside0.mk eh; have KH := Aside0.mk kh; have BH := Aside0.mk bh; clear eh kh bh; have kh0 : wh.cell? ⟨gh, 0, none⟩ = some (.int .i64 0) := (blk_cell KH.out 0).trans rfl; have zkh0 := blk_frozen KH.out 0; have kh1 : wh.cell? ⟨gh, 1, none⟩ = some (.int .i64 0) := (blk_cell KH.out 1).trans rfl; have zkh1 := blk_frozen KH.out 1; have kh2 : wh.cell? ⟨gh, 2, none⟩ = some (.slice none 0 0) := (blk_cell KH.out 2).trans rfl; have zkh2 := blk_frozen KH.out 2))
      clear kl0 zkl0 kl1 zkl1
      have KL := Aside0.mk (blk_below KL.out BH.out)
      have kl0 : wh.cell? ⟨gl, 0, none⟩ = some (.int .i64 n) := (blk_cell KL.out 0).trans rfl
      have zkl0 := blk_frozen KL.out 0
      have kl1 : wh.cell? ⟨gl, 1, none⟩ = some (.slice A l.length c) := (blk_cell KL.out 1).trans rfl
      have zkl1 := blk_frozen KL.out 1
      go_upto_region 3 with (go_at_call 30; refine (lay_at HL.out (Kd.C_below HR.out (below_step BL.out BH.out)) HC.out).mono ?_; rintro e w1 ⟨rfl, hb⟩; have KL := Aside0.mk (blk_below KL.out hb); have KH := Aside0.mk (blk_below KH.out hb); have B1 := Aside0.mk (below_step (below_step BL.out BH.out) hb); clear hb kl0 zkl0 kl1 zkl1 kh0 zkh0 kh1 zkh1 kh2 zkh2; have kh0 : w1.cell? ⟨gh, 0, none⟩ = some (.int .i64 0) := (blk_cell KH.out 0).trans rfl; have zkh0 := blk_frozen KH.out 0; have kh1 : w1.cell? ⟨gh, 1, none⟩ = some (.int .i64 0) := (blk_cell KH.out 1).trans rfl; have zkh1 := blk_frozen KH.out 1; have kh2 : w1.cell? ⟨gh, 2, none⟩ = some (.slice none 0 0) := (blk_cell KH.out 2).trans rfl; have zkh2 := blk_frozen KH.out 2)
      go_upto_region 6 with fail
      have HM := Aside0.mk (World.ownsMap_made w1 Tryd.prog 9 evR)
      have HB := Aside0.mk (below_alloc (Below.refl w1.heap.size w1) (.map #[] 0))
      clear hmm hl hz hz1 kh0 zkh0 kh1 zkh1 kh2 zkh2
      obtain ⟨gm, hgm⟩ : ∃ g, g = w1.heap.size := ⟨_, rfl⟩
      rw [← hgm] at HM ⊢
      have GM := Aside0.mk hgm
      clear hgm
      generalize w1.alloc (.map #[] 0) = w2 at HM HB ⊢
      go_wp2_with fail
      go_loopg [6] 5 (fun kq v6 w' => ∃ op : Nat, v6 = .int .i64 (op : Int) ∧ Aside0 (op + kq = 6) ∧ Aside0 (1 ≤ op) ∧ Aside0 (∃ D cnt, cnt ≤ 1000 * op ∧ w'.ownsMap Tryd.prog 9 evR gm cnt D ∧ Known n l (P2 n l op 0 (-1)) D) ∧ Aside0 (Below w1.heap.size w1 w'))
      case atStart => exact ⟨1, rfl, ⟨rfl⟩, ⟨Nat.le_refl _⟩, ⟨_, 0, by omega, HM.out, Known.none p2_start⟩, HB⟩
      case round =>
        clear HM HB
        obtain ⟨op, rfl, HX, HO1, HM, HB⟩ := hrel
        by_cases hit : op ≤ 5
        · obtain ⟨go1, rfl⟩ : ∃ g, gk = g + 1 := ⟨gk - 1, by have := HX.out; omega⟩
          have hit' : decide ((op : Int) ≤ 5) = true := decide_eq_true (by omega)
          have HIT := Aside0.mk hit
          have KL := Aside0.mk (blk_below KL.out HB.out)
          have kl0 : wr.cell? ⟨gl, 0, none⟩ = some (.int .i64 n) := (blk_cell KL.out 0).trans rfl
          have zkl0 := blk_frozen KL.out 0
          have kl1 : wr.cell? ⟨gl, 1, none⟩ = some (.slice A l.length c) := (blk_cell KL.out 1).trans rfl
          have zkl1 := blk_frozen KL.out 1
          go_upto_region 10 with fail
          obtain ⟨M, hM⟩ : ∃ M : Nat, max n (l.length : Int) = (M : Int) := ⟨(max n (l.length : Int)).toNat, by omega⟩
          have MM := Aside0.mk (show most n l = (M : Int) ∧ M ≤ 120 from ⟨by unfold most; split <;> omega, by have := lay_n HL.out; omega⟩)
          rw [hM]
          clear hM kl0 zkl0 kl1 zkl1 hit'
          go_wp2_with fail
          go_loopg [36] M (fun kq v36 w' => ∃ of : Nat, v36 = .int .i64 (of : Int) ∧ Aside0 (of + kq = M) ∧ Aside0 (∃ D cnt, cnt ≤ 1000 * op + 3 * of ∧ w'.ownsMap Tryd.prog 9 evR gm cnt D ∧ Known n l (P2 n l op of (-1)) D) ∧ Aside0 (Below w1.heap.size w1 w'))
          case atStart => exact ⟨0, rfl, ⟨by omega⟩, ⟨by obtain ⟨D, cnt, h1, h2⟩ := HM.out; exact ⟨D, cnt, by omega, h2⟩⟩, HB⟩
          case round =>
            clear HM HB KL
            obtain ⟨of, rfl, HY, HM, HB⟩ := hrel
            by_cases hin : of < M
            · obtain ⟨go2, rfl⟩ : ∃ g, gk = g + 1 := ⟨gk - 1, by have := HY.out; omega⟩
              have hin' : decide ((of : Int) < (M : Int)) = true := decide_eq_true (by omega)
              have HIN := Aside0.mk hin
              go_wp2_with fail
              go_loopg [8] 3 (fun kq v8 w' => ∃ j : Nat, v8 = .int .i64 ((j : Int) - 1) ∧ Aside0 (j + kq = 3) ∧ Aside0 (∃ D cnt, cnt ≤ 1000 * op + 3 * of + j ∧ w'.ownsMap Tryd.prog 9 evR gm cnt D ∧ Known n l (P2 n l op of ((j : Int) - 1)) D) ∧ Aside0 (Below w1.heap.size w1 w'))
              case atStart => exact ⟨0, rfl, ⟨rfl⟩, ⟨by obtain ⟨D, cnt, h1, h2⟩ := HM.out; exact ⟨D, cnt, by omega, h2⟩⟩, HB⟩
              case round =>
                clear HM HB hin'
                obtain ⟨j, rfl, HJ, HM, HB⟩ := hrel
                by_cases hj : j ≤ 2
                · obtain ⟨go3, rfl⟩ : ∃ g, gk = g + 1 := ⟨gk - 1, by have := HJ.out; omega⟩
                  obtain ⟨dir, hdir⟩ : ∃ dir : Int, (j : Int) - 1 = dir := ⟨_, rfl⟩
                  have HD := Aside0.mk hdir
                  rw [hdir] at HM ⊢
                  have hj' : decide (dir ≤ 1) = true := decide_eq_true (by omega)
                  have W8 := Aside0.mk (show wrap64 (dir + 1) = ((j + 1 : Nat) : Int) - 1 from (wrap_id (by omega) (by omega)).trans (by omega))
                  have HJJ := Aside0.mk hj
                  clear hdir hj
                  go_upto_region 16 with ((with_reducible refine gate_dst (N := 9) rfl ?_); refine box_event ?hg (N := 9) ?hd (cs := #[.int .i64 0, .int .i64 0, .int .i64 0]) (t := 52) ?hr ?_; (case hd => rfl); (case hg => rfl); (case hr => first | (go_simp; done) | (go_simp; rfl)); intro ge ee we ke be; have EE := Aside0.mk ee; have KE := Aside0.mk ke; have BE := Aside0.mk be; clear ee ke be; have ke0 : we.cell? ⟨ge, 0, none⟩ = some (.int .i64 0) := (blk_cell KE.out 0).trans rfl; have zke0 := blk_frozen KE.out 0; have ke1 : we.cell? ⟨ge, 1, none⟩ = some (.int .i64 0) := (blk_cell KE.out 1).trans rfl; have zke1 := blk_frozen KE.out 1; have ke2 : we.cell? ⟨ge, 2, none⟩ = some (.int .i64 0) := (blk_cell KE.out 2).trans rfl; have zke2 := blk_frozen KE.out 2)
                  have FX := Aside0.mk (fill3e (y0 := .int .i64 (op : Int)) (y1 := .int .i64 (of : Int)) (y2 := .int .i64 dir) KE.out BE.out (Nat.le_of_eq EE.out.symm))
                  clear ke0 zke0 ke1 zke1 ke2 zke2 KE BE EE
                  generalize (((we.setCell ⟨ge, 0, none⟩ (.int .i64 (op : Int))).setCell ⟨ge, 1, none⟩ (.int .i64 (of : Int))).setCell ⟨ge, 2, none⟩ (.int .i64 dir)) = w4 at FX ⊢
                  obtain ⟨D, cnt, hcn, how, hkn⟩ := HM.out
                  have OW := Aside0.mk (map_nx how FX.out.1)
                  have CN := Aside0.mk hcn
                  have KN := Aside0.mk hkn
                  have HB := Aside0.mk (below_step HB.out FX.out.1)
                  have KE := Aside0.mk FX.out.2
                  have KL := Aside0.mk (blk_below KL.out HB.out)
                  clear FX hcn how hkn HM
                  have kl0 : w4.cell? ⟨gl, 0, none⟩ = some (.int .i64 n) := (blk_cell KL.out 0).trans rfl
                  have kl1 : w4.cell? ⟨gl, 1, none⟩ = some (.slice A l.length c) := (blk_cell KL.out 1).trans rfl
                  have ke0 : w4.cell? ⟨ge, 0, none⟩ = some (.int .i64 (op : Int)) := (blk_cell KE.out 0).trans rfl
                  have ke1 : w4.cell? ⟨ge, 1, none⟩ = some (.int .i64 (of : Int)) := (blk_cell KE.out 1).trans rfl
                  have ke2 : w4.cell? ⟨ge, 2, none⟩ = some (.int .i64 dir) := (blk_cell KE.out 2).trans rfl
                  have HRX := Aside0.mk (Kd.C_below (Kd.C_below HR.out B1.out) HB.out)
                  by_cases hok : eventOk n l (op : Int) (of : Int) dir = true
                  · have OK := Aside0.mk hok
                    have hp := Aside0.mk (ev_parts hok)
                    go_upto_region 17 with (go_at_call 31; refine (ev_at _ _ _ OK.out HRX.out HC.out).mono ?_; rintro e w5 ⟨rfl, hb⟩; have OW := Aside0.mk (map_nx OW.out hb); have HB := Aside0.mk (below_step HB.out hb); have KE := Aside0.mk (blk_below KE.out hb); clear hb)
                    clear kl0 kl1 ke0 ke1 ke2 hok HRX
                    have ke0 : w5.cell? ⟨ge, 0, none⟩ = some (.int .i64 (op : Int)) := (blk_cell KE.out 0).trans rfl
                    have ke1 : w5.cell? ⟨ge, 1, none⟩ = some (.int .i64 (of : Int)) := (blk_cell KE.out 1).trans rfl
                    have ke2 : w5.cell? ⟨ge, 2, none⟩ = some (.int .i64 dir) := (blk_cell KE.out 2).trans rfl
                    have HT5 := Aside0.mk ((HT.out.nx B1.out).nx HB.out)
                    go_region_with (first | (go_at_call 33; refine (line_is (by have := hp.out; omega) (by have := hp.out; omega) (by have := hp.out; omega) (by have := hp.out; omega) (HT5.out.nx (below_drew1 (Below.refl w5.heap.size w5)))).mono ?_; rintro e w6 ⟨rfl, hb⟩; have OW := Aside0.mk (map_nx OW.out.drew hb); have HB := Aside0.mk (below_step (below_drew1 HB.out) hb); have KE := Aside0.mk (blk_below (blk_drew KE.out) hb); clear hb ke0 ke1 ke2; have ke0 : w6.cell? ⟨ge, 0, none⟩ = some (.int .i64 (op : Int)) := (blk_cell KE.out 0).trans rfl; have ke1 : w6.cell? ⟨ge, 1, none⟩ = some (.int .i64 (of : Int)) := (blk_cell KE.out 1).trans rfl; have ke2 : w6.cell? ⟨ge, 2, none⟩ = some (.int .i64 dir) := (blk_cell KE.out 2).trans rfl) | (obtain ⟨w7, hrun, hown7, hgrow7⟩ := OW.out.update keyed9 Tryd.underlying72 (by have := CN.out; have := HIT.out; have := MM.out; have := HIN.out; have := HJJ.out; unfold maxLen; omega) (key_ev OK.out) (evR_mk ⟨(op : Int), (of : Int), dir⟩); unfold evV at hrun; rw [hrun]; simp only [Result.andThen, Oper.upon]; have OW := Aside0.mk hown7; have HB := Aside0.mk (HB.out.grown hgrow7 HB.out.size (fun j hj => by cases hj; exact Nat.le_of_eq GM.out.symm)); clear hown7 hgrow7 hrun))
                    all_goals
                      go_wp2_with fail
                      go_roundg go3
                      case measure => omega
                      case rel => exact ⟨j + 1, congrArg (Value.int .i64) W8.out, ⟨by have := HJ.out; omega⟩, ⟨_, cnt + 1, by have := CN.out; omega, OW.out, (KN.out.put OK.out (p2_put OK.out)).same (fun e => by rw [show (((j + 1 : Nat) : Int) - 1) = dir + 1 by have := HD.out; omega])⟩, HB⟩
                  · have hok' : eventOk n l (op : Int) (of : Int) dir = false := by simpa using hok
                    have OK := Aside0.mk hok'
                    clear hok
                    go_wp2_with (go_at_call 31; refine (ev_at _ _ _ OK.out HRX.out HC.out).mono ?_; rintro e w5 ⟨rfl, hb⟩; have OW := Aside0.mk (map_nx OW.out hb); have HB := Aside0.mk (below_step HB.out hb); clear hb)
                    go_roundg go3
                    case measure => omega
                    case rel => exact ⟨j + 1, congrArg (Value.int .i64) W8.out, ⟨by have := HJ.out; omega⟩, ⟨_, cnt, by have := CN.out; omega, OW.out, (KN.out.same (p2_skip OK.out)).same (fun e => by rw [show (((j + 1 : Nat) : Int) - 1) = dir + 1 by have := HD.out; omega])⟩, HB⟩
                · have hj3 : (j : Int) - 1 = 2 := by have := HJ.out; omega
                  rw [hj3] at HM ⊢
                  have W36 := Aside0.mk (show wrap64 ((of : Int) + 1) = ((of + 1 : Nat) : Int) from (wrap_id (by omega) (by have := MM.out; have := HIN.out; omega)).trans (by omega))
                  have HJ3 := Aside0.mk hj3
                  clear hj hj3
                  go_wp2_with fail
                  go_roundg go2
                  case measure => omega
                  case rel => exact ⟨of + 1, congrArg (Value.int .i64) W36.out, ⟨by have := HY.out; omega⟩, ⟨by obtain ⟨D, cnt, h1, h2, h3⟩ := HM.out; exact ⟨D, cnt, by have := HJ3.out; omega, h2, h3.same (fun e => by rw [show ((of + 1 : Nat) : Int) = (of : Int) + 1 by omega]; exact p2_of e)⟩⟩, HB⟩
            · have hin' : decide ((of : Int) < (M : Int)) = false := decide_eq_false (by omega)
              have W6 := Aside0.mk (show wrap64 ((op : Int) + 1) = ((op + 1 : Nat) : Int) from (wrap_id (by omega) (by have := HIT.out; omega)).trans (by omega))
              have HYE := Aside0.mk (show of = M by have := HY.out; omega)
              go_wp2_with fail
              go_roundg go1
              case measure => omega
              case rel => exact ⟨op + 1, by first | rfl | exact congrArg (Value.int .i64) W6.out, ⟨by have := HX.out; omega⟩, ⟨by omega⟩, ⟨by obtain ⟨D, cnt, h1, h2, h3⟩ := HM.out; exact ⟨D, cnt, by have := HYE.out; have := MM.out; omega, h2, h3.same (fun e => by have := p2_op (n := n) (l := l) (op := (op : Int)) e; rw [MM.out.1, ← HYE.out] at this; exact this)⟩⟩, HB⟩
        · have hit' : decide ((op : Int) ≤ 5) = false := decide_eq_false (by omega)
          have hop : (op : Int) = 6 := by have := HX.out; have := HO1.out; omega
          obtain ⟨D, hown, hknown⟩ : ∃ D, (∃ cnt, wr.ownsMap Tryd.prog 9 evR gm cnt D) ∧ Known n l (OkE n l) D := by
            obtain ⟨D, cnt, h1, h2, h3⟩ := HM.out
            rw [hop] at h3
            exact ⟨D, ⟨cnt, h2⟩, h3.same p2_end⟩
          have OW := Aside0.mk hown
          have KN := Aside0.mk hknown
          have KH := Aside0.mk (blk_below KH.out HB.out)
          have BB := Aside0.mk (below_step B1.out HB.out)
          have HGE := Aside0.mk (show w.heap.size ≤ gh by have h1 := EH.out; have h2 := BL.out.size; omega)
          clear hown hknown hop HM HB
          go_upto_region 20 with ((with_reducible refine gate_dst (N := 10) rfl ?_); refine box_event ?hg (N := 10) ?hd (cs := #[.int .i64 0, .int .i64 0, .slice none 0 0]) (t := 39) ?hr ?_; (case hd => rfl); (case hg => rfl); (case hr => first | (go_simp; done) | (go_simp; rfl)); intro gq eq wq kq bq; have EQ := Aside0.mk eq; have KQ := Aside0.mk kq; have BQ := Aside0.mk bq; clear eq kq bq; have kq0 : wq.cell? ⟨gq, 0, none⟩ = some (.int .i64 0) := (blk_cell KQ.out 0).trans rfl; have zkq0 := blk_frozen KQ.out 0; have kq1 : wq.cell? ⟨gq, 1, none⟩ = some (.int .i64 0) := (blk_cell KQ.out 1).trans rfl; have zkq1 := blk_frozen KQ.out 1; have kq2 : wq.cell? ⟨gq, 2, none⟩ = some (.slice none 0 0) := (blk_cell KQ.out 2).trans rfl; have zkq2 := blk_frozen KQ.out 2)
          have FX := Aside0.mk (fill3e (y0 := .int .i64 0) (y1 := .int .i64 0) (y2 := .slice none 0 0) KQ.out BQ.out (Nat.le_of_eq EQ.out.symm))
          have QGE := Aside0.mk (show w.heap.size ≤ gq ∧ gh ≠ gq by have h1 := EQ.out; have h2 := blk_lt KH.out; have h3 := HGE.out; omega)
          clear kq0 zkq0 kq1 zkq1 kq2 zkq2 KQ BQ EQ hit hit'
          generalize (((wq.setCell ⟨gq, 0, none⟩ (.int .i64 0)).setCell ⟨gq, 1, none⟩ (.int .i64 0)).setCell ⟨gq, 2, none⟩ (.slice none 0 0)) = w4 at FX ⊢
          have ST := Aside0.mk (RdSt.mk (wI := w) (b0 := w4.heap.size) (gh := gh) (gr := gq) (gm := gm) (D := D) (v2 := .slice none 0 0) (out := []) (blk_below KH.out FX.out.1) FX.out.2 (by obtain ⟨cnt, ho⟩ := OW.out; exact ⟨cnt, map_nx ho FX.out.1⟩) (Kd.R_nil k52 52 w4 _ _) (below_step BB.out FX.out.1) (below_step BB.out FX.out.1).size (Nat.le_refl _) (blk_lt (blk_below KH.out FX.out.1)) (blk_lt FX.out.2) (by obtain ⟨cnt, ho⟩ := OW.out; exact (map_nx ho FX.out.1).lt) HGE.out QGE.out.1 QGE.out.2)
          clear FX HGE QGE KH BB OW
          go_wp2_with fail
          go_loopg [1, 11] s.length (fun kq v1 v11 w' => ∃ (rest : List UInt8) (m : Nat) (out : List S52) (v2 : Value), v1 = .string (bs rest) ∧ v11 = .int .i64 ((m : Int) + 1) ∧ Aside0 (rest.length ≤ kq ∧ out.length = m ∧ m ≤ 2000) ∧ Aside0 (rest.length ≤ 20000) ∧ Aside0 (∃ f, rest.length ≤ f ∧ readE n l s = readGo n l f rest (m : Int) out) ∧ Aside0 (RdSt w w4.heap.size w' gh gq gm D v2 out))
          case atStart => exact ⟨s, 0, [], _, congrArg Value.string TX.out, rfl, ⟨Nat.le_refl _, rfl, by omega⟩, HZ, ⟨s.length, Nat.le_refl _, by rw [readE, if_pos HL.out, if_neg (by have := HZ.out; omega)]; rfl⟩, ST⟩
          case round =>
            clear ST
            obtain ⟨rest, m, out, v2, rfl, rfl, HX3, HRL, HF, ST⟩ := hrel
            by_cases hnil : rest = []
            · have hb : (bs rest != (⟨#[]⟩ : ByteArray)) = false := by rw [hnil]; rfl
              have HW := Aside0.mk (show readE n l s = (0, 0, out) by obtain ⟨f, _, hf⟩ := HF.out; rw [hf, hnil, readGo_nil])
              obtain ⟨A2, c2, rfl⟩ := Kd.R_slice ST.out.H2
              obtain ⟨a0, a1, a2, z0, z1, z2⟩ := ST.out.at_
              obtain ⟨x0, x1, x2, y0, y1, y2⟩ := ST.out.ath
              have KH := Aside0.mk (blk_put (blk_put (blk_put ST.out.hh 0 (.int .i64 0) rfl) 1 (.int .i64 0) rfl) 2 (.slice A2 out.length c2) rfl)
              have HR1 := Aside0.mk (R_off (p := ⟨gh, 2, none⟩) rfl (R_off (p := ⟨gh, 1, none⟩) rfl (R_off (p := ⟨gh, 0, none⟩) rfl ST.out.H2 (Kd.R_ne ST.out.H2 ST.out.hh (by decide)) (.int .i64 0)) (Kd.R_ne ST.out.H2 ST.out.hh (by decide)) (.int .i64 0)) (Kd.R_ne ST.out.H2 ST.out.hh (by decide)) (.slice A2 out.length c2))
              have HBB := Aside0.mk (below_set (j := 2) (v := .slice A2 out.length c2) (below_set (j := 1) (v := .int .i64 0) (below_set (j := 0) (v := .int .i64 0) ST.out.hB ST.out.hge) ST.out.hge) ST.out.hge)
              go_wp2_with fail
              exact bodyPost_ret (results_single rfl (Vals.cell gh 39 #[.int .i64 0, .int .i64 0, .slice A2 out.length c2] (0, 0) _ rfl KH.out Tryd.underlying39 rfl (by kernel_rfl) Vals.nil)) rfl ⟨.slice A2 out.length c2, by rw [HW.out], by rw [HW.out]; exact Kd.R_lower HR1.out ST.out.b1, HBB.out⟩
            · obtain ⟨go1, rfl⟩ : ∃ g, gk = g + 1 := ⟨gk - 1, by have := HX3.out; have := List.length_pos_iff.2 hnil; omega⟩
              have hb : rest.isEmpty = false := by simp [hnil]
              obtain ⟨k, hk1, hk2, hk3⟩ := read_round hnil KN.out
              obtain ⟨q, hq⟩ : ∃ q, q = Lib.indexByte rest 10 := ⟨_, rfl⟩
              have IX := Aside0.mk (show Lib.indexByte (bs rest).data.toList (10 : Int).toNat.toUInt8 = q from hq.symm)
              have hwk : wrap64 (q + 1) = (k : Int) := by rw [hq, hk1]; exact wrap_id (by omega) (by have := HRL.out; omega)
              have K2 := Aside0.mk hk2
              have KX := Aside0.mk (by rw [bs_take, List.drop_zero] : (bs rest).extract 0 k = bs (rest.take k))
              clear hq hk1
              rcases hk3 with ⟨hno, hgo⟩ | ⟨hk0, hyes, e, hat, hgo⟩
              · obtain ⟨e, hrun, -⟩ := look_run ST.out.hm HRL.out hno
                have RUN := Aside0.mk hrun
                have HW := Aside0.mk (show readE n l s = (3, (m : Int) + 1, []) by obtain ⟨f, h1, h2⟩ := HF.out; rw [h2]; exact hgo f m out h1)
                clear hno hgo hrun
                go_upto_region 25 with (first | (go_at_call 40; refine (Tryd.strings_IndexByte _ _ _).mono ?_; rintro e w8 ⟨rfl, rfl⟩; rw [IX.out]) | (rw [RUN.out]; simp only [Result.andThen, Oper.upon]) | ((with_reducible refine gate_dst (N := 13) rfl ?_); refine box_event ?hg (N := 13) ?hd (cs := #[.int .i64 0, .int .i64 0, .int .i64 0]) (t := 52) ?hr ?_; (case hd => rfl); (case hg => rfl); (case hr => first | (go_simp; done) | (go_simp; rfl)); intro ge ee we ke be; have EE := Aside0.mk ee; have KE := Aside0.mk ke; have BE := Aside0.mk be; clear ee ke be; have ke0 : we.cell? ⟨ge, 0, none⟩ = some (.int .i64 0) := (blk_cell KE.out 0).trans rfl; have zke0 := blk_frozen KE.out 0; have ke1 : we.cell? ⟨ge, 1, none⟩ = some (.int .i64 0) := (blk_cell KE.out 1).trans rfl; have zke1 := blk_frozen KE.out 1; have ke2 : we.cell? ⟨ge, 2, none⟩ = some (.int .i64 0) := (blk_cell KE.out 2).trans rfl; have zke2 := blk_frozen KE.out 2))
                clear IX RUN KX
                have FX := Aside0.mk (fill3e (y0 := .int .i64 e.f0) (y1 := .int .i64 e.f1) (y2 := .int .i64 e.f2) KE.out BE.out (Nat.le_of_eq EE.out.symm))
                clear ke0 zke0 ke1 zke1 ke2 zke2 KE BE EE
                generalize (((we.setCell ⟨ge, 0, none⟩ (.int .i64 e.f0)).setCell ⟨ge, 1, none⟩ (.int .i64 e.f1)).setCell ⟨ge, 2, none⟩ (.int .i64 e.f2)) = w9 at FX ⊢
                have ST := Aside0.mk (ST.out.up FX.out.1)
                clear FX
                obtain ⟨x0, x1, x2, y0, y1, y2⟩ := ST.out.ath
                have KH := Aside0.mk (blk_put (blk_put (blk_put ST.out.hh 0 (.int .i64 3) rfl) 1 (.int .i64 ((m : Int) + 1)) rfl) 2 (.slice none 0 0) rfl)
                have HBB := Aside0.mk (below_set (j := 2) (v := .slice none 0 0) (below_set (j := 1) (v := .int .i64 ((m : Int) + 1)) (below_set (j := 0) (v := .int .i64 3) ST.out.hB ST.out.hge) ST.out.hge) ST.out.hge)
                go_wp2_with fail
                exact bodyPost_ret (results_single rfl (Vals.cell gh 39 #[.int .i64 3, .int .i64 ((m : Int) + 1), .slice none 0 0] (0, 0) _ rfl KH.out Tryd.underlying39 rfl (by kernel_rfl) Vals.nil)) rfl ⟨.slice none 0 0, by rw [HW.out], by rw [HW.out]; exact Kd.R_nil _ _ _ _ _, HBB.out⟩
              · obtain ⟨e, hrun, hde⟩ := look_run ST.out.hm HRL.out hyes
                have he : e = _ := evD_inj (hde.trans hat)
                subst he
                have RUN := Aside0.mk hrun
                have HK0 := Aside0.mk hk0
                by_cases hm2 : m = 2000
                · have hm1 : decide ((2000 : Int) < (m : Int) + 1) = true := decide_eq_true (by omega)
                  have HW := Aside0.mk (show readE n l s = (3, (m : Int) + 1, []) by
                    obtain ⟨f, h1, h2⟩ := HF.out
                    have h3 := List.length_pos_iff.2 hnil
                    obtain ⟨f, rfl⟩ : ∃ f', f = f' + 1 := ⟨f - 1, by omega⟩
                    rw [h2, hgo f m out h1, if_pos (by rw [HX3.out.2.1]; exact hm2)])
                  clear hgo hrun hde hat hyes hk0 hm2
                  go_upto_region 25 with (first | (go_at_call 40; refine (Tryd.strings_IndexByte _ _ _).mono ?_; rintro e w8 ⟨rfl, rfl⟩; rw [IX.out]) | (rw [RUN.out]; simp only [Result.andThen, Oper.upon]) | ((with_reducible refine gate_dst (N := 13) rfl ?_); refine box_event ?hg (N := 13) ?hd (cs := #[.int .i64 0, .int .i64 0, .int .i64 0]) (t := 52) ?hr ?_; (case hd => rfl); (case hg => rfl); (case hr => first | (go_simp; done) | (go_simp; rfl)); intro ge ee we ke be; have EE := Aside0.mk ee; have KE := Aside0.mk ke; have BE := Aside0.mk be; clear ee ke be; have ke0 : we.cell? ⟨ge, 0, none⟩ = some (.int .i64 0) := (blk_cell KE.out 0).trans rfl; have zke0 := blk_frozen KE.out 0; have ke1 : we.cell? ⟨ge, 1, none⟩ = some (.int .i64 0) := (blk_cell KE.out 1).trans rfl; have zke1 := blk_frozen KE.out 1; have ke2 : we.cell? ⟨ge, 2, none⟩ = some (.int .i64 0) := (blk_cell KE.out 2).trans rfl; have zke2 := blk_frozen KE.out 2))
                  clear IX RUN KX
                  have FX := Aside0.mk (fill3e (y0 := .int .i64 e.f0) (y1 := .int .i64 e.f1) (y2 := .int .i64 e.f2) KE.out BE.out (Nat.le_of_eq EE.out.symm))
                  clear ke0 zke0 ke1 zke1 ke2 zke2 KE BE EE
                  generalize (((we.setCell ⟨ge, 0, none⟩ (.int .i64 e.f0)).setCell ⟨ge, 1, none⟩ (.int .i64 e.f1)).setCell ⟨ge, 2, none⟩ (.int .i64 e.f2)) = w9 at FX ⊢
                  have ST := Aside0.mk (ST.out.up FX.out.1)
                  clear FX
                  obtain ⟨x0, x1, x2, y0, y1, y2⟩ := ST.out.ath
                  have KH := Aside0.mk (blk_put (blk_put (blk_put ST.out.hh 0 (.int .i64 3) rfl) 1 (.int .i64 ((m : Int) + 1)) rfl) 2 (.slice none 0 0) rfl)
                  have HBB := Aside0.mk (below_set (j := 2) (v := .slice none 0 0) (below_set (j := 1) (v := .int .i64 ((m : Int) + 1)) (below_set (j := 0) (v := .int .i64 3) ST.out.hB ST.out.hge) ST.out.hge) ST.out.hge)
                  go_wp2_with fail
                  exact bodyPost_ret (results_single rfl (Vals.cell gh 39 #[.int .i64 3, .int .i64 ((m : Int) + 1), .slice none 0 0] (0, 0) _ rfl KH.out Tryd.underlying39 rfl (by kernel_rfl) Vals.nil)) rfl ⟨.slice none 0 0, by rw [HW.out], by rw [HW.out]; exact Kd.R_nil _ _ _ _ _, HBB.out⟩
                · have hm1 : decide ((2000 : Int) < (m : Int) + 1) = false := decide_eq_false (by have := HX3.out; omega)
                  have HM2 := Aside0.mk hm2
                  have HF2 := Aside0.mk (show ∃ f, (rest.drop k).length ≤ f ∧ readE n l s = readGo n l f (rest.drop k) ((m + 1 : Nat) : Int) (out ++ [e]) by
                    obtain ⟨f, h1, h2⟩ := HF.out
                    have h3 := List.length_pos_iff.2 hnil
                    obtain ⟨f, rfl⟩ : ∃ f', f = f' + 1 := ⟨f - 1, by omega⟩
                    exact ⟨f, by rw [List.length_drop]; have := HK0.out; omega, by rw [h2, hgo f m out h1, if_neg (by rw [HX3.out.2.1]; exact hm2)]; rfl⟩)
                  have WM := Aside0.mk (show wrap64 ((m : Int) + 1 + 1) = ((m + 1 : Nat) : Int) + 1 from (wrap_id (by omega) (by have := HX3.out; omega)).trans (by omega))
                  have KY := Aside0.mk (show (bs rest).extract k rest.length = bs (rest.drop k) by rw [bs_take, List.take_length])
                  clear hgo hrun hde hat hyes hk0 hm2
                  go_upto_region 25 with (first | (go_at_call 40; refine (Tryd.strings_IndexByte _ _ _).mono ?_; rintro e w8 ⟨rfl, rfl⟩; rw [IX.out]) | (rw [RUN.out]; simp only [Result.andThen, Oper.upon]) | ((with_reducible refine gate_dst (N := 13) rfl ?_); refine box_event ?hg (N := 13) ?hd (cs := #[.int .i64 0, .int .i64 0, .int .i64 0]) (t := 52) ?hr ?_; (case hd => rfl); (case hg => rfl); (case hr => first | (go_simp; done) | (go_simp; rfl)); intro ge ee we ke be; have EE := Aside0.mk ee; have KE := Aside0.mk ke; have BE := Aside0.mk be; clear ee ke be; have ke0 : we.cell? ⟨ge, 0, none⟩ = some (.int .i64 0) := (blk_cell KE.out 0).trans rfl; have zke0 := blk_frozen KE.out 0; have ke1 : we.cell? ⟨ge, 1, none⟩ = some (.int .i64 0) := (blk_cell KE.out 1).trans rfl; have zke1 := blk_frozen KE.out 1; have ke2 : we.cell? ⟨ge, 2, none⟩ = some (.int .i64 0) := (blk_cell KE.out 2).trans rfl; have zke2 := blk_frozen KE.out 2))
                  clear IX RUN KX
                  have FX := Aside0.mk (fill3e (y0 := .int .i64 e.f0) (y1 := .int .i64 e.f1) (y2 := .int .i64 e.f2) KE.out BE.out (Nat.le_of_eq EE.out.symm))
                  clear ke0 zke0 ke1 zke1 ke2 zke2 KE BE EE
                  generalize (((we.setCell ⟨ge, 0, none⟩ (.int .i64 e.f0)).setCell ⟨ge, 1, none⟩ (.int .i64 e.f1)).setCell ⟨ge, 2, none⟩ (.int .i64 e.f2)) = w9 at FX ⊢
                  have ST := Aside0.mk (ST.out.up FX.out.1)
                  have KE := Aside0.mk FX.out.2
                  clear FX
                  have ke0 : w9.cell? ⟨ge, 0, none⟩ = some (.int .i64 e.f0) := (blk_cell KE.out 0).trans rfl
                  have ke1 : w9.cell? ⟨ge, 1, none⟩ = some (.int .i64 e.f1) := (blk_cell KE.out 1).trans rfl
                  have ke2 : w9.cell? ⟨ge, 2, none⟩ = some (.int .i64 e.f2) := (blk_cell KE.out 2).trans rfl
                  obtain ⟨a0, a1, a2, z0, z1, z2⟩ := ST.out.at_
                  go_upto_region 28 with (at_builtin; refine Kd.R_append k52 (w0 := w9) w4.heap.size rfl (.tmp 80) (.tmp 82) 33 52 (.agg #[.int .i64 0, .int .i64 0, .int .i64 0]) 24 rfl Tryd.underlying33 info52 rfl (by decide) (by decide) v2 out e [.int .i64 e.f0, .int .i64 e.f1, .int .i64 e.f2] (fun _ => True) (fun _ => False) rfl rfl (k52_mkM _ _ _ e) (fun k hk => hk.elim) (fun _ _ => trivial) ST.out.H2 (Below.refl _ _) ST.out.b2 (by have := HX3.out; omega) ?_; intro vn wn hsn hbn hgn _; obtain ⟨An, cn, rfl⟩ := Kd.R_slice hsn; rw [List.length_append, List.length_singleton] at hsn ⊢; have HP1 := Aside0.mk (ST.out.grn hgn); have SN := Aside0.mk (ST.out.app hsn hgn); have aN : wn.cell? ⟨gq, 2, none⟩ = some v2 := (blk_cell HP1.out 2).trans rfl; have zN := blk_frozen HP1.out 2; clear hsn hbn hgn a0 a1 a2 z0 z1 z2 ke0 ke1 ke2)
                  clear aN zN HP1 KE
                  generalize wn.setCell ⟨gq, 2, none⟩ (.slice An (out.length + 1) cn) = w5 at SN ⊢
                  go_wp2_with fail
                  go_roundg go1
                  case measure => omega
                  case rel => exact ⟨rest.drop k, m + 1, out ++ [e], _, congrArg Value.string KY.out, congrArg (Value.int .i64) WM.out, ⟨by have := HX3.out; rw [List.length_drop]; have := HK0.out; omega, by rw [List.length_append, List.length_singleton, HX3.out.2.1], by have := HX3.out; have := HM2.out; omega⟩, ⟨by rw [List.length_drop]; have := HRL.out; omega⟩, HF2, SN⟩
    · have hz1 : decide (20000 < (tx.size : Int)) = true := decide_eq_true (by rw [TS.out]; omega)
      have HL := Aside0.mk hl
      have HW := Aside0.mk (show readE n l s = (2, 0, []) by rw [readE, if_pos hl, if_pos (by omega)])
      clear hl hz
      go_enter Tryd.func16, Tryd.ntmps16
      go_upto_region 1 with (first | ((with_reducible refine gate_dst (N := 2) rfl ?_); refine box_event ?hg (N := 2) ?hd (cs := #[.int .i64 n, .slice A l.length c]) (t := 31) ?hr ?_; (case hd => rfl); (case hg => rfl); (case hr => first | (go_simp; done) | (go_simp; rfl)); intro gl el wl kl bl; have EL := Aside0.mk el; have KL := Aside0.mk kl; have BL := Aside0.mk bl; clear el kl bl; have kl0 : wl.cell? ⟨gl, 0, none⟩ = some (.int .i64 n) := (blk_cell KL.out 0).trans rfl; have zkl0 := blk_frozen KL.out 0; have kl1 : wl.cell? ⟨gl, 1, none⟩ = some (.slice A l.length c) := (blk_cell KL.out 1).trans rfl; have zkl1 := blk_frozen KL.out 1) | ((with_reducible refine gate_dst (N := 4) rfl ?_); refine box_event ?hg (N := 4) ?hd (cs := #[.int .i64 0, .int .i64 0, .slice none 0 0]) (t := 39) ?hr ?_; (case hd => rfl); (case hg => rfl); (case hr => first | (go_simp; done) | (go_simp; rfl)); intro gh eh wh kh bh; have EH := Aside0.mk eh; have KH := Aside0.mk kh; have BH := Aside0.mk bh; clear eh kh bh; have kh0 : wh.cell? ⟨gh, 0, none⟩ = some (.int .i64 0) := (blk_cell KH.out 0).trans rfl; have zkh0 := blk_frozen KH.out 0; have kh1 : wh.cell? ⟨gh, 1, none⟩ = some (.int .i64 0) := (blk_cell KH.out 1).trans rfl; have zkh1 := blk_frozen KH.out 1; have kh2 : wh.cell? ⟨gh, 2, none⟩ = some (.slice none 0 0) := (blk_cell KH.out 2).trans rfl; have zkh2 := blk_frozen KH.out 2))
      clear kl0 zkl0 kl1 zkl1
      have KL := Aside0.mk (blk_below KL.out BH.out)
      have kl0 : wh.cell? ⟨gl, 0, none⟩ = some (.int .i64 n) := (blk_cell KL.out 0).trans rfl
      have zkl0 := blk_frozen KL.out 0
      have kl1 : wh.cell? ⟨gl, 1, none⟩ = some (.slice A l.length c) := (blk_cell KL.out 1).trans rfl
      have zkl1 := blk_frozen KL.out 1
      go_wp2_with (go_at_call 30; refine (lay_at HL.out (Kd.C_below HR.out (below_step BL.out BH.out)) HC.out).mono ?_; rintro e w1 ⟨rfl, hb⟩; have KL := Aside0.mk (blk_below KL.out hb); have KH := Aside0.mk (blk_below KH.out hb); have B1 := Aside0.mk (below_step (below_step BL.out BH.out) hb); clear hb kl0 zkl0 kl1 zkl1 kh0 zkh0 kh1 zkh1 kh2 zkh2; have kh0 : w1.cell? ⟨gh, 0, none⟩ = some (.int .i64 0) := (blk_cell KH.out 0).trans rfl; have zkh0 := blk_frozen KH.out 0; have kh1 : w1.cell? ⟨gh, 1, none⟩ = some (.int .i64 0) := (blk_cell KH.out 1).trans rfl; have zkh1 := blk_frozen KH.out 1; have kh2 : w1.cell? ⟨gh, 2, none⟩ = some (.slice none 0 0) := (blk_cell KH.out 2).trans rfl; have zkh2 := blk_frozen KH.out 2)
      have FX := fill3e (w := w) (y0 := .int .i64 2) (y1 := .int .i64 0) (y2 := .slice none 0 0) KH.out B1.out (by rw [EH.out]; exact BL.out.size)
      exact bodyPost_ret (results_single rfl (Vals.cell gh 39 #[.int .i64 2, .int .i64 0, .slice none 0 0] (0, 0) _ rfl FX.2 Tryd.underlying39 rfl (by kernel_rfl) Vals.nil)) rfl ⟨.slice none 0 0, by rw [HW.out], by rw [HW.out]; exact Kd.R_nil _ _ _ _ _, FX.1⟩
  · have HW := Aside0.mk (show readE n l s = (1, 0, []) by rw [readE, if_neg hl])
    obtain ⟨q, hq⟩ : ∃ q, layoutOk n l = q := ⟨_, rfl⟩
    have HQ := Aside0.mk hq
    rw [hq] at hl
    have hl1 : (q != 0) = true := by simp [hl]
    go_enter Tryd.func16, Tryd.ntmps16
    go_upto_region 1 with (first | ((with_reducible refine gate_dst (N := 2) rfl ?_); refine box_event ?hg (N := 2) ?hd (cs := #[.int .i64 n, .slice A l.length c]) (t := 31) ?hr ?_; (case hd => rfl); (case hg => rfl); (case hr => first | (go_simp; done) | (go_simp; rfl)); intro gl el wl kl bl; have EL := Aside0.mk el; have KL := Aside0.mk kl; have BL := Aside0.mk bl; clear el kl bl; have kl0 : wl.cell? ⟨gl, 0, none⟩ = some (.int .i64 n) := (blk_cell KL.out 0).trans rfl; have zkl0 := blk_frozen KL.out 0; have kl1 : wl.cell? ⟨gl, 1, none⟩ = some (.slice A l.length c) := (blk_cell KL.out 1).trans rfl; have zkl1 := blk_frozen KL.out 1) | ((with_reducible refine gate_dst (N := 4) rfl ?_); refine box_event ?hg (N := 4) ?hd (cs := #[.int .i64 0, .int .i64 0, .slice none 0 0]) (t := 39) ?hr ?_; (case hd => rfl); (case hg => rfl); (case hr => first | (go_simp; done) | (go_simp; rfl)); intro gh eh wh kh bh; have EH := Aside0.mk eh; have KH := Aside0.mk kh; have BH := Aside0.mk bh; clear eh kh bh; have kh0 : wh.cell? ⟨gh, 0, none⟩ = some (.int .i64 0) := (blk_cell KH.out 0).trans rfl; have zkh0 := blk_frozen KH.out 0; have kh1 : wh.cell? ⟨gh, 1, none⟩ = some (.int .i64 0) := (blk_cell KH.out 1).trans rfl; have zkh1 := blk_frozen KH.out 1; have kh2 : wh.cell? ⟨gh, 2, none⟩ = some (.slice none 0 0) := (blk_cell KH.out 2).trans rfl; have zkh2 := blk_frozen KH.out 2))
    clear kl0 zkl0 kl1 zkl1
    have KL := Aside0.mk (blk_below KL.out BH.out)
    have kl0 : wh.cell? ⟨gl, 0, none⟩ = some (.int .i64 n) := (blk_cell KL.out 0).trans rfl
    have zkl0 := blk_frozen KL.out 0
    have kl1 : wh.cell? ⟨gl, 1, none⟩ = some (.slice A l.length c) := (blk_cell KL.out 1).trans rfl
    have zkl1 := blk_frozen KL.out 1
    go_wp2_with (go_at_call 30; refine (lay_at HQ.out (Kd.C_below HR.out (below_step BL.out BH.out)) HC.out).mono ?_; rintro e w1 ⟨rfl, hb⟩; have KL := Aside0.mk (blk_below KL.out hb); have KH := Aside0.mk (blk_below KH.out hb); have B1 := Aside0.mk (below_step (below_step BL.out BH.out) hb); clear hb kl0 zkl0 kl1 zkl1 kh0 zkh0 kh1 zkh1 kh2 zkh2; have kh0 : w1.cell? ⟨gh, 0, none⟩ = some (.int .i64 0) := (blk_cell KH.out 0).trans rfl; have zkh0 := blk_frozen KH.out 0; have kh1 : w1.cell? ⟨gh, 1, none⟩ = some (.int .i64 0) := (blk_cell KH.out 1).trans rfl; have zkh1 := blk_frozen KH.out 1; have kh2 : w1.cell? ⟨gh, 2, none⟩ = some (.slice none 0 0) := (blk_cell KH.out 2).trans rfl; have zkh2 := blk_frozen KH.out 2)
    have FX := fill3e (w := w) (y0 := .int .i64 1) (y1 := .int .i64 0) (y2 := .slice none 0 0) KH.out B1.out (by rw [EH.out]; exact BL.out.size)
    exact bodyPost_ret (results_single rfl (Vals.cell gh 39 #[.int .i64 1, .int .i64 0, .slice none 0 0] (0, 0) _ rfl FX.2 Tryd.underlying39 rfl (by kernel_rfl) Vals.nil)) rfl ⟨.slice none 0 0, by rw [HW.out], by rw [HW.out]; exact Kd.R_nil _ _ _ _ _, FX.1⟩
noncomputable def impl_ReadEvents.f (n : Int) (l : List S98) (tx : ByteArray) : Option (Int × Int × List S52) := some (readE n l tx.data.toList)
theorem bs_data (tx : ByteArray) : tx = bs tx.data.toList := by cases tx; rfl
theorem impl_ReadEvents.calls {T : Addr} {tc : Nat} (n : Int) (A : Option Addr) (c : Nat) (l : List S98) (tx : ByteArray) (r1 r2 : Int) (r3 : List S52) (w : World) (hr : Kd.C k98 w A l.length l) (hc : l.length ≤ c) (h : impl_ReadEvents.f n l tx = some (r1, r2, r3)) (hT : Tabs T tc w) :
    Calls Tryd.prog 16 #[.agg #[.int .i64 n, .slice A l.length c], .string tx] w fun e w' => ∃ v2_ : Value, e = .returned (.agg #[.int .i64 r1, .int .i64 r2, v2_]) ∧ Kd.R k52 52 w' w.heap.size (fun _ => True) v2_ r3 ∧ Below w.heap.size w w' := by
  have e := Option.some.inj h
  have := iread_is n A c l tx.data.toList tx (bs_data tx) w hr hc hT
  rwa [e] at this
end Go.Proofs.YtpdnabhpkdchjaaDoor.P
