/- The statement FnExactAnswerCardSaid holds of the given program, for every argument; there are no conditions. (Part 4 of 6.) -/
import Derived.Test.YtpdnabhpkdchjaaDoorBFnExactAnswer3
import Derived.Shelf.Strings.BuilderK
import Derived.Maps.OwnSet
import Derived.Maps.OwnOps
import Derived.Carry
import Derived.Deep.RegionWith
namespace Go.Proofs.YtpdnabhpkdchjaaDoor.P
open Go.RowKit Go.Proofs.YtpdnabhpkdchjaaDoorW.PrintWords Go.Proofs.YtpdnabhpkdchjaaDoorW.PrintLast Go.Proofs.YtpdnabhpkdchjaaDoorW.PrintMore
attribute [local go_sem] max2_int min2_int max_two min_two max_three min_three max_four min_four
set_option linter.unusedVariables false
set_option linter.unusedSimpArgs false
mutual
def spec_Around.j0:Nat→Int→Bool→Int→List (S98)→Option (List Int)
 | 0,_,_,_,_=>none
 | k+1,x1,x18,x340000,x340001=>if x18=true then (some ([]:List Int)) else (spec_Around.l0 k x1 ([]:List Int) x340001 (x340001.length:Int) 0)
def spec_Around.l0:Nat→Int→List Int→List (S98)→Int→Int→Option (List Int)
 | 0,_,_,_,_,_=>none
 | k+1,x1,x5,x20,x21,x22=>if x22<x21 then (if 0≤x22 then (if x22<(x20.length:Int) then (if ((rd_T98 x20 x22).f0)=x1 then (if x5.length<17592186044416 then (spec_Around.l0 k x1 (x5 ++ [x22]) x20 x21 (wrap64 (x22+1))) else (none)) else (if ((rd_T98 x20 x22).f1)=x1 then (if x5.length<17592186044416 then (spec_Around.l0 k x1 (x5 ++ [x22]) x20 x21 (wrap64 (x22+1))) else (none)) else (spec_Around.l0 k x1 x5 x20 x21 (wrap64 (x22+1))))) else (none)) else (none)) else (some x5)
end
def spec_Around.f (k:Nat) (a0_0:Int) (l0_1:List (S98)) (a1:Int):Option (List Int):=(spec_LayoutOk.f k a0_0 l0_1).bind fun t340=>(if t340=0 then ((spec_l1in.f a1 0 (wrap64 (a0_0 - 1))).bind fun t341=>(spec_Around.j0 k a1 (!t341) a0_0 l0_1)) else (spec_Around.j0 k a1 true a0_0 l0_1))
set_option maxHeartbeats 8000000 in
set_option maxRecDepth 100000 in
theorem spec_Around.calls (k:Nat) (a0_0:Int) (A0_1:Option Addr) (c0_1:Nat) (l0_1:List (S98)) (a1:Int) (r:List Int) (w:World) (hr0_1:Kd.C k98 w A0_1 l0_1.length l0_1) (hc0_1:l0_1.length≤c0_1) (h:spec_Around.f k a0_0 l0_1 a1=some r) :
  Calls Tryd.prog 79 #[.agg #[.int .i64 a0_0,.slice A0_1 l0_1.length c0_1],.int .i64 a1] w fun e w'=>∃ v0_:Value,e=.returned (v0_)∧Kd.R (Kd.int .i64) 3 w' w.heap.size (fun _=>True) v0_ r∧Below w.heap.size w w':=by
 have hu31:=Tryd.underlying31
 have hu98:=Tryd.underlying98
 have HR0_1:=Aside0.mk hr0_1
 have HC0_1:=Aside0.mk hc0_1
 clear hr0_1 hc0_1
 have HB:=Aside0.mk (Below.refl w.heap.size w)
 have H:((spec_LayoutOk.f k a0_0 l0_1).bind fun t340=>(if t340=0 then ((spec_l1in.f a1 0 (wrap64 (a0_0 - 1))).bind fun t341=>(spec_Around.j0 k a1 (!t341) a0_0 l0_1)) else (spec_Around.j0 k a1 true a0_0 l0_1)))=some r:=h
 clear h
 have HC3:=Aside0.mk H
 clear H
 go_enter Tryd.func79,Tryd.ntmps79
 go_upto_region 1 with (first|((with_reducible refine gate_dst (N:=2) rfl ?_);refine box_event ?hg (N:=2) ?hd (cs:=#[.int .i64 a0_0,.slice A0_1 l0_1.length c0_1]) (t:=31) ?hr ?_;(case hd=>rfl);(case hg=>rfl);(case hr=>first|(go_simp;done)|(go_simp;rfl));intro gb339 hg w4 hbox hb;have n0_:=Aside0.mk (below_step (by repeat (first|(with_reducible first|exact HB.out|apply below_alloc|apply pw_below_drewN|apply below_drew1)|exact HB.out)) hb);have n1_:=Aside0.mk (hbox);have n2_:=Aside0.mk ((by rw [hg];exact (below_size (by repeat (first|(with_reducible first|exact HB.out|apply below_alloc|apply pw_below_drewN|apply below_drew1)|exact HB.out))):w.heap.size≤gb339));have n3_:=Aside0.mk ((by rw [hg];exact (below_size (by repeat (first|(with_reducible first|exact HB.out|apply below_alloc|apply pw_below_drewN|apply below_drew1)|exact HB.out))):w.heap.size≤gb339));clear HB;have HB:=n0_;have BK339:=n1_;have GW339:=n2_;have GE339:=n3_;clear n0_ n1_ n2_ n3_;clear hb hbox hg))
 (try simp only [Act.put,List.setIfInBounds_toArray,List.set_cons_zero,List.set_cons_succ])
 go_cut [18] (fun v18 wc=>∃ (kq:Nat) (x18_2:Bool),v18=.bool x18_2∧Aside0 (spec_Around.j0 kq a1 x18_2 a0_0 l0_1=some r)∧Aside0 (kq≤k)∧Aside0 (wc.heap[gb339]?=some (.cells #[.int .i64 a0_0,(.slice A0_1 l0_1.length c0_1)] 31 (0,0)))∧Aside0 (Below w.heap.size w wc))
 case first =>
  have H:=HC3.out
  clear HC3
  replace H:=Option.bind_eq_some_iff.mp H
  obtain ⟨t340,A50,H⟩:=H
  replace H:(if t340=0 then ((spec_l1in.f a1 0 (wrap64 (a0_0 - 1))).bind fun t341=>(spec_Around.j0 k a1 (!t341) a0_0 l0_1)) else (spec_Around.j0 k a1 true a0_0 l0_1))=some r:=H
  have A5:=Aside0.mk A50
  clear A50
  by_cases c6:t340=0
  ·rw [if_pos c6] at H
   have c6b0:(t340==0)=true:=beq_iff_eq.mpr c6
   have c6b1:(t340 != 0)=false:=bne_eq_false_iff_eq.mpr c6
   clear c6
   (first|rw [c6b0]|(simp only [i64_w,i32_w];rw [c6b0])|skip)
   replace H:=Option.bind_eq_some_iff.mp H
   obtain ⟨t341,A70,H⟩:=H
   replace H:(spec_Around.j0 k a1 (!t341) a0_0 l0_1)=some r:=H
   have A7:=Aside0.mk A70
   clear A70
   have H':=Aside0.mk H
   clear H
   have hcz8_0:w4.cell? ⟨gb339,0,none⟩=some (.int .i64 a0_0):=(blk_cell BK339.out 0).trans rfl
   have hcz8_1:w4.cell? ⟨gb339,1,none⟩=some (.slice A0_1 l0_1.length c0_1):=(blk_cell BK339.out 1).trans rfl
   have hfz8_0:=blk_frozen BK339.out 0
   have hfz8_1:=blk_frozen BK339.out 1
   go_wp2_with (first|((with_reducible refine gate_callee (f:=38) rfl ?_);refine goesL_ (some 9) rfl rfl Tryd.func38 (by kernel_rfl) rfl #[.agg #[.int .i64 a0_0,.slice A0_1 l0_1.length c0_1]] rfl (by (try simp only [List.map_toArray,List.map_cons,List.map_nil]);first|done|rfl|(simp only [List.length_drop,List.length_take];rfl)) ?_;(with_reducible refine (spec_LayoutOk.calls k a0_0 _ _ l0_1 t340 _ ?side1 ?side2 A5.out).mono ?_);(case side1=>repeat (first|exact (Kd.C_below HR0_1.out HB.out)|(with_reducible refine Kd.C_alloc ?_ _)|(with_reducible refine Kd.C_drewN ?_ _)|(with_reducible refine Kd.C_drew ?_)));(case side2=>exact HC0_1.out);rintro e w9 ⟨rfl,hb⟩;refine ⟨_,rfl,?_⟩;have n0_:=Aside0.mk (blk_below (g:=gb339) (o:=.cells #[.int .i64 a0_0,.slice A0_1 l0_1.length c0_1] 31 (0,0)) (by (with_reducible repeat (first|refine blk_drewN ?_ _|refine blk_drew ?_|refine blk_alloc ?_ _));exact BK339.out) hb);have n1_:=Aside0.mk (below_step (by repeat (first|(with_reducible first|exact HB.out|apply below_alloc|apply pw_below_drewN|apply below_drew1|refine below_set ?_ GE339.out)|exact HB.out)) hb);clear BK339;clear HB;have BK339:=n0_;have HB:=n1_;clear n0_ n1_;(try clear hb);(try clear hb2);(try clear hk);(try clear hi);have hcz10_0:w9.cell? ⟨gb339,0,none⟩=some (.int .i64 a0_0):=(blk_cell BK339.out 0).trans rfl;have hcz10_1:w9.cell? ⟨gb339,1,none⟩=some (.slice A0_1 l0_1.length c0_1):=(blk_cell BK339.out 1).trans rfl;have hfz10_0:=blk_frozen BK339.out 0;have hfz10_1:=blk_frozen BK339.out 1)|(go_at_call 51;(with_reducible refine (spec_l1in.calls a1 0 (wrap64 (a0_0 - 1)) t341 _ A7.out).mono ?_);rintro e w' ⟨rfl,⟨nd,rfl⟩⟩))
   go_meet
   case rel=>exact ⟨_,(!t341),(by first|rfl|(simp;done)|(simp [*];done)),H',⟨by first|omega|exact Nat.le_refl _⟩,⟨by (with_reducible repeat (first|refine blk_drewN ?_ _|refine blk_drew ?_|refine blk_alloc ?_ _));exact BK339.out⟩,⟨by repeat (first|(with_reducible first|exact HB.out|apply below_alloc|apply pw_below_drewN|apply below_drew1|refine below_set ?_ GE339.out)|exact HB.out)⟩⟩
  rw [if_neg c6] at H
  have c6b0:(t340==0)=false:=beq_eq_false_iff_ne.mpr c6
  have c6b1:(t340 != 0)=true:=bne_iff_ne.mpr c6
  (first|rw [c6b0]|(simp only [i64_w,i32_w];rw [c6b0])|skip)
  have H':=Aside0.mk H
  clear H
  have hcz11_0:w4.cell? ⟨gb339,0,none⟩=some (.int .i64 a0_0):=(blk_cell BK339.out 0).trans rfl
  have hcz11_1:w4.cell? ⟨gb339,1,none⟩=some (.slice A0_1 l0_1.length c0_1):=(blk_cell BK339.out 1).trans rfl
  have hfz11_0:=blk_frozen BK339.out 0
  have hfz11_1:=blk_frozen BK339.out 1
  go_wp2_with (first|((with_reducible refine gate_callee (f:=38) rfl ?_);refine goesL_ (some 9) rfl rfl Tryd.func38 (by kernel_rfl) rfl #[.agg #[.int .i64 a0_0,.slice A0_1 l0_1.length c0_1]] rfl (by (try simp only [List.map_toArray,List.map_cons,List.map_nil]);first|done|rfl|(simp only [List.length_drop,List.length_take];rfl)) ?_;(with_reducible refine (spec_LayoutOk.calls k a0_0 _ _ l0_1 t340 _ ?side1 ?side2 A5.out).mono ?_);(case side1=>repeat (first|exact (Kd.C_below HR0_1.out HB.out)|(with_reducible refine Kd.C_alloc ?_ _)|(with_reducible refine Kd.C_drewN ?_ _)|(with_reducible refine Kd.C_drew ?_)));(case side2=>exact HC0_1.out);rintro e w12 ⟨rfl,hb⟩;refine ⟨_,rfl,?_⟩;have n0_:=Aside0.mk (blk_below (g:=gb339) (o:=.cells #[.int .i64 a0_0,.slice A0_1 l0_1.length c0_1] 31 (0,0)) (by (with_reducible repeat (first|refine blk_drewN ?_ _|refine blk_drew ?_|refine blk_alloc ?_ _));exact BK339.out) hb);have n1_:=Aside0.mk (below_step (by repeat (first|(with_reducible first|exact HB.out|apply below_alloc|apply pw_below_drewN|apply below_drew1|refine below_set ?_ GE339.out)|exact HB.out)) hb);clear BK339;clear HB;have BK339:=n0_;have HB:=n1_;clear n0_ n1_;(try clear hb);(try clear hb2);(try clear hk);(try clear hi)))
  go_meet
  case rel=>exact ⟨_,(true),(by first|rfl|(simp;done)|(simp [*];done)),H',⟨by first|omega|exact Nat.le_refl _⟩,⟨by (with_reducible repeat (first|refine blk_drewN ?_ _|refine blk_drew ?_|refine blk_alloc ?_ _));exact BK339.out⟩,⟨by repeat (first|(with_reducible first|exact HB.out|apply below_alloc|apply pw_below_drewN|apply below_drew1|refine below_set ?_ GE339.out)|exact HB.out)⟩⟩
 case rest =>
  clear HC3
  try clear p2
  try clear c3
  try clear c6
  try clear c6b0
  try clear c6b1
  try clear p6
  try clear c7
  try clear hcz10_0
  try clear hcz10_1
  try clear hcz11_0
  try clear hcz11_1
  try clear hcz8_0
  try clear hcz8_1
  try clear hfz10_0
  try clear hfz10_1
  try clear hfz11_0
  try clear hfz11_1
  try clear hfz8_0
  try clear hfz8_1
  obtain ⟨kq,x18_2,rfl,HA,HJ2,BK339,HB⟩:=hcut
  cases kq with
  | zero=>exact absurd HA.out (by simp [spec_Around.j0])
  | succ kj2 =>
   have H:=HA.out
   clear HA
   simp only [spec_Around.j0] at H
   by_cases c13:x18_2=true
   ·subst c13
    have H1:(some ([]:List Int))=some r:=by rw [if_pos rfl] at H;exact H
    clear H
    have H:=H1
    clear H1
    obtain rfl:=Option.some.inj H
    go_wp2
    go_ret
    exact ⟨_,by first|rfl|(simp [errW_none,errW_some] <;> rfl)|(simp [*,errW_none,errW_some] <;> rfl),by first|exact Kd.R_nil _ _ _ _ _|exact Kd.N_nil _ _ _ _ _|exact Kd.V_nil _ _ _ _ _|exact Kd.Q_nil _ _ _ _ _|exact Kd.S_nil _ _ _ _ _,by repeat (first|(with_reducible first|exact HB.out|apply below_alloc|apply pw_below_drewN|apply below_drew1|refine below_set ?_ GE339.out)|exact HB.out)⟩
   replace c13:=Bool.eq_false_iff.mpr c13
   subst c13
   have H1:(spec_Around.l0 kj2 a1 ([]:List Int) l0_1 (l0_1.length:Int) 0)=some r:=by rw [if_neg (show ¬ (false=true) by decide)] at H;exact H
   clear H
   have H:=H1
   clear H1
   have H':=Aside0.mk H
   clear H
   have hcz14_0:wc.cell? ⟨gb339,0,none⟩=some (.int .i64 a0_0):=(blk_cell BK339.out 0).trans rfl
   have hcz14_1:wc.cell? ⟨gb339,1,none⟩=some (.slice A0_1 l0_1.length c0_1):=(blk_cell BK339.out 1).trans rfl
   have hfz14_0:=blk_frozen BK339.out 0
   have hfz14_1:=blk_frozen BK339.out 1
   go_wp2
   go_loopg [5,22] kj2 (fun kq v5 v22 w'=>∃ (x5_2:List Int) (x22_2:Int),v22=.int .i64 x22_2∧Aside0 (spec_Around.l0 kq a1 x5_2 l0_1 (l0_1.length:Int) x22_2=some r)∧Aside0 (kq≤kj2)∧Aside0 (Kd.R (Kd.int .i64) 3 w' w.heap.size (fun _=>True) v5 x5_2)∧Aside0 (w'.heap[gb339]?=some (.cells #[.int .i64 a0_0,(.slice A0_1 l0_1.length c0_1)] 31 (0,0)))∧Aside0 (Below w.heap.size w w'))
   case atStart=>exact ⟨(([]:List Int)),(0),(by first|rfl|(simp;done)|(simp [*];done)),H',⟨Nat.le_refl _⟩,⟨by first|exact Kd.R_nil _ _ _ _ _|exact Kd.N_nil _ _ _ _ _|exact Kd.V_nil _ _ _ _ _|exact Kd.Q_nil _ _ _ _ _|exact Kd.S_nil _ _ _ _ _⟩,⟨by (with_reducible repeat (first|refine blk_drewN ?_ _|refine blk_drew ?_|refine blk_alloc ?_ _));exact BK339.out⟩,⟨by repeat (first|(with_reducible first|exact HB.out|apply below_alloc|apply pw_below_drewN|apply below_drew1|refine below_set ?_ GE339.out)|exact HB.out)⟩⟩
   case round =>
    clear H'
    try clear c1
    try clear p2
    try clear c3
    try clear c6
    try clear c6b0
    try clear c6b1
    try clear p6
    try clear c7
    try clear c13
    try clear hcz10_0
    try clear hcz10_1
    try clear hcz11_0
    try clear hcz11_1
    try clear hcz14_0
    try clear hcz14_1
    try clear hcz8_0
    try clear hcz8_1
    try clear hfz10_0
    try clear hfz10_1
    try clear hfz11_0
    try clear hfz11_1
    try clear hfz14_0
    try clear hfz14_1
    try clear hfz8_0
    try clear hfz8_1
    try clear p2
    try clear p6
    obtain ⟨x5_2,x22_2,rfl,HA,HK2,HO_5,BK339,HB⟩:=hrel
    cases gk with
    | zero=>exact absurd HA.out (by simp [spec_Around.l0])
    | succ k2 =>
     have H:=HA.out
     clear HA
     simp only [spec_Around.l0] at H
     by_cases c15:x22_2<(l0_1.length:Int)
     ·rw [if_pos c15] at H
      have c15b0:decide (x22_2<(l0_1.length:Int))=true:=decide_eq_true c15
      clear c15
      by_cases c16:0≤x22_2
      ·rw [if_pos c16] at H
       have c16b0:decide (0≤x22_2)=true:=decide_eq_true c16
       clear c16
       by_cases c17:x22_2<(l0_1.length:Int)
       ·rw [if_pos c17] at H
        have c17b0:decide (x22_2<(l0_1.length:Int))=true:=decide_eq_true c17
        clear c17
        by_cases c18:((rd_T98 l0_1 x22_2).f0)=a1
        ·rw [if_pos c18] at H
         have c18b0:(((rd_T98 l0_1 x22_2).f0)==a1)=true:=beq_iff_eq.mpr c18
         have c18b1:(((rd_T98 l0_1 x22_2).f0) != a1)=false:=bne_eq_false_iff_eq.mpr c18
         clear c18
         by_cases c19:x5_2.length<17592186044416
         ·rw [if_pos c19] at H
          have LMc19:=Aside0.mk c19
          clear c19
          obtain ⟨y344,hy344⟩:∃ y_:List Int,y_=(x5_2 ++ [x22_2]):=⟨_,rfl⟩
          replace H:(spec_Around.l0 k2 a1 y344 l0_1 (l0_1.length:Int) (wrap64 (x22_2+1)))=some r:=by first|(rw [hy344];with_reducible exact H)|(have H2_:=(Option.bind_some _ _).symm.trans H;rw [hy344];with_reducible exact H2_)|(have H2_:=(Option.bind_some _ _).symm.trans H;with_reducible exact H2_)|with_reducible exact H|(rw [hy344];exact H)|exact H
          have Ny344:=Aside0.mk hy344
          clear hy344
          have H':=Aside0.mk H
          clear H
          have p342:0≤(x22_2:Int):=of_decide_eq_true (by first|(with_reducible assumption)|assumption)
          have q342:x22_2<(l0_1.length:Int):=of_decide_eq_true (by first|(with_reducible assumption)|assumption)
          obtain ⟨ad342,e342,hx342_0,hx342_1⟩:=at_T98 HR0_1.out x22_2 p342 q342
          cases e342
          replace hx342_0:=(HB.out.cell (World.block_lt_of_cell? w _ hx342_0)).trans hx342_0
          replace hx342_1:=(HB.out.cell (World.block_lt_of_cell? w _ hx342_1)).trans hx342_1
          replace p342:=eq_true p342
          replace q342:=eq_true q342
          go_wp2_with (first|((with_reducible refine gate_dst (N:=7) rfl ?_);refine box_event ?hg (N:=7) ?hd (cs:=#[.int .i64 0,.int .i64 0]) (t:=98) ?hr ?_;(case hd=>rfl);(case hg=>rfl);(case hr=>first|(go_simp;done)|(go_simp;rfl));intro gb343 hg w20 hbox hb;have n0_:=Aside0.mk (Kd.R_below (by (with_reducible repeat (first|apply Kd.R_alloc|apply Kd.R_drewN|apply Kd.R_drew));exact HO_5.out) hb);have n1_:=Aside0.mk (blk_below (g:=gb339) (o:=.cells #[.int .i64 a0_0,.slice (some ad342) l0_1.length c0_1] 31 (0,0)) (by (with_reducible repeat (first|refine blk_drewN ?_ _|refine blk_drew ?_|refine blk_alloc ?_ _));exact BK339.out) hb);have n2_:=Aside0.mk (below_step (by repeat (first|(with_reducible first|exact HB.out|apply below_alloc|apply pw_below_drewN|apply below_drew1|refine below_set ?_ GE339.out)|exact HB.out)) hb);have n3_:=Aside0.mk (hbox);have n4_:=Aside0.mk ((by rw [hg];exact (below_size (by repeat (first|(with_reducible first|exact HB.out|apply below_alloc|apply pw_below_drewN|apply below_drew1|refine below_set ?_ GE339.out)|exact HB.out))):w.heap.size≤gb343));have n5_:=Aside0.mk ((by rw [hg];exact (below_size (by repeat (first|(with_reducible first|exact HB.out|apply below_alloc|apply pw_below_drewN|apply below_drew1|refine below_set ?_ GE339.out)|exact HB.out))):w.heap.size≤gb343));have n6_:=Aside0.mk ((by rw [hg];exact Nat.ne_of_lt (blk_lt (g:=gb339) (o:=.cells #[.int .i64 a0_0,.slice (some ad342) l0_1.length c0_1] 31 (0,0)) (by (with_reducible repeat (first|refine blk_drewN ?_ _|refine blk_drew ?_|refine blk_alloc ?_ _));exact BK339.out)):gb339 ≠ gb343));have n7_:=Aside0.mk ((by rw [hg];exact Nat.ne_of_gt (blk_lt (g:=gb339) (o:=.cells #[.int .i64 a0_0,.slice (some ad342) l0_1.length c0_1] 31 (0,0)) (by (with_reducible repeat (first|refine blk_drewN ?_ _|refine blk_drew ?_|refine blk_alloc ?_ _));exact BK339.out)):gb343 ≠ gb339));clear HO_5;clear BK339;clear HB;have HO_5:=n0_;have BK339:=n1_;have HB:=n2_;have BK343:=n3_;have GW343:=n4_;have GE343:=n5_;have NB339_343:=n6_;have NB343_339:=n7_;clear n0_ n1_ n2_ n3_ n4_ n5_ n6_ n7_;clear hb hbox hg;have hnb21:=NB343_339.out;have hnc21:=NB339_343.out;have hcz22_0:w20.cell? ⟨gb343,0,none⟩=some (.int .i64 0):=(blk_cell BK343.out 0).trans rfl;have hcz22_1:w20.cell? ⟨gb343,1,none⟩=some (.int .i64 0):=(blk_cell BK343.out 1).trans rfl;have hfz22_0:=blk_frozen BK343.out 0;have hfz22_1:=blk_frozen BK343.out 1)|((with_reducible refine gate_builtin (b:=.append) (xs:=#[.tmp 37,.tmp 39]) rfl ?_);at_builtin;refine Kd.R_append (Kd.int .i64) (w0:=w) w.heap.size rfl (.tmp 37) (.tmp 39) 110 3 (.int .i64 0) 8 rfl Tryd.underlying110 info3 rfl (by decide) (by omega) u5 x5_2 x22_2 [.int .i64 x22_2] (fun _=>True) (fun _=>False) rfl (by first|(go_simp;done)|(go_simp;rfl)) ?aP (fun _ hk=>hk.elim) ?aF ?aO ?aB ?aS ?aL ?_;(case aP=>exact rfl);(case aB=>exact (by repeat (first|(with_reducible first|exact HB.out|apply below_alloc|apply pw_below_drewN|apply below_drew1|refine below_set ?_ GE339.out|refine below_set ?_ GE343.out)|exact HB.out)));(case aF=>exact (fun _ _=>trivial));(case aO=>exact (by (with_reducible repeat (first|apply Kd.R_alloc|apply Kd.R_drewN|apply Kd.R_drew));exact Kd.R_mono (Kd.R_far (p:=⟨gb343,1,none⟩) (Kd.R_far (p:=⟨gb343,0,none⟩) (Kd.R_types HO_5.out BK343.out (by decide)) (fun _ hk=>hk.2) (.int .i64 ((rd_T98 l0_1 x22_2).f0))) (fun _ hk=>hk.2) (.int .i64 ((rd_T98 l0_1 x22_2).f1))) (fun _ hk=>trivial)));(case aS=>exact (below_size (by repeat (first|(with_reducible first|exact HB.out|apply below_alloc|apply pw_below_drewN|apply below_drew1|refine below_set ?_ GE339.out|refine below_set ?_ GE343.out)|exact HB.out))));(case aL=>have:=LMc19.out;omega);intro v345 w23 ho hb hg hat;rw [← Ny344.out] at ho;have n0_:=Aside0.mk (blk_grown (g:=gb339) (o:=.cells #[.int .i64 a0_0,.slice (some ad342) l0_1.length c0_1] 31 (0,0)) (by (with_reducible repeat (first|refine blk_drewN ?_ _|refine blk_drew ?_|refine blk_alloc ?_ _));refine blk_far ?_ NB339_343.out _;(with_reducible repeat (first|refine blk_drewN ?_ _|refine blk_drew ?_|refine blk_alloc ?_ _));refine blk_far ?_ NB339_343.out _;(with_reducible repeat (first|refine blk_drewN ?_ _|refine blk_drew ?_|refine blk_alloc ?_ _));exact BK339.out) hg (Kd.R_ne HO_5.out BK339.out (by decide)));have n1_:=Aside0.mk (blk_grown (g:=gb343) (o:=.cells #[.int .i64 ((rd_T98 l0_1 x22_2).f0),.int .i64 ((rd_T98 l0_1 x22_2).f1)] 98 (0,0)) (by (with_reducible repeat (first|refine blk_drewN ?_ _|refine blk_drew ?_|refine blk_alloc ?_ _));refine blk_put (cs:=#[.int .i64 ((rd_T98 l0_1 x22_2).f0),.int .i64 0]) ?_ 1 _ rfl;(with_reducible repeat (first|refine blk_drewN ?_ _|refine blk_drew ?_|refine blk_alloc ?_ _));refine blk_put (cs:=#[.int .i64 0,.int .i64 0]) ?_ 0 _ rfl;(with_reducible repeat (first|refine blk_drewN ?_ _|refine blk_drew ?_|refine blk_alloc ?_ _));exact BK343.out) hg (Kd.R_ne HO_5.out BK343.out (by decide)));have n2_:=Aside0.mk (hb);have n3_:=Aside0.mk (ho);clear BK339;clear BK343;clear HB;clear HO_5;have BK339:=n0_;have BK343:=n1_;have HB:=n2_;have HO346:=n3_;clear n0_ n1_ n2_ n3_;clear ho hb hg hat))
          go_roundg k2
          case measure=>have:=HJ2.out;have:=HK2.out;omega
          case rel=>exact ⟨(y344),(wrap64 (x22_2+1)),(by first|rfl|(simp;done)|(simp [*];done)),H',⟨by have:=HJ2.out;have:=HK2.out;omega⟩,⟨by (with_reducible repeat (first|apply Kd.R_alloc|apply Kd.R_drewN|apply Kd.R_drew));exact HO346.out⟩,⟨by (with_reducible repeat (first|refine blk_drewN ?_ _|refine blk_drew ?_|refine blk_alloc ?_ _));exact BK339.out⟩,⟨by repeat (first|(with_reducible first|exact HB.out|apply below_alloc|apply pw_below_drewN|apply below_drew1|refine below_set ?_ GE339.out|refine below_set ?_ GE343.out)|exact HB.out)⟩⟩
         rw [if_neg c19] at H
         exact absurd H (by simp)
        rw [if_neg c18] at H
        have c18b0:(((rd_T98 l0_1 x22_2).f0)==a1)=false:=beq_eq_false_iff_ne.mpr c18
        have c18b1:(((rd_T98 l0_1 x22_2).f0) != a1)=true:=bne_iff_ne.mpr c18
        by_cases c24:((rd_T98 l0_1 x22_2).f1)=a1
        ·rw [if_pos c24] at H
         have c24b0:(((rd_T98 l0_1 x22_2).f1)==a1)=true:=beq_iff_eq.mpr c24
         have c24b1:(((rd_T98 l0_1 x22_2).f1) != a1)=false:=bne_eq_false_iff_eq.mpr c24
         clear c24
         by_cases c25:x5_2.length<17592186044416
         ·rw [if_pos c25] at H
          have LMc25:=Aside0.mk c25
          clear c25
          obtain ⟨y347,hy347⟩:∃ y_:List Int,y_=(x5_2 ++ [x22_2]):=⟨_,rfl⟩
          replace H:(spec_Around.l0 k2 a1 y347 l0_1 (l0_1.length:Int) (wrap64 (x22_2+1)))=some r:=by first|(rw [hy347];with_reducible exact H)|(have H2_:=(Option.bind_some _ _).symm.trans H;rw [hy347];with_reducible exact H2_)|(have H2_:=(Option.bind_some _ _).symm.trans H;with_reducible exact H2_)|with_reducible exact H|(rw [hy347];exact H)|exact H
          have Ny347:=Aside0.mk hy347
          clear hy347
          have H':=Aside0.mk H
          clear H
          have p342:0≤(x22_2:Int):=of_decide_eq_true (by first|(with_reducible assumption)|assumption)
          have q342:x22_2<(l0_1.length:Int):=of_decide_eq_true (by first|(with_reducible assumption)|assumption)
          obtain ⟨ad342,e342,hx342_0,hx342_1⟩:=at_T98 HR0_1.out x22_2 p342 q342
          cases e342
          replace hx342_0:=(HB.out.cell (World.block_lt_of_cell? w _ hx342_0)).trans hx342_0
          replace hx342_1:=(HB.out.cell (World.block_lt_of_cell? w _ hx342_1)).trans hx342_1
          replace p342:=eq_true p342
          replace q342:=eq_true q342
          go_wp2_with (first|((with_reducible refine gate_dst (N:=7) rfl ?_);refine box_event ?hg (N:=7) ?hd (cs:=#[.int .i64 0,.int .i64 0]) (t:=98) ?hr ?_;(case hd=>rfl);(case hg=>rfl);(case hr=>first|(go_simp;done)|(go_simp;rfl));intro gb343 hg w26 hbox hb;have n0_:=Aside0.mk (Kd.R_below (by (with_reducible repeat (first|apply Kd.R_alloc|apply Kd.R_drewN|apply Kd.R_drew));exact HO_5.out) hb);have n1_:=Aside0.mk (blk_below (g:=gb339) (o:=.cells #[.int .i64 a0_0,.slice (some ad342) l0_1.length c0_1] 31 (0,0)) (by (with_reducible repeat (first|refine blk_drewN ?_ _|refine blk_drew ?_|refine blk_alloc ?_ _));exact BK339.out) hb);have n2_:=Aside0.mk (below_step (by repeat (first|(with_reducible first|exact HB.out|apply below_alloc|apply pw_below_drewN|apply below_drew1|refine below_set ?_ GE339.out)|exact HB.out)) hb);have n3_:=Aside0.mk (hbox);have n4_:=Aside0.mk ((by rw [hg];exact (below_size (by repeat (first|(with_reducible first|exact HB.out|apply below_alloc|apply pw_below_drewN|apply below_drew1|refine below_set ?_ GE339.out)|exact HB.out))):w.heap.size≤gb343));have n5_:=Aside0.mk ((by rw [hg];exact (below_size (by repeat (first|(with_reducible first|exact HB.out|apply below_alloc|apply pw_below_drewN|apply below_drew1|refine below_set ?_ GE339.out)|exact HB.out))):w.heap.size≤gb343));have n6_:=Aside0.mk ((by rw [hg];exact Nat.ne_of_lt (blk_lt (g:=gb339) (o:=.cells #[.int .i64 a0_0,.slice (some ad342) l0_1.length c0_1] 31 (0,0)) (by (with_reducible repeat (first|refine blk_drewN ?_ _|refine blk_drew ?_|refine blk_alloc ?_ _));exact BK339.out)):gb339 ≠ gb343));have n7_:=Aside0.mk ((by rw [hg];exact Nat.ne_of_gt (blk_lt (g:=gb339) (o:=.cells #[.int .i64 a0_0,.slice (some ad342) l0_1.length c0_1] 31 (0,0)) (by (with_reducible repeat (first|refine blk_drewN ?_ _|refine blk_drew ?_|refine blk_alloc ?_ _));exact BK339.out)):gb343 ≠ gb339));clear HO_5;clear BK339;clear HB;have HO_5:=n0_;have BK339:=n1_;have HB:=n2_;have BK343:=n3_;have GW343:=n4_;have GE343:=n5_;have NB339_343:=n6_;have NB343_339:=n7_;clear n0_ n1_ n2_ n3_ n4_ n5_ n6_ n7_;clear hb hbox hg;have hnb27:=NB343_339.out;have hnc27:=NB339_343.out;have hcz28_0:w26.cell? ⟨gb343,0,none⟩=some (.int .i64 0):=(blk_cell BK343.out 0).trans rfl;have hcz28_1:w26.cell? ⟨gb343,1,none⟩=some (.int .i64 0):=(blk_cell BK343.out 1).trans rfl;have hfz28_0:=blk_frozen BK343.out 0;have hfz28_1:=blk_frozen BK343.out 1)|((with_reducible refine gate_builtin (b:=.append) (xs:=#[.tmp 37,.tmp 39]) rfl ?_);at_builtin;refine Kd.R_append (Kd.int .i64) (w0:=w) w.heap.size rfl (.tmp 37) (.tmp 39) 110 3 (.int .i64 0) 8 rfl Tryd.underlying110 info3 rfl (by decide) (by omega) u5 x5_2 x22_2 [.int .i64 x22_2] (fun _=>True) (fun _=>False) rfl (by first|(go_simp;done)|(go_simp;rfl)) ?aP (fun _ hk=>hk.elim) ?aF ?aO ?aB ?aS ?aL ?_;(case aP=>exact rfl);(case aB=>exact (by repeat (first|(with_reducible first|exact HB.out|apply below_alloc|apply pw_below_drewN|apply below_drew1|refine below_set ?_ GE339.out|refine below_set ?_ GE343.out)|exact HB.out)));(case aF=>exact (fun _ _=>trivial));(case aO=>exact (by (with_reducible repeat (first|apply Kd.R_alloc|apply Kd.R_drewN|apply Kd.R_drew));exact Kd.R_mono (Kd.R_far (p:=⟨gb343,1,none⟩) (Kd.R_far (p:=⟨gb343,0,none⟩) (Kd.R_types HO_5.out BK343.out (by decide)) (fun _ hk=>hk.2) (.int .i64 ((rd_T98 l0_1 x22_2).f0))) (fun _ hk=>hk.2) (.int .i64 ((rd_T98 l0_1 x22_2).f1))) (fun _ hk=>trivial)));(case aS=>exact (below_size (by repeat (first|(with_reducible first|exact HB.out|apply below_alloc|apply pw_below_drewN|apply below_drew1|refine below_set ?_ GE339.out|refine below_set ?_ GE343.out)|exact HB.out))));(case aL=>have:=LMc25.out;omega);intro v348 w29 ho hb hg hat;rw [← Ny347.out] at ho;have n0_:=Aside0.mk (blk_grown (g:=gb339) (o:=.cells #[.int .i64 a0_0,.slice (some ad342) l0_1.length c0_1] 31 (0,0)) (by (with_reducible repeat (first|refine blk_drewN ?_ _|refine blk_drew ?_|refine blk_alloc ?_ _));refine blk_far ?_ NB339_343.out _;(with_reducible repeat (first|refine blk_drewN ?_ _|refine blk_drew ?_|refine blk_alloc ?_ _));refine blk_far ?_ NB339_343.out _;(with_reducible repeat (first|refine blk_drewN ?_ _|refine blk_drew ?_|refine blk_alloc ?_ _));exact BK339.out) hg (Kd.R_ne HO_5.out BK339.out (by decide)));have n1_:=Aside0.mk (blk_grown (g:=gb343) (o:=.cells #[.int .i64 ((rd_T98 l0_1 x22_2).f0),.int .i64 ((rd_T98 l0_1 x22_2).f1)] 98 (0,0)) (by (with_reducible repeat (first|refine blk_drewN ?_ _|refine blk_drew ?_|refine blk_alloc ?_ _));refine blk_put (cs:=#[.int .i64 ((rd_T98 l0_1 x22_2).f0),.int .i64 0]) ?_ 1 _ rfl;(with_reducible repeat (first|refine blk_drewN ?_ _|refine blk_drew ?_|refine blk_alloc ?_ _));refine blk_put (cs:=#[.int .i64 0,.int .i64 0]) ?_ 0 _ rfl;(with_reducible repeat (first|refine blk_drewN ?_ _|refine blk_drew ?_|refine blk_alloc ?_ _));exact BK343.out) hg (Kd.R_ne HO_5.out BK343.out (by decide)));have n2_:=Aside0.mk (hb);have n3_:=Aside0.mk (ho);clear BK339;clear BK343;clear HB;clear HO_5;have BK339:=n0_;have BK343:=n1_;have HB:=n2_;have HO349:=n3_;clear n0_ n1_ n2_ n3_;clear ho hb hg hat))
          go_roundg k2
          case measure=>have:=HJ2.out;have:=HK2.out;omega
          case rel=>exact ⟨(y347),(wrap64 (x22_2+1)),(by first|rfl|(simp;done)|(simp [*];done)),H',⟨by have:=HJ2.out;have:=HK2.out;omega⟩,⟨by (with_reducible repeat (first|apply Kd.R_alloc|apply Kd.R_drewN|apply Kd.R_drew));exact HO349.out⟩,⟨by (with_reducible repeat (first|refine blk_drewN ?_ _|refine blk_drew ?_|refine blk_alloc ?_ _));exact BK339.out⟩,⟨by repeat (first|(with_reducible first|exact HB.out|apply below_alloc|apply pw_below_drewN|apply below_drew1|refine below_set ?_ GE339.out|refine below_set ?_ GE343.out)|exact HB.out)⟩⟩
         rw [if_neg c25] at H
         exact absurd H (by simp)
        rw [if_neg c24] at H
        have c24b0:(((rd_T98 l0_1 x22_2).f1)==a1)=false:=beq_eq_false_iff_ne.mpr c24
        have c24b1:(((rd_T98 l0_1 x22_2).f1) != a1)=true:=bne_iff_ne.mpr c24
        have H':=Aside0.mk H
        clear H
        have p342:0≤(x22_2:Int):=of_decide_eq_true (by first|(with_reducible assumption)|assumption)
        have q342:x22_2<(l0_1.length:Int):=of_decide_eq_true (by first|(with_reducible assumption)|assumption)
        obtain ⟨ad342,e342,hx342_0,hx342_1⟩:=at_T98 HR0_1.out x22_2 p342 q342
        cases e342
        replace hx342_0:=(HB.out.cell (World.block_lt_of_cell? w _ hx342_0)).trans hx342_0
        replace hx342_1:=(HB.out.cell (World.block_lt_of_cell? w _ hx342_1)).trans hx342_1
        replace p342:=eq_true p342
        replace q342:=eq_true q342
        go_wp2_with (first|((with_reducible refine gate_dst (N:=7) rfl ?_);refine box_event ?hg (N:=7) ?hd (cs:=#[.int .i64 0,.int .i64 0]) (t:=98) ?hr ?_;(case hd=>rfl);(case hg=>rfl);(case hr=>first|(go_simp;done)|(go_simp;rfl));intro gb343 hg w30 hbox hb;have n0_:=Aside0.mk (Kd.R_below (by (with_reducible repeat (first|apply Kd.R_alloc|apply Kd.R_drewN|apply Kd.R_drew));exact HO_5.out) hb);have n1_:=Aside0.mk (blk_below (g:=gb339) (o:=.cells #[.int .i64 a0_0,.slice (some ad342) l0_1.length c0_1] 31 (0,0)) (by (with_reducible repeat (first|refine blk_drewN ?_ _|refine blk_drew ?_|refine blk_alloc ?_ _));exact BK339.out) hb);have n2_:=Aside0.mk (below_step (by repeat (first|(with_reducible first|exact HB.out|apply below_alloc|apply pw_below_drewN|apply below_drew1|refine below_set ?_ GE339.out)|exact HB.out)) hb);have n3_:=Aside0.mk (hbox);have n4_:=Aside0.mk ((by rw [hg];exact (below_size (by repeat (first|(with_reducible first|exact HB.out|apply below_alloc|apply pw_below_drewN|apply below_drew1|refine below_set ?_ GE339.out)|exact HB.out))):w.heap.size≤gb343));have n5_:=Aside0.mk ((by rw [hg];exact (below_size (by repeat (first|(with_reducible first|exact HB.out|apply below_alloc|apply pw_below_drewN|apply below_drew1|refine below_set ?_ GE339.out)|exact HB.out))):w.heap.size≤gb343));have n6_:=Aside0.mk ((by rw [hg];exact Nat.ne_of_lt (blk_lt (g:=gb339) (o:=.cells #[.int .i64 a0_0,.slice (some ad342) l0_1.length c0_1] 31 (0,0)) (by (with_reducible repeat (first|refine blk_drewN ?_ _|refine blk_drew ?_|refine blk_alloc ?_ _));exact BK339.out)):gb339 ≠ gb343));have n7_:=Aside0.mk ((by rw [hg];exact Nat.ne_of_gt (blk_lt (g:=gb339) (o:=.cells #[.int .i64 a0_0,.slice (some ad342) l0_1.length c0_1] 31 (0,0)) (by (with_reducible repeat (first|refine blk_drewN ?_ _|refine blk_drew ?_|refine blk_alloc ?_ _));exact BK339.out)):gb343 ≠ gb339));clear HO_5;clear BK339;clear HB;have HO_5:=n0_;have BK339:=n1_;have HB:=n2_;have BK343:=n3_;have GW343:=n4_;have GE343:=n5_;have NB339_343:=n6_;have NB343_339:=n7_;clear n0_ n1_ n2_ n3_ n4_ n5_ n6_ n7_;clear hb hbox hg;have hnb31:=NB343_339.out;have hnc31:=NB339_343.out;have hcz32_0:w30.cell? ⟨gb343,0,none⟩=some (.int .i64 0):=(blk_cell BK343.out 0).trans rfl;have hcz32_1:w30.cell? ⟨gb343,1,none⟩=some (.int .i64 0):=(blk_cell BK343.out 1).trans rfl;have hfz32_0:=blk_frozen BK343.out 0;have hfz32_1:=blk_frozen BK343.out 1))
        go_roundg k2
        case measure=>have:=HJ2.out;have:=HK2.out;omega
        case rel=>exact ⟨(x5_2),(wrap64 (x22_2+1)),(by first|rfl|(simp;done)|(simp [*];done)),H',⟨by have:=HJ2.out;have:=HK2.out;omega⟩,⟨by (with_reducible repeat (first|apply Kd.R_alloc|apply Kd.R_drewN|apply Kd.R_drew));exact Kd.R_mono (Kd.R_far (p:=⟨gb343,1,none⟩) (Kd.R_far (p:=⟨gb343,0,none⟩) (Kd.R_types HO_5.out BK343.out (by decide)) (fun _ hk=>hk.2) (.int .i64 ((rd_T98 l0_1 x22_2).f0))) (fun _ hk=>hk.2) (.int .i64 ((rd_T98 l0_1 x22_2).f1))) (fun _ hk=>trivial)⟩,⟨by (with_reducible repeat (first|refine blk_drewN ?_ _|refine blk_drew ?_|refine blk_alloc ?_ _));refine blk_far ?_ NB339_343.out _;(with_reducible repeat (first|refine blk_drewN ?_ _|refine blk_drew ?_|refine blk_alloc ?_ _));refine blk_far ?_ NB339_343.out _;(with_reducible repeat (first|refine blk_drewN ?_ _|refine blk_drew ?_|refine blk_alloc ?_ _));exact BK339.out⟩,⟨by repeat (first|(with_reducible first|exact HB.out|apply below_alloc|apply pw_below_drewN|apply below_drew1|refine below_set ?_ GE339.out|refine below_set ?_ GE343.out)|exact HB.out)⟩⟩
       rw [if_neg c17] at H
       exact absurd H (by simp)
      rw [if_neg c16] at H
      exact absurd H (by simp)
     rw [if_neg c15] at H
     have c15b0:decide (x22_2<(l0_1.length:Int))=false:=decide_eq_false c15
     clear c15
     obtain rfl:=Option.some.inj H
     go_wp2
     go_ret
     exact ⟨_,by first|rfl|(simp [errW_none,errW_some] <;> rfl)|(simp [*,errW_none,errW_some] <;> rfl),by (with_reducible repeat (first|apply Kd.R_alloc|apply Kd.R_drewN|apply Kd.R_drew));exact HO_5.out,by repeat (first|(with_reducible first|exact HB.out|apply below_alloc|apply pw_below_drewN|apply below_drew1|refine below_set ?_ GE339.out)|exact HB.out)⟩
end Go.Proofs.YtpdnabhpkdchjaaDoor.P
namespace Go.Proofs.YtpdnabhpkdchjaaDoor.P
open Go.RowKit Go.Proofs.YtpdnabhpkdchjaaDoorW.PrintWords Go.Proofs.YtpdnabhpkdchjaaDoorW.PrintLast
set_option linter.unusedVariables false
set_option linter.unusedSimpArgs false
def hits (s:Int) (x:S98):Bool:=decide (x.f0=s) || decide (x.f1=s)
def hitsTo (l:List S98) (s:Int) (i:Nat):List Int:=((List.range i).filter fun j:Nat=>hits s (rd_T98 l (j:Int))).map Int.ofNat
def around (n:Int) (l:List S98) (s:Int):List Int:=if layoutOk n l=0∧0≤s∧s<n then hitsTo l s l.length else []
theorem hitsTo_succ (l:List S98) (s:Int) (i:Nat):hitsTo l s (i+1)=if hits s (rd_T98 l (i:Int))=true then hitsTo l s i ++ [(i:Int)] else hitsTo l s i:=by
 unfold hitsTo
 rw [List.range_succ,List.filter_append,List.map_append]
 by_cases h:hits s (rd_T98 l (i:Int))=true
 ·rw [if_pos h];simp [List.filter,h]
 rw [if_neg h];simp [List.filter,h]
theorem hitsTo_length (l:List S98) (s:Int) (i:Nat):(hitsTo l s i).length≤i:=by
 unfold hitsTo
 rw [List.length_map]
 exact Nat.le_trans (List.length_filter_le _ _) (by simp)
theorem specAround_l0 (l:List S98) (s:Int) (hl:l.length≤120) (d:Nat):∀ (i:Nat),i+d=l.length→Ev (fun k=>spec_Around.l0 k s (hitsTo l s i) l (l.length:Int) i) (hitsTo l s l.length):=by
 induction d with
 | zero=>intro i hi;refine Ev.step1 fun k=>?_;simp only [spec_Around.l0];rw [if_neg (by omega),show i=l.length by omega]
 | succ d ih =>
  intro i hi
  have hlen:=hitsTo_length l s i
  refine Ev.step (fun k=>?_) (ih (i+1) (by omega))
  simp only [spec_Around.l0]
  rw [if_pos (by omega),if_pos (by omega),if_pos (by omega),wrap_succ (by omega),hitsTo_succ]
  by_cases h0:(rd_T98 l (i:Int)).f0=s
  ·rw [if_pos h0,if_pos (by omega),if_pos (show hits s _=true by simp [hits,h0])]
  by_cases h1:(rd_T98 l (i:Int)).f1=s
  ·rw [if_neg h0,if_pos h1,if_pos (by omega),if_pos (show hits s _=true by simp [hits,h1])]
  rw [if_neg h0,if_neg h1,if_neg (show ¬ (hits s _=true) by simp [hits,h0,h1])]
theorem specAround_ev (n:Int) (l:List S98) (s:Int):Ev (fun k=>spec_Around.f k n l s) (around n l s):=by
 unfold spec_Around.f
 refine Ev.bind (specLayoutOk_ev n l) ?_
 by_cases hl:layoutOk n l=0
 ·obtain ⟨hn1,hn2,hc⟩:=lay_n hl
  refine Ev.ite_pos hl (Ev.call (l1in_eq _ _ _) ?_)
  rw [wrap_id (by omega) (by omega),dec_le_pred]
  by_cases hs:0≤s∧s<n
  ·rw [around,if_pos ⟨hl,hs.1,hs.2⟩]
   refine Ev.step (fun k=>?_) (specAround_l0 l s hc l.length 0 (by omega))
   simp only [spec_Around.j0]
   rw [if_neg (by simp [hs.1,hs.2])]
   rfl
  refine Ev.step1 fun k=>?_
  simp only [spec_Around.j0]
  rw [if_pos (by simp only [Bool.not_eq_true',Bool.and_eq_false_iff,decide_eq_false_iff_not];omega),around,if_neg (fun h=>hs h.2)]
 refine Ev.ite_neg hl (Ev.step1 fun k=>?_)
 simp only [spec_Around.j0,if_true]
 rw [around,if_neg (fun h=>hl h.1)]
end Go.Proofs.YtpdnabhpkdchjaaDoor.P
namespace Go.Proofs.YtpdnabhpkdchjaaDoor.P
open Go.RowKit Go.Proofs.YtpdnabhpkdchjaaDoorW.PrintWords Go.Proofs.YtpdnabhpkdchjaaDoorW.PrintLast Go.Proofs.YtpdnabhpkdchjaaDoorW.PrintMore
attribute [local go_sem] max2_int min2_int max_two min_two max_three min_three max_four min_four
set_option linter.unusedVariables false
set_option linter.unusedSimpArgs false
def impl_dead.l0:Nat→Int→List (S98)→Int→Int→Bool→List (S87)→List Bool→Option (Bool)
 | 0,_,_,_,_,_,_,_=>none
 | k+1,x2,x10,x11,x12,x399000,x399001,x399002=>if x12<x11 then (if 0≤x12 then (if x12<(x10.length:Int) then (if x12<(x399002.length:Int) then (if rdOf false x399002 x12=true then (if ((rd_T98 x10 x12).f0)=x2 then (some true) else (if ((rd_T98 x10 x12).f1)=x2 then (some true) else (impl_dead.l0 k x2 x10 x11 (wrap64 (x12+1)) x399000 x399001 x399002))) else (impl_dead.l0 k x2 x10 x11 (wrap64 (x12+1)) x399000 x399001 x399002)) else (none)) else (none)) else (none)) else (some false)
def impl_dead.f (k:Nat) (a0_0:Int) (l0_1:List (S98)) (a1_0:Bool) (l1_1:List (S87)) (l1_2:List Bool) (a2:Int):Option (Bool):=impl_dead.l0 k a2 l0_1 (l0_1.length:Int) 0 a1_0 l1_1 l1_2
set_option maxHeartbeats 8000000 in
set_option maxRecDepth 100000 in
theorem impl_dead.calls (k:Nat) (a0_0:Int) (A0_1:Option Addr) (c0_1:Nat) (l0_1:List (S98)) (a1_0:Bool) (A1_1:Option Addr) (c1_1:Nat) (l1_1:List (S87)) (A1_2:Option Addr) (c1_2:Nat) (l1_2:List Bool) (a2:Int) (r:Bool) (w:World) (hr0_1:Kd.C k98 w A0_1 l0_1.length l0_1) (hc0_1:l0_1.length≤c0_1) (hr1_1:Kd.C k87 w A1_1 l1_1.length l1_1) (hc1_1:l1_1.length≤c1_1) (hr1_2:Kd.C Kd.bool w A1_2 l1_2.length l1_2) (hc1_2:l1_2.length≤c1_2) (h:impl_dead.f k a0_0 l0_1 a1_0 l1_1 l1_2 a2=some r) :
  Calls Tryd.prog 76 #[.agg #[.int .i64 a0_0,.slice A0_1 l0_1.length c0_1],.agg #[.bool a1_0,.slice A1_1 l1_1.length c1_1,.slice A1_2 l1_2.length c1_2],.int .i64 a2] w fun e w'=>e=.returned (.bool r)∧Below w.heap.size w w':=by
 have hu31:=Tryd.underlying31
 have hu83:=Tryd.underlying83
 have hu98:=Tryd.underlying98
 have HR0_1:=Aside0.mk hr0_1
 have HC0_1:=Aside0.mk hc0_1
 clear hr0_1 hc0_1
 have HR1_1:=Aside0.mk hr1_1
 have HC1_1:=Aside0.mk hc1_1
 clear hr1_1 hc1_1
 have HR1_2:=Aside0.mk hr1_2
 have HC1_2:=Aside0.mk hc1_2
 clear hr1_2 hc1_2
 have HB:=Aside0.mk (Below.refl w.heap.size w)
 have H:(impl_dead.l0 k a2 l0_1 (l0_1.length:Int) 0 a1_0 l1_1 l1_2)=some r:=h
 clear h
 have H':=Aside0.mk H
 clear H
 go_enter Tryd.func76,Tryd.ntmps76
 go_wp2_with (first|((with_reducible refine gate_dst (N:=3) rfl ?_);refine box_event ?hg (N:=3) ?hd (cs:=#[.int .i64 a0_0,.slice A0_1 l0_1.length c0_1]) (t:=31) ?hr ?_;(case hd=>rfl);(case hg=>rfl);(case hr=>first|(go_simp;done)|(go_simp;rfl));intro gb397 hg w4 hbox hb;have n0_:=Aside0.mk (below_step (by repeat (first|(with_reducible first|exact HB.out|apply below_alloc|apply pw_below_drewN|apply below_drew1)|exact HB.out)) hb);have n1_:=Aside0.mk (hbox);have n2_:=Aside0.mk ((by rw [hg];exact (below_size (by repeat (first|(with_reducible first|exact HB.out|apply below_alloc|apply pw_below_drewN|apply below_drew1)|exact HB.out))):w.heap.size≤gb397));have n3_:=Aside0.mk ((by rw [hg];exact (below_size (by repeat (first|(with_reducible first|exact HB.out|apply below_alloc|apply pw_below_drewN|apply below_drew1)|exact HB.out))):w.heap.size≤gb397));clear HB;have HB:=n0_;have BK397:=n1_;have GW397:=n2_;have GE397:=n3_;clear n0_ n1_ n2_ n3_;clear hb hbox hg)|((with_reducible refine gate_dst (N:=4) rfl ?_);refine box_event ?hg (N:=4) ?hd (cs:=#[.bool a1_0,.slice A1_1 l1_1.length c1_1,.slice A1_2 l1_2.length c1_2]) (t:=83) ?hr ?_;(case hd=>rfl);(case hg=>rfl);(case hr=>first|(go_simp;done)|(go_simp;rfl));intro gb398 hg w5 hbox hb;have n0_:=Aside0.mk (blk_below (g:=gb397) (o:=.cells #[.int .i64 a0_0,.slice A0_1 l0_1.length c0_1] 31 (0,0)) (by (with_reducible repeat (first|refine blk_drewN ?_ _|refine blk_drew ?_|refine blk_alloc ?_ _));exact BK397.out) hb);have n1_:=Aside0.mk (below_step (by repeat (first|(with_reducible first|exact HB.out|apply below_alloc|apply pw_below_drewN|apply below_drew1|refine below_set ?_ GE397.out)|exact HB.out)) hb);have n2_:=Aside0.mk (hbox);have n3_:=Aside0.mk ((by rw [hg];exact (below_size (by repeat (first|(with_reducible first|exact HB.out|apply below_alloc|apply pw_below_drewN|apply below_drew1|refine below_set ?_ GE397.out)|exact HB.out))):w.heap.size≤gb398));have n4_:=Aside0.mk ((by rw [hg];exact (below_size (by repeat (first|(with_reducible first|exact HB.out|apply below_alloc|apply pw_below_drewN|apply below_drew1|refine below_set ?_ GE397.out)|exact HB.out))):w.heap.size≤gb398));have n5_:=Aside0.mk ((by rw [hg];exact Nat.ne_of_lt (blk_lt (g:=gb397) (o:=.cells #[.int .i64 a0_0,.slice A0_1 l0_1.length c0_1] 31 (0,0)) (by (with_reducible repeat (first|refine blk_drewN ?_ _|refine blk_drew ?_|refine blk_alloc ?_ _));exact BK397.out)):gb397 ≠ gb398));have n6_:=Aside0.mk ((by rw [hg];exact Nat.ne_of_gt (blk_lt (g:=gb397) (o:=.cells #[.int .i64 a0_0,.slice A0_1 l0_1.length c0_1] 31 (0,0)) (by (with_reducible repeat (first|refine blk_drewN ?_ _|refine blk_drew ?_|refine blk_alloc ?_ _));exact BK397.out)):gb398 ≠ gb397));clear BK397;clear HB;have BK397:=n0_;have HB:=n1_;have BK398:=n2_;have GW398:=n3_;have GE398:=n4_;have NB397_398:=n5_;have NB398_397:=n6_;clear n0_ n1_ n2_ n3_ n4_ n5_ n6_;clear hb hbox hg;have hnb6:=NB397_398.out;have hnc6:=NB398_397.out;have hcz7_0:w5.cell? ⟨gb397,0,none⟩=some (.int .i64 a0_0):=(blk_cell BK397.out 0).trans rfl;have hcz7_1:w5.cell? ⟨gb397,1,none⟩=some (.slice A0_1 l0_1.length c0_1):=(blk_cell BK397.out 1).trans rfl;have hfz7_0:=blk_frozen BK397.out 0;have hfz7_1:=blk_frozen BK397.out 1))
 go_loopg [12] k (fun kq v12 w'=>∃ (x12_1:Int),v12=.int .i64 x12_1∧Aside0 (impl_dead.l0 kq a2 l0_1 (l0_1.length:Int) x12_1 a1_0 l1_1 l1_2=some r)∧Aside0 (kq≤k)∧Aside0 (w'.heap[gb397]?=some (.cells #[.int .i64 a0_0,(.slice A0_1 l0_1.length c0_1)] 31 (0,0)))∧Aside0 (w'.heap[gb398]?=some (.cells #[.bool a1_0,(.slice A1_1 l1_1.length c1_1),(.slice A1_2 l1_2.length c1_2)] 83 (0,0)))∧Aside0 (Below w.heap.size w w'))
 case atStart=>exact ⟨(0),(by first|rfl|(simp;done)|(simp [*];done)),H',⟨Nat.le_refl _⟩,⟨by (with_reducible repeat (first|refine blk_drewN ?_ _|refine blk_drew ?_|refine blk_alloc ?_ _));exact BK397.out⟩,⟨by (with_reducible repeat (first|refine blk_drewN ?_ _|refine blk_drew ?_|refine blk_alloc ?_ _));exact BK398.out⟩,⟨by repeat (first|(with_reducible first|exact HB.out|apply below_alloc|apply pw_below_drewN|apply below_drew1|refine below_set ?_ GE397.out|refine below_set ?_ GE398.out)|exact HB.out)⟩⟩
 case round =>
  clear H'
  try clear c1
  try clear p2
  try clear c6
  try clear c7
  try clear hcz7_0
  try clear hcz7_1
  try clear hfz7_0
  try clear hfz7_1
  obtain ⟨x12_1,rfl,HA,HK1,BK397,BK398,HB⟩:=hrel
  cases gk with
  | zero=>exact absurd HA.out (by simp [impl_dead.l0])
  | succ k1 =>
   have H:=HA.out
   clear HA
   simp only [impl_dead.l0] at H
   by_cases c8:x12_1<(l0_1.length:Int)
   ·rw [if_pos c8] at H
    have c8b0:decide (x12_1<(l0_1.length:Int))=true:=decide_eq_true c8
    clear c8
    by_cases c9:0≤x12_1
    ·rw [if_pos c9] at H
     have c9b0:decide (0≤x12_1)=true:=decide_eq_true c9
     clear c9
     by_cases c10:x12_1<(l0_1.length:Int)
     ·rw [if_pos c10] at H
      have c10b0:decide (x12_1<(l0_1.length:Int))=true:=decide_eq_true c10
      clear c10
      by_cases c11:x12_1<(l1_2.length:Int)
      ·rw [if_pos c11] at H
       have c11b0:decide (x12_1<(l1_2.length:Int))=true:=decide_eq_true c11
       clear c11
       obtain ⟨bq12,hbq12⟩:∃ b_:Bool,b_=(rdOf false l1_2 x12_1):=⟨_,rfl⟩
       replace H:(if bq12=true then (if ((rd_T98 l0_1 x12_1).f0)=a2 then (some true) else (if ((rd_T98 l0_1 x12_1).f1)=a2 then (some true) else (impl_dead.l0 k1 a2 l0_1 (l0_1.length:Int) (wrap64 (x12_1+1)) a1_0 l1_1 l1_2))) else (impl_dead.l0 k1 a2 l0_1 (l0_1.length:Int) (wrap64 (x12_1+1)) a1_0 l1_1 l1_2))=some r:=by rw [← hbq12] at H;exact H
       have Nbq12:=Aside0.mk hbq12
       clear hbq12
       by_cases c13:bq12=true
       ·subst c13
        have H1:(if ((rd_T98 l0_1 x12_1).f0)=a2 then (some true) else (if ((rd_T98 l0_1 x12_1).f1)=a2 then (some true) else (impl_dead.l0 k1 a2 l0_1 (l0_1.length:Int) (wrap64 (x12_1+1)) a1_0 l1_1 l1_2)))=some r:=by rw [if_pos rfl] at H;exact H
        clear H
        have H:=H1
        clear H1
        by_cases c14:((rd_T98 l0_1 x12_1).f0)=a2
        ·rw [if_pos c14] at H
         have c14b0:(((rd_T98 l0_1 x12_1).f0)==a2)=true:=beq_iff_eq.mpr c14
         have c14b1:(((rd_T98 l0_1 x12_1).f0) != a2)=false:=bne_eq_false_iff_eq.mpr c14
         clear c14
         obtain rfl:=Option.some.inj H
         have p399:0≤(x12_1:Int):=of_decide_eq_true (by first|(with_reducible assumption)|assumption)
         have q399:x12_1<(l0_1.length:Int):=of_decide_eq_true (by first|(with_reducible assumption)|assumption)
         obtain ⟨ad399,e399,hx399_0,hx399_1⟩:=at_T98 HR0_1.out x12_1 p399 q399
         cases e399
         replace hx399_0:=(HB.out.cell (World.block_lt_of_cell? w _ hx399_0)).trans hx399_0
         replace hx399_1:=(HB.out.cell (World.block_lt_of_cell? w _ hx399_1)).trans hx399_1
         replace p399:=eq_true p399
         replace q399:=eq_true q399
         go_wp2_with (first|((with_reducible refine gate_dst (N:=8) rfl ?_);refine box_event ?hg (N:=8) ?hd (cs:=#[.int .i64 0,.int .i64 0]) (t:=98) ?hr ?_;(case hd=>rfl);(case hg=>rfl);(case hr=>first|(go_simp;done)|(go_simp;rfl));intro gb400 hg w15 hbox hb;have n0_:=Aside0.mk (blk_below (g:=gb397) (o:=.cells #[.int .i64 a0_0,.slice (some ad399) l0_1.length c0_1] 31 (0,0)) (by (with_reducible repeat (first|refine blk_drewN ?_ _|refine blk_drew ?_|refine blk_alloc ?_ _));exact BK397.out) hb);have n1_:=Aside0.mk (blk_below (g:=gb398) (o:=.cells #[.bool a1_0,.slice A1_1 l1_1.length c1_1,.slice A1_2 l1_2.length c1_2] 83 (0,0)) (by (with_reducible repeat (first|refine blk_drewN ?_ _|refine blk_drew ?_|refine blk_alloc ?_ _));exact BK398.out) hb);have n2_:=Aside0.mk (below_step (by repeat (first|(with_reducible first|exact HB.out|apply below_alloc|apply pw_below_drewN|apply below_drew1|refine below_set ?_ GE397.out|refine below_set ?_ GE398.out)|exact HB.out)) hb);have n3_:=Aside0.mk (hbox);have n4_:=Aside0.mk ((by rw [hg];exact (below_size (by repeat (first|(with_reducible first|exact HB.out|apply below_alloc|apply pw_below_drewN|apply below_drew1|refine below_set ?_ GE397.out|refine below_set ?_ GE398.out)|exact HB.out))):w.heap.size≤gb400));have n5_:=Aside0.mk ((by rw [hg];exact (below_size (by repeat (first|(with_reducible first|exact HB.out|apply below_alloc|apply pw_below_drewN|apply below_drew1|refine below_set ?_ GE397.out|refine below_set ?_ GE398.out)|exact HB.out))):w.heap.size≤gb400));have n6_:=Aside0.mk ((by rw [hg];exact Nat.ne_of_lt (blk_lt (g:=gb397) (o:=.cells #[.int .i64 a0_0,.slice (some ad399) l0_1.length c0_1] 31 (0,0)) (by (with_reducible repeat (first|refine blk_drewN ?_ _|refine blk_drew ?_|refine blk_alloc ?_ _));exact BK397.out)):gb397 ≠ gb400));have n7_:=Aside0.mk ((by rw [hg];exact Nat.ne_of_gt (blk_lt (g:=gb397) (o:=.cells #[.int .i64 a0_0,.slice (some ad399) l0_1.length c0_1] 31 (0,0)) (by (with_reducible repeat (first|refine blk_drewN ?_ _|refine blk_drew ?_|refine blk_alloc ?_ _));exact BK397.out)):gb400 ≠ gb397));have n8_:=Aside0.mk ((by rw [hg];exact Nat.ne_of_lt (blk_lt (g:=gb398) (o:=.cells #[.bool a1_0,.slice A1_1 l1_1.length c1_1,.slice A1_2 l1_2.length c1_2] 83 (0,0)) (by (with_reducible repeat (first|refine blk_drewN ?_ _|refine blk_drew ?_|refine blk_alloc ?_ _));exact BK398.out)):gb398 ≠ gb400));have n9_:=Aside0.mk ((by rw [hg];exact Nat.ne_of_gt (blk_lt (g:=gb398) (o:=.cells #[.bool a1_0,.slice A1_1 l1_1.length c1_1,.slice A1_2 l1_2.length c1_2] 83 (0,0)) (by (with_reducible repeat (first|refine blk_drewN ?_ _|refine blk_drew ?_|refine blk_alloc ?_ _));exact BK398.out)):gb400 ≠ gb398));clear BK397;clear BK398;clear HB;have BK397:=n0_;have BK398:=n1_;have HB:=n2_;have BK400:=n3_;have GW400:=n4_;have GE400:=n5_;have NB397_400:=n6_;have NB400_397:=n7_;have NB398_400:=n8_;have NB400_398:=n9_;clear n0_ n1_ n2_ n3_ n4_ n5_ n6_ n7_ n8_ n9_;clear hb hbox hg;have hnb16:=NB400_397.out;have hnc16:=NB397_400.out;have hnb17:=NB400_398.out;have hnc17:=NB398_400.out;have hcz18_0:w15.cell? ⟨gb400,0,none⟩=some (.int .i64 0):=(blk_cell BK400.out 0).trans rfl;have hcz18_1:w15.cell? ⟨gb400,1,none⟩=some (.int .i64 0):=(blk_cell BK400.out 1).trans rfl;have hfz18_0:=blk_frozen BK400.out 0;have hfz18_1:=blk_frozen BK400.out 1;have hnb19:=NB398_397.out;have hnc19:=NB397_398.out;have hcz20_0:w15.cell? ⟨gb398,0,none⟩=some (.bool a1_0):=(blk_cell BK398.out 0).trans rfl;have hcz20_1:w15.cell? ⟨gb398,1,none⟩=some (.slice A1_1 l1_1.length c1_1):=(blk_cell BK398.out 1).trans rfl;have hcz20_2:w15.cell? ⟨gb398,2,none⟩=some (.slice A1_2 l1_2.length c1_2):=(blk_cell BK398.out 2).trans rfl;have hfz20_0:=blk_frozen BK398.out 0;have hfz20_1:=blk_frozen BK398.out 1;have hfz20_2:=blk_frozen BK398.out 2;have p401:0≤(x12_1:Int):=of_decide_eq_true (by first|(with_reducible assumption)|assumption);have q401:x12_1<(l1_2.length:Int):=of_decide_eq_true (by first|(with_reducible assumption)|assumption);obtain ⟨ad401,e401,hx401_0⟩:=Kd.at_bool HR1_2.out x12_1 p401 q401;(try rw [← Nbq12.out] at hx401_0);cases e401;have hn401_0:ad401.block ≠ gb400:=Nat.ne_of_lt (Nat.lt_of_lt_of_le (by have:=World.block_lt_of_cell? _ _ hx401_0;first|rwa [add_block] at this|exact this) GW400.out);have hn401_1:ad401.block ≠ gb400:=Nat.ne_of_lt (Nat.lt_of_lt_of_le (by have:=World.block_lt_of_cell? _ _ hx401_0;first|rwa [add_block] at this|exact this) GW400.out);replace hx401_0:=(HB.out.cell (World.block_lt_of_cell? w _ hx401_0)).trans hx401_0;replace hx401_0:=(cell_far (p:=⟨gb400,0,none⟩) (by first|(rw [add_block];exact hn401_0)|(show (Addr.add _ _).block ≠ _;rw [add_block];exact hn401_0)|exact hn401_0) (.int .i64 ((rd_T98 l0_1 x12_1).f0))).trans hx401_0;replace hx401_0:=(cell_far (p:=⟨gb400,1,none⟩) (by first|(rw [add_block];exact hn401_1)|(show (Addr.add _ _).block ≠ _;rw [add_block];exact hn401_1)|exact hn401_1) (.int .i64 ((rd_T98 l0_1 x12_1).f1))).trans hx401_0;clear hn401_0;clear hn401_1;replace p401:=eq_true p401;replace q401:=eq_true q401))
         go_ret
         exact ⟨by first|rfl|(simp [errW_none,errW_some] <;> rfl)|(simp [*,errW_none,errW_some] <;> rfl),by repeat (first|(with_reducible first|exact HB.out|apply below_alloc|apply pw_below_drewN|apply below_drew1|refine below_set ?_ GE397.out|refine below_set ?_ GE398.out|refine below_set ?_ GE400.out)|exact HB.out)⟩
        rw [if_neg c14] at H
        have c14b0:(((rd_T98 l0_1 x12_1).f0)==a2)=false:=beq_eq_false_iff_ne.mpr c14
        have c14b1:(((rd_T98 l0_1 x12_1).f0) != a2)=true:=bne_iff_ne.mpr c14
        by_cases c21:((rd_T98 l0_1 x12_1).f1)=a2
        ·rw [if_pos c21] at H
         have c21b0:(((rd_T98 l0_1 x12_1).f1)==a2)=true:=beq_iff_eq.mpr c21
         have c21b1:(((rd_T98 l0_1 x12_1).f1) != a2)=false:=bne_eq_false_iff_eq.mpr c21
         clear c21
         obtain rfl:=Option.some.inj H
         have p399:0≤(x12_1:Int):=of_decide_eq_true (by first|(with_reducible assumption)|assumption)
         have q399:x12_1<(l0_1.length:Int):=of_decide_eq_true (by first|(with_reducible assumption)|assumption)
         obtain ⟨ad399,e399,hx399_0,hx399_1⟩:=at_T98 HR0_1.out x12_1 p399 q399
         cases e399
         replace hx399_0:=(HB.out.cell (World.block_lt_of_cell? w _ hx399_0)).trans hx399_0
         replace hx399_1:=(HB.out.cell (World.block_lt_of_cell? w _ hx399_1)).trans hx399_1
         replace p399:=eq_true p399
         replace q399:=eq_true q399
         go_wp2_with (first|((with_reducible refine gate_dst (N:=8) rfl ?_);refine box_event ?hg (N:=8) ?hd (cs:=#[.int .i64 0,.int .i64 0]) (t:=98) ?hr ?_;(case hd=>rfl);(case hg=>rfl);(case hr=>first|(go_simp;done)|(go_simp;rfl));intro gb400 hg w22 hbox hb;have n0_:=Aside0.mk (blk_below (g:=gb397) (o:=.cells #[.int .i64 a0_0,.slice (some ad399) l0_1.length c0_1] 31 (0,0)) (by (with_reducible repeat (first|refine blk_drewN ?_ _|refine blk_drew ?_|refine blk_alloc ?_ _));exact BK397.out) hb);have n1_:=Aside0.mk (blk_below (g:=gb398) (o:=.cells #[.bool a1_0,.slice A1_1 l1_1.length c1_1,.slice A1_2 l1_2.length c1_2] 83 (0,0)) (by (with_reducible repeat (first|refine blk_drewN ?_ _|refine blk_drew ?_|refine blk_alloc ?_ _));exact BK398.out) hb);have n2_:=Aside0.mk (below_step (by repeat (first|(with_reducible first|exact HB.out|apply below_alloc|apply pw_below_drewN|apply below_drew1|refine below_set ?_ GE397.out|refine below_set ?_ GE398.out)|exact HB.out)) hb);have n3_:=Aside0.mk (hbox);have n4_:=Aside0.mk ((by rw [hg];exact (below_size (by repeat (first|(with_reducible first|exact HB.out|apply below_alloc|apply pw_below_drewN|apply below_drew1|refine below_set ?_ GE397.out|refine below_set ?_ GE398.out)|exact HB.out))):w.heap.size≤gb400));have n5_:=Aside0.mk ((by rw [hg];exact (below_size (by repeat (first|(with_reducible first|exact HB.out|apply below_alloc|apply pw_below_drewN|apply below_drew1|refine below_set ?_ GE397.out|refine below_set ?_ GE398.out)|exact HB.out))):w.heap.size≤gb400));have n6_:=Aside0.mk ((by rw [hg];exact Nat.ne_of_lt (blk_lt (g:=gb397) (o:=.cells #[.int .i64 a0_0,.slice (some ad399) l0_1.length c0_1] 31 (0,0)) (by (with_reducible repeat (first|refine blk_drewN ?_ _|refine blk_drew ?_|refine blk_alloc ?_ _));exact BK397.out)):gb397 ≠ gb400));have n7_:=Aside0.mk ((by rw [hg];exact Nat.ne_of_gt (blk_lt (g:=gb397) (o:=.cells #[.int .i64 a0_0,.slice (some ad399) l0_1.length c0_1] 31 (0,0)) (by (with_reducible repeat (first|refine blk_drewN ?_ _|refine blk_drew ?_|refine blk_alloc ?_ _));exact BK397.out)):gb400 ≠ gb397));have n8_:=Aside0.mk ((by rw [hg];exact Nat.ne_of_lt (blk_lt (g:=gb398) (o:=.cells #[.bool a1_0,.slice A1_1 l1_1.length c1_1,.slice A1_2 l1_2.length c1_2] 83 (0,0)) (by (with_reducible repeat (first|refine blk_drewN ?_ _|refine blk_drew ?_|refine blk_alloc ?_ _));exact BK398.out)):gb398 ≠ gb400));have n9_:=Aside0.mk ((by rw [hg];exact Nat.ne_of_gt (blk_lt (g:=gb398) (o:=.cells #[.bool a1_0,.slice A1_1 l1_1.length c1_1,.slice A1_2 l1_2.length c1_2] 83 (0,0)) (by (with_reducible repeat (first|refine blk_drewN ?_ _|refine blk_drew ?_|refine blk_alloc ?_ _));exact BK398.out)):gb400 ≠ gb398));clear BK397;clear BK398;clear HB;have BK397:=n0_;have BK398:=n1_;have HB:=n2_;have BK400:=n3_;have GW400:=n4_;have GE400:=n5_;have NB397_400:=n6_;have NB400_397:=n7_;have NB398_400:=n8_;have NB400_398:=n9_;clear n0_ n1_ n2_ n3_ n4_ n5_ n6_ n7_ n8_ n9_;clear hb hbox hg;have hnb23:=NB400_397.out;have hnc23:=NB397_400.out;have hnb24:=NB400_398.out;have hnc24:=NB398_400.out;have hcz25_0:w22.cell? ⟨gb400,0,none⟩=some (.int .i64 0):=(blk_cell BK400.out 0).trans rfl;have hcz25_1:w22.cell? ⟨gb400,1,none⟩=some (.int .i64 0):=(blk_cell BK400.out 1).trans rfl;have hfz25_0:=blk_frozen BK400.out 0;have hfz25_1:=blk_frozen BK400.out 1;have hnb26:=NB398_397.out;have hnc26:=NB397_398.out;have hcz27_0:w22.cell? ⟨gb398,0,none⟩=some (.bool a1_0):=(blk_cell BK398.out 0).trans rfl;have hcz27_1:w22.cell? ⟨gb398,1,none⟩=some (.slice A1_1 l1_1.length c1_1):=(blk_cell BK398.out 1).trans rfl;have hcz27_2:w22.cell? ⟨gb398,2,none⟩=some (.slice A1_2 l1_2.length c1_2):=(blk_cell BK398.out 2).trans rfl;have hfz27_0:=blk_frozen BK398.out 0;have hfz27_1:=blk_frozen BK398.out 1;have hfz27_2:=blk_frozen BK398.out 2;have p401:0≤(x12_1:Int):=of_decide_eq_true (by first|(with_reducible assumption)|assumption);have q401:x12_1<(l1_2.length:Int):=of_decide_eq_true (by first|(with_reducible assumption)|assumption);obtain ⟨ad401,e401,hx401_0⟩:=Kd.at_bool HR1_2.out x12_1 p401 q401;(try rw [← Nbq12.out] at hx401_0);cases e401;have hn401_0:ad401.block ≠ gb400:=Nat.ne_of_lt (Nat.lt_of_lt_of_le (by have:=World.block_lt_of_cell? _ _ hx401_0;first|rwa [add_block] at this|exact this) GW400.out);have hn401_1:ad401.block ≠ gb400:=Nat.ne_of_lt (Nat.lt_of_lt_of_le (by have:=World.block_lt_of_cell? _ _ hx401_0;first|rwa [add_block] at this|exact this) GW400.out);replace hx401_0:=(HB.out.cell (World.block_lt_of_cell? w _ hx401_0)).trans hx401_0;replace hx401_0:=(cell_far (p:=⟨gb400,0,none⟩) (by first|(rw [add_block];exact hn401_0)|(show (Addr.add _ _).block ≠ _;rw [add_block];exact hn401_0)|exact hn401_0) (.int .i64 ((rd_T98 l0_1 x12_1).f0))).trans hx401_0;replace hx401_0:=(cell_far (p:=⟨gb400,1,none⟩) (by first|(rw [add_block];exact hn401_1)|(show (Addr.add _ _).block ≠ _;rw [add_block];exact hn401_1)|exact hn401_1) (.int .i64 ((rd_T98 l0_1 x12_1).f1))).trans hx401_0;clear hn401_0;clear hn401_1;replace p401:=eq_true p401;replace q401:=eq_true q401))
         go_ret
         exact ⟨by first|rfl|(simp [errW_none,errW_some] <;> rfl)|(simp [*,errW_none,errW_some] <;> rfl),by repeat (first|(with_reducible first|exact HB.out|apply below_alloc|apply pw_below_drewN|apply below_drew1|refine below_set ?_ GE397.out|refine below_set ?_ GE398.out|refine below_set ?_ GE400.out)|exact HB.out)⟩
        rw [if_neg c21] at H
        have c21b0:(((rd_T98 l0_1 x12_1).f1)==a2)=false:=beq_eq_false_iff_ne.mpr c21
        have c21b1:(((rd_T98 l0_1 x12_1).f1) != a2)=true:=bne_iff_ne.mpr c21
        have H':=Aside0.mk H
        clear H
        have p399:0≤(x12_1:Int):=of_decide_eq_true (by first|(with_reducible assumption)|assumption)
        have q399:x12_1<(l0_1.length:Int):=of_decide_eq_true (by first|(with_reducible assumption)|assumption)
        obtain ⟨ad399,e399,hx399_0,hx399_1⟩:=at_T98 HR0_1.out x12_1 p399 q399
        cases e399
        replace hx399_0:=(HB.out.cell (World.block_lt_of_cell? w _ hx399_0)).trans hx399_0
        replace hx399_1:=(HB.out.cell (World.block_lt_of_cell? w _ hx399_1)).trans hx399_1
        replace p399:=eq_true p399
        replace q399:=eq_true q399
        go_wp2_with (first|((with_reducible refine gate_dst (N:=8) rfl ?_);refine box_event ?hg (N:=8) ?hd (cs:=#[.int .i64 0,.int .i64 0]) (t:=98) ?hr ?_;(case hd=>rfl);(case hg=>rfl);(case hr=>first|(go_simp;done)|(go_simp;rfl));intro gb400 hg w28 hbox hb;have n0_:=Aside0.mk (blk_below (g:=gb397) (o:=.cells #[.int .i64 a0_0,.slice (some ad399) l0_1.length c0_1] 31 (0,0)) (by (with_reducible repeat (first|refine blk_drewN ?_ _|refine blk_drew ?_|refine blk_alloc ?_ _));exact BK397.out) hb);have n1_:=Aside0.mk (blk_below (g:=gb398) (o:=.cells #[.bool a1_0,.slice A1_1 l1_1.length c1_1,.slice A1_2 l1_2.length c1_2] 83 (0,0)) (by (with_reducible repeat (first|refine blk_drewN ?_ _|refine blk_drew ?_|refine blk_alloc ?_ _));exact BK398.out) hb);have n2_:=Aside0.mk (below_step (by repeat (first|(with_reducible first|exact HB.out|apply below_alloc|apply pw_below_drewN|apply below_drew1|refine below_set ?_ GE397.out|refine below_set ?_ GE398.out)|exact HB.out)) hb);have n3_:=Aside0.mk (hbox);have n4_:=Aside0.mk ((by rw [hg];exact (below_size (by repeat (first|(with_reducible first|exact HB.out|apply below_alloc|apply pw_below_drewN|apply below_drew1|refine below_set ?_ GE397.out|refine below_set ?_ GE398.out)|exact HB.out))):w.heap.size≤gb400));have n5_:=Aside0.mk ((by rw [hg];exact (below_size (by repeat (first|(with_reducible first|exact HB.out|apply below_alloc|apply pw_below_drewN|apply below_drew1|refine below_set ?_ GE397.out|refine below_set ?_ GE398.out)|exact HB.out))):w.heap.size≤gb400));have n6_:=Aside0.mk ((by rw [hg];exact Nat.ne_of_lt (blk_lt (g:=gb397) (o:=.cells #[.int .i64 a0_0,.slice (some ad399) l0_1.length c0_1] 31 (0,0)) (by (with_reducible repeat (first|refine blk_drewN ?_ _|refine blk_drew ?_|refine blk_alloc ?_ _));exact BK397.out)):gb397 ≠ gb400));have n7_:=Aside0.mk ((by rw [hg];exact Nat.ne_of_gt (blk_lt (g:=gb397) (o:=.cells #[.int .i64 a0_0,.slice (some ad399) l0_1.length c0_1] 31 (0,0)) (by (with_reducible repeat (first|refine blk_drewN ?_ _|refine blk_drew ?_|refine blk_alloc ?_ _));exact BK397.out)):gb400 ≠ gb397));have n8_:=Aside0.mk ((by rw [hg];exact Nat.ne_of_lt (blk_lt (g:=gb398) (o:=.cells #[.bool a1_0,.slice A1_1 l1_1.length c1_1,.slice A1_2 l1_2.length c1_2] 83 (0,0)) (by (with_reducible repeat (first|refine blk_drewN ?_ _|refine blk_drew ?_|refine blk_alloc ?_ _));exact BK398.out)):gb398 ≠ gb400));have n9_:=Aside0.mk ((by rw [hg];exact Nat.ne_of_gt (blk_lt (g:=gb398) (o:=.cells #[.bool a1_0,.slice A1_1 l1_1.length c1_1,.slice A1_2 l1_2.length c1_2] 83 (0,0)) (by (with_reducible repeat (first|refine blk_drewN ?_ _|refine blk_drew ?_|refine blk_alloc ?_ _));exact BK398.out)):gb400 ≠ gb398));clear BK397;clear BK398;clear HB;have BK397:=n0_;have BK398:=n1_;have HB:=n2_;have BK400:=n3_;have GW400:=n4_;have GE400:=n5_;have NB397_400:=n6_;have NB400_397:=n7_;have NB398_400:=n8_;have NB400_398:=n9_;clear n0_ n1_ n2_ n3_ n4_ n5_ n6_ n7_ n8_ n9_;clear hb hbox hg;have hnb29:=NB400_397.out;have hnc29:=NB397_400.out;have hnb30:=NB400_398.out;have hnc30:=NB398_400.out;have hcz31_0:w28.cell? ⟨gb400,0,none⟩=some (.int .i64 0):=(blk_cell BK400.out 0).trans rfl;have hcz31_1:w28.cell? ⟨gb400,1,none⟩=some (.int .i64 0):=(blk_cell BK400.out 1).trans rfl;have hfz31_0:=blk_frozen BK400.out 0;have hfz31_1:=blk_frozen BK400.out 1;have hnb32:=NB398_397.out;have hnc32:=NB397_398.out;have hcz33_0:w28.cell? ⟨gb398,0,none⟩=some (.bool a1_0):=(blk_cell BK398.out 0).trans rfl;have hcz33_1:w28.cell? ⟨gb398,1,none⟩=some (.slice A1_1 l1_1.length c1_1):=(blk_cell BK398.out 1).trans rfl;have hcz33_2:w28.cell? ⟨gb398,2,none⟩=some (.slice A1_2 l1_2.length c1_2):=(blk_cell BK398.out 2).trans rfl;have hfz33_0:=blk_frozen BK398.out 0;have hfz33_1:=blk_frozen BK398.out 1;have hfz33_2:=blk_frozen BK398.out 2;have p401:0≤(x12_1:Int):=of_decide_eq_true (by first|(with_reducible assumption)|assumption);have q401:x12_1<(l1_2.length:Int):=of_decide_eq_true (by first|(with_reducible assumption)|assumption);obtain ⟨ad401,e401,hx401_0⟩:=Kd.at_bool HR1_2.out x12_1 p401 q401;(try rw [← Nbq12.out] at hx401_0);cases e401;have hn401_0:ad401.block ≠ gb400:=Nat.ne_of_lt (Nat.lt_of_lt_of_le (by have:=World.block_lt_of_cell? _ _ hx401_0;first|rwa [add_block] at this|exact this) GW400.out);have hn401_1:ad401.block ≠ gb400:=Nat.ne_of_lt (Nat.lt_of_lt_of_le (by have:=World.block_lt_of_cell? _ _ hx401_0;first|rwa [add_block] at this|exact this) GW400.out);replace hx401_0:=(HB.out.cell (World.block_lt_of_cell? w _ hx401_0)).trans hx401_0;replace hx401_0:=(cell_far (p:=⟨gb400,0,none⟩) (by first|(rw [add_block];exact hn401_0)|(show (Addr.add _ _).block ≠ _;rw [add_block];exact hn401_0)|exact hn401_0) (.int .i64 ((rd_T98 l0_1 x12_1).f0))).trans hx401_0;replace hx401_0:=(cell_far (p:=⟨gb400,1,none⟩) (by first|(rw [add_block];exact hn401_1)|(show (Addr.add _ _).block ≠ _;rw [add_block];exact hn401_1)|exact hn401_1) (.int .i64 ((rd_T98 l0_1 x12_1).f1))).trans hx401_0;clear hn401_0;clear hn401_1;replace p401:=eq_true p401;replace q401:=eq_true q401))
        go_roundg k1
        case measure=>have:=HK1.out;omega
        case rel=>exact ⟨(wrap64 (x12_1+1)),(by first|rfl|(simp;done)|(simp [*];done)),H',⟨by have:=HK1.out;omega⟩,⟨by (with_reducible repeat (first|refine blk_drewN ?_ _|refine blk_drew ?_|refine blk_alloc ?_ _));refine blk_far ?_ NB397_400.out _;(with_reducible repeat (first|refine blk_drewN ?_ _|refine blk_drew ?_|refine blk_alloc ?_ _));refine blk_far ?_ NB397_400.out _;(with_reducible repeat (first|refine blk_drewN ?_ _|refine blk_drew ?_|refine blk_alloc ?_ _));exact BK397.out⟩,⟨by (with_reducible repeat (first|refine blk_drewN ?_ _|refine blk_drew ?_|refine blk_alloc ?_ _));refine blk_far ?_ NB398_400.out _;(with_reducible repeat (first|refine blk_drewN ?_ _|refine blk_drew ?_|refine blk_alloc ?_ _));refine blk_far ?_ NB398_400.out _;(with_reducible repeat (first|refine blk_drewN ?_ _|refine blk_drew ?_|refine blk_alloc ?_ _));exact BK398.out⟩,⟨by repeat (first|(with_reducible first|exact HB.out|apply below_alloc|apply pw_below_drewN|apply below_drew1|refine below_set ?_ GE397.out|refine below_set ?_ GE398.out|refine below_set ?_ GE400.out)|exact HB.out)⟩⟩
       replace c13:=Bool.eq_false_iff.mpr c13
       subst c13
       have H1:(impl_dead.l0 k1 a2 l0_1 (l0_1.length:Int) (wrap64 (x12_1+1)) a1_0 l1_1 l1_2)=some r:=by rw [if_neg (show ¬ (false=true) by decide)] at H;exact H
       clear H
       have H:=H1
       clear H1
       have H':=Aside0.mk H
       clear H
       have p399:0≤(x12_1:Int):=of_decide_eq_true (by first|(with_reducible assumption)|assumption)
       have q399:x12_1<(l0_1.length:Int):=of_decide_eq_true (by first|(with_reducible assumption)|assumption)
       obtain ⟨ad399,e399,hx399_0,hx399_1⟩:=at_T98 HR0_1.out x12_1 p399 q399
       cases e399
       replace hx399_0:=(HB.out.cell (World.block_lt_of_cell? w _ hx399_0)).trans hx399_0
       replace hx399_1:=(HB.out.cell (World.block_lt_of_cell? w _ hx399_1)).trans hx399_1
       replace p399:=eq_true p399
       replace q399:=eq_true q399
       go_wp2_with (first|((with_reducible refine gate_dst (N:=8) rfl ?_);refine box_event ?hg (N:=8) ?hd (cs:=#[.int .i64 0,.int .i64 0]) (t:=98) ?hr ?_;(case hd=>rfl);(case hg=>rfl);(case hr=>first|(go_simp;done)|(go_simp;rfl));intro gb400 hg w34 hbox hb;have n0_:=Aside0.mk (blk_below (g:=gb397) (o:=.cells #[.int .i64 a0_0,.slice (some ad399) l0_1.length c0_1] 31 (0,0)) (by (with_reducible repeat (first|refine blk_drewN ?_ _|refine blk_drew ?_|refine blk_alloc ?_ _));exact BK397.out) hb);have n1_:=Aside0.mk (blk_below (g:=gb398) (o:=.cells #[.bool a1_0,.slice A1_1 l1_1.length c1_1,.slice A1_2 l1_2.length c1_2] 83 (0,0)) (by (with_reducible repeat (first|refine blk_drewN ?_ _|refine blk_drew ?_|refine blk_alloc ?_ _));exact BK398.out) hb);have n2_:=Aside0.mk (below_step (by repeat (first|(with_reducible first|exact HB.out|apply below_alloc|apply pw_below_drewN|apply below_drew1|refine below_set ?_ GE397.out|refine below_set ?_ GE398.out)|exact HB.out)) hb);have n3_:=Aside0.mk (hbox);have n4_:=Aside0.mk ((by rw [hg];exact (below_size (by repeat (first|(with_reducible first|exact HB.out|apply below_alloc|apply pw_below_drewN|apply below_drew1|refine below_set ?_ GE397.out|refine below_set ?_ GE398.out)|exact HB.out))):w.heap.size≤gb400));have n5_:=Aside0.mk ((by rw [hg];exact (below_size (by repeat (first|(with_reducible first|exact HB.out|apply below_alloc|apply pw_below_drewN|apply below_drew1|refine below_set ?_ GE397.out|refine below_set ?_ GE398.out)|exact HB.out))):w.heap.size≤gb400));have n6_:=Aside0.mk ((by rw [hg];exact Nat.ne_of_lt (blk_lt (g:=gb397) (o:=.cells #[.int .i64 a0_0,.slice (some ad399) l0_1.length c0_1] 31 (0,0)) (by (with_reducible repeat (first|refine blk_drewN ?_ _|refine blk_drew ?_|refine blk_alloc ?_ _));exact BK397.out)):gb397 ≠ gb400));have n7_:=Aside0.mk ((by rw [hg];exact Nat.ne_of_gt (blk_lt (g:=gb397) (o:=.cells #[.int .i64 a0_0,.slice (some ad399) l0_1.length c0_1] 31 (0,0)) (by (with_reducible repeat (first|refine blk_drewN ?_ _|refine blk_drew ?_|refine blk_alloc ?_ _));exact BK397.out)):gb400 ≠ gb397));have n8_:=Aside0.mk ((by rw [hg];exact Nat.ne_of_lt (blk_lt (g:=gb398) (o:=.cells #[.bool a1_0,.slice A1_1 l1_1.length c1_1,.slice A1_2 l1_2.length c1_2] 83 (0,0)) (by (with_reducible repeat (first|refine blk_drewN ?_ _|refine blk_drew ?_|refine blk_alloc ?_ _));exact BK398.out)):gb398 ≠ gb400));have n9_:=Aside0.mk ((by rw [hg];exact Nat.ne_of_gt (blk_lt (g:=gb398) (o:=.cells #[.bool a1_0,.slice A1_1 l1_1.length c1_1,.slice A1_2 l1_2.length c1_2] 83 (0,0)) (by (with_reducible repeat (first|refine blk_drewN ?_ _|refine blk_drew ?_|refine blk_alloc ?_ _));exact BK398.out)):gb400 ≠ gb398));clear BK397;clear BK398;clear HB;have BK397:=n0_;have BK398:=n1_;have HB:=n2_;have BK400:=n3_;have GW400:=n4_;have GE400:=n5_;have NB397_400:=n6_;have NB400_397:=n7_;have NB398_400:=n8_;have NB400_398:=n9_;clear n0_ n1_ n2_ n3_ n4_ n5_ n6_ n7_ n8_ n9_;clear hb hbox hg;have hnb35:=NB400_397.out;have hnc35:=NB397_400.out;have hnb36:=NB400_398.out;have hnc36:=NB398_400.out;have hcz37_0:w34.cell? ⟨gb400,0,none⟩=some (.int .i64 0):=(blk_cell BK400.out 0).trans rfl;have hcz37_1:w34.cell? ⟨gb400,1,none⟩=some (.int .i64 0):=(blk_cell BK400.out 1).trans rfl;have hfz37_0:=blk_frozen BK400.out 0;have hfz37_1:=blk_frozen BK400.out 1;have hnb38:=NB398_397.out;have hnc38:=NB397_398.out;have hcz39_0:w34.cell? ⟨gb398,0,none⟩=some (.bool a1_0):=(blk_cell BK398.out 0).trans rfl;have hcz39_1:w34.cell? ⟨gb398,1,none⟩=some (.slice A1_1 l1_1.length c1_1):=(blk_cell BK398.out 1).trans rfl;have hcz39_2:w34.cell? ⟨gb398,2,none⟩=some (.slice A1_2 l1_2.length c1_2):=(blk_cell BK398.out 2).trans rfl;have hfz39_0:=blk_frozen BK398.out 0;have hfz39_1:=blk_frozen BK398.out 1;have hfz39_2:=blk_frozen BK398.out 2;have p401:0≤(x12_1:Int):=of_decide_eq_true (by first|(with_reducible assumption)|assumption);have q401:x12_1<(l1_2.length:Int):=of_decide_eq_true (by first|(with_reducible assumption)|assumption);obtain ⟨ad401,e401,hx401_0⟩:=Kd.at_bool HR1_2.out x12_1 p401 q401;(try rw [← Nbq12.out] at hx401_0);cases e401;have hn401_0:ad401.block ≠ gb400:=Nat.ne_of_lt (Nat.lt_of_lt_of_le (by have:=World.block_lt_of_cell? _ _ hx401_0;first|rwa [add_block] at this|exact this) GW400.out);have hn401_1:ad401.block ≠ gb400:=Nat.ne_of_lt (Nat.lt_of_lt_of_le (by have:=World.block_lt_of_cell? _ _ hx401_0;first|rwa [add_block] at this|exact this) GW400.out);replace hx401_0:=(HB.out.cell (World.block_lt_of_cell? w _ hx401_0)).trans hx401_0;replace hx401_0:=(cell_far (p:=⟨gb400,0,none⟩) (by first|(rw [add_block];exact hn401_0)|(show (Addr.add _ _).block ≠ _;rw [add_block];exact hn401_0)|exact hn401_0) (.int .i64 ((rd_T98 l0_1 x12_1).f0))).trans hx401_0;replace hx401_0:=(cell_far (p:=⟨gb400,1,none⟩) (by first|(rw [add_block];exact hn401_1)|(show (Addr.add _ _).block ≠ _;rw [add_block];exact hn401_1)|exact hn401_1) (.int .i64 ((rd_T98 l0_1 x12_1).f1))).trans hx401_0;clear hn401_0;clear hn401_1;replace p401:=eq_true p401;replace q401:=eq_true q401))
       go_roundg k1
       case measure=>have:=HK1.out;omega
       case rel=>exact ⟨(wrap64 (x12_1+1)),(by first|rfl|(simp;done)|(simp [*];done)),H',⟨by have:=HK1.out;omega⟩,⟨by (with_reducible repeat (first|refine blk_drewN ?_ _|refine blk_drew ?_|refine blk_alloc ?_ _));refine blk_far ?_ NB397_400.out _;(with_reducible repeat (first|refine blk_drewN ?_ _|refine blk_drew ?_|refine blk_alloc ?_ _));refine blk_far ?_ NB397_400.out _;(with_reducible repeat (first|refine blk_drewN ?_ _|refine blk_drew ?_|refine blk_alloc ?_ _));exact BK397.out⟩,⟨by (with_reducible repeat (first|refine blk_drewN ?_ _|refine blk_drew ?_|refine blk_alloc ?_ _));refine blk_far ?_ NB398_400.out _;(with_reducible repeat (first|refine blk_drewN ?_ _|refine blk_drew ?_|refine blk_alloc ?_ _));refine blk_far ?_ NB398_400.out _;(with_reducible repeat (first|refine blk_drewN ?_ _|refine blk_drew ?_|refine blk_alloc ?_ _));exact BK398.out⟩,⟨by repeat (first|(with_reducible first|exact HB.out|apply below_alloc|apply pw_below_drewN|apply below_drew1|refine below_set ?_ GE397.out|refine below_set ?_ GE398.out|refine below_set ?_ GE400.out)|exact HB.out)⟩⟩
      rw [if_neg c11] at H
      exact absurd H (by simp)
     rw [if_neg c10] at H
     exact absurd H (by simp)
    rw [if_neg c9] at H
    exact absurd H (by simp)
   rw [if_neg c8] at H
   have c8b0:decide (x12_1<(l0_1.length:Int))=false:=decide_eq_false c8
   clear c8
   obtain rfl:=Option.some.inj H
   go_wp2
   go_ret
   exact ⟨by first|rfl|(simp [errW_none,errW_some] <;> rfl)|(simp [*,errW_none,errW_some] <;> rfl),by repeat (first|(with_reducible first|exact HB.out|apply below_alloc|apply pw_below_drewN|apply below_drew1|refine below_set ?_ GE397.out|refine below_set ?_ GE398.out)|exact HB.out)⟩
end Go.Proofs.YtpdnabhpkdchjaaDoor.P
namespace Go.Proofs.YtpdnabhpkdchjaaDoor.P
open Go.RowKit Go.Proofs.YtpdnabhpkdchjaaDoorW.PrintWords Go.Proofs.YtpdnabhpkdchjaaDoorW.PrintLast Go.Proofs.YtpdnabhpkdchjaaDoorW.PrintMore
attribute [local go_sem] max2_int min2_int max_two min_two max_three min_three max_four min_four
set_option linter.unusedVariables false
set_option linter.unusedSimpArgs false
def impl_told.j0:Nat→Bool→Int→Int→Bool→Bool→Int→Option (Int)
 | 0,_,_,_,_,_,_=>none
 | k+1,x18,x335000,x335001,x335002,x335003,x335004=>if x18=true then (some 1) else (if x335003=true then (some 2) else (some 0))
def impl_told.f (k:Nat) (a0_0:Int) (l0_1:List (S98)) (a1_0:Bool) (l1_1:List (S87)) (l1_2:List Bool) (a2:Int):Option (Int):=if 0≤a2 then (if a2<(l1_1.length:Int) then ((impl_dead.f k a0_0 l0_1 a1_0 l1_1 l1_2 a2).bind fun t335=>(if t335=true then (some 3) else (if (rd_T87 l1_1 a2).f2=true then (impl_told.j0 k true ((rd_T87 l1_1 a2).f0) ((rd_T87 l1_1 a2).f1) ((rd_T87 l1_1 a2).f2) ((rd_T87 l1_1 a2).f3) ((rd_T87 l1_1 a2).f4)) else (if ((rd_T87 l1_1 a2).f1)=0 then (impl_told.j0 k false ((rd_T87 l1_1 a2).f0) ((rd_T87 l1_1 a2).f1) ((rd_T87 l1_1 a2).f2) ((rd_T87 l1_1 a2).f3) ((rd_T87 l1_1 a2).f4)) else (impl_told.j0 k (!((rd_T87 l1_1 a2).f3)) ((rd_T87 l1_1 a2).f0) ((rd_T87 l1_1 a2).f1) ((rd_T87 l1_1 a2).f2) ((rd_T87 l1_1 a2).f3) ((rd_T87 l1_1 a2).f4)))))) else (none)) else (none)
set_option maxHeartbeats 8000000 in
set_option maxRecDepth 100000 in
theorem impl_told.calls (k:Nat) (a0_0:Int) (A0_1:Option Addr) (c0_1:Nat) (l0_1:List (S98)) (a1_0:Bool) (A1_1:Option Addr) (c1_1:Nat) (l1_1:List (S87)) (A1_2:Option Addr) (c1_2:Nat) (l1_2:List Bool) (a2:Int) (r:Int) (w:World) (hr0_1:Kd.C k98 w A0_1 l0_1.length l0_1) (hc0_1:l0_1.length≤c0_1) (hr1_1:Kd.C k87 w A1_1 l1_1.length l1_1) (hc1_1:l1_1.length≤c1_1) (hr1_2:Kd.C Kd.bool w A1_2 l1_2.length l1_2) (hc1_2:l1_2.length≤c1_2) (h:impl_told.f k a0_0 l0_1 a1_0 l1_1 l1_2 a2=some r) :
  Calls Tryd.prog 77 #[.agg #[.int .i64 a0_0,.slice A0_1 l0_1.length c0_1],.agg #[.bool a1_0,.slice A1_1 l1_1.length c1_1,.slice A1_2 l1_2.length c1_2],.int .i64 a2] w fun e w'=>e=.returned (.int .i64 r)∧Below w.heap.size w w':=by
 have hu30:=Tryd.underlying31
 have hu46:=Tryd.underlying83
 have hu50:=Tryd.underlying87
 have HR0_1:=Aside0.mk hr0_1
 have HC0_1:=Aside0.mk hc0_1
 clear hr0_1 hc0_1
 have HR1_1:=Aside0.mk hr1_1
 have HC1_1:=Aside0.mk hc1_1
 clear hr1_1 hc1_1
 have HR1_2:=Aside0.mk hr1_2
 have HC1_2:=Aside0.mk hc1_2
 clear hr1_2 hc1_2
 have HB:=Aside0.mk (Below.refl w.heap.size w)
 have H:(if 0≤a2 then (if a2<(l1_1.length:Int) then ((impl_dead.f k a0_0 l0_1 a1_0 l1_1 l1_2 a2).bind fun t335=>(if t335=true then (some 3) else (if (rd_T87 l1_1 a2).f2=true then (impl_told.j0 k true ((rd_T87 l1_1 a2).f0) ((rd_T87 l1_1 a2).f1) ((rd_T87 l1_1 a2).f2) ((rd_T87 l1_1 a2).f3) ((rd_T87 l1_1 a2).f4)) else (if ((rd_T87 l1_1 a2).f1)=0 then (impl_told.j0 k false ((rd_T87 l1_1 a2).f0) ((rd_T87 l1_1 a2).f1) ((rd_T87 l1_1 a2).f2) ((rd_T87 l1_1 a2).f3) ((rd_T87 l1_1 a2).f4)) else (impl_told.j0 k (!((rd_T87 l1_1 a2).f3)) ((rd_T87 l1_1 a2).f0) ((rd_T87 l1_1 a2).f1) ((rd_T87 l1_1 a2).f2) ((rd_T87 l1_1 a2).f3) ((rd_T87 l1_1 a2).f4)))))) else (none)) else (none))=some r:=h
 clear h
 by_cases c4:0≤a2
 ·rw [if_pos c4] at H
  have c4b0:decide (0≤a2)=true:=decide_eq_true c4
  clear c4
  by_cases c5:a2<(l1_1.length:Int)
  ·rw [if_pos c5] at H
   have c5b0:decide (a2<(l1_1.length:Int))=true:=decide_eq_true c5
   clear c5
   replace H:=Option.bind_eq_some_iff.mp H
   obtain ⟨t335,A60,H⟩:=H
   replace H:(if t335=true then (some 3) else (if (rd_T87 l1_1 a2).f2=true then (impl_told.j0 k true ((rd_T87 l1_1 a2).f0) ((rd_T87 l1_1 a2).f1) ((rd_T87 l1_1 a2).f2) ((rd_T87 l1_1 a2).f3) ((rd_T87 l1_1 a2).f4)) else (if ((rd_T87 l1_1 a2).f1)=0 then (impl_told.j0 k false ((rd_T87 l1_1 a2).f0) ((rd_T87 l1_1 a2).f1) ((rd_T87 l1_1 a2).f2) ((rd_T87 l1_1 a2).f3) ((rd_T87 l1_1 a2).f4)) else (impl_told.j0 k (!((rd_T87 l1_1 a2).f3)) ((rd_T87 l1_1 a2).f0) ((rd_T87 l1_1 a2).f1) ((rd_T87 l1_1 a2).f2) ((rd_T87 l1_1 a2).f3) ((rd_T87 l1_1 a2).f4)))))=some r:=H
   have A6:=Aside0.mk A60
   clear A60
   by_cases c7:t335=true
   ·subst c7
    have H1:(some 3)=some r:=by rw [if_pos rfl] at H;exact H
    clear H
    have H:=H1
    clear H1
    obtain rfl:=Option.some.inj H
    go_enter Tryd.func77,Tryd.ntmps77
    go_wp2_with (first|((with_reducible refine gate_dst (N:=3) rfl ?_);refine box_event ?hg (N:=3) ?hd (cs:=#[.int .i64 a0_0,.slice A0_1 l0_1.length c0_1]) (t:=31) ?hr ?_;(case hd=>rfl);(case hg=>rfl);(case hr=>first|(go_simp;done)|(go_simp;rfl));intro gb331 hg w8 hbox hb;have n0_:=Aside0.mk (below_step (by exact HB.out) hb);have n1_:=Aside0.mk (hbox);have n2_:=Aside0.mk ((by rw [hg];exact (below_size (by exact HB.out)):w.heap.size≤gb331));have n3_:=Aside0.mk ((by rw [hg];exact (below_size (by exact HB.out)):w.heap.size≤gb331));clear HB;have HB:=n0_;have BK331:=n1_;have GW331:=n2_;have GE331:=n3_;clear n0_ n1_ n2_ n3_;clear hb hbox hg)|((with_reducible refine gate_dst (N:=4) rfl ?_);refine box_event ?hg (N:=4) ?hd (cs:=#[.bool a1_0,.slice A1_1 l1_1.length c1_1,.slice A1_2 l1_2.length c1_2]) (t:=83) ?hr ?_;(case hd=>rfl);(case hg=>rfl);(case hr=>first|(go_simp;done)|(go_simp;rfl));intro gb332 hg w9 hbox hb;have n0_:=Aside0.mk (blk_below (g:=gb331) (o:=.cells #[.int .i64 a0_0,.slice A0_1 l0_1.length c0_1] 31 (0,0)) (by exact BK331.out) hb);have n1_:=Aside0.mk (below_step (by exact HB.out) hb);have n2_:=Aside0.mk (hbox);have n3_:=Aside0.mk ((by rw [hg];exact (below_size (by exact HB.out)):w.heap.size≤gb332));have n4_:=Aside0.mk ((by rw [hg];exact (below_size (by exact HB.out)):w.heap.size≤gb332));have n5_:=Aside0.mk ((by rw [hg];exact Nat.ne_of_lt (blk_lt (g:=gb331) (o:=.cells #[.int .i64 a0_0,.slice A0_1 l0_1.length c0_1] 31 (0,0)) (by exact BK331.out)):gb331 ≠ gb332));have n6_:=Aside0.mk ((by rw [hg];exact Nat.ne_of_gt (blk_lt (g:=gb331) (o:=.cells #[.int .i64 a0_0,.slice A0_1 l0_1.length c0_1] 31 (0,0)) (by exact BK331.out)):gb332 ≠ gb331));clear BK331;clear HB;have BK331:=n0_;have HB:=n1_;have BK332:=n2_;have GW332:=n3_;have GE332:=n4_;have NB331_332:=n5_;have NB332_331:=n6_;clear n0_ n1_ n2_ n3_ n4_ n5_ n6_;clear hb hbox hg;have hnb10:=NB332_331.out;have hnc10:=NB331_332.out;have hcz11_0:w9.cell? ⟨gb332,0,none⟩=some (.bool a1_0):=(blk_cell BK332.out 0).trans rfl;have hcz11_1:w9.cell? ⟨gb332,1,none⟩=some (.slice A1_1 l1_1.length c1_1):=(blk_cell BK332.out 1).trans rfl;have hcz11_2:w9.cell? ⟨gb332,2,none⟩=some (.slice A1_2 l1_2.length c1_2):=(blk_cell BK332.out 2).trans rfl;have hfz11_0:=blk_frozen BK332.out 0;have hfz11_1:=blk_frozen BK332.out 1;have hfz11_2:=blk_frozen BK332.out 2;have p333:0≤(a2:Int):=of_decide_eq_true (by first|(with_reducible assumption)|assumption);have q333:a2<(l1_1.length:Int):=of_decide_eq_true (by first|(with_reducible assumption)|assumption);obtain ⟨ad333,e333,hx333_0,hx333_1,hx333_2,hx333_3,hx333_4⟩:=at_T87 HR1_1.out a2 p333 q333;cases e333;replace hx333_0:=(HB.out.cell (World.block_lt_of_cell? w _ hx333_0)).trans hx333_0;replace hx333_1:=(HB.out.cell (World.block_lt_of_cell? w _ hx333_1)).trans hx333_1;replace hx333_2:=(HB.out.cell (World.block_lt_of_cell? w _ hx333_2)).trans hx333_2;replace hx333_3:=(HB.out.cell (World.block_lt_of_cell? w _ hx333_3)).trans hx333_3;replace hx333_4:=(HB.out.cell (World.block_lt_of_cell? w _ hx333_4)).trans hx333_4;replace p333:=eq_true p333;replace q333:=eq_true q333)|((with_reducible refine gate_dst (N:=7) rfl ?_);refine box_event ?hg (N:=7) ?hd (cs:=#[.int .i64 0,.int .i64 0,.bool false,.bool false,.int .i64 0]) (t:=87) ?hr ?_;(case hd=>rfl);(case hg=>rfl);(case hr=>first|(go_simp;done)|(go_simp;rfl));intro gb334 hg w12 hbox hb;have n0_:=Aside0.mk (blk_below (g:=gb331) (o:=.cells #[.int .i64 a0_0,.slice A0_1 l0_1.length c0_1] 31 (0,0)) (by exact BK331.out) hb);have n1_:=Aside0.mk (blk_below (g:=gb332) (o:=.cells #[.bool a1_0,.slice (some ad333) l1_1.length c1_1,.slice A1_2 l1_2.length c1_2] 83 (0,0)) (by exact BK332.out) hb);have n2_:=Aside0.mk (below_step (by exact HB.out) hb);have n3_:=Aside0.mk (hbox);have n4_:=Aside0.mk ((by rw [hg];exact (below_size (by exact HB.out)):w.heap.size≤gb334));have n5_:=Aside0.mk ((by rw [hg];exact (below_size (by exact HB.out)):w.heap.size≤gb334));have n6_:=Aside0.mk ((by rw [hg];exact Nat.ne_of_lt (blk_lt (g:=gb331) (o:=.cells #[.int .i64 a0_0,.slice A0_1 l0_1.length c0_1] 31 (0,0)) (by exact BK331.out)):gb331 ≠ gb334));have n7_:=Aside0.mk ((by rw [hg];exact Nat.ne_of_gt (blk_lt (g:=gb331) (o:=.cells #[.int .i64 a0_0,.slice A0_1 l0_1.length c0_1] 31 (0,0)) (by exact BK331.out)):gb334 ≠ gb331));have n8_:=Aside0.mk ((by rw [hg];exact Nat.ne_of_lt (blk_lt (g:=gb332) (o:=.cells #[.bool a1_0,.slice (some ad333) l1_1.length c1_1,.slice A1_2 l1_2.length c1_2] 83 (0,0)) (by (with_reducible repeat (first|refine blk_drewN ?_ _|refine blk_drew ?_|refine blk_alloc ?_ _));exact BK332.out)):gb332 ≠ gb334));have n9_:=Aside0.mk ((by rw [hg];exact Nat.ne_of_gt (blk_lt (g:=gb332) (o:=.cells #[.bool a1_0,.slice (some ad333) l1_1.length c1_1,.slice A1_2 l1_2.length c1_2] 83 (0,0)) (by (with_reducible repeat (first|refine blk_drewN ?_ _|refine blk_drew ?_|refine blk_alloc ?_ _));exact BK332.out)):gb334 ≠ gb332));clear BK331;clear BK332;clear HB;have BK331:=n0_;have BK332:=n1_;have HB:=n2_;have BK334:=n3_;have GW334:=n4_;have GE334:=n5_;have NB331_334:=n6_;have NB334_331:=n7_;have NB332_334:=n8_;have NB334_332:=n9_;clear n0_ n1_ n2_ n3_ n4_ n5_ n6_ n7_ n8_ n9_;clear hb hbox hg;have hnb13:=NB334_331.out;have hnc13:=NB331_334.out;have hnb14:=NB334_332.out;have hnc14:=NB332_334.out;have hcz15_0:w12.cell? ⟨gb334,0,none⟩=some (.int .i64 0):=(blk_cell BK334.out 0).trans rfl;have hcz15_1:w12.cell? ⟨gb334,1,none⟩=some (.int .i64 0):=(blk_cell BK334.out 1).trans rfl;have hcz15_2:w12.cell? ⟨gb334,2,none⟩=some (.bool false):=(blk_cell BK334.out 2).trans rfl;have hcz15_3:w12.cell? ⟨gb334,3,none⟩=some (.bool false):=(blk_cell BK334.out 3).trans rfl;have hcz15_4:w12.cell? ⟨gb334,4,none⟩=some (.int .i64 0):=(blk_cell BK334.out 4).trans rfl;have hfz15_0:=blk_frozen BK334.out 0;have hfz15_1:=blk_frozen BK334.out 1;have hfz15_2:=blk_frozen BK334.out 2;have hfz15_3:=blk_frozen BK334.out 3;have hfz15_4:=blk_frozen BK334.out 4;have hcz16_0:w12.cell? ⟨gb331,0,none⟩=some (.int .i64 a0_0):=(blk_cell BK331.out 0).trans rfl;have hcz16_1:w12.cell? ⟨gb331,1,none⟩=some (.slice A0_1 l0_1.length c0_1):=(blk_cell BK331.out 1).trans rfl;have hfz16_0:=blk_frozen BK331.out 0;have hfz16_1:=blk_frozen BK331.out 1;have hcz17_0:w12.cell? ⟨gb332,0,none⟩=some (.bool a1_0):=(blk_cell BK332.out 0).trans rfl;have hcz17_1:w12.cell? ⟨gb332,1,none⟩=some (.slice (some ad333) l1_1.length c1_1):=(blk_cell BK332.out 1).trans rfl;have hcz17_2:w12.cell? ⟨gb332,2,none⟩=some (.slice A1_2 l1_2.length c1_2):=(blk_cell BK332.out 2).trans rfl;have hfz17_0:=blk_frozen BK332.out 0;have hfz17_1:=blk_frozen BK332.out 1;have hfz17_2:=blk_frozen BK332.out 2)|((with_reducible refine gate_callee (f:=76) rfl ?_);refine goesL_ (some 17) rfl rfl Tryd.func76 (by kernel_rfl) rfl #[.agg #[.int .i64 a0_0,.slice A0_1 l0_1.length c0_1],.agg #[.bool a1_0,.slice (some ad333) l1_1.length c1_1,.slice A1_2 l1_2.length c1_2],.int .i64 a2] rfl (by (try simp only [List.map_toArray,List.map_cons,List.map_nil]);first|done|rfl|(simp only [List.length_drop,List.length_take];rfl)) ?_;(with_reducible refine (impl_dead.calls k a0_0 _ _ l0_1 a1_0 _ _ l1_1 _ _ l1_2 a2 true _ ?side1 ?side2 ?side3 ?side4 ?side5 ?side6 A6.out).mono ?_);(case side1=>exact Kd.C_below HR0_1.out (by repeat (first|(with_reducible first|exact HB.out|apply below_alloc|apply pw_below_drewN|apply below_drew1|refine below_set ?_ GE331.out|refine below_set ?_ GE332.out|refine below_set ?_ GE334.out)|exact HB.out)));(case side2=>exact HC0_1.out);(case side3=>exact Kd.C_below HR1_1.out (by repeat (first|(with_reducible first|exact HB.out|apply below_alloc|apply pw_below_drewN|apply below_drew1|refine below_set ?_ GE331.out|refine below_set ?_ GE332.out|refine below_set ?_ GE334.out)|exact HB.out)));(case side4=>exact HC1_1.out);(case side5=>exact Kd.C_below HR1_2.out (by repeat (first|(with_reducible first|exact HB.out|apply below_alloc|apply pw_below_drewN|apply below_drew1|refine below_set ?_ GE331.out|refine below_set ?_ GE332.out|refine below_set ?_ GE334.out)|exact HB.out)));(case side6=>exact HC1_2.out);rintro e w18 ⟨rfl,hb⟩;refine ⟨_,rfl,?_⟩;have n0_:=Aside0.mk (blk_below (g:=gb331) (o:=.cells #[.int .i64 a0_0,.slice A0_1 l0_1.length c0_1] 31 (0,0)) (by (with_reducible repeat (first|refine blk_drewN ?_ _|refine blk_drew ?_|refine blk_alloc ?_ _));refine blk_far ?_ NB331_334.out _;(with_reducible repeat (first|refine blk_drewN ?_ _|refine blk_drew ?_|refine blk_alloc ?_ _));refine blk_far ?_ NB331_334.out _;(with_reducible repeat (first|refine blk_drewN ?_ _|refine blk_drew ?_|refine blk_alloc ?_ _));refine blk_far ?_ NB331_334.out _;(with_reducible repeat (first|refine blk_drewN ?_ _|refine blk_drew ?_|refine blk_alloc ?_ _));refine blk_far ?_ NB331_334.out _;(with_reducible repeat (first|refine blk_drewN ?_ _|refine blk_drew ?_|refine blk_alloc ?_ _));refine blk_far ?_ NB331_334.out _;(with_reducible repeat (first|refine blk_drewN ?_ _|refine blk_drew ?_|refine blk_alloc ?_ _));exact BK331.out) hb);have n1_:=Aside0.mk (blk_below (g:=gb332) (o:=.cells #[.bool a1_0,.slice (some ad333) l1_1.length c1_1,.slice A1_2 l1_2.length c1_2] 83 (0,0)) (by (with_reducible repeat (first|refine blk_drewN ?_ _|refine blk_drew ?_|refine blk_alloc ?_ _));refine blk_far ?_ NB332_334.out _;(with_reducible repeat (first|refine blk_drewN ?_ _|refine blk_drew ?_|refine blk_alloc ?_ _));refine blk_far ?_ NB332_334.out _;(with_reducible repeat (first|refine blk_drewN ?_ _|refine blk_drew ?_|refine blk_alloc ?_ _));refine blk_far ?_ NB332_334.out _;(with_reducible repeat (first|refine blk_drewN ?_ _|refine blk_drew ?_|refine blk_alloc ?_ _));refine blk_far ?_ NB332_334.out _;(with_reducible repeat (first|refine blk_drewN ?_ _|refine blk_drew ?_|refine blk_alloc ?_ _));refine blk_far ?_ NB332_334.out _;(with_reducible repeat (first|refine blk_drewN ?_ _|refine blk_drew ?_|refine blk_alloc ?_ _));exact BK332.out) hb);have n2_:=Aside0.mk (blk_below (g:=gb334) (o:=.cells #[.int .i64 ((rd_T87 l1_1 a2).f0),.int .i64 ((rd_T87 l1_1 a2).f1),.bool ((rd_T87 l1_1 a2).f2),.bool ((rd_T87 l1_1 a2).f3),.int .i64 ((rd_T87 l1_1 a2).f4)] 87 (0,0)) (by (with_reducible repeat (first|refine blk_drewN ?_ _|refine blk_drew ?_|refine blk_alloc ?_ _));refine blk_put (cs:=#[.int .i64 ((rd_T87 l1_1 a2).f0),.int .i64 ((rd_T87 l1_1 a2).f1),.bool ((rd_T87 l1_1 a2).f2),.bool ((rd_T87 l1_1 a2).f3),.int .i64 0]) ?_ 4 _ rfl;(with_reducible repeat (first|refine blk_drewN ?_ _|refine blk_drew ?_|refine blk_alloc ?_ _));refine blk_put (cs:=#[.int .i64 ((rd_T87 l1_1 a2).f0),.int .i64 ((rd_T87 l1_1 a2).f1),.bool ((rd_T87 l1_1 a2).f2),.bool false,.int .i64 0]) ?_ 3 _ rfl;(with_reducible repeat (first|refine blk_drewN ?_ _|refine blk_drew ?_|refine blk_alloc ?_ _));refine blk_put (cs:=#[.int .i64 ((rd_T87 l1_1 a2).f0),.int .i64 ((rd_T87 l1_1 a2).f1),.bool false,.bool false,.int .i64 0]) ?_ 2 _ rfl;(with_reducible repeat (first|refine blk_drewN ?_ _|refine blk_drew ?_|refine blk_alloc ?_ _));refine blk_put (cs:=#[.int .i64 ((rd_T87 l1_1 a2).f0),.int .i64 0,.bool false,.bool false,.int .i64 0]) ?_ 1 _ rfl;(with_reducible repeat (first|refine blk_drewN ?_ _|refine blk_drew ?_|refine blk_alloc ?_ _));refine blk_put (cs:=#[.int .i64 0,.int .i64 0,.bool false,.bool false,.int .i64 0]) ?_ 0 _ rfl;(with_reducible repeat (first|refine blk_drewN ?_ _|refine blk_drew ?_|refine blk_alloc ?_ _));exact BK334.out) hb);have n3_:=Aside0.mk (below_step (by repeat (first|(with_reducible first|exact HB.out|apply below_alloc|apply pw_below_drewN|apply below_drew1|refine below_set ?_ GE331.out|refine below_set ?_ GE332.out|refine below_set ?_ GE334.out)|exact HB.out)) hb);clear BK331;clear BK332;clear BK334;clear HB;have BK331:=n0_;have BK332:=n1_;have BK334:=n2_;have HB:=n3_;clear n0_ n1_ n2_ n3_;(try clear hb);(try clear hb2);(try clear hk);(try clear hi)))
    go_ret
    exact ⟨by first|rfl|(simp [errW_none,errW_some] <;> rfl)|(simp [*,errW_none,errW_some] <;> rfl),by exact HB.out⟩
   replace c7:=Bool.eq_false_iff.mpr c7
   subst c7
   have H1:(if (rd_T87 l1_1 a2).f2=true then (impl_told.j0 k true ((rd_T87 l1_1 a2).f0) ((rd_T87 l1_1 a2).f1) ((rd_T87 l1_1 a2).f2) ((rd_T87 l1_1 a2).f3) ((rd_T87 l1_1 a2).f4)) else (if ((rd_T87 l1_1 a2).f1)=0 then (impl_told.j0 k false ((rd_T87 l1_1 a2).f0) ((rd_T87 l1_1 a2).f1) ((rd_T87 l1_1 a2).f2) ((rd_T87 l1_1 a2).f3) ((rd_T87 l1_1 a2).f4)) else (impl_told.j0 k (!((rd_T87 l1_1 a2).f3)) ((rd_T87 l1_1 a2).f0) ((rd_T87 l1_1 a2).f1) ((rd_T87 l1_1 a2).f2) ((rd_T87 l1_1 a2).f3) ((rd_T87 l1_1 a2).f4))))=some r:=by rw [if_neg (show ¬ (false=true) by decide)] at H;exact H
   clear H
   have H:=H1
   clear H1
   have HC19:=Aside0.mk H
   clear H
   go_enter Tryd.func77,Tryd.ntmps77
   go_upto_region 4 with (first|((with_reducible refine gate_dst (N:=3) rfl ?_);refine box_event ?hg (N:=3) ?hd (cs:=#[.int .i64 a0_0,.slice A0_1 l0_1.length c0_1]) (t:=31) ?hr ?_;(case hd=>rfl);(case hg=>rfl);(case hr=>first|(go_simp;done)|(go_simp;rfl));intro gb331 hg w20 hbox hb;have n0_:=Aside0.mk (below_step (by exact HB.out) hb);have n1_:=Aside0.mk (hbox);have n2_:=Aside0.mk ((by rw [hg];exact (below_size (by exact HB.out)):w.heap.size≤gb331));have n3_:=Aside0.mk ((by rw [hg];exact (below_size (by exact HB.out)):w.heap.size≤gb331));clear HB;have HB:=n0_;have BK331:=n1_;have GW331:=n2_;have GE331:=n3_;clear n0_ n1_ n2_ n3_;clear hb hbox hg)|((with_reducible refine gate_dst (N:=4) rfl ?_);refine box_event ?hg (N:=4) ?hd (cs:=#[.bool a1_0,.slice A1_1 l1_1.length c1_1,.slice A1_2 l1_2.length c1_2]) (t:=83) ?hr ?_;(case hd=>rfl);(case hg=>rfl);(case hr=>first|(go_simp;done)|(go_simp;rfl));intro gb332 hg w21 hbox hb;have n0_:=Aside0.mk (blk_below (g:=gb331) (o:=.cells #[.int .i64 a0_0,.slice A0_1 l0_1.length c0_1] 31 (0,0)) (by exact BK331.out) hb);have n1_:=Aside0.mk (below_step (by exact HB.out) hb);have n2_:=Aside0.mk (hbox);have n3_:=Aside0.mk ((by rw [hg];exact (below_size (by exact HB.out)):w.heap.size≤gb332));have n4_:=Aside0.mk ((by rw [hg];exact (below_size (by exact HB.out)):w.heap.size≤gb332));have n5_:=Aside0.mk ((by rw [hg];exact Nat.ne_of_lt (blk_lt (g:=gb331) (o:=.cells #[.int .i64 a0_0,.slice A0_1 l0_1.length c0_1] 31 (0,0)) (by exact BK331.out)):gb331 ≠ gb332));have n6_:=Aside0.mk ((by rw [hg];exact Nat.ne_of_gt (blk_lt (g:=gb331) (o:=.cells #[.int .i64 a0_0,.slice A0_1 l0_1.length c0_1] 31 (0,0)) (by exact BK331.out)):gb332 ≠ gb331));clear BK331;clear HB;have BK331:=n0_;have HB:=n1_;have BK332:=n2_;have GW332:=n3_;have GE332:=n4_;have NB331_332:=n5_;have NB332_331:=n6_;clear n0_ n1_ n2_ n3_ n4_ n5_ n6_;clear hb hbox hg;have hnb22:=NB332_331.out;have hnc22:=NB331_332.out;have hcz23_0:w21.cell? ⟨gb332,0,none⟩=some (.bool a1_0):=(blk_cell BK332.out 0).trans rfl;have hcz23_1:w21.cell? ⟨gb332,1,none⟩=some (.slice A1_1 l1_1.length c1_1):=(blk_cell BK332.out 1).trans rfl;have hcz23_2:w21.cell? ⟨gb332,2,none⟩=some (.slice A1_2 l1_2.length c1_2):=(blk_cell BK332.out 2).trans rfl;have hfz23_0:=blk_frozen BK332.out 0;have hfz23_1:=blk_frozen BK332.out 1;have hfz23_2:=blk_frozen BK332.out 2;have p333:0≤(a2:Int):=of_decide_eq_true (by first|(with_reducible assumption)|assumption);have q333:a2<(l1_1.length:Int):=of_decide_eq_true (by first|(with_reducible assumption)|assumption);obtain ⟨ad333,e333,hx333_0,hx333_1,hx333_2,hx333_3,hx333_4⟩:=at_T87 HR1_1.out a2 p333 q333;cases e333;replace hx333_0:=(HB.out.cell (World.block_lt_of_cell? w _ hx333_0)).trans hx333_0;replace hx333_1:=(HB.out.cell (World.block_lt_of_cell? w _ hx333_1)).trans hx333_1;replace hx333_2:=(HB.out.cell (World.block_lt_of_cell? w _ hx333_2)).trans hx333_2;replace hx333_3:=(HB.out.cell (World.block_lt_of_cell? w _ hx333_3)).trans hx333_3;replace hx333_4:=(HB.out.cell (World.block_lt_of_cell? w _ hx333_4)).trans hx333_4;replace p333:=eq_true p333;replace q333:=eq_true q333)|((with_reducible refine gate_dst (N:=7) rfl ?_);refine box_event ?hg (N:=7) ?hd (cs:=#[.int .i64 0,.int .i64 0,.bool false,.bool false,.int .i64 0]) (t:=87) ?hr ?_;(case hd=>rfl);(case hg=>rfl);(case hr=>first|(go_simp;done)|(go_simp;rfl));intro gb334 hg w24 hbox hb;have n0_:=Aside0.mk (blk_below (g:=gb331) (o:=.cells #[.int .i64 a0_0,.slice A0_1 l0_1.length c0_1] 31 (0,0)) (by exact BK331.out) hb);have n1_:=Aside0.mk (blk_below (g:=gb332) (o:=.cells #[.bool a1_0,.slice (some ad333) l1_1.length c1_1,.slice A1_2 l1_2.length c1_2] 83 (0,0)) (by exact BK332.out) hb);have n2_:=Aside0.mk (below_step (by exact HB.out) hb);have n3_:=Aside0.mk (hbox);have n4_:=Aside0.mk ((by rw [hg];exact (below_size (by exact HB.out)):w.heap.size≤gb334));have n5_:=Aside0.mk ((by rw [hg];exact (below_size (by exact HB.out)):w.heap.size≤gb334));have n6_:=Aside0.mk ((by rw [hg];exact Nat.ne_of_lt (blk_lt (g:=gb331) (o:=.cells #[.int .i64 a0_0,.slice A0_1 l0_1.length c0_1] 31 (0,0)) (by exact BK331.out)):gb331 ≠ gb334));have n7_:=Aside0.mk ((by rw [hg];exact Nat.ne_of_gt (blk_lt (g:=gb331) (o:=.cells #[.int .i64 a0_0,.slice A0_1 l0_1.length c0_1] 31 (0,0)) (by exact BK331.out)):gb334 ≠ gb331));have n8_:=Aside0.mk ((by rw [hg];exact Nat.ne_of_lt (blk_lt (g:=gb332) (o:=.cells #[.bool a1_0,.slice (some ad333) l1_1.length c1_1,.slice A1_2 l1_2.length c1_2] 83 (0,0)) (by (with_reducible repeat (first|refine blk_drewN ?_ _|refine blk_drew ?_|refine blk_alloc ?_ _));exact BK332.out)):gb332 ≠ gb334));have n9_:=Aside0.mk ((by rw [hg];exact Nat.ne_of_gt (blk_lt (g:=gb332) (o:=.cells #[.bool a1_0,.slice (some ad333) l1_1.length c1_1,.slice A1_2 l1_2.length c1_2] 83 (0,0)) (by (with_reducible repeat (first|refine blk_drewN ?_ _|refine blk_drew ?_|refine blk_alloc ?_ _));exact BK332.out)):gb334 ≠ gb332));clear BK331;clear BK332;clear HB;have BK331:=n0_;have BK332:=n1_;have HB:=n2_;have BK334:=n3_;have GW334:=n4_;have GE334:=n5_;have NB331_334:=n6_;have NB334_331:=n7_;have NB332_334:=n8_;have NB334_332:=n9_;clear n0_ n1_ n2_ n3_ n4_ n5_ n6_ n7_ n8_ n9_;clear hb hbox hg;have hnb25:=NB334_331.out;have hnc25:=NB331_334.out;have hnb26:=NB334_332.out;have hnc26:=NB332_334.out;have hcz27_0:w24.cell? ⟨gb334,0,none⟩=some (.int .i64 0):=(blk_cell BK334.out 0).trans rfl;have hcz27_1:w24.cell? ⟨gb334,1,none⟩=some (.int .i64 0):=(blk_cell BK334.out 1).trans rfl;have hcz27_2:w24.cell? ⟨gb334,2,none⟩=some (.bool false):=(blk_cell BK334.out 2).trans rfl;have hcz27_3:w24.cell? ⟨gb334,3,none⟩=some (.bool false):=(blk_cell BK334.out 3).trans rfl;have hcz27_4:w24.cell? ⟨gb334,4,none⟩=some (.int .i64 0):=(blk_cell BK334.out 4).trans rfl;have hfz27_0:=blk_frozen BK334.out 0;have hfz27_1:=blk_frozen BK334.out 1;have hfz27_2:=blk_frozen BK334.out 2;have hfz27_3:=blk_frozen BK334.out 3;have hfz27_4:=blk_frozen BK334.out 4;have hcz28_0:w24.cell? ⟨gb331,0,none⟩=some (.int .i64 a0_0):=(blk_cell BK331.out 0).trans rfl;have hcz28_1:w24.cell? ⟨gb331,1,none⟩=some (.slice A0_1 l0_1.length c0_1):=(blk_cell BK331.out 1).trans rfl;have hfz28_0:=blk_frozen BK331.out 0;have hfz28_1:=blk_frozen BK331.out 1;have hcz29_0:w24.cell? ⟨gb332,0,none⟩=some (.bool a1_0):=(blk_cell BK332.out 0).trans rfl;have hcz29_1:w24.cell? ⟨gb332,1,none⟩=some (.slice (some ad333) l1_1.length c1_1):=(blk_cell BK332.out 1).trans rfl;have hcz29_2:w24.cell? ⟨gb332,2,none⟩=some (.slice A1_2 l1_2.length c1_2):=(blk_cell BK332.out 2).trans rfl;have hfz29_0:=blk_frozen BK332.out 0;have hfz29_1:=blk_frozen BK332.out 1;have hfz29_2:=blk_frozen BK332.out 2)|((with_reducible refine gate_callee (f:=76) rfl ?_);refine goesL_ (some 17) rfl rfl Tryd.func76 (by kernel_rfl) rfl #[.agg #[.int .i64 a0_0,.slice A0_1 l0_1.length c0_1],.agg #[.bool a1_0,.slice (some ad333) l1_1.length c1_1,.slice A1_2 l1_2.length c1_2],.int .i64 a2] rfl (by (try simp only [List.map_toArray,List.map_cons,List.map_nil]);first|done|rfl|(simp only [List.length_drop,List.length_take];rfl)) ?_;(with_reducible refine (impl_dead.calls k a0_0 _ _ l0_1 a1_0 _ _ l1_1 _ _ l1_2 a2 false _ ?side1 ?side2 ?side3 ?side4 ?side5 ?side6 A6.out).mono ?_);(case side1=>exact Kd.C_below HR0_1.out (by repeat (first|(with_reducible first|exact HB.out|apply below_alloc|apply pw_below_drewN|apply below_drew1|refine below_set ?_ GE331.out|refine below_set ?_ GE332.out|refine below_set ?_ GE334.out)|exact HB.out)));(case side2=>exact HC0_1.out);(case side3=>exact Kd.C_below HR1_1.out (by repeat (first|(with_reducible first|exact HB.out|apply below_alloc|apply pw_below_drewN|apply below_drew1|refine below_set ?_ GE331.out|refine below_set ?_ GE332.out|refine below_set ?_ GE334.out)|exact HB.out)));(case side4=>exact HC1_1.out);(case side5=>exact Kd.C_below HR1_2.out (by repeat (first|(with_reducible first|exact HB.out|apply below_alloc|apply pw_below_drewN|apply below_drew1|refine below_set ?_ GE331.out|refine below_set ?_ GE332.out|refine below_set ?_ GE334.out)|exact HB.out)));(case side6=>exact HC1_2.out);rintro e w30 ⟨rfl,hb⟩;refine ⟨_,rfl,?_⟩;have n0_:=Aside0.mk (blk_below (g:=gb331) (o:=.cells #[.int .i64 a0_0,.slice A0_1 l0_1.length c0_1] 31 (0,0)) (by (with_reducible repeat (first|refine blk_drewN ?_ _|refine blk_drew ?_|refine blk_alloc ?_ _));refine blk_far ?_ NB331_334.out _;(with_reducible repeat (first|refine blk_drewN ?_ _|refine blk_drew ?_|refine blk_alloc ?_ _));refine blk_far ?_ NB331_334.out _;(with_reducible repeat (first|refine blk_drewN ?_ _|refine blk_drew ?_|refine blk_alloc ?_ _));refine blk_far ?_ NB331_334.out _;(with_reducible repeat (first|refine blk_drewN ?_ _|refine blk_drew ?_|refine blk_alloc ?_ _));refine blk_far ?_ NB331_334.out _;(with_reducible repeat (first|refine blk_drewN ?_ _|refine blk_drew ?_|refine blk_alloc ?_ _));refine blk_far ?_ NB331_334.out _;(with_reducible repeat (first|refine blk_drewN ?_ _|refine blk_drew ?_|refine blk_alloc ?_ _));exact BK331.out) hb);have n1_:=Aside0.mk (blk_below (g:=gb332) (o:=.cells #[.bool a1_0,.slice (some ad333) l1_1.length c1_1,.slice A1_2 l1_2.length c1_2] 83 (0,0)) (by (with_reducible repeat (first|refine blk_drewN ?_ _|refine blk_drew ?_|refine blk_alloc ?_ _));refine blk_far ?_ NB332_334.out _;(with_reducible repeat (first|refine blk_drewN ?_ _|refine blk_drew ?_|refine blk_alloc ?_ _));refine blk_far ?_ NB332_334.out _;(with_reducible repeat (first|refine blk_drewN ?_ _|refine blk_drew ?_|refine blk_alloc ?_ _));refine blk_far ?_ NB332_334.out _;(with_reducible repeat (first|refine blk_drewN ?_ _|refine blk_drew ?_|refine blk_alloc ?_ _));refine blk_far ?_ NB332_334.out _;(with_reducible repeat (first|refine blk_drewN ?_ _|refine blk_drew ?_|refine blk_alloc ?_ _));refine blk_far ?_ NB332_334.out _;(with_reducible repeat (first|refine blk_drewN ?_ _|refine blk_drew ?_|refine blk_alloc ?_ _));exact BK332.out) hb);have n2_:=Aside0.mk (blk_below (g:=gb334) (o:=.cells #[.int .i64 ((rd_T87 l1_1 a2).f0),.int .i64 ((rd_T87 l1_1 a2).f1),.bool ((rd_T87 l1_1 a2).f2),.bool ((rd_T87 l1_1 a2).f3),.int .i64 ((rd_T87 l1_1 a2).f4)] 87 (0,0)) (by (with_reducible repeat (first|refine blk_drewN ?_ _|refine blk_drew ?_|refine blk_alloc ?_ _));refine blk_put (cs:=#[.int .i64 ((rd_T87 l1_1 a2).f0),.int .i64 ((rd_T87 l1_1 a2).f1),.bool ((rd_T87 l1_1 a2).f2),.bool ((rd_T87 l1_1 a2).f3),.int .i64 0]) ?_ 4 _ rfl;(with_reducible repeat (first|refine blk_drewN ?_ _|refine blk_drew ?_|refine blk_alloc ?_ _));refine blk_put (cs:=#[.int .i64 ((rd_T87 l1_1 a2).f0),.int .i64 ((rd_T87 l1_1 a2).f1),.bool ((rd_T87 l1_1 a2).f2),.bool false,.int .i64 0]) ?_ 3 _ rfl;(with_reducible repeat (first|refine blk_drewN ?_ _|refine blk_drew ?_|refine blk_alloc ?_ _));refine blk_put (cs:=#[.int .i64 ((rd_T87 l1_1 a2).f0),.int .i64 ((rd_T87 l1_1 a2).f1),.bool false,.bool false,.int .i64 0]) ?_ 2 _ rfl;(with_reducible repeat (first|refine blk_drewN ?_ _|refine blk_drew ?_|refine blk_alloc ?_ _));refine blk_put (cs:=#[.int .i64 ((rd_T87 l1_1 a2).f0),.int .i64 0,.bool false,.bool false,.int .i64 0]) ?_ 1 _ rfl;(with_reducible repeat (first|refine blk_drewN ?_ _|refine blk_drew ?_|refine blk_alloc ?_ _));refine blk_put (cs:=#[.int .i64 0,.int .i64 0,.bool false,.bool false,.int .i64 0]) ?_ 0 _ rfl;(with_reducible repeat (first|refine blk_drewN ?_ _|refine blk_drew ?_|refine blk_alloc ?_ _));exact BK334.out) hb);have n3_:=Aside0.mk (below_step (by repeat (first|(with_reducible first|exact HB.out|apply below_alloc|apply pw_below_drewN|apply below_drew1|refine below_set ?_ GE331.out|refine below_set ?_ GE332.out|refine below_set ?_ GE334.out)|exact HB.out)) hb);clear BK331;clear BK332;clear BK334;clear HB;have BK331:=n0_;have BK332:=n1_;have BK334:=n2_;have HB:=n3_;clear n0_ n1_ n2_ n3_;(try clear hb);(try clear hb2);(try clear hk);(try clear hi)))
   (try simp only [Act.put,List.setIfInBounds_toArray,List.set_cons_zero,List.set_cons_succ])
   go_cut [18] (fun v18 wc=>∃ (kq:Nat) (x18_18:Bool),v18=.bool x18_18∧Aside0 (impl_told.j0 kq x18_18 ((rd_T87 l1_1 a2).f0) ((rd_T87 l1_1 a2).f1) ((rd_T87 l1_1 a2).f2) ((rd_T87 l1_1 a2).f3) ((rd_T87 l1_1 a2).f4)=some r)∧Aside0 (kq≤k)∧Aside0 (wc.heap[gb331]?=some (.cells #[.int .i64 a0_0,(.slice A0_1 l0_1.length c0_1)] 31 (0,0)))∧Aside0 (wc.heap[gb332]?=some (.cells #[.bool a1_0,(.slice (some ad333) l1_1.length c1_1),(.slice A1_2 l1_2.length c1_2)] 83 (0,0)))∧Aside0 (wc.heap[gb334]?=some (.cells #[.int .i64 ((rd_T87 l1_1 a2).f0),.int .i64 ((rd_T87 l1_1 a2).f1),.bool ((rd_T87 l1_1 a2).f2),.bool ((rd_T87 l1_1 a2).f3),.int .i64 ((rd_T87 l1_1 a2).f4)] 87 (0,0)))∧Aside0 (Below w.heap.size w wc))
   case first =>
    have H:=HC19.out
    clear HC19
    obtain ⟨bq31,hbq31⟩:∃ b_:Bool,b_=((rd_T87 l1_1 a2).f2):=⟨_,rfl⟩
    replace H:(if bq31=true then (impl_told.j0 k true ((rd_T87 l1_1 a2).f0) ((rd_T87 l1_1 a2).f1) bq31 ((rd_T87 l1_1 a2).f3) ((rd_T87 l1_1 a2).f4)) else (if ((rd_T87 l1_1 a2).f1)=0 then (impl_told.j0 k false ((rd_T87 l1_1 a2).f0) ((rd_T87 l1_1 a2).f1) bq31 ((rd_T87 l1_1 a2).f3) ((rd_T87 l1_1 a2).f4)) else (impl_told.j0 k (!((rd_T87 l1_1 a2).f3)) ((rd_T87 l1_1 a2).f0) ((rd_T87 l1_1 a2).f1) bq31 ((rd_T87 l1_1 a2).f3) ((rd_T87 l1_1 a2).f4))))=some r:=by rw [← hbq31] at H;exact H
    have Nbq31:=Aside0.mk hbq31
    clear hbq31
    (try rw [← Nbq31.out])
    by_cases c32:bq31=true
    ·subst c32
     have H1:(impl_told.j0 k true ((rd_T87 l1_1 a2).f0) ((rd_T87 l1_1 a2).f1) true ((rd_T87 l1_1 a2).f3) ((rd_T87 l1_1 a2).f4))=some r:=by rw [if_pos rfl] at H;exact H
     clear H
     have H:=H1
     clear H1
     have H':=Aside0.mk H
     clear H
     have hnb33:=NB334_331.out
     have hnc33:=NB331_334.out
     have hnb34:=NB334_332.out
     have hnc34:=NB332_334.out
     have hcz35_0:w30.cell? ⟨gb334,0,none⟩=some (.int .i64 ((rd_T87 l1_1 a2).f0)):=(blk_cell BK334.out 0).trans rfl
     have hcz35_1:w30.cell? ⟨gb334,1,none⟩=some (.int .i64 ((rd_T87 l1_1 a2).f1)):=(blk_cell BK334.out 1).trans rfl
     have hcz35_2:w30.cell? ⟨gb334,2,none⟩=some (.bool true):=(blk_cell BK334.out 2).trans (congrArg (fun b_=>some (Value.bool b_)) Nbq31.out.symm)
     have hcz35_3:w30.cell? ⟨gb334,3,none⟩=some (.bool ((rd_T87 l1_1 a2).f3)):=(blk_cell BK334.out 3).trans rfl
     have hcz35_4:w30.cell? ⟨gb334,4,none⟩=some (.int .i64 ((rd_T87 l1_1 a2).f4)):=(blk_cell BK334.out 4).trans rfl
     have hfz35_0:=blk_frozen BK334.out 0
     have hfz35_1:=blk_frozen BK334.out 1
     have hfz35_2:=blk_frozen BK334.out 2
     have hfz35_3:=blk_frozen BK334.out 3
     have hfz35_4:=blk_frozen BK334.out 4
     go_wp2
     go_meet
     case rel=>exact ⟨_,(true),(by first|rfl|(simp;done)|(simp [*];done)),(by first|exact H'|(rw [← Nbq31.out];exact H')),⟨by first|omega|exact Nat.le_refl _⟩,⟨by exact BK331.out⟩,⟨by exact BK332.out⟩,⟨by exact BK334.out⟩,⟨by exact HB.out⟩⟩
    replace c32:=Bool.eq_false_iff.mpr c32
    subst c32
    have H1:(if ((rd_T87 l1_1 a2).f1)=0 then (impl_told.j0 k false ((rd_T87 l1_1 a2).f0) ((rd_T87 l1_1 a2).f1) false ((rd_T87 l1_1 a2).f3) ((rd_T87 l1_1 a2).f4)) else (impl_told.j0 k (!((rd_T87 l1_1 a2).f3)) ((rd_T87 l1_1 a2).f0) ((rd_T87 l1_1 a2).f1) false ((rd_T87 l1_1 a2).f3) ((rd_T87 l1_1 a2).f4)))=some r:=by rw [if_neg (show ¬ (false=true) by decide)] at H;exact H
    clear H
    have H:=H1
    clear H1
    by_cases c36:((rd_T87 l1_1 a2).f1)=0
    ·rw [if_pos c36] at H
     have c36b0:(((rd_T87 l1_1 a2).f1)==0)=true:=beq_iff_eq.mpr c36
     have c36b1:(((rd_T87 l1_1 a2).f1) != 0)=false:=bne_eq_false_iff_eq.mpr c36
     clear c36
     have H':=Aside0.mk H
     clear H
     have hnb37:=NB334_331.out
     have hnc37:=NB331_334.out
     have hnb38:=NB334_332.out
     have hnc38:=NB332_334.out
     have hcz39_0:w30.cell? ⟨gb334,0,none⟩=some (.int .i64 ((rd_T87 l1_1 a2).f0)):=(blk_cell BK334.out 0).trans rfl
     have hcz39_1:w30.cell? ⟨gb334,1,none⟩=some (.int .i64 ((rd_T87 l1_1 a2).f1)):=(blk_cell BK334.out 1).trans rfl
     have hcz39_2:w30.cell? ⟨gb334,2,none⟩=some (.bool false):=(blk_cell BK334.out 2).trans (congrArg (fun b_=>some (Value.bool b_)) Nbq31.out.symm)
     have hcz39_3:w30.cell? ⟨gb334,3,none⟩=some (.bool ((rd_T87 l1_1 a2).f3)):=(blk_cell BK334.out 3).trans rfl
     have hcz39_4:w30.cell? ⟨gb334,4,none⟩=some (.int .i64 ((rd_T87 l1_1 a2).f4)):=(blk_cell BK334.out 4).trans rfl
     have hfz39_0:=blk_frozen BK334.out 0
     have hfz39_1:=blk_frozen BK334.out 1
     have hfz39_2:=blk_frozen BK334.out 2
     have hfz39_3:=blk_frozen BK334.out 3
     have hfz39_4:=blk_frozen BK334.out 4
     go_wp2
     go_meet
     case rel=>exact ⟨_,(false),(by first|rfl|(simp;done)|(simp [*];done)),(by first|exact H'|(rw [← Nbq31.out];exact H')),⟨by first|omega|exact Nat.le_refl _⟩,⟨by exact BK331.out⟩,⟨by exact BK332.out⟩,⟨by exact BK334.out⟩,⟨by exact HB.out⟩⟩
    rw [if_neg c36] at H
    have c36b0:(((rd_T87 l1_1 a2).f1)==0)=false:=beq_eq_false_iff_ne.mpr c36
    have c36b1:(((rd_T87 l1_1 a2).f1) != 0)=true:=bne_iff_ne.mpr c36
    have H':=Aside0.mk H
    clear H
    have hnb40:=NB334_331.out
    have hnc40:=NB331_334.out
    have hnb41:=NB334_332.out
    have hnc41:=NB332_334.out
    have hcz42_0:w30.cell? ⟨gb334,0,none⟩=some (.int .i64 ((rd_T87 l1_1 a2).f0)):=(blk_cell BK334.out 0).trans rfl
    have hcz42_1:w30.cell? ⟨gb334,1,none⟩=some (.int .i64 ((rd_T87 l1_1 a2).f1)):=(blk_cell BK334.out 1).trans rfl
    have hcz42_2:w30.cell? ⟨gb334,2,none⟩=some (.bool false):=(blk_cell BK334.out 2).trans (congrArg (fun b_=>some (Value.bool b_)) Nbq31.out.symm)
    have hcz42_3:w30.cell? ⟨gb334,3,none⟩=some (.bool ((rd_T87 l1_1 a2).f3)):=(blk_cell BK334.out 3).trans rfl
    have hcz42_4:w30.cell? ⟨gb334,4,none⟩=some (.int .i64 ((rd_T87 l1_1 a2).f4)):=(blk_cell BK334.out 4).trans rfl
    have hfz42_0:=blk_frozen BK334.out 0
    have hfz42_1:=blk_frozen BK334.out 1
    have hfz42_2:=blk_frozen BK334.out 2
    have hfz42_3:=blk_frozen BK334.out 3
    have hfz42_4:=blk_frozen BK334.out 4
    go_wp2
    go_meet
    case rel=>exact ⟨_,(!((rd_T87 l1_1 a2).f3)),(by first|rfl|(simp;done)|(simp [*];done)),(by first|exact H'|(rw [← Nbq31.out];exact H')),⟨by first|omega|exact Nat.le_refl _⟩,⟨by exact BK331.out⟩,⟨by exact BK332.out⟩,⟨by exact BK334.out⟩,⟨by exact HB.out⟩⟩
   case rest =>
    clear HC19
    try clear c1
    try clear c2
    try clear p2
    try clear c3
    try clear p3
    try clear q3
    try clear hx3
    try clear c4
    try clear c4b0
    try clear c5
    try clear c5b0
    try clear c7
    try clear c9
    try clear c10
    try clear c13
    try clear c14
    try clear c22
    try clear c25
    try clear c26
    try clear q31
    try clear c32
    try clear c33
    try clear p33
    try clear q33
    try clear hx33
    try clear c34
    try clear c36
    try clear c36b0
    try clear c36b1
    try clear c37
    try clear c38
    try clear c40
    try clear c41
    try clear hcz11_0
    try clear hcz11_1
    try clear hcz11_2
    try clear hcz15_0
    try clear hcz15_1
    try clear hcz15_2
    try clear hcz15_3
    try clear hcz15_4
    try clear hcz16_0
    try clear hcz16_1
    try clear hcz17_0
    try clear hcz17_1
    try clear hcz17_2
    try clear hcz23_0
    try clear hcz23_1
    try clear hcz23_2
    try clear hcz27_0
    try clear hcz27_1
    try clear hcz27_2
    try clear hcz27_3
    try clear hcz27_4
    try clear hcz28_0
    try clear hcz28_1
    try clear hcz29_0
    try clear hcz29_1
    try clear hcz29_2
    try clear hcz35_0
    try clear hcz35_1
    try clear hcz35_2
    try clear hcz35_3
    try clear hcz35_4
    try clear hcz39_0
    try clear hcz39_1
    try clear hcz39_2
    try clear hcz39_3
    try clear hcz39_4
    try clear hcz42_0
    try clear hcz42_1
    try clear hcz42_2
    try clear hcz42_3
    try clear hcz42_4
    try clear hfz11_0
    try clear hfz11_1
    try clear hfz11_2
    try clear hfz15_0
    try clear hfz15_1
    try clear hfz15_2
    try clear hfz15_3
    try clear hfz15_4
    try clear hfz16_0
    try clear hfz16_1
    try clear hfz17_0
    try clear hfz17_1
    try clear hfz17_2
    try clear hfz23_0
    try clear hfz23_1
    try clear hfz23_2
    try clear hfz27_0
    try clear hfz27_1
    try clear hfz27_2
    try clear hfz27_3
    try clear hfz27_4
    try clear hfz28_0
    try clear hfz28_1
    try clear hfz29_0
    try clear hfz29_1
    try clear hfz29_2
    try clear hfz35_0
    try clear hfz35_1
    try clear hfz35_2
    try clear hfz35_3
    try clear hfz35_4
    try clear hfz39_0
    try clear hfz39_1
    try clear hfz39_2
    try clear hfz39_3
    try clear hfz39_4
    try clear hfz42_0
    try clear hfz42_1
    try clear hfz42_2
    try clear hfz42_3
    try clear hfz42_4
    try clear hx333_0
    try clear hx333_1
    try clear hx333_2
    try clear hx333_3
    try clear hx333_4
    try clear p333
    try clear q333
    obtain ⟨kq,x18_18,rfl,HA,HJ18,BK331,BK332,BK334,HB⟩:=hcut
    cases kq with
    | zero=>exact absurd HA.out (by simp [impl_told.j0])
    | succ kj18 =>
     have H:=HA.out
     clear HA
     simp only [impl_told.j0] at H
     by_cases c43:x18_18=true
     ·subst c43
      have H1:(some 1)=some r:=by rw [if_pos rfl] at H;exact H
      clear H
      have H:=H1
      clear H1
      obtain rfl:=Option.some.inj H
      go_wp2
      go_ret
      exact ⟨by first|rfl|(simp [errW_none,errW_some] <;> rfl)|(simp [*,errW_none,errW_some] <;> rfl),by exact HB.out⟩
     replace c43:=Bool.eq_false_iff.mpr c43
     subst c43
     have H1:(if ((rd_T87 l1_1 a2).f3)=true then (some 2) else (some 0))=some r:=by rw [if_neg (show ¬ (false=true) by decide)] at H;exact H
     clear H
     have H:=H1
     clear H1
     by_cases c44:((rd_T87 l1_1 a2).f3)=true
     ·rw [if_pos c44] at H
      have c44b0:((rd_T87 l1_1 a2).f3)=true:=c44
      clear c44
      obtain rfl:=Option.some.inj H
      have hnb45:=NB334_331.out
      have hnc45:=NB331_334.out
      have hnb46:=NB334_332.out
      have hnc46:=NB332_334.out
      have hcz47_0:wc.cell? ⟨gb334,0,none⟩=some (.int .i64 ((rd_T87 l1_1 a2).f0)):=(blk_cell BK334.out 0).trans rfl
      have hcz47_1:wc.cell? ⟨gb334,1,none⟩=some (.int .i64 ((rd_T87 l1_1 a2).f1)):=(blk_cell BK334.out 1).trans rfl
      have hcz47_2:wc.cell? ⟨gb334,2,none⟩=some (.bool ((rd_T87 l1_1 a2).f2)):=(blk_cell BK334.out 2).trans rfl
      have hcz47_3:wc.cell? ⟨gb334,3,none⟩=some (.bool ((rd_T87 l1_1 a2).f3)):=(blk_cell BK334.out 3).trans rfl
      have hcz47_4:wc.cell? ⟨gb334,4,none⟩=some (.int .i64 ((rd_T87 l1_1 a2).f4)):=(blk_cell BK334.out 4).trans rfl
      have hfz47_0:=blk_frozen BK334.out 0
      have hfz47_1:=blk_frozen BK334.out 1
      have hfz47_2:=blk_frozen BK334.out 2
      have hfz47_3:=blk_frozen BK334.out 3
      have hfz47_4:=blk_frozen BK334.out 4
      go_wp2
      go_ret
      exact ⟨by first|rfl|(simp [errW_none,errW_some] <;> rfl)|(simp [*,errW_none,errW_some] <;> rfl),by exact HB.out⟩
     rw [if_neg c44] at H
     have c44b0:((rd_T87 l1_1 a2).f3)=false:=by simpa using c44
     clear c44
     obtain rfl:=Option.some.inj H
     have hnb48:=NB334_331.out
     have hnc48:=NB331_334.out
     have hnb49:=NB334_332.out
     have hnc49:=NB332_334.out
     have hcz50_0:wc.cell? ⟨gb334,0,none⟩=some (.int .i64 ((rd_T87 l1_1 a2).f0)):=(blk_cell BK334.out 0).trans rfl
     have hcz50_1:wc.cell? ⟨gb334,1,none⟩=some (.int .i64 ((rd_T87 l1_1 a2).f1)):=(blk_cell BK334.out 1).trans rfl
     have hcz50_2:wc.cell? ⟨gb334,2,none⟩=some (.bool ((rd_T87 l1_1 a2).f2)):=(blk_cell BK334.out 2).trans rfl
     have hcz50_3:wc.cell? ⟨gb334,3,none⟩=some (.bool ((rd_T87 l1_1 a2).f3)):=(blk_cell BK334.out 3).trans rfl
     have hcz50_4:wc.cell? ⟨gb334,4,none⟩=some (.int .i64 ((rd_T87 l1_1 a2).f4)):=(blk_cell BK334.out 4).trans rfl
     have hfz50_0:=blk_frozen BK334.out 0
     have hfz50_1:=blk_frozen BK334.out 1
     have hfz50_2:=blk_frozen BK334.out 2
     have hfz50_3:=blk_frozen BK334.out 3
     have hfz50_4:=blk_frozen BK334.out 4
     go_wp2
     go_ret
     exact ⟨by first|rfl|(simp [errW_none,errW_some] <;> rfl)|(simp [*,errW_none,errW_some] <;> rfl),by exact HB.out⟩
  rw [if_neg c5] at H
  exact absurd H (by simp)
 rw [if_neg c4] at H
 exact absurd H (by simp)
end Go.Proofs.YtpdnabhpkdchjaaDoor.P
namespace Go.Proofs.YtpdnabhpkdchjaaDoor.P
open Go.RowKit Go.Proofs.YtpdnabhpkdchjaaDoorW.PrintWords Go.Proofs.YtpdnabhpkdchjaaDoorW.PrintLast Go.Proofs.YtpdnabhpkdchjaaDoorW.PrintMore
attribute [local go_sem] max2_int min2_int max_two min_two max_three min_three max_four min_four
set_option linter.unusedVariables false
set_option linter.unusedSimpArgs false
def spec_l2dead.l0:Nat→List Bool→List Int→Int→Int→Option (Bool)
 | 0,_,_,_,_=>none
 | k+1,x1,x11,x12,x13=>if x13<x12 then (if 0≤x13 then (if x13<(x11.length:Int) then (if 0≤(rd x11 x13) then (if (rd x11 x13)<(x1.length:Int) then (if rdOf false x1 (rd x11 x13)=true then (some true) else (spec_l2dead.l0 k x1 x11 x12 (wrap64 (x13+1)))) else (none)) else (none)) else (none)) else (none)) else (some false)
def spec_l2dead.f (k:Nat) (a0_0:Int) (l0_1:List (S98)) (l1:List Bool) (a2:Int):Option (Bool):=(spec_Around.f k a0_0 l0_1 a2).bind fun t351=>(spec_l2dead.l0 k l1 t351 (t351.length:Int) 0)
set_option maxHeartbeats 8000000 in
set_option maxRecDepth 100000 in
theorem spec_l2dead.calls (k:Nat) (a0_0:Int) (A0_1:Option Addr) (c0_1:Nat) (l0_1:List (S98)) (A1:Option Addr) (c1:Nat) (l1:List Bool) (a2:Int) (r:Bool) (w:World) (hr0_1:Kd.C k98 w A0_1 l0_1.length l0_1) (hc0_1:l0_1.length≤c0_1) (hr1:Kd.C Kd.bool w A1 l1.length l1) (hc1:l1.length≤c1) (h:spec_l2dead.f k a0_0 l0_1 l1 a2=some r) :
  Calls Tryd.prog 71 #[.agg #[.int .i64 a0_0,.slice A0_1 l0_1.length c0_1],.slice A1 l1.length c1,.int .i64 a2] w fun e w'=>e=.returned (.bool r)∧Below w.heap.size w w':=by
 have hu31:=Tryd.underlying31
 have HR0_1:=Aside0.mk hr0_1
 have HC0_1:=Aside0.mk hc0_1
 clear hr0_1 hc0_1
 have HR1:=Aside0.mk hr1
 have HC1:=Aside0.mk hc1
 clear hr1 hc1
 have HB:=Aside0.mk (Below.refl w.heap.size w)
 have H:((spec_Around.f k a0_0 l0_1 a2).bind fun t351=>(spec_l2dead.l0 k l1 t351 (t351.length:Int) 0))=some r:=h
 clear h
 replace H:=Option.bind_eq_some_iff.mp H
 obtain ⟨t351,A40,H⟩:=H
 replace H:(spec_l2dead.l0 k l1 t351 (t351.length:Int) 0)=some r:=H
 have A4:=Aside0.mk A40
 clear A40
 have H':=Aside0.mk H
 clear H
 go_enter Tryd.func71,Tryd.ntmps71
 go_wp2_with (first|((with_reducible refine gate_dst (N:=3) rfl ?_);refine box_event ?hg (N:=3) ?hd (cs:=#[.int .i64 a0_0,.slice A0_1 l0_1.length c0_1]) (t:=31) ?hr ?_;(case hd=>rfl);(case hg=>rfl);(case hr=>first|(go_simp;done)|(go_simp;rfl));intro gb350 hg w5 hbox hb;have n0_:=Aside0.mk (below_step (by repeat (first|(with_reducible first|exact HB.out|apply below_alloc|apply pw_below_drewN|apply below_drew1)|exact HB.out)) hb);have n1_:=Aside0.mk (hbox);have n2_:=Aside0.mk ((by rw [hg];exact (below_size (by repeat (first|(with_reducible first|exact HB.out|apply below_alloc|apply pw_below_drewN|apply below_drew1)|exact HB.out))):w.heap.size≤gb350));have n3_:=Aside0.mk ((by rw [hg];exact (below_size (by repeat (first|(with_reducible first|exact HB.out|apply below_alloc|apply pw_below_drewN|apply below_drew1)|exact HB.out))):w.heap.size≤gb350));clear HB;have HB:=n0_;have BK350:=n1_;have GW350:=n2_;have GE350:=n3_;clear n0_ n1_ n2_ n3_;clear hb hbox hg;have hcz6_0:w5.cell? ⟨gb350,0,none⟩=some (.int .i64 a0_0):=(blk_cell BK350.out 0).trans rfl;have hcz6_1:w5.cell? ⟨gb350,1,none⟩=some (.slice A0_1 l0_1.length c0_1):=(blk_cell BK350.out 1).trans rfl;have hfz6_0:=blk_frozen BK350.out 0;have hfz6_1:=blk_frozen BK350.out 1)|((with_reducible refine gate_callee (f:=79) rfl ?_);refine goesL_ (some 11) rfl rfl Tryd.func79 (by kernel_rfl) rfl #[.agg #[.int .i64 a0_0,.slice A0_1 l0_1.length c0_1],.int .i64 a2] rfl (by (try simp only [List.map_toArray,List.map_cons,List.map_nil]);first|done|rfl|(simp only [List.length_drop,List.length_take];rfl)) ?_;(with_reducible refine (spec_Around.calls k a0_0 _ _ l0_1 a2 t351 _ ?side1 ?side2 A4.out).mono ?_);(case side1=>repeat (first|exact (Kd.C_below HR0_1.out HB.out)|(with_reducible refine Kd.C_alloc ?_ _)|(with_reducible refine Kd.C_drewN ?_ _)|(with_reducible refine Kd.C_drew ?_)));(case side2=>exact HC0_1.out);rintro e w7 ⟨v352,rfl,ho0,hb⟩;refine ⟨_,rfl,?_⟩;have n0_:=Aside0.mk (Kd.R_lower ho0 (below_size (by repeat (first|(with_reducible first|exact HB.out|apply below_alloc|apply pw_below_drewN|apply below_drew1|refine below_set ?_ GE350.out)|exact HB.out))));have n1_:=Aside0.mk (blk_below (g:=gb350) (o:=.cells #[.int .i64 a0_0,.slice A0_1 l0_1.length c0_1] 31 (0,0)) (by (with_reducible repeat (first|refine blk_drewN ?_ _|refine blk_drew ?_|refine blk_alloc ?_ _));exact BK350.out) hb);have n2_:=Aside0.mk (below_step (by repeat (first|(with_reducible first|exact HB.out|apply below_alloc|apply pw_below_drewN|apply below_drew1|refine below_set ?_ GE350.out)|exact HB.out)) hb);clear BK350;clear HB;have HO353:=n0_;have BK350:=n1_;have HB:=n2_;clear n0_ n1_ n2_;(try clear hb);(try clear hb2);(try clear hk);(try clear hi);(try clear ho0);obtain ⟨Ao8,co8,eo8⟩:=Kd.R_slice HO353.out;subst eo8))
 go_loopg [13] k (fun kq v13 w'=>∃ (x13_1:Int),v13=.int .i64 x13_1∧Aside0 (spec_l2dead.l0 kq l1 t351 (t351.length:Int) x13_1=some r)∧Aside0 (kq≤k)∧Aside0 (Kd.R (Kd.int .i64) 3 w' w.heap.size (fun _=>True) (.slice Ao8 t351.length co8) t351)∧Aside0 (w'.heap[gb350]?=some (.cells #[.int .i64 a0_0,(.slice A0_1 l0_1.length c0_1)] 31 (0,0)))∧Aside0 (Below w.heap.size w w'))
 case atStart=>exact ⟨(0),(by first|rfl|(simp;done)|(simp [*];done)),H',⟨Nat.le_refl _⟩,⟨by (with_reducible repeat (first|apply Kd.R_alloc|apply Kd.R_drewN|apply Kd.R_drew));exact HO353.out⟩,⟨by (with_reducible repeat (first|refine blk_drewN ?_ _|refine blk_drew ?_|refine blk_alloc ?_ _));exact BK350.out⟩,⟨by repeat (first|(with_reducible first|exact HB.out|apply below_alloc|apply pw_below_drewN|apply below_drew1|refine below_set ?_ GE350.out)|exact HB.out)⟩⟩
 case round =>
  clear H'
  try clear c1
  try clear p2
  try clear c7
  try clear hcz6_0
  try clear hcz6_1
  try clear hfz6_0
  try clear hfz6_1
  obtain ⟨x13_1,rfl,HA,HK1,HO_11,BK350,HB⟩:=hrel
  cases gk with
  | zero=>exact absurd HA.out (by simp [spec_l2dead.l0])
  | succ k1 =>
   have H:=HA.out
   clear HA
   simp only [spec_l2dead.l0] at H
   by_cases c9:x13_1<(t351.length:Int)
   ·rw [if_pos c9] at H
    have c9b0:decide (x13_1<(t351.length:Int))=true:=decide_eq_true c9
    clear c9
    by_cases c10:0≤x13_1
    ·rw [if_pos c10] at H
     have c10b0:decide (0≤x13_1)=true:=decide_eq_true c10
     clear c10
     by_cases c11:x13_1<(t351.length:Int)
     ·rw [if_pos c11] at H
      have c11b0:decide (x13_1<(t351.length:Int))=true:=decide_eq_true c11
      clear c11
      by_cases c12:0≤(rd t351 x13_1)
      ·rw [if_pos c12] at H
       have c12b0:decide (0≤(rd t351 x13_1))=true:=decide_eq_true c12
       clear c12
       by_cases c13:(rd t351 x13_1)<(l1.length:Int)
       ·rw [if_pos c13] at H
        have c13b0:decide ((rd t351 x13_1)<(l1.length:Int))=true:=decide_eq_true c13
        clear c13
        obtain ⟨bq14,hbq14⟩:∃ b_:Bool,b_=(rdOf false l1 (rd t351 x13_1)):=⟨_,rfl⟩
        replace H:(if bq14=true then (some true) else (spec_l2dead.l0 k1 l1 t351 (t351.length:Int) (wrap64 (x13_1+1))))=some r:=by rw [← hbq14] at H;exact H
        have Nbq14:=Aside0.mk hbq14
        clear hbq14
        by_cases c15:bq14=true
        ·subst c15
         have H1:(some true)=some r:=by rw [if_pos rfl] at H;exact H
         clear H
         have H:=H1
         clear H1
         obtain rfl:=Option.some.inj H
         have p354:0≤(x13_1:Int):=of_decide_eq_true (by first|(with_reducible assumption)|assumption)
         have q354:x13_1<(t351.length:Int):=of_decide_eq_true (by first|(with_reducible assumption)|assumption)
         obtain ⟨ad354,e354,hx354_0⟩:=Kd.at_int (Kd.R_reads' HO_11.out).2.2 x13_1 p354 q354
         cases e354
         replace p354:=eq_true p354
         replace q354:=eq_true q354
         have p355:0≤((rd t351 x13_1):Int):=of_decide_eq_true (by first|(with_reducible assumption)|assumption)
         have q355:(rd t351 x13_1)<(l1.length:Int):=of_decide_eq_true (by first|(with_reducible assumption)|assumption)
         obtain ⟨ad355,e355,hx355_0⟩:=Kd.at_bool HR1.out (rd t351 x13_1) p355 q355
         (try rw [← Nbq14.out] at hx355_0)
         cases e355
         replace hx355_0:=(HB.out.cell (World.block_lt_of_cell? w _ hx355_0)).trans hx355_0
         replace p355:=eq_true p355
         replace q355:=eq_true q355
         go_wp2
         go_ret
         exact ⟨by first|rfl|(simp [errW_none,errW_some] <;> rfl)|(simp [*,errW_none,errW_some] <;> rfl),by repeat (first|(with_reducible first|exact HB.out|apply below_alloc|apply pw_below_drewN|apply below_drew1|refine below_set ?_ GE350.out)|exact HB.out)⟩
        replace c15:=Bool.eq_false_iff.mpr c15
        subst c15
        have H1:(spec_l2dead.l0 k1 l1 t351 (t351.length:Int) (wrap64 (x13_1+1)))=some r:=by rw [if_neg (show ¬ (false=true) by decide)] at H;exact H
        clear H
        have H:=H1
        clear H1
        have H':=Aside0.mk H
        clear H
        have p354:0≤(x13_1:Int):=of_decide_eq_true (by first|(with_reducible assumption)|assumption)
        have q354:x13_1<(t351.length:Int):=of_decide_eq_true (by first|(with_reducible assumption)|assumption)
        obtain ⟨ad354,e354,hx354_0⟩:=Kd.at_int (Kd.R_reads' HO_11.out).2.2 x13_1 p354 q354
        cases e354
        replace p354:=eq_true p354
        replace q354:=eq_true q354
        have p355:0≤((rd t351 x13_1):Int):=of_decide_eq_true (by first|(with_reducible assumption)|assumption)
        have q355:(rd t351 x13_1)<(l1.length:Int):=of_decide_eq_true (by first|(with_reducible assumption)|assumption)
        obtain ⟨ad355,e355,hx355_0⟩:=Kd.at_bool HR1.out (rd t351 x13_1) p355 q355
        (try rw [← Nbq14.out] at hx355_0)
        cases e355
        replace hx355_0:=(HB.out.cell (World.block_lt_of_cell? w _ hx355_0)).trans hx355_0
        replace p355:=eq_true p355
        replace q355:=eq_true q355
        go_wp2
        go_roundg k1
        case measure=>have:=HK1.out;omega
        case rel=>exact ⟨(wrap64 (x13_1+1)),(by first|rfl|(simp;done)|(simp [*];done)),H',⟨by have:=HK1.out;omega⟩,⟨by (with_reducible repeat (first|apply Kd.R_alloc|apply Kd.R_drewN|apply Kd.R_drew));exact HO_11.out⟩,⟨by (with_reducible repeat (first|refine blk_drewN ?_ _|refine blk_drew ?_|refine blk_alloc ?_ _));exact BK350.out⟩,⟨by repeat (first|(with_reducible first|exact HB.out|apply below_alloc|apply pw_below_drewN|apply below_drew1|refine below_set ?_ GE350.out)|exact HB.out)⟩⟩
       rw [if_neg c13] at H
       exact absurd H (by simp)
      rw [if_neg c12] at H
      exact absurd H (by simp)
     rw [if_neg c11] at H
     exact absurd H (by simp)
    rw [if_neg c10] at H
    exact absurd H (by simp)
   rw [if_neg c9] at H
   have c9b0:decide (x13_1<(t351.length:Int))=false:=decide_eq_false c9
   clear c9
   obtain rfl:=Option.some.inj H
   go_wp2
   go_ret
   exact ⟨by first|rfl|(simp [errW_none,errW_some] <;> rfl)|(simp [*,errW_none,errW_some] <;> rfl),by repeat (first|(with_reducible first|exact HB.out|apply below_alloc|apply pw_below_drewN|apply below_drew1|refine below_set ?_ GE350.out)|exact HB.out)⟩
end Go.Proofs.YtpdnabhpkdchjaaDoor.P
namespace Go.Proofs.YtpdnabhpkdchjaaDoor.P
open Go.RowKit Go.Proofs.YtpdnabhpkdchjaaDoorW.PrintWords Go.Proofs.YtpdnabhpkdchjaaDoorW.PrintLast Go.Proofs.YtpdnabhpkdchjaaDoorW.PrintMore
attribute [local go_sem] max2_int min2_int max_two min_two max_three min_three max_four min_four
set_option linter.unusedVariables false
set_option linter.unusedSimpArgs false
def spec_l2told.j0:Nat→Bool→Int→Int→Bool→Bool→Int→Option (Int)
 | 0,_,_,_,_,_,_=>none
 | k+1,x24,x358000,x358001,x358002,x358003,x358004=>if x24=true then (some 1) else (if x358003=true then (some 2) else (some 0))
def spec_l2told.f (k:Nat) (a0_0:Int) (l0_1:List (S98)) (l1:List Bool) (a2:Int) (a3_0:Int) (a3_1:Int) (a3_2:Bool) (a3_3:Bool) (a3_4:Int):Option (Int):=(spec_l2dead.f k a0_0 l0_1 l1 a2).bind fun t358=>(if t358=true then (some 3) else (if a3_2=true then (spec_l2told.j0 k true a3_0 a3_1 a3_2 a3_3 a3_4) else (if a3_1=0 then (spec_l2told.j0 k false a3_0 a3_1 a3_2 a3_3 a3_4) else (spec_l2told.j0 k (!a3_3) a3_0 a3_1 a3_2 a3_3 a3_4))))
set_option maxHeartbeats 8000000 in
set_option maxRecDepth 100000 in
theorem spec_l2told.calls (k:Nat) (a0_0:Int) (A0_1:Option Addr) (c0_1:Nat) (l0_1:List (S98)) (A1:Option Addr) (c1:Nat) (l1:List Bool) (a2:Int) (a3_0:Int) (a3_1:Int) (a3_2:Bool) (a3_3:Bool) (a3_4:Int) (r:Int) (w:World) (hr0_1:Kd.C k98 w A0_1 l0_1.length l0_1) (hc0_1:l0_1.length≤c0_1) (hr1:Kd.C Kd.bool w A1 l1.length l1) (hc1:l1.length≤c1) (h:spec_l2told.f k a0_0 l0_1 l1 a2 a3_0 a3_1 a3_2 a3_3 a3_4=some r) :
  Calls Tryd.prog 72 #[.agg #[.int .i64 a0_0,.slice A0_1 l0_1.length c0_1],.slice A1 l1.length c1,.int .i64 a2,.agg #[.int .i64 a3_0,.int .i64 a3_1,.bool a3_2,.bool a3_3,.int .i64 a3_4]] w fun e w'=>e=.returned (.int .i64 r)∧Below w.heap.size w w':=by
 have hu31:=Tryd.underlying31
 have hu87:=Tryd.underlying87
 have HR0_1:=Aside0.mk hr0_1
 have HC0_1:=Aside0.mk hc0_1
 clear hr0_1 hc0_1
 have HR1:=Aside0.mk hr1
 have HC1:=Aside0.mk hc1
 clear hr1 hc1
 have HB:=Aside0.mk (Below.refl w.heap.size w)
 have H:((spec_l2dead.f k a0_0 l0_1 l1 a2).bind fun t358=>(if t358=true then (some 3) else (if a3_2=true then (spec_l2told.j0 k true a3_0 a3_1 a3_2 a3_3 a3_4) else (if a3_1=0 then (spec_l2told.j0 k false a3_0 a3_1 a3_2 a3_3 a3_4) else (spec_l2told.j0 k (!a3_3) a3_0 a3_1 a3_2 a3_3 a3_4)))))=some r:=h
 clear h
 replace H:=Option.bind_eq_some_iff.mp H
 obtain ⟨t358,A50,H⟩:=H
 replace H:(if t358=true then (some 3) else (if a3_2=true then (spec_l2told.j0 k true a3_0 a3_1 a3_2 a3_3 a3_4) else (if a3_1=0 then (spec_l2told.j0 k false a3_0 a3_1 a3_2 a3_3 a3_4) else (spec_l2told.j0 k (!a3_3) a3_0 a3_1 a3_2 a3_3 a3_4))))=some r:=H
 have A5:=Aside0.mk A50
 clear A50
 by_cases c6:t358=true
 ·subst c6
  have H1:(some 3)=some r:=by rw [if_pos rfl] at H;exact H
  clear H
  have H:=H1
  clear H1
  obtain rfl:=Option.some.inj H
  go_enter Tryd.func72,Tryd.ntmps72
  go_wp2_with (first|((with_reducible refine gate_dst (N:=4) rfl ?_);refine box_event ?hg (N:=4) ?hd (cs:=#[.int .i64 a0_0,.slice A0_1 l0_1.length c0_1]) (t:=31) ?hr ?_;(case hd=>rfl);(case hg=>rfl);(case hr=>first|(go_simp;done)|(go_simp;rfl));intro gb356 hg w7 hbox hb;have n0_:=Aside0.mk (below_step (by repeat (first|(with_reducible first|exact HB.out|apply below_alloc|apply pw_below_drewN|apply below_drew1)|exact HB.out)) hb);have n1_:=Aside0.mk (hbox);have n2_:=Aside0.mk ((by rw [hg];exact (below_size (by repeat (first|(with_reducible first|exact HB.out|apply below_alloc|apply pw_below_drewN|apply below_drew1)|exact HB.out))):w.heap.size≤gb356));have n3_:=Aside0.mk ((by rw [hg];exact (below_size (by repeat (first|(with_reducible first|exact HB.out|apply below_alloc|apply pw_below_drewN|apply below_drew1)|exact HB.out))):w.heap.size≤gb356));clear HB;have HB:=n0_;have BK356:=n1_;have GW356:=n2_;have GE356:=n3_;clear n0_ n1_ n2_ n3_;clear hb hbox hg)|((with_reducible refine gate_dst (N:=7) rfl ?_);refine box_event ?hg (N:=7) ?hd (cs:=#[.int .i64 a3_0,.int .i64 a3_1,.bool a3_2,.bool a3_3,.int .i64 a3_4]) (t:=87) ?hr ?_;(case hd=>rfl);(case hg=>rfl);(case hr=>first|(go_simp;done)|(go_simp;rfl));intro gb357 hg w8 hbox hb;have n0_:=Aside0.mk (blk_below (g:=gb356) (o:=.cells #[.int .i64 a0_0,.slice A0_1 l0_1.length c0_1] 31 (0,0)) (by (with_reducible repeat (first|refine blk_drewN ?_ _|refine blk_drew ?_|refine blk_alloc ?_ _));exact BK356.out) hb);have n1_:=Aside0.mk (below_step (by repeat (first|(with_reducible first|exact HB.out|apply below_alloc|apply pw_below_drewN|apply below_drew1|refine below_set ?_ GE356.out)|exact HB.out)) hb);have n2_:=Aside0.mk (hbox);have n3_:=Aside0.mk ((by rw [hg];exact (below_size (by repeat (first|(with_reducible first|exact HB.out|apply below_alloc|apply pw_below_drewN|apply below_drew1|refine below_set ?_ GE356.out)|exact HB.out))):w.heap.size≤gb357));have n4_:=Aside0.mk ((by rw [hg];exact (below_size (by repeat (first|(with_reducible first|exact HB.out|apply below_alloc|apply pw_below_drewN|apply below_drew1|refine below_set ?_ GE356.out)|exact HB.out))):w.heap.size≤gb357));have n5_:=Aside0.mk ((by rw [hg];exact Nat.ne_of_lt (blk_lt (g:=gb356) (o:=.cells #[.int .i64 a0_0,.slice A0_1 l0_1.length c0_1] 31 (0,0)) (by (with_reducible repeat (first|refine blk_drewN ?_ _|refine blk_drew ?_|refine blk_alloc ?_ _));exact BK356.out)):gb356 ≠ gb357));have n6_:=Aside0.mk ((by rw [hg];exact Nat.ne_of_gt (blk_lt (g:=gb356) (o:=.cells #[.int .i64 a0_0,.slice A0_1 l0_1.length c0_1] 31 (0,0)) (by (with_reducible repeat (first|refine blk_drewN ?_ _|refine blk_drew ?_|refine blk_alloc ?_ _));exact BK356.out)):gb357 ≠ gb356));clear BK356;clear HB;have BK356:=n0_;have HB:=n1_;have BK357:=n2_;have GW357:=n3_;have GE357:=n4_;have NB356_357:=n5_;have NB357_356:=n6_;clear n0_ n1_ n2_ n3_ n4_ n5_ n6_;clear hb hbox hg;have hnb9:=NB356_357.out;have hnc9:=NB357_356.out;have hcz10_0:w8.cell? ⟨gb356,0,none⟩=some (.int .i64 a0_0):=(blk_cell BK356.out 0).trans rfl;have hcz10_1:w8.cell? ⟨gb356,1,none⟩=some (.slice A0_1 l0_1.length c0_1):=(blk_cell BK356.out 1).trans rfl;have hfz10_0:=blk_frozen BK356.out 0;have hfz10_1:=blk_frozen BK356.out 1)|((with_reducible refine gate_callee (f:=71) rfl ?_);refine goesL_ (some 12) rfl rfl Tryd.func71 (by kernel_rfl) rfl #[.agg #[.int .i64 a0_0,.slice A0_1 l0_1.length c0_1],.slice A1 l1.length c1,.int .i64 a2] rfl (by (try simp only [List.map_toArray,List.map_cons,List.map_nil]);first|done|rfl|(simp only [List.length_drop,List.length_take];rfl)) ?_;(with_reducible refine (spec_l2dead.calls k a0_0 _ _ l0_1 _ _ l1 a2 true _ ?side1 ?side2 ?side3 ?side4 A5.out).mono ?_);(case side1=>repeat (first|exact (Kd.C_below HR0_1.out HB.out)|(with_reducible refine Kd.C_alloc ?_ _)|(with_reducible refine Kd.C_drewN ?_ _)|(with_reducible refine Kd.C_drew ?_)));(case side2=>exact HC0_1.out);(case side3=>repeat (first|exact (Kd.C_below HR1.out HB.out)|(with_reducible refine Kd.C_alloc ?_ _)|(with_reducible refine Kd.C_drewN ?_ _)|(with_reducible refine Kd.C_drew ?_)));(case side4=>exact HC1.out);rintro e w11 ⟨rfl,hb⟩;refine ⟨_,rfl,?_⟩;have n0_:=Aside0.mk (blk_below (g:=gb356) (o:=.cells #[.int .i64 a0_0,.slice A0_1 l0_1.length c0_1] 31 (0,0)) (by (with_reducible repeat (first|refine blk_drewN ?_ _|refine blk_drew ?_|refine blk_alloc ?_ _));exact BK356.out) hb);have n1_:=Aside0.mk (blk_below (g:=gb357) (o:=.cells #[.int .i64 a3_0,.int .i64 a3_1,.bool a3_2,.bool a3_3,.int .i64 a3_4] 87 (0,0)) (by (with_reducible repeat (first|refine blk_drewN ?_ _|refine blk_drew ?_|refine blk_alloc ?_ _));exact BK357.out) hb);have n2_:=Aside0.mk (below_step (by repeat (first|(with_reducible first|exact HB.out|apply below_alloc|apply pw_below_drewN|apply below_drew1|refine below_set ?_ GE356.out|refine below_set ?_ GE357.out)|exact HB.out)) hb);clear BK356;clear BK357;clear HB;have BK356:=n0_;have BK357:=n1_;have HB:=n2_;clear n0_ n1_ n2_;(try clear hb);(try clear hb2);(try clear hk);(try clear hi)))
  go_ret
  exact ⟨by first|rfl|(simp [errW_none,errW_some] <;> rfl)|(simp [*,errW_none,errW_some] <;> rfl),by repeat (first|(with_reducible first|exact HB.out|apply below_alloc|apply pw_below_drewN|apply below_drew1|refine below_set ?_ GE356.out|refine below_set ?_ GE357.out)|exact HB.out)⟩
 replace c6:=Bool.eq_false_iff.mpr c6
 subst c6
 have H1:(if a3_2=true then (spec_l2told.j0 k true a3_0 a3_1 a3_2 a3_3 a3_4) else (if a3_1=0 then (spec_l2told.j0 k false a3_0 a3_1 a3_2 a3_3 a3_4) else (spec_l2told.j0 k (!a3_3) a3_0 a3_1 a3_2 a3_3 a3_4)))=some r:=by rw [if_neg (show ¬ (false=true) by decide)] at H;exact H
 clear H
 have H:=H1
 clear H1
 have HC12:=Aside0.mk H
 clear H
 go_enter Tryd.func72,Tryd.ntmps72
 go_upto_region 3 with (first|((with_reducible refine gate_dst (N:=4) rfl ?_);refine box_event ?hg (N:=4) ?hd (cs:=#[.int .i64 a0_0,.slice A0_1 l0_1.length c0_1]) (t:=31) ?hr ?_;(case hd=>rfl);(case hg=>rfl);(case hr=>first|(go_simp;done)|(go_simp;rfl));intro gb356 hg w13 hbox hb;have n0_:=Aside0.mk (below_step (by repeat (first|(with_reducible first|exact HB.out|apply below_alloc|apply pw_below_drewN|apply below_drew1)|exact HB.out)) hb);have n1_:=Aside0.mk (hbox);have n2_:=Aside0.mk ((by rw [hg];exact (below_size (by repeat (first|(with_reducible first|exact HB.out|apply below_alloc|apply pw_below_drewN|apply below_drew1)|exact HB.out))):w.heap.size≤gb356));have n3_:=Aside0.mk ((by rw [hg];exact (below_size (by repeat (first|(with_reducible first|exact HB.out|apply below_alloc|apply pw_below_drewN|apply below_drew1)|exact HB.out))):w.heap.size≤gb356));clear HB;have HB:=n0_;have BK356:=n1_;have GW356:=n2_;have GE356:=n3_;clear n0_ n1_ n2_ n3_;clear hb hbox hg)|((with_reducible refine gate_dst (N:=7) rfl ?_);refine box_event ?hg (N:=7) ?hd (cs:=#[.int .i64 a3_0,.int .i64 a3_1,.bool a3_2,.bool a3_3,.int .i64 a3_4]) (t:=87) ?hr ?_;(case hd=>rfl);(case hg=>rfl);(case hr=>first|(go_simp;done)|(go_simp;rfl));intro gb357 hg w14 hbox hb;have n0_:=Aside0.mk (blk_below (g:=gb356) (o:=.cells #[.int .i64 a0_0,.slice A0_1 l0_1.length c0_1] 31 (0,0)) (by (with_reducible repeat (first|refine blk_drewN ?_ _|refine blk_drew ?_|refine blk_alloc ?_ _));exact BK356.out) hb);have n1_:=Aside0.mk (below_step (by repeat (first|(with_reducible first|exact HB.out|apply below_alloc|apply pw_below_drewN|apply below_drew1|refine below_set ?_ GE356.out)|exact HB.out)) hb);have n2_:=Aside0.mk (hbox);have n3_:=Aside0.mk ((by rw [hg];exact (below_size (by repeat (first|(with_reducible first|exact HB.out|apply below_alloc|apply pw_below_drewN|apply below_drew1|refine below_set ?_ GE356.out)|exact HB.out))):w.heap.size≤gb357));have n4_:=Aside0.mk ((by rw [hg];exact (below_size (by repeat (first|(with_reducible first|exact HB.out|apply below_alloc|apply pw_below_drewN|apply below_drew1|refine below_set ?_ GE356.out)|exact HB.out))):w.heap.size≤gb357));have n5_:=Aside0.mk ((by rw [hg];exact Nat.ne_of_lt (blk_lt (g:=gb356) (o:=.cells #[.int .i64 a0_0,.slice A0_1 l0_1.length c0_1] 31 (0,0)) (by (with_reducible repeat (first|refine blk_drewN ?_ _|refine blk_drew ?_|refine blk_alloc ?_ _));exact BK356.out)):gb356 ≠ gb357));have n6_:=Aside0.mk ((by rw [hg];exact Nat.ne_of_gt (blk_lt (g:=gb356) (o:=.cells #[.int .i64 a0_0,.slice A0_1 l0_1.length c0_1] 31 (0,0)) (by (with_reducible repeat (first|refine blk_drewN ?_ _|refine blk_drew ?_|refine blk_alloc ?_ _));exact BK356.out)):gb357 ≠ gb356));clear BK356;clear HB;have BK356:=n0_;have HB:=n1_;have BK357:=n2_;have GW357:=n3_;have GE357:=n4_;have NB356_357:=n5_;have NB357_356:=n6_;clear n0_ n1_ n2_ n3_ n4_ n5_ n6_;clear hb hbox hg;have hnb15:=NB356_357.out;have hnc15:=NB357_356.out;have hcz16_0:w14.cell? ⟨gb356,0,none⟩=some (.int .i64 a0_0):=(blk_cell BK356.out 0).trans rfl;have hcz16_1:w14.cell? ⟨gb356,1,none⟩=some (.slice A0_1 l0_1.length c0_1):=(blk_cell BK356.out 1).trans rfl;have hfz16_0:=blk_frozen BK356.out 0;have hfz16_1:=blk_frozen BK356.out 1)|((with_reducible refine gate_callee (f:=71) rfl ?_);refine goesL_ (some 12) rfl rfl Tryd.func71 (by kernel_rfl) rfl #[.agg #[.int .i64 a0_0,.slice A0_1 l0_1.length c0_1],.slice A1 l1.length c1,.int .i64 a2] rfl (by (try simp only [List.map_toArray,List.map_cons,List.map_nil]);first|done|rfl|(simp only [List.length_drop,List.length_take];rfl)) ?_;(with_reducible refine (spec_l2dead.calls k a0_0 _ _ l0_1 _ _ l1 a2 false _ ?side1 ?side2 ?side3 ?side4 A5.out).mono ?_);(case side1=>repeat (first|exact (Kd.C_below HR0_1.out HB.out)|(with_reducible refine Kd.C_alloc ?_ _)|(with_reducible refine Kd.C_drewN ?_ _)|(with_reducible refine Kd.C_drew ?_)));(case side2=>exact HC0_1.out);(case side3=>repeat (first|exact (Kd.C_below HR1.out HB.out)|(with_reducible refine Kd.C_alloc ?_ _)|(with_reducible refine Kd.C_drewN ?_ _)|(with_reducible refine Kd.C_drew ?_)));(case side4=>exact HC1.out);rintro e w17 ⟨rfl,hb⟩;refine ⟨_,rfl,?_⟩;have n0_:=Aside0.mk (blk_below (g:=gb356) (o:=.cells #[.int .i64 a0_0,.slice A0_1 l0_1.length c0_1] 31 (0,0)) (by (with_reducible repeat (first|refine blk_drewN ?_ _|refine blk_drew ?_|refine blk_alloc ?_ _));exact BK356.out) hb);have n1_:=Aside0.mk (blk_below (g:=gb357) (o:=.cells #[.int .i64 a3_0,.int .i64 a3_1,.bool a3_2,.bool a3_3,.int .i64 a3_4] 87 (0,0)) (by (with_reducible repeat (first|refine blk_drewN ?_ _|refine blk_drew ?_|refine blk_alloc ?_ _));exact BK357.out) hb);have n2_:=Aside0.mk (below_step (by repeat (first|(with_reducible first|exact HB.out|apply below_alloc|apply pw_below_drewN|apply below_drew1|refine below_set ?_ GE356.out|refine below_set ?_ GE357.out)|exact HB.out)) hb);clear BK356;clear BK357;clear HB;have BK356:=n0_;have BK357:=n1_;have HB:=n2_;clear n0_ n1_ n2_;(try clear hb);(try clear hb2);(try clear hk);(try clear hi)))
 (try simp only [Act.put,List.setIfInBounds_toArray,List.set_cons_zero,List.set_cons_succ])
 go_cut [24] (fun v24 wc=>∃ (kq:Nat) (x24_11:Bool),v24=.bool x24_11∧Aside0 (spec_l2told.j0 kq x24_11 a3_0 a3_1 a3_2 a3_3 a3_4=some r)∧Aside0 (kq≤k)∧Aside0 (wc.heap[gb356]?=some (.cells #[.int .i64 a0_0,(.slice A0_1 l0_1.length c0_1)] 31 (0,0)))∧Aside0 (wc.heap[gb357]?=some (.cells #[.int .i64 a3_0,.int .i64 a3_1,.bool a3_2,.bool a3_3,.int .i64 a3_4] 87 (0,0)))∧Aside0 (Below w.heap.size w wc))
 case first =>
  have H:=HC12.out
  clear HC12
  by_cases c18:a3_2=true
  ·subst c18
   have H1:(spec_l2told.j0 k true a3_0 a3_1 true a3_3 a3_4)=some r:=by rw [if_pos rfl] at H;exact H
   clear H
   have H:=H1
   clear H1
   have H':=Aside0.mk H
   clear H
   have hnb19:=NB357_356.out
   have hnc19:=NB356_357.out
   have hcz20_0:w17.cell? ⟨gb357,0,none⟩=some (.int .i64 a3_0):=(blk_cell BK357.out 0).trans rfl
   have hcz20_1:w17.cell? ⟨gb357,1,none⟩=some (.int .i64 a3_1):=(blk_cell BK357.out 1).trans rfl
   have hcz20_2:w17.cell? ⟨gb357,2,none⟩=some (.bool true):=(blk_cell BK357.out 2).trans rfl
   have hcz20_3:w17.cell? ⟨gb357,3,none⟩=some (.bool a3_3):=(blk_cell BK357.out 3).trans rfl
   have hcz20_4:w17.cell? ⟨gb357,4,none⟩=some (.int .i64 a3_4):=(blk_cell BK357.out 4).trans rfl
   have hfz20_0:=blk_frozen BK357.out 0
   have hfz20_1:=blk_frozen BK357.out 1
   have hfz20_2:=blk_frozen BK357.out 2
   have hfz20_3:=blk_frozen BK357.out 3
   have hfz20_4:=blk_frozen BK357.out 4
   go_wp2
   go_meet
   case rel=>exact ⟨_,(true),(by first|rfl|(simp;done)|(simp [*];done)),H',⟨by first|omega|exact Nat.le_refl _⟩,⟨by (with_reducible repeat (first|refine blk_drewN ?_ _|refine blk_drew ?_|refine blk_alloc ?_ _));exact BK356.out⟩,⟨by (with_reducible repeat (first|refine blk_drewN ?_ _|refine blk_drew ?_|refine blk_alloc ?_ _));exact BK357.out⟩,⟨by repeat (first|(with_reducible first|exact HB.out|apply below_alloc|apply pw_below_drewN|apply below_drew1|refine below_set ?_ GE356.out|refine below_set ?_ GE357.out)|exact HB.out)⟩⟩
  replace c18:=Bool.eq_false_iff.mpr c18
  subst c18
  have H1:(if a3_1=0 then (spec_l2told.j0 k false a3_0 a3_1 false a3_3 a3_4) else (spec_l2told.j0 k (!a3_3) a3_0 a3_1 false a3_3 a3_4))=some r:=by rw [if_neg (show ¬ (false=true) by decide)] at H;exact H
  clear H
  have H:=H1
  clear H1
  by_cases c21:a3_1=0
  ·rw [if_pos c21] at H
   have c21b0:(a3_1==0)=true:=beq_iff_eq.mpr c21
   have c21b1:(a3_1 != 0)=false:=bne_eq_false_iff_eq.mpr c21
   clear c21
   (first|rw [c21b0]|(simp only [i64_w,i32_w];rw [c21b0])|skip)
   have H':=Aside0.mk H
   clear H
   have hnb22:=NB357_356.out
   have hnc22:=NB356_357.out
   have hcz23_0:w17.cell? ⟨gb357,0,none⟩=some (.int .i64 a3_0):=(blk_cell BK357.out 0).trans rfl
   have hcz23_1:w17.cell? ⟨gb357,1,none⟩=some (.int .i64 a3_1):=(blk_cell BK357.out 1).trans rfl
   have hcz23_2:w17.cell? ⟨gb357,2,none⟩=some (.bool false):=(blk_cell BK357.out 2).trans rfl
   have hcz23_3:w17.cell? ⟨gb357,3,none⟩=some (.bool a3_3):=(blk_cell BK357.out 3).trans rfl
   have hcz23_4:w17.cell? ⟨gb357,4,none⟩=some (.int .i64 a3_4):=(blk_cell BK357.out 4).trans rfl
   have hfz23_0:=blk_frozen BK357.out 0
   have hfz23_1:=blk_frozen BK357.out 1
   have hfz23_2:=blk_frozen BK357.out 2
   have hfz23_3:=blk_frozen BK357.out 3
   have hfz23_4:=blk_frozen BK357.out 4
   go_wp2
   go_meet
   case rel=>exact ⟨_,(false),(by first|rfl|(simp;done)|(simp [*];done)),H',⟨by first|omega|exact Nat.le_refl _⟩,⟨by (with_reducible repeat (first|refine blk_drewN ?_ _|refine blk_drew ?_|refine blk_alloc ?_ _));exact BK356.out⟩,⟨by (with_reducible repeat (first|refine blk_drewN ?_ _|refine blk_drew ?_|refine blk_alloc ?_ _));exact BK357.out⟩,⟨by repeat (first|(with_reducible first|exact HB.out|apply below_alloc|apply pw_below_drewN|apply below_drew1|refine below_set ?_ GE356.out|refine below_set ?_ GE357.out)|exact HB.out)⟩⟩
  rw [if_neg c21] at H
  have c21b0:(a3_1==0)=false:=beq_eq_false_iff_ne.mpr c21
  have c21b1:(a3_1 != 0)=true:=bne_iff_ne.mpr c21
  (first|rw [c21b0]|(simp only [i64_w,i32_w];rw [c21b0])|skip)
  have H':=Aside0.mk H
  clear H
  have hnb24:=NB357_356.out
  have hnc24:=NB356_357.out
  have hcz25_0:w17.cell? ⟨gb357,0,none⟩=some (.int .i64 a3_0):=(blk_cell BK357.out 0).trans rfl
  have hcz25_1:w17.cell? ⟨gb357,1,none⟩=some (.int .i64 a3_1):=(blk_cell BK357.out 1).trans rfl
  have hcz25_2:w17.cell? ⟨gb357,2,none⟩=some (.bool false):=(blk_cell BK357.out 2).trans rfl
  have hcz25_3:w17.cell? ⟨gb357,3,none⟩=some (.bool a3_3):=(blk_cell BK357.out 3).trans rfl
  have hcz25_4:w17.cell? ⟨gb357,4,none⟩=some (.int .i64 a3_4):=(blk_cell BK357.out 4).trans rfl
  have hfz25_0:=blk_frozen BK357.out 0
  have hfz25_1:=blk_frozen BK357.out 1
  have hfz25_2:=blk_frozen BK357.out 2
  have hfz25_3:=blk_frozen BK357.out 3
  have hfz25_4:=blk_frozen BK357.out 4
  go_wp2
  go_meet
  case rel=>exact ⟨_,(!a3_3),(by first|rfl|(simp;done)|(simp [*];done)),H',⟨by first|omega|exact Nat.le_refl _⟩,⟨by (with_reducible repeat (first|refine blk_drewN ?_ _|refine blk_drew ?_|refine blk_alloc ?_ _));exact BK356.out⟩,⟨by (with_reducible repeat (first|refine blk_drewN ?_ _|refine blk_drew ?_|refine blk_alloc ?_ _));exact BK357.out⟩,⟨by repeat (first|(with_reducible first|exact HB.out|apply below_alloc|apply pw_below_drewN|apply below_drew1|refine below_set ?_ GE356.out|refine below_set ?_ GE357.out)|exact HB.out)⟩⟩
 case rest =>
  clear HC12
  try clear c1
  try clear c2
  try clear p2
  try clear c6
  try clear c7
  try clear c9
  try clear c15
  try clear c18
  try clear c19
  try clear c21
  try clear c21b0
  try clear c21b1
  try clear c22
  try clear c24
  try clear hcz10_0
  try clear hcz10_1
  try clear hcz16_0
  try clear hcz16_1
  try clear hcz20_0
  try clear hcz20_1
  try clear hcz20_2
  try clear hcz20_3
  try clear hcz20_4
  try clear hcz23_0
  try clear hcz23_1
  try clear hcz23_2
  try clear hcz23_3
  try clear hcz23_4
  try clear hcz25_0
  try clear hcz25_1
  try clear hcz25_2
  try clear hcz25_3
  try clear hcz25_4
  try clear hfz10_0
  try clear hfz10_1
  try clear hfz16_0
  try clear hfz16_1
  try clear hfz20_0
  try clear hfz20_1
  try clear hfz20_2
  try clear hfz20_3
  try clear hfz20_4
  try clear hfz23_0
  try clear hfz23_1
  try clear hfz23_2
  try clear hfz23_3
  try clear hfz23_4
  try clear hfz25_0
  try clear hfz25_1
  try clear hfz25_2
  try clear hfz25_3
  try clear hfz25_4
  obtain ⟨kq,x24_11,rfl,HA,HJ11,BK356,BK357,HB⟩:=hcut
  cases kq with
  | zero=>exact absurd HA.out (by simp [spec_l2told.j0])
  | succ kj11 =>
   have H:=HA.out
   clear HA
   simp only [spec_l2told.j0] at H
   by_cases c26:x24_11=true
   ·subst c26
    have H1:(some 1)=some r:=by rw [if_pos rfl] at H;exact H
    clear H
    have H:=H1
    clear H1
    obtain rfl:=Option.some.inj H
    go_wp2
    go_ret
    exact ⟨by first|rfl|(simp [errW_none,errW_some] <;> rfl)|(simp [*,errW_none,errW_some] <;> rfl),by repeat (first|(with_reducible first|exact HB.out|apply below_alloc|apply pw_below_drewN|apply below_drew1|refine below_set ?_ GE356.out|refine below_set ?_ GE357.out)|exact HB.out)⟩
   replace c26:=Bool.eq_false_iff.mpr c26
   subst c26
   have H1:(if a3_3=true then (some 2) else (some 0))=some r:=by rw [if_neg (show ¬ (false=true) by decide)] at H;exact H
   clear H
   have H:=H1
   clear H1
   by_cases c27:a3_3=true
   ·subst c27
    have H1:(some 2)=some r:=by rw [if_pos rfl] at H;exact H
    clear H
    have H:=H1
    clear H1
    obtain rfl:=Option.some.inj H
    have hnb28:=NB357_356.out
    have hnc28:=NB356_357.out
    have hcz29_0:wc.cell? ⟨gb357,0,none⟩=some (.int .i64 a3_0):=(blk_cell BK357.out 0).trans rfl
    have hcz29_1:wc.cell? ⟨gb357,1,none⟩=some (.int .i64 a3_1):=(blk_cell BK357.out 1).trans rfl
    have hcz29_2:wc.cell? ⟨gb357,2,none⟩=some (.bool a3_2):=(blk_cell BK357.out 2).trans rfl
    have hcz29_3:wc.cell? ⟨gb357,3,none⟩=some (.bool true):=(blk_cell BK357.out 3).trans rfl
    have hcz29_4:wc.cell? ⟨gb357,4,none⟩=some (.int .i64 a3_4):=(blk_cell BK357.out 4).trans rfl
    have hfz29_0:=blk_frozen BK357.out 0
    have hfz29_1:=blk_frozen BK357.out 1
    have hfz29_2:=blk_frozen BK357.out 2
    have hfz29_3:=blk_frozen BK357.out 3
    have hfz29_4:=blk_frozen BK357.out 4
    go_wp2
    go_ret
    exact ⟨by first|rfl|(simp [errW_none,errW_some] <;> rfl)|(simp [*,errW_none,errW_some] <;> rfl),by repeat (first|(with_reducible first|exact HB.out|apply below_alloc|apply pw_below_drewN|apply below_drew1|refine below_set ?_ GE356.out|refine below_set ?_ GE357.out)|exact HB.out)⟩
   replace c27:=Bool.eq_false_iff.mpr c27
   subst c27
   have H1:(some 0)=some r:=by rw [if_neg (show ¬ (false=true) by decide)] at H;exact H
   clear H
   have H:=H1
   clear H1
   obtain rfl:=Option.some.inj H
   have hnb30:=NB357_356.out
   have hnc30:=NB356_357.out
   have hcz31_0:wc.cell? ⟨gb357,0,none⟩=some (.int .i64 a3_0):=(blk_cell BK357.out 0).trans rfl
   have hcz31_1:wc.cell? ⟨gb357,1,none⟩=some (.int .i64 a3_1):=(blk_cell BK357.out 1).trans rfl
   have hcz31_2:wc.cell? ⟨gb357,2,none⟩=some (.bool a3_2):=(blk_cell BK357.out 2).trans rfl
   have hcz31_3:wc.cell? ⟨gb357,3,none⟩=some (.bool false):=(blk_cell BK357.out 3).trans rfl
   have hcz31_4:wc.cell? ⟨gb357,4,none⟩=some (.int .i64 a3_4):=(blk_cell BK357.out 4).trans rfl
   have hfz31_0:=blk_frozen BK357.out 0
   have hfz31_1:=blk_frozen BK357.out 1
   have hfz31_2:=blk_frozen BK357.out 2
   have hfz31_3:=blk_frozen BK357.out 3
   have hfz31_4:=blk_frozen BK357.out 4
   go_wp2
   go_ret
   exact ⟨by first|rfl|(simp [errW_none,errW_some] <;> rfl)|(simp [*,errW_none,errW_some] <;> rfl),by repeat (first|(with_reducible first|exact HB.out|apply below_alloc|apply pw_below_drewN|apply below_drew1|refine below_set ?_ GE356.out|refine below_set ?_ GE357.out)|exact HB.out)⟩
end Go.Proofs.YtpdnabhpkdchjaaDoor.P
namespace Go.Proofs.YtpdnabhpkdchjaaDoor.P
open Go.RowKit Go.Proofs.YtpdnabhpkdchjaaDoorW.PrintWords Go.Proofs.YtpdnabhpkdchjaaDoorW.PrintLast
set_option linter.unusedVariables false
set_option linter.unusedSimpArgs false
def deadFrom (l:List S98) (dead:List Bool) (s:Int) (d:Nat) (i:Nat):Bool :=
 match d with
 | 0=>false
 | d+1=>(rdOf false dead (i:Int) && hits s (rd_T98 l (i:Int))) || deadFrom l dead s d (i+1)
def deadAt (l:List S98) (dead:List Bool) (s:Int):Bool:=deadFrom l dead s l.length 0
def toldC (l:List S98) (dead:List Bool) (s:Int) (x:S87):Int :=
 if deadAt l dead s=true then 3 else if x.f2=true ∨ (x.f1 ≠ 0∧x.f3=false) then 1 else if x.f3=true then 2 else 0
theorem implDead_l0 (l:List S98) (dead:List Bool) (b:Bool) (secs:List S87) (s:Int) (hl:l.length≤1048576) (hd:dead.length=l.length) (d:Nat):∀ (i:Nat),i+d=l.length →
  Ev (fun k=>impl_dead.l0 k s l (l.length:Int) i b secs dead) (deadFrom l dead s d i):=by
 induction d with
 | zero=>intro i hi;refine Ev.step1 fun k=>?_;simp only [impl_dead.l0];rw [if_neg (by omega)];rfl
 | succ d ih =>
  intro i hi
  have h1:=ih (i+1) (by omega)
  simp only [deadFrom]
  cases hb:rdOf false dead (i:Int) with
  | false =>
   simp only [Bool.false_and,Bool.false_or]
   refine Ev.step (fun k=>?_) h1
   simp only [impl_dead.l0]
   rw [if_pos (by omega),if_pos (by omega),if_pos (by omega),if_pos (by omega),hb,wrap_succ (by omega)]
   rfl
  | true =>
   by_cases h2:(rd_T98 l (i:Int)).f0=s
   ·simp only [hits,h2,decide_true,Bool.true_or,Bool.and_true]
    refine Ev.step1 fun k=>?_
    simp only [impl_dead.l0]
    rw [if_pos (by omega),if_pos (by omega),if_pos (by omega),if_pos (by omega),hb,if_pos rfl,if_pos h2]
   by_cases h3:(rd_T98 l (i:Int)).f1=s
   ·simp only [hits,h3,decide_true,Bool.or_true,Bool.true_or,Bool.and_true]
    refine Ev.step1 fun k=>?_
    simp only [impl_dead.l0]
    rw [if_pos (by omega),if_pos (by omega),if_pos (by omega),if_pos (by omega),hb,if_pos rfl,if_neg h2,if_pos h3]
   simp only [hits,h2,h3,decide_false,Bool.or_self,Bool.and_false,Bool.false_or]
   refine Ev.step (fun k=>?_) h1
   simp only [impl_dead.l0]
   rw [if_pos (by omega),if_pos (by omega),if_pos (by omega),if_pos (by omega),hb,if_pos rfl,if_neg h2,if_neg h3,wrap_succ (by omega)]
theorem implDead_ev (n:Int) (l:List S98) (dead:List Bool) (b:Bool) (secs:List S87) (s:Int) (hl:l.length≤1048576) (hd:dead.length=l.length) :
  Ev (fun k=>impl_dead.f k n l b secs dead s) (deadAt l dead s):=by
 unfold impl_dead.f
 exact implDead_l0 l dead b secs s hl hd l.length 0 (by omega)
def anyDead (dead:List Bool):List Int→Bool
 | []=>false
 | c :: r=>rdOf false dead c || anyDead dead r
theorem anyDead_append (dead:List Bool) (a b:List Int):anyDead dead (a ++ b)=(anyDead dead a || anyDead dead b):=by
 induction a with
 | nil=>rfl
 | cons c r ih=>simp [anyDead,ih,Bool.or_assoc]
theorem anyDead_hits (l:List S98) (dead:List Bool) (s:Int) (d:Nat):∀ i,i+d=l.length→(anyDead dead (hitsTo l s i) || deadFrom l dead s d i)=anyDead dead (hitsTo l s l.length):=by
 induction d with
 | zero=>intro i hi;rw [show i=l.length by omega];simp [deadFrom]
 | succ d ih =>
  intro i hi
  rw [← ih (i+1) (by omega),hitsTo_succ]
  simp only [deadFrom]
  by_cases h:hits s (rd_T98 l (i:Int))=true
  ·rw [if_pos h,h,anyDead_append]
   simp [anyDead,Bool.or_assoc]
  rw [if_neg h]
  have h':hits s (rd_T98 l (i:Int))=false:=by simpa using h
  rw [h'];simp
theorem deadAt_any (l:List S98) (dead:List Bool) (s:Int):deadAt l dead s=anyDead dead (hitsTo l s l.length):=by
 have:=anyDead_hits l dead s l.length 0 (by omega)
 rw [← this]
 simp [deadAt,hitsTo,anyDead]
theorem hitsTo_mem (l:List S98) (s:Int) (i:Nat):∀ c ∈ hitsTo l s i,0≤c∧c<i:=by
 intro c hc
 simp only [hitsTo,List.mem_map,List.mem_filter,List.mem_range] at hc
 obtain ⟨j,⟨hj,_⟩,rfl⟩:=hc
 constructor
 ·exact Int.natCast_nonneg _
 exact Int.ofNat_lt.2 hj
theorem specDead_l0 (dead:List Bool) (r:List Int) (hr:∀ c ∈ r,0≤c∧c<dead.length) (hl:r.length≤1048576) (d:Nat):∀ (i:Nat),i+d=r.length →
  Ev (fun k=>spec_l2dead.l0 k dead r (r.length:Int) i) (anyDead dead (r.drop i)):=by
 induction d with
 | zero=>intro i hi;refine Ev.step1 fun k=>?_;simp only [spec_l2dead.l0];rw [if_neg (by omega),List.drop_eq_nil_of_le (by omega)];rfl
 | succ d ih =>
  intro i hi
  have hlt:i<r.length:=by omega
  have h1:=ih (i+1) (by omega)
  rw [List.drop_eq_getElem_cons hlt]
  have hrd:rd r (i:Int)=r[i]:=by simp [rd,hlt]
  obtain ⟨p1,p2⟩:=hr r[i] (List.getElem_mem hlt)
  simp only [anyDead]
  cases hb:rdOf false dead r[i] with
  | false =>
   simp only [Bool.false_or]
   refine Ev.step (fun k=>?_) h1
   simp only [spec_l2dead.l0,hrd]
   rw [if_pos (by omega),if_pos (by omega),if_pos (by omega),if_pos p1,if_pos p2,hb,wrap_succ (by omega)]
   rfl
  | true =>
   simp only [Bool.true_or]
   refine Ev.step1 fun k=>?_
   simp only [spec_l2dead.l0,hrd]
   rw [if_pos (by omega),if_pos (by omega),if_pos (by omega),if_pos p1,if_pos p2,hb,if_pos rfl]
theorem specDead_ev (n:Int) (l:List S98) (dead:List Bool) (s:Int) (h0:layoutOk n l=0) (hs:0≤s∧s<n) (hd:dead.length=l.length) :
  Ev (fun k=>spec_l2dead.f k n l dead s) (deadAt l dead s):=by
 unfold spec_l2dead.f
 have ha:around n l s=hitsTo l s l.length:=by rw [around,if_pos ⟨h0,hs.1,hs.2⟩]
 refine Ev.bind (specAround_ev n l s) ?_
 rw [ha,deadAt_any]
 have hc:=(lay_n h0).2.2
 have hlen:=hitsTo_length l s l.length
 have:=specDead_l0 dead (hitsTo l s l.length) (fun c hc=>by have:=hitsTo_mem l s l.length c hc;omega) (by omega) _ 0 (Nat.zero_add _)
 simpa using this
theorem told_tail (x:S87) (b:Bool) (hb:b=true ↔ (x.f2=true ∨ (x.f1 ≠ 0∧x.f3=false))) :
  (if b=true then some (1:Int) else if x.f3=true then some 2 else some 0)=some (if x.f2=true ∨ (x.f1 ≠ 0∧x.f3=false) then 1 else if x.f3=true then 2 else 0):=by
 by_cases h:b=true
 ·rw [if_pos h,if_pos (hb.1 h)]
 rw [if_neg h,if_neg (fun k=>h (hb.2 k))]
 split <;> rfl
theorem implTold_ev (n:Int) (l:List S98) (dead:List Bool) (b:Bool) (secs:List S87) (s:Int) (hl:l.length≤1048576) (hd:dead.length=l.length) (h0:0≤s) (h1:s<secs.length) :
  Ev (fun k=>impl_told.f k n l b secs dead s) (toldC l dead s (rd_T87 secs s)):=by
 unfold impl_told.f
 refine Ev.ite_pos h0 (Ev.ite_pos h1 (Ev.bind (implDead_ev n l dead b secs s hl hd) ?_))
 unfold toldC
 by_cases hdd:deadAt l dead s=true
 ·rw [if_pos hdd];exact Ev.ite_pos hdd (Ev.now _)
 rw [if_neg hdd]
 refine Ev.ite_neg hdd ?_
 by_cases h2:(rd_T87 secs s).f2=true
 ·refine Ev.ite_pos h2 (Ev.step1 fun k=>?_)
  simp only [impl_told.j0]
  exact told_tail _ true (by simp [h2])
 refine Ev.ite_neg h2 ?_
 by_cases h3:(rd_T87 secs s).f1=0
 ·refine Ev.ite_pos h3 (Ev.step1 fun k=>?_)
  simp only [impl_told.j0]
  exact told_tail _ false (by simp [h2,h3])
 refine Ev.ite_neg h3 (Ev.step1 fun k=>?_)
 simp only [impl_told.j0]
 exact told_tail _ _ (by simp [h2,h3])
theorem specTold_ev (n:Int) (l:List S98) (dead:List Bool) (s:Int) (x:S87) (h0:layoutOk n l=0) (hs:0≤s∧s<n) (hd:dead.length=l.length) :
  Ev (fun k=>spec_l2told.f k n l dead s x.f0 x.f1 x.f2 x.f3 x.f4) (toldC l dead s x):=by
 unfold spec_l2told.f
 refine Ev.bind (specDead_ev n l dead s h0 hs hd) ?_
 unfold toldC
 by_cases hdd:deadAt l dead s=true
 ·rw [if_pos hdd];exact Ev.ite_pos hdd (Ev.now _)
 rw [if_neg hdd]
 refine Ev.ite_neg hdd ?_
 by_cases h2:x.f2=true
 ·refine Ev.ite_pos h2 (Ev.step1 fun k=>?_)
  simp only [spec_l2told.j0]
  exact told_tail x true (by simp [h2])
 refine Ev.ite_neg h2 ?_
 by_cases h3:x.f1=0
 ·refine Ev.ite_pos h3 (Ev.step1 fun k=>?_)
  simp only [spec_l2told.j0]
  exact told_tail x false (by simp [h2,h3])
 refine Ev.ite_neg h3 (Ev.step1 fun k=>?_)
 simp only [spec_l2told.j0]
 exact told_tail x _ (by simp [h2,h3])
end Go.Proofs.YtpdnabhpkdchjaaDoor.P
namespace Go.Proofs.YtpdnabhpkdchjaaDoor.P
open Go.RowKit Go.Proofs.YtpdnabhpkdchjaaDoorW.PrintWords Go.Proofs.YtpdnabhpkdchjaaDoorW.PrintLast
set_option linter.unusedVariables false
set_option linter.unusedSimpArgs false
def secRange (x:S87):Bool:=decide (-1000000≤x.f1) && decide (x.f1≤1000000) && decide (-1≤x.f4) && decide (x.f4≤1)
def secRest (dd:Bool) (x:S87):Bool:=!((decide (x.f1<0) || dd) && !x.f2) && !(x.f3 && decide (x.f1=0) && decide (x.f4=-1) && !x.f2)
def secOk (l:List S98) (dead:List Bool) (s:Int) (x:S87):Bool:=secRange x && decide (x.f0=toldC l dead s x) && secRest (deadAt l dead s) x
def secsFrom (l:List S98) (dead:List Bool) (secs:List S87) (d:Nat) (i:Nat):Bool :=
 match d with
 | 0=>true
 | d+1=>secOk l dead i (rd_T87 secs (i:Int)) && secsFrom l dead secs d (i+1)
def stateOk (n:Int) (l:List S98) (ok:Bool) (secs:List S87) (dead:List Bool):Bool :=
 decide (layoutOk n l=0) && ok && decide ((secs.length:Int)=n) && decide (dead.length=l.length) && secsFrom l dead secs secs.length 0
end Go.Proofs.YtpdnabhpkdchjaaDoor.P
namespace Go.Proofs.YtpdnabhpkdchjaaDoor.P
open Go.RowKit Go.Proofs.YtpdnabhpkdchjaaDoorW.PrintWords Go.Proofs.YtpdnabhpkdchjaaDoorW.PrintLast Go.Proofs.YtpdnabhpkdchjaaDoorW.PrintMore
set_option linter.unusedVariables false
def addS (ss:List S87) (s b:Int):List S87:=if s<0 then ss else ss.set s.toNat (countS (rd_T87 ss s) b)
def loseAt (ss:List S87) (s:Int):List S87:=if s<0 then ss else ss.set s.toNat (loseS (rd_T87 ss s))
def tellS (l:List S98) (dd:List Bool) (i:Nat) (x:S87):S87:=⟨toldC l dd (i:Int) x,x.f1,x.f2,x.f3,x.f4⟩
def retoldTo (l:List S98) (dd:List Bool) (ss:List S87) (k:Nat):List S87:=ss.mapIdx fun i x=>if i<k then tellS l dd i x else x
def retold (l:List S98) (dd:List Bool) (ss:List S87):List S87:=retoldTo l dd ss ss.length
def midSecs (l:List S98) (ss:List S87) (op of dir:Int):List S87 :=
 let c:=rd_T98 l of
 let f:=if dir=-1 then c.f1 else c.f0
 let t:=if dir=-1 then c.f0 else c.f1
 if op=1 then addS (addS ss f (-1)) t 1 else if op=2 then addS ss t 1 else if op=3 then loseAt (loseAt ss c.f0) c.f1 else if op=5 then ss.set of.toNat ⟨0,0,false,true,0⟩ else ss
def midDead (dd:List Bool) (op of:Int):List Bool:=if op=3 then dd.set of.toNat true else if op=4 then dd.set of.toNat false else dd
def doCode (l:List S98) (ss:List S87) (dd:List Bool) (op of:Int):Int :=
 if op=1 ∨ op=2 then (if rdOf false dd of=true then 2 else 0) else if op=5 then (if deadAt l dd of=true then 3 else if (rd_T87 ss of).f4=1 then 4 else 0) else 0
def doSecs (l:List S98) (ss:List S87) (dd:List Bool) (op of dir:Int):List S87:=if doCode l ss dd op of=0 then retold l (midDead dd op of) (midSecs l ss op of dir) else ss
def doDead (l:List S98) (ss:List S87) (dd:List Bool) (op of:Int):List Bool:=if doCode l ss dd op of=0 then midDead dd op of else dd
theorem addS_length (ss:List S87) (s b:Int):(addS ss s b).length=ss.length:=by unfold addS;split <;> simp
theorem loseAt_length (ss:List S87) (s:Int):(loseAt ss s).length=ss.length:=by unfold loseAt;split <;> simp
theorem retoldTo_length (l:List S98) (dd:List Bool) (ss:List S87) (k:Nat):(retoldTo l dd ss k).length=ss.length:=by simp [retoldTo]
theorem retold_length (l:List S98) (dd:List Bool) (ss:List S87):(retold l dd ss).length=ss.length:=retoldTo_length _ _ _ _
theorem midSecs_length (l:List S98) (ss:List S87) (op of dir:Int):(midSecs l ss op of dir).length=ss.length:=by
 unfold midSecs
 simp only []
 split
 ·rw [addS_length,addS_length]
 split
 ·rw [addS_length]
 split
 ·rw [loseAt_length,loseAt_length]
 split <;> simp
theorem midDead_length (dd:List Bool) (op of:Int):(midDead dd op of).length=dd.length:=by unfold midDead;split <;> (try split) <;> simp
theorem doSecs_length (l:List S98) (ss:List S87) (dd:List Bool) (op of dir:Int):(doSecs l ss dd op of dir).length=ss.length:=by
 unfold doSecs;split
 ·rw [retold_length,midSecs_length]
 rfl
theorem doDead_length (l:List S98) (ss:List S87) (dd:List Bool) (op of:Int):(doDead l ss dd op of).length=dd.length:=by
 unfold doDead;split
 ·exact midDead_length _ _ _
 rfl
theorem retoldTo_zero (l:List S98) (dd:List Bool) (ss:List S87):retoldTo l dd ss 0=ss:=by
 apply List.ext_getElem <;> simp [retoldTo]
theorem retoldTo_at (l:List S98) (dd:List Bool) (ss:List S87) (k:Nat) (hk:k<ss.length):rd_T87 (retoldTo l dd ss k) (k:Int)=rd_T87 ss (k:Int):=by
 simp [rd_T87,retoldTo,hk]
theorem retoldTo_succ (l:List S98) (dd:List Bool) (ss:List S87) (k:Nat) (hk:k<ss.length) :
  (retoldTo l dd ss k).set k (tellS l dd k (rd_T87 ss (k:Int)))=retoldTo l dd ss (k+1):=by
 apply List.ext_getElem
 ·simp [retoldTo]
 intro i h1 h2
 have hi:i<ss.length:=by simpa [retoldTo] using h2
 rw [List.getElem_set]
 by_cases e:k=i
 ·subst e
  simp [retoldTo,rd_T87,hk]
 rw [if_neg e]
 simp only [retoldTo,List.getElem_mapIdx]
 by_cases h3:i<k
 ·rw [if_pos h3,if_pos (by omega)]
 rw [if_neg h3,if_neg (by omega)]
end Go.Proofs.YtpdnabhpkdchjaaDoor.P
namespace Go.Proofs.YtpdnabhpkdchjaaDoor.P
open Go.RowKit Go.Proofs.YtpdnabhpkdchjaaDoorW.PrintWords Go.Proofs.YtpdnabhpkdchjaaDoorW.PrintLast Go.Proofs.YtpdnabhpkdchjaaDoorW.PrintMore
attribute [local go_sem] max2_int min2_int max_two min_two max_three min_three max_four min_four
set_option linter.unusedVariables false
set_option linter.unusedSimpArgs false
mutual
def spec_l2copy.l0:Nat→List (S87)→Int→Int→Bool→List (S87)→List Bool→Bool→List (S87)→Option (Bool × (List (S87)) × List Bool)
 | 0,_,_,_,_,_,_,_,_=>none
 | k+1,x12,x13,x14,x328000,x328001,x328002,x330000,x330001=>if x14<x13 then (if 0≤x14 then (if x14<(x12.length:Int) then (if x330001.length<4398046511104 then (spec_l2copy.l0 k x12 x13 (wrap64 (x14+1)) x328000 x328001 x328002 x330000 (x330001 ++ [(⟨(rd_T87 x12 x14).f0,(rd_T87 x12 x14).f1,(rd_T87 x12 x14).f2,(rd_T87 x12 x14).f3,(rd_T87 x12 x14).f4⟩:S87)])) else (none)) else (none)) else (none)) else (spec_l2copy.l1 k x328002 (x328002.length:Int) 0 x330000 x330001 ([]:List Bool))
def spec_l2copy.l1:Nat→List Bool→Int→Int→Bool→List (S87)→List Bool→Option (Bool × (List (S87)) × List Bool)
 | 0,_,_,_,_,_,_=>none
 | k+1,x26,x27,x28,x330000,x330001,x330002=>if x28<x27 then (if 0≤x28 then (if x28<(x26.length:Int) then (if x330002.length<140737488355328 then (spec_l2copy.l1 k x26 x27 (wrap64 (x28+1)) x330000 x330001 (x330002 ++ [rdOf false x26 x28])) else (none)) else (none)) else (none)) else (some (x330000,x330001,x330002))
end
def spec_l2copy.f (k:Nat) (a0_0:Bool) (l0_1:List (S87)) (l0_2:List Bool):Option (Bool × (List (S87)) × List Bool):=spec_l2copy.l0 k l0_1 (l0_1.length:Int) 0 a0_0 l0_1 l0_2 a0_0 ([]:List (S87))
set_option maxHeartbeats 8000000 in
set_option maxRecDepth 100000 in
theorem spec_l2copy.calls (k:Nat) (a0_0:Bool) (A0_1:Option Addr) (c0_1:Nat) (l0_1:List (S87)) (A0_2:Option Addr) (c0_2:Nat) (l0_2:List Bool) (r1:Bool) (r2:List (S87)) (r3:List Bool) (w:World) (hr0_1:Kd.C k87 w A0_1 l0_1.length l0_1) (hc0_1:l0_1.length≤c0_1) (hr0_2:Kd.C Kd.bool w A0_2 l0_2.length l0_2) (hc0_2:l0_2.length≤c0_2) (h:spec_l2copy.f k a0_0 l0_1 l0_2=some (r1,r2,r3)) :
  Calls Tryd.prog 60 #[.agg #[.bool a0_0,.slice A0_1 l0_1.length c0_1,.slice A0_2 l0_2.length c0_2]] w fun e w'=>∃ v1_ v2_:Value,e=.returned (.agg #[.bool r1,v1_,v2_])∧Kd.R k87 87 w' w.heap.size (fun _=>True) v1_ r2∧Kd.R Kd.bool 4 w' w.heap.size (fun _=>True) v2_ r3∧Below w.heap.size w w':=by
 have hu83:=Tryd.underlying83
 have hu87:=Tryd.underlying87
 have HR0_1:=Aside0.mk hr0_1
 have HC0_1:=Aside0.mk hc0_1
 clear hr0_1 hc0_1
 have HR0_2:=Aside0.mk hr0_2
 have HC0_2:=Aside0.mk hc0_2
 clear hr0_2 hc0_2
 have HB:=Aside0.mk (Below.refl w.heap.size w)
 have H:(spec_l2copy.l0 k l0_1 (l0_1.length:Int) 0 a0_0 l0_1 l0_2 a0_0 ([]:List (S87)))=some (r1,r2,r3):=h
 clear h
 have H':=Aside0.mk H
 clear H
 go_enter Tryd.func60,Tryd.ntmps60
 go_wp2_with (first|((with_reducible refine gate_dst (N:=1) rfl ?_);refine box_event ?hg (N:=1) ?hd (cs:=#[.bool a0_0,.slice A0_1 l0_1.length c0_1,.slice A0_2 l0_2.length c0_2]) (t:=83) ?hr ?_;(case hd=>rfl);(case hg=>rfl);(case hr=>first|(go_simp;done)|(go_simp;rfl));intro gb327 hg w2 hbox hb;have n0_:=Aside0.mk (below_step (by repeat (first|(with_reducible first|exact HB.out|apply below_alloc|apply pw_below_drewN|apply below_drew1)|exact HB.out)) hb);have n1_:=Aside0.mk (hbox);have n2_:=Aside0.mk ((by rw [hg];exact (below_size (by repeat (first|(with_reducible first|exact HB.out|apply below_alloc|apply pw_below_drewN|apply below_drew1)|exact HB.out))):w.heap.size≤gb327));have n3_:=Aside0.mk ((by rw [hg];exact (below_size (by repeat (first|(with_reducible first|exact HB.out|apply below_alloc|apply pw_below_drewN|apply below_drew1)|exact HB.out))):w.heap.size≤gb327));clear HB;have HB:=n0_;have BK327:=n1_;have GW327:=n2_;have GE327:=n3_;clear n0_ n1_ n2_ n3_;clear hb hbox hg)|((with_reducible refine gate_dst (N:=2) rfl ?_);refine box_event ?hg (N:=2) ?hd (cs:=#[.bool false,.slice none 0 0,.slice none 0 0]) (t:=83) ?hr ?_;(case hd=>rfl);(case hg=>rfl);(case hr=>first|(go_simp;done)|(go_simp;rfl));intro gb328 hg w3 hbox hb;have n0_:=Aside0.mk (blk_below (g:=gb327) (o:=.cells #[.bool a0_0,.slice A0_1 l0_1.length c0_1,.slice A0_2 l0_2.length c0_2] 83 (0,0)) (by (with_reducible repeat (first|refine blk_drewN ?_ _|refine blk_drew ?_|refine blk_alloc ?_ _));exact BK327.out) hb);have n1_:=Aside0.mk (below_step (by repeat (first|(with_reducible first|exact HB.out|apply below_alloc|apply pw_below_drewN|apply below_drew1|refine below_set ?_ GE327.out)|exact HB.out)) hb);have n2_:=Aside0.mk (hbox);have n3_:=Aside0.mk ((by rw [hg];exact (below_size (by repeat (first|(with_reducible first|exact HB.out|apply below_alloc|apply pw_below_drewN|apply below_drew1|refine below_set ?_ GE327.out)|exact HB.out))):w.heap.size≤gb328));have n4_:=Aside0.mk ((by rw [hg];exact (below_size (by repeat (first|(with_reducible first|exact HB.out|apply below_alloc|apply pw_below_drewN|apply below_drew1|refine below_set ?_ GE327.out)|exact HB.out))):w.heap.size≤gb328));have n5_:=Aside0.mk ((by rw [hg];exact Nat.ne_of_lt (blk_lt (g:=gb327) (o:=.cells #[.bool a0_0,.slice A0_1 l0_1.length c0_1,.slice A0_2 l0_2.length c0_2] 83 (0,0)) (by (with_reducible repeat (first|refine blk_drewN ?_ _|refine blk_drew ?_|refine blk_alloc ?_ _));exact BK327.out)):gb327 ≠ gb328));have n6_:=Aside0.mk ((by rw [hg];exact Nat.ne_of_gt (blk_lt (g:=gb327) (o:=.cells #[.bool a0_0,.slice A0_1 l0_1.length c0_1,.slice A0_2 l0_2.length c0_2] 83 (0,0)) (by (with_reducible repeat (first|refine blk_drewN ?_ _|refine blk_drew ?_|refine blk_alloc ?_ _));exact BK327.out)):gb328 ≠ gb327));clear BK327;clear HB;have BK327:=n0_;have HB:=n1_;have BK328:=n2_;have GW328:=n3_;have GE328:=n4_;have NB327_328:=n5_;have NB328_327:=n6_;clear n0_ n1_ n2_ n3_ n4_ n5_ n6_;clear hb hbox hg;have hnb4:=NB327_328.out;have hnc4:=NB328_327.out;have hcz5_0:w3.cell? ⟨gb327,0,none⟩=some (.bool a0_0):=(blk_cell BK327.out 0).trans rfl;have hcz5_1:w3.cell? ⟨gb327,1,none⟩=some (.slice A0_1 l0_1.length c0_1):=(blk_cell BK327.out 1).trans rfl;have hcz5_2:w3.cell? ⟨gb327,2,none⟩=some (.slice A0_2 l0_2.length c0_2):=(blk_cell BK327.out 2).trans rfl;have hfz5_0:=blk_frozen BK327.out 0;have hfz5_1:=blk_frozen BK327.out 1;have hfz5_2:=blk_frozen BK327.out 2)|((with_reducible refine gate_dst (N:=3) rfl ?_);refine box_event ?hg (N:=3) ?hd (cs:=#[.bool false,.slice none 0 0,.slice none 0 0]) (t:=83) ?hr ?_;(case hd=>rfl);(case hg=>rfl);(case hr=>first|(go_simp;done)|(go_simp;rfl));intro gb329 hg w6 hbox hb;have n0_:=Aside0.mk (blk_below (g:=gb327) (o:=.cells #[.bool a0_0,.slice A0_1 l0_1.length c0_1,.slice A0_2 l0_2.length c0_2] 83 (0,0)) (by (with_reducible repeat (first|refine blk_drewN ?_ _|refine blk_drew ?_|refine blk_alloc ?_ _));exact BK327.out) hb);have n1_:=Aside0.mk (blk_below (g:=gb328) (o:=.cells #[.bool false,.slice none 0 0,.slice none 0 0] 83 (0,0)) (by (with_reducible repeat (first|refine blk_drewN ?_ _|refine blk_drew ?_|refine blk_alloc ?_ _));exact BK328.out) hb);have n2_:=Aside0.mk (below_step (by repeat (first|(with_reducible first|exact HB.out|apply below_alloc|apply pw_below_drewN|apply below_drew1|refine below_set ?_ GE327.out|refine below_set ?_ GE328.out)|exact HB.out)) hb);have n3_:=Aside0.mk (hbox);have n4_:=Aside0.mk ((by rw [hg];exact (below_size (by repeat (first|(with_reducible first|exact HB.out|apply below_alloc|apply pw_below_drewN|apply below_drew1|refine below_set ?_ GE327.out|refine below_set ?_ GE328.out)|exact HB.out))):w.heap.size≤gb329));have n5_:=Aside0.mk ((by rw [hg];exact (below_size (by repeat (first|(with_reducible first|exact HB.out|apply below_alloc|apply pw_below_drewN|apply below_drew1|refine below_set ?_ GE327.out|refine below_set ?_ GE328.out)|exact HB.out))):w.heap.size≤gb329));have n6_:=Aside0.mk ((by rw [hg];exact Nat.ne_of_lt (blk_lt (g:=gb327) (o:=.cells #[.bool a0_0,.slice A0_1 l0_1.length c0_1,.slice A0_2 l0_2.length c0_2] 83 (0,0)) (by (with_reducible repeat (first|refine blk_drewN ?_ _|refine blk_drew ?_|refine blk_alloc ?_ _));exact BK327.out)):gb327 ≠ gb329));have n7_:=Aside0.mk ((by rw [hg];exact Nat.ne_of_gt (blk_lt (g:=gb327) (o:=.cells #[.bool a0_0,.slice A0_1 l0_1.length c0_1,.slice A0_2 l0_2.length c0_2] 83 (0,0)) (by (with_reducible repeat (first|refine blk_drewN ?_ _|refine blk_drew ?_|refine blk_alloc ?_ _));exact BK327.out)):gb329 ≠ gb327));have n8_:=Aside0.mk ((by rw [hg];exact Nat.ne_of_lt (blk_lt (g:=gb328) (o:=.cells #[.bool false,.slice none 0 0,.slice none 0 0] 83 (0,0)) (by (with_reducible repeat (first|refine blk_drewN ?_ _|refine blk_drew ?_|refine blk_alloc ?_ _));exact BK328.out)):gb328 ≠ gb329));have n9_:=Aside0.mk ((by rw [hg];exact Nat.ne_of_gt (blk_lt (g:=gb328) (o:=.cells #[.bool false,.slice none 0 0,.slice none 0 0] 83 (0,0)) (by (with_reducible repeat (first|refine blk_drewN ?_ _|refine blk_drew ?_|refine blk_alloc ?_ _));exact BK328.out)):gb329 ≠ gb328));clear BK327;clear BK328;clear HB;have BK327:=n0_;have BK328:=n1_;have HB:=n2_;have BK329:=n3_;have GW329:=n4_;have GE329:=n5_;have NB327_329:=n6_;have NB329_327:=n7_;have NB328_329:=n8_;have NB329_328:=n9_;clear n0_ n1_ n2_ n3_ n4_ n5_ n6_ n7_ n8_ n9_;clear hb hbox hg;have hnb7:=NB329_327.out;have hnc7:=NB327_329.out;have hnb8:=NB329_328.out;have hnc8:=NB328_329.out;have hcz9_0:w6.cell? ⟨gb329,0,none⟩=some (.bool false):=(blk_cell BK329.out 0).trans rfl;have hcz9_1:w6.cell? ⟨gb329,1,none⟩=some (.slice none 0 0):=(blk_cell BK329.out 1).trans rfl;have hcz9_2:w6.cell? ⟨gb329,2,none⟩=some (.slice none 0 0):=(blk_cell BK329.out 2).trans rfl;have hfz9_0:=blk_frozen BK329.out 0;have hfz9_1:=blk_frozen BK329.out 1;have hfz9_2:=blk_frozen BK329.out 2;have hcz10_0:w6.cell? ⟨gb327,0,none⟩=some (.bool a0_0):=(blk_cell BK327.out 0).trans rfl;have hcz10_1:w6.cell? ⟨gb327,1,none⟩=some (.slice A0_1 l0_1.length c0_1):=(blk_cell BK327.out 1).trans rfl;have hcz10_2:w6.cell? ⟨gb327,2,none⟩=some (.slice A0_2 l0_2.length c0_2):=(blk_cell BK327.out 2).trans rfl;have hfz10_0:=blk_frozen BK327.out 0;have hfz10_1:=blk_frozen BK327.out 1;have hfz10_2:=blk_frozen BK327.out 2))
 go_loopg [14] k (fun kq v14 w'=>∃ (x14_1:Int) (x330001_1:List (S87)) (u330001:Value),v14=.int .i64 x14_1∧Aside0 (spec_l2copy.l0 kq l0_1 (l0_1.length:Int) x14_1 a0_0 l0_1 l0_2 a0_0 x330001_1=some (r1,r2,r3))∧Aside0 (kq≤k)∧Aside0 (Kd.R k87 87 w' w.heap.size (fun _=>True) u330001 x330001_1)∧Aside0 (w'.heap[gb327]?=some (.cells #[.bool a0_0,(.slice A0_1 l0_1.length c0_1),(.slice A0_2 l0_2.length c0_2)] 83 (0,0)))∧Aside0 (w'.heap[gb328]?=some (.cells #[.bool false,(.slice none 0 0),(.slice none 0 0)] 83 (0,0)))∧Aside0 (w'.heap[gb329]?=some (.cells #[.bool a0_0,u330001,(.slice none 0 0)] 83 (0,0)))∧Aside0 (Below w.heap.size w w'))
 case atStart=>exact ⟨(0),(([]:List (S87))),(.slice none 0 0),(by first|rfl|(simp;done)|(simp [*];done)),H',⟨Nat.le_refl _⟩,⟨by first|exact Kd.R_nil _ _ _ _ _|exact Kd.N_nil _ _ _ _ _|exact Kd.V_nil _ _ _ _ _|exact Kd.Q_nil _ _ _ _ _|exact Kd.S_nil _ _ _ _ _⟩,⟨by (with_reducible repeat (first|refine blk_drewN ?_ _|refine blk_drew ?_|refine blk_alloc ?_ _));refine blk_far ?_ NB327_329.out _;(with_reducible repeat (first|refine blk_drewN ?_ _|refine blk_drew ?_|refine blk_alloc ?_ _));refine blk_far ?_ NB327_329.out _;(with_reducible repeat (first|refine blk_drewN ?_ _|refine blk_drew ?_|refine blk_alloc ?_ _));refine blk_far ?_ NB327_329.out _;(with_reducible repeat (first|refine blk_drewN ?_ _|refine blk_drew ?_|refine blk_alloc ?_ _));exact BK327.out⟩,⟨by (with_reducible repeat (first|refine blk_drewN ?_ _|refine blk_drew ?_|refine blk_alloc ?_ _));refine blk_far ?_ NB328_329.out _;(with_reducible repeat (first|refine blk_drewN ?_ _|refine blk_drew ?_|refine blk_alloc ?_ _));refine blk_far ?_ NB328_329.out _;(with_reducible repeat (first|refine blk_drewN ?_ _|refine blk_drew ?_|refine blk_alloc ?_ _));refine blk_far ?_ NB328_329.out _;(with_reducible repeat (first|refine blk_drewN ?_ _|refine blk_drew ?_|refine blk_alloc ?_ _));exact BK328.out⟩,⟨by (with_reducible repeat (first|refine blk_drewN ?_ _|refine blk_drew ?_|refine blk_alloc ?_ _));refine blk_put (cs:=#[.bool a0_0,.slice none 0 0,.slice none 0 0]) ?_ 2 _ rfl;(with_reducible repeat (first|refine blk_drewN ?_ _|refine blk_drew ?_|refine blk_alloc ?_ _));refine blk_put (cs:=#[.bool a0_0,.slice none 0 0,.slice none 0 0]) ?_ 1 _ rfl;(with_reducible repeat (first|refine blk_drewN ?_ _|refine blk_drew ?_|refine blk_alloc ?_ _));refine blk_put (cs:=#[.bool false,.slice none 0 0,.slice none 0 0]) ?_ 0 _ rfl;(with_reducible repeat (first|refine blk_drewN ?_ _|refine blk_drew ?_|refine blk_alloc ?_ _));exact BK329.out⟩,⟨by repeat (first|(with_reducible first|exact HB.out|apply below_alloc|apply pw_below_drewN|apply below_drew1|refine below_set ?_ GE327.out|refine below_set ?_ GE328.out|refine below_set ?_ GE329.out)|exact HB.out)⟩⟩
 case round =>
  clear H'
  try clear p2
  try clear c4
  try clear c6
  try clear c7
  try clear c8
  try clear hcz10_0
  try clear hcz10_1
  try clear hcz10_2
  try clear hcz5_0
  try clear hcz5_1
  try clear hcz5_2
  try clear hcz9_0
  try clear hcz9_1
  try clear hcz9_2
  try clear hfz10_0
  try clear hfz10_1
  try clear hfz10_2
  try clear hfz5_0
  try clear hfz5_1
  try clear hfz5_2
  try clear hfz9_0
  try clear hfz9_1
  try clear hfz9_2
  obtain ⟨x14_1,x330001_1,u330001,rfl,HA,HK1,HO_330001,BK327,BK328,BK329,HB⟩:=hrel
  cases gk with
  | zero=>exact absurd HA.out (by simp [spec_l2copy.l0])
  | succ k1 =>
   have H:=HA.out
   clear HA
   simp only [spec_l2copy.l0] at H
   by_cases c11:x14_1<(l0_1.length:Int)
   ·rw [if_pos c11] at H
    have c11b0:decide (x14_1<(l0_1.length:Int))=true:=decide_eq_true c11
    clear c11
    by_cases c12:0≤x14_1
    ·rw [if_pos c12] at H
     have c12b0:decide (0≤x14_1)=true:=decide_eq_true c12
     clear c12
     by_cases c13:x14_1<(l0_1.length:Int)
     ·rw [if_pos c13] at H
      have c13b0:decide (x14_1<(l0_1.length:Int))=true:=decide_eq_true c13
      clear c13
      by_cases c14:x330001_1.length<4398046511104
      ·rw [if_pos c14] at H
       have LMc14:=Aside0.mk c14
       clear c14
       obtain ⟨y332,hy332⟩:∃ y_:List (S87),y_=(x330001_1 ++ [(⟨(rd_T87 l0_1 x14_1).f0,(rd_T87 l0_1 x14_1).f1,(rd_T87 l0_1 x14_1).f2,(rd_T87 l0_1 x14_1).f3,(rd_T87 l0_1 x14_1).f4⟩:S87)]):=⟨_,rfl⟩
       replace H:(spec_l2copy.l0 k1 l0_1 (l0_1.length:Int) (wrap64 (x14_1+1)) a0_0 l0_1 l0_2 a0_0 y332)=some (r1,r2,r3):=by first|(rw [hy332];with_reducible exact H)|(have H2_:=(Option.bind_some _ _).symm.trans H;rw [hy332];with_reducible exact H2_)|(have H2_:=(Option.bind_some _ _).symm.trans H;with_reducible exact H2_)|with_reducible exact H|(rw [hy332];exact H)|exact H
       have Ny332:=Aside0.mk hy332
       clear hy332
       have H':=Aside0.mk H
       clear H
       have p330:0≤(x14_1:Int):=of_decide_eq_true (by first|(with_reducible assumption)|assumption)
       have q330:x14_1<(l0_1.length:Int):=of_decide_eq_true (by first|(with_reducible assumption)|assumption)
       obtain ⟨ad330,e330,hx330_0,hx330_1,hx330_2,hx330_3,hx330_4⟩:=at_T87 HR0_1.out x14_1 p330 q330
       cases e330
       replace hx330_0:=(HB.out.cell (World.block_lt_of_cell? w _ hx330_0)).trans hx330_0
       replace hx330_1:=(HB.out.cell (World.block_lt_of_cell? w _ hx330_1)).trans hx330_1
       replace hx330_2:=(HB.out.cell (World.block_lt_of_cell? w _ hx330_2)).trans hx330_2
       replace hx330_3:=(HB.out.cell (World.block_lt_of_cell? w _ hx330_3)).trans hx330_3
       replace hx330_4:=(HB.out.cell (World.block_lt_of_cell? w _ hx330_4)).trans hx330_4
       replace p330:=eq_true p330
       replace q330:=eq_true q330
       go_wp2_with (first|((with_reducible refine gate_dst (N:=5) rfl ?_);refine box_event ?hg (N:=5) ?hd (cs:=#[.int .i64 0,.int .i64 0,.bool false,.bool false,.int .i64 0]) (t:=87) ?hr ?_;(case hd=>rfl);(case hg=>rfl);(case hr=>first|(go_simp;done)|(go_simp;rfl));intro gb331 hg w15 hbox hb;have n0_:=Aside0.mk (Kd.R_below (Kd.R_elderB (by (with_reducible repeat (first|apply Kd.R_alloc|apply Kd.R_drewN|apply Kd.R_drew));exact HO_330001.out) gb331 (Nat.le_of_eq hg.symm)) hb);have n1_:=Aside0.mk (blk_below (g:=gb327) (o:=.cells #[.bool a0_0,.slice (some ad330) l0_1.length c0_1,.slice A0_2 l0_2.length c0_2] 83 (0,0)) (by (with_reducible repeat (first|refine blk_drewN ?_ _|refine blk_drew ?_|refine blk_alloc ?_ _));exact BK327.out) hb);have n2_:=Aside0.mk (blk_below (g:=gb328) (o:=.cells #[.bool false,.slice none 0 0,.slice none 0 0] 83 (0,0)) (by (with_reducible repeat (first|refine blk_drewN ?_ _|refine blk_drew ?_|refine blk_alloc ?_ _));exact BK328.out) hb);have n3_:=Aside0.mk (blk_below (g:=gb329) (o:=.cells #[.bool a0_0,u330001,.slice none 0 0] 83 (0,0)) (by (with_reducible repeat (first|refine blk_drewN ?_ _|refine blk_drew ?_|refine blk_alloc ?_ _));exact BK329.out) hb);have n4_:=Aside0.mk (below_step (by repeat (first|(with_reducible first|exact HB.out|apply below_alloc|apply pw_below_drewN|apply below_drew1|refine below_set ?_ GE327.out|refine below_set ?_ GE328.out|refine below_set ?_ GE329.out)|exact HB.out)) hb);have n5_:=Aside0.mk (hbox);have n6_:=Aside0.mk ((by rw [hg];exact (below_size (by repeat (first|(with_reducible first|exact HB.out|apply below_alloc|apply pw_below_drewN|apply below_drew1|refine below_set ?_ GE327.out|refine below_set ?_ GE328.out|refine below_set ?_ GE329.out)|exact HB.out))):w.heap.size≤gb331));have n7_:=Aside0.mk ((by rw [hg];exact (below_size (by repeat (first|(with_reducible first|exact HB.out|apply below_alloc|apply pw_below_drewN|apply below_drew1|refine below_set ?_ GE327.out|refine below_set ?_ GE328.out|refine below_set ?_ GE329.out)|exact HB.out))):w.heap.size≤gb331));have n8_:=Aside0.mk ((by rw [hg];exact Nat.ne_of_lt (blk_lt (g:=gb327) (o:=.cells #[.bool a0_0,.slice (some ad330) l0_1.length c0_1,.slice A0_2 l0_2.length c0_2] 83 (0,0)) (by (with_reducible repeat (first|refine blk_drewN ?_ _|refine blk_drew ?_|refine blk_alloc ?_ _));exact BK327.out)):gb327 ≠ gb331));have n9_:=Aside0.mk ((by rw [hg];exact Nat.ne_of_gt (blk_lt (g:=gb327) (o:=.cells #[.bool a0_0,.slice (some ad330) l0_1.length c0_1,.slice A0_2 l0_2.length c0_2] 83 (0,0)) (by (with_reducible repeat (first|refine blk_drewN ?_ _|refine blk_drew ?_|refine blk_alloc ?_ _));exact BK327.out)):gb331 ≠ gb327));have n10_:=Aside0.mk ((by rw [hg];exact Nat.ne_of_lt (blk_lt (g:=gb328) (o:=.cells #[.bool false,.slice none 0 0,.slice none 0 0] 83 (0,0)) (by (with_reducible repeat (first|refine blk_drewN ?_ _|refine blk_drew ?_|refine blk_alloc ?_ _));exact BK328.out)):gb328 ≠ gb331));have n11_:=Aside0.mk ((by rw [hg];exact Nat.ne_of_gt (blk_lt (g:=gb328) (o:=.cells #[.bool false,.slice none 0 0,.slice none 0 0] 83 (0,0)) (by (with_reducible repeat (first|refine blk_drewN ?_ _|refine blk_drew ?_|refine blk_alloc ?_ _));exact BK328.out)):gb331 ≠ gb328));have n12_:=Aside0.mk ((by rw [hg];exact Nat.ne_of_lt (blk_lt (g:=gb329) (o:=.cells #[.bool a0_0,u330001,.slice none 0 0] 83 (0,0)) (by (with_reducible repeat (first|refine blk_drewN ?_ _|refine blk_drew ?_|refine blk_alloc ?_ _));exact BK329.out)):gb329 ≠ gb331));have n13_:=Aside0.mk ((by rw [hg];exact Nat.ne_of_gt (blk_lt (g:=gb329) (o:=.cells #[.bool a0_0,u330001,.slice none 0 0] 83 (0,0)) (by (with_reducible repeat (first|refine blk_drewN ?_ _|refine blk_drew ?_|refine blk_alloc ?_ _));exact BK329.out)):gb331 ≠ gb329));clear HO_330001;clear BK327;clear BK328;clear BK329;clear HB;have HO_330001:=n0_;have BK327:=n1_;have BK328:=n2_;have BK329:=n3_;have HB:=n4_;have BK331:=n5_;have GW331:=n6_;have GE331:=n7_;have NB327_331:=n8_;have NB331_327:=n9_;have NB328_331:=n10_;have NB331_328:=n11_;have NB329_331:=n12_;have NB331_329:=n13_;clear n0_ n1_ n2_ n3_ n4_ n5_ n6_ n7_ n8_ n9_ n10_ n11_ n12_ n13_;clear hb hbox hg;have hnb16:=NB331_327.out;have hnc16:=NB327_331.out;have hnb17:=NB331_328.out;have hnc17:=NB328_331.out;have hnb18:=NB331_329.out;have hnc18:=NB329_331.out;have hcz19_0:w15.cell? ⟨gb331,0,none⟩=some (.int .i64 0):=(blk_cell BK331.out 0).trans rfl;have hcz19_1:w15.cell? ⟨gb331,1,none⟩=some (.int .i64 0):=(blk_cell BK331.out 1).trans rfl;have hcz19_2:w15.cell? ⟨gb331,2,none⟩=some (.bool false):=(blk_cell BK331.out 2).trans rfl;have hcz19_3:w15.cell? ⟨gb331,3,none⟩=some (.bool false):=(blk_cell BK331.out 3).trans rfl;have hcz19_4:w15.cell? ⟨gb331,4,none⟩=some (.int .i64 0):=(blk_cell BK331.out 4).trans rfl;have hfz19_0:=blk_frozen BK331.out 0;have hfz19_1:=blk_frozen BK331.out 1;have hfz19_2:=blk_frozen BK331.out 2;have hfz19_3:=blk_frozen BK331.out 3;have hfz19_4:=blk_frozen BK331.out 4;have hnb20:=NB329_327.out;have hnc20:=NB327_329.out;have hnb21:=NB329_328.out;have hnc21:=NB328_329.out;have hcz22_0:w15.cell? ⟨gb329,0,none⟩=some (.bool a0_0):=(blk_cell BK329.out 0).trans rfl;have hcz22_1:w15.cell? ⟨gb329,1,none⟩=some (u330001):=(blk_cell BK329.out 1).trans rfl;have hcz22_2:w15.cell? ⟨gb329,2,none⟩=some (.slice none 0 0):=(blk_cell BK329.out 2).trans rfl;have hfz22_0:=blk_frozen BK329.out 0;have hfz22_1:=blk_frozen BK329.out 1;have hfz22_2:=blk_frozen BK329.out 2)|((with_reducible refine gate_builtin (b:=.append) (xs:=#[.tmp 19,.tmp 21]) rfl ?_);at_builtin;refine Kd.R_append k87 (w0:=w) w.heap.size rfl (.tmp 19) (.tmp 21) 80 87 (.agg #[(.int .i64 0),(.int .i64 0),(.bool false),(.bool false),(.int .i64 0)]) 32 rfl Tryd.underlying80 info87 rfl (by decide) (by omega) u330001 x330001_1 (⟨(rd_T87 l0_1 x14_1).f0,(rd_T87 l0_1 x14_1).f1,(rd_T87 l0_1 x14_1).f2,(rd_T87 l0_1 x14_1).f3,(rd_T87 l0_1 x14_1).f4⟩:S87) [.int .i64 ((rd_T87 l0_1 x14_1).f0),.int .i64 ((rd_T87 l0_1 x14_1).f1),.bool ((rd_T87 l0_1 x14_1).f2),.bool ((rd_T87 l0_1 x14_1).f3),.int .i64 ((rd_T87 l0_1 x14_1).f4)] (fun k_=>k_ ≠ gb331) (fun _=>False) rfl (by first|(go_simp;done)|(go_simp;rfl)) ?aP (fun _ hk=>hk.elim) ?aF ?aO ?aB ?aS ?aL ?_;(case aP=>exact k87_mkM _ _ _ (⟨(rd_T87 l0_1 x14_1).f0,(rd_T87 l0_1 x14_1).f1,(rd_T87 l0_1 x14_1).f2,(rd_T87 l0_1 x14_1).f3,(rd_T87 l0_1 x14_1).f4⟩:S87));(case aB=>exact (by repeat (first|(with_reducible first|exact HB.out|apply below_alloc|apply pw_below_drewN|apply below_drew1|refine below_set ?_ GE327.out|refine below_set ?_ GE328.out|refine below_set ?_ GE329.out|refine below_set ?_ GE331.out)|exact HB.out)));(case aF=>exact (fun k_ hk=>Kd.freshB (g:=gb331) (o:=.cells #[.int .i64 ((rd_T87 l0_1 x14_1).f0),.int .i64 ((rd_T87 l0_1 x14_1).f1),.bool ((rd_T87 l0_1 x14_1).f2),.bool ((rd_T87 l0_1 x14_1).f3),.int .i64 ((rd_T87 l0_1 x14_1).f4)] 87 (0,0)) (by (with_reducible repeat (first|refine blk_drewN ?_ _|refine blk_drew ?_|refine blk_alloc ?_ _));refine blk_put (cs:=#[.int .i64 ((rd_T87 l0_1 x14_1).f0),.int .i64 ((rd_T87 l0_1 x14_1).f1),.bool ((rd_T87 l0_1 x14_1).f2),.bool ((rd_T87 l0_1 x14_1).f3),.int .i64 0]) ?_ 4 _ rfl;(with_reducible repeat (first|refine blk_drewN ?_ _|refine blk_drew ?_|refine blk_alloc ?_ _));refine blk_put (cs:=#[.int .i64 ((rd_T87 l0_1 x14_1).f0),.int .i64 ((rd_T87 l0_1 x14_1).f1),.bool ((rd_T87 l0_1 x14_1).f2),.bool false,.int .i64 0]) ?_ 3 _ rfl;(with_reducible repeat (first|refine blk_drewN ?_ _|refine blk_drew ?_|refine blk_alloc ?_ _));refine blk_put (cs:=#[.int .i64 ((rd_T87 l0_1 x14_1).f0),.int .i64 ((rd_T87 l0_1 x14_1).f1),.bool false,.bool false,.int .i64 0]) ?_ 2 _ rfl;(with_reducible repeat (first|refine blk_drewN ?_ _|refine blk_drew ?_|refine blk_alloc ?_ _));refine blk_put (cs:=#[.int .i64 ((rd_T87 l0_1 x14_1).f0),.int .i64 0,.bool false,.bool false,.int .i64 0]) ?_ 1 _ rfl;(with_reducible repeat (first|refine blk_drewN ?_ _|refine blk_drew ?_|refine blk_alloc ?_ _));refine blk_put (cs:=#[.int .i64 0,.int .i64 0,.bool false,.bool false,.int .i64 0]) ?_ 0 _ rfl;(with_reducible repeat (first|refine blk_drewN ?_ _|refine blk_drew ?_|refine blk_alloc ?_ _));exact BK331.out) k_ hk));(case aO=>exact (by (with_reducible repeat (first|apply Kd.R_alloc|apply Kd.R_drewN|apply Kd.R_drew));exact Kd.R_mono (Kd.R_far (p:=⟨gb331,4,none⟩) (Kd.R_far (p:=⟨gb331,3,none⟩) (Kd.R_far (p:=⟨gb331,2,none⟩) (Kd.R_far (p:=⟨gb331,1,none⟩) (Kd.R_far (p:=⟨gb331,0,none⟩) (Kd.R_mono HO_330001.out (fun k_ hk=>(⟨hk,hk.2⟩:_∧k_ ≠ gb331))) (fun _ hk=>hk.2) (.int .i64 ((rd_T87 l0_1 x14_1).f0))) (fun _ hk=>hk.2) (.int .i64 ((rd_T87 l0_1 x14_1).f1))) (fun _ hk=>hk.2) (.bool ((rd_T87 l0_1 x14_1).f2))) (fun _ hk=>hk.2) (.bool ((rd_T87 l0_1 x14_1).f3))) (fun _ hk=>hk.2) (.int .i64 ((rd_T87 l0_1 x14_1).f4))) (fun _ hk=>hk.1.2)));(case aS=>exact (below_size (by repeat (first|(with_reducible first|exact HB.out|apply below_alloc|apply pw_below_drewN|apply below_drew1|refine below_set ?_ GE327.out|refine below_set ?_ GE328.out|refine below_set ?_ GE329.out|refine below_set ?_ GE331.out)|exact HB.out))));(case aL=>have:=LMc14.out;omega);intro v333 w23 ho hb hg hat;rw [← Ny332.out] at ho;have n0_:=Aside0.mk (blk_grown (g:=gb327) (o:=.cells #[.bool a0_0,.slice (some ad330) l0_1.length c0_1,.slice A0_2 l0_2.length c0_2] 83 (0,0)) (by (with_reducible repeat (first|refine blk_drewN ?_ _|refine blk_drew ?_|refine blk_alloc ?_ _));refine blk_far ?_ NB327_331.out _;(with_reducible repeat (first|refine blk_drewN ?_ _|refine blk_drew ?_|refine blk_alloc ?_ _));refine blk_far ?_ NB327_331.out _;(with_reducible repeat (first|refine blk_drewN ?_ _|refine blk_drew ?_|refine blk_alloc ?_ _));refine blk_far ?_ NB327_331.out _;(with_reducible repeat (first|refine blk_drewN ?_ _|refine blk_drew ?_|refine blk_alloc ?_ _));refine blk_far ?_ NB327_331.out _;(with_reducible repeat (first|refine blk_drewN ?_ _|refine blk_drew ?_|refine blk_alloc ?_ _));refine blk_far ?_ NB327_331.out _;(with_reducible repeat (first|refine blk_drewN ?_ _|refine blk_drew ?_|refine blk_alloc ?_ _));exact BK327.out) hg (Kd.R_ne HO_330001.out BK327.out (by decide)));have n1_:=Aside0.mk (blk_grown (g:=gb328) (o:=.cells #[.bool false,.slice none 0 0,.slice none 0 0] 83 (0,0)) (by (with_reducible repeat (first|refine blk_drewN ?_ _|refine blk_drew ?_|refine blk_alloc ?_ _));refine blk_far ?_ NB328_331.out _;(with_reducible repeat (first|refine blk_drewN ?_ _|refine blk_drew ?_|refine blk_alloc ?_ _));refine blk_far ?_ NB328_331.out _;(with_reducible repeat (first|refine blk_drewN ?_ _|refine blk_drew ?_|refine blk_alloc ?_ _));refine blk_far ?_ NB328_331.out _;(with_reducible repeat (first|refine blk_drewN ?_ _|refine blk_drew ?_|refine blk_alloc ?_ _));refine blk_far ?_ NB328_331.out _;(with_reducible repeat (first|refine blk_drewN ?_ _|refine blk_drew ?_|refine blk_alloc ?_ _));refine blk_far ?_ NB328_331.out _;(with_reducible repeat (first|refine blk_drewN ?_ _|refine blk_drew ?_|refine blk_alloc ?_ _));exact BK328.out) hg (Kd.R_ne HO_330001.out BK328.out (by decide)));have n2_:=Aside0.mk (blk_grown (g:=gb329) (o:=.cells #[.bool a0_0,u330001,.slice none 0 0] 83 (0,0)) (by (with_reducible repeat (first|refine blk_drewN ?_ _|refine blk_drew ?_|refine blk_alloc ?_ _));refine blk_far ?_ NB329_331.out _;(with_reducible repeat (first|refine blk_drewN ?_ _|refine blk_drew ?_|refine blk_alloc ?_ _));refine blk_far ?_ NB329_331.out _;(with_reducible repeat (first|refine blk_drewN ?_ _|refine blk_drew ?_|refine blk_alloc ?_ _));refine blk_far ?_ NB329_331.out _;(with_reducible repeat (first|refine blk_drewN ?_ _|refine blk_drew ?_|refine blk_alloc ?_ _));refine blk_far ?_ NB329_331.out _;(with_reducible repeat (first|refine blk_drewN ?_ _|refine blk_drew ?_|refine blk_alloc ?_ _));refine blk_far ?_ NB329_331.out _;(with_reducible repeat (first|refine blk_drewN ?_ _|refine blk_drew ?_|refine blk_alloc ?_ _));exact BK329.out) hg (Kd.R_ne HO_330001.out BK329.out (by decide)));have n3_:=Aside0.mk (blk_grown (g:=gb331) (o:=.cells #[.int .i64 ((rd_T87 l0_1 x14_1).f0),.int .i64 ((rd_T87 l0_1 x14_1).f1),.bool ((rd_T87 l0_1 x14_1).f2),.bool ((rd_T87 l0_1 x14_1).f3),.int .i64 ((rd_T87 l0_1 x14_1).f4)] 87 (0,0)) (by (with_reducible repeat (first|refine blk_drewN ?_ _|refine blk_drew ?_|refine blk_alloc ?_ _));refine blk_put (cs:=#[.int .i64 ((rd_T87 l0_1 x14_1).f0),.int .i64 ((rd_T87 l0_1 x14_1).f1),.bool ((rd_T87 l0_1 x14_1).f2),.bool ((rd_T87 l0_1 x14_1).f3),.int .i64 0]) ?_ 4 _ rfl;(with_reducible repeat (first|refine blk_drewN ?_ _|refine blk_drew ?_|refine blk_alloc ?_ _));refine blk_put (cs:=#[.int .i64 ((rd_T87 l0_1 x14_1).f0),.int .i64 ((rd_T87 l0_1 x14_1).f1),.bool ((rd_T87 l0_1 x14_1).f2),.bool false,.int .i64 0]) ?_ 3 _ rfl;(with_reducible repeat (first|refine blk_drewN ?_ _|refine blk_drew ?_|refine blk_alloc ?_ _));refine blk_put (cs:=#[.int .i64 ((rd_T87 l0_1 x14_1).f0),.int .i64 ((rd_T87 l0_1 x14_1).f1),.bool false,.bool false,.int .i64 0]) ?_ 2 _ rfl;(with_reducible repeat (first|refine blk_drewN ?_ _|refine blk_drew ?_|refine blk_alloc ?_ _));refine blk_put (cs:=#[.int .i64 ((rd_T87 l0_1 x14_1).f0),.int .i64 0,.bool false,.bool false,.int .i64 0]) ?_ 1 _ rfl;(with_reducible repeat (first|refine blk_drewN ?_ _|refine blk_drew ?_|refine blk_alloc ?_ _));refine blk_put (cs:=#[.int .i64 0,.int .i64 0,.bool false,.bool false,.int .i64 0]) ?_ 0 _ rfl;(with_reducible repeat (first|refine blk_drewN ?_ _|refine blk_drew ?_|refine blk_alloc ?_ _));exact BK331.out) hg (Kd.R_away HO_330001.out (fun _ hk=>hk.2)));have n4_:=Aside0.mk (hb);have n5_:=Aside0.mk (ho);clear BK327;clear BK328;clear BK329;clear BK331;clear HB;clear HO_330001;have BK327:=n0_;have BK328:=n1_;have BK329:=n2_;have BK331:=n3_;have HB:=n4_;have HO334:=n5_;clear n0_ n1_ n2_ n3_ n4_ n5_;clear ho hb hg hat;obtain ⟨Ao24,co24,eo24⟩:=Kd.R_slice HO334.out;subst eo24;have hcz25_0:w23.cell? ⟨gb329,0,none⟩=some (.bool a0_0):=(blk_cell BK329.out 0).trans rfl;have hcz25_1:w23.cell? ⟨gb329,1,none⟩=some (u330001):=(blk_cell BK329.out 1).trans rfl;have hcz25_2:w23.cell? ⟨gb329,2,none⟩=some (.slice none 0 0):=(blk_cell BK329.out 2).trans rfl;have hfz25_0:=blk_frozen BK329.out 0;have hfz25_1:=blk_frozen BK329.out 1;have hfz25_2:=blk_frozen BK329.out 2))
       go_roundg k1
       case measure=>have:=HK1.out;omega
       case rel=>exact ⟨(wrap64 (x14_1+1)),(y332),(.slice Ao24 y332.length co24),(by first|rfl|(simp;done)|(simp [*];done)),H',⟨by have:=HK1.out;omega⟩,⟨by (with_reducible repeat (first|apply Kd.R_alloc|apply Kd.R_drewN|apply Kd.R_drew));exact Kd.R_mono (Kd.R_far (p:=⟨gb329,1,none⟩) (Kd.R_types HO334.out BK329.out (by decide)) (fun _ hk=>hk.2) (.slice Ao24 y332.length co24)) (fun _ hk=>trivial)⟩,⟨by (with_reducible repeat (first|refine blk_drewN ?_ _|refine blk_drew ?_|refine blk_alloc ?_ _));refine blk_far ?_ NB327_329.out _;(with_reducible repeat (first|refine blk_drewN ?_ _|refine blk_drew ?_|refine blk_alloc ?_ _));exact BK327.out⟩,⟨by (with_reducible repeat (first|refine blk_drewN ?_ _|refine blk_drew ?_|refine blk_alloc ?_ _));refine blk_far ?_ NB328_329.out _;(with_reducible repeat (first|refine blk_drewN ?_ _|refine blk_drew ?_|refine blk_alloc ?_ _));exact BK328.out⟩,⟨by (with_reducible repeat (first|refine blk_drewN ?_ _|refine blk_drew ?_|refine blk_alloc ?_ _));refine blk_put (cs:=#[.bool a0_0,u330001,.slice none 0 0]) ?_ 1 _ rfl;(with_reducible repeat (first|refine blk_drewN ?_ _|refine blk_drew ?_|refine blk_alloc ?_ _));exact BK329.out⟩,⟨by repeat (first|(with_reducible first|exact HB.out|apply below_alloc|apply pw_below_drewN|apply below_drew1|refine below_set ?_ GE327.out|refine below_set ?_ GE328.out|refine below_set ?_ GE329.out|refine below_set ?_ GE331.out)|exact HB.out)⟩⟩
      rw [if_neg c14] at H
      exact absurd H (by simp)
     rw [if_neg c13] at H
     exact absurd H (by simp)
    rw [if_neg c12] at H
    exact absurd H (by simp)
   rw [if_neg c11] at H
   have c11b0:decide (x14_1<(l0_1.length:Int))=false:=decide_eq_false c11
   clear c11
   have H':=Aside0.mk H
   clear H
   have hnb26:=NB327_328.out
   have hnc26:=NB328_327.out
   have hnb27:=NB327_329.out
   have hnc27:=NB329_327.out
   have hcz28_0:wr.cell? ⟨gb327,0,none⟩=some (.bool a0_0):=(blk_cell BK327.out 0).trans rfl
   have hcz28_1:wr.cell? ⟨gb327,1,none⟩=some (.slice A0_1 l0_1.length c0_1):=(blk_cell BK327.out 1).trans rfl
   have hcz28_2:wr.cell? ⟨gb327,2,none⟩=some (.slice A0_2 l0_2.length c0_2):=(blk_cell BK327.out 2).trans rfl
   have hfz28_0:=blk_frozen BK327.out 0
   have hfz28_1:=blk_frozen BK327.out 1
   have hfz28_2:=blk_frozen BK327.out 2
   go_wp2
   go_loopg [28] k1 (fun kq v28 w'=>∃ (x28_2:Int) (x330002_2:List Bool) (u330002:Value),v28=.int .i64 x28_2∧Aside0 (spec_l2copy.l1 kq l0_2 (l0_2.length:Int) x28_2 a0_0 x330001_1 x330002_2=some (r1,r2,r3))∧Aside0 (kq≤k1)∧Aside0 (Kd.R k87 87 w' w.heap.size (fun _=>True) u330001 x330001_1)∧Aside0 (Kd.R Kd.bool 4 w' w.heap.size (fun _=>True) u330002 x330002_2)∧Aside0 (w'.heap[gb327]?=some (.cells #[.bool a0_0,(.slice A0_1 l0_1.length c0_1),(.slice A0_2 l0_2.length c0_2)] 83 (0,0)))∧Aside0 (w'.heap[gb328]?=some (.cells #[.bool false,(.slice none 0 0),(.slice none 0 0)] 83 (0,0)))∧Aside0 (w'.heap[gb329]?=some (.cells #[.bool a0_0,u330001,u330002] 83 (0,0)))∧Aside0 (Below w.heap.size w w'))
   case atStart=>exact ⟨(0),(([]:List Bool)),(.slice none 0 0),(by first|rfl|(simp;done)|(simp [*];done)),H',⟨Nat.le_refl _⟩,⟨by (with_reducible repeat (first|apply Kd.R_alloc|apply Kd.R_drewN|apply Kd.R_drew));exact HO_330001.out⟩,⟨by first|exact Kd.R_nil _ _ _ _ _|exact Kd.N_nil _ _ _ _ _|exact Kd.V_nil _ _ _ _ _|exact Kd.Q_nil _ _ _ _ _|exact Kd.S_nil _ _ _ _ _⟩,⟨by (with_reducible repeat (first|refine blk_drewN ?_ _|refine blk_drew ?_|refine blk_alloc ?_ _));exact BK327.out⟩,⟨by (with_reducible repeat (first|refine blk_drewN ?_ _|refine blk_drew ?_|refine blk_alloc ?_ _));exact BK328.out⟩,⟨by (with_reducible repeat (first|refine blk_drewN ?_ _|refine blk_drew ?_|refine blk_alloc ?_ _));exact BK329.out⟩,⟨by repeat (first|(with_reducible first|exact HB.out|apply below_alloc|apply pw_below_drewN|apply below_drew1|refine below_set ?_ GE327.out|refine below_set ?_ GE328.out|refine below_set ?_ GE329.out)|exact HB.out)⟩⟩
   case round =>
    clear H'
    try clear c1
    try clear c2
    try clear p2
    try clear p3
    try clear q3
    try clear hx3
    try clear c4
    try clear c6
    try clear p6
    try clear c7
    try clear c8
    try clear c11
    try clear c11b0
    try clear c12
    try clear c12b0
    try clear c13
    try clear c13b0
    try clear c14
    try clear c16
    try clear c17
    try clear c18
    try clear c20
    try clear c21
    try clear c26
    try clear c27
    try clear hcz10_0
    try clear hcz10_1
    try clear hcz10_2
    try clear hcz19_0
    try clear hcz19_1
    try clear hcz19_2
    try clear hcz19_3
    try clear hcz19_4
    try clear hcz22_0
    try clear hcz22_1
    try clear hcz22_2
    try clear hcz25_0
    try clear hcz25_1
    try clear hcz25_2
    try clear hcz28_0
    try clear hcz28_1
    try clear hcz28_2
    try clear hcz5_0
    try clear hcz5_1
    try clear hcz5_2
    try clear hcz9_0
    try clear hcz9_1
    try clear hcz9_2
    try clear hfz10_0
    try clear hfz10_1
    try clear hfz10_2
    try clear hfz19_0
    try clear hfz19_1
    try clear hfz19_2
    try clear hfz19_3
    try clear hfz19_4
    try clear hfz22_0
    try clear hfz22_1
    try clear hfz22_2
    try clear hfz25_0
    try clear hfz25_1
    try clear hfz25_2
    try clear hfz28_0
    try clear hfz28_1
    try clear hfz28_2
    try clear hfz5_0
    try clear hfz5_1
    try clear hfz5_2
    try clear hfz9_0
    try clear hfz9_1
    try clear hfz9_2
    try clear hx330_0
    try clear hx330_1
    try clear hx330_2
    try clear hx330_3
    try clear hx330_4
    try clear p2
    try clear p330
    try clear q330
    obtain ⟨x28_2,x330002_2,u330002,rfl,HA,HK2,HO_330001,HO_330002,BK327,BK328,BK329,HB⟩:=hrel
    cases gk with
    | zero=>exact absurd HA.out (by simp [spec_l2copy.l1])
    | succ k2 =>
     have H:=HA.out
     clear HA
     simp only [spec_l2copy.l1] at H
     by_cases c29:x28_2<(l0_2.length:Int)
     ·rw [if_pos c29] at H
      have c29b0:decide (x28_2<(l0_2.length:Int))=true:=decide_eq_true c29
      clear c29
      by_cases c30:0≤x28_2
      ·rw [if_pos c30] at H
       have c30b0:decide (0≤x28_2)=true:=decide_eq_true c30
       clear c30
       by_cases c31:x28_2<(l0_2.length:Int)
       ·rw [if_pos c31] at H
        have c31b0:decide (x28_2<(l0_2.length:Int))=true:=decide_eq_true c31
        clear c31
        by_cases c32:x330002_2.length<140737488355328
        ·rw [if_pos c32] at H
         have LMc32:=Aside0.mk c32
         clear c32
         obtain ⟨y336,hy336⟩:∃ y_:List Bool,y_=(x330002_2 ++ [rdOf false l0_2 x28_2]):=⟨_,rfl⟩
         replace H:(spec_l2copy.l1 k2 l0_2 (l0_2.length:Int) (wrap64 (x28_2+1)) a0_0 x330001_1 y336)=some (r1,r2,r3):=by first|(rw [hy336];with_reducible exact H)|(have H2_:=(Option.bind_some _ _).symm.trans H;rw [hy336];with_reducible exact H2_)|(have H2_:=(Option.bind_some _ _).symm.trans H;with_reducible exact H2_)|with_reducible exact H|(rw [hy336];exact H)|exact H
         have Ny336:=Aside0.mk hy336
         clear hy336
         have H':=Aside0.mk H
         clear H
         have p335:0≤(x28_2:Int):=of_decide_eq_true (by first|(with_reducible assumption)|assumption)
         have q335:x28_2<(l0_2.length:Int):=of_decide_eq_true (by first|(with_reducible assumption)|assumption)
         obtain ⟨ad335,e335,hx335_0⟩:=Kd.at_bool HR0_2.out x28_2 p335 q335
         cases e335
         replace hx335_0:=(HB.out.cell (World.block_lt_of_cell? w _ hx335_0)).trans hx335_0
         replace p335:=eq_true p335
         replace q335:=eq_true q335
         have hnb33:=NB329_327.out
         have hnc33:=NB327_329.out
         have hnb34:=NB329_328.out
         have hnc34:=NB328_329.out
         have hcz35_0:wr.cell? ⟨gb329,0,none⟩=some (.bool a0_0):=(blk_cell BK329.out 0).trans rfl
         have hcz35_1:wr.cell? ⟨gb329,1,none⟩=some (u330001):=(blk_cell BK329.out 1).trans rfl
         have hcz35_2:wr.cell? ⟨gb329,2,none⟩=some (u330002):=(blk_cell BK329.out 2).trans rfl
         have hfz35_0:=blk_frozen BK329.out 0
         have hfz35_1:=blk_frozen BK329.out 1
         have hfz35_2:=blk_frozen BK329.out 2
         go_wp2_with (first|((with_reducible refine gate_builtin (b:=.append) (xs:=#[.tmp 33,.tmp 35]) rfl ?_);at_builtin;refine Kd.R_append Kd.bool (w0:=w) w.heap.size rfl (.tmp 33) (.tmp 35) 81 4 (.bool false) 1 rfl Tryd.underlying81 info4 rfl (by decide) (by omega) u330002 x330002_2 (rdOf false l0_2 x28_2) [.bool (rdOf false l0_2 x28_2)] (fun _=>True) (fun _=>False) rfl rfl ?aP (fun _ hk=>hk.elim) ?aF ?aO ?aB ?aS ?aL ?_;(case aP=>exact rfl);(case aB=>exact (by repeat (first|(with_reducible first|exact HB.out|apply below_alloc|apply pw_below_drewN|apply below_drew1|refine below_set ?_ GE327.out|refine below_set ?_ GE328.out|refine below_set ?_ GE329.out)|exact HB.out)));(case aF=>exact (fun _ _=>trivial));(case aO=>exact (by (with_reducible repeat (first|apply Kd.R_alloc|apply Kd.R_drewN|apply Kd.R_drew));exact HO_330002.out));(case aS=>exact (below_size (by repeat (first|(with_reducible first|exact HB.out|apply below_alloc|apply pw_below_drewN|apply below_drew1|refine below_set ?_ GE327.out|refine below_set ?_ GE328.out|refine below_set ?_ GE329.out)|exact HB.out))));(case aL=>have:=LMc32.out;omega);intro v337 w36 ho hb hg hat;rw [← Ny336.out] at ho;have n0_:=Aside0.mk (Kd.R_over' (by (with_reducible repeat (first|apply Kd.R_alloc|apply Kd.R_drewN|apply Kd.R_drew));exact HO_330001.out) (Kd.R_typed (by (with_reducible repeat (first|apply Kd.R_alloc|apply Kd.R_drewN|apply Kd.R_drew));exact HO_330002.out)) (by decide) hg);have n1_:=Aside0.mk (blk_grown (g:=gb327) (o:=.cells #[.bool a0_0,.slice A0_1 l0_1.length c0_1,.slice (some ad335) l0_2.length c0_2] 83 (0,0)) (by (with_reducible repeat (first|refine blk_drewN ?_ _|refine blk_drew ?_|refine blk_alloc ?_ _));exact BK327.out) hg (Kd.R_ne HO_330002.out BK327.out (by decide)));have n2_:=Aside0.mk (blk_grown (g:=gb328) (o:=.cells #[.bool false,.slice none 0 0,.slice none 0 0] 83 (0,0)) (by (with_reducible repeat (first|refine blk_drewN ?_ _|refine blk_drew ?_|refine blk_alloc ?_ _));exact BK328.out) hg (Kd.R_ne HO_330002.out BK328.out (by decide)));have n3_:=Aside0.mk (blk_grown (g:=gb329) (o:=.cells #[.bool a0_0,u330001,u330002] 83 (0,0)) (by (with_reducible repeat (first|refine blk_drewN ?_ _|refine blk_drew ?_|refine blk_alloc ?_ _));exact BK329.out) hg (Kd.R_ne HO_330002.out BK329.out (by decide)));have n4_:=Aside0.mk (hb);have n5_:=Aside0.mk (ho);clear HO_330001;clear BK327;clear BK328;clear BK329;clear HB;clear HO_330002;have HO_330001:=n0_;have BK327:=n1_;have BK328:=n2_;have BK329:=n3_;have HB:=n4_;have HO338:=n5_;clear n0_ n1_ n2_ n3_ n4_ n5_;clear ho hb hg hat;obtain ⟨Ao37,co37,eo37⟩:=Kd.R_slice HO338.out;subst eo37;have hcz38_0:w36.cell? ⟨gb329,0,none⟩=some (.bool a0_0):=(blk_cell BK329.out 0).trans rfl;have hcz38_1:w36.cell? ⟨gb329,1,none⟩=some (u330001):=(blk_cell BK329.out 1).trans rfl;have hcz38_2:w36.cell? ⟨gb329,2,none⟩=some (u330002):=(blk_cell BK329.out 2).trans rfl;have hfz38_0:=blk_frozen BK329.out 0;have hfz38_1:=blk_frozen BK329.out 1;have hfz38_2:=blk_frozen BK329.out 2))
         go_roundg k2
         case measure=>have:=HK1.out;have:=HK2.out;omega
         case rel=>exact ⟨(wrap64 (x28_2+1)),(y336),(.slice Ao37 y336.length co37),(by first|rfl|(simp;done)|(simp [*];done)),H',⟨by have:=HK1.out;have:=HK2.out;omega⟩,⟨by (with_reducible repeat (first|apply Kd.R_alloc|apply Kd.R_drewN|apply Kd.R_drew));exact Kd.R_mono (Kd.R_far (p:=⟨gb329,2,none⟩) (Kd.R_types HO_330001.out BK329.out (by decide)) (fun _ hk=>hk.2) (.slice Ao37 y336.length co37)) (fun _ hk=>trivial)⟩,⟨by (with_reducible repeat (first|apply Kd.R_alloc|apply Kd.R_drewN|apply Kd.R_drew));exact Kd.R_mono (Kd.R_far (p:=⟨gb329,2,none⟩) (Kd.R_types HO338.out BK329.out (by decide)) (fun _ hk=>hk.2) (.slice Ao37 y336.length co37)) (fun _ hk=>trivial)⟩,⟨by (with_reducible repeat (first|refine blk_drewN ?_ _|refine blk_drew ?_|refine blk_alloc ?_ _));refine blk_far ?_ NB327_329.out _;(with_reducible repeat (first|refine blk_drewN ?_ _|refine blk_drew ?_|refine blk_alloc ?_ _));exact BK327.out⟩,⟨by (with_reducible repeat (first|refine blk_drewN ?_ _|refine blk_drew ?_|refine blk_alloc ?_ _));refine blk_far ?_ NB328_329.out _;(with_reducible repeat (first|refine blk_drewN ?_ _|refine blk_drew ?_|refine blk_alloc ?_ _));exact BK328.out⟩,⟨by (with_reducible repeat (first|refine blk_drewN ?_ _|refine blk_drew ?_|refine blk_alloc ?_ _));refine blk_put (cs:=#[.bool a0_0,u330001,u330002]) ?_ 2 _ rfl;(with_reducible repeat (first|refine blk_drewN ?_ _|refine blk_drew ?_|refine blk_alloc ?_ _));exact BK329.out⟩,⟨by repeat (first|(with_reducible first|exact HB.out|apply below_alloc|apply pw_below_drewN|apply below_drew1|refine below_set ?_ GE327.out|refine below_set ?_ GE328.out|refine below_set ?_ GE329.out)|exact HB.out)⟩⟩
        rw [if_neg c32] at H
        exact absurd H (by simp)
       rw [if_neg c31] at H
       exact absurd H (by simp)
      rw [if_neg c30] at H
      exact absurd H (by simp)
     rw [if_neg c29] at H
     have c29b0:decide (x28_2<(l0_2.length:Int))=false:=decide_eq_false c29
     clear c29
     simp only [Option.some.injEq,Prod.mk.injEq] at H
     obtain ⟨rfl,rfl,rfl⟩:=H
     have hnb39:=NB329_327.out
     have hnc39:=NB327_329.out
     have hnb40:=NB329_328.out
     have hnc40:=NB328_329.out
     have hcz41_0:wr.cell? ⟨gb329,0,none⟩=some (.bool a0_0):=(blk_cell BK329.out 0).trans rfl
     have hcz41_1:wr.cell? ⟨gb329,1,none⟩=some (u330001):=(blk_cell BK329.out 1).trans rfl
     have hcz41_2:wr.cell? ⟨gb329,2,none⟩=some (u330002):=(blk_cell BK329.out 2).trans rfl
     have hfz41_0:=blk_frozen BK329.out 0
     have hfz41_1:=blk_frozen BK329.out 1
     have hfz41_2:=blk_frozen BK329.out 2
     have hnb42:=NB328_327.out
     have hnc42:=NB327_328.out
     have hcz43_0:wr.cell? ⟨gb328,0,none⟩=some (.bool false):=(blk_cell BK328.out 0).trans rfl
     have hcz43_1:wr.cell? ⟨gb328,1,none⟩=some (.slice none 0 0):=(blk_cell BK328.out 1).trans rfl
     have hcz43_2:wr.cell? ⟨gb328,2,none⟩=some (.slice none 0 0):=(blk_cell BK328.out 2).trans rfl
     have hfz43_0:=blk_frozen BK328.out 0
     have hfz43_1:=blk_frozen BK328.out 1
     have hfz43_2:=blk_frozen BK328.out 2
     obtain ⟨Ao44,co44,eo44⟩:=Kd.R_slice HO_330001.out
     subst eo44
     obtain ⟨Ao45,co45,eo45⟩:=Kd.R_slice HO_330002.out
     subst eo45
     go_wp2
     refine bodyPost_ret (results_cell_row rfl _ _ gb328 83 #[.bool a0_0,.slice Ao44 x330001_1.length co44,.slice Ao45 x330002_2.length co45] (0,0) _ rfl (by (with_reducible repeat (first|refine blk_drewN ?_ _|refine blk_drew ?_|refine blk_alloc ?_ _));refine blk_put (cs:=#[.bool a0_0,.slice Ao44 x330001_1.length co44,.slice none 0 0]) ?_ 2 _ rfl;(with_reducible repeat (first|refine blk_drewN ?_ _|refine blk_drew ?_|refine blk_alloc ?_ _));refine blk_put (cs:=#[.bool a0_0,.slice none 0 0,.slice none 0 0]) ?_ 1 _ rfl;(with_reducible repeat (first|refine blk_drewN ?_ _|refine blk_drew ?_|refine blk_alloc ?_ _));refine blk_put (cs:=#[.bool false,.slice none 0 0,.slice none 0 0]) ?_ 0 _ rfl;(with_reducible repeat (first|refine blk_drewN ?_ _|refine blk_drew ?_|refine blk_alloc ?_ _));exact BK328.out) Tryd.underlying83 rfl (by kernel_rfl)) rfl ?_
     exact ⟨_,_,by first|rfl|(simp [errW_none,errW_some] <;> rfl)|(simp [*,errW_none,errW_some] <;> rfl),by (with_reducible repeat (first|apply Kd.R_alloc|apply Kd.R_drewN|apply Kd.R_drew));exact Kd.R_mono (Kd.R_far (p:=⟨gb328,2,none⟩) (Kd.R_far (p:=⟨gb328,1,none⟩) (Kd.R_far (p:=⟨gb328,0,none⟩) (Kd.R_types HO_330001.out BK328.out (by decide)) (fun _ hk=>hk.2) (.bool a0_0)) (fun _ hk=>hk.2) (.slice Ao44 x330001_1.length co44)) (fun _ hk=>hk.2) (.slice Ao45 x330002_2.length co45)) (fun _ hk=>trivial),by (with_reducible repeat (first|apply Kd.R_alloc|apply Kd.R_drewN|apply Kd.R_drew));exact Kd.R_mono (Kd.R_far (p:=⟨gb328,2,none⟩) (Kd.R_far (p:=⟨gb328,1,none⟩) (Kd.R_far (p:=⟨gb328,0,none⟩) (Kd.R_types HO_330002.out BK328.out (by decide)) (fun _ hk=>hk.2) (.bool a0_0)) (fun _ hk=>hk.2) (.slice Ao44 x330001_1.length co44)) (fun _ hk=>hk.2) (.slice Ao45 x330002_2.length co45)) (fun _ hk=>trivial),by repeat (first|(with_reducible first|exact HB.out|apply below_alloc|apply pw_below_drewN|apply below_drew1|refine below_set ?_ GE327.out|refine below_set ?_ GE328.out|refine below_set ?_ GE329.out)|exact HB.out)⟩
end Go.Proofs.YtpdnabhpkdchjaaDoor.P
namespace Go.Proofs.YtpdnabhpkdchjaaDoor.P
open Go.RowKit Go.Proofs.YtpdnabhpkdchjaaDoorW.PrintWords Go.Proofs.YtpdnabhpkdchjaaDoorW.PrintLast Go.Proofs.YtpdnabhpkdchjaaDoorW.PrintMore
set_option linter.unusedVariables false
set_option linter.unusedSimpArgs false
theorem secsFrom_at {l:List S98} {dd:List Bool} {ss:List S87}:∀ (d i:Nat),secsFrom l dd ss d i=true→∀ j,i≤j→j<i+d→secOk l dd (j:Int) (rd_T87 ss (j:Int))=true:=by
 intro d
 induction d with
 | zero=>intro i h j h1 h2;omega
 | succ d ih =>
  intro i h j h1 h2
  simp only [secsFrom,Bool.and_eq_true] at h
  by_cases e:j=i
  ·subst e;exact h.1
  exact ih (i+1) h.2 j (by omega) (by omega)
theorem secsFrom_of {l:List S98} {dd:List Bool} {ss:List S87}:∀ (d i:Nat),(∀ j,i≤j→j<i+d→secOk l dd (j:Int) (rd_T87 ss (j:Int))=true)→secsFrom l dd ss d i=true:=by
 intro d
 induction d with
 | zero=>intro i h;rfl
 | succ d ih =>
  intro i h
  simp only [secsFrom,Bool.and_eq_true]
  exact ⟨h i (Nat.le_refl _) (by omega),ih (i+1) (fun j h1 h2=>h j (by omega) (by omega))⟩
theorem stateOk_of {n:Int} {l:List S98} {ok:Bool} {ss:List S87} {dd:List Bool} (h:stateOk n l ok ss dd=true):layoutOk n l=0∧ok=true∧(ss.length:Int)=n∧dd.length=l.length∧∀ j,j<ss.length→secOk l dd (j:Int) (rd_T87 ss (j:Int))=true:=by
 simp only [stateOk,Bool.and_eq_true,decide_eq_true_eq] at h
 exact ⟨h.1.1.1.1,h.1.1.1.2,h.1.1.2,h.1.2,fun j hj=>secsFrom_at _ 0 h.2 j (by omega) (by omega)⟩
theorem stateOk_mk {n:Int} {l:List S98} {ok:Bool} {ss:List S87} {dd:List Bool} (h1:layoutOk n l=0) (h2:ok=true) (h3:(ss.length:Int)=n) (h4:dd.length=l.length) (h5:∀ j,j<ss.length→secOk l dd (j:Int) (rd_T87 ss (j:Int))=true):stateOk n l ok ss dd=true:=by
 simp only [stateOk,Bool.and_eq_true,decide_eq_true_eq]
 exact ⟨⟨⟨⟨h1,h2⟩,h3⟩,h4⟩,secsFrom_of _ 0 (fun j _ hj=>h5 j (by omega))⟩
theorem secOk_told {l:List S98} {dd:List Bool} {s:Int} {x:S87} (h:secOk l dd s x=true):x.f0=toldC l dd s x:=by
 simp only [secOk,Bool.and_eq_true,decide_eq_true_eq] at h
 exact h.1.2
theorem secOk_range {l:List S98} {dd:List Bool} {s:Int} {x:S87} (h:secOk l dd s x=true):-1000000≤x.f1∧x.f1≤1000000∧-1≤x.f4∧x.f4≤1:=by
 simp only [secOk,secRange,Bool.and_eq_true,decide_eq_true_eq] at h
 exact ⟨h.1.1.1.1.1,h.1.1.1.1.2,h.1.1.1.2,h.1.1.2⟩
theorem rd50_get (ss:List S87) (i:Nat) (h:i<ss.length):rd_T87 ss (i:Int)=ss[i]:=by simp [rd_T87,h]
theorem retold_same {l:List S98} {dd:List Bool} {ss:List S87} (h:∀ j,j<ss.length→secOk l dd (j:Int) (rd_T87 ss (j:Int))=true):retold l dd ss=ss:=by
 apply List.ext_getElem
 ·exact retold_length _ _ _
 intro i h1 h2
 simp only [retold,retoldTo,List.getElem_mapIdx,if_pos h2]
 have e:=secOk_told (h i h2)
 rw [rd50_get ss i h2] at e
 unfold tellS
 rw [← e]
def midSecs2 (l:List S98) (ss:List S87) (dd:List Bool) (op of dir:Int):List S87:=if doCode l ss dd op of=0 then midSecs l ss op of dir else ss
theorem midSecs2_length (l:List S98) (ss:List S87) (dd:List Bool) (op of dir:Int):(midSecs2 l ss dd op of dir).length=ss.length:=by
 unfold midSecs2;split
 ·exact midSecs_length _ _ _ _ _
 rfl
theorem retold_mid {l:List S98} {dd:List Bool} {ss:List S87} {op of dir:Int} (h:∀ j,j<ss.length→secOk l dd (j:Int) (rd_T87 ss (j:Int))=true):retold l (doDead l ss dd op of) (midSecs2 l ss dd op of dir)=doSecs l ss dd op of dir:=by
 unfold doDead midSecs2 doSecs
 by_cases hc:doCode l ss dd op of=0
 ·rw [if_pos hc,if_pos hc,if_pos hc]
 rw [if_neg hc,if_neg hc,if_neg hc,retold_same h]
theorem specCopy_l1 (b:Bool) (ss:List S87) (dd:List Bool) (hd:dd.length≤1048576) (d:Nat):∀ i:Nat,i+d=dd.length→Ev (fun k=>spec_l2copy.l1 k dd (dd.length:Int) (i:Int) b ss (dd.take i)) (b,ss,dd):=by
 induction d with
 | zero =>
  intro i hi
  refine Ev.step1 fun k=>?_
  simp only [spec_l2copy.l1]
  rw [if_neg (by omega),List.take_of_length_le (by omega)]
 | succ d ih =>
  intro i hi
  have hlt:i<dd.length:=by omega
  have hr:rdOf false dd (i:Int)=dd[i]:=by simp [rdOf,hlt]
  refine Ev.step (fun k=>?_) (ih (i+1) (by omega))
  simp only [spec_l2copy.l1,hr,wrap_succ (show i<9223372036854775807 by omega)]
  rw [if_pos (by omega),if_pos (by omega),if_pos (by omega),if_pos (by simp;omega),List.take_succ_eq_append_getElem hlt]
theorem specCopy_l0 (b:Bool) (ss:List S87) (dd:List Bool) (hs:ss.length≤1048576) (hd:dd.length≤1048576) (d:Nat):∀ i:Nat,i+d=ss.length→Ev (fun k=>spec_l2copy.l0 k ss (ss.length:Int) (i:Int) b ss dd b (ss.take i)) (b,ss,dd):=by
 induction d with
 | zero =>
  intro i hi
  refine Ev.step (fun k=>?_) (specCopy_l1 b ss dd hd dd.length 0 (by omega))
  simp only [spec_l2copy.l0]
  rw [if_neg (by omega),List.take_of_length_le (by omega)]
  rfl
 | succ d ih =>
  intro i hi
  have hlt:i<ss.length:=by omega
  refine Ev.step (fun k=>?_) (ih (i+1) (by omega))
  simp only [spec_l2copy.l0,rd50_get ss i hlt,wrap_succ (show i<9223372036854775807 by omega)]
  rw [if_pos (by omega),if_pos (by omega),if_pos (by omega),if_pos (by simp;omega),List.take_succ_eq_append_getElem hlt]
theorem specCopy_ev (b:Bool) (ss:List S87) (dd:List Bool) (hs:ss.length≤1048576) (hd:dd.length≤1048576):Ev (fun k=>spec_l2copy.f k b ss dd) (b,ss,dd):=by
 unfold spec_l2copy.f
 exact specCopy_l0 b ss dd hs hd ss.length 0 (by omega)
theorem copy_is {b:Bool} {A1:Option Addr} {c1:Nat} {ss:List S87} {A2:Option Addr} {c2:Nat} {dd:List Bool} {w:World} (hr1:Kd.C k87 w A1 ss.length ss) (hc1:ss.length≤c1) (hr2:Kd.C Kd.bool w A2 dd.length dd) (hc2:dd.length≤c2) (hs:ss.length≤1048576) (hd:dd.length≤1048576) :
  Calls Tryd.prog 60 #[.agg #[.bool b,.slice A1 ss.length c1,.slice A2 dd.length c2]] w fun e w'=>∃ v1_ v2_:Value,e=.returned (.agg #[.bool b,v1_,v2_])∧Kd.R k87 87 w' w.heap.size (fun _=>True) v1_ ss∧Kd.R Kd.bool 4 w' w.heap.size (fun _=>True) v2_ dd∧Below w.heap.size w w':=by
 obtain ⟨k,h⟩:=(specCopy_ev b ss dd hs hd).rounds
 exact spec_l2copy.calls k b A1 c1 ss A2 c2 dd b ss dd w hr1 hc1 hr2 hc2 h
end Go.Proofs.YtpdnabhpkdchjaaDoor.P
namespace Go.Proofs.YtpdnabhpkdchjaaDoor.P
open Go.RowKit Go.Proofs.YtpdnabhpkdchjaaDoorW.PrintWords Go.Proofs.YtpdnabhpkdchjaaDoorW.PrintLast Go.Proofs.YtpdnabhpkdchjaaDoorW.PrintMore
set_option linter.unusedVariables false
def runStep (n:Int) (l:List S98) (s:S83) (e:S52):S85 :=
 if eventOk n l e.f0 e.f1 e.f2=true then ⟨doCode l s.f1 s.f2 e.f0 e.f1,⟨true,doSecs l s.f1 s.f2 e.f0 e.f1 e.f2,doDead l s.f1 s.f2 e.f0 e.f1⟩⟩ else ⟨1,⟨true,s.f1,s.f2⟩⟩
def st0 (n:Int) (l:List S98):S83:=⟨true,List.replicate n.toNat z87,List.replicate l.length false⟩
def stAt (n:Int) (l:List S98) (es:List S52) (k:Nat):S83:=(es.take k).foldl (fun s e=>(runStep n l s e).f1) (st0 n l)
def runTo (n:Int) (l:List S98) (es:List S52) (k:Nat):List S85:=(List.range k).map fun j=>runStep n l (stAt n l es j) (rd_T52 es (j:Int))
def run (n:Int) (l:List S98) (es:List S52):List S85:=if layoutOk n l=0∧es.length≤2000 then runTo n l es es.length else []
theorem runTo_length (n:Int) (l:List S98) (es:List S52) (k:Nat):(runTo n l es k).length=k:=by simp [runTo]
theorem runTo_succ (n:Int) (l:List S98) (es:List S52) (k:Nat):runTo n l es (k+1)=runTo n l es k ++ [runStep n l (stAt n l es k) (rd_T52 es (k:Int))]:=by
 simp [runTo,List.range_succ]
theorem stAt_succ (n:Int) (l:List S98) (es:List S52) (k:Nat) (h:k<es.length):stAt n l es (k+1)=(runStep n l (stAt n l es k) (rd_T52 es (k:Int))).f1:=by
 rw [stAt,List.take_succ_eq_append_getElem h,List.foldl_append,rd52 es k h]
 rfl
theorem stAt_zero (n:Int) (l:List S98) (es:List S52):stAt n l es 0=st0 n l:=by simp [stAt]
theorem runStep_len (n:Int) (l:List S98) (s:S83) (e:S52):(runStep n l s e).f1.f1.length=s.f1.length∧(runStep n l s e).f1.f2.length=s.f2.length∧(runStep n l s e).f1.f0=true:=by
 unfold runStep
 split
 ·exact ⟨doSecs_length _ _ _ _ _ _,doDead_length _ _ _ _ _,rfl⟩
 exact ⟨rfl,rfl,rfl⟩
theorem stAt_len (n:Int) (l:List S98) (es:List S52) (k:Nat):(stAt n l es k).f1.length=n.toNat∧(stAt n l es k).f2.length=l.length∧(stAt n l es k).f0=true:=by
 unfold stAt
 have h:∀ (es:List S52) (s:S83),s.f1.length=n.toNat∧s.f2.length=l.length∧s.f0=true→(es.foldl (fun s e=>(runStep n l s e).f1) s).f1.length=n.toNat∧(es.foldl (fun s e=>(runStep n l s e).f1) s).f2.length=l.length∧(es.foldl (fun s e=>(runStep n l s e).f1) s).f0=true:=by
  intro es
  induction es with
  | nil=>intro s h;exact h
  | cons e es ih =>
   intro s h
   have:=runStep_len n l s e
   exact ih _ ⟨by rw [this.1];exact h.1,by rw [this.2.1];exact h.2.1,this.2.2⟩
 exact h _ _ ⟨by simp [st0],by simp [st0],rfl⟩
def secFine (l:List S98) (dd:List Bool) (s:Int) (x:S87):Bool:=secRange x && secRest (deadAt l dd s) x
theorem fine_iff (l:List S98) (dd:List Bool) (s:Int) (x:S87):secFine l dd s x=true ↔ (-1000000≤x.f1∧x.f1≤1000000∧-1≤x.f4∧x.f4≤1)∧((x.f1<0 ∨ deadAt l dd s=true)→x.f2=true)∧(x.f3=true∧x.f1=0∧x.f4=-1→x.f2=true):=by
 simp only [secFine,secRange,secRest,Bool.and_eq_true,decide_eq_true_eq,Bool.not_eq_true',Bool.and_eq_false_iff,Bool.or_eq_false_iff,Bool.not_eq_false',decide_eq_false_iff_not]
 cases x.f2 <;> cases x.f3 <;> cases deadAt l dd s <;> simp <;> omega
theorem ok_iff (l:List S98) (dd:List Bool) (s:Int) (x:S87):secOk l dd s x=true ↔ x.f0=toldC l dd s x∧secFine l dd s x=true:=by
 simp only [secOk,secFine,Bool.and_eq_true,decide_eq_true_eq]
 exact ⟨fun h=>⟨h.1.2,h.1.1,h.2⟩,fun h=>⟨⟨h.2.1,h.1⟩,h.2.2⟩⟩
theorem tell_ok {l:List S98} {dd:List Bool} {i:Nat} {x:S87} (h:secFine l dd (i:Int) x=true):secOk l dd (i:Int) (tellS l dd i x)=true:=by
 rw [ok_iff]
 exact ⟨rfl,h⟩
theorem retold_get (l:List S98) (dd:List Bool) (ss:List S87) (i:Nat) (h:i<ss.length):rd_T87 (retold l dd ss) (i:Int)=tellS l dd i (rd_T87 ss (i:Int)):=by
 simp [rd_T87,retold,retoldTo,h]
theorem retold_fine {l:List S98} {dd:List Bool} {ss:List S87} (h:∀ j,j<ss.length→secFine l dd (j:Int) (rd_T87 ss (j:Int))=true):∀ j,j<(retold l dd ss).length→secOk l dd (j:Int) (rd_T87 (retold l dd ss) (j:Int))=true:=by
 intro j hj
 rw [retold_length] at hj
 rw [retold_get l dd ss j hj]
 exact tell_ok (h j hj)
theorem count_fine {l:List S98} {dd:List Bool} {s:Int} {x:S87} {b:Int} (hb:b=1 ∨ b=-1) (h:secFine l dd s x=true):secFine l dd s (countS x b)=true:=by
 rw [fine_iff] at h ⊢
 obtain ⟨⟨h1,h2,h3,h4⟩,h5,h6⟩:=h
 have hc:-1000000≤cntN x b∧cntN x b≤1000000:=by
  unfold cntN
  split
  ·rename_i h;exact h
  exact ⟨h1,h2⟩
 simp only [countS]
 refine ⟨⟨hc.1,hc.2,by omega,by omega⟩,fun h=>?_,fun h=>?_⟩
 ·rcases h with h|h
  ·rw [decide_eq_true h,Bool.or_true]
  rw [h5 (.inr h),Bool.true_or]
 obtain ⟨k1,k2,k3⟩:=h
 rw [k2,k3] at k1
 simp at k1
theorem addS_get (ss:List S87) (s b:Int) (j:Nat) (hj:j<ss.length):rd_T87 (addS ss s b) (j:Int)=if s=(j:Int) then countS (rd_T87 ss (j:Int)) b else rd_T87 ss (j:Int):=by
 unfold addS
 by_cases h:s<0
 ·rw [if_pos h,if_neg (by omega)]
 rw [if_neg h]
 by_cases e:s=(j:Int)
 ·subst e
  simp [rd_T87,hj]
 have:s.toNat ≠ j:=by omega
 rw [if_neg e]
 simp [rd_T87,List.getElem?_set_ne this]
theorem loseAt_get (ss:List S87) (s:Int) (j:Nat) (hj:j<ss.length):rd_T87 (loseAt ss s) (j:Int)=if s=(j:Int) then loseS (rd_T87 ss (j:Int)) else rd_T87 ss (j:Int):=by
 unfold loseAt
 by_cases h:s<0
 ·rw [if_pos h,if_neg (by omega)]
 rw [if_neg h]
 by_cases e:s=(j:Int)
 ·subst e
  simp [rd_T87,hj]
 have:s.toNat ≠ j:=by omega
 rw [if_neg e]
 simp [rd_T87,List.getElem?_set_ne this]
theorem add_fine {l:List S98} {dd:List Bool} {ss:List S87} {s b:Int} (hb:b=1 ∨ b=-1) (h:∀ j,j<ss.length→secFine l dd (j:Int) (rd_T87 ss (j:Int))=true):∀ j,j<(addS ss s b).length→secFine l dd (j:Int) (rd_T87 (addS ss s b) (j:Int))=true:=by
 intro j hj
 rw [addS_length] at hj
 rw [addS_get ss s b j hj]
 split
 ·exact count_fine hb (h j hj)
 exact h j hj
theorem deadFrom_mono {l:List S98} {dd dd':List Bool} {s:Int} (h:∀ i:Nat,rdOf false dd' (i:Int)=true→hits s (rd_T98 l (i:Int))=true→rdOf false dd (i:Int)=true):∀ d i,deadFrom l dd' s d i=true→deadFrom l dd s d i=true:=by
 intro d
 induction d with
 | zero=>intro i hd;exact hd
 | succ d ih =>
  intro i hd
  simp only [deadFrom,Bool.or_eq_true,Bool.and_eq_true] at hd ⊢
  rcases hd with ⟨h1,h2⟩|h1
  ·exact .inl ⟨h i h1 h2,h2⟩
  exact .inr (ih _ h1)
theorem rdOf_set (dd:List Bool) (k i:Nat) (b:Bool):rdOf false (dd.set k b) (i:Int)=if k=i∧i<dd.length then b else rdOf false dd (i:Int):=by
 unfold rdOf
 simp only [Int.toNat_natCast,List.getD_eq_getElem?_getD,List.getElem?_set]
 by_cases e:k=i
 ·subst e
  by_cases h:k<dd.length
  ·simp [h]
  simp [h]
 simp [e]
theorem dead_less {l:List S98} {dd:List Bool} {s:Int} {k:Nat} (h:deadAt l (dd.set k false) s=true):deadAt l dd s=true:=by
 refine deadFrom_mono (fun i h1 _=>?_) _ _ h
 rw [rdOf_set] at h1
 split at h1
 ·cases h1
 exact h1
theorem dead_more {l:List S98} {dd:List Bool} {s:Int} {k:Nat} (h:deadAt l (dd.set k true) s=true) (hn:hits s (rd_T98 l (k:Int))=false):deadAt l dd s=true:=by
 refine deadFrom_mono (fun i h1 h2=>?_) _ _ h
 rw [rdOf_set] at h1
 split at h1
 ·rename_i e
  rw [← e.1,hn] at h2
  cases h2
 exact h1
theorem lose_fine {l:List S98} {dd dd':List Bool} {s:Int} {x:S87} (h:secFine l dd s x=true):secFine l dd' s (loseS x)=true:=by
 rw [fine_iff] at h ⊢
 exact ⟨h.1,fun _=>rfl,fun _=>rfl⟩
theorem fine_dead {l:List S98} {dd dd':List Bool} {s:Int} {x:S87} (hd:deadAt l dd' s=true→deadAt l dd s=true) (h:secFine l dd s x=true):secFine l dd' s x=true:=by
 rw [fine_iff] at h ⊢
 exact ⟨h.1,fun k=>h.2.1 (k.imp id hd),h.2.2⟩
theorem do_fine {n:Int} {l:List S98} {ss:List S87} {dd:List Bool} {op of dir:Int} (hl:layoutOk n l=0) (hd:dd.length=l.length) (h:∀ j,j<ss.length→secFine l dd (j:Int) (rd_T87 ss (j:Int))=true) (hev:eventOk n l op of dir=true) (hc:doCode l ss dd op of=0) :
  ∀ j,j<(midSecs l ss op of dir).length→secFine l (midDead dd op of) (j:Int) (rd_T87 (midSecs l ss op of dir) (j:Int))=true:=by
 have key:((op=1 ∨ op=2)∧0≤of∧of<(l.length:Int)) ∨ ((op=3 ∨ op=4)∧0≤of∧of<(l.length:Int)) ∨ (op=5∧0≤of∧of<n):=by
  unfold eventOk at hev
  rw [if_pos hl] at hev
  split at hev
  ·rename_i h1;simp at hev;exact .inl ⟨h1,hev.1.1,hev.1.2⟩
  split at hev
  ·rename_i h1;simp at hev;exact .inr (.inl ⟨h1,hev.1.1,hev.1.2⟩)
  split at hev
  ·rename_i h1;simp at hev;exact .inr (.inr ⟨h1,hev.1.1,hev.1.2⟩)
  cases hev
 rcases key with ⟨rfl|rfl,o0,o1⟩|⟨rfl|rfl,o0,o1⟩|⟨rfl,o0,o1⟩
 ·have e1:midSecs l ss 1 of dir=addS (addS ss (if dir=-1 then (rd_T98 l of).f1 else (rd_T98 l of).f0) (-1)) (if dir=-1 then (rd_T98 l of).f0 else (rd_T98 l of).f1) 1:=by simp [midSecs]
  have e2:midDead dd 1 of=dd:=by simp [midDead]
  rw [e1,e2]
  exact add_fine (.inl rfl) (add_fine (.inr rfl) h)
 ·have e1:midSecs l ss 2 of dir=addS ss (if dir=-1 then (rd_T98 l of).f0 else (rd_T98 l of).f1) 1:=by simp [midSecs]
  have e2:midDead dd 2 of=dd:=by simp [midDead]
  rw [e1,e2]
  exact add_fine (.inl rfl) h
 ·have e1:midSecs l ss 3 of dir=loseAt (loseAt ss (rd_T98 l of).f0) (rd_T98 l of).f1:=by simp [midSecs]
  have e2:midDead dd 3 of=dd.set of.toNat true:=by simp [midDead]
  rw [e1,e2]
  intro j hj
  rw [loseAt_length,loseAt_length] at hj
  rw [loseAt_get _ _ _ (by rw [loseAt_length];exact hj),loseAt_get _ _ _ hj]
  by_cases f1:(rd_T98 l of).f1=(j:Int)
  ·rw [if_pos f1]
   split
   ·exact lose_fine (lose_fine (dd':=dd) (h j hj))
   exact lose_fine (h j hj)
  rw [if_neg f1]
  by_cases f0:(rd_T98 l of).f0=(j:Int)
  ·rw [if_pos f0];exact lose_fine (h j hj)
  rw [if_neg f0]
  refine fine_dead (fun hx=>dead_more hx ?_) (h j hj)
  rw [show ((of.toNat:Nat):Int)=of by omega]
  simp [hits,f0,f1]
 ·have e1:midSecs l ss 4 of dir=ss:=by simp [midSecs]
  have e2:midDead dd 4 of=dd.set of.toNat false:=by simp [midDead]
  rw [e1,e2]
  intro j hj
  exact fine_dead dead_less (h j hj)
 have e1:midSecs l ss 5 of dir=ss.set of.toNat ⟨0,0,false,true,0⟩:=by simp [midSecs]
 have e2:midDead dd 5 of=dd:=by simp [midDead]
 rw [e1,e2]
 intro j hj
 rw [List.length_set] at hj
 by_cases e:of.toNat=j
 ·have hdd:deadAt l dd of=false:=by
   cases hx:deadAt l dd of with
   | false=>rfl
   | true =>
    rw [doCode,if_neg (by decide),if_pos rfl,if_pos hx] at hc
    exact absurd hc (by decide)
  have e3:((j:Nat):Int)=of:=by omega
  rw [show rd_T87 (ss.set of.toNat ⟨0,0,false,true,0⟩) (j:Int)=⟨0,0,false,true,0⟩ by subst e;rw [rd_T87,Int.toNat_natCast];simp [hj],e3,fine_iff]
  refine ⟨by simp,fun h=>?_,fun h=>by simp at h⟩
  rw [hdd] at h
  simp at h
 rw [show rd_T87 (ss.set of.toNat ⟨0,0,false,true,0⟩) (j:Int)=rd_T87 ss (j:Int) by simp [rd_T87,List.getElem?_set_ne e]]
 exact h j hj
theorem do_ok {n:Int} {l:List S98} {ss:List S87} {dd:List Bool} {op of dir:Int} (hl:layoutOk n l=0) (hd:dd.length=l.length) (h:∀ j,j<ss.length→secOk l dd (j:Int) (rd_T87 ss (j:Int))=true) (hev:eventOk n l op of dir=true) :
  ∀ j,j<(doSecs l ss dd op of dir).length→secOk l (doDead l ss dd op of) (j:Int) (rd_T87 (doSecs l ss dd op of dir) (j:Int))=true:=by
 by_cases hc:doCode l ss dd op of=0
 ·unfold doSecs doDead
  rw [if_pos hc,if_pos hc]
  exact retold_fine (do_fine hl hd (fun j hj=>((ok_iff _ _ _ _).1 (h j hj)).2) hev hc)
 unfold doSecs doDead
 rw [if_neg hc,if_neg hc]
 exact h
theorem step_ok {n:Int} {l:List S98} {s:S83} {e:S52} (h:stateOk n l s.f0 s.f1 s.f2=true):stateOk n l (runStep n l s e).f1.f0 (runStep n l s e).f1.f1 (runStep n l s e).f1.f2=true:=by
 obtain ⟨hl,ho,hn,hd,hsec⟩:=stateOk_of h
 unfold runStep
 split
 ·rename_i hev
  exact stateOk_mk hl rfl (by rw [doSecs_length];exact hn) (by rw [doDead_length];exact hd) (do_ok hl hd hsec hev)
 exact stateOk_mk hl rfl hn hd hsec
theorem anyFalse (l:List S98) (m:Nat) (s:Int):deadAt l (List.replicate m false) s=false:=by
 have h:∀ d i,deadFrom l (List.replicate m false) s d i=false:=by
  intro d
  induction d with
  | zero=>intro i;rfl
  | succ d ih =>
   intro i
   have hr:rdOf false (List.replicate m false) (i:Int)=false:=by
    simp only [rdOf,List.getD_eq_getElem?_getD,List.getElem?_replicate];split <;> rfl
   simp only [deadFrom,hr,ih,Bool.false_and,Bool.or_self]
 exact h _ _
theorem st0_ok {n:Int} {l:List S98} (hl:layoutOk n l=0):stateOk n l (st0 n l).f0 (st0 n l).f1 (st0 n l).f2=true:=by
 have hn:=lay_n hl
 refine stateOk_mk hl rfl (by simp [st0];omega) (by simp [st0]) (fun j hj=>?_)
 have hz:rd_T87 (List.replicate n.toNat z87) (j:Int)=z87:=by
  simp only [rd_T87,List.getD_eq_getElem?_getD,List.getElem?_replicate];split <;> rfl
 show secOk l (List.replicate l.length false) (j:Int) (rd_T87 (List.replicate n.toNat z87) (j:Int))=true
 rw [hz,ok_iff,fine_iff,toldC,anyFalse]
 simp [z87]
theorem stAt_ok {n:Int} {l:List S98} (hl:layoutOk n l=0) (es:List S52) (k:Nat):stateOk n l (stAt n l es k).f0 (stAt n l es k).f1 (stAt n l es k).f2=true:=by
 unfold stAt
 have h:∀ (es:List S52) (s:S83),stateOk n l s.f0 s.f1 s.f2=true→stateOk n l (es.foldl (fun s e=>(runStep n l s e).f1) s).f0 (es.foldl (fun s e=>(runStep n l s e).f1) s).f1 (es.foldl (fun s e=>(runStep n l s e).f1) s).f2=true:=by
  intro es
  induction es with
  | nil=>intro s h;exact h
  | cons e es ih=>intro s h;exact ih _ (step_ok h)
 exact h _ _ (st0_ok hl)
end Go.Proofs.YtpdnabhpkdchjaaDoor.P
namespace Go.Proofs.YtpdnabhpkdchjaaDoor.P
open Go Go.RowKit Go.Proofs.YtpdnabhpkdchjaaDoorW.PrintWords Go.Proofs.YtpdnabhpkdchjaaDoorW.PrintLast Go.Proofs.YtpdnabhpkdchjaaDoorW.PrintMore
set_option linter.unusedVariables false
set_option linter.unusedSimpArgs false
def signL:List UInt8:=[46,35,126,33]
def signB (x:S87):UInt8:=signL.getD x.f0.toNat 0
def doneTo (d:S85) (j:Nat):List UInt8:=Lib.decDigits d.f0.toNat ++ [32] ++ (d.f1.f1.take j).map signB
def doneB (d:S85):List UInt8:=doneTo d d.f1.f1.length ++ [10]
def ansTo (rs:List S85) (i:Nat):List UInt8:=((rs.take i).map doneB).flatten
def wrongB (c d:Int):List UInt8:=[119,114,111,110,103,32] ++ Lib.decDigits c.toNat ++ [32] ++ Lib.decDigits d.toNat ++ [10]
noncomputable def ansE (n:Int) (l:List S98) (s:List UInt8):List UInt8 :=
 if (readE n l s).1=0 then ansTo (run n l (readE n l s).2.2) (run n l (readE n l s).2.2).length else wrongB (readE n l s).1 (readE n l s).2.1
theorem rd85 (l:List S85) (i:Nat) (h:i<l.length):rd_T85 l (i:Int)=l[i]:=by simp [rd_T85,h]
theorem ansTo_succ (rs:List S85) (i:Nat) (h:i<rs.length):ansTo rs (i+1)=ansTo rs i ++ doneB (rd_T85 rs (i:Int)):=by
 rw [ansTo,List.take_succ_eq_append_getElem h,List.map_append,List.flatten_append,rd85 rs i h]
 simp [ansTo]
theorem doneTo_succ (d:S85) (j:Nat) (h:j<d.f1.f1.length):doneTo d (j+1)=doneTo d j ++ [signB (rd_T87 d.f1.f1 (j:Int))]:=by
 rw [doneTo,List.take_succ_eq_append_getElem h,List.map_append,rd50_get d.f1.f1 j h,← List.append_assoc]
 rfl
theorem doneTo_zero (d:S85):doneTo d 0=Lib.decDigits d.f0.toNat ++ [32]:=by simp [doneTo]
structure RunF (rs:List S85):Prop where
 len:rs.length≤2000
 code:∀ i,i<rs.length→0≤(rd_T85 rs (i:Int)).f0∧(rd_T85 rs (i:Int)).f0≤4
 secs:∀ i,i<rs.length→(rd_T85 rs (i:Int)).f1.f1.length≤60
 told:∀ i,i<rs.length→∀ j,j<(rd_T85 rs (i:Int)).f1.f1.length→0≤(rd_T87 (rd_T85 rs (i:Int)).f1.f1 (j:Int)).f0∧(rd_T87 (rd_T85 rs (i:Int)).f1.f1 (j:Int)).f0≤3
theorem told_range (l:List S98) (dd:List Bool) (s:Int) (x:S87):0≤toldC l dd s x∧toldC l dd s x≤3:=by
 unfold toldC
 split
 ·omega
 split
 ·omega
 split <;> omega
theorem doCode_range (l:List S98) (ss:List S87) (dd:List Bool) (op of:Int):0≤doCode l ss dd op of∧doCode l ss dd op of≤4:=by
 unfold doCode
 split
 ·split <;> omega
 split
 ·split
  ·omega
  split <;> omega
 omega
theorem run_facts (n:Int) (l:List S98) (es:List S52):RunF (run n l es):=by
 unfold run
 split
 ·rename_i h
  have hn:=lay_n h.1
  have hg:∀ i,i<(runTo n l es es.length).length→rd_T85 (runTo n l es es.length) (i:Int)=runStep n l (stAt n l es i) (rd_T52 es (i:Int)):=by
   intro i hi
   rw [rd85 _ i hi]
   simp [runTo]
  have hst:∀ i,stateOk n l (runStep n l (stAt n l es i) (rd_T52 es (i:Int))).f1.f0 (runStep n l (stAt n l es i) (rd_T52 es (i:Int))).f1.f1 (runStep n l (stAt n l es i) (rd_T52 es (i:Int))).f1.f2=true:=fun i=>step_ok (stAt_ok h.1 es i)
  refine ⟨by rw [runTo_length];exact h.2,fun i hi=>?_,fun i hi=>?_,fun i hi j hj=>?_⟩
  ·rw [hg i hi]
   unfold runStep
   split
   ·exact doCode_range _ _ _ _ _
   exact ⟨by show (0:Int)≤1;decide,by show (1:Int)≤4;decide⟩
  ·rw [hg i hi]
   obtain ⟨_,_,h3,_,_⟩:=stateOk_of (hst i)
   omega
  rw [hg i hi] at hj ⊢
  obtain ⟨_,_,_,_,h5⟩:=stateOk_of (hst i)
  rw [secOk_told (h5 j hj)]
  exact told_range _ _ _ _
 exact ⟨by simp,fun i hi=>absurd hi (by simp),fun i hi=>absurd hi (by simp),fun i hi=>absurd hi (by simp)⟩
theorem digits_small {c:Int} (h:0≤c∧c≤4):(Lib.decDigits c.toNat).length≤5:=by
 have:=digits_len c.toNat
 omega
theorem doneTo_len {d:S85} (h:0≤d.f0∧d.f0≤4) (hs:d.f1.f1.length≤60) (j:Nat):(doneTo d j).length≤66:=by
 have:=digits_small h
 unfold doneTo
 simp only [List.length_append,List.length_singleton,List.length_map,List.length_take]
 omega
theorem ansTo_len {rs:List S85} (h:RunF rs):∀ i,i≤rs.length→(ansTo rs i).length≤67 * i
 | 0,_=>by simp [ansTo]
 | i+1,hi=>by
  have:=ansTo_len h i (by omega)
  have h2:=doneTo_len (h.code i hi) (h.secs i hi) (rd_T85 rs (i:Int)).f1.f1.length
  rw [ansTo_succ rs i hi,List.length_append,doneB,List.length_append,List.length_singleton]
  omega
theorem sign_at {x:S87} (h:0≤x.f0∧x.f0≤3):signB x=46∧x.f0=0 ∨ signB x=35∧x.f0=1 ∨ signB x=126∧x.f0=2 ∨ signB x=33∧x.f0=3:=by
 unfold signB
 obtain h|h|h|h:x.f0=0 ∨ x.f0=1 ∨ x.f0=2 ∨ x.f0=3:=by omega
 all_goals
  rw [h]
  simp [signL]
end Go.Proofs.YtpdnabhpkdchjaaDoor.P
namespace Go.Proofs.YtpdnabhpkdchjaaDoor.P
open Go Go.RowKit Go.Proofs.YtpdnabhpkdchjaaDoorW.PrintWords Go.Proofs.YtpdnabhpkdchjaaDoorW.PrintLast Go.Proofs.YtpdnabhpkdchjaaDoorW.PrintMore
set_option linter.unusedVariables false
set_option linter.unusedSimpArgs false
theorem wstring_is (B b:Nat) (l:List UInt8) (x:ByteArray) (w:World) (h:Lib.IsBuilderF 61 5 B b (Lib.byteCells l) w) (hlen:l.length+x.size≤140737488355328) (hBw:B≤w.heap.size) :
  Calls Tryd.prog 32 #[.pointer (some ⟨b,0,none⟩),.string x] w fun e w'=>e=.returned (.tuple #[.int .i64 x.size,.nilIface])∧Lib.IsBuilderF 61 5 B b (Lib.byteCells (l ++ x.data.toList)) w'∧Below B w w'∧Lib.OthersKept 5 (some b) w w':=by
 refine (Any.Builder_WriteString_k Tryd.lays166 Tryd.Builder_Extra_166 B b (Lib.byteCells l) x w h (by rw [Lib.byteCells_length];exact hlen) hBw).mono ?_
 rintro e w' ⟨rfl,h1,h2,h3⟩
 refine ⟨rfl,.inr ?_,h2,h3⟩
 have e1:Lib.byteCells (l ++ x.data.toList)=Lib.byteCells l ++ Lib.strCells x:=by
  unfold Lib.byteCells Lib.strCells
  rw [List.map_append]
 rw [e1]
 exact h1
theorem wbyte_is (B b:Nat) (l:List UInt8) (c:UInt8) (w:World) (h:Lib.IsBuilderF 61 5 B b (Lib.byteCells l) w) (hlen:l.length+1≤140737488355328) (hBw:B≤w.heap.size) :
  Calls Tryd.prog 48 #[.pointer (some ⟨b,0,none⟩),.int .u8 (c.toNat:Int)] w fun e w'=>e=.returned .nilIface∧Lib.IsBuilderF 61 5 B b (Lib.byteCells (l ++ [c])) w'∧Below B w w'∧Lib.OthersKept 5 (some b) w w':=by
 refine (Any.Builder_WriteByte_k Tryd.lays167 Tryd.Builder_Extra_167 B b (Lib.byteCells l) (c.toNat:Int) w h (by rw [Lib.byteCells_length];exact hlen) hBw).mono ?_
 rintro e w' ⟨rfl,h1,h2,h3⟩
 refine ⟨rfl,.inr ?_,h2,h3⟩
 have e1:Lib.byteCells (l ++ [c])=Lib.byteCells l ++ [.int .u8 (c.toNat:Int)]:=by
  unfold Lib.byteCells
  rw [List.map_append]
  rfl
 rw [e1]
 exact h1
theorem wget_is (B b:Nat) (l:List UInt8) (w:World) (h:Lib.IsBuilderF 61 5 B b (Lib.byteCells l) w) (hBw:B≤w.heap.size) :
  Calls Tryd.prog 35 #[.pointer (some ⟨b,0,none⟩)] w fun e w'=>e=.returned (.string ⟨l.toArray⟩)∧Below B w w':=by
 refine (Any.Builder_String_any_f Tryd.lays169 Tryd.Builder_Extra_169 B b l w h hBw).mono ?_
 rintro e w' ⟨rfl,h1,h2⟩
 exact ⟨rfl,h2⟩
theorem ownF_below {w w':World} {B e s n:Nat} {v:Value} {xs:List Value} (h:w.ownsRowF B e s v n xs) (hb:Below w.heap.size w w'):w'.ownsRowF B e s v n xs :=
 h.kept (row:=none) ⟨hb.os,hb.tape,hb.output,hb.size,fun k hk _=>hb.block k hk⟩ (by cases hv:v.ownBlock <;> simp)
theorem builderF_below {B b:Nat} {bs:List Value} {w w':World} (h:Lib.IsBuilderF 61 5 B b bs w) (hb:Below w.heap.size w w'):Lib.IsBuilderF 61 5 B b bs w':=by
 rcases h with ⟨h0,v,h1,h2,h3⟩|⟨h0,v,h1,h2,h3⟩
 ·exact .inl ⟨h0,v,blk_below h1 hb,ownF_below h2 hb,h3⟩
 exact .inr ⟨h0,v,blk_below h1 hb,ownF_below h2 hb,h3⟩
theorem S_others {α:Type} {d:Kd α} {e base b:Nat} {w w':World} {ok:Nat→Prop} {v:Value} {xs:List α} (h:Kd.S d e w base ok v xs) (hk:Lib.OthersKept 5 (some b) w w') (h5:∀ q,q ∈ e :: d.E→q ≠ 5) (hb:b<base):Kd.S d e w' base ok v xs :=
 Kd.S_mono (Kd.S_move (Kd.S_bound h) (fun k hk'=>by
  obtain ⟨_,hB,_,q,hq,cells,hc⟩:=hk'
  rw [hc]
  exact hk k _ hc (fun he=>by injection he with he;omega) (fun c fz he=>by injection he with _ he _;exact h5 q hq he))) (fun _ hk=>hk.1)
theorem R_others {α:Type} {d:Kd α} {e base b:Nat} {w w':World} {ok:Nat→Prop} {v:Value} {xs:List α} (h:Kd.R d e w base ok v xs) (hk:Lib.OthersKept 5 (some b) w w') (h5:∀ q,q ∈ e :: d.E→q ≠ 5) (hb:b<base):Kd.R d e w' base ok v xs :=
 Kd.R_mono (Kd.R_move (Kd.R_bound h) (fun k hk'=>by
  obtain ⟨_,hB,_,q,hq,cells,hc⟩:=hk'
  rw [hc]
  exact hk k _ hc (fun he=>by injection he with he;omega) (fun c fz he=>by injection he with _ he _;exact h5 q hq he))) (fun _ hk=>hk.1)
theorem done_at {w:World} {base n cap:Nat} {A:Option Addr} {rs:List S85} (h:Kd.S k85 85 w base (fun _=>True) (.slice A n cap) rs) (i:Nat) (hi:i<n) :
  ∃ ad A2 c2 A3 c3,A=some ad∧w.cell? (ad.add (i * 4))=some (.int .i64 (rd_T85 rs (i:Int)).f0)∧w.cell? ⟨(ad.add (i * 4)).block,(ad.add (i * 4)).off+1,none⟩=some (.bool (rd_T85 rs (i:Int)).f1.f0) ∧
   w.cell? ⟨(ad.add (i * 4)).block,(ad.add (i * 4)).off+2,none⟩=some (.slice A2 (rd_T85 rs (i:Int)).f1.f1.length c2)∧w.cell? ⟨(ad.add (i * 4)).block,(ad.add (i * 4)).off+3,none⟩=some (.slice A3 (rd_T85 rs (i:Int)).f1.f2.length c3) ∧
   Kd.R k87 87 w base (fun _=>True) (.slice A2 (rd_T85 rs (i:Int)).f1.f1.length c2) (rd_T85 rs (i:Int)).f1.f1:=by
 have hn:=(Kd.S_reads' h).1
 obtain ⟨g,cap',hA,_⟩:=Kd.R_form (Kd.S_R h) (by omega)
 injection hA with hA1 hA2 hA3
 subst hA1
 obtain ⟨cs,hcl,hM,hcc⟩:=Kd.R_getA (Kd.S_R h) z85 (i:Int) (by omega) (by omega)
 obtain ⟨v2,v3,rfl,h2,h3⟩:=k85_openM hM
 obtain ⟨A2,c2,rfl⟩:=Kd.R_slice h2
 obtain ⟨A3,c3,rfl⟩:=Kd.R_slice h3
 have hc:∀ (j:Nat) (u:Value),[Value.int .i64 (rs.getD (i:Int).toNat z85).f0,.bool (rs.getD (i:Int).toNat z85).f1.f0,.slice A2 (rs.getD (i:Int).toNat z85).f1.f1.length c2,.slice A3 (rs.getD (i:Int).toNat z85).f1.f2.length c3][j]?=some u→w.cell? ((⟨g,0,none⟩:Addr).add (i * 4+j))=some u:=by
  intro j u hu
  have:=hcc j u hu
  rw [Int.toNat_natCast] at this
  exact this
 exact ⟨⟨g,0,none⟩,A2,c2,A3,c3,rfl,hc 0 _ rfl,by rw [← add_field _ _ 1 (by omega)];exact hc 1 _ rfl,by rw [← add_field _ _ 2 (by omega)];exact hc 2 _ rfl,by rw [← add_field _ _ 3 (by omega)];exact hc 3 _ rfl,Kd.R_mono h2 (fun _ _=>trivial)⟩
structure AnI (w:World) (B gb base:Nat) (bs:List UInt8) (v0:Value) (rs:List S85) (w':World):Prop where
 hb:Lib.IsBuilderF 61 5 B gb (Lib.byteCells bs) w'
 hS:Kd.S k85 85 w' base (fun _=>True) v0 rs
 hB:Below w.heap.size w w'
 b1:w.heap.size≤B
 b2:gb<base
 b3:B≤w'.heap.size
section
variable {w w' w'' : World} {B gb base : Nat} {bs bs' : List UInt8} {v0 v2 : Value} {rs : List S85} {ss : List S87}
theorem AnI.up (h:AnI w B gb base bs v0 rs w') (hb:Below w'.heap.size w' w''):AnI w B gb base bs v0 rs w'' :=
 ⟨builderF_below h.hb hb,Kd.S_below h.hS hb,below_step h.hB hb,h.b1,h.b2,Nat.le_trans h.b3 hb.size⟩
theorem AnI.kept (h:AnI w B gb base bs v0 rs w') (h3:Lib.OthersKept 5 (some gb) w' w'') {g t:Nat} {cs:Array Value} (hx:w'.heap[g]?=some (.cells cs t (0,0))) (h1:t ≠ 61) (h5:t ≠ 5):w''.heap[g]?=some (.cells cs t (0,0)):=by
 refine h3 _ _ hx (fun he=>?_) (fun c fz he=>by injection he with _ he _;exact h5 he)
 injection he with he
 subst he
 rcases h.hb with ⟨_,v,hv,_⟩|⟨_,v,hv,_⟩
 ·rw [hx] at hv
  injection hv with hv
  injection hv with _ hv _
  exact h1 hv
 rw [hx] at hv
 injection hv with hv
 injection hv with _ hv _
 exact h1 hv
theorem AnI.last (h:AnI w B gb base bs v0 rs w') (h2:Below B w' w''):Below w.heap.size w w'' :=
 below_stepB h.hB ⟨h2.os,h2.tape,h2.output,h2.size,fun i hi=>h2.block i (Nat.lt_of_lt_of_le hi h.b1)⟩
theorem AnI.wrote (h:AnI w B gb base bs v0 rs w') (h1:Lib.IsBuilderF 61 5 B gb (Lib.byteCells bs') w'') (h2:Below B w' w'') (h3:Lib.OthersKept 5 (some gb) w' w''):AnI w B gb base bs' v0 rs w'' :=
 ⟨h1,S_others h.hS h3 (by decide) h.b2,below_stepB h.hB ⟨h2.os,h2.tape,h2.output,h2.size,fun i hi=>h2.block i (Nat.lt_of_lt_of_le hi h.b1)⟩,h.b1,h.b2,Nat.le_trans h.b3 h2.size⟩
end
end Go.Proofs.YtpdnabhpkdchjaaDoor.P
namespace Go.Proofs.YtpdnabhpkdchjaaDoor.P
open Go.RowKit Go.Proofs.YtpdnabhpkdchjaaDoorW.PrintWords Go.Proofs.YtpdnabhpkdchjaaDoorW.PrintLast Go.Proofs.YtpdnabhpkdchjaaDoorW.PrintMore
set_option linter.unusedVariables false
theorem R_off {α:Type} {d:Kd α} {e:Nat} {w:World} {base:Nat} {ok:Nat→Prop} {v:Value} {xs:List α} (hE:d.E=[]) (h:d.R e w base ok v xs) {p:Addr} (hne:some p.block ≠ v.ownBlock) (u:Value):d.R e (w.setCell p u) base (fun _=>True) v xs :=
 Kd.R_mono (Kd.R_far (Kd.R_tight hE h) (fun k hk hp=>hne (hp ▸ hk)) u) (fun _ _=>trivial)
theorem R_on {α:Type} {d:Kd α} {e:Nat} {w w':World} {base:Nat} {ok:Nat→Prop} {v:Value} {xs:List α} (hE:d.E=[]) (h:d.R e w base ok v xs) {row:Option Nat} (hg:w.grownBy w' row) (hne:row ≠ v.ownBlock):d.R e w' base (fun _=>True) v xs :=
 Kd.R_mono (Kd.R_step (Kd.R_tight hE h) (fun k hk hlt=>hg.block k hlt (fun c=>hne (c ▸ hk)))) (fun _ _=>trivial)
theorem R_up {α:Type} {d:Kd α} {e:Nat} {w w':World} {base:Nat} {ok:Nat→Prop} {v:Value} {xs:List α} (h:d.R e w base ok v xs) (hb:Below w.heap.size w w'):d.R e w' base (fun _=>True) v xs :=
 Kd.R_mono (Kd.R_step h (fun k hk hlt=>hb.block k hlt)) (fun _ _=>trivial)
end Go.Proofs.YtpdnabhpkdchjaaDoor.P
namespace Go.Proofs.YtpdnabhpkdchjaaDoor.P
open Go Go.RowKit Go.Proofs.YtpdnabhpkdchjaaDoorW.PrintWords Go.Proofs.YtpdnabhpkdchjaaDoorW.PrintLast Go.Proofs.YtpdnabhpkdchjaaDoorW.PrintMore
set_option linter.unusedVariables false
set_option linter.unusedSimpArgs false
def natsB (l:List UInt8):List Int:=l.map (fun b=>(b.toNat:Int))
theorem sdec_is {n:Int} (h0:0≤n) (h1:n≤1000000000) {w:World}:Calls Tryd.prog 44 #[.int .i64 n] w fun e w'=>e=.returned (.string ⟨(Lib.decDigits n.toNat).toArray⟩)∧Below w.heap.size w w' :=
 spec_l4decimal.calls n _ w (if_pos ⟨h0,by omega⟩)
theorem sread_is (n:Int) (A:Option Addr) (c:Nat) (l:List S98) (s:List UInt8) (tx:ByteArray) (htx:tx=bs s) (w:World) (hr:Kd.C k98 w A l.length l) (hc:l.length≤c) :
  Calls Tryd.prog 15 #[.agg #[.int .i64 n,.slice A l.length c],.string tx] w fun e w'=>∃ v2_:Value,e=.returned (.agg #[.int .i64 (readE n l s).1,.int .i64 (readE n l s).2.1,v2_])∧Kd.R k52 52 w' w.heap.size (fun _=>True) v2_ (readE n l s).2.2∧Below w.heap.size w w':=by
 subst htx
 obtain ⟨k,h⟩:=(specRead_ev n l s).rounds
 exact spec_ReadEvents.calls k n A c l (bs s) (readE n l s).1 (readE n l s).2.1 (readE n l s).2.2 w hr hc h
structure AnS (w:World) (base:Nat) (gs:Nat) (v7:Value) (bs:List UInt8) (v0:Value) (rs:List S85) (w':World):Prop where
 hO:Kd.R (Kd.int .u8) 5 w' w.heap.size (fun _=>True) v7 (natsB bs)
 hS:Kd.S k85 85 w' base (fun _=>True) v0 rs
 hG:w'.heap[gs]?=some (.cells #[.string (⟨#[46]⟩:ByteArray),.string (⟨#[35]⟩:ByteArray),.string (⟨#[126]⟩:ByteArray),.string (⟨#[33]⟩:ByteArray)] 9 (0,0))
 hB:Below w.heap.size w w'
section
variable {w w' w'' : World} {base gs : Nat} {bs bs' : List UInt8} {v0 v7 v7' : Value} {rs : List S85}
theorem AnS.up (h:AnS w base gs v7 bs v0 rs w') (hb:Below w'.heap.size w' w''):AnS w base gs v7 bs v0 rs w'' :=
 ⟨R_up h.hO hb,Kd.S_below h.hS hb,blk_below h.hG hb,below_step h.hB hb⟩
theorem AnS.app (h:AnS w base gs v7 bs v0 rs w') (hO:Kd.R (Kd.int .u8) 5 w'' w.heap.size (fun _=>True) v7' (natsB bs')) (hb:Below w.heap.size w w'') (hg:w'.grownBy w'' v7.ownBlock):AnS w base gs v7' bs' v0 rs w'' :=
 ⟨hO,Kd.S_over' h.hS (Kd.R_typed h.hO) (by decide) hg,(hg.block gs (blk_lt h.hG) (Kd.R_ne h.hO h.hG (by decide))).trans h.hG,hb⟩
theorem AnS.sign (h:AnS w base gs v7 bs v0 rs w'):w'.cell? ⟨gs,0,none⟩=some (.string (⟨#[46]⟩:ByteArray))∧w'.cell? ⟨gs,1,none⟩=some (.string (⟨#[35]⟩:ByteArray))∧w'.cell? ⟨gs,2,none⟩=some (.string (⟨#[126]⟩:ByteArray))∧w'.cell? ⟨gs,3,none⟩=some (.string (⟨#[33]⟩:ByteArray)) :=
 ⟨blk_cell h.hG 0,blk_cell h.hG 1,blk_cell h.hG 2,blk_cell h.hG 3⟩
end
theorem natsB_app (a:List UInt8) (lb:ByteArray) (m:List UInt8) (h:lb=bs m):natsB a ++ bytesOf (lb ++ (⟨#[10]⟩:ByteArray))=natsB (a ++ (m ++ [10])):=by
 rw [h]
 have e1:bs m ++ (⟨#[10]⟩:ByteArray)=bs (m ++ [10]):=bytes_app m [10]
 rw [e1,bs_bytes]
 unfold natsB
 simp only [List.map_append]
theorem sign_app (m:List UInt8) (lb:ByteArray) (b:UInt8) (h:lb=bs m):lb ++ (⟨#[b]⟩:ByteArray)=bs (m ++ [b]):=by
 rw [h]
 exact bytes_app m [b]
end Go.Proofs.YtpdnabhpkdchjaaDoor.P
namespace Go.Proofs.YtpdnabhpkdchjaaDoor.P
open Go Go.RowKit Go.Maps Go.Proofs.YtpdnabhpkdchjaaDoorW.PrintWords Go.Proofs.YtpdnabhpkdchjaaDoorW.PrintLast Go.Proofs.YtpdnabhpkdchjaaDoorW.PrintMore
set_option linter.unusedVariables false
set_option linter.unusedSimpArgs false
def evV (e:S52):Value:=.agg #[.int .i64 e.f0,.int .i64 e.f1,.int .i64 e.f2]
def evD (e:S52):DataW Unit:=.agg [.lit (.int .i64 e.f0),.lit (.int .i64 e.f1),.lit (.int .i64 e.f2)]
theorem evV_inj {e f:S52} (h:evV e=evV f):e=f:=by
 cases e;cases f
 simp [evV] at h
 simp [h]
open Classical in
noncomputable def evR (v:Value):Option (DataW Unit × List MemPlace):=if h:∃ e,v=evV e then some (evD h.choose,[]) else none
theorem evR_mk (e:S52):evR (evV e)=some (evD e,[]):=by
 have hx:∃ f,evV e=evV f:=⟨e,rfl⟩
 rw [evR,dif_pos hx,← evV_inj hx.choose_spec]
theorem evR_inv {v:Value} {d:DataW Unit} {ps:List MemPlace} (h:evR v=some (d,ps)):∃ e,v=evV e∧d=evD e:=by
 unfold evR at h
 split at h
 ·rename_i hx
  exact ⟨hx.choose,hx.choose_spec,(Prod.mk.inj (Option.some.inj h)).1.symm⟩
 cases h
theorem evD_inj {e f:S52} (h:evD e=evD f):e=f:=by
 cases e;cases f
 simp [evD] at h
 simp [h]
theorem evB_line (e:S52):evB e=lineN e.f0 e.f1 e.f2 ++ [10]:=rfl
theorem evB_inj {n:Int} {l:List S98} {e f:S52} (he:eventOk n l e.f0 e.f1 e.f2=true) (hf:eventOk n l f.f0 f.f1 f.f2=true) (h:evB e=evB f):e=f:=by
 rw [evB_line,evB_line] at h
 have h2:=List.append_cancel_right h
 exact Tells.one (s:=lineN f.f0 f.f1 f.f2) ⟨he,h2⟩ ⟨hf,rfl⟩
structure Known (n:Int) (l:List S98) (P:S52→Prop) (D:DataW Unit):Prop where
 isMap:IsMap D
 ok:∀ e,P e→eventOk n l e.f0 e.f1 e.f2=true
 there:∀ e,P e→Maps.has D (.string (evB e))=true∧D.atKey (.string (evB e)) (evD ⟨0,0,0⟩)=evD e
 back:∀ s,Maps.has D (.string s)=true→∃ e,P e∧evB e=s
theorem Known.none {n:Int} {l:List S98} {P:S52→Prop} (h:∀ e,¬ P e):Known n l P (.map []) :=
 ⟨isMap_empty,fun e he=>absurd he (h e),fun e he=>absurd he (h e),fun s hs=>by simp [Maps.has] at hs⟩
theorem Known.same {n:Int} {l:List S98} {P P':S52→Prop} {D:DataW Unit} (h:Known n l P D) (hp:∀ e,P' e ↔ P e):Known n l P' D :=
 ⟨h.isMap,fun e he=>h.ok e ((hp e).1 he),fun e he=>h.there e ((hp e).1 he),fun s hs=>by obtain ⟨e,h1,h2⟩:=h.back s hs;exact ⟨e,(hp e).2 h1,h2⟩⟩
theorem Known.put {n:Int} {l:List S98} {P P':S52→Prop} {D:DataW Unit} {f:S52} (h:Known n l P D) (hf:eventOk n l f.f0 f.f1 f.f2=true) (hp:∀ e,P' e ↔ P e ∨ e=f):Known n l P' (D.put (.string (evB f)) (evD f)):=by
 have hk:WideAt.IsKeyLit (.string (evB f)):=by trivial
 refine ⟨h.isMap.put _ _,fun e he=>?_,fun e he=>?_,fun s hs=>?_⟩
 ·rcases (hp e).1 he with he|rfl
  ·exact h.ok e he
  exact hf
 ·by_cases hef:e=f
  ·subst hef
   exact ⟨has_put_same h.isMap hk _,atKey_put_same h.isMap hk _ _⟩
  have hP:P e:=((hp e).1 he).resolve_right hef
  have hne:(Lit.string (evB e)) ≠ .string (evB f):=fun hc=>hef (evB_inj (h.ok e hP) hf (by injection hc))
  rw [has_put_other hne,atKey_put_other hne]
  exact h.there e hP
 by_cases hsf:s=evB f
 ·exact ⟨f,(hp f).2 (.inr rfl),hsf.symm⟩
 have hne:(Lit.string s) ≠ .string (evB f):=fun hc=>hsf (by injection hc)
 rw [has_put_other hne] at hs
 obtain ⟨e,h1,h2⟩:=h.back s hs
 exact ⟨e,(hp e).2 (.inl h1),h2⟩
def OkE (n:Int) (l:List S98) (e:S52):Prop:=eventOk n l e.f0 e.f1 e.f2=true
theorem look_some {n:Int} {l:List S98} {D:DataW Unit} {a:List UInt8} {e:S52} (h:Known n l (OkE n l) D) (he:evOf n l a=some e):Maps.has D (.string (a ++ [10]))=true∧D.atKey (.string (a ++ [10])) (evD ⟨0,0,0⟩)=evD e:=by
 have ht:Tells n l a e:=by
  unfold evOf at he
  split at he
  ·rename_i hx
   have:=hx.choose_spec
   rw [Option.some.inj he] at this
   exact this
  cases he
 have:=h.there e ht.1
 rwa [evB_line,ht.2] at this
theorem look_none {n:Int} {l:List S98} {D:DataW Unit} {a:List UInt8} (h:Known n l (OkE n l) D) (he:evOf n l a=none):Maps.has D (.string (a ++ [10]))=false:=by
 cases hh:Maps.has D (.string (a ++ [10])) with
 | false=>rfl
 | true =>
  obtain ⟨e,h1,h2⟩:=h.back _ hh
  rw [evB_line] at h2
  have ht:Tells n l a e:=⟨h1,List.append_cancel_right h2⟩
  rw [evOf_some ht] at he
  cases he
theorem look_empty {n:Int} {l:List S98} {D:DataW Unit} {P:S52→Prop} (h:Known n l P D):Maps.has D (.string [])=false:=by
 cases hh:Maps.has D (.string []) with
 | false=>rfl
 | true =>
  obtain ⟨e,h1,h2⟩:=h.back _ hh
  rw [evB_line] at h2
  simp at h2
def P2 (n:Int) (l:List S98) (op of dir:Int) (e:S52):Prop:=OkE n l e∧(e.f0<op ∨ e.f0=op∧(e.f1<of ∨ e.f1=of∧e.f2<dir))
theorem p2_put {n:Int} {l:List S98} {op of dir:Int} (h:eventOk n l op of dir=true) (e:S52):P2 n l op of (dir+1) e ↔ P2 n l op of dir e ∨ e=⟨op,of,dir⟩:=by
 unfold P2
 constructor
 ·rintro ⟨h1,h2⟩
  by_cases he:e=⟨op,of,dir⟩
  ·exact .inr he
  refine .inl ⟨h1,?_⟩
  have:¬ (e.f0=op∧e.f1=of∧e.f2=dir):=fun hc=>he (by cases e;simp_all)
  omega
 rintro (⟨h1,h2⟩|rfl)
 ·exact ⟨h1,by omega⟩
 exact ⟨h,by right;exact ⟨rfl,.inr ⟨rfl,by show dir<dir+1;omega⟩⟩⟩
theorem p2_skip {n:Int} {l:List S98} {op of dir:Int} (h:eventOk n l op of dir=false) (e:S52):P2 n l op of (dir+1) e ↔ P2 n l op of dir e:=by
 unfold P2
 constructor
 ·rintro ⟨h1,h2⟩
  refine ⟨h1,?_⟩
  have:¬ (e.f0=op∧e.f1=of∧e.f2=dir):=by
   rintro ⟨a,b,c⟩
   unfold OkE at h1
   rw [a,b,c,h] at h1
   cases h1
  omega
 rintro ⟨h1,h2⟩
 exact ⟨h1,by omega⟩
theorem p2_of {n:Int} {l:List S98} {op of:Int} (e:S52):P2 n l op (of+1) (-1) e ↔ P2 n l op of 2 e:=by
 unfold P2
 constructor
 ·rintro ⟨h1,h2⟩
  have:=ev_parts h1
  exact ⟨h1,by omega⟩
 rintro ⟨h1,h2⟩
 have:=ev_parts h1
 exact ⟨h1,by omega⟩
theorem p2_op {n:Int} {l:List S98} {op:Int} (e:S52):P2 n l (op+1) 0 (-1) e ↔ P2 n l op (most n l) (-1) e:=by
 unfold P2
 constructor
 ·rintro ⟨h1,h2⟩
  have:=ev_parts h1
  have:=ev_most h1
  exact ⟨h1,by omega⟩
 rintro ⟨h1,h2⟩
 have:=ev_parts h1
 have:=ev_most h1
 exact ⟨h1,by omega⟩
theorem p2_start {n:Int} {l:List S98} (e:S52):¬ P2 n l 1 0 (-1) e:=by
 rintro ⟨h1,h2⟩
 have:=ev_parts h1
 omega
theorem p2_end {n:Int} {l:List S98} (e:S52):OkE n l e ↔ P2 n l 6 0 (-1) e:=by
 constructor
 ·intro h
  have:=ev_parts h
  exact ⟨h,by omega⟩
 exact fun h=>h.1
theorem map_nx {w w':World} {b cnt:Nat} {D:DataW Unit} (h:w.ownsMap Tryd.prog 9 evR b cnt D) (hb:Below w.heap.size w w'):w'.ownsMap Tryd.prog 9 evR b cnt D:=by
 have hlt:=h.lt
 obtain ⟨es,clock,hh,r⟩:=h
 exact ⟨es,clock,(hb.block b hlt).trans hh,r⟩
end Go.Proofs.YtpdnabhpkdchjaaDoor.P
namespace Go.Proofs.YtpdnabhpkdchjaaDoor.P
open Go Go.RowKit Go.Proofs.YtpdnabhpkdchjaaDoorW.PrintWords Go.Proofs.YtpdnabhpkdchjaaDoorW.PrintLast Go.Proofs.YtpdnabhpkdchjaaDoorW.PrintMore
set_option linter.unusedVariables false
set_option linter.unusedSimpArgs false
theorem index_no:∀ {a:List UInt8},(10:UInt8) ∉ a→Lib.indexByte a 10=-1
 | [],_=>rfl
 | x :: a,h=>by
  simp only [List.mem_cons,not_or] at h
  have hx:(x==10)=false:=by simpa using (fun hc=>h.1 hc.symm)
  rw [Lib.indexByte,hx,index_no h.2]
  rfl
theorem index_yes:∀ {a r:List UInt8},(10:UInt8) ∉ a→Lib.indexByte (a ++ 10 :: r) 10=(a.length:Int)
 | [],r,_=>rfl
 | x :: a,r,h=>by
  simp only [List.mem_cons,not_or] at h
  have hx:(x==10)=false:=by simpa using (fun hc=>h.1 hc.symm)
  have hn:((a.length:Int)==-1)=false:=by
   simp
  rw [List.cons_append,Lib.indexByte,hx,index_yes h.2,hn]
  simp
theorem split_ten:∀ {s:List UInt8},(10:UInt8) ∈ s→∃ a r,s=a ++ 10 :: r∧(10:UInt8) ∉ a
 | [],h=>by cases h
 | x :: s,h=>by
  by_cases hx:x=10
  ·exact ⟨[],s,by rw [hx];rfl,by simp⟩
  have h2:(10:UInt8) ∈ s:=by
   rcases List.mem_cons.1 h with h|h
   ·exact absurd h.symm hx
   exact h
  obtain ⟨a,r,rfl,ha⟩:=split_ten h2
  exact ⟨x :: a,r,rfl,by simp only [List.mem_cons,not_or];exact ⟨fun hc=>hx hc.symm,ha⟩⟩
theorem read_round {n:Int} {l:List S98} {D:DataW Unit} {s:List UInt8} (hs:s ≠ []) (h:Known n l (OkE n l) D) :
    ∃ k:Nat,Lib.indexByte s 10+1=(k:Int)∧k≤s.length ∧
      ((Maps.has D (.string (s.take k))=false∧∀ f m out,s.length≤f→readGo n l f s m out=(3,m+1,[])) ∨
       (0<k∧Maps.has D (.string (s.take k))=true∧∃ e,D.atKey (.string (s.take k)) (evD ⟨0,0,0⟩)=evD e∧∀ f m out,s.length≤f+1→readGo n l (f+1) s m out=if out.length=2000 then (3,m+1,[]) else readGo n l f (s.drop k) (m+1) (out ++ [e]))):=by
  by_cases h10:(10:UInt8) ∈ s
  · obtain ⟨a,r,rfl,ha⟩:=split_ten h10
    have hc:=line_cut (r:=r) ha
    have ht:(a ++ 10 :: r).take (a.length+1)=a ++ [10]:=by
      rw [List.take_append,List.take_of_length_le (by omega)]
      simp
    have hd:(a ++ 10 :: r).drop (a.length+1)=r:=by
      rw [List.drop_append,List.drop_of_length_le (by omega)]
      simp
    refine ⟨a.length+1,by rw [index_yes ha];omega,by rw [List.length_append,List.length_cons];omega,?_⟩
    rw [ht,hd]
    cases he:evOf n l a with
    | none =>
      refine .inl ⟨look_none h he,fun f m out hf=>?_⟩
      rw [List.length_append,List.length_cons] at hf
      obtain ⟨f,rfl⟩:∃ f',f=f'+1:=⟨f - 1,by omega⟩
      rw [readGo,if_neg hs,if_neg (by simp),hc.1,he]
    | some e =>
      have hl:=look_some h he
      refine .inr ⟨by omega,hl.1,e,hl.2,fun f m out hf=>?_⟩
      rw [readGo,if_neg hs,if_neg (by simp),hc.1,hc.2,he]
  · refine ⟨0,by rw [index_no h10];rfl,Nat.zero_le _,.inl ⟨look_empty h,fun f m out hf=>?_⟩⟩
    have:0<s.length:=List.length_pos_iff.2 hs
    obtain ⟨f,rfl⟩:∃ f',f=f'+1:=⟨f - 1,by omega⟩
    rw [readGo,if_neg hs,if_pos h10]
theorem readGo_nil (n:Int) (l:List S98) (f:Nat) (m:Int) (out:List S52):readGo n l f [] m out=(0,0,out):=by
 cases f <;> simp [readGo]
theorem keyed9:Maps.Keyed Tryd.prog 9:=Maps.string_keyed Tryd.underlying9
theorem look_run {w:World} {gm k:Nat} {D:DataW Unit} {s:List UInt8} {b:Bool} (h:∃ cnt,w.ownsMap Tryd.prog 9 evR gm cnt D) (hs:s.length≤20000) (hb:Maps.has D (.string (s.take k))=b) :
  ∃ e:S52,(Instr.lookup 72 (.map (some gm)) (.string ((bs s).extract 0 k)) true).run Tryd.prog w=.ok (.tuple #[.agg #[.int .i64 e.f0,.int .i64 e.f1,.int .i64 e.f2],.bool b]) w∧evD e=D.atKey (.string (s.take k)) (evD ⟨0,0,0⟩):=by
 obtain ⟨cnt,h⟩:=h
 have hx:(bs s).extract 0 k=bs (s.take k):=by rw [bs_take,List.drop_zero]
 have hkey:keyOf Tryd.prog 9 (.string ((bs s).extract 0 k))=some (.string (s.take k)):=by
  rw [hx]
  exact Go.WideMaps.keyOf_string_mk (s:=bs (s.take k)) Tryd.underlying9 (by rw [bs_size,List.length_take];unfold maxLen;omega)
 obtain ⟨v,ps,hrun,hv⟩:=h.look_ok keyed9 Tryd.underlying72 (Tryd.zeroValue52 w) (evR_mk ⟨0,0,0⟩) hkey
 obtain ⟨e,rfl,hd⟩:=evR_inv hv
 rw [hb] at hrun
 exact ⟨e,hrun,hd.symm⟩
structure RdSt (wI:World) (b0:Nat) (w:World) (gh gr gm:Nat) (D:DataW Unit) (v2:Value) (out:List S52):Prop where
 hh:w.heap[gh]?=some (.cells #[.int .i64 0,.int .i64 0,.slice none 0 0] 39 (0,0))
 hr:w.heap[gr]?=some (.cells #[.int .i64 0,.int .i64 0,v2] 39 (0,0))
 hm:∃ cnt,w.ownsMap Tryd.prog 9 evR gm cnt D
 H2:Kd.R k52 52 w b0 (fun _=>True) v2 out
 hB:Below wI.heap.size wI w
 b1:wI.heap.size≤b0
 b2:b0≤w.heap.size
 hlt:gh<b0
 rlt:gr<b0
 mlt:gm<b0
 hge:wI.heap.size≤gh
 rge:wI.heap.size≤gr
 ne:gh ≠ gr
section
variable {wI w w' : World} {b0 gh gr gm : Nat} {D : DataW Unit} {v2 v2' : Value} {out out' : List S52}
theorem RdSt.up (h:RdSt wI b0 w gh gr gm D v2 out) (hb:Below w.heap.size w w'):RdSt wI b0 w' gh gr gm D v2 out:=by
 obtain ⟨cnt,hm⟩:=h.hm
 exact ⟨blk_below h.hh hb,blk_below h.hr hb,⟨cnt,map_nx hm hb⟩,R_up h.H2 hb,below_step h.hB hb,h.b1,Nat.le_trans h.b2 hb.size,h.hlt,h.rlt,h.mlt,h.hge,h.rge,h.ne⟩
theorem map_same {w w':World} {b cnt:Nat} {D:DataW Unit} (h:w.ownsMap Tryd.prog 9 evR b cnt D) (hb:w'.heap[b]?=w.heap[b]?):w'.ownsMap Tryd.prog 9 evR b cnt D:=by
 obtain ⟨es,clock,hh,r⟩:=h
 exact ⟨es,clock,hb.trans hh,r⟩
theorem RdSt.ne_map (h:RdSt wI b0 w gh gr gm D v2 out):gm ≠ gr:=by
 rintro rfl
 obtain ⟨cnt,es,clock,hh,r⟩:=h.hm
 rw [h.hr] at hh
 cases hh
theorem RdSt.ne2 (h:RdSt wI b0 w gh gr gm D v2 out) {g:Nat} (hg:g<b0):some g ≠ v2.ownBlock:=fun e=>by have:=Kd.R_base h.H2 g e.symm;omega
theorem RdSt.app (h:RdSt wI b0 w gh gr gm D v2 out) (H2:Kd.R k52 52 w' b0 (fun _=>True) v2' out') (hg:w.grownBy w' v2.ownBlock):RdSt wI b0 (w'.setCell ⟨gr,2,none⟩ v2') gh gr gm D v2' out':=by
 obtain ⟨cnt,hm⟩:=h.hm
 have a:=(hg.block gh (blk_lt h.hh) (h.ne2 h.hlt)).trans h.hh
 have b:=(hg.block gr (blk_lt h.hr) (h.ne2 h.rlt)).trans h.hr
 have m:=map_same hm (hg.block gm hm.lt (h.ne2 h.mlt))
 have hs:w'.heap.size≤(w'.setCell ⟨gr,2,none⟩ v2').heap.size:=by simp [World.setCell]
 refine ⟨blk_far a h.ne _,blk_put b 2 v2' rfl,⟨cnt,map_same m ?_⟩,R_off rfl H2 (Kd.R_ne H2 b (by decide)) _,below_set (pw_below_grown h.hB _ h.hB.size hg (fun k hk=>Nat.le_trans h.b1 (Kd.R_base h.H2 k hk))) h.rge,h.b1,Nat.le_trans h.b2 (Nat.le_trans hg.size hs),h.hlt,h.rlt,h.mlt,h.hge,h.rge,h.ne⟩
 exact Below.heap_setCell _ _ _ _ h.ne_map
theorem RdSt.grn (h:RdSt wI b0 w gh gr gm D v2 out) (hg:w.grownBy w' v2.ownBlock):w'.heap[gr]?=some (.cells #[.int .i64 0,.int .i64 0,v2] 39 (0,0)) :=
 (hg.block gr (blk_lt h.hr) (h.ne2 h.rlt)).trans h.hr
theorem RdSt.at_ (h:RdSt wI b0 w gh gr gm D v2 out):w.cell? ⟨gr,0,none⟩=some (.int .i64 0)∧w.cell? ⟨gr,1,none⟩=some (.int .i64 0)∧w.cell? ⟨gr,2,none⟩=some v2∧w.frozen? ⟨gr,0,none⟩=false∧w.frozen? ⟨gr,1,none⟩=false∧w.frozen? ⟨gr,2,none⟩=false :=
 ⟨blk_cell h.hr 0,blk_cell h.hr 1,blk_cell h.hr 2,blk_frozen h.hr 0,blk_frozen h.hr 1,blk_frozen h.hr 2⟩
theorem RdSt.ath (h:RdSt wI b0 w gh gr gm D v2 out):w.cell? ⟨gh,0,none⟩=some (.int .i64 0)∧w.cell? ⟨gh,1,none⟩=some (.int .i64 0)∧w.cell? ⟨gh,2,none⟩=some (.slice none 0 0)∧w.frozen? ⟨gh,0,none⟩=false∧w.frozen? ⟨gh,1,none⟩=false∧w.frozen? ⟨gh,2,none⟩=false :=
 ⟨blk_cell h.hh 0,blk_cell h.hh 1,blk_cell h.hh 2,blk_frozen h.hh 0,blk_frozen h.hh 1,blk_frozen h.hh 2⟩
end
end Go.Proofs.YtpdnabhpkdchjaaDoor.P
namespace Go.Proofs.YtpdnabhpkdchjaaDoor.P
open Go Go.RowKit Go.Proofs.YtpdnabhpkdchjaaDoorW.PrintWords Go.Proofs.YtpdnabhpkdchjaaDoorW.PrintLast Go.Proofs.YtpdnabhpkdchjaaDoorW.PrintMore
set_option linter.unusedVariables false
set_option linter.unusedSimpArgs false
theorem key_ev {n:Int} {l:List S98} {op of dir:Int} (h:eventOk n l op of dir=true):keyOf Tryd.prog 9 (.string ⟨(lineB op of dir).toArray⟩)=some (.string (evB ⟨op,of,dir⟩)) :=
 Go.WideMaps.keyOf_string_mk (s:=⟨(lineB op of dir).toArray⟩) Tryd.underlying9 (by have:=evB_len (n:=n) (l:=l) (e:=⟨op,of,dir⟩) h;have e:(⟨(lineB op of dir).toArray⟩:ByteArray).size=(evB ⟨op,of,dir⟩).length:=bs_size _;rw [e];unfold maxLen;omega)
set_option maxHeartbeats 8000000 in
set_option maxRecDepth 100000 in
theorem iread_is {T:Addr} {tc:Nat} (n:Int) (A:Option Addr) (c:Nat) (l:List S98) (s:List UInt8) (tx:ByteArray) (htx:tx=bs s) (w:World) (hr:Kd.C k98 w A l.length l) (hc:l.length≤c) (hT:Tabs T tc w) :
  Calls Tryd.prog 16 #[.agg #[.int .i64 n,.slice A l.length c],.string tx] w fun e w'=>∃ v2_:Value,e=.returned (.agg #[.int .i64 (readE n l s).1,.int .i64 (readE n l s).2.1,v2_])∧Kd.R k52 52 w' w.heap.size (fun _=>True) v2_ (readE n l s).2.2∧Below w.heap.size w w':=by
 have HR:=Aside0.mk hr
 have HC:=Aside0.mk hc
 have HT:=Aside0.mk hT
 have TX:=Aside0.mk htx
 have TS:=Aside0.mk (show tx.size=s.length by rw [htx];exact bs_size s)
 clear hr hc hT htx
 by_cases hl:layoutOk n l=0
 ·by_cases hz:s.length≤20000
  ·have hz1:decide (20000<(tx.size:Int))=false:=decide_eq_false (by rw [TS.out];omega)
   have HL:=Aside0.mk hl
   have HZ:=Aside0.mk hz
   have hmm:=@run_makeMap Tryd.prog
   go_enter Tryd.func16,Tryd.ntmps16
   go_upto_region 1 with (first|((with_reducible refine gate_dst (N:=2) rfl ?_);refine box_event ?hg (N:=2) ?hd (cs:=#[.int .i64 n,.slice A l.length c]) (t:=31) ?hr ?_;(case hd=>rfl);(case hg=>rfl);(case hr=>first|(go_simp;done)|(go_simp;rfl));intro gl el wl kl bl;have EL:=Aside0.mk el;have KL:=Aside0.mk kl;have BL:=Aside0.mk bl;clear el kl bl;have kl0:wl.cell? ⟨gl,0,none⟩=some (.int .i64 n):=(blk_cell KL.out 0).trans rfl;have zkl0:=blk_frozen KL.out 0;have kl1:wl.cell? ⟨gl,1,none⟩=some (.slice A l.length c):=(blk_cell KL.out 1).trans rfl;have zkl1:=blk_frozen KL.out 1)|((with_reducible refine gate_dst (N:=4) rfl ?_);refine box_event ?hg (N:=4) ?hd (cs:=#[.int .i64 0,.int .i64 0,.slice none 0 0]) (t:=39) ?hr ?_;(case hd=>rfl);(case hg=>rfl);(case hr=>first|(go_simp;done)|(go_simp;rfl));intro gh eh wh kh bh;have EH:=Aside0.mk eh;have KH:=Aside0.mk kh;have BH:=Aside0.mk bh;clear eh kh bh;have kh0:wh.cell? ⟨gh,0,none⟩=some (.int .i64 0):=(blk_cell KH.out 0).trans rfl;have zkh0:=blk_frozen KH.out 0;have kh1:wh.cell? ⟨gh,1,none⟩=some (.int .i64 0):=(blk_cell KH.out 1).trans rfl;have zkh1:=blk_frozen KH.out 1;have kh2:wh.cell? ⟨gh,2,none⟩=some (.slice none 0 0):=(blk_cell KH.out 2).trans rfl;have zkh2:=blk_frozen KH.out 2))
   clear kl0 zkl0 kl1 zkl1
   have KL:=Aside0.mk (blk_below KL.out BH.out)
   have kl0:wh.cell? ⟨gl,0,none⟩=some (.int .i64 n):=(blk_cell KL.out 0).trans rfl
   have zkl0:=blk_frozen KL.out 0
   have kl1:wh.cell? ⟨gl,1,none⟩=some (.slice A l.length c):=(blk_cell KL.out 1).trans rfl
   have zkl1:=blk_frozen KL.out 1
   go_upto_region 3 with (go_at_call 30;refine (lay_at HL.out (Kd.C_below HR.out (below_step BL.out BH.out)) HC.out).mono ?_;rintro e w1 ⟨rfl,hb⟩;have KL:=Aside0.mk (blk_below KL.out hb);have KH:=Aside0.mk (blk_below KH.out hb);have B1:=Aside0.mk (below_step (below_step BL.out BH.out) hb);clear hb kl0 zkl0 kl1 zkl1 kh0 zkh0 kh1 zkh1 kh2 zkh2;have kh0:w1.cell? ⟨gh,0,none⟩=some (.int .i64 0):=(blk_cell KH.out 0).trans rfl;have zkh0:=blk_frozen KH.out 0;have kh1:w1.cell? ⟨gh,1,none⟩=some (.int .i64 0):=(blk_cell KH.out 1).trans rfl;have zkh1:=blk_frozen KH.out 1;have kh2:w1.cell? ⟨gh,2,none⟩=some (.slice none 0 0):=(blk_cell KH.out 2).trans rfl;have zkh2:=blk_frozen KH.out 2)
   go_upto_region 6 with fail
   have HM:=Aside0.mk (World.ownsMap_made w1 Tryd.prog 9 evR)
   have HB:=Aside0.mk (below_alloc (Below.refl w1.heap.size w1) (.map #[] 0))
   clear hmm hl hz hz1 kh0 zkh0 kh1 zkh1 kh2 zkh2
   obtain ⟨gm,hgm⟩:∃ g,g=w1.heap.size:=⟨_,rfl⟩
   rw [← hgm] at HM ⊢
   have GM:=Aside0.mk hgm
   clear hgm
   generalize w1.alloc (.map #[] 0)=w2 at HM HB ⊢
   go_wp2_with fail
   go_loopg [6] 5 (fun kq v6 w'=>∃ op:Nat,v6=.int .i64 (op:Int)∧Aside0 (op+kq=6)∧Aside0 (1≤op)∧Aside0 (∃ D cnt,cnt≤1000 * op∧w'.ownsMap Tryd.prog 9 evR gm cnt D∧Known n l (P2 n l op 0 (-1)) D)∧Aside0 (Below w1.heap.size w1 w'))
   case atStart=>exact ⟨1,rfl,⟨rfl⟩,⟨Nat.le_refl _⟩,⟨_,0,by omega,HM.out,Known.none p2_start⟩,HB⟩
   case round =>
    clear HM HB
    obtain ⟨op,rfl,HX,HO1,HM,HB⟩:=hrel
    by_cases hit:op≤5
    ·obtain ⟨go1,rfl⟩:∃ g,gk=g+1:=⟨gk - 1,by have:=HX.out;omega⟩
     have hit':decide ((op:Int)≤5)=true:=decide_eq_true (by omega)
     have HIT:=Aside0.mk hit
     have KL:=Aside0.mk (blk_below KL.out HB.out)
     have kl0:wr.cell? ⟨gl,0,none⟩=some (.int .i64 n):=(blk_cell KL.out 0).trans rfl
     have zkl0:=blk_frozen KL.out 0
     have kl1:wr.cell? ⟨gl,1,none⟩=some (.slice A l.length c):=(blk_cell KL.out 1).trans rfl
     have zkl1:=blk_frozen KL.out 1
     go_upto_region 10 with fail
     obtain ⟨M,hM⟩:∃ M:Nat,max n (l.length:Int)=(M:Int):=⟨(max n (l.length:Int)).toNat,by omega⟩
     have MM:=Aside0.mk (show most n l=(M:Int)∧M≤120 from ⟨by unfold most;split <;> omega,by have:=lay_n HL.out;omega⟩)
     rw [hM]
     clear hM kl0 zkl0 kl1 zkl1 hit'
     go_wp2_with fail
     go_loopg [36] M (fun kq v36 w'=>∃ of:Nat,v36=.int .i64 (of:Int)∧Aside0 (of+kq=M)∧Aside0 (∃ D cnt,cnt≤1000 * op+3 * of∧w'.ownsMap Tryd.prog 9 evR gm cnt D∧Known n l (P2 n l op of (-1)) D)∧Aside0 (Below w1.heap.size w1 w'))
     case atStart=>exact ⟨0,rfl,⟨by omega⟩,⟨by obtain ⟨D,cnt,h1,h2⟩:=HM.out;exact ⟨D,cnt,by omega,h2⟩⟩,HB⟩
     case round =>
      clear HM HB KL
      obtain ⟨of,rfl,HY,HM,HB⟩:=hrel
      by_cases hin:of<M
      ·obtain ⟨go2,rfl⟩:∃ g,gk=g+1:=⟨gk - 1,by have:=HY.out;omega⟩
       have hin':decide ((of:Int)<(M:Int))=true:=decide_eq_true (by omega)
       have HIN:=Aside0.mk hin
       go_wp2_with fail
       go_loopg [8] 3 (fun kq v8 w'=>∃ j:Nat,v8=.int .i64 ((j:Int) - 1)∧Aside0 (j+kq=3)∧Aside0 (∃ D cnt,cnt≤1000 * op+3 * of+j∧w'.ownsMap Tryd.prog 9 evR gm cnt D∧Known n l (P2 n l op of ((j:Int) - 1)) D)∧Aside0 (Below w1.heap.size w1 w'))
       case atStart=>exact ⟨0,rfl,⟨rfl⟩,⟨by obtain ⟨D,cnt,h1,h2⟩:=HM.out;exact ⟨D,cnt,by omega,h2⟩⟩,HB⟩
       case round =>
        clear HM HB hin'
        obtain ⟨j,rfl,HJ,HM,HB⟩:=hrel
        by_cases hj:j≤2
        ·obtain ⟨go3,rfl⟩:∃ g,gk=g+1:=⟨gk - 1,by have:=HJ.out;omega⟩
         obtain ⟨dir,hdir⟩:∃ dir:Int,(j:Int) - 1=dir:=⟨_,rfl⟩
         have HD:=Aside0.mk hdir
         rw [hdir] at HM ⊢
         have hj':decide (dir≤1)=true:=decide_eq_true (by omega)
         have W8:=Aside0.mk (show wrap64 (dir+1)=((j+1:Nat):Int) - 1 from (wrap_id (by omega) (by omega)).trans (by omega))
         have HJJ:=Aside0.mk hj
         clear hdir hj
         go_upto_region 16 with ((with_reducible refine gate_dst (N:=9) rfl ?_);refine box_event ?hg (N:=9) ?hd (cs:=#[.int .i64 0,.int .i64 0,.int .i64 0]) (t:=52) ?hr ?_;(case hd=>rfl);(case hg=>rfl);(case hr=>first|(go_simp;done)|(go_simp;rfl));intro ge ee we ke be;have EE:=Aside0.mk ee;have KE:=Aside0.mk ke;have BE:=Aside0.mk be;clear ee ke be;have ke0:we.cell? ⟨ge,0,none⟩=some (.int .i64 0):=(blk_cell KE.out 0).trans rfl;have zke0:=blk_frozen KE.out 0;have ke1:we.cell? ⟨ge,1,none⟩=some (.int .i64 0):=(blk_cell KE.out 1).trans rfl;have zke1:=blk_frozen KE.out 1;have ke2:we.cell? ⟨ge,2,none⟩=some (.int .i64 0):=(blk_cell KE.out 2).trans rfl;have zke2:=blk_frozen KE.out 2)
         have FX:=Aside0.mk (fill3e (y0:=.int .i64 (op:Int)) (y1:=.int .i64 (of:Int)) (y2:=.int .i64 dir) KE.out BE.out (Nat.le_of_eq EE.out.symm))
         clear ke0 zke0 ke1 zke1 ke2 zke2 KE BE EE
         generalize (((we.setCell ⟨ge,0,none⟩ (.int .i64 (op:Int))).setCell ⟨ge,1,none⟩ (.int .i64 (of:Int))).setCell ⟨ge,2,none⟩ (.int .i64 dir))=w4 at FX ⊢
         obtain ⟨D,cnt,hcn,how,hkn⟩:=HM.out
         have OW:=Aside0.mk (map_nx how FX.out.1)
         have CN:=Aside0.mk hcn
         have KN:=Aside0.mk hkn
         have HB:=Aside0.mk (below_step HB.out FX.out.1)
         have KE:=Aside0.mk FX.out.2
         have KL:=Aside0.mk (blk_below KL.out HB.out)
         clear FX hcn how hkn HM
         have kl0:w4.cell? ⟨gl,0,none⟩=some (.int .i64 n):=(blk_cell KL.out 0).trans rfl
         have kl1:w4.cell? ⟨gl,1,none⟩=some (.slice A l.length c):=(blk_cell KL.out 1).trans rfl
         have ke0:w4.cell? ⟨ge,0,none⟩=some (.int .i64 (op:Int)):=(blk_cell KE.out 0).trans rfl
         have ke1:w4.cell? ⟨ge,1,none⟩=some (.int .i64 (of:Int)):=(blk_cell KE.out 1).trans rfl
         have ke2:w4.cell? ⟨ge,2,none⟩=some (.int .i64 dir):=(blk_cell KE.out 2).trans rfl
         have HRX:=Aside0.mk (Kd.C_below (Kd.C_below HR.out B1.out) HB.out)
         by_cases hok:eventOk n l (op:Int) (of:Int) dir=true
         ·have OK:=Aside0.mk hok
          have hp:=Aside0.mk (ev_parts hok)
          go_upto_region 17 with (go_at_call 31;refine (ev_at _ _ _ OK.out HRX.out HC.out).mono ?_;rintro e w5 ⟨rfl,hb⟩;have OW:=Aside0.mk (map_nx OW.out hb);have HB:=Aside0.mk (below_step HB.out hb);have KE:=Aside0.mk (blk_below KE.out hb);clear hb)
          clear kl0 kl1 ke0 ke1 ke2 hok HRX
          have ke0:w5.cell? ⟨ge,0,none⟩=some (.int .i64 (op:Int)):=(blk_cell KE.out 0).trans rfl
          have ke1:w5.cell? ⟨ge,1,none⟩=some (.int .i64 (of:Int)):=(blk_cell KE.out 1).trans rfl
          have ke2:w5.cell? ⟨ge,2,none⟩=some (.int .i64 dir):=(blk_cell KE.out 2).trans rfl
          have HT5:=Aside0.mk ((HT.out.nx B1.out).nx HB.out)
          go_region_with (first|(go_at_call 33;refine (line_is (by have:=hp.out;omega) (by have:=hp.out;omega) (by have:=hp.out;omega) (by have:=hp.out;omega) (HT5.out.nx (below_drew1 (Below.refl w5.heap.size w5)))).mono ?_;rintro e w6 ⟨rfl,hb⟩;have OW:=Aside0.mk (map_nx OW.out.drew hb);have HB:=Aside0.mk (below_step (below_drew1 HB.out) hb);have KE:=Aside0.mk (blk_below (blk_drew KE.out) hb);clear hb ke0 ke1 ke2;have ke0:w6.cell? ⟨ge,0,none⟩=some (.int .i64 (op:Int)):=(blk_cell KE.out 0).trans rfl;have ke1:w6.cell? ⟨ge,1,none⟩=some (.int .i64 (of:Int)):=(blk_cell KE.out 1).trans rfl;have ke2:w6.cell? ⟨ge,2,none⟩=some (.int .i64 dir):=(blk_cell KE.out 2).trans rfl)|(obtain ⟨w7,hrun,hown7,hgrow7⟩:=OW.out.update keyed9 Tryd.underlying72 (by have:=CN.out;have:=HIT.out;have:=MM.out;have:=HIN.out;have:=HJJ.out;unfold maxLen;omega) (key_ev OK.out) (evR_mk ⟨(op:Int),(of:Int),dir⟩);unfold evV at hrun;rw [hrun];simp only [Result.andThen,Oper.upon];have OW:=Aside0.mk hown7;have HB:=Aside0.mk (HB.out.grown hgrow7 HB.out.size (fun j hj=>by cases hj;exact Nat.le_of_eq GM.out.symm));clear hown7 hgrow7 hrun))
          all_goals
           go_wp2_with fail
           go_roundg go3
           case measure=>omega
           case rel=>exact ⟨j+1,congrArg (Value.int .i64) W8.out,⟨by have:=HJ.out;omega⟩,⟨_,cnt+1,by have:=CN.out;omega,OW.out,(KN.out.put OK.out (p2_put OK.out)).same (fun e=>by rw [show (((j+1:Nat):Int) - 1)=dir+1 by have:=HD.out;omega])⟩,HB⟩
         have hok':eventOk n l (op:Int) (of:Int) dir=false:=by simpa using hok
         have OK:=Aside0.mk hok'
         clear hok
         go_wp2_with (go_at_call 31;refine (ev_at _ _ _ OK.out HRX.out HC.out).mono ?_;rintro e w5 ⟨rfl,hb⟩;have OW:=Aside0.mk (map_nx OW.out hb);have HB:=Aside0.mk (below_step HB.out hb);clear hb)
         go_roundg go3
         case measure=>omega
         case rel=>exact ⟨j+1,congrArg (Value.int .i64) W8.out,⟨by have:=HJ.out;omega⟩,⟨_,cnt,by have:=CN.out;omega,OW.out,(KN.out.same (p2_skip OK.out)).same (fun e=>by rw [show (((j+1:Nat):Int) - 1)=dir+1 by have:=HD.out;omega])⟩,HB⟩
        have hj3:(j:Int) - 1=2:=by have:=HJ.out;omega
        rw [hj3] at HM ⊢
        have W36:=Aside0.mk (show wrap64 ((of:Int)+1)=((of+1:Nat):Int) from (wrap_id (by omega) (by have:=MM.out;have:=HIN.out;omega)).trans (by omega))
        have HJ3:=Aside0.mk hj3
        clear hj hj3
        go_wp2_with fail
        go_roundg go2
        case measure=>omega
        case rel=>exact ⟨of+1,congrArg (Value.int .i64) W36.out,⟨by have:=HY.out;omega⟩,⟨by obtain ⟨D,cnt,h1,h2,h3⟩:=HM.out;exact ⟨D,cnt,by have:=HJ3.out;omega,h2,h3.same (fun e=>by rw [show ((of+1:Nat):Int)=(of:Int)+1 by omega];exact p2_of e)⟩⟩,HB⟩
      have hin':decide ((of:Int)<(M:Int))=false:=decide_eq_false (by omega)
      have W6:=Aside0.mk (show wrap64 ((op:Int)+1)=((op+1:Nat):Int) from (wrap_id (by omega) (by have:=HIT.out;omega)).trans (by omega))
      have HYE:=Aside0.mk (show of=M by have:=HY.out;omega)
      go_wp2_with fail
      go_roundg go1
      case measure=>omega
      case rel=>exact ⟨op+1,by first|rfl|exact congrArg (Value.int .i64) W6.out,⟨by have:=HX.out;omega⟩,⟨by omega⟩,⟨by obtain ⟨D,cnt,h1,h2,h3⟩:=HM.out;exact ⟨D,cnt,by have:=HYE.out;have:=MM.out;omega,h2,h3.same (fun e=>by have:=p2_op (n:=n) (l:=l) (op:=(op:Int)) e;rw [MM.out.1,← HYE.out] at this;exact this)⟩⟩,HB⟩
    have hit':decide ((op:Int)≤5)=false:=decide_eq_false (by omega)
    have hop:(op:Int)=6:=by have:=HX.out;have:=HO1.out;omega
    obtain ⟨D,hown,hknown⟩:∃ D,(∃ cnt,wr.ownsMap Tryd.prog 9 evR gm cnt D)∧Known n l (OkE n l) D:=by
     obtain ⟨D,cnt,h1,h2,h3⟩:=HM.out
     rw [hop] at h3
     exact ⟨D,⟨cnt,h2⟩,h3.same p2_end⟩
    have OW:=Aside0.mk hown
    have KN:=Aside0.mk hknown
    have KH:=Aside0.mk (blk_below KH.out HB.out)
    have BB:=Aside0.mk (below_step B1.out HB.out)
    have HGE:=Aside0.mk (show w.heap.size≤gh by have h1:=EH.out;have h2:=BL.out.size;omega)
    clear hown hknown hop HM HB
    go_upto_region 20 with ((with_reducible refine gate_dst (N:=10) rfl ?_);refine box_event ?hg (N:=10) ?hd (cs:=#[.int .i64 0,.int .i64 0,.slice none 0 0]) (t:=39) ?hr ?_;(case hd=>rfl);(case hg=>rfl);(case hr=>first|(go_simp;done)|(go_simp;rfl));intro gq eq wq kq bq;have EQ:=Aside0.mk eq;have KQ:=Aside0.mk kq;have BQ:=Aside0.mk bq;clear eq kq bq;have kq0:wq.cell? ⟨gq,0,none⟩=some (.int .i64 0):=(blk_cell KQ.out 0).trans rfl;have zkq0:=blk_frozen KQ.out 0;have kq1:wq.cell? ⟨gq,1,none⟩=some (.int .i64 0):=(blk_cell KQ.out 1).trans rfl;have zkq1:=blk_frozen KQ.out 1;have kq2:wq.cell? ⟨gq,2,none⟩=some (.slice none 0 0):=(blk_cell KQ.out 2).trans rfl;have zkq2:=blk_frozen KQ.out 2)
    have FX:=Aside0.mk (fill3e (y0:=.int .i64 0) (y1:=.int .i64 0) (y2:=.slice none 0 0) KQ.out BQ.out (Nat.le_of_eq EQ.out.symm))
    have QGE:=Aside0.mk (show w.heap.size≤gq∧gh ≠ gq by have h1:=EQ.out;have h2:=blk_lt KH.out;have h3:=HGE.out;omega)
    clear kq0 zkq0 kq1 zkq1 kq2 zkq2 KQ BQ EQ hit hit'
    generalize (((wq.setCell ⟨gq,0,none⟩ (.int .i64 0)).setCell ⟨gq,1,none⟩ (.int .i64 0)).setCell ⟨gq,2,none⟩ (.slice none 0 0))=w4 at FX ⊢
    have ST:=Aside0.mk (RdSt.mk (wI:=w) (b0:=w4.heap.size) (gh:=gh) (gr:=gq) (gm:=gm) (D:=D) (v2:=.slice none 0 0) (out:=[]) (blk_below KH.out FX.out.1) FX.out.2 (by obtain ⟨cnt,ho⟩:=OW.out;exact ⟨cnt,map_nx ho FX.out.1⟩) (Kd.R_nil k52 52 w4 _ _) (below_step BB.out FX.out.1) (below_step BB.out FX.out.1).size (Nat.le_refl _) (blk_lt (blk_below KH.out FX.out.1)) (blk_lt FX.out.2) (by obtain ⟨cnt,ho⟩:=OW.out;exact (map_nx ho FX.out.1).lt) HGE.out QGE.out.1 QGE.out.2)
    clear FX HGE QGE KH BB OW
    go_wp2_with fail
    go_loopg [1,11] s.length (fun kq v1 v11 w'=>∃ (rest:List UInt8) (m:Nat) (out:List S52) (v2:Value),v1=.string (bs rest)∧v11=.int .i64 ((m:Int)+1)∧Aside0 (rest.length≤kq∧out.length=m∧m≤2000)∧Aside0 (rest.length≤20000)∧Aside0 (∃ f,rest.length≤f∧readE n l s=readGo n l f rest (m:Int) out)∧Aside0 (RdSt w w4.heap.size w' gh gq gm D v2 out))
    case atStart=>exact ⟨s,0,[],_,congrArg Value.string TX.out,rfl,⟨Nat.le_refl _,rfl,by omega⟩,HZ,⟨s.length,Nat.le_refl _,by rw [readE,if_pos HL.out,if_neg (by have:=HZ.out;omega)];rfl⟩,ST⟩
    case round =>
     clear ST
     obtain ⟨rest,m,out,v2,rfl,rfl,HX3,HRL,HF,ST⟩:=hrel
     by_cases hnil:rest=[]
     ·have hb:(bs rest != (⟨#[]⟩:ByteArray))=false:=by rw [hnil];rfl
      have HW:=Aside0.mk (show readE n l s=(0,0,out) by obtain ⟨f,_,hf⟩:=HF.out;rw [hf,hnil,readGo_nil])
      obtain ⟨A2,c2,rfl⟩:=Kd.R_slice ST.out.H2
      obtain ⟨a0,a1,a2,z0,z1,z2⟩:=ST.out.at_
      obtain ⟨x0,x1,x2,y0,y1,y2⟩:=ST.out.ath
      have KH:=Aside0.mk (blk_put (blk_put (blk_put ST.out.hh 0 (.int .i64 0) rfl) 1 (.int .i64 0) rfl) 2 (.slice A2 out.length c2) rfl)
      have HR1:=Aside0.mk (R_off (p:=⟨gh,2,none⟩) rfl (R_off (p:=⟨gh,1,none⟩) rfl (R_off (p:=⟨gh,0,none⟩) rfl ST.out.H2 (Kd.R_ne ST.out.H2 ST.out.hh (by decide)) (.int .i64 0)) (Kd.R_ne ST.out.H2 ST.out.hh (by decide)) (.int .i64 0)) (Kd.R_ne ST.out.H2 ST.out.hh (by decide)) (.slice A2 out.length c2))
      have HBB:=Aside0.mk (below_set (j:=2) (v:=.slice A2 out.length c2) (below_set (j:=1) (v:=.int .i64 0) (below_set (j:=0) (v:=.int .i64 0) ST.out.hB ST.out.hge) ST.out.hge) ST.out.hge)
      go_wp2_with fail
      exact bodyPost_ret (results_single rfl (Vals.cell gh 39 #[.int .i64 0,.int .i64 0,.slice A2 out.length c2] (0,0) _ rfl KH.out Tryd.underlying39 rfl (by kernel_rfl) Vals.nil)) rfl ⟨.slice A2 out.length c2,by rw [HW.out],by rw [HW.out];exact Kd.R_lower HR1.out ST.out.b1,HBB.out⟩
     obtain ⟨go1,rfl⟩:∃ g,gk=g+1:=⟨gk - 1,by have:=HX3.out;have:=List.length_pos_iff.2 hnil;omega⟩
     have hb:rest.isEmpty=false:=by simp [hnil]
     obtain ⟨k,hk1,hk2,hk3⟩:=read_round hnil KN.out
     obtain ⟨q,hq⟩:∃ q,q=Lib.indexByte rest 10:=⟨_,rfl⟩
     have IX:=Aside0.mk (show Lib.indexByte (bs rest).data.toList (10:Int).toNat.toUInt8=q from hq.symm)
     have hwk:wrap64 (q+1)=(k:Int):=by rw [hq,hk1];exact wrap_id (by omega) (by have:=HRL.out;omega)
     have K2:=Aside0.mk hk2
     have KX:=Aside0.mk (by rw [bs_take,List.drop_zero]:(bs rest).extract 0 k=bs (rest.take k))
     clear hq hk1
     rcases hk3 with ⟨hno,hgo⟩|⟨hk0,hyes,e,hat,hgo⟩
     ·obtain ⟨e,hrun,-⟩:=look_run ST.out.hm HRL.out hno
      have RUN:=Aside0.mk hrun
      have HW:=Aside0.mk (show readE n l s=(3,(m:Int)+1,[]) by obtain ⟨f,h1,h2⟩:=HF.out;rw [h2];exact hgo f m out h1)
      clear hno hgo hrun
      go_upto_region 25 with (first|(go_at_call 40;refine (Tryd.strings_IndexByte _ _ _).mono ?_;rintro e w8 ⟨rfl,rfl⟩;rw [IX.out])|(rw [RUN.out];simp only [Result.andThen,Oper.upon])|((with_reducible refine gate_dst (N:=13) rfl ?_);refine box_event ?hg (N:=13) ?hd (cs:=#[.int .i64 0,.int .i64 0,.int .i64 0]) (t:=52) ?hr ?_;(case hd=>rfl);(case hg=>rfl);(case hr=>first|(go_simp;done)|(go_simp;rfl));intro ge ee we ke be;have EE:=Aside0.mk ee;have KE:=Aside0.mk ke;have BE:=Aside0.mk be;clear ee ke be;have ke0:we.cell? ⟨ge,0,none⟩=some (.int .i64 0):=(blk_cell KE.out 0).trans rfl;have zke0:=blk_frozen KE.out 0;have ke1:we.cell? ⟨ge,1,none⟩=some (.int .i64 0):=(blk_cell KE.out 1).trans rfl;have zke1:=blk_frozen KE.out 1;have ke2:we.cell? ⟨ge,2,none⟩=some (.int .i64 0):=(blk_cell KE.out 2).trans rfl;have zke2:=blk_frozen KE.out 2))
      clear IX RUN KX
      have FX:=Aside0.mk (fill3e (y0:=.int .i64 e.f0) (y1:=.int .i64 e.f1) (y2:=.int .i64 e.f2) KE.out BE.out (Nat.le_of_eq EE.out.symm))
      clear ke0 zke0 ke1 zke1 ke2 zke2 KE BE EE
      generalize (((we.setCell ⟨ge,0,none⟩ (.int .i64 e.f0)).setCell ⟨ge,1,none⟩ (.int .i64 e.f1)).setCell ⟨ge,2,none⟩ (.int .i64 e.f2))=w9 at FX ⊢
      have ST:=Aside0.mk (ST.out.up FX.out.1)
      clear FX
      obtain ⟨x0,x1,x2,y0,y1,y2⟩:=ST.out.ath
      have KH:=Aside0.mk (blk_put (blk_put (blk_put ST.out.hh 0 (.int .i64 3) rfl) 1 (.int .i64 ((m:Int)+1)) rfl) 2 (.slice none 0 0) rfl)
      have HBB:=Aside0.mk (below_set (j:=2) (v:=.slice none 0 0) (below_set (j:=1) (v:=.int .i64 ((m:Int)+1)) (below_set (j:=0) (v:=.int .i64 3) ST.out.hB ST.out.hge) ST.out.hge) ST.out.hge)
      go_wp2_with fail
      exact bodyPost_ret (results_single rfl (Vals.cell gh 39 #[.int .i64 3,.int .i64 ((m:Int)+1),.slice none 0 0] (0,0) _ rfl KH.out Tryd.underlying39 rfl (by kernel_rfl) Vals.nil)) rfl ⟨.slice none 0 0,by rw [HW.out],by rw [HW.out];exact Kd.R_nil _ _ _ _ _,HBB.out⟩
     obtain ⟨e,hrun,hde⟩:=look_run ST.out.hm HRL.out hyes
     have he:e=_:=evD_inj (hde.trans hat)
     subst he
     have RUN:=Aside0.mk hrun
     have HK0:=Aside0.mk hk0
     by_cases hm2:m=2000
     ·have hm1:decide ((2000:Int)<(m:Int)+1)=true:=decide_eq_true (by omega)
      have HW:=Aside0.mk (show readE n l s=(3,(m:Int)+1,[]) by
       obtain ⟨f,h1,h2⟩:=HF.out
       have h3:=List.length_pos_iff.2 hnil
       obtain ⟨f,rfl⟩:∃ f',f=f'+1:=⟨f - 1,by omega⟩
       rw [h2,hgo f m out h1,if_pos (by rw [HX3.out.2.1];exact hm2)])
      clear hgo hrun hde hat hyes hk0 hm2
      go_upto_region 25 with (first|(go_at_call 40;refine (Tryd.strings_IndexByte _ _ _).mono ?_;rintro e w8 ⟨rfl,rfl⟩;rw [IX.out])|(rw [RUN.out];simp only [Result.andThen,Oper.upon])|((with_reducible refine gate_dst (N:=13) rfl ?_);refine box_event ?hg (N:=13) ?hd (cs:=#[.int .i64 0,.int .i64 0,.int .i64 0]) (t:=52) ?hr ?_;(case hd=>rfl);(case hg=>rfl);(case hr=>first|(go_simp;done)|(go_simp;rfl));intro ge ee we ke be;have EE:=Aside0.mk ee;have KE:=Aside0.mk ke;have BE:=Aside0.mk be;clear ee ke be;have ke0:we.cell? ⟨ge,0,none⟩=some (.int .i64 0):=(blk_cell KE.out 0).trans rfl;have zke0:=blk_frozen KE.out 0;have ke1:we.cell? ⟨ge,1,none⟩=some (.int .i64 0):=(blk_cell KE.out 1).trans rfl;have zke1:=blk_frozen KE.out 1;have ke2:we.cell? ⟨ge,2,none⟩=some (.int .i64 0):=(blk_cell KE.out 2).trans rfl;have zke2:=blk_frozen KE.out 2))
      clear IX RUN KX
      have FX:=Aside0.mk (fill3e (y0:=.int .i64 e.f0) (y1:=.int .i64 e.f1) (y2:=.int .i64 e.f2) KE.out BE.out (Nat.le_of_eq EE.out.symm))
      clear ke0 zke0 ke1 zke1 ke2 zke2 KE BE EE
      generalize (((we.setCell ⟨ge,0,none⟩ (.int .i64 e.f0)).setCell ⟨ge,1,none⟩ (.int .i64 e.f1)).setCell ⟨ge,2,none⟩ (.int .i64 e.f2))=w9 at FX ⊢
      have ST:=Aside0.mk (ST.out.up FX.out.1)
      clear FX
      obtain ⟨x0,x1,x2,y0,y1,y2⟩:=ST.out.ath
      have KH:=Aside0.mk (blk_put (blk_put (blk_put ST.out.hh 0 (.int .i64 3) rfl) 1 (.int .i64 ((m:Int)+1)) rfl) 2 (.slice none 0 0) rfl)
      have HBB:=Aside0.mk (below_set (j:=2) (v:=.slice none 0 0) (below_set (j:=1) (v:=.int .i64 ((m:Int)+1)) (below_set (j:=0) (v:=.int .i64 3) ST.out.hB ST.out.hge) ST.out.hge) ST.out.hge)
      go_wp2_with fail
      exact bodyPost_ret (results_single rfl (Vals.cell gh 39 #[.int .i64 3,.int .i64 ((m:Int)+1),.slice none 0 0] (0,0) _ rfl KH.out Tryd.underlying39 rfl (by kernel_rfl) Vals.nil)) rfl ⟨.slice none 0 0,by rw [HW.out],by rw [HW.out];exact Kd.R_nil _ _ _ _ _,HBB.out⟩
     have hm1:decide ((2000:Int)<(m:Int)+1)=false:=decide_eq_false (by have:=HX3.out;omega)
     have HM2:=Aside0.mk hm2
     have HF2:=Aside0.mk (show ∃ f,(rest.drop k).length≤f∧readE n l s=readGo n l f (rest.drop k) ((m+1:Nat):Int) (out ++ [e]) by
      obtain ⟨f,h1,h2⟩:=HF.out
      have h3:=List.length_pos_iff.2 hnil
      obtain ⟨f,rfl⟩:∃ f',f=f'+1:=⟨f - 1,by omega⟩
      exact ⟨f,by rw [List.length_drop];have:=HK0.out;omega,by rw [h2,hgo f m out h1,if_neg (by rw [HX3.out.2.1];exact hm2)];rfl⟩)
     have WM:=Aside0.mk (show wrap64 ((m:Int)+1+1)=((m+1:Nat):Int)+1 from (wrap_id (by omega) (by have:=HX3.out;omega)).trans (by omega))
     have KY:=Aside0.mk (show (bs rest).extract k rest.length=bs (rest.drop k) by rw [bs_take,List.take_length])
     clear hgo hrun hde hat hyes hk0 hm2
     go_upto_region 25 with (first|(go_at_call 40;refine (Tryd.strings_IndexByte _ _ _).mono ?_;rintro e w8 ⟨rfl,rfl⟩;rw [IX.out])|(rw [RUN.out];simp only [Result.andThen,Oper.upon])|((with_reducible refine gate_dst (N:=13) rfl ?_);refine box_event ?hg (N:=13) ?hd (cs:=#[.int .i64 0,.int .i64 0,.int .i64 0]) (t:=52) ?hr ?_;(case hd=>rfl);(case hg=>rfl);(case hr=>first|(go_simp;done)|(go_simp;rfl));intro ge ee we ke be;have EE:=Aside0.mk ee;have KE:=Aside0.mk ke;have BE:=Aside0.mk be;clear ee ke be;have ke0:we.cell? ⟨ge,0,none⟩=some (.int .i64 0):=(blk_cell KE.out 0).trans rfl;have zke0:=blk_frozen KE.out 0;have ke1:we.cell? ⟨ge,1,none⟩=some (.int .i64 0):=(blk_cell KE.out 1).trans rfl;have zke1:=blk_frozen KE.out 1;have ke2:we.cell? ⟨ge,2,none⟩=some (.int .i64 0):=(blk_cell KE.out 2).trans rfl;have zke2:=blk_frozen KE.out 2))
     clear IX RUN KX
     have FX:=Aside0.mk (fill3e (y0:=.int .i64 e.f0) (y1:=.int .i64 e.f1) (y2:=.int .i64 e.f2) KE.out BE.out (Nat.le_of_eq EE.out.symm))
     clear ke0 zke0 ke1 zke1 ke2 zke2 KE BE EE
     generalize (((we.setCell ⟨ge,0,none⟩ (.int .i64 e.f0)).setCell ⟨ge,1,none⟩ (.int .i64 e.f1)).setCell ⟨ge,2,none⟩ (.int .i64 e.f2))=w9 at FX ⊢
     have ST:=Aside0.mk (ST.out.up FX.out.1)
     have KE:=Aside0.mk FX.out.2
     clear FX
     have ke0:w9.cell? ⟨ge,0,none⟩=some (.int .i64 e.f0):=(blk_cell KE.out 0).trans rfl
     have ke1:w9.cell? ⟨ge,1,none⟩=some (.int .i64 e.f1):=(blk_cell KE.out 1).trans rfl
     have ke2:w9.cell? ⟨ge,2,none⟩=some (.int .i64 e.f2):=(blk_cell KE.out 2).trans rfl
     obtain ⟨a0,a1,a2,z0,z1,z2⟩:=ST.out.at_
     go_upto_region 28 with (at_builtin;refine Kd.R_append k52 (w0:=w9) w4.heap.size rfl (.tmp 80) (.tmp 82) 33 52 (.agg #[.int .i64 0,.int .i64 0,.int .i64 0]) 24 rfl Tryd.underlying33 info52 rfl (by decide) (by decide) v2 out e [.int .i64 e.f0,.int .i64 e.f1,.int .i64 e.f2] (fun _=>True) (fun _=>False) rfl rfl (k52_mkM _ _ _ e) (fun k hk=>hk.elim) (fun _ _=>trivial) ST.out.H2 (Below.refl _ _) ST.out.b2 (by have:=HX3.out;omega) ?_;intro vn wn hsn hbn hgn _;obtain ⟨An,cn,rfl⟩:=Kd.R_slice hsn;rw [List.length_append,List.length_singleton] at hsn ⊢;have HP1:=Aside0.mk (ST.out.grn hgn);have SN:=Aside0.mk (ST.out.app hsn hgn);have aN:wn.cell? ⟨gq,2,none⟩=some v2:=(blk_cell HP1.out 2).trans rfl;have zN:=blk_frozen HP1.out 2;clear hsn hbn hgn a0 a1 a2 z0 z1 z2 ke0 ke1 ke2)
     clear aN zN HP1 KE
     generalize wn.setCell ⟨gq,2,none⟩ (.slice An (out.length+1) cn)=w5 at SN ⊢
     go_wp2_with fail
     go_roundg go1
     case measure=>omega
     case rel=>exact ⟨rest.drop k,m+1,out ++ [e],_,congrArg Value.string KY.out,congrArg (Value.int .i64) WM.out,⟨by have:=HX3.out;rw [List.length_drop];have:=HK0.out;omega,by rw [List.length_append,List.length_singleton,HX3.out.2.1],by have:=HX3.out;have:=HM2.out;omega⟩,⟨by rw [List.length_drop];have:=HRL.out;omega⟩,HF2,SN⟩
  have hz1:decide (20000<(tx.size:Int))=true:=decide_eq_true (by rw [TS.out];omega)
  have HL:=Aside0.mk hl
  have HW:=Aside0.mk (show readE n l s=(2,0,[]) by rw [readE,if_pos hl,if_pos (by omega)])
  clear hl hz
  go_enter Tryd.func16,Tryd.ntmps16
  go_upto_region 1 with (first|((with_reducible refine gate_dst (N:=2) rfl ?_);refine box_event ?hg (N:=2) ?hd (cs:=#[.int .i64 n,.slice A l.length c]) (t:=31) ?hr ?_;(case hd=>rfl);(case hg=>rfl);(case hr=>first|(go_simp;done)|(go_simp;rfl));intro gl el wl kl bl;have EL:=Aside0.mk el;have KL:=Aside0.mk kl;have BL:=Aside0.mk bl;clear el kl bl;have kl0:wl.cell? ⟨gl,0,none⟩=some (.int .i64 n):=(blk_cell KL.out 0).trans rfl;have zkl0:=blk_frozen KL.out 0;have kl1:wl.cell? ⟨gl,1,none⟩=some (.slice A l.length c):=(blk_cell KL.out 1).trans rfl;have zkl1:=blk_frozen KL.out 1)|((with_reducible refine gate_dst (N:=4) rfl ?_);refine box_event ?hg (N:=4) ?hd (cs:=#[.int .i64 0,.int .i64 0,.slice none 0 0]) (t:=39) ?hr ?_;(case hd=>rfl);(case hg=>rfl);(case hr=>first|(go_simp;done)|(go_simp;rfl));intro gh eh wh kh bh;have EH:=Aside0.mk eh;have KH:=Aside0.mk kh;have BH:=Aside0.mk bh;clear eh kh bh;have kh0:wh.cell? ⟨gh,0,none⟩=some (.int .i64 0):=(blk_cell KH.out 0).trans rfl;have zkh0:=blk_frozen KH.out 0;have kh1:wh.cell? ⟨gh,1,none⟩=some (.int .i64 0):=(blk_cell KH.out 1).trans rfl;have zkh1:=blk_frozen KH.out 1;have kh2:wh.cell? ⟨gh,2,none⟩=some (.slice none 0 0):=(blk_cell KH.out 2).trans rfl;have zkh2:=blk_frozen KH.out 2))
  clear kl0 zkl0 kl1 zkl1
  have KL:=Aside0.mk (blk_below KL.out BH.out)
  have kl0:wh.cell? ⟨gl,0,none⟩=some (.int .i64 n):=(blk_cell KL.out 0).trans rfl
  have zkl0:=blk_frozen KL.out 0
  have kl1:wh.cell? ⟨gl,1,none⟩=some (.slice A l.length c):=(blk_cell KL.out 1).trans rfl
  have zkl1:=blk_frozen KL.out 1
  go_wp2_with (go_at_call 30;refine (lay_at HL.out (Kd.C_below HR.out (below_step BL.out BH.out)) HC.out).mono ?_;rintro e w1 ⟨rfl,hb⟩;have KL:=Aside0.mk (blk_below KL.out hb);have KH:=Aside0.mk (blk_below KH.out hb);have B1:=Aside0.mk (below_step (below_step BL.out BH.out) hb);clear hb kl0 zkl0 kl1 zkl1 kh0 zkh0 kh1 zkh1 kh2 zkh2;have kh0:w1.cell? ⟨gh,0,none⟩=some (.int .i64 0):=(blk_cell KH.out 0).trans rfl;have zkh0:=blk_frozen KH.out 0;have kh1:w1.cell? ⟨gh,1,none⟩=some (.int .i64 0):=(blk_cell KH.out 1).trans rfl;have zkh1:=blk_frozen KH.out 1;have kh2:w1.cell? ⟨gh,2,none⟩=some (.slice none 0 0):=(blk_cell KH.out 2).trans rfl;have zkh2:=blk_frozen KH.out 2)
  have FX:=fill3e (w:=w) (y0:=.int .i64 2) (y1:=.int .i64 0) (y2:=.slice none 0 0) KH.out B1.out (by rw [EH.out];exact BL.out.size)
  exact bodyPost_ret (results_single rfl (Vals.cell gh 39 #[.int .i64 2,.int .i64 0,.slice none 0 0] (0,0) _ rfl FX.2 Tryd.underlying39 rfl (by kernel_rfl) Vals.nil)) rfl ⟨.slice none 0 0,by rw [HW.out],by rw [HW.out];exact Kd.R_nil _ _ _ _ _,FX.1⟩
 have HW:=Aside0.mk (show readE n l s=(1,0,[]) by rw [readE,if_neg hl])
 obtain ⟨q,hq⟩:∃ q,layoutOk n l=q:=⟨_,rfl⟩
 have HQ:=Aside0.mk hq
 rw [hq] at hl
 have hl1:(q != 0)=true:=by simp [hl]
 go_enter Tryd.func16,Tryd.ntmps16
 go_upto_region 1 with (first|((with_reducible refine gate_dst (N:=2) rfl ?_);refine box_event ?hg (N:=2) ?hd (cs:=#[.int .i64 n,.slice A l.length c]) (t:=31) ?hr ?_;(case hd=>rfl);(case hg=>rfl);(case hr=>first|(go_simp;done)|(go_simp;rfl));intro gl el wl kl bl;have EL:=Aside0.mk el;have KL:=Aside0.mk kl;have BL:=Aside0.mk bl;clear el kl bl;have kl0:wl.cell? ⟨gl,0,none⟩=some (.int .i64 n):=(blk_cell KL.out 0).trans rfl;have zkl0:=blk_frozen KL.out 0;have kl1:wl.cell? ⟨gl,1,none⟩=some (.slice A l.length c):=(blk_cell KL.out 1).trans rfl;have zkl1:=blk_frozen KL.out 1)|((with_reducible refine gate_dst (N:=4) rfl ?_);refine box_event ?hg (N:=4) ?hd (cs:=#[.int .i64 0,.int .i64 0,.slice none 0 0]) (t:=39) ?hr ?_;(case hd=>rfl);(case hg=>rfl);(case hr=>first|(go_simp;done)|(go_simp;rfl));intro gh eh wh kh bh;have EH:=Aside0.mk eh;have KH:=Aside0.mk kh;have BH:=Aside0.mk bh;clear eh kh bh;have kh0:wh.cell? ⟨gh,0,none⟩=some (.int .i64 0):=(blk_cell KH.out 0).trans rfl;have zkh0:=blk_frozen KH.out 0;have kh1:wh.cell? ⟨gh,1,none⟩=some (.int .i64 0):=(blk_cell KH.out 1).trans rfl;have zkh1:=blk_frozen KH.out 1;have kh2:wh.cell? ⟨gh,2,none⟩=some (.slice none 0 0):=(blk_cell KH.out 2).trans rfl;have zkh2:=blk_frozen KH.out 2))
 clear kl0 zkl0 kl1 zkl1
 have KL:=Aside0.mk (blk_below KL.out BH.out)
 have kl0:wh.cell? ⟨gl,0,none⟩=some (.int .i64 n):=(blk_cell KL.out 0).trans rfl
 have zkl0:=blk_frozen KL.out 0
 have kl1:wh.cell? ⟨gl,1,none⟩=some (.slice A l.length c):=(blk_cell KL.out 1).trans rfl
 have zkl1:=blk_frozen KL.out 1
 go_wp2_with (go_at_call 30;refine (lay_at HQ.out (Kd.C_below HR.out (below_step BL.out BH.out)) HC.out).mono ?_;rintro e w1 ⟨rfl,hb⟩;have KL:=Aside0.mk (blk_below KL.out hb);have KH:=Aside0.mk (blk_below KH.out hb);have B1:=Aside0.mk (below_step (below_step BL.out BH.out) hb);clear hb kl0 zkl0 kl1 zkl1 kh0 zkh0 kh1 zkh1 kh2 zkh2;have kh0:w1.cell? ⟨gh,0,none⟩=some (.int .i64 0):=(blk_cell KH.out 0).trans rfl;have zkh0:=blk_frozen KH.out 0;have kh1:w1.cell? ⟨gh,1,none⟩=some (.int .i64 0):=(blk_cell KH.out 1).trans rfl;have zkh1:=blk_frozen KH.out 1;have kh2:w1.cell? ⟨gh,2,none⟩=some (.slice none 0 0):=(blk_cell KH.out 2).trans rfl;have zkh2:=blk_frozen KH.out 2)
 have FX:=fill3e (w:=w) (y0:=.int .i64 1) (y1:=.int .i64 0) (y2:=.slice none 0 0) KH.out B1.out (by rw [EH.out];exact BL.out.size)
 exact bodyPost_ret (results_single rfl (Vals.cell gh 39 #[.int .i64 1,.int .i64 0,.slice none 0 0] (0,0) _ rfl FX.2 Tryd.underlying39 rfl (by kernel_rfl) Vals.nil)) rfl ⟨.slice none 0 0,by rw [HW.out],by rw [HW.out];exact Kd.R_nil _ _ _ _ _,FX.1⟩
theorem bs_data (tx:ByteArray):tx=bs tx.data.toList:=by cases tx;rfl
end Go.Proofs.YtpdnabhpkdchjaaDoor.P
