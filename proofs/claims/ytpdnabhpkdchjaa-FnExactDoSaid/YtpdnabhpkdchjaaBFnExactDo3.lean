/- The statement FnExactDo holds of the given program, for every argument; there are no conditions. (Part 3 of 6.) -/
import Derived.Test.YtpdnabhpkdchjaaBFnExactDo2
import Derived.Lib.SliceRun
namespace Go.Proofs.Ytpdnabhpkdchjaa.P
open Go.RowKit Go.Proofs.YtpdnabhpkdchjaaW.PrintWords Go.Proofs.YtpdnabhpkdchjaaW.PrintLast Go.Proofs.YtpdnabhpkdchjaaW.PrintMore
attribute [local go_sem] max2_int min2_int max_two min_two max_three min_three max_four min_four
set_option linter.unusedVariables false
set_option linter.unusedSimpArgs false
mutual
def spec_Around.j0:Nat→Int→Bool→Int→List (S88)→Option (List Int)
 | 0,_,_,_,_=>none
 | k+1,x1,x18,x224000,x224001=>if x18=true then (some ([]:List Int)) else (spec_Around.l0 k x1 ([]:List Int) x224001 (x224001.length:Int) 0)
def spec_Around.l0:Nat→Int→List Int→List (S88)→Int→Int→Option (List Int)
 | 0,_,_,_,_,_=>none
 | k+1,x1,x5,x20,x21,x22=>if x22<x21 then (if 0≤x22 then (if x22<(x20.length:Int) then (if ((rd_T88 x20 x22).f0)=x1 then (if x5.length<17592186044416 then (spec_Around.l0 k x1 (x5 ++ [x22]) x20 x21 (wrap64 (x22+1))) else (none)) else (if ((rd_T88 x20 x22).f1)=x1 then (if x5.length<17592186044416 then (spec_Around.l0 k x1 (x5 ++ [x22]) x20 x21 (wrap64 (x22+1))) else (none)) else (spec_Around.l0 k x1 x5 x20 x21 (wrap64 (x22+1))))) else (none)) else (none)) else (some x5)
end
def spec_Around.f (k:Nat) (a0_0:Int) (l0_1:List (S88)) (a1:Int):Option (List Int):=(spec_LayoutOk.f k a0_0 l0_1).bind fun t224=>(if t224=0 then ((spec_l1in.f a1 0 (wrap64 (a0_0 - 1))).bind fun t225=>(spec_Around.j0 k a1 (!t225) a0_0 l0_1)) else (spec_Around.j0 k a1 true a0_0 l0_1))
set_option maxHeartbeats 8000000 in
set_option maxRecDepth 100000 in
theorem spec_Around.calls (k:Nat) (a0_0:Int) (A0_1:Option Addr) (c0_1:Nat) (l0_1:List (S88)) (a1:Int) (r:List Int) (w:World) (hr0_1:Kd.C k88 w A0_1 l0_1.length l0_1) (hc0_1:l0_1.length≤c0_1) (h:spec_Around.f k a0_0 l0_1 a1=some r) :
  Calls Try.prog 37 #[.agg #[.int .i64 a0_0,.slice A0_1 l0_1.length c0_1],.int .i64 a1] w fun e w'=>∃ v0_:Value,e=.returned (v0_)∧Kd.R (Kd.int .i64) 3 w' w.heap.size (fun _=>True) v0_ r∧Below w.heap.size w w':=by
 have hu30:=Try.underlying30
 have hu88:=Try.underlying88
 have HR0_1:=Aside0.mk hr0_1
 have HC0_1:=Aside0.mk hc0_1
 clear hr0_1 hc0_1
 have HB:=Aside0.mk (Below.refl w.heap.size w)
 have H:((spec_LayoutOk.f k a0_0 l0_1).bind fun t224=>(if t224=0 then ((spec_l1in.f a1 0 (wrap64 (a0_0 - 1))).bind fun t225=>(spec_Around.j0 k a1 (!t225) a0_0 l0_1)) else (spec_Around.j0 k a1 true a0_0 l0_1)))=some r:=h
 clear h
 have HC3:=Aside0.mk H
 clear H
 go_enter Try.func37,Try.ntmps37
 go_upto_region 1 with (first|((with_reducible refine gate_dst (N:=2) rfl ?_);refine box_event ?hg (N:=2) ?hd (cs:=#[.int .i64 a0_0,.slice A0_1 l0_1.length c0_1]) (t:=30) ?hr ?_;(case hd=>rfl);(case hg=>rfl);(case hr=>first|(go_simp;done)|(go_simp;rfl));intro gb223 hg w4 hbox hb;have n0_:=Aside0.mk (below_step (by exact HB.out) hb);have n1_:=Aside0.mk (hbox);have n2_:=Aside0.mk ((by rw [hg];exact (below_size (by exact HB.out)):w.heap.size≤gb223));have n3_:=Aside0.mk ((by rw [hg];exact (below_size (by exact HB.out)):w.heap.size≤gb223));clear HB;have HB:=n0_;have BK223:=n1_;have GW223:=n2_;have GE223:=n3_;clear n0_ n1_ n2_ n3_;clear hb hbox hg))
 (try simp only [Act.put,List.setIfInBounds_toArray,List.set_cons_zero,List.set_cons_succ])
 go_cut [18] (fun v18 wc=>∃ (kq:Nat) (x18_2:Bool),v18=.bool x18_2∧Aside0 (spec_Around.j0 kq a1 x18_2 a0_0 l0_1=some r)∧Aside0 (kq≤k)∧Aside0 (wc.heap[gb223]?=some (.cells #[.int .i64 a0_0,(.slice A0_1 l0_1.length c0_1)] 30 (0,0)))∧Aside0 (Below w.heap.size w wc))
 case first =>
  have H:=HC3.out
  clear HC3
  replace H:=Option.bind_eq_some_iff.mp H
  obtain ⟨t224,A50,H⟩:=H
  replace H:(if t224=0 then ((spec_l1in.f a1 0 (wrap64 (a0_0 - 1))).bind fun t225=>(spec_Around.j0 k a1 (!t225) a0_0 l0_1)) else (spec_Around.j0 k a1 true a0_0 l0_1))=some r:=H
  have A5:=Aside0.mk A50
  clear A50
  by_cases c6:t224=0
  ·rw [if_pos c6] at H
   have c6b0:(t224==0)=true:=beq_iff_eq.mpr c6
   have c6b1:(t224 != 0)=false:=bne_eq_false_iff_eq.mpr c6
   clear c6
   (first|rw [c6b0]|(simp only [i64_w,i32_w];rw [c6b0])|skip)
   replace H:=Option.bind_eq_some_iff.mp H
   obtain ⟨t225,A70,H⟩:=H
   replace H:(spec_Around.j0 k a1 (!t225) a0_0 l0_1)=some r:=H
   have A7:=Aside0.mk A70
   clear A70
   have H':=Aside0.mk H
   clear H
   have hcz8_0:w4.cell? ⟨gb223,0,none⟩=some (.int .i64 a0_0):=(blk_cell BK223.out 0).trans rfl
   have hcz8_1:w4.cell? ⟨gb223,1,none⟩=some (.slice A0_1 l0_1.length c0_1):=(blk_cell BK223.out 1).trans rfl
   have hfz8_0:=blk_frozen BK223.out 0
   have hfz8_1:=blk_frozen BK223.out 1
   go_wp2_with (first|((with_reducible refine gate_callee (f:=23) rfl ?_);refine goesL_ (some 9) rfl rfl Try.func23 (by kernel_rfl) rfl #[.agg #[.int .i64 a0_0,.slice A0_1 l0_1.length c0_1]] rfl (by (try simp only [List.map_toArray,List.map_cons,List.map_nil]);first|done|rfl|(simp only [List.length_drop,List.length_take];rfl)) ?_;(with_reducible refine (spec_LayoutOk.calls k a0_0 _ _ l0_1 t224 _ ?side1 ?side2 A5.out).mono ?_);(case side1=>repeat (first|exact (Kd.C_below HR0_1.out HB.out)|(with_reducible refine Kd.C_alloc ?_ _)|(with_reducible refine Kd.C_drewN ?_ _)|(with_reducible refine Kd.C_drew ?_)));(case side2=>exact HC0_1.out);rintro e w9 ⟨rfl,hb⟩;refine ⟨_,rfl,?_⟩;have n0_:=Aside0.mk (blk_below (g:=gb223) (o:=.cells #[.int .i64 a0_0,.slice A0_1 l0_1.length c0_1] 30 (0,0)) (by exact BK223.out) hb);have n1_:=Aside0.mk (below_step (by exact HB.out) hb);clear BK223;clear HB;have BK223:=n0_;have HB:=n1_;clear n0_ n1_;(try clear hb);(try clear hb2);(try clear hk);(try clear hi);have hcz10_0:w9.cell? ⟨gb223,0,none⟩=some (.int .i64 a0_0):=(blk_cell BK223.out 0).trans rfl;have hcz10_1:w9.cell? ⟨gb223,1,none⟩=some (.slice A0_1 l0_1.length c0_1):=(blk_cell BK223.out 1).trans rfl;have hfz10_0:=blk_frozen BK223.out 0;have hfz10_1:=blk_frozen BK223.out 1)|(go_at_call 87;(with_reducible refine (spec_l1in.calls a1 0 (wrap64 (a0_0 - 1)) t225 _ A7.out).mono ?_);rintro e w' ⟨rfl,⟨nd,rfl⟩⟩))
   go_meet
   case rel=>exact ⟨_,(!t225),(by first|rfl|(simp;done)|(simp [*];done)),H',⟨by first|omega|exact Nat.le_refl _⟩,⟨by exact BK223.out⟩,⟨by repeat (first|(with_reducible first|exact HB.out|apply below_alloc|apply pw_below_drewN|apply below_drew1|refine below_set ?_ GE223.out)|exact HB.out)⟩⟩
  rw [if_neg c6] at H
  have c6b0:(t224==0)=false:=beq_eq_false_iff_ne.mpr c6
  have c6b1:(t224 != 0)=true:=bne_iff_ne.mpr c6
  (first|rw [c6b0]|(simp only [i64_w,i32_w];rw [c6b0])|skip)
  have H':=Aside0.mk H
  clear H
  have hcz11_0:w4.cell? ⟨gb223,0,none⟩=some (.int .i64 a0_0):=(blk_cell BK223.out 0).trans rfl
  have hcz11_1:w4.cell? ⟨gb223,1,none⟩=some (.slice A0_1 l0_1.length c0_1):=(blk_cell BK223.out 1).trans rfl
  have hfz11_0:=blk_frozen BK223.out 0
  have hfz11_1:=blk_frozen BK223.out 1
  go_wp2_with (first|((with_reducible refine gate_callee (f:=23) rfl ?_);refine goesL_ (some 9) rfl rfl Try.func23 (by kernel_rfl) rfl #[.agg #[.int .i64 a0_0,.slice A0_1 l0_1.length c0_1]] rfl (by (try simp only [List.map_toArray,List.map_cons,List.map_nil]);first|done|rfl|(simp only [List.length_drop,List.length_take];rfl)) ?_;(with_reducible refine (spec_LayoutOk.calls k a0_0 _ _ l0_1 t224 _ ?side1 ?side2 A5.out).mono ?_);(case side1=>repeat (first|exact (Kd.C_below HR0_1.out HB.out)|(with_reducible refine Kd.C_alloc ?_ _)|(with_reducible refine Kd.C_drewN ?_ _)|(with_reducible refine Kd.C_drew ?_)));(case side2=>exact HC0_1.out);rintro e w12 ⟨rfl,hb⟩;refine ⟨_,rfl,?_⟩;have n0_:=Aside0.mk (blk_below (g:=gb223) (o:=.cells #[.int .i64 a0_0,.slice A0_1 l0_1.length c0_1] 30 (0,0)) (by exact BK223.out) hb);have n1_:=Aside0.mk (below_step (by exact HB.out) hb);clear BK223;clear HB;have BK223:=n0_;have HB:=n1_;clear n0_ n1_;(try clear hb);(try clear hb2);(try clear hk);(try clear hi)))
  go_meet
  case rel=>exact ⟨_,(true),(by first|rfl|(simp;done)|(simp [*];done)),H',⟨by first|omega|exact Nat.le_refl _⟩,⟨by exact BK223.out⟩,⟨by exact HB.out⟩⟩
 case rest =>
  clear HC3
  try clear c2
  try clear p2
  try clear c3
  try clear c6
  try clear c6b0
  try clear c6b1
  try clear p6
  try clear hcz10_0
  try clear hcz10_1
  try clear hcz11_0
  try clear hcz11_1
  try clear hcz8_0
  try clear hcz8_1
  try clear hfz10_0
  try clear hfz10_1
  try clear hfz11_0
  try clear hfz11_1
  try clear hfz8_0
  try clear hfz8_1
  obtain ⟨kq,x18_2,rfl,HA,HJ2,BK223,HB⟩:=hcut
  cases kq with
  | zero=>exact absurd HA.out (by simp [spec_Around.j0])
  | succ kj2 =>
   have H:=HA.out
   clear HA
   simp only [spec_Around.j0] at H
   by_cases c13:x18_2=true
   ·subst c13
    have H1:(some ([]:List Int))=some r:=by rw [if_pos rfl] at H;exact H
    clear H
    have H:=H1
    clear H1
    obtain rfl:=Option.some.inj H
    go_wp2
    go_ret
    exact ⟨_,by first|rfl|(simp [errW_none,errW_some] <;> rfl)|(simp [*,errW_none,errW_some] <;> rfl),by first|exact Kd.R_nil _ _ _ _ _|exact Kd.N_nil _ _ _ _ _|exact Kd.V_nil _ _ _ _ _|exact Kd.Q_nil _ _ _ _ _|exact Kd.S_nil _ _ _ _ _,by exact HB.out⟩
   replace c13:=Bool.eq_false_iff.mpr c13
   subst c13
   have H1:(spec_Around.l0 kj2 a1 ([]:List Int) l0_1 (l0_1.length:Int) 0)=some r:=by rw [if_neg (show ¬ (false=true) by decide)] at H;exact H
   clear H
   have H:=H1
   clear H1
   have H':=Aside0.mk H
   clear H
   have hcz14_0:wc.cell? ⟨gb223,0,none⟩=some (.int .i64 a0_0):=(blk_cell BK223.out 0).trans rfl
   have hcz14_1:wc.cell? ⟨gb223,1,none⟩=some (.slice A0_1 l0_1.length c0_1):=(blk_cell BK223.out 1).trans rfl
   have hfz14_0:=blk_frozen BK223.out 0
   have hfz14_1:=blk_frozen BK223.out 1
   go_wp2
   go_loopg [5,22] kj2 (fun kq v5 v22 w'=>∃ (x5_2:List Int) (x22_2:Int),v22=.int .i64 x22_2∧Aside0 (spec_Around.l0 kq a1 x5_2 l0_1 (l0_1.length:Int) x22_2=some r)∧Aside0 (kq≤kj2)∧Aside0 (Kd.R (Kd.int .i64) 3 w' w.heap.size (fun _=>True) v5 x5_2)∧Aside0 (w'.heap[gb223]?=some (.cells #[.int .i64 a0_0,(.slice A0_1 l0_1.length c0_1)] 30 (0,0)))∧Aside0 (Below w.heap.size w w'))
   case atStart=>exact ⟨(([]:List Int)),(0),(by first|rfl|(simp;done)|(simp [*];done)),H',⟨Nat.le_refl _⟩,⟨by first|exact Kd.R_nil _ _ _ _ _|exact Kd.N_nil _ _ _ _ _|exact Kd.V_nil _ _ _ _ _|exact Kd.Q_nil _ _ _ _ _|exact Kd.S_nil _ _ _ _ _⟩,⟨by exact BK223.out⟩,⟨by exact HB.out⟩⟩
   case round =>
    clear H'
    try clear c1
    try clear c2
    try clear p2
    try clear c3
    try clear c6
    try clear c6b0
    try clear c6b1
    try clear p6
    try clear c13
    try clear hcz10_0
    try clear hcz10_1
    try clear hcz11_0
    try clear hcz11_1
    try clear hcz14_0
    try clear hcz14_1
    try clear hcz8_0
    try clear hcz8_1
    try clear hfz10_0
    try clear hfz10_1
    try clear hfz11_0
    try clear hfz11_1
    try clear hfz14_0
    try clear hfz14_1
    try clear hfz8_0
    try clear hfz8_1
    try clear p2
    try clear p6
    obtain ⟨x5_2,x22_2,rfl,HA,HK2,HO_5,BK223,HB⟩:=hrel
    cases gk with
    | zero=>exact absurd HA.out (by simp [spec_Around.l0])
    | succ k2 =>
     have H:=HA.out
     clear HA
     simp only [spec_Around.l0] at H
     by_cases c15:x22_2<(l0_1.length:Int)
     ·rw [if_pos c15] at H
      have c15b0:decide (x22_2<(l0_1.length:Int))=true:=decide_eq_true c15
      clear c15
      by_cases c16:0≤x22_2
      ·rw [if_pos c16] at H
       have c16b0:decide (0≤x22_2)=true:=decide_eq_true c16
       clear c16
       by_cases c17:x22_2<(l0_1.length:Int)
       ·rw [if_pos c17] at H
        have c17b0:decide (x22_2<(l0_1.length:Int))=true:=decide_eq_true c17
        clear c17
        by_cases c18:((rd_T88 l0_1 x22_2).f0)=a1
        ·rw [if_pos c18] at H
         have c18b0:(((rd_T88 l0_1 x22_2).f0)==a1)=true:=beq_iff_eq.mpr c18
         have c18b1:(((rd_T88 l0_1 x22_2).f0) != a1)=false:=bne_eq_false_iff_eq.mpr c18
         clear c18
         by_cases c19:x5_2.length<17592186044416
         ·rw [if_pos c19] at H
          have LMc19:=Aside0.mk c19
          clear c19
          obtain ⟨y228,hy228⟩:∃ y_:List Int,y_=(x5_2 ++ [x22_2]):=⟨_,rfl⟩
          replace H:(spec_Around.l0 k2 a1 y228 l0_1 (l0_1.length:Int) (wrap64 (x22_2+1)))=some r:=by first|(rw [hy228];with_reducible exact H)|(have H2_:=(Option.bind_some _ _).symm.trans H;rw [hy228];with_reducible exact H2_)|(have H2_:=(Option.bind_some _ _).symm.trans H;with_reducible exact H2_)|with_reducible exact H|(rw [hy228];exact H)|exact H
          have Ny228:=Aside0.mk hy228
          clear hy228
          have H':=Aside0.mk H
          clear H
          have p226:0≤(x22_2:Int):=of_decide_eq_true (by first|(with_reducible assumption)|assumption)
          have q226:x22_2<(l0_1.length:Int):=of_decide_eq_true (by first|(with_reducible assumption)|assumption)
          obtain ⟨ad226,e226,hx226_0,hx226_1⟩:=at_T88 HR0_1.out x22_2 p226 q226
          cases e226
          replace hx226_0:=(HB.out.cell (World.block_lt_of_cell? w _ hx226_0)).trans hx226_0
          replace hx226_1:=(HB.out.cell (World.block_lt_of_cell? w _ hx226_1)).trans hx226_1
          replace p226:=eq_true p226
          replace q226:=eq_true q226
          go_wp2_with (first|((with_reducible refine gate_dst (N:=7) rfl ?_);refine box_event ?hg (N:=7) ?hd (cs:=#[.int .i64 0,.int .i64 0]) (t:=88) ?hr ?_;(case hd=>rfl);(case hg=>rfl);(case hr=>first|(go_simp;done)|(go_simp;rfl));intro gb227 hg w20 hbox hb;have n0_:=Aside0.mk (Kd.R_below (by exact HO_5.out) hb);have n1_:=Aside0.mk (blk_below (g:=gb223) (o:=.cells #[.int .i64 a0_0,.slice (some ad226) l0_1.length c0_1] 30 (0,0)) (by exact BK223.out) hb);have n2_:=Aside0.mk (below_step (by exact HB.out) hb);have n3_:=Aside0.mk (hbox);have n4_:=Aside0.mk ((by rw [hg];exact (below_size (by exact HB.out)):w.heap.size≤gb227));have n5_:=Aside0.mk ((by rw [hg];exact (below_size (by repeat (first|(with_reducible first|exact HB.out|apply below_alloc|apply pw_below_drewN|apply below_drew1|refine below_set ?_ GE223.out)|exact HB.out))):w.heap.size≤gb227));have n6_:=Aside0.mk ((by rw [hg];exact Nat.ne_of_lt (blk_lt (g:=gb223) (o:=.cells #[.int .i64 a0_0,.slice (some ad226) l0_1.length c0_1] 30 (0,0)) (by (with_reducible repeat (first|refine blk_drewN ?_ _|refine blk_drew ?_|refine blk_alloc ?_ _));exact BK223.out)):gb223 ≠ gb227));have n7_:=Aside0.mk ((by rw [hg];exact Nat.ne_of_gt (blk_lt (g:=gb223) (o:=.cells #[.int .i64 a0_0,.slice (some ad226) l0_1.length c0_1] 30 (0,0)) (by (with_reducible repeat (first|refine blk_drewN ?_ _|refine blk_drew ?_|refine blk_alloc ?_ _));exact BK223.out)):gb227 ≠ gb223));clear HO_5;clear BK223;clear HB;have HO_5:=n0_;have BK223:=n1_;have HB:=n2_;have BK227:=n3_;have GW227:=n4_;have GE227:=n5_;have NB223_227:=n6_;have NB227_223:=n7_;clear n0_ n1_ n2_ n3_ n4_ n5_ n6_ n7_;clear hb hbox hg;have hnb21:=NB227_223.out;have hnc21:=NB223_227.out;have hcz22_0:w20.cell? ⟨gb227,0,none⟩=some (.int .i64 0):=(blk_cell BK227.out 0).trans rfl;have hcz22_1:w20.cell? ⟨gb227,1,none⟩=some (.int .i64 0):=(blk_cell BK227.out 1).trans rfl;have hfz22_0:=blk_frozen BK227.out 0;have hfz22_1:=blk_frozen BK227.out 1)|((with_reducible refine gate_builtin (b:=.append) (xs:=#[.tmp 37,.tmp 39]) rfl ?_);at_builtin;refine Kd.R_append (Kd.int .i64) (w0:=w) w.heap.size rfl (.tmp 37) (.tmp 39) 59 3 (.int .i64 0) 8 rfl Try.underlying59 info3 rfl (by decide) (by omega) u5 x5_2 x22_2 [.int .i64 x22_2] (fun _=>True) (fun _=>False) rfl (by first|(go_simp;done)|(go_simp;rfl)) ?aP (fun _ hk=>hk.elim) ?aF ?aO ?aB ?aS ?aL ?_;(case aP=>exact rfl);(case aB=>exact (by repeat (first|(with_reducible first|exact HB.out|apply below_alloc|apply pw_below_drewN|apply below_drew1|refine below_set ?_ GE223.out|refine below_set ?_ GE227.out)|exact HB.out)));(case aF=>exact (fun _ _=>trivial));(case aO=>exact (by (with_reducible repeat (first|apply Kd.R_alloc|apply Kd.R_drewN|apply Kd.R_drew));exact Kd.R_mono (Kd.R_far (p:=⟨gb227,1,none⟩) (Kd.R_far (p:=⟨gb227,0,none⟩) (Kd.R_types HO_5.out BK227.out (by decide)) (fun _ hk=>hk.2) (.int .i64 ((rd_T88 l0_1 x22_2).f0))) (fun _ hk=>hk.2) (.int .i64 ((rd_T88 l0_1 x22_2).f1))) (fun _ hk=>trivial)));(case aS=>exact (below_size (by repeat (first|(with_reducible first|exact HB.out|apply below_alloc|apply pw_below_drewN|apply below_drew1|refine below_set ?_ GE223.out|refine below_set ?_ GE227.out)|exact HB.out))));(case aL=>have:=LMc19.out;omega);intro v229 w23 ho hb hg hat;rw [← Ny228.out] at ho;have n0_:=Aside0.mk (blk_grown (g:=gb223) (o:=.cells #[.int .i64 a0_0,.slice (some ad226) l0_1.length c0_1] 30 (0,0)) (by (with_reducible repeat (first|refine blk_drewN ?_ _|refine blk_drew ?_|refine blk_alloc ?_ _));refine blk_far ?_ NB223_227.out _;(with_reducible repeat (first|refine blk_drewN ?_ _|refine blk_drew ?_|refine blk_alloc ?_ _));refine blk_far ?_ NB223_227.out _;(with_reducible repeat (first|refine blk_drewN ?_ _|refine blk_drew ?_|refine blk_alloc ?_ _));exact BK223.out) hg (Kd.R_ne HO_5.out BK223.out (by decide)));have n1_:=Aside0.mk (blk_grown (g:=gb227) (o:=.cells #[.int .i64 ((rd_T88 l0_1 x22_2).f0),.int .i64 ((rd_T88 l0_1 x22_2).f1)] 88 (0,0)) (by (with_reducible repeat (first|refine blk_drewN ?_ _|refine blk_drew ?_|refine blk_alloc ?_ _));refine blk_put (cs:=#[.int .i64 ((rd_T88 l0_1 x22_2).f0),.int .i64 0]) ?_ 1 _ rfl;(with_reducible repeat (first|refine blk_drewN ?_ _|refine blk_drew ?_|refine blk_alloc ?_ _));refine blk_put (cs:=#[.int .i64 0,.int .i64 0]) ?_ 0 _ rfl;(with_reducible repeat (first|refine blk_drewN ?_ _|refine blk_drew ?_|refine blk_alloc ?_ _));exact BK227.out) hg (Kd.R_ne HO_5.out BK227.out (by decide)));have n2_:=Aside0.mk (hb);have n3_:=Aside0.mk (ho);clear BK223;clear BK227;clear HB;clear HO_5;have BK223:=n0_;have BK227:=n1_;have HB:=n2_;have HO230:=n3_;clear n0_ n1_ n2_ n3_;clear ho hb hg hat))
          go_roundg k2
          case measure=>have:=HJ2.out;have:=HK2.out;omega
          case rel=>exact ⟨(y228),(wrap64 (x22_2+1)),(by first|rfl|(simp;done)|(simp [*];done)),H',⟨by have:=HJ2.out;have:=HK2.out;omega⟩,⟨by exact HO230.out⟩,⟨by exact BK223.out⟩,⟨by exact HB.out⟩⟩
         rw [if_neg c19] at H
         exact absurd H (by simp)
        rw [if_neg c18] at H
        have c18b0:(((rd_T88 l0_1 x22_2).f0)==a1)=false:=beq_eq_false_iff_ne.mpr c18
        have c18b1:(((rd_T88 l0_1 x22_2).f0) != a1)=true:=bne_iff_ne.mpr c18
        by_cases c24:((rd_T88 l0_1 x22_2).f1)=a1
        ·rw [if_pos c24] at H
         have c24b0:(((rd_T88 l0_1 x22_2).f1)==a1)=true:=beq_iff_eq.mpr c24
         have c24b1:(((rd_T88 l0_1 x22_2).f1) != a1)=false:=bne_eq_false_iff_eq.mpr c24
         clear c24
         by_cases c25:x5_2.length<17592186044416
         ·rw [if_pos c25] at H
          have LMc25:=Aside0.mk c25
          clear c25
          obtain ⟨y231,hy231⟩:∃ y_:List Int,y_=(x5_2 ++ [x22_2]):=⟨_,rfl⟩
          replace H:(spec_Around.l0 k2 a1 y231 l0_1 (l0_1.length:Int) (wrap64 (x22_2+1)))=some r:=by first|(rw [hy231];with_reducible exact H)|(have H2_:=(Option.bind_some _ _).symm.trans H;rw [hy231];with_reducible exact H2_)|(have H2_:=(Option.bind_some _ _).symm.trans H;with_reducible exact H2_)|with_reducible exact H|(rw [hy231];exact H)|exact H
          have Ny231:=Aside0.mk hy231
          clear hy231
          have H':=Aside0.mk H
          clear H
          have p226:0≤(x22_2:Int):=of_decide_eq_true (by first|(with_reducible assumption)|assumption)
          have q226:x22_2<(l0_1.length:Int):=of_decide_eq_true (by first|(with_reducible assumption)|assumption)
          obtain ⟨ad226,e226,hx226_0,hx226_1⟩:=at_T88 HR0_1.out x22_2 p226 q226
          cases e226
          replace hx226_0:=(HB.out.cell (World.block_lt_of_cell? w _ hx226_0)).trans hx226_0
          replace hx226_1:=(HB.out.cell (World.block_lt_of_cell? w _ hx226_1)).trans hx226_1
          replace p226:=eq_true p226
          replace q226:=eq_true q226
          go_wp2_with (first|((with_reducible refine gate_dst (N:=7) rfl ?_);refine box_event ?hg (N:=7) ?hd (cs:=#[.int .i64 0,.int .i64 0]) (t:=88) ?hr ?_;(case hd=>rfl);(case hg=>rfl);(case hr=>first|(go_simp;done)|(go_simp;rfl));intro gb227 hg w26 hbox hb;have n0_:=Aside0.mk (Kd.R_below (by exact HO_5.out) hb);have n1_:=Aside0.mk (blk_below (g:=gb223) (o:=.cells #[.int .i64 a0_0,.slice (some ad226) l0_1.length c0_1] 30 (0,0)) (by exact BK223.out) hb);have n2_:=Aside0.mk (below_step (by exact HB.out) hb);have n3_:=Aside0.mk (hbox);have n4_:=Aside0.mk ((by rw [hg];exact (below_size (by exact HB.out)):w.heap.size≤gb227));have n5_:=Aside0.mk ((by rw [hg];exact (below_size (by repeat (first|(with_reducible first|exact HB.out|apply below_alloc|apply pw_below_drewN|apply below_drew1|refine below_set ?_ GE223.out)|exact HB.out))):w.heap.size≤gb227));have n6_:=Aside0.mk ((by rw [hg];exact Nat.ne_of_lt (blk_lt (g:=gb223) (o:=.cells #[.int .i64 a0_0,.slice (some ad226) l0_1.length c0_1] 30 (0,0)) (by (with_reducible repeat (first|refine blk_drewN ?_ _|refine blk_drew ?_|refine blk_alloc ?_ _));exact BK223.out)):gb223 ≠ gb227));have n7_:=Aside0.mk ((by rw [hg];exact Nat.ne_of_gt (blk_lt (g:=gb223) (o:=.cells #[.int .i64 a0_0,.slice (some ad226) l0_1.length c0_1] 30 (0,0)) (by (with_reducible repeat (first|refine blk_drewN ?_ _|refine blk_drew ?_|refine blk_alloc ?_ _));exact BK223.out)):gb227 ≠ gb223));clear HO_5;clear BK223;clear HB;have HO_5:=n0_;have BK223:=n1_;have HB:=n2_;have BK227:=n3_;have GW227:=n4_;have GE227:=n5_;have NB223_227:=n6_;have NB227_223:=n7_;clear n0_ n1_ n2_ n3_ n4_ n5_ n6_ n7_;clear hb hbox hg;have hnb27:=NB227_223.out;have hnc27:=NB223_227.out;have hcz28_0:w26.cell? ⟨gb227,0,none⟩=some (.int .i64 0):=(blk_cell BK227.out 0).trans rfl;have hcz28_1:w26.cell? ⟨gb227,1,none⟩=some (.int .i64 0):=(blk_cell BK227.out 1).trans rfl;have hfz28_0:=blk_frozen BK227.out 0;have hfz28_1:=blk_frozen BK227.out 1)|((with_reducible refine gate_builtin (b:=.append) (xs:=#[.tmp 37,.tmp 39]) rfl ?_);at_builtin;refine Kd.R_append (Kd.int .i64) (w0:=w) w.heap.size rfl (.tmp 37) (.tmp 39) 59 3 (.int .i64 0) 8 rfl Try.underlying59 info3 rfl (by decide) (by omega) u5 x5_2 x22_2 [.int .i64 x22_2] (fun _=>True) (fun _=>False) rfl (by first|(go_simp;done)|(go_simp;rfl)) ?aP (fun _ hk=>hk.elim) ?aF ?aO ?aB ?aS ?aL ?_;(case aP=>exact rfl);(case aB=>exact (by repeat (first|(with_reducible first|exact HB.out|apply below_alloc|apply pw_below_drewN|apply below_drew1|refine below_set ?_ GE223.out|refine below_set ?_ GE227.out)|exact HB.out)));(case aF=>exact (fun _ _=>trivial));(case aO=>exact (by (with_reducible repeat (first|apply Kd.R_alloc|apply Kd.R_drewN|apply Kd.R_drew));exact Kd.R_mono (Kd.R_far (p:=⟨gb227,1,none⟩) (Kd.R_far (p:=⟨gb227,0,none⟩) (Kd.R_types HO_5.out BK227.out (by decide)) (fun _ hk=>hk.2) (.int .i64 ((rd_T88 l0_1 x22_2).f0))) (fun _ hk=>hk.2) (.int .i64 ((rd_T88 l0_1 x22_2).f1))) (fun _ hk=>trivial)));(case aS=>exact (below_size (by repeat (first|(with_reducible first|exact HB.out|apply below_alloc|apply pw_below_drewN|apply below_drew1|refine below_set ?_ GE223.out|refine below_set ?_ GE227.out)|exact HB.out))));(case aL=>have:=LMc25.out;omega);intro v232 w29 ho hb hg hat;rw [← Ny231.out] at ho;have n0_:=Aside0.mk (blk_grown (g:=gb223) (o:=.cells #[.int .i64 a0_0,.slice (some ad226) l0_1.length c0_1] 30 (0,0)) (by (with_reducible repeat (first|refine blk_drewN ?_ _|refine blk_drew ?_|refine blk_alloc ?_ _));refine blk_far ?_ NB223_227.out _;(with_reducible repeat (first|refine blk_drewN ?_ _|refine blk_drew ?_|refine blk_alloc ?_ _));refine blk_far ?_ NB223_227.out _;(with_reducible repeat (first|refine blk_drewN ?_ _|refine blk_drew ?_|refine blk_alloc ?_ _));exact BK223.out) hg (Kd.R_ne HO_5.out BK223.out (by decide)));have n1_:=Aside0.mk (blk_grown (g:=gb227) (o:=.cells #[.int .i64 ((rd_T88 l0_1 x22_2).f0),.int .i64 ((rd_T88 l0_1 x22_2).f1)] 88 (0,0)) (by (with_reducible repeat (first|refine blk_drewN ?_ _|refine blk_drew ?_|refine blk_alloc ?_ _));refine blk_put (cs:=#[.int .i64 ((rd_T88 l0_1 x22_2).f0),.int .i64 0]) ?_ 1 _ rfl;(with_reducible repeat (first|refine blk_drewN ?_ _|refine blk_drew ?_|refine blk_alloc ?_ _));refine blk_put (cs:=#[.int .i64 0,.int .i64 0]) ?_ 0 _ rfl;(with_reducible repeat (first|refine blk_drewN ?_ _|refine blk_drew ?_|refine blk_alloc ?_ _));exact BK227.out) hg (Kd.R_ne HO_5.out BK227.out (by decide)));have n2_:=Aside0.mk (hb);have n3_:=Aside0.mk (ho);clear BK223;clear BK227;clear HB;clear HO_5;have BK223:=n0_;have BK227:=n1_;have HB:=n2_;have HO233:=n3_;clear n0_ n1_ n2_ n3_;clear ho hb hg hat))
          go_roundg k2
          case measure=>have:=HJ2.out;have:=HK2.out;omega
          case rel=>exact ⟨(y231),(wrap64 (x22_2+1)),(by first|rfl|(simp;done)|(simp [*];done)),H',⟨by have:=HJ2.out;have:=HK2.out;omega⟩,⟨by exact HO233.out⟩,⟨by exact BK223.out⟩,⟨by exact HB.out⟩⟩
         rw [if_neg c25] at H
         exact absurd H (by simp)
        rw [if_neg c24] at H
        have c24b0:(((rd_T88 l0_1 x22_2).f1)==a1)=false:=beq_eq_false_iff_ne.mpr c24
        have c24b1:(((rd_T88 l0_1 x22_2).f1) != a1)=true:=bne_iff_ne.mpr c24
        have H':=Aside0.mk H
        clear H
        have p226:0≤(x22_2:Int):=of_decide_eq_true (by first|(with_reducible assumption)|assumption)
        have q226:x22_2<(l0_1.length:Int):=of_decide_eq_true (by first|(with_reducible assumption)|assumption)
        obtain ⟨ad226,e226,hx226_0,hx226_1⟩:=at_T88 HR0_1.out x22_2 p226 q226
        cases e226
        replace hx226_0:=(HB.out.cell (World.block_lt_of_cell? w _ hx226_0)).trans hx226_0
        replace hx226_1:=(HB.out.cell (World.block_lt_of_cell? w _ hx226_1)).trans hx226_1
        replace p226:=eq_true p226
        replace q226:=eq_true q226
        go_wp2_with (first|((with_reducible refine gate_dst (N:=7) rfl ?_);refine box_event ?hg (N:=7) ?hd (cs:=#[.int .i64 0,.int .i64 0]) (t:=88) ?hr ?_;(case hd=>rfl);(case hg=>rfl);(case hr=>first|(go_simp;done)|(go_simp;rfl));intro gb227 hg w30 hbox hb;have n0_:=Aside0.mk (Kd.R_below (by exact HO_5.out) hb);have n1_:=Aside0.mk (blk_below (g:=gb223) (o:=.cells #[.int .i64 a0_0,.slice (some ad226) l0_1.length c0_1] 30 (0,0)) (by exact BK223.out) hb);have n2_:=Aside0.mk (below_step (by exact HB.out) hb);have n3_:=Aside0.mk (hbox);have n4_:=Aside0.mk ((by rw [hg];exact (below_size (by exact HB.out)):w.heap.size≤gb227));have n5_:=Aside0.mk ((by rw [hg];exact (below_size (by exact HB.out)):w.heap.size≤gb227));have n6_:=Aside0.mk ((by rw [hg];exact Nat.ne_of_lt (blk_lt (g:=gb223) (o:=.cells #[.int .i64 a0_0,.slice (some ad226) l0_1.length c0_1] 30 (0,0)) (by exact BK223.out)):gb223 ≠ gb227));have n7_:=Aside0.mk ((by rw [hg];exact Nat.ne_of_gt (blk_lt (g:=gb223) (o:=.cells #[.int .i64 a0_0,.slice (some ad226) l0_1.length c0_1] 30 (0,0)) (by exact BK223.out)):gb227 ≠ gb223));clear HO_5;clear BK223;clear HB;have HO_5:=n0_;have BK223:=n1_;have HB:=n2_;have BK227:=n3_;have GW227:=n4_;have GE227:=n5_;have NB223_227:=n6_;have NB227_223:=n7_;clear n0_ n1_ n2_ n3_ n4_ n5_ n6_ n7_;clear hb hbox hg;have hnb31:=NB227_223.out;have hnc31:=NB223_227.out;have hcz32_0:w30.cell? ⟨gb227,0,none⟩=some (.int .i64 0):=(blk_cell BK227.out 0).trans rfl;have hcz32_1:w30.cell? ⟨gb227,1,none⟩=some (.int .i64 0):=(blk_cell BK227.out 1).trans rfl;have hfz32_0:=blk_frozen BK227.out 0;have hfz32_1:=blk_frozen BK227.out 1))
        go_roundg k2
        case measure=>have:=HJ2.out;have:=HK2.out;omega
        case rel=>exact ⟨(x5_2),(wrap64 (x22_2+1)),(by first|rfl|(simp;done)|(simp [*];done)),H',⟨by have:=HJ2.out;have:=HK2.out;omega⟩,⟨by exact Kd.R_mono (Kd.R_far (p:=⟨gb227,1,none⟩) (Kd.R_far (p:=⟨gb227,0,none⟩) (Kd.R_types HO_5.out BK227.out (by decide)) (fun _ hk=>hk.2) (.int .i64 ((rd_T88 l0_1 x22_2).f0))) (fun _ hk=>hk.2) (.int .i64 ((rd_T88 l0_1 x22_2).f1))) (fun _ hk=>trivial)⟩,⟨by refine blk_far ?_ NB223_227.out _;refine blk_far ?_ NB223_227.out _;exact BK223.out⟩,⟨by repeat (first|(with_reducible first|exact HB.out|apply below_alloc|apply pw_below_drewN|apply below_drew1|refine below_set ?_ GE223.out|refine below_set ?_ GE227.out)|exact HB.out)⟩⟩
       rw [if_neg c17] at H
       exact absurd H (by simp)
      rw [if_neg c16] at H
      exact absurd H (by simp)
     rw [if_neg c15] at H
     have c15b0:decide (x22_2<(l0_1.length:Int))=false:=decide_eq_false c15
     clear c15
     obtain rfl:=Option.some.inj H
     go_wp2
     go_ret
     exact ⟨_,by first|rfl|(simp [errW_none,errW_some] <;> rfl)|(simp [*,errW_none,errW_some] <;> rfl),by exact HO_5.out,by exact HB.out⟩
end Go.Proofs.Ytpdnabhpkdchjaa.P
namespace Go.Proofs.Ytpdnabhpkdchjaa.P
open Go.RowKit Go.Proofs.YtpdnabhpkdchjaaW.PrintWords Go.Proofs.YtpdnabhpkdchjaaW.PrintLast
set_option linter.unusedVariables false
set_option linter.unusedSimpArgs false
def hits (s : Int) (x : S88) : Bool := decide (x.f0 = s) || decide (x.f1 = s)
def hitsTo (l : List S88) (s : Int) (i : Nat) : List Int := ((List.range i).filter fun j : Nat => hits s (rd_T88 l (j : Int))).map Int.ofNat
def around (n : Int) (l : List S88) (s : Int) : List Int := if layoutOk n l = 0 ∧ 0 ≤ s ∧ s < n then hitsTo l s l.length else []
theorem hitsTo_succ (l : List S88) (s : Int) (i : Nat) : hitsTo l s (i + 1) = if hits s (rd_T88 l (i : Int)) = true then hitsTo l s i ++ [(i : Int)] else hitsTo l s i := by
  unfold hitsTo
  rw [List.range_succ, List.filter_append, List.map_append]
  by_cases h : hits s (rd_T88 l (i : Int)) = true
  · rw [if_pos h]; simp [List.filter, h]
  · rw [if_neg h]; simp [List.filter, h]
theorem hitsTo_length (l : List S88) (s : Int) (i : Nat) : (hitsTo l s i).length ≤ i := by
  unfold hitsTo
  rw [List.length_map]
  exact Nat.le_trans (List.length_filter_le _ _) (by simp)
theorem specAround_l0 (l : List S88) (s : Int) (hl : l.length ≤ 120) (d : Nat) : ∀ (i : Nat), i + d = l.length → Ev (fun k => spec_Around.l0 k s (hitsTo l s i) l (l.length : Int) i) (hitsTo l s l.length) := by
  induction d with
  | zero => intro i hi; refine Ev.step1 fun k => ?_; simp only [spec_Around.l0]; rw [if_neg (by omega), show i = l.length by omega]
  | succ d ih =>
    intro i hi
    have hlen := hitsTo_length l s i
    refine Ev.step (fun k => ?_) (ih (i + 1) (by omega))
    simp only [spec_Around.l0]
    rw [if_pos (by omega), if_pos (by omega), if_pos (by omega), wrap_succ (by omega), hitsTo_succ]
    by_cases h0 : (rd_T88 l (i : Int)).f0 = s
    · rw [if_pos h0, if_pos (by omega), if_pos (show hits s _ = true by simp [hits, h0])]
    · by_cases h1 : (rd_T88 l (i : Int)).f1 = s
      · rw [if_neg h0, if_pos h1, if_pos (by omega), if_pos (show hits s _ = true by simp [hits, h1])]
      · rw [if_neg h0, if_neg h1, if_neg (show ¬ (hits s _ = true) by simp [hits, h0, h1])]
theorem specAround_ev (n : Int) (l : List S88) (s : Int) : Ev (fun k => spec_Around.f k n l s) (around n l s) := by
  unfold spec_Around.f
  refine Ev.bind (specLayoutOk_ev n l) ?_
  by_cases hl : layoutOk n l = 0
  · obtain ⟨hn1, hn2, hc⟩ := lay_n hl
    refine Ev.ite_pos hl (Ev.call (l1in_eq _ _ _) ?_)
    rw [wrap_id (by omega) (by omega), dec_le_pred]
    by_cases hs : 0 ≤ s ∧ s < n
    · rw [around, if_pos ⟨hl, hs.1, hs.2⟩]
      refine Ev.step (fun k => ?_) (specAround_l0 l s hc l.length 0 (by omega))
      simp only [spec_Around.j0]
      rw [if_neg (by simp [hs.1, hs.2])]
      rfl
    · refine Ev.step1 fun k => ?_
      simp only [spec_Around.j0]
      rw [if_pos (by simp only [Bool.not_eq_true', Bool.and_eq_false_iff, decide_eq_false_iff_not]; omega), around, if_neg (fun h => hs h.2)]
  · refine Ev.ite_neg hl (Ev.step1 fun k => ?_)
    simp only [spec_Around.j0, if_true]
    rw [around, if_neg (fun h => hl h.1)]
end Go.Proofs.Ytpdnabhpkdchjaa.P
namespace Go.Proofs.Ytpdnabhpkdchjaa.P
open Go.RowKit Go.Proofs.YtpdnabhpkdchjaaW.PrintWords Go.Proofs.YtpdnabhpkdchjaaW.PrintLast Go.Proofs.YtpdnabhpkdchjaaW.PrintMore
attribute [local go_sem] max2_int min2_int max_two min_two max_three min_three max_four min_four
set_option linter.unusedVariables false
set_option linter.unusedSimpArgs false
def impl_dead.l0:Nat→Int→List (S88)→Int→Int→Bool→List (S50)→List Bool→Option (Bool)
 | 0,_,_,_,_,_,_,_=>none
 | k+1,x2,x10,x11,x12,x328000,x328001,x328002=>if x12<x11 then (if 0≤x12 then (if x12<(x10.length:Int) then (if x12<(x328002.length:Int) then (if rdOf false x328002 x12=true then (if ((rd_T88 x10 x12).f0)=x2 then (some true) else (if ((rd_T88 x10 x12).f1)=x2 then (some true) else (impl_dead.l0 k x2 x10 x11 (wrap64 (x12+1)) x328000 x328001 x328002))) else (impl_dead.l0 k x2 x10 x11 (wrap64 (x12+1)) x328000 x328001 x328002)) else (none)) else (none)) else (none)) else (some false)
def impl_dead.f (k:Nat) (a0_0:Int) (l0_1:List (S88)) (a1_0:Bool) (l1_1:List (S50)) (l1_2:List Bool) (a2:Int):Option (Bool):=impl_dead.l0 k a2 l0_1 (l0_1.length:Int) 0 a1_0 l1_1 l1_2
set_option maxHeartbeats 8000000 in
set_option maxRecDepth 100000 in
theorem impl_dead.calls (k:Nat) (a0_0:Int) (A0_1:Option Addr) (c0_1:Nat) (l0_1:List (S88)) (a1_0:Bool) (A1_1:Option Addr) (c1_1:Nat) (l1_1:List (S50)) (A1_2:Option Addr) (c1_2:Nat) (l1_2:List Bool) (a2:Int) (r:Bool) (w:World) (hr0_1:Kd.C k88 w A0_1 l0_1.length l0_1) (hc0_1:l0_1.length≤c0_1) (hr1_1:Kd.C k50 w A1_1 l1_1.length l1_1) (hc1_1:l1_1.length≤c1_1) (hr1_2:Kd.C Kd.bool w A1_2 l1_2.length l1_2) (hc1_2:l1_2.length≤c1_2) (h:impl_dead.f k a0_0 l0_1 a1_0 l1_1 l1_2 a2=some r) :
  Calls Try.prog 98 #[.agg #[.int .i64 a0_0,.slice A0_1 l0_1.length c0_1],.agg #[.bool a1_0,.slice A1_1 l1_1.length c1_1,.slice A1_2 l1_2.length c1_2],.int .i64 a2] w fun e w'=>e=.returned (.bool r)∧Below w.heap.size w w':=by
 have hu30:=Try.underlying30
 have hu46:=Try.underlying46
 have hu88:=Try.underlying88
 have HR0_1:=Aside0.mk hr0_1
 have HC0_1:=Aside0.mk hc0_1
 clear hr0_1 hc0_1
 have HR1_1:=Aside0.mk hr1_1
 have HC1_1:=Aside0.mk hc1_1
 clear hr1_1 hc1_1
 have HR1_2:=Aside0.mk hr1_2
 have HC1_2:=Aside0.mk hc1_2
 clear hr1_2 hc1_2
 have HB:=Aside0.mk (Below.refl w.heap.size w)
 have H:(impl_dead.l0 k a2 l0_1 (l0_1.length:Int) 0 a1_0 l1_1 l1_2)=some r:=h
 clear h
 have H':=Aside0.mk H
 clear H
 go_enter Try.func98,Try.ntmps98
 go_wp2_with (first|((with_reducible refine gate_dst (N:=3) rfl ?_);refine box_event ?hg (N:=3) ?hd (cs:=#[.int .i64 a0_0,.slice A0_1 l0_1.length c0_1]) (t:=30) ?hr ?_;(case hd=>rfl);(case hg=>rfl);(case hr=>first|(go_simp;done)|(go_simp;rfl));intro gb326 hg w4 hbox hb;have n0_:=Aside0.mk (below_step (by exact HB.out) hb);have n1_:=Aside0.mk (hbox);have n2_:=Aside0.mk ((by rw [hg];exact (below_size (by exact HB.out)):w.heap.size≤gb326));have n3_:=Aside0.mk ((by rw [hg];exact (below_size (by exact HB.out)):w.heap.size≤gb326));clear HB;have HB:=n0_;have BK326:=n1_;have GW326:=n2_;have GE326:=n3_;clear n0_ n1_ n2_ n3_;clear hb hbox hg)|((with_reducible refine gate_dst (N:=4) rfl ?_);refine box_event ?hg (N:=4) ?hd (cs:=#[.bool a1_0,.slice A1_1 l1_1.length c1_1,.slice A1_2 l1_2.length c1_2]) (t:=46) ?hr ?_;(case hd=>rfl);(case hg=>rfl);(case hr=>first|(go_simp;done)|(go_simp;rfl));intro gb327 hg w5 hbox hb;have n0_:=Aside0.mk (blk_below (g:=gb326) (o:=.cells #[.int .i64 a0_0,.slice A0_1 l0_1.length c0_1] 30 (0,0)) (by exact BK326.out) hb);have n1_:=Aside0.mk (below_step (by exact HB.out) hb);have n2_:=Aside0.mk (hbox);have n3_:=Aside0.mk ((by rw [hg];exact (below_size (by exact HB.out)):w.heap.size≤gb327));have n4_:=Aside0.mk ((by rw [hg];exact (below_size (by exact HB.out)):w.heap.size≤gb327));have n5_:=Aside0.mk ((by rw [hg];exact Nat.ne_of_lt (blk_lt (g:=gb326) (o:=.cells #[.int .i64 a0_0,.slice A0_1 l0_1.length c0_1] 30 (0,0)) (by exact BK326.out)):gb326 ≠ gb327));have n6_:=Aside0.mk ((by rw [hg];exact Nat.ne_of_gt (blk_lt (g:=gb326) (o:=.cells #[.int .i64 a0_0,.slice A0_1 l0_1.length c0_1] 30 (0,0)) (by exact BK326.out)):gb327 ≠ gb326));clear BK326;clear HB;have BK326:=n0_;have HB:=n1_;have BK327:=n2_;have GW327:=n3_;have GE327:=n4_;have NB326_327:=n5_;have NB327_326:=n6_;clear n0_ n1_ n2_ n3_ n4_ n5_ n6_;clear hb hbox hg;have hnb6:=NB326_327.out;have hnc6:=NB327_326.out;have hcz7_0:w5.cell? ⟨gb326,0,none⟩=some (.int .i64 a0_0):=(blk_cell BK326.out 0).trans rfl;have hcz7_1:w5.cell? ⟨gb326,1,none⟩=some (.slice A0_1 l0_1.length c0_1):=(blk_cell BK326.out 1).trans rfl;have hfz7_0:=blk_frozen BK326.out 0;have hfz7_1:=blk_frozen BK326.out 1))
 go_loopg [12] k (fun kq v12 w'=>∃ (x12_1:Int),v12=.int .i64 x12_1∧Aside0 (impl_dead.l0 kq a2 l0_1 (l0_1.length:Int) x12_1 a1_0 l1_1 l1_2=some r)∧Aside0 (kq≤k)∧Aside0 (w'.heap[gb326]?=some (.cells #[.int .i64 a0_0,(.slice A0_1 l0_1.length c0_1)] 30 (0,0)))∧Aside0 (w'.heap[gb327]?=some (.cells #[.bool a1_0,(.slice A1_1 l1_1.length c1_1),(.slice A1_2 l1_2.length c1_2)] 46 (0,0)))∧Aside0 (Below w.heap.size w w'))
 case atStart=>exact ⟨(0),(by first|rfl|(simp;done)|(simp [*];done)),H',⟨Nat.le_refl _⟩,⟨by exact BK326.out⟩,⟨by exact BK327.out⟩,⟨by exact HB.out⟩⟩
 case round =>
  clear H'
  try clear c1
  try clear p2
  try clear c6
  try clear hcz7_0
  try clear hcz7_1
  try clear hfz7_0
  try clear hfz7_1
  obtain ⟨x12_1,rfl,HA,HK1,BK326,BK327,HB⟩:=hrel
  cases gk with
  | zero=>exact absurd HA.out (by simp [impl_dead.l0])
  | succ k1 =>
   have H:=HA.out
   clear HA
   simp only [impl_dead.l0] at H
   by_cases c8:x12_1<(l0_1.length:Int)
   ·rw [if_pos c8] at H
    have c8b0:decide (x12_1<(l0_1.length:Int))=true:=decide_eq_true c8
    clear c8
    by_cases c9:0≤x12_1
    ·rw [if_pos c9] at H
     have c9b0:decide (0≤x12_1)=true:=decide_eq_true c9
     clear c9
     by_cases c10:x12_1<(l0_1.length:Int)
     ·rw [if_pos c10] at H
      have c10b0:decide (x12_1<(l0_1.length:Int))=true:=decide_eq_true c10
      clear c10
      by_cases c11:x12_1<(l1_2.length:Int)
      ·rw [if_pos c11] at H
       have c11b0:decide (x12_1<(l1_2.length:Int))=true:=decide_eq_true c11
       clear c11
       obtain ⟨bq12,hbq12⟩:∃ b_:Bool,b_=(rdOf false l1_2 x12_1):=⟨_,rfl⟩
       replace H:(if bq12=true then (if ((rd_T88 l0_1 x12_1).f0)=a2 then (some true) else (if ((rd_T88 l0_1 x12_1).f1)=a2 then (some true) else (impl_dead.l0 k1 a2 l0_1 (l0_1.length:Int) (wrap64 (x12_1+1)) a1_0 l1_1 l1_2))) else (impl_dead.l0 k1 a2 l0_1 (l0_1.length:Int) (wrap64 (x12_1+1)) a1_0 l1_1 l1_2))=some r:=by rw [← hbq12] at H;exact H
       have Nbq12:=Aside0.mk hbq12
       clear hbq12
       by_cases c13:bq12=true
       ·subst c13
        have H1:(if ((rd_T88 l0_1 x12_1).f0)=a2 then (some true) else (if ((rd_T88 l0_1 x12_1).f1)=a2 then (some true) else (impl_dead.l0 k1 a2 l0_1 (l0_1.length:Int) (wrap64 (x12_1+1)) a1_0 l1_1 l1_2)))=some r:=by rw [if_pos rfl] at H;exact H
        clear H
        have H:=H1
        clear H1
        by_cases c14:((rd_T88 l0_1 x12_1).f0)=a2
        ·rw [if_pos c14] at H
         have c14b0:(((rd_T88 l0_1 x12_1).f0)==a2)=true:=beq_iff_eq.mpr c14
         have c14b1:(((rd_T88 l0_1 x12_1).f0) != a2)=false:=bne_eq_false_iff_eq.mpr c14
         clear c14
         obtain rfl:=Option.some.inj H
         have p328:0≤(x12_1:Int):=of_decide_eq_true (by first|(with_reducible assumption)|assumption)
         have q328:x12_1<(l0_1.length:Int):=of_decide_eq_true (by first|(with_reducible assumption)|assumption)
         obtain ⟨ad328,e328,hx328_0,hx328_1⟩:=at_T88 HR0_1.out x12_1 p328 q328
         cases e328
         replace hx328_0:=(HB.out.cell (World.block_lt_of_cell? w _ hx328_0)).trans hx328_0
         replace hx328_1:=(HB.out.cell (World.block_lt_of_cell? w _ hx328_1)).trans hx328_1
         replace p328:=eq_true p328
         replace q328:=eq_true q328
         go_wp2_with (first|((with_reducible refine gate_dst (N:=8) rfl ?_);refine box_event ?hg (N:=8) ?hd (cs:=#[.int .i64 0,.int .i64 0]) (t:=88) ?hr ?_;(case hd=>rfl);(case hg=>rfl);(case hr=>first|(go_simp;done)|(go_simp;rfl));intro gb329 hg w15 hbox hb;have n0_:=Aside0.mk (blk_below (g:=gb326) (o:=.cells #[.int .i64 a0_0,.slice (some ad328) l0_1.length c0_1] 30 (0,0)) (by exact BK326.out) hb);have n1_:=Aside0.mk (blk_below (g:=gb327) (o:=.cells #[.bool a1_0,.slice A1_1 l1_1.length c1_1,.slice A1_2 l1_2.length c1_2] 46 (0,0)) (by exact BK327.out) hb);have n2_:=Aside0.mk (below_step (by exact HB.out) hb);have n3_:=Aside0.mk (hbox);have n4_:=Aside0.mk ((by rw [hg];exact (below_size (by exact HB.out)):w.heap.size≤gb329));have n5_:=Aside0.mk ((by rw [hg];exact (below_size (by exact HB.out)):w.heap.size≤gb329));have n6_:=Aside0.mk ((by rw [hg];exact Nat.ne_of_lt (blk_lt (g:=gb326) (o:=.cells #[.int .i64 a0_0,.slice (some ad328) l0_1.length c0_1] 30 (0,0)) (by exact BK326.out)):gb326 ≠ gb329));have n7_:=Aside0.mk ((by rw [hg];exact Nat.ne_of_gt (blk_lt (g:=gb326) (o:=.cells #[.int .i64 a0_0,.slice (some ad328) l0_1.length c0_1] 30 (0,0)) (by exact BK326.out)):gb329 ≠ gb326));have n8_:=Aside0.mk ((by rw [hg];exact Nat.ne_of_lt (blk_lt (g:=gb327) (o:=.cells #[.bool a1_0,.slice A1_1 l1_1.length c1_1,.slice A1_2 l1_2.length c1_2] 46 (0,0)) (by exact BK327.out)):gb327 ≠ gb329));have n9_:=Aside0.mk ((by rw [hg];exact Nat.ne_of_gt (blk_lt (g:=gb327) (o:=.cells #[.bool a1_0,.slice A1_1 l1_1.length c1_1,.slice A1_2 l1_2.length c1_2] 46 (0,0)) (by exact BK327.out)):gb329 ≠ gb327));clear BK326;clear BK327;clear HB;have BK326:=n0_;have BK327:=n1_;have HB:=n2_;have BK329:=n3_;have GW329:=n4_;have GE329:=n5_;have NB326_329:=n6_;have NB329_326:=n7_;have NB327_329:=n8_;have NB329_327:=n9_;clear n0_ n1_ n2_ n3_ n4_ n5_ n6_ n7_ n8_ n9_;clear hb hbox hg;have hnb16:=NB329_326.out;have hnc16:=NB326_329.out;have hnb17:=NB329_327.out;have hnc17:=NB327_329.out;have hcz18_0:w15.cell? ⟨gb329,0,none⟩=some (.int .i64 0):=(blk_cell BK329.out 0).trans rfl;have hcz18_1:w15.cell? ⟨gb329,1,none⟩=some (.int .i64 0):=(blk_cell BK329.out 1).trans rfl;have hfz18_0:=blk_frozen BK329.out 0;have hfz18_1:=blk_frozen BK329.out 1;have hnb19:=NB327_326.out;have hnc19:=NB326_327.out;have hcz20_0:w15.cell? ⟨gb327,0,none⟩=some (.bool a1_0):=(blk_cell BK327.out 0).trans rfl;have hcz20_1:w15.cell? ⟨gb327,1,none⟩=some (.slice A1_1 l1_1.length c1_1):=(blk_cell BK327.out 1).trans rfl;have hcz20_2:w15.cell? ⟨gb327,2,none⟩=some (.slice A1_2 l1_2.length c1_2):=(blk_cell BK327.out 2).trans rfl;have hfz20_0:=blk_frozen BK327.out 0;have hfz20_1:=blk_frozen BK327.out 1;have hfz20_2:=blk_frozen BK327.out 2;have p330:0≤(x12_1:Int):=of_decide_eq_true (by first|(with_reducible assumption)|assumption);have q330:x12_1<(l1_2.length:Int):=of_decide_eq_true (by first|(with_reducible assumption)|assumption);obtain ⟨ad330,e330,hx330_0⟩:=Kd.at_bool HR1_2.out x12_1 p330 q330;(try rw [← Nbq12.out] at hx330_0);cases e330;have hn330_0:ad330.block ≠ gb329:=Nat.ne_of_lt (Nat.lt_of_lt_of_le (by have:=World.block_lt_of_cell? _ _ hx330_0;first|rwa [add_block] at this|exact this) GW329.out);have hn330_1:ad330.block ≠ gb329:=Nat.ne_of_lt (Nat.lt_of_lt_of_le (by have:=World.block_lt_of_cell? _ _ hx330_0;first|rwa [add_block] at this|exact this) GW329.out);replace hx330_0:=(HB.out.cell (World.block_lt_of_cell? w _ hx330_0)).trans hx330_0;replace hx330_0:=(cell_far (p:=⟨gb329,0,none⟩) (by first|(rw [add_block];exact hn330_0)|(show (Addr.add _ _).block ≠ _;rw [add_block];exact hn330_0)|exact hn330_0) (.int .i64 ((rd_T88 l0_1 x12_1).f0))).trans hx330_0;replace hx330_0:=(cell_far (p:=⟨gb329,1,none⟩) (by first|(rw [add_block];exact hn330_1)|(show (Addr.add _ _).block ≠ _;rw [add_block];exact hn330_1)|exact hn330_1) (.int .i64 ((rd_T88 l0_1 x12_1).f1))).trans hx330_0;clear hn330_0;clear hn330_1;replace p330:=eq_true p330;replace q330:=eq_true q330))
         go_ret
         exact ⟨by first|rfl|(simp [errW_none,errW_some] <;> rfl)|(simp [*,errW_none,errW_some] <;> rfl),by repeat (first|(with_reducible first|exact HB.out|apply below_alloc|apply pw_below_drewN|apply below_drew1|refine below_set ?_ GE326.out|refine below_set ?_ GE327.out|refine below_set ?_ GE329.out)|exact HB.out)⟩
        rw [if_neg c14] at H
        have c14b0:(((rd_T88 l0_1 x12_1).f0)==a2)=false:=beq_eq_false_iff_ne.mpr c14
        have c14b1:(((rd_T88 l0_1 x12_1).f0) != a2)=true:=bne_iff_ne.mpr c14
        by_cases c21:((rd_T88 l0_1 x12_1).f1)=a2
        ·rw [if_pos c21] at H
         have c21b0:(((rd_T88 l0_1 x12_1).f1)==a2)=true:=beq_iff_eq.mpr c21
         have c21b1:(((rd_T88 l0_1 x12_1).f1) != a2)=false:=bne_eq_false_iff_eq.mpr c21
         clear c21
         obtain rfl:=Option.some.inj H
         have p328:0≤(x12_1:Int):=of_decide_eq_true (by first|(with_reducible assumption)|assumption)
         have q328:x12_1<(l0_1.length:Int):=of_decide_eq_true (by first|(with_reducible assumption)|assumption)
         obtain ⟨ad328,e328,hx328_0,hx328_1⟩:=at_T88 HR0_1.out x12_1 p328 q328
         cases e328
         replace hx328_0:=(HB.out.cell (World.block_lt_of_cell? w _ hx328_0)).trans hx328_0
         replace hx328_1:=(HB.out.cell (World.block_lt_of_cell? w _ hx328_1)).trans hx328_1
         replace p328:=eq_true p328
         replace q328:=eq_true q328
         go_wp2_with (first|((with_reducible refine gate_dst (N:=8) rfl ?_);refine box_event ?hg (N:=8) ?hd (cs:=#[.int .i64 0,.int .i64 0]) (t:=88) ?hr ?_;(case hd=>rfl);(case hg=>rfl);(case hr=>first|(go_simp;done)|(go_simp;rfl));intro gb329 hg w22 hbox hb;have n0_:=Aside0.mk (blk_below (g:=gb326) (o:=.cells #[.int .i64 a0_0,.slice (some ad328) l0_1.length c0_1] 30 (0,0)) (by exact BK326.out) hb);have n1_:=Aside0.mk (blk_below (g:=gb327) (o:=.cells #[.bool a1_0,.slice A1_1 l1_1.length c1_1,.slice A1_2 l1_2.length c1_2] 46 (0,0)) (by exact BK327.out) hb);have n2_:=Aside0.mk (below_step (by exact HB.out) hb);have n3_:=Aside0.mk (hbox);have n4_:=Aside0.mk ((by rw [hg];exact (below_size (by exact HB.out)):w.heap.size≤gb329));have n5_:=Aside0.mk ((by rw [hg];exact (below_size (by exact HB.out)):w.heap.size≤gb329));have n6_:=Aside0.mk ((by rw [hg];exact Nat.ne_of_lt (blk_lt (g:=gb326) (o:=.cells #[.int .i64 a0_0,.slice (some ad328) l0_1.length c0_1] 30 (0,0)) (by exact BK326.out)):gb326 ≠ gb329));have n7_:=Aside0.mk ((by rw [hg];exact Nat.ne_of_gt (blk_lt (g:=gb326) (o:=.cells #[.int .i64 a0_0,.slice (some ad328) l0_1.length c0_1] 30 (0,0)) (by exact BK326.out)):gb329 ≠ gb326));have n8_:=Aside0.mk ((by rw [hg];exact Nat.ne_of_lt (blk_lt (g:=gb327) (o:=.cells #[.bool a1_0,.slice A1_1 l1_1.length c1_1,.slice A1_2 l1_2.length c1_2] 46 (0,0)) (by exact BK327.out)):gb327 ≠ gb329));have n9_:=Aside0.mk ((by rw [hg];exact Nat.ne_of_gt (blk_lt (g:=gb327) (o:=.cells #[.bool a1_0,.slice A1_1 l1_1.length c1_1,.slice A1_2 l1_2.length c1_2] 46 (0,0)) (by exact BK327.out)):gb329 ≠ gb327));clear BK326;clear BK327;clear HB;have BK326:=n0_;have BK327:=n1_;have HB:=n2_;have BK329:=n3_;have GW329:=n4_;have GE329:=n5_;have NB326_329:=n6_;have NB329_326:=n7_;have NB327_329:=n8_;have NB329_327:=n9_;clear n0_ n1_ n2_ n3_ n4_ n5_ n6_ n7_ n8_ n9_;clear hb hbox hg;have hnb23:=NB329_326.out;have hnc23:=NB326_329.out;have hnb24:=NB329_327.out;have hnc24:=NB327_329.out;have hcz25_0:w22.cell? ⟨gb329,0,none⟩=some (.int .i64 0):=(blk_cell BK329.out 0).trans rfl;have hcz25_1:w22.cell? ⟨gb329,1,none⟩=some (.int .i64 0):=(blk_cell BK329.out 1).trans rfl;have hfz25_0:=blk_frozen BK329.out 0;have hfz25_1:=blk_frozen BK329.out 1;have hnb26:=NB327_326.out;have hnc26:=NB326_327.out;have hcz27_0:w22.cell? ⟨gb327,0,none⟩=some (.bool a1_0):=(blk_cell BK327.out 0).trans rfl;have hcz27_1:w22.cell? ⟨gb327,1,none⟩=some (.slice A1_1 l1_1.length c1_1):=(blk_cell BK327.out 1).trans rfl;have hcz27_2:w22.cell? ⟨gb327,2,none⟩=some (.slice A1_2 l1_2.length c1_2):=(blk_cell BK327.out 2).trans rfl;have hfz27_0:=blk_frozen BK327.out 0;have hfz27_1:=blk_frozen BK327.out 1;have hfz27_2:=blk_frozen BK327.out 2;have p330:0≤(x12_1:Int):=of_decide_eq_true (by first|(with_reducible assumption)|assumption);have q330:x12_1<(l1_2.length:Int):=of_decide_eq_true (by first|(with_reducible assumption)|assumption);obtain ⟨ad330,e330,hx330_0⟩:=Kd.at_bool HR1_2.out x12_1 p330 q330;(try rw [← Nbq12.out] at hx330_0);cases e330;have hn330_0:ad330.block ≠ gb329:=Nat.ne_of_lt (Nat.lt_of_lt_of_le (by have:=World.block_lt_of_cell? _ _ hx330_0;first|rwa [add_block] at this|exact this) GW329.out);have hn330_1:ad330.block ≠ gb329:=Nat.ne_of_lt (Nat.lt_of_lt_of_le (by have:=World.block_lt_of_cell? _ _ hx330_0;first|rwa [add_block] at this|exact this) GW329.out);replace hx330_0:=(HB.out.cell (World.block_lt_of_cell? w _ hx330_0)).trans hx330_0;replace hx330_0:=(cell_far (p:=⟨gb329,0,none⟩) (by first|(rw [add_block];exact hn330_0)|(show (Addr.add _ _).block ≠ _;rw [add_block];exact hn330_0)|exact hn330_0) (.int .i64 ((rd_T88 l0_1 x12_1).f0))).trans hx330_0;replace hx330_0:=(cell_far (p:=⟨gb329,1,none⟩) (by first|(rw [add_block];exact hn330_1)|(show (Addr.add _ _).block ≠ _;rw [add_block];exact hn330_1)|exact hn330_1) (.int .i64 ((rd_T88 l0_1 x12_1).f1))).trans hx330_0;clear hn330_0;clear hn330_1;replace p330:=eq_true p330;replace q330:=eq_true q330))
         go_ret
         exact ⟨by first|rfl|(simp [errW_none,errW_some] <;> rfl)|(simp [*,errW_none,errW_some] <;> rfl),by repeat (first|(with_reducible first|exact HB.out|apply below_alloc|apply pw_below_drewN|apply below_drew1|refine below_set ?_ GE326.out|refine below_set ?_ GE327.out|refine below_set ?_ GE329.out)|exact HB.out)⟩
        rw [if_neg c21] at H
        have c21b0:(((rd_T88 l0_1 x12_1).f1)==a2)=false:=beq_eq_false_iff_ne.mpr c21
        have c21b1:(((rd_T88 l0_1 x12_1).f1) != a2)=true:=bne_iff_ne.mpr c21
        have H':=Aside0.mk H
        clear H
        have p328:0≤(x12_1:Int):=of_decide_eq_true (by first|(with_reducible assumption)|assumption)
        have q328:x12_1<(l0_1.length:Int):=of_decide_eq_true (by first|(with_reducible assumption)|assumption)
        obtain ⟨ad328,e328,hx328_0,hx328_1⟩:=at_T88 HR0_1.out x12_1 p328 q328
        cases e328
        replace hx328_0:=(HB.out.cell (World.block_lt_of_cell? w _ hx328_0)).trans hx328_0
        replace hx328_1:=(HB.out.cell (World.block_lt_of_cell? w _ hx328_1)).trans hx328_1
        replace p328:=eq_true p328
        replace q328:=eq_true q328
        go_wp2_with (first|((with_reducible refine gate_dst (N:=8) rfl ?_);refine box_event ?hg (N:=8) ?hd (cs:=#[.int .i64 0,.int .i64 0]) (t:=88) ?hr ?_;(case hd=>rfl);(case hg=>rfl);(case hr=>first|(go_simp;done)|(go_simp;rfl));intro gb329 hg w28 hbox hb;have n0_:=Aside0.mk (blk_below (g:=gb326) (o:=.cells #[.int .i64 a0_0,.slice (some ad328) l0_1.length c0_1] 30 (0,0)) (by exact BK326.out) hb);have n1_:=Aside0.mk (blk_below (g:=gb327) (o:=.cells #[.bool a1_0,.slice A1_1 l1_1.length c1_1,.slice A1_2 l1_2.length c1_2] 46 (0,0)) (by exact BK327.out) hb);have n2_:=Aside0.mk (below_step (by exact HB.out) hb);have n3_:=Aside0.mk (hbox);have n4_:=Aside0.mk ((by rw [hg];exact (below_size (by exact HB.out)):w.heap.size≤gb329));have n5_:=Aside0.mk ((by rw [hg];exact (below_size (by exact HB.out)):w.heap.size≤gb329));have n6_:=Aside0.mk ((by rw [hg];exact Nat.ne_of_lt (blk_lt (g:=gb326) (o:=.cells #[.int .i64 a0_0,.slice (some ad328) l0_1.length c0_1] 30 (0,0)) (by exact BK326.out)):gb326 ≠ gb329));have n7_:=Aside0.mk ((by rw [hg];exact Nat.ne_of_gt (blk_lt (g:=gb326) (o:=.cells #[.int .i64 a0_0,.slice (some ad328) l0_1.length c0_1] 30 (0,0)) (by exact BK326.out)):gb329 ≠ gb326));have n8_:=Aside0.mk ((by rw [hg];exact Nat.ne_of_lt (blk_lt (g:=gb327) (o:=.cells #[.bool a1_0,.slice A1_1 l1_1.length c1_1,.slice A1_2 l1_2.length c1_2] 46 (0,0)) (by exact BK327.out)):gb327 ≠ gb329));have n9_:=Aside0.mk ((by rw [hg];exact Nat.ne_of_gt (blk_lt (g:=gb327) (o:=.cells #[.bool a1_0,.slice A1_1 l1_1.length c1_1,.slice A1_2 l1_2.length c1_2] 46 (0,0)) (by exact BK327.out)):gb329 ≠ gb327));clear BK326;clear BK327;clear HB;have BK326:=n0_;have BK327:=n1_;have HB:=n2_;have BK329:=n3_;have GW329:=n4_;have GE329:=n5_;have NB326_329:=n6_;have NB329_326:=n7_;have NB327_329:=n8_;have NB329_327:=n9_;clear n0_ n1_ n2_ n3_ n4_ n5_ n6_ n7_ n8_ n9_;clear hb hbox hg;have hnb29:=NB329_326.out;have hnc29:=NB326_329.out;have hnb30:=NB329_327.out;have hnc30:=NB327_329.out;have hcz31_0:w28.cell? ⟨gb329,0,none⟩=some (.int .i64 0):=(blk_cell BK329.out 0).trans rfl;have hcz31_1:w28.cell? ⟨gb329,1,none⟩=some (.int .i64 0):=(blk_cell BK329.out 1).trans rfl;have hfz31_0:=blk_frozen BK329.out 0;have hfz31_1:=blk_frozen BK329.out 1;have hnb32:=NB327_326.out;have hnc32:=NB326_327.out;have hcz33_0:w28.cell? ⟨gb327,0,none⟩=some (.bool a1_0):=(blk_cell BK327.out 0).trans rfl;have hcz33_1:w28.cell? ⟨gb327,1,none⟩=some (.slice A1_1 l1_1.length c1_1):=(blk_cell BK327.out 1).trans rfl;have hcz33_2:w28.cell? ⟨gb327,2,none⟩=some (.slice A1_2 l1_2.length c1_2):=(blk_cell BK327.out 2).trans rfl;have hfz33_0:=blk_frozen BK327.out 0;have hfz33_1:=blk_frozen BK327.out 1;have hfz33_2:=blk_frozen BK327.out 2;have p330:0≤(x12_1:Int):=of_decide_eq_true (by first|(with_reducible assumption)|assumption);have q330:x12_1<(l1_2.length:Int):=of_decide_eq_true (by first|(with_reducible assumption)|assumption);obtain ⟨ad330,e330,hx330_0⟩:=Kd.at_bool HR1_2.out x12_1 p330 q330;(try rw [← Nbq12.out] at hx330_0);cases e330;have hn330_0:ad330.block ≠ gb329:=Nat.ne_of_lt (Nat.lt_of_lt_of_le (by have:=World.block_lt_of_cell? _ _ hx330_0;first|rwa [add_block] at this|exact this) GW329.out);have hn330_1:ad330.block ≠ gb329:=Nat.ne_of_lt (Nat.lt_of_lt_of_le (by have:=World.block_lt_of_cell? _ _ hx330_0;first|rwa [add_block] at this|exact this) GW329.out);replace hx330_0:=(HB.out.cell (World.block_lt_of_cell? w _ hx330_0)).trans hx330_0;replace hx330_0:=(cell_far (p:=⟨gb329,0,none⟩) (by first|(rw [add_block];exact hn330_0)|(show (Addr.add _ _).block ≠ _;rw [add_block];exact hn330_0)|exact hn330_0) (.int .i64 ((rd_T88 l0_1 x12_1).f0))).trans hx330_0;replace hx330_0:=(cell_far (p:=⟨gb329,1,none⟩) (by first|(rw [add_block];exact hn330_1)|(show (Addr.add _ _).block ≠ _;rw [add_block];exact hn330_1)|exact hn330_1) (.int .i64 ((rd_T88 l0_1 x12_1).f1))).trans hx330_0;clear hn330_0;clear hn330_1;replace p330:=eq_true p330;replace q330:=eq_true q330))
        go_roundg k1
        case measure=>have:=HK1.out;omega
        case rel=>exact ⟨(wrap64 (x12_1+1)),(by first|rfl|(simp;done)|(simp [*];done)),H',⟨by have:=HK1.out;omega⟩,⟨by refine blk_far ?_ NB326_329.out _;refine blk_far ?_ NB326_329.out _;exact BK326.out⟩,⟨by refine blk_far ?_ NB327_329.out _;refine blk_far ?_ NB327_329.out _;exact BK327.out⟩,⟨by repeat (first|(with_reducible first|exact HB.out|apply below_alloc|apply pw_below_drewN|apply below_drew1|refine below_set ?_ GE326.out|refine below_set ?_ GE327.out|refine below_set ?_ GE329.out)|exact HB.out)⟩⟩
       replace c13:=Bool.eq_false_iff.mpr c13
       subst c13
       have H1:(impl_dead.l0 k1 a2 l0_1 (l0_1.length:Int) (wrap64 (x12_1+1)) a1_0 l1_1 l1_2)=some r:=by rw [if_neg (show ¬ (false=true) by decide)] at H;exact H
       clear H
       have H:=H1
       clear H1
       have H':=Aside0.mk H
       clear H
       have p328:0≤(x12_1:Int):=of_decide_eq_true (by first|(with_reducible assumption)|assumption)
       have q328:x12_1<(l0_1.length:Int):=of_decide_eq_true (by first|(with_reducible assumption)|assumption)
       obtain ⟨ad328,e328,hx328_0,hx328_1⟩:=at_T88 HR0_1.out x12_1 p328 q328
       cases e328
       replace hx328_0:=(HB.out.cell (World.block_lt_of_cell? w _ hx328_0)).trans hx328_0
       replace hx328_1:=(HB.out.cell (World.block_lt_of_cell? w _ hx328_1)).trans hx328_1
       replace p328:=eq_true p328
       replace q328:=eq_true q328
       go_wp2_with (first|((with_reducible refine gate_dst (N:=8) rfl ?_);refine box_event ?hg (N:=8) ?hd (cs:=#[.int .i64 0,.int .i64 0]) (t:=88) ?hr ?_;(case hd=>rfl);(case hg=>rfl);(case hr=>first|(go_simp;done)|(go_simp;rfl));intro gb329 hg w34 hbox hb;have n0_:=Aside0.mk (blk_below (g:=gb326) (o:=.cells #[.int .i64 a0_0,.slice (some ad328) l0_1.length c0_1] 30 (0,0)) (by exact BK326.out) hb);have n1_:=Aside0.mk (blk_below (g:=gb327) (o:=.cells #[.bool a1_0,.slice A1_1 l1_1.length c1_1,.slice A1_2 l1_2.length c1_2] 46 (0,0)) (by exact BK327.out) hb);have n2_:=Aside0.mk (below_step (by exact HB.out) hb);have n3_:=Aside0.mk (hbox);have n4_:=Aside0.mk ((by rw [hg];exact (below_size (by exact HB.out)):w.heap.size≤gb329));have n5_:=Aside0.mk ((by rw [hg];exact (below_size (by exact HB.out)):w.heap.size≤gb329));have n6_:=Aside0.mk ((by rw [hg];exact Nat.ne_of_lt (blk_lt (g:=gb326) (o:=.cells #[.int .i64 a0_0,.slice (some ad328) l0_1.length c0_1] 30 (0,0)) (by exact BK326.out)):gb326 ≠ gb329));have n7_:=Aside0.mk ((by rw [hg];exact Nat.ne_of_gt (blk_lt (g:=gb326) (o:=.cells #[.int .i64 a0_0,.slice (some ad328) l0_1.length c0_1] 30 (0,0)) (by exact BK326.out)):gb329 ≠ gb326));have n8_:=Aside0.mk ((by rw [hg];exact Nat.ne_of_lt (blk_lt (g:=gb327) (o:=.cells #[.bool a1_0,.slice A1_1 l1_1.length c1_1,.slice A1_2 l1_2.length c1_2] 46 (0,0)) (by exact BK327.out)):gb327 ≠ gb329));have n9_:=Aside0.mk ((by rw [hg];exact Nat.ne_of_gt (blk_lt (g:=gb327) (o:=.cells #[.bool a1_0,.slice A1_1 l1_1.length c1_1,.slice A1_2 l1_2.length c1_2] 46 (0,0)) (by exact BK327.out)):gb329 ≠ gb327));clear BK326;clear BK327;clear HB;have BK326:=n0_;have BK327:=n1_;have HB:=n2_;have BK329:=n3_;have GW329:=n4_;have GE329:=n5_;have NB326_329:=n6_;have NB329_326:=n7_;have NB327_329:=n8_;have NB329_327:=n9_;clear n0_ n1_ n2_ n3_ n4_ n5_ n6_ n7_ n8_ n9_;clear hb hbox hg;have hnb35:=NB329_326.out;have hnc35:=NB326_329.out;have hnb36:=NB329_327.out;have hnc36:=NB327_329.out;have hcz37_0:w34.cell? ⟨gb329,0,none⟩=some (.int .i64 0):=(blk_cell BK329.out 0).trans rfl;have hcz37_1:w34.cell? ⟨gb329,1,none⟩=some (.int .i64 0):=(blk_cell BK329.out 1).trans rfl;have hfz37_0:=blk_frozen BK329.out 0;have hfz37_1:=blk_frozen BK329.out 1;have hnb38:=NB327_326.out;have hnc38:=NB326_327.out;have hcz39_0:w34.cell? ⟨gb327,0,none⟩=some (.bool a1_0):=(blk_cell BK327.out 0).trans rfl;have hcz39_1:w34.cell? ⟨gb327,1,none⟩=some (.slice A1_1 l1_1.length c1_1):=(blk_cell BK327.out 1).trans rfl;have hcz39_2:w34.cell? ⟨gb327,2,none⟩=some (.slice A1_2 l1_2.length c1_2):=(blk_cell BK327.out 2).trans rfl;have hfz39_0:=blk_frozen BK327.out 0;have hfz39_1:=blk_frozen BK327.out 1;have hfz39_2:=blk_frozen BK327.out 2;have p330:0≤(x12_1:Int):=of_decide_eq_true (by first|(with_reducible assumption)|assumption);have q330:x12_1<(l1_2.length:Int):=of_decide_eq_true (by first|(with_reducible assumption)|assumption);obtain ⟨ad330,e330,hx330_0⟩:=Kd.at_bool HR1_2.out x12_1 p330 q330;(try rw [← Nbq12.out] at hx330_0);cases e330;have hn330_0:ad330.block ≠ gb329:=Nat.ne_of_lt (Nat.lt_of_lt_of_le (by have:=World.block_lt_of_cell? _ _ hx330_0;first|rwa [add_block] at this|exact this) GW329.out);have hn330_1:ad330.block ≠ gb329:=Nat.ne_of_lt (Nat.lt_of_lt_of_le (by have:=World.block_lt_of_cell? _ _ hx330_0;first|rwa [add_block] at this|exact this) GW329.out);replace hx330_0:=(HB.out.cell (World.block_lt_of_cell? w _ hx330_0)).trans hx330_0;replace hx330_0:=(cell_far (p:=⟨gb329,0,none⟩) (by first|(rw [add_block];exact hn330_0)|(show (Addr.add _ _).block ≠ _;rw [add_block];exact hn330_0)|exact hn330_0) (.int .i64 ((rd_T88 l0_1 x12_1).f0))).trans hx330_0;replace hx330_0:=(cell_far (p:=⟨gb329,1,none⟩) (by first|(rw [add_block];exact hn330_1)|(show (Addr.add _ _).block ≠ _;rw [add_block];exact hn330_1)|exact hn330_1) (.int .i64 ((rd_T88 l0_1 x12_1).f1))).trans hx330_0;clear hn330_0;clear hn330_1;replace p330:=eq_true p330;replace q330:=eq_true q330))
       go_roundg k1
       case measure=>have:=HK1.out;omega
       case rel=>exact ⟨(wrap64 (x12_1+1)),(by first|rfl|(simp;done)|(simp [*];done)),H',⟨by have:=HK1.out;omega⟩,⟨by refine blk_far ?_ NB326_329.out _;refine blk_far ?_ NB326_329.out _;exact BK326.out⟩,⟨by refine blk_far ?_ NB327_329.out _;refine blk_far ?_ NB327_329.out _;exact BK327.out⟩,⟨by repeat (first|(with_reducible first|exact HB.out|apply below_alloc|apply pw_below_drewN|apply below_drew1|refine below_set ?_ GE326.out|refine below_set ?_ GE327.out|refine below_set ?_ GE329.out)|exact HB.out)⟩⟩
      rw [if_neg c11] at H
      exact absurd H (by simp)
     rw [if_neg c10] at H
     exact absurd H (by simp)
    rw [if_neg c9] at H
    exact absurd H (by simp)
   rw [if_neg c8] at H
   have c8b0:decide (x12_1<(l0_1.length:Int))=false:=decide_eq_false c8
   clear c8
   obtain rfl:=Option.some.inj H
   go_wp2
   go_ret
   exact ⟨by first|rfl|(simp [errW_none,errW_some] <;> rfl)|(simp [*,errW_none,errW_some] <;> rfl),by exact HB.out⟩
end Go.Proofs.Ytpdnabhpkdchjaa.P
namespace Go.Proofs.Ytpdnabhpkdchjaa.P
open Go.RowKit Go.Proofs.YtpdnabhpkdchjaaW.PrintWords Go.Proofs.YtpdnabhpkdchjaaW.PrintLast Go.Proofs.YtpdnabhpkdchjaaW.PrintMore
attribute [local go_sem] max2_int min2_int max_two min_two max_three min_three max_four min_four
set_option linter.unusedVariables false
set_option linter.unusedSimpArgs false
def impl_told.j0:Nat→Bool→Int→Int→Bool→Bool→Int→Option (Int)
 | 0,_,_,_,_,_,_=>none
 | k+1,x18,x335000,x335001,x335002,x335003,x335004=>if x18=true then (some 1) else (if x335003=true then (some 2) else (some 0))
def impl_told.f (k:Nat) (a0_0:Int) (l0_1:List (S88)) (a1_0:Bool) (l1_1:List (S50)) (l1_2:List Bool) (a2:Int):Option (Int):=if 0≤a2 then (if a2<(l1_1.length:Int) then ((impl_dead.f k a0_0 l0_1 a1_0 l1_1 l1_2 a2).bind fun t335=>(if t335=true then (some 3) else (if (rd_T50 l1_1 a2).f2=true then (impl_told.j0 k true ((rd_T50 l1_1 a2).f0) ((rd_T50 l1_1 a2).f1) ((rd_T50 l1_1 a2).f2) ((rd_T50 l1_1 a2).f3) ((rd_T50 l1_1 a2).f4)) else (if ((rd_T50 l1_1 a2).f1)=0 then (impl_told.j0 k false ((rd_T50 l1_1 a2).f0) ((rd_T50 l1_1 a2).f1) ((rd_T50 l1_1 a2).f2) ((rd_T50 l1_1 a2).f3) ((rd_T50 l1_1 a2).f4)) else (impl_told.j0 k (!((rd_T50 l1_1 a2).f3)) ((rd_T50 l1_1 a2).f0) ((rd_T50 l1_1 a2).f1) ((rd_T50 l1_1 a2).f2) ((rd_T50 l1_1 a2).f3) ((rd_T50 l1_1 a2).f4)))))) else (none)) else (none)
set_option maxHeartbeats 8000000 in
set_option maxRecDepth 100000 in
theorem impl_told.calls (k:Nat) (a0_0:Int) (A0_1:Option Addr) (c0_1:Nat) (l0_1:List (S88)) (a1_0:Bool) (A1_1:Option Addr) (c1_1:Nat) (l1_1:List (S50)) (A1_2:Option Addr) (c1_2:Nat) (l1_2:List Bool) (a2:Int) (r:Int) (w:World) (hr0_1:Kd.C k88 w A0_1 l0_1.length l0_1) (hc0_1:l0_1.length≤c0_1) (hr1_1:Kd.C k50 w A1_1 l1_1.length l1_1) (hc1_1:l1_1.length≤c1_1) (hr1_2:Kd.C Kd.bool w A1_2 l1_2.length l1_2) (hc1_2:l1_2.length≤c1_2) (h:impl_told.f k a0_0 l0_1 a1_0 l1_1 l1_2 a2=some r) :
  Calls Try.prog 97 #[.agg #[.int .i64 a0_0,.slice A0_1 l0_1.length c0_1],.agg #[.bool a1_0,.slice A1_1 l1_1.length c1_1,.slice A1_2 l1_2.length c1_2],.int .i64 a2] w fun e w'=>e=.returned (.int .i64 r)∧Below w.heap.size w w':=by
 have hu30:=Try.underlying30
 have hu46:=Try.underlying46
 have hu50:=Try.underlying50
 have HR0_1:=Aside0.mk hr0_1
 have HC0_1:=Aside0.mk hc0_1
 clear hr0_1 hc0_1
 have HR1_1:=Aside0.mk hr1_1
 have HC1_1:=Aside0.mk hc1_1
 clear hr1_1 hc1_1
 have HR1_2:=Aside0.mk hr1_2
 have HC1_2:=Aside0.mk hc1_2
 clear hr1_2 hc1_2
 have HB:=Aside0.mk (Below.refl w.heap.size w)
 have H:(if 0≤a2 then (if a2<(l1_1.length:Int) then ((impl_dead.f k a0_0 l0_1 a1_0 l1_1 l1_2 a2).bind fun t335=>(if t335=true then (some 3) else (if (rd_T50 l1_1 a2).f2=true then (impl_told.j0 k true ((rd_T50 l1_1 a2).f0) ((rd_T50 l1_1 a2).f1) ((rd_T50 l1_1 a2).f2) ((rd_T50 l1_1 a2).f3) ((rd_T50 l1_1 a2).f4)) else (if ((rd_T50 l1_1 a2).f1)=0 then (impl_told.j0 k false ((rd_T50 l1_1 a2).f0) ((rd_T50 l1_1 a2).f1) ((rd_T50 l1_1 a2).f2) ((rd_T50 l1_1 a2).f3) ((rd_T50 l1_1 a2).f4)) else (impl_told.j0 k (!((rd_T50 l1_1 a2).f3)) ((rd_T50 l1_1 a2).f0) ((rd_T50 l1_1 a2).f1) ((rd_T50 l1_1 a2).f2) ((rd_T50 l1_1 a2).f3) ((rd_T50 l1_1 a2).f4)))))) else (none)) else (none))=some r:=h
 clear h
 by_cases c4:0≤a2
 ·rw [if_pos c4] at H
  have c4b0:decide (0≤a2)=true:=decide_eq_true c4
  clear c4
  by_cases c5:a2<(l1_1.length:Int)
  ·rw [if_pos c5] at H
   have c5b0:decide (a2<(l1_1.length:Int))=true:=decide_eq_true c5
   clear c5
   replace H:=Option.bind_eq_some_iff.mp H
   obtain ⟨t335,A60,H⟩:=H
   replace H:(if t335=true then (some 3) else (if (rd_T50 l1_1 a2).f2=true then (impl_told.j0 k true ((rd_T50 l1_1 a2).f0) ((rd_T50 l1_1 a2).f1) ((rd_T50 l1_1 a2).f2) ((rd_T50 l1_1 a2).f3) ((rd_T50 l1_1 a2).f4)) else (if ((rd_T50 l1_1 a2).f1)=0 then (impl_told.j0 k false ((rd_T50 l1_1 a2).f0) ((rd_T50 l1_1 a2).f1) ((rd_T50 l1_1 a2).f2) ((rd_T50 l1_1 a2).f3) ((rd_T50 l1_1 a2).f4)) else (impl_told.j0 k (!((rd_T50 l1_1 a2).f3)) ((rd_T50 l1_1 a2).f0) ((rd_T50 l1_1 a2).f1) ((rd_T50 l1_1 a2).f2) ((rd_T50 l1_1 a2).f3) ((rd_T50 l1_1 a2).f4)))))=some r:=H
   have A6:=Aside0.mk A60
   clear A60
   by_cases c7:t335=true
   ·subst c7
    have H1:(some 3)=some r:=by rw [if_pos rfl] at H;exact H
    clear H
    have H:=H1
    clear H1
    obtain rfl:=Option.some.inj H
    go_enter Try.func97,Try.ntmps97
    go_wp2_with (first|((with_reducible refine gate_dst (N:=3) rfl ?_);refine box_event ?hg (N:=3) ?hd (cs:=#[.int .i64 a0_0,.slice A0_1 l0_1.length c0_1]) (t:=30) ?hr ?_;(case hd=>rfl);(case hg=>rfl);(case hr=>first|(go_simp;done)|(go_simp;rfl));intro gb331 hg w8 hbox hb;have n0_:=Aside0.mk (below_step (by exact HB.out) hb);have n1_:=Aside0.mk (hbox);have n2_:=Aside0.mk ((by rw [hg];exact (below_size (by exact HB.out)):w.heap.size≤gb331));have n3_:=Aside0.mk ((by rw [hg];exact (below_size (by exact HB.out)):w.heap.size≤gb331));clear HB;have HB:=n0_;have BK331:=n1_;have GW331:=n2_;have GE331:=n3_;clear n0_ n1_ n2_ n3_;clear hb hbox hg)|((with_reducible refine gate_dst (N:=4) rfl ?_);refine box_event ?hg (N:=4) ?hd (cs:=#[.bool a1_0,.slice A1_1 l1_1.length c1_1,.slice A1_2 l1_2.length c1_2]) (t:=46) ?hr ?_;(case hd=>rfl);(case hg=>rfl);(case hr=>first|(go_simp;done)|(go_simp;rfl));intro gb332 hg w9 hbox hb;have n0_:=Aside0.mk (blk_below (g:=gb331) (o:=.cells #[.int .i64 a0_0,.slice A0_1 l0_1.length c0_1] 30 (0,0)) (by exact BK331.out) hb);have n1_:=Aside0.mk (below_step (by exact HB.out) hb);have n2_:=Aside0.mk (hbox);have n3_:=Aside0.mk ((by rw [hg];exact (below_size (by exact HB.out)):w.heap.size≤gb332));have n4_:=Aside0.mk ((by rw [hg];exact (below_size (by exact HB.out)):w.heap.size≤gb332));have n5_:=Aside0.mk ((by rw [hg];exact Nat.ne_of_lt (blk_lt (g:=gb331) (o:=.cells #[.int .i64 a0_0,.slice A0_1 l0_1.length c0_1] 30 (0,0)) (by exact BK331.out)):gb331 ≠ gb332));have n6_:=Aside0.mk ((by rw [hg];exact Nat.ne_of_gt (blk_lt (g:=gb331) (o:=.cells #[.int .i64 a0_0,.slice A0_1 l0_1.length c0_1] 30 (0,0)) (by exact BK331.out)):gb332 ≠ gb331));clear BK331;clear HB;have BK331:=n0_;have HB:=n1_;have BK332:=n2_;have GW332:=n3_;have GE332:=n4_;have NB331_332:=n5_;have NB332_331:=n6_;clear n0_ n1_ n2_ n3_ n4_ n5_ n6_;clear hb hbox hg;have hnb10:=NB332_331.out;have hnc10:=NB331_332.out;have hcz11_0:w9.cell? ⟨gb332,0,none⟩=some (.bool a1_0):=(blk_cell BK332.out 0).trans rfl;have hcz11_1:w9.cell? ⟨gb332,1,none⟩=some (.slice A1_1 l1_1.length c1_1):=(blk_cell BK332.out 1).trans rfl;have hcz11_2:w9.cell? ⟨gb332,2,none⟩=some (.slice A1_2 l1_2.length c1_2):=(blk_cell BK332.out 2).trans rfl;have hfz11_0:=blk_frozen BK332.out 0;have hfz11_1:=blk_frozen BK332.out 1;have hfz11_2:=blk_frozen BK332.out 2;have p333:0≤(a2:Int):=of_decide_eq_true (by first|(with_reducible assumption)|assumption);have q333:a2<(l1_1.length:Int):=of_decide_eq_true (by first|(with_reducible assumption)|assumption);obtain ⟨ad333,e333,hx333_0,hx333_1,hx333_2,hx333_3,hx333_4⟩:=at_T50 HR1_1.out a2 p333 q333;cases e333;replace hx333_0:=(HB.out.cell (World.block_lt_of_cell? w _ hx333_0)).trans hx333_0;replace hx333_1:=(HB.out.cell (World.block_lt_of_cell? w _ hx333_1)).trans hx333_1;replace hx333_2:=(HB.out.cell (World.block_lt_of_cell? w _ hx333_2)).trans hx333_2;replace hx333_3:=(HB.out.cell (World.block_lt_of_cell? w _ hx333_3)).trans hx333_3;replace hx333_4:=(HB.out.cell (World.block_lt_of_cell? w _ hx333_4)).trans hx333_4;replace p333:=eq_true p333;replace q333:=eq_true q333)|((with_reducible refine gate_dst (N:=7) rfl ?_);refine box_event ?hg (N:=7) ?hd (cs:=#[.int .i64 0,.int .i64 0,.bool false,.bool false,.int .i64 0]) (t:=50) ?hr ?_;(case hd=>rfl);(case hg=>rfl);(case hr=>first|(go_simp;done)|(go_simp;rfl));intro gb334 hg w12 hbox hb;have n0_:=Aside0.mk (blk_below (g:=gb331) (o:=.cells #[.int .i64 a0_0,.slice A0_1 l0_1.length c0_1] 30 (0,0)) (by exact BK331.out) hb);have n1_:=Aside0.mk (blk_below (g:=gb332) (o:=.cells #[.bool a1_0,.slice (some ad333) l1_1.length c1_1,.slice A1_2 l1_2.length c1_2] 46 (0,0)) (by exact BK332.out) hb);have n2_:=Aside0.mk (below_step (by exact HB.out) hb);have n3_:=Aside0.mk (hbox);have n4_:=Aside0.mk ((by rw [hg];exact (below_size (by exact HB.out)):w.heap.size≤gb334));have n5_:=Aside0.mk ((by rw [hg];exact (below_size (by exact HB.out)):w.heap.size≤gb334));have n6_:=Aside0.mk ((by rw [hg];exact Nat.ne_of_lt (blk_lt (g:=gb331) (o:=.cells #[.int .i64 a0_0,.slice A0_1 l0_1.length c0_1] 30 (0,0)) (by exact BK331.out)):gb331 ≠ gb334));have n7_:=Aside0.mk ((by rw [hg];exact Nat.ne_of_gt (blk_lt (g:=gb331) (o:=.cells #[.int .i64 a0_0,.slice A0_1 l0_1.length c0_1] 30 (0,0)) (by exact BK331.out)):gb334 ≠ gb331));have n8_:=Aside0.mk ((by rw [hg];exact Nat.ne_of_lt (blk_lt (g:=gb332) (o:=.cells #[.bool a1_0,.slice (some ad333) l1_1.length c1_1,.slice A1_2 l1_2.length c1_2] 46 (0,0)) (by (with_reducible repeat (first|refine blk_drewN ?_ _|refine blk_drew ?_|refine blk_alloc ?_ _));exact BK332.out)):gb332 ≠ gb334));have n9_:=Aside0.mk ((by rw [hg];exact Nat.ne_of_gt (blk_lt (g:=gb332) (o:=.cells #[.bool a1_0,.slice (some ad333) l1_1.length c1_1,.slice A1_2 l1_2.length c1_2] 46 (0,0)) (by (with_reducible repeat (first|refine blk_drewN ?_ _|refine blk_drew ?_|refine blk_alloc ?_ _));exact BK332.out)):gb334 ≠ gb332));clear BK331;clear BK332;clear HB;have BK331:=n0_;have BK332:=n1_;have HB:=n2_;have BK334:=n3_;have GW334:=n4_;have GE334:=n5_;have NB331_334:=n6_;have NB334_331:=n7_;have NB332_334:=n8_;have NB334_332:=n9_;clear n0_ n1_ n2_ n3_ n4_ n5_ n6_ n7_ n8_ n9_;clear hb hbox hg;have hnb13:=NB334_331.out;have hnc13:=NB331_334.out;have hnb14:=NB334_332.out;have hnc14:=NB332_334.out;have hcz15_0:w12.cell? ⟨gb334,0,none⟩=some (.int .i64 0):=(blk_cell BK334.out 0).trans rfl;have hcz15_1:w12.cell? ⟨gb334,1,none⟩=some (.int .i64 0):=(blk_cell BK334.out 1).trans rfl;have hcz15_2:w12.cell? ⟨gb334,2,none⟩=some (.bool false):=(blk_cell BK334.out 2).trans rfl;have hcz15_3:w12.cell? ⟨gb334,3,none⟩=some (.bool false):=(blk_cell BK334.out 3).trans rfl;have hcz15_4:w12.cell? ⟨gb334,4,none⟩=some (.int .i64 0):=(blk_cell BK334.out 4).trans rfl;have hfz15_0:=blk_frozen BK334.out 0;have hfz15_1:=blk_frozen BK334.out 1;have hfz15_2:=blk_frozen BK334.out 2;have hfz15_3:=blk_frozen BK334.out 3;have hfz15_4:=blk_frozen BK334.out 4;have hcz16_0:w12.cell? ⟨gb331,0,none⟩=some (.int .i64 a0_0):=(blk_cell BK331.out 0).trans rfl;have hcz16_1:w12.cell? ⟨gb331,1,none⟩=some (.slice A0_1 l0_1.length c0_1):=(blk_cell BK331.out 1).trans rfl;have hfz16_0:=blk_frozen BK331.out 0;have hfz16_1:=blk_frozen BK331.out 1;have hcz17_0:w12.cell? ⟨gb332,0,none⟩=some (.bool a1_0):=(blk_cell BK332.out 0).trans rfl;have hcz17_1:w12.cell? ⟨gb332,1,none⟩=some (.slice (some ad333) l1_1.length c1_1):=(blk_cell BK332.out 1).trans rfl;have hcz17_2:w12.cell? ⟨gb332,2,none⟩=some (.slice A1_2 l1_2.length c1_2):=(blk_cell BK332.out 2).trans rfl;have hfz17_0:=blk_frozen BK332.out 0;have hfz17_1:=blk_frozen BK332.out 1;have hfz17_2:=blk_frozen BK332.out 2)|((with_reducible refine gate_callee (f:=98) rfl ?_);refine goesL_ (some 17) rfl rfl Try.func98 (by kernel_rfl) rfl #[.agg #[.int .i64 a0_0,.slice A0_1 l0_1.length c0_1],.agg #[.bool a1_0,.slice (some ad333) l1_1.length c1_1,.slice A1_2 l1_2.length c1_2],.int .i64 a2] rfl (by (try simp only [List.map_toArray,List.map_cons,List.map_nil]);first|done|rfl|(simp only [List.length_drop,List.length_take];rfl)) ?_;(with_reducible refine (impl_dead.calls k a0_0 _ _ l0_1 a1_0 _ _ l1_1 _ _ l1_2 a2 true _ ?side1 ?side2 ?side3 ?side4 ?side5 ?side6 A6.out).mono ?_);(case side1=>exact Kd.C_below HR0_1.out (by repeat (first|(with_reducible first|exact HB.out|apply below_alloc|apply pw_below_drewN|apply below_drew1|refine below_set ?_ GE331.out|refine below_set ?_ GE332.out|refine below_set ?_ GE334.out)|exact HB.out)));(case side2=>exact HC0_1.out);(case side3=>exact Kd.C_below HR1_1.out (by repeat (first|(with_reducible first|exact HB.out|apply below_alloc|apply pw_below_drewN|apply below_drew1|refine below_set ?_ GE331.out|refine below_set ?_ GE332.out|refine below_set ?_ GE334.out)|exact HB.out)));(case side4=>exact HC1_1.out);(case side5=>exact Kd.C_below HR1_2.out (by repeat (first|(with_reducible first|exact HB.out|apply below_alloc|apply pw_below_drewN|apply below_drew1|refine below_set ?_ GE331.out|refine below_set ?_ GE332.out|refine below_set ?_ GE334.out)|exact HB.out)));(case side6=>exact HC1_2.out);rintro e w18 ⟨rfl,hb⟩;refine ⟨_,rfl,?_⟩;have n0_:=Aside0.mk (blk_below (g:=gb331) (o:=.cells #[.int .i64 a0_0,.slice A0_1 l0_1.length c0_1] 30 (0,0)) (by (with_reducible repeat (first|refine blk_drewN ?_ _|refine blk_drew ?_|refine blk_alloc ?_ _));refine blk_far ?_ NB331_334.out _;(with_reducible repeat (first|refine blk_drewN ?_ _|refine blk_drew ?_|refine blk_alloc ?_ _));refine blk_far ?_ NB331_334.out _;(with_reducible repeat (first|refine blk_drewN ?_ _|refine blk_drew ?_|refine blk_alloc ?_ _));refine blk_far ?_ NB331_334.out _;(with_reducible repeat (first|refine blk_drewN ?_ _|refine blk_drew ?_|refine blk_alloc ?_ _));refine blk_far ?_ NB331_334.out _;(with_reducible repeat (first|refine blk_drewN ?_ _|refine blk_drew ?_|refine blk_alloc ?_ _));refine blk_far ?_ NB331_334.out _;(with_reducible repeat (first|refine blk_drewN ?_ _|refine blk_drew ?_|refine blk_alloc ?_ _));exact BK331.out) hb);have n1_:=Aside0.mk (blk_below (g:=gb332) (o:=.cells #[.bool a1_0,.slice (some ad333) l1_1.length c1_1,.slice A1_2 l1_2.length c1_2] 46 (0,0)) (by (with_reducible repeat (first|refine blk_drewN ?_ _|refine blk_drew ?_|refine blk_alloc ?_ _));refine blk_far ?_ NB332_334.out _;(with_reducible repeat (first|refine blk_drewN ?_ _|refine blk_drew ?_|refine blk_alloc ?_ _));refine blk_far ?_ NB332_334.out _;(with_reducible repeat (first|refine blk_drewN ?_ _|refine blk_drew ?_|refine blk_alloc ?_ _));refine blk_far ?_ NB332_334.out _;(with_reducible repeat (first|refine blk_drewN ?_ _|refine blk_drew ?_|refine blk_alloc ?_ _));refine blk_far ?_ NB332_334.out _;(with_reducible repeat (first|refine blk_drewN ?_ _|refine blk_drew ?_|refine blk_alloc ?_ _));refine blk_far ?_ NB332_334.out _;(with_reducible repeat (first|refine blk_drewN ?_ _|refine blk_drew ?_|refine blk_alloc ?_ _));exact BK332.out) hb);have n2_:=Aside0.mk (blk_below (g:=gb334) (o:=.cells #[.int .i64 ((rd_T50 l1_1 a2).f0),.int .i64 ((rd_T50 l1_1 a2).f1),.bool ((rd_T50 l1_1 a2).f2),.bool ((rd_T50 l1_1 a2).f3),.int .i64 ((rd_T50 l1_1 a2).f4)] 50 (0,0)) (by (with_reducible repeat (first|refine blk_drewN ?_ _|refine blk_drew ?_|refine blk_alloc ?_ _));refine blk_put (cs:=#[.int .i64 ((rd_T50 l1_1 a2).f0),.int .i64 ((rd_T50 l1_1 a2).f1),.bool ((rd_T50 l1_1 a2).f2),.bool ((rd_T50 l1_1 a2).f3),.int .i64 0]) ?_ 4 _ rfl;(with_reducible repeat (first|refine blk_drewN ?_ _|refine blk_drew ?_|refine blk_alloc ?_ _));refine blk_put (cs:=#[.int .i64 ((rd_T50 l1_1 a2).f0),.int .i64 ((rd_T50 l1_1 a2).f1),.bool ((rd_T50 l1_1 a2).f2),.bool false,.int .i64 0]) ?_ 3 _ rfl;(with_reducible repeat (first|refine blk_drewN ?_ _|refine blk_drew ?_|refine blk_alloc ?_ _));refine blk_put (cs:=#[.int .i64 ((rd_T50 l1_1 a2).f0),.int .i64 ((rd_T50 l1_1 a2).f1),.bool false,.bool false,.int .i64 0]) ?_ 2 _ rfl;(with_reducible repeat (first|refine blk_drewN ?_ _|refine blk_drew ?_|refine blk_alloc ?_ _));refine blk_put (cs:=#[.int .i64 ((rd_T50 l1_1 a2).f0),.int .i64 0,.bool false,.bool false,.int .i64 0]) ?_ 1 _ rfl;(with_reducible repeat (first|refine blk_drewN ?_ _|refine blk_drew ?_|refine blk_alloc ?_ _));refine blk_put (cs:=#[.int .i64 0,.int .i64 0,.bool false,.bool false,.int .i64 0]) ?_ 0 _ rfl;(with_reducible repeat (first|refine blk_drewN ?_ _|refine blk_drew ?_|refine blk_alloc ?_ _));exact BK334.out) hb);have n3_:=Aside0.mk (below_step (by repeat (first|(with_reducible first|exact HB.out|apply below_alloc|apply pw_below_drewN|apply below_drew1|refine below_set ?_ GE331.out|refine below_set ?_ GE332.out|refine below_set ?_ GE334.out)|exact HB.out)) hb);clear BK331;clear BK332;clear BK334;clear HB;have BK331:=n0_;have BK332:=n1_;have BK334:=n2_;have HB:=n3_;clear n0_ n1_ n2_ n3_;(try clear hb);(try clear hb2);(try clear hk);(try clear hi)))
    go_ret
    exact ⟨by first|rfl|(simp [errW_none,errW_some] <;> rfl)|(simp [*,errW_none,errW_some] <;> rfl),by exact HB.out⟩
   replace c7:=Bool.eq_false_iff.mpr c7
   subst c7
   have H1:(if (rd_T50 l1_1 a2).f2=true then (impl_told.j0 k true ((rd_T50 l1_1 a2).f0) ((rd_T50 l1_1 a2).f1) ((rd_T50 l1_1 a2).f2) ((rd_T50 l1_1 a2).f3) ((rd_T50 l1_1 a2).f4)) else (if ((rd_T50 l1_1 a2).f1)=0 then (impl_told.j0 k false ((rd_T50 l1_1 a2).f0) ((rd_T50 l1_1 a2).f1) ((rd_T50 l1_1 a2).f2) ((rd_T50 l1_1 a2).f3) ((rd_T50 l1_1 a2).f4)) else (impl_told.j0 k (!((rd_T50 l1_1 a2).f3)) ((rd_T50 l1_1 a2).f0) ((rd_T50 l1_1 a2).f1) ((rd_T50 l1_1 a2).f2) ((rd_T50 l1_1 a2).f3) ((rd_T50 l1_1 a2).f4))))=some r:=by rw [if_neg (show ¬ (false=true) by decide)] at H;exact H
   clear H
   have H:=H1
   clear H1
   have HC19:=Aside0.mk H
   clear H
   go_enter Try.func97,Try.ntmps97
   go_upto_region 4 with (first|((with_reducible refine gate_dst (N:=3) rfl ?_);refine box_event ?hg (N:=3) ?hd (cs:=#[.int .i64 a0_0,.slice A0_1 l0_1.length c0_1]) (t:=30) ?hr ?_;(case hd=>rfl);(case hg=>rfl);(case hr=>first|(go_simp;done)|(go_simp;rfl));intro gb331 hg w20 hbox hb;have n0_:=Aside0.mk (below_step (by exact HB.out) hb);have n1_:=Aside0.mk (hbox);have n2_:=Aside0.mk ((by rw [hg];exact (below_size (by exact HB.out)):w.heap.size≤gb331));have n3_:=Aside0.mk ((by rw [hg];exact (below_size (by exact HB.out)):w.heap.size≤gb331));clear HB;have HB:=n0_;have BK331:=n1_;have GW331:=n2_;have GE331:=n3_;clear n0_ n1_ n2_ n3_;clear hb hbox hg)|((with_reducible refine gate_dst (N:=4) rfl ?_);refine box_event ?hg (N:=4) ?hd (cs:=#[.bool a1_0,.slice A1_1 l1_1.length c1_1,.slice A1_2 l1_2.length c1_2]) (t:=46) ?hr ?_;(case hd=>rfl);(case hg=>rfl);(case hr=>first|(go_simp;done)|(go_simp;rfl));intro gb332 hg w21 hbox hb;have n0_:=Aside0.mk (blk_below (g:=gb331) (o:=.cells #[.int .i64 a0_0,.slice A0_1 l0_1.length c0_1] 30 (0,0)) (by exact BK331.out) hb);have n1_:=Aside0.mk (below_step (by exact HB.out) hb);have n2_:=Aside0.mk (hbox);have n3_:=Aside0.mk ((by rw [hg];exact (below_size (by exact HB.out)):w.heap.size≤gb332));have n4_:=Aside0.mk ((by rw [hg];exact (below_size (by exact HB.out)):w.heap.size≤gb332));have n5_:=Aside0.mk ((by rw [hg];exact Nat.ne_of_lt (blk_lt (g:=gb331) (o:=.cells #[.int .i64 a0_0,.slice A0_1 l0_1.length c0_1] 30 (0,0)) (by exact BK331.out)):gb331 ≠ gb332));have n6_:=Aside0.mk ((by rw [hg];exact Nat.ne_of_gt (blk_lt (g:=gb331) (o:=.cells #[.int .i64 a0_0,.slice A0_1 l0_1.length c0_1] 30 (0,0)) (by exact BK331.out)):gb332 ≠ gb331));clear BK331;clear HB;have BK331:=n0_;have HB:=n1_;have BK332:=n2_;have GW332:=n3_;have GE332:=n4_;have NB331_332:=n5_;have NB332_331:=n6_;clear n0_ n1_ n2_ n3_ n4_ n5_ n6_;clear hb hbox hg;have hnb22:=NB332_331.out;have hnc22:=NB331_332.out;have hcz23_0:w21.cell? ⟨gb332,0,none⟩=some (.bool a1_0):=(blk_cell BK332.out 0).trans rfl;have hcz23_1:w21.cell? ⟨gb332,1,none⟩=some (.slice A1_1 l1_1.length c1_1):=(blk_cell BK332.out 1).trans rfl;have hcz23_2:w21.cell? ⟨gb332,2,none⟩=some (.slice A1_2 l1_2.length c1_2):=(blk_cell BK332.out 2).trans rfl;have hfz23_0:=blk_frozen BK332.out 0;have hfz23_1:=blk_frozen BK332.out 1;have hfz23_2:=blk_frozen BK332.out 2;have p333:0≤(a2:Int):=of_decide_eq_true (by first|(with_reducible assumption)|assumption);have q333:a2<(l1_1.length:Int):=of_decide_eq_true (by first|(with_reducible assumption)|assumption);obtain ⟨ad333,e333,hx333_0,hx333_1,hx333_2,hx333_3,hx333_4⟩:=at_T50 HR1_1.out a2 p333 q333;cases e333;replace hx333_0:=(HB.out.cell (World.block_lt_of_cell? w _ hx333_0)).trans hx333_0;replace hx333_1:=(HB.out.cell (World.block_lt_of_cell? w _ hx333_1)).trans hx333_1;replace hx333_2:=(HB.out.cell (World.block_lt_of_cell? w _ hx333_2)).trans hx333_2;replace hx333_3:=(HB.out.cell (World.block_lt_of_cell? w _ hx333_3)).trans hx333_3;replace hx333_4:=(HB.out.cell (World.block_lt_of_cell? w _ hx333_4)).trans hx333_4;replace p333:=eq_true p333;replace q333:=eq_true q333)|((with_reducible refine gate_dst (N:=7) rfl ?_);refine box_event ?hg (N:=7) ?hd (cs:=#[.int .i64 0,.int .i64 0,.bool false,.bool false,.int .i64 0]) (t:=50) ?hr ?_;(case hd=>rfl);(case hg=>rfl);(case hr=>first|(go_simp;done)|(go_simp;rfl));intro gb334 hg w24 hbox hb;have n0_:=Aside0.mk (blk_below (g:=gb331) (o:=.cells #[.int .i64 a0_0,.slice A0_1 l0_1.length c0_1] 30 (0,0)) (by exact BK331.out) hb);have n1_:=Aside0.mk (blk_below (g:=gb332) (o:=.cells #[.bool a1_0,.slice (some ad333) l1_1.length c1_1,.slice A1_2 l1_2.length c1_2] 46 (0,0)) (by exact BK332.out) hb);have n2_:=Aside0.mk (below_step (by exact HB.out) hb);have n3_:=Aside0.mk (hbox);have n4_:=Aside0.mk ((by rw [hg];exact (below_size (by exact HB.out)):w.heap.size≤gb334));have n5_:=Aside0.mk ((by rw [hg];exact (below_size (by exact HB.out)):w.heap.size≤gb334));have n6_:=Aside0.mk ((by rw [hg];exact Nat.ne_of_lt (blk_lt (g:=gb331) (o:=.cells #[.int .i64 a0_0,.slice A0_1 l0_1.length c0_1] 30 (0,0)) (by exact BK331.out)):gb331 ≠ gb334));have n7_:=Aside0.mk ((by rw [hg];exact Nat.ne_of_gt (blk_lt (g:=gb331) (o:=.cells #[.int .i64 a0_0,.slice A0_1 l0_1.length c0_1] 30 (0,0)) (by exact BK331.out)):gb334 ≠ gb331));have n8_:=Aside0.mk ((by rw [hg];exact Nat.ne_of_lt (blk_lt (g:=gb332) (o:=.cells #[.bool a1_0,.slice (some ad333) l1_1.length c1_1,.slice A1_2 l1_2.length c1_2] 46 (0,0)) (by (with_reducible repeat (first|refine blk_drewN ?_ _|refine blk_drew ?_|refine blk_alloc ?_ _));exact BK332.out)):gb332 ≠ gb334));have n9_:=Aside0.mk ((by rw [hg];exact Nat.ne_of_gt (blk_lt (g:=gb332) (o:=.cells #[.bool a1_0,.slice (some ad333) l1_1.length c1_1,.slice A1_2 l1_2.length c1_2] 46 (0,0)) (by (with_reducible repeat (first|refine blk_drewN ?_ _|refine blk_drew ?_|refine blk_alloc ?_ _));exact BK332.out)):gb334 ≠ gb332));clear BK331;clear BK332;clear HB;have BK331:=n0_;have BK332:=n1_;have HB:=n2_;have BK334:=n3_;have GW334:=n4_;have GE334:=n5_;have NB331_334:=n6_;have NB334_331:=n7_;have NB332_334:=n8_;have NB334_332:=n9_;clear n0_ n1_ n2_ n3_ n4_ n5_ n6_ n7_ n8_ n9_;clear hb hbox hg;have hnb25:=NB334_331.out;have hnc25:=NB331_334.out;have hnb26:=NB334_332.out;have hnc26:=NB332_334.out;have hcz27_0:w24.cell? ⟨gb334,0,none⟩=some (.int .i64 0):=(blk_cell BK334.out 0).trans rfl;have hcz27_1:w24.cell? ⟨gb334,1,none⟩=some (.int .i64 0):=(blk_cell BK334.out 1).trans rfl;have hcz27_2:w24.cell? ⟨gb334,2,none⟩=some (.bool false):=(blk_cell BK334.out 2).trans rfl;have hcz27_3:w24.cell? ⟨gb334,3,none⟩=some (.bool false):=(blk_cell BK334.out 3).trans rfl;have hcz27_4:w24.cell? ⟨gb334,4,none⟩=some (.int .i64 0):=(blk_cell BK334.out 4).trans rfl;have hfz27_0:=blk_frozen BK334.out 0;have hfz27_1:=blk_frozen BK334.out 1;have hfz27_2:=blk_frozen BK334.out 2;have hfz27_3:=blk_frozen BK334.out 3;have hfz27_4:=blk_frozen BK334.out 4;have hcz28_0:w24.cell? ⟨gb331,0,none⟩=some (.int .i64 a0_0):=(blk_cell BK331.out 0).trans rfl;have hcz28_1:w24.cell? ⟨gb331,1,none⟩=some (.slice A0_1 l0_1.length c0_1):=(blk_cell BK331.out 1).trans rfl;have hfz28_0:=blk_frozen BK331.out 0;have hfz28_1:=blk_frozen BK331.out 1;have hcz29_0:w24.cell? ⟨gb332,0,none⟩=some (.bool a1_0):=(blk_cell BK332.out 0).trans rfl;have hcz29_1:w24.cell? ⟨gb332,1,none⟩=some (.slice (some ad333) l1_1.length c1_1):=(blk_cell BK332.out 1).trans rfl;have hcz29_2:w24.cell? ⟨gb332,2,none⟩=some (.slice A1_2 l1_2.length c1_2):=(blk_cell BK332.out 2).trans rfl;have hfz29_0:=blk_frozen BK332.out 0;have hfz29_1:=blk_frozen BK332.out 1;have hfz29_2:=blk_frozen BK332.out 2)|((with_reducible refine gate_callee (f:=98) rfl ?_);refine goesL_ (some 17) rfl rfl Try.func98 (by kernel_rfl) rfl #[.agg #[.int .i64 a0_0,.slice A0_1 l0_1.length c0_1],.agg #[.bool a1_0,.slice (some ad333) l1_1.length c1_1,.slice A1_2 l1_2.length c1_2],.int .i64 a2] rfl (by (try simp only [List.map_toArray,List.map_cons,List.map_nil]);first|done|rfl|(simp only [List.length_drop,List.length_take];rfl)) ?_;(with_reducible refine (impl_dead.calls k a0_0 _ _ l0_1 a1_0 _ _ l1_1 _ _ l1_2 a2 false _ ?side1 ?side2 ?side3 ?side4 ?side5 ?side6 A6.out).mono ?_);(case side1=>exact Kd.C_below HR0_1.out (by repeat (first|(with_reducible first|exact HB.out|apply below_alloc|apply pw_below_drewN|apply below_drew1|refine below_set ?_ GE331.out|refine below_set ?_ GE332.out|refine below_set ?_ GE334.out)|exact HB.out)));(case side2=>exact HC0_1.out);(case side3=>exact Kd.C_below HR1_1.out (by repeat (first|(with_reducible first|exact HB.out|apply below_alloc|apply pw_below_drewN|apply below_drew1|refine below_set ?_ GE331.out|refine below_set ?_ GE332.out|refine below_set ?_ GE334.out)|exact HB.out)));(case side4=>exact HC1_1.out);(case side5=>exact Kd.C_below HR1_2.out (by repeat (first|(with_reducible first|exact HB.out|apply below_alloc|apply pw_below_drewN|apply below_drew1|refine below_set ?_ GE331.out|refine below_set ?_ GE332.out|refine below_set ?_ GE334.out)|exact HB.out)));(case side6=>exact HC1_2.out);rintro e w30 ⟨rfl,hb⟩;refine ⟨_,rfl,?_⟩;have n0_:=Aside0.mk (blk_below (g:=gb331) (o:=.cells #[.int .i64 a0_0,.slice A0_1 l0_1.length c0_1] 30 (0,0)) (by (with_reducible repeat (first|refine blk_drewN ?_ _|refine blk_drew ?_|refine blk_alloc ?_ _));refine blk_far ?_ NB331_334.out _;(with_reducible repeat (first|refine blk_drewN ?_ _|refine blk_drew ?_|refine blk_alloc ?_ _));refine blk_far ?_ NB331_334.out _;(with_reducible repeat (first|refine blk_drewN ?_ _|refine blk_drew ?_|refine blk_alloc ?_ _));refine blk_far ?_ NB331_334.out _;(with_reducible repeat (first|refine blk_drewN ?_ _|refine blk_drew ?_|refine blk_alloc ?_ _));refine blk_far ?_ NB331_334.out _;(with_reducible repeat (first|refine blk_drewN ?_ _|refine blk_drew ?_|refine blk_alloc ?_ _));refine blk_far ?_ NB331_334.out _;(with_reducible repeat (first|refine blk_drewN ?_ _|refine blk_drew ?_|refine blk_alloc ?_ _));exact BK331.out) hb);have n1_:=Aside0.mk (blk_below (g:=gb332) (o:=.cells #[.bool a1_0,.slice (some ad333) l1_1.length c1_1,.slice A1_2 l1_2.length c1_2] 46 (0,0)) (by (with_reducible repeat (first|refine blk_drewN ?_ _|refine blk_drew ?_|refine blk_alloc ?_ _));refine blk_far ?_ NB332_334.out _;(with_reducible repeat (first|refine blk_drewN ?_ _|refine blk_drew ?_|refine blk_alloc ?_ _));refine blk_far ?_ NB332_334.out _;(with_reducible repeat (first|refine blk_drewN ?_ _|refine blk_drew ?_|refine blk_alloc ?_ _));refine blk_far ?_ NB332_334.out _;(with_reducible repeat (first|refine blk_drewN ?_ _|refine blk_drew ?_|refine blk_alloc ?_ _));refine blk_far ?_ NB332_334.out _;(with_reducible repeat (first|refine blk_drewN ?_ _|refine blk_drew ?_|refine blk_alloc ?_ _));refine blk_far ?_ NB332_334.out _;(with_reducible repeat (first|refine blk_drewN ?_ _|refine blk_drew ?_|refine blk_alloc ?_ _));exact BK332.out) hb);have n2_:=Aside0.mk (blk_below (g:=gb334) (o:=.cells #[.int .i64 ((rd_T50 l1_1 a2).f0),.int .i64 ((rd_T50 l1_1 a2).f1),.bool ((rd_T50 l1_1 a2).f2),.bool ((rd_T50 l1_1 a2).f3),.int .i64 ((rd_T50 l1_1 a2).f4)] 50 (0,0)) (by (with_reducible repeat (first|refine blk_drewN ?_ _|refine blk_drew ?_|refine blk_alloc ?_ _));refine blk_put (cs:=#[.int .i64 ((rd_T50 l1_1 a2).f0),.int .i64 ((rd_T50 l1_1 a2).f1),.bool ((rd_T50 l1_1 a2).f2),.bool ((rd_T50 l1_1 a2).f3),.int .i64 0]) ?_ 4 _ rfl;(with_reducible repeat (first|refine blk_drewN ?_ _|refine blk_drew ?_|refine blk_alloc ?_ _));refine blk_put (cs:=#[.int .i64 ((rd_T50 l1_1 a2).f0),.int .i64 ((rd_T50 l1_1 a2).f1),.bool ((rd_T50 l1_1 a2).f2),.bool false,.int .i64 0]) ?_ 3 _ rfl;(with_reducible repeat (first|refine blk_drewN ?_ _|refine blk_drew ?_|refine blk_alloc ?_ _));refine blk_put (cs:=#[.int .i64 ((rd_T50 l1_1 a2).f0),.int .i64 ((rd_T50 l1_1 a2).f1),.bool false,.bool false,.int .i64 0]) ?_ 2 _ rfl;(with_reducible repeat (first|refine blk_drewN ?_ _|refine blk_drew ?_|refine blk_alloc ?_ _));refine blk_put (cs:=#[.int .i64 ((rd_T50 l1_1 a2).f0),.int .i64 0,.bool false,.bool false,.int .i64 0]) ?_ 1 _ rfl;(with_reducible repeat (first|refine blk_drewN ?_ _|refine blk_drew ?_|refine blk_alloc ?_ _));refine blk_put (cs:=#[.int .i64 0,.int .i64 0,.bool false,.bool false,.int .i64 0]) ?_ 0 _ rfl;(with_reducible repeat (first|refine blk_drewN ?_ _|refine blk_drew ?_|refine blk_alloc ?_ _));exact BK334.out) hb);have n3_:=Aside0.mk (below_step (by repeat (first|(with_reducible first|exact HB.out|apply below_alloc|apply pw_below_drewN|apply below_drew1|refine below_set ?_ GE331.out|refine below_set ?_ GE332.out|refine below_set ?_ GE334.out)|exact HB.out)) hb);clear BK331;clear BK332;clear BK334;clear HB;have BK331:=n0_;have BK332:=n1_;have BK334:=n2_;have HB:=n3_;clear n0_ n1_ n2_ n3_;(try clear hb);(try clear hb2);(try clear hk);(try clear hi)))
   (try simp only [Act.put,List.setIfInBounds_toArray,List.set_cons_zero,List.set_cons_succ])
   go_cut [18] (fun v18 wc=>∃ (kq:Nat) (x18_18:Bool),v18=.bool x18_18∧Aside0 (impl_told.j0 kq x18_18 ((rd_T50 l1_1 a2).f0) ((rd_T50 l1_1 a2).f1) ((rd_T50 l1_1 a2).f2) ((rd_T50 l1_1 a2).f3) ((rd_T50 l1_1 a2).f4)=some r)∧Aside0 (kq≤k)∧Aside0 (wc.heap[gb331]?=some (.cells #[.int .i64 a0_0,(.slice A0_1 l0_1.length c0_1)] 30 (0,0)))∧Aside0 (wc.heap[gb332]?=some (.cells #[.bool a1_0,(.slice (some ad333) l1_1.length c1_1),(.slice A1_2 l1_2.length c1_2)] 46 (0,0)))∧Aside0 (wc.heap[gb334]?=some (.cells #[.int .i64 ((rd_T50 l1_1 a2).f0),.int .i64 ((rd_T50 l1_1 a2).f1),.bool ((rd_T50 l1_1 a2).f2),.bool ((rd_T50 l1_1 a2).f3),.int .i64 ((rd_T50 l1_1 a2).f4)] 50 (0,0)))∧Aside0 (Below w.heap.size w wc))
   case first =>
    have H:=HC19.out
    clear HC19
    obtain ⟨bq31,hbq31⟩:∃ b_:Bool,b_=((rd_T50 l1_1 a2).f2):=⟨_,rfl⟩
    replace H:(if bq31=true then (impl_told.j0 k true ((rd_T50 l1_1 a2).f0) ((rd_T50 l1_1 a2).f1) bq31 ((rd_T50 l1_1 a2).f3) ((rd_T50 l1_1 a2).f4)) else (if ((rd_T50 l1_1 a2).f1)=0 then (impl_told.j0 k false ((rd_T50 l1_1 a2).f0) ((rd_T50 l1_1 a2).f1) bq31 ((rd_T50 l1_1 a2).f3) ((rd_T50 l1_1 a2).f4)) else (impl_told.j0 k (!((rd_T50 l1_1 a2).f3)) ((rd_T50 l1_1 a2).f0) ((rd_T50 l1_1 a2).f1) bq31 ((rd_T50 l1_1 a2).f3) ((rd_T50 l1_1 a2).f4))))=some r:=by rw [← hbq31] at H;exact H
    have Nbq31:=Aside0.mk hbq31
    clear hbq31
    (try rw [← Nbq31.out])
    by_cases c32:bq31=true
    ·subst c32
     have H1:(impl_told.j0 k true ((rd_T50 l1_1 a2).f0) ((rd_T50 l1_1 a2).f1) true ((rd_T50 l1_1 a2).f3) ((rd_T50 l1_1 a2).f4))=some r:=by rw [if_pos rfl] at H;exact H
     clear H
     have H:=H1
     clear H1
     have H':=Aside0.mk H
     clear H
     have hnb33:=NB334_331.out
     have hnc33:=NB331_334.out
     have hnb34:=NB334_332.out
     have hnc34:=NB332_334.out
     have hcz35_0:w30.cell? ⟨gb334,0,none⟩=some (.int .i64 ((rd_T50 l1_1 a2).f0)):=(blk_cell BK334.out 0).trans rfl
     have hcz35_1:w30.cell? ⟨gb334,1,none⟩=some (.int .i64 ((rd_T50 l1_1 a2).f1)):=(blk_cell BK334.out 1).trans rfl
     have hcz35_2:w30.cell? ⟨gb334,2,none⟩=some (.bool true):=(blk_cell BK334.out 2).trans (congrArg (fun b_=>some (Value.bool b_)) Nbq31.out.symm)
     have hcz35_3:w30.cell? ⟨gb334,3,none⟩=some (.bool ((rd_T50 l1_1 a2).f3)):=(blk_cell BK334.out 3).trans rfl
     have hcz35_4:w30.cell? ⟨gb334,4,none⟩=some (.int .i64 ((rd_T50 l1_1 a2).f4)):=(blk_cell BK334.out 4).trans rfl
     have hfz35_0:=blk_frozen BK334.out 0
     have hfz35_1:=blk_frozen BK334.out 1
     have hfz35_2:=blk_frozen BK334.out 2
     have hfz35_3:=blk_frozen BK334.out 3
     have hfz35_4:=blk_frozen BK334.out 4
     go_wp2
     go_meet
     case rel=>exact ⟨_,(true),(by first|rfl|(simp;done)|(simp [*];done)),(by first|exact H'|(rw [← Nbq31.out];exact H')),⟨by first|omega|exact Nat.le_refl _⟩,⟨by exact BK331.out⟩,⟨by exact BK332.out⟩,⟨by exact BK334.out⟩,⟨by exact HB.out⟩⟩
    replace c32:=Bool.eq_false_iff.mpr c32
    subst c32
    have H1:(if ((rd_T50 l1_1 a2).f1)=0 then (impl_told.j0 k false ((rd_T50 l1_1 a2).f0) ((rd_T50 l1_1 a2).f1) false ((rd_T50 l1_1 a2).f3) ((rd_T50 l1_1 a2).f4)) else (impl_told.j0 k (!((rd_T50 l1_1 a2).f3)) ((rd_T50 l1_1 a2).f0) ((rd_T50 l1_1 a2).f1) false ((rd_T50 l1_1 a2).f3) ((rd_T50 l1_1 a2).f4)))=some r:=by rw [if_neg (show ¬ (false=true) by decide)] at H;exact H
    clear H
    have H:=H1
    clear H1
    by_cases c36:((rd_T50 l1_1 a2).f1)=0
    ·rw [if_pos c36] at H
     have c36b0:(((rd_T50 l1_1 a2).f1)==0)=true:=beq_iff_eq.mpr c36
     have c36b1:(((rd_T50 l1_1 a2).f1) != 0)=false:=bne_eq_false_iff_eq.mpr c36
     clear c36
     have H':=Aside0.mk H
     clear H
     have hnb37:=NB334_331.out
     have hnc37:=NB331_334.out
     have hnb38:=NB334_332.out
     have hnc38:=NB332_334.out
     have hcz39_0:w30.cell? ⟨gb334,0,none⟩=some (.int .i64 ((rd_T50 l1_1 a2).f0)):=(blk_cell BK334.out 0).trans rfl
     have hcz39_1:w30.cell? ⟨gb334,1,none⟩=some (.int .i64 ((rd_T50 l1_1 a2).f1)):=(blk_cell BK334.out 1).trans rfl
     have hcz39_2:w30.cell? ⟨gb334,2,none⟩=some (.bool false):=(blk_cell BK334.out 2).trans (congrArg (fun b_=>some (Value.bool b_)) Nbq31.out.symm)
     have hcz39_3:w30.cell? ⟨gb334,3,none⟩=some (.bool ((rd_T50 l1_1 a2).f3)):=(blk_cell BK334.out 3).trans rfl
     have hcz39_4:w30.cell? ⟨gb334,4,none⟩=some (.int .i64 ((rd_T50 l1_1 a2).f4)):=(blk_cell BK334.out 4).trans rfl
     have hfz39_0:=blk_frozen BK334.out 0
     have hfz39_1:=blk_frozen BK334.out 1
     have hfz39_2:=blk_frozen BK334.out 2
     have hfz39_3:=blk_frozen BK334.out 3
     have hfz39_4:=blk_frozen BK334.out 4
     go_wp2
     go_meet
     case rel=>exact ⟨_,(false),(by first|rfl|(simp;done)|(simp [*];done)),(by first|exact H'|(rw [← Nbq31.out];exact H')),⟨by first|omega|exact Nat.le_refl _⟩,⟨by exact BK331.out⟩,⟨by exact BK332.out⟩,⟨by exact BK334.out⟩,⟨by exact HB.out⟩⟩
    rw [if_neg c36] at H
    have c36b0:(((rd_T50 l1_1 a2).f1)==0)=false:=beq_eq_false_iff_ne.mpr c36
    have c36b1:(((rd_T50 l1_1 a2).f1) != 0)=true:=bne_iff_ne.mpr c36
    have H':=Aside0.mk H
    clear H
    have hnb40:=NB334_331.out
    have hnc40:=NB331_334.out
    have hnb41:=NB334_332.out
    have hnc41:=NB332_334.out
    have hcz42_0:w30.cell? ⟨gb334,0,none⟩=some (.int .i64 ((rd_T50 l1_1 a2).f0)):=(blk_cell BK334.out 0).trans rfl
    have hcz42_1:w30.cell? ⟨gb334,1,none⟩=some (.int .i64 ((rd_T50 l1_1 a2).f1)):=(blk_cell BK334.out 1).trans rfl
    have hcz42_2:w30.cell? ⟨gb334,2,none⟩=some (.bool false):=(blk_cell BK334.out 2).trans (congrArg (fun b_=>some (Value.bool b_)) Nbq31.out.symm)
    have hcz42_3:w30.cell? ⟨gb334,3,none⟩=some (.bool ((rd_T50 l1_1 a2).f3)):=(blk_cell BK334.out 3).trans rfl
    have hcz42_4:w30.cell? ⟨gb334,4,none⟩=some (.int .i64 ((rd_T50 l1_1 a2).f4)):=(blk_cell BK334.out 4).trans rfl
    have hfz42_0:=blk_frozen BK334.out 0
    have hfz42_1:=blk_frozen BK334.out 1
    have hfz42_2:=blk_frozen BK334.out 2
    have hfz42_3:=blk_frozen BK334.out 3
    have hfz42_4:=blk_frozen BK334.out 4
    go_wp2
    go_meet
    case rel=>exact ⟨_,(!((rd_T50 l1_1 a2).f3)),(by first|rfl|(simp;done)|(simp [*];done)),(by first|exact H'|(rw [← Nbq31.out];exact H')),⟨by first|omega|exact Nat.le_refl _⟩,⟨by exact BK331.out⟩,⟨by exact BK332.out⟩,⟨by exact BK334.out⟩,⟨by exact HB.out⟩⟩
   case rest =>
    clear HC19
    try clear c1
    try clear c2
    try clear p2
    try clear c3
    try clear p3
    try clear q3
    try clear hx3
    try clear c4
    try clear c4b0
    try clear c5
    try clear c5b0
    try clear c7
    try clear c9
    try clear c10
    try clear c13
    try clear c14
    try clear c22
    try clear c25
    try clear c26
    try clear q31
    try clear c32
    try clear c33
    try clear p33
    try clear q33
    try clear hx33
    try clear c34
    try clear c36
    try clear c36b0
    try clear c36b1
    try clear c37
    try clear c38
    try clear c40
    try clear c41
    try clear hcz11_0
    try clear hcz11_1
    try clear hcz11_2
    try clear hcz15_0
    try clear hcz15_1
    try clear hcz15_2
    try clear hcz15_3
    try clear hcz15_4
    try clear hcz16_0
    try clear hcz16_1
    try clear hcz17_0
    try clear hcz17_1
    try clear hcz17_2
    try clear hcz23_0
    try clear hcz23_1
    try clear hcz23_2
    try clear hcz27_0
    try clear hcz27_1
    try clear hcz27_2
    try clear hcz27_3
    try clear hcz27_4
    try clear hcz28_0
    try clear hcz28_1
    try clear hcz29_0
    try clear hcz29_1
    try clear hcz29_2
    try clear hcz35_0
    try clear hcz35_1
    try clear hcz35_2
    try clear hcz35_3
    try clear hcz35_4
    try clear hcz39_0
    try clear hcz39_1
    try clear hcz39_2
    try clear hcz39_3
    try clear hcz39_4
    try clear hcz42_0
    try clear hcz42_1
    try clear hcz42_2
    try clear hcz42_3
    try clear hcz42_4
    try clear hfz11_0
    try clear hfz11_1
    try clear hfz11_2
    try clear hfz15_0
    try clear hfz15_1
    try clear hfz15_2
    try clear hfz15_3
    try clear hfz15_4
    try clear hfz16_0
    try clear hfz16_1
    try clear hfz17_0
    try clear hfz17_1
    try clear hfz17_2
    try clear hfz23_0
    try clear hfz23_1
    try clear hfz23_2
    try clear hfz27_0
    try clear hfz27_1
    try clear hfz27_2
    try clear hfz27_3
    try clear hfz27_4
    try clear hfz28_0
    try clear hfz28_1
    try clear hfz29_0
    try clear hfz29_1
    try clear hfz29_2
    try clear hfz35_0
    try clear hfz35_1
    try clear hfz35_2
    try clear hfz35_3
    try clear hfz35_4
    try clear hfz39_0
    try clear hfz39_1
    try clear hfz39_2
    try clear hfz39_3
    try clear hfz39_4
    try clear hfz42_0
    try clear hfz42_1
    try clear hfz42_2
    try clear hfz42_3
    try clear hfz42_4
    try clear hx333_0
    try clear hx333_1
    try clear hx333_2
    try clear hx333_3
    try clear hx333_4
    try clear p333
    try clear q333
    obtain ⟨kq,x18_18,rfl,HA,HJ18,BK331,BK332,BK334,HB⟩:=hcut
    cases kq with
    | zero=>exact absurd HA.out (by simp [impl_told.j0])
    | succ kj18 =>
     have H:=HA.out
     clear HA
     simp only [impl_told.j0] at H
     by_cases c43:x18_18=true
     ·subst c43
      have H1:(some 1)=some r:=by rw [if_pos rfl] at H;exact H
      clear H
      have H:=H1
      clear H1
      obtain rfl:=Option.some.inj H
      go_wp2
      go_ret
      exact ⟨by first|rfl|(simp [errW_none,errW_some] <;> rfl)|(simp [*,errW_none,errW_some] <;> rfl),by exact HB.out⟩
     replace c43:=Bool.eq_false_iff.mpr c43
     subst c43
     have H1:(if ((rd_T50 l1_1 a2).f3)=true then (some 2) else (some 0))=some r:=by rw [if_neg (show ¬ (false=true) by decide)] at H;exact H
     clear H
     have H:=H1
     clear H1
     by_cases c44:((rd_T50 l1_1 a2).f3)=true
     ·rw [if_pos c44] at H
      have c44b0:((rd_T50 l1_1 a2).f3)=true:=c44
      clear c44
      obtain rfl:=Option.some.inj H
      have hnb45:=NB334_331.out
      have hnc45:=NB331_334.out
      have hnb46:=NB334_332.out
      have hnc46:=NB332_334.out
      have hcz47_0:wc.cell? ⟨gb334,0,none⟩=some (.int .i64 ((rd_T50 l1_1 a2).f0)):=(blk_cell BK334.out 0).trans rfl
      have hcz47_1:wc.cell? ⟨gb334,1,none⟩=some (.int .i64 ((rd_T50 l1_1 a2).f1)):=(blk_cell BK334.out 1).trans rfl
      have hcz47_2:wc.cell? ⟨gb334,2,none⟩=some (.bool ((rd_T50 l1_1 a2).f2)):=(blk_cell BK334.out 2).trans rfl
      have hcz47_3:wc.cell? ⟨gb334,3,none⟩=some (.bool ((rd_T50 l1_1 a2).f3)):=(blk_cell BK334.out 3).trans rfl
      have hcz47_4:wc.cell? ⟨gb334,4,none⟩=some (.int .i64 ((rd_T50 l1_1 a2).f4)):=(blk_cell BK334.out 4).trans rfl
      have hfz47_0:=blk_frozen BK334.out 0
      have hfz47_1:=blk_frozen BK334.out 1
      have hfz47_2:=blk_frozen BK334.out 2
      have hfz47_3:=blk_frozen BK334.out 3
      have hfz47_4:=blk_frozen BK334.out 4
      go_wp2
      go_ret
      exact ⟨by first|rfl|(simp [errW_none,errW_some] <;> rfl)|(simp [*,errW_none,errW_some] <;> rfl),by exact HB.out⟩
     rw [if_neg c44] at H
     have c44b0:((rd_T50 l1_1 a2).f3)=false:=by simpa using c44
     clear c44
     obtain rfl:=Option.some.inj H
     have hnb48:=NB334_331.out
     have hnc48:=NB331_334.out
     have hnb49:=NB334_332.out
     have hnc49:=NB332_334.out
     have hcz50_0:wc.cell? ⟨gb334,0,none⟩=some (.int .i64 ((rd_T50 l1_1 a2).f0)):=(blk_cell BK334.out 0).trans rfl
     have hcz50_1:wc.cell? ⟨gb334,1,none⟩=some (.int .i64 ((rd_T50 l1_1 a2).f1)):=(blk_cell BK334.out 1).trans rfl
     have hcz50_2:wc.cell? ⟨gb334,2,none⟩=some (.bool ((rd_T50 l1_1 a2).f2)):=(blk_cell BK334.out 2).trans rfl
     have hcz50_3:wc.cell? ⟨gb334,3,none⟩=some (.bool ((rd_T50 l1_1 a2).f3)):=(blk_cell BK334.out 3).trans rfl
     have hcz50_4:wc.cell? ⟨gb334,4,none⟩=some (.int .i64 ((rd_T50 l1_1 a2).f4)):=(blk_cell BK334.out 4).trans rfl
     have hfz50_0:=blk_frozen BK334.out 0
     have hfz50_1:=blk_frozen BK334.out 1
     have hfz50_2:=blk_frozen BK334.out 2
     have hfz50_3:=blk_frozen BK334.out 3
     have hfz50_4:=blk_frozen BK334.out 4
     go_wp2
     go_ret
     exact ⟨by first|rfl|(simp [errW_none,errW_some] <;> rfl)|(simp [*,errW_none,errW_some] <;> rfl),by exact HB.out⟩
  rw [if_neg c5] at H
  exact absurd H (by simp)
 rw [if_neg c4] at H
 exact absurd H (by simp)
end Go.Proofs.Ytpdnabhpkdchjaa.P
namespace Go.Proofs.Ytpdnabhpkdchjaa.P
open Go.RowKit Go.Proofs.YtpdnabhpkdchjaaW.PrintWords Go.Proofs.YtpdnabhpkdchjaaW.PrintLast Go.Proofs.YtpdnabhpkdchjaaW.PrintMore
attribute [local go_sem] max2_int min2_int max_two min_two max_three min_three max_four min_four
set_option linter.unusedVariables false
set_option linter.unusedSimpArgs false
def spec_l2dead.l0:Nat→List Bool→List Int→Int→Int→Option (Bool)
 | 0,_,_,_,_=>none
 | k+1,x1,x11,x12,x13=>if x13<x12 then (if 0≤x13 then (if x13<(x11.length:Int) then (if 0≤(rd x11 x13) then (if (rd x11 x13)<(x1.length:Int) then (if rdOf false x1 (rd x11 x13)=true then (some true) else (spec_l2dead.l0 k x1 x11 x12 (wrap64 (x13+1)))) else (none)) else (none)) else (none)) else (none)) else (some false)
def spec_l2dead.f (k:Nat) (a0_0:Int) (l0_1:List (S88)) (l1:List Bool) (a2:Int):Option (Bool):=(spec_Around.f k a0_0 l0_1 a2).bind fun t235=>(spec_l2dead.l0 k l1 t235 (t235.length:Int) 0)
set_option maxHeartbeats 8000000 in
set_option maxRecDepth 100000 in
theorem spec_l2dead.calls (k:Nat) (a0_0:Int) (A0_1:Option Addr) (c0_1:Nat) (l0_1:List (S88)) (A1:Option Addr) (c1:Nat) (l1:List Bool) (a2:Int) (r:Bool) (w:World) (hr0_1:Kd.C k88 w A0_1 l0_1.length l0_1) (hc0_1:l0_1.length≤c0_1) (hr1:Kd.C Kd.bool w A1 l1.length l1) (hc1:l1.length≤c1) (h:spec_l2dead.f k a0_0 l0_1 l1 a2=some r) :
  Calls Try.prog 114 #[.agg #[.int .i64 a0_0,.slice A0_1 l0_1.length c0_1],.slice A1 l1.length c1,.int .i64 a2] w fun e w'=>e=.returned (.bool r)∧Below w.heap.size w w':=by
 have hu30:=Try.underlying30
 have HR0_1:=Aside0.mk hr0_1
 have HC0_1:=Aside0.mk hc0_1
 clear hr0_1 hc0_1
 have HR1:=Aside0.mk hr1
 have HC1:=Aside0.mk hc1
 clear hr1 hc1
 have HB:=Aside0.mk (Below.refl w.heap.size w)
 have H:((spec_Around.f k a0_0 l0_1 a2).bind fun t235=>(spec_l2dead.l0 k l1 t235 (t235.length:Int) 0))=some r:=h
 clear h
 replace H:=Option.bind_eq_some_iff.mp H
 obtain ⟨t235,A40,H⟩:=H
 replace H:(spec_l2dead.l0 k l1 t235 (t235.length:Int) 0)=some r:=H
 have A4:=Aside0.mk A40
 clear A40
 have H':=Aside0.mk H
 clear H
 go_enter Try.func114,Try.ntmps114
 go_wp2_with (first|((with_reducible refine gate_dst (N:=3) rfl ?_);refine box_event ?hg (N:=3) ?hd (cs:=#[.int .i64 a0_0,.slice A0_1 l0_1.length c0_1]) (t:=30) ?hr ?_;(case hd=>rfl);(case hg=>rfl);(case hr=>first|(go_simp;done)|(go_simp;rfl));intro gb234 hg w5 hbox hb;have n0_:=Aside0.mk (below_step (by repeat (first|(with_reducible first|exact HB.out|apply below_alloc|apply pw_below_drewN|apply below_drew1)|exact HB.out)) hb);have n1_:=Aside0.mk (hbox);have n2_:=Aside0.mk ((by rw [hg];exact (below_size (by repeat (first|(with_reducible first|exact HB.out|apply below_alloc|apply pw_below_drewN|apply below_drew1)|exact HB.out))):w.heap.size≤gb234));have n3_:=Aside0.mk ((by rw [hg];exact (below_size (by repeat (first|(with_reducible first|exact HB.out|apply below_alloc|apply pw_below_drewN|apply below_drew1)|exact HB.out))):w.heap.size≤gb234));clear HB;have HB:=n0_;have BK234:=n1_;have GW234:=n2_;have GE234:=n3_;clear n0_ n1_ n2_ n3_;clear hb hbox hg;have hcz6_0:w5.cell? ⟨gb234,0,none⟩=some (.int .i64 a0_0):=(blk_cell BK234.out 0).trans rfl;have hcz6_1:w5.cell? ⟨gb234,1,none⟩=some (.slice A0_1 l0_1.length c0_1):=(blk_cell BK234.out 1).trans rfl;have hfz6_0:=blk_frozen BK234.out 0;have hfz6_1:=blk_frozen BK234.out 1)|((with_reducible refine gate_callee (f:=37) rfl ?_);refine goesL_ (some 11) rfl rfl Try.func37 (by kernel_rfl) rfl #[.agg #[.int .i64 a0_0,.slice A0_1 l0_1.length c0_1],.int .i64 a2] rfl (by (try simp only [List.map_toArray,List.map_cons,List.map_nil]);first|done|rfl|(simp only [List.length_drop,List.length_take];rfl)) ?_;(with_reducible refine (spec_Around.calls k a0_0 _ _ l0_1 a2 t235 _ ?side1 ?side2 A4.out).mono ?_);(case side1=>repeat (first|exact (Kd.C_below HR0_1.out HB.out)|(with_reducible refine Kd.C_alloc ?_ _)|(with_reducible refine Kd.C_drewN ?_ _)|(with_reducible refine Kd.C_drew ?_)));(case side2=>exact HC0_1.out);rintro e w7 ⟨v236,rfl,ho0,hb⟩;refine ⟨_,rfl,?_⟩;have n0_:=Aside0.mk (Kd.R_lower ho0 (below_size (by repeat (first|(with_reducible first|exact HB.out|apply below_alloc|apply pw_below_drewN|apply below_drew1|refine below_set ?_ GE234.out)|exact HB.out))));have n1_:=Aside0.mk (blk_below (g:=gb234) (o:=.cells #[.int .i64 a0_0,.slice A0_1 l0_1.length c0_1] 30 (0,0)) (by (with_reducible repeat (first|refine blk_drewN ?_ _|refine blk_drew ?_|refine blk_alloc ?_ _));exact BK234.out) hb);have n2_:=Aside0.mk (below_step (by repeat (first|(with_reducible first|exact HB.out|apply below_alloc|apply pw_below_drewN|apply below_drew1|refine below_set ?_ GE234.out)|exact HB.out)) hb);clear BK234;clear HB;have HO237:=n0_;have BK234:=n1_;have HB:=n2_;clear n0_ n1_ n2_;(try clear hb);(try clear hb2);(try clear hk);(try clear hi);(try clear ho0);obtain ⟨Ao8,co8,eo8⟩:=Kd.R_slice HO237.out;subst eo8))
 go_loopg [13] k (fun kq v13 w'=>∃ (x13_1:Int),v13=.int .i64 x13_1∧Aside0 (spec_l2dead.l0 kq l1 t235 (t235.length:Int) x13_1=some r)∧Aside0 (kq≤k)∧Aside0 (Kd.R (Kd.int .i64) 3 w' w.heap.size (fun _=>True) (.slice Ao8 t235.length co8) t235)∧Aside0 (w'.heap[gb234]?=some (.cells #[.int .i64 a0_0,(.slice A0_1 l0_1.length c0_1)] 30 (0,0)))∧Aside0 (Below w.heap.size w w'))
 case atStart=>exact ⟨(0),(by first|rfl|(simp;done)|(simp [*];done)),H',⟨Nat.le_refl _⟩,⟨by (with_reducible repeat (first|apply Kd.R_alloc|apply Kd.R_drewN|apply Kd.R_drew));exact HO237.out⟩,⟨by (with_reducible repeat (first|refine blk_drewN ?_ _|refine blk_drew ?_|refine blk_alloc ?_ _));exact BK234.out⟩,⟨by repeat (first|(with_reducible first|exact HB.out|apply below_alloc|apply pw_below_drewN|apply below_drew1|refine below_set ?_ GE234.out)|exact HB.out)⟩⟩
 case round =>
  clear H'
  try clear c1
  try clear p2
  try clear c3
  try clear hcz6_0
  try clear hcz6_1
  try clear hfz6_0
  try clear hfz6_1
  obtain ⟨x13_1,rfl,HA,HK1,HO_11,BK234,HB⟩:=hrel
  cases gk with
  | zero=>exact absurd HA.out (by simp [spec_l2dead.l0])
  | succ k1 =>
   have H:=HA.out
   clear HA
   simp only [spec_l2dead.l0] at H
   by_cases c9:x13_1<(t235.length:Int)
   ·rw [if_pos c9] at H
    have c9b0:decide (x13_1<(t235.length:Int))=true:=decide_eq_true c9
    clear c9
    by_cases c10:0≤x13_1
    ·rw [if_pos c10] at H
     have c10b0:decide (0≤x13_1)=true:=decide_eq_true c10
     clear c10
     by_cases c11:x13_1<(t235.length:Int)
     ·rw [if_pos c11] at H
      have c11b0:decide (x13_1<(t235.length:Int))=true:=decide_eq_true c11
      clear c11
      by_cases c12:0≤(rd t235 x13_1)
      ·rw [if_pos c12] at H
       have c12b0:decide (0≤(rd t235 x13_1))=true:=decide_eq_true c12
       clear c12
       by_cases c13:(rd t235 x13_1)<(l1.length:Int)
       ·rw [if_pos c13] at H
        have c13b0:decide ((rd t235 x13_1)<(l1.length:Int))=true:=decide_eq_true c13
        clear c13
        obtain ⟨bq14,hbq14⟩:∃ b_:Bool,b_=(rdOf false l1 (rd t235 x13_1)):=⟨_,rfl⟩
        replace H:(if bq14=true then (some true) else (spec_l2dead.l0 k1 l1 t235 (t235.length:Int) (wrap64 (x13_1+1))))=some r:=by rw [← hbq14] at H;exact H
        have Nbq14:=Aside0.mk hbq14
        clear hbq14
        by_cases c15:bq14=true
        ·subst c15
         have H1:(some true)=some r:=by rw [if_pos rfl] at H;exact H
         clear H
         have H:=H1
         clear H1
         obtain rfl:=Option.some.inj H
         have p238:0≤(x13_1:Int):=of_decide_eq_true (by first|(with_reducible assumption)|assumption)
         have q238:x13_1<(t235.length:Int):=of_decide_eq_true (by first|(with_reducible assumption)|assumption)
         obtain ⟨ad238,e238,hx238_0⟩:=Kd.at_int (Kd.R_reads' HO_11.out).2.2 x13_1 p238 q238
         cases e238
         replace p238:=eq_true p238
         replace q238:=eq_true q238
         have p239:0≤((rd t235 x13_1):Int):=of_decide_eq_true (by first|(with_reducible assumption)|assumption)
         have q239:(rd t235 x13_1)<(l1.length:Int):=of_decide_eq_true (by first|(with_reducible assumption)|assumption)
         obtain ⟨ad239,e239,hx239_0⟩:=Kd.at_bool HR1.out (rd t235 x13_1) p239 q239
         (try rw [← Nbq14.out] at hx239_0)
         cases e239
         replace hx239_0:=(HB.out.cell (World.block_lt_of_cell? w _ hx239_0)).trans hx239_0
         replace p239:=eq_true p239
         replace q239:=eq_true q239
         go_wp2
         go_ret
         exact ⟨by first|rfl|(simp [errW_none,errW_some] <;> rfl)|(simp [*,errW_none,errW_some] <;> rfl),by repeat (first|(with_reducible first|exact HB.out|apply below_alloc|apply pw_below_drewN|apply below_drew1|refine below_set ?_ GE234.out)|exact HB.out)⟩
        replace c15:=Bool.eq_false_iff.mpr c15
        subst c15
        have H1:(spec_l2dead.l0 k1 l1 t235 (t235.length:Int) (wrap64 (x13_1+1)))=some r:=by rw [if_neg (show ¬ (false=true) by decide)] at H;exact H
        clear H
        have H:=H1
        clear H1
        have H':=Aside0.mk H
        clear H
        have p238:0≤(x13_1:Int):=of_decide_eq_true (by first|(with_reducible assumption)|assumption)
        have q238:x13_1<(t235.length:Int):=of_decide_eq_true (by first|(with_reducible assumption)|assumption)
        obtain ⟨ad238,e238,hx238_0⟩:=Kd.at_int (Kd.R_reads' HO_11.out).2.2 x13_1 p238 q238
        cases e238
        replace p238:=eq_true p238
        replace q238:=eq_true q238
        have p239:0≤((rd t235 x13_1):Int):=of_decide_eq_true (by first|(with_reducible assumption)|assumption)
        have q239:(rd t235 x13_1)<(l1.length:Int):=of_decide_eq_true (by first|(with_reducible assumption)|assumption)
        obtain ⟨ad239,e239,hx239_0⟩:=Kd.at_bool HR1.out (rd t235 x13_1) p239 q239
        (try rw [← Nbq14.out] at hx239_0)
        cases e239
        replace hx239_0:=(HB.out.cell (World.block_lt_of_cell? w _ hx239_0)).trans hx239_0
        replace p239:=eq_true p239
        replace q239:=eq_true q239
        go_wp2
        go_roundg k1
        case measure=>have:=HK1.out;omega
        case rel=>exact ⟨(wrap64 (x13_1+1)),(by first|rfl|(simp;done)|(simp [*];done)),H',⟨by have:=HK1.out;omega⟩,⟨by (with_reducible repeat (first|apply Kd.R_alloc|apply Kd.R_drewN|apply Kd.R_drew));exact HO_11.out⟩,⟨by (with_reducible repeat (first|refine blk_drewN ?_ _|refine blk_drew ?_|refine blk_alloc ?_ _));exact BK234.out⟩,⟨by repeat (first|(with_reducible first|exact HB.out|apply below_alloc|apply pw_below_drewN|apply below_drew1|refine below_set ?_ GE234.out)|exact HB.out)⟩⟩
       rw [if_neg c13] at H
       exact absurd H (by simp)
      rw [if_neg c12] at H
      exact absurd H (by simp)
     rw [if_neg c11] at H
     exact absurd H (by simp)
    rw [if_neg c10] at H
    exact absurd H (by simp)
   rw [if_neg c9] at H
   have c9b0:decide (x13_1<(t235.length:Int))=false:=decide_eq_false c9
   clear c9
   obtain rfl:=Option.some.inj H
   go_wp2
   go_ret
   exact ⟨by first|rfl|(simp [errW_none,errW_some] <;> rfl)|(simp [*,errW_none,errW_some] <;> rfl),by repeat (first|(with_reducible first|exact HB.out|apply below_alloc|apply pw_below_drewN|apply below_drew1|refine below_set ?_ GE234.out)|exact HB.out)⟩
end Go.Proofs.Ytpdnabhpkdchjaa.P
namespace Go.Proofs.Ytpdnabhpkdchjaa.P
open Go.RowKit Go.Proofs.YtpdnabhpkdchjaaW.PrintWords Go.Proofs.YtpdnabhpkdchjaaW.PrintLast Go.Proofs.YtpdnabhpkdchjaaW.PrintMore
attribute [local go_sem] max2_int min2_int max_two min_two max_three min_three max_four min_four
set_option linter.unusedVariables false
set_option linter.unusedSimpArgs false
def spec_l2told.j0:Nat→Bool→Int→Int→Bool→Bool→Int→Option (Int)
 | 0,_,_,_,_,_,_=>none
 | k+1,x24,x242000,x242001,x242002,x242003,x242004=>if x24=true then (some 1) else (if x242003=true then (some 2) else (some 0))
def spec_l2told.f (k:Nat) (a0_0:Int) (l0_1:List (S88)) (l1:List Bool) (a2:Int) (a3_0:Int) (a3_1:Int) (a3_2:Bool) (a3_3:Bool) (a3_4:Int):Option (Int):=(spec_l2dead.f k a0_0 l0_1 l1 a2).bind fun t242=>(if t242=true then (some 3) else (if a3_2=true then (spec_l2told.j0 k true a3_0 a3_1 a3_2 a3_3 a3_4) else (if a3_1=0 then (spec_l2told.j0 k false a3_0 a3_1 a3_2 a3_3 a3_4) else (spec_l2told.j0 k (!a3_3) a3_0 a3_1 a3_2 a3_3 a3_4))))
set_option maxHeartbeats 8000000 in
set_option maxRecDepth 100000 in
theorem spec_l2told.calls (k:Nat) (a0_0:Int) (A0_1:Option Addr) (c0_1:Nat) (l0_1:List (S88)) (A1:Option Addr) (c1:Nat) (l1:List Bool) (a2:Int) (a3_0:Int) (a3_1:Int) (a3_2:Bool) (a3_3:Bool) (a3_4:Int) (r:Int) (w:World) (hr0_1:Kd.C k88 w A0_1 l0_1.length l0_1) (hc0_1:l0_1.length≤c0_1) (hr1:Kd.C Kd.bool w A1 l1.length l1) (hc1:l1.length≤c1) (h:spec_l2told.f k a0_0 l0_1 l1 a2 a3_0 a3_1 a3_2 a3_3 a3_4=some r) :
  Calls Try.prog 113 #[.agg #[.int .i64 a0_0,.slice A0_1 l0_1.length c0_1],.slice A1 l1.length c1,.int .i64 a2,.agg #[.int .i64 a3_0,.int .i64 a3_1,.bool a3_2,.bool a3_3,.int .i64 a3_4]] w fun e w'=>e=.returned (.int .i64 r)∧Below w.heap.size w w':=by
 have hu30:=Try.underlying30
 have hu50:=Try.underlying50
 have HR0_1:=Aside0.mk hr0_1
 have HC0_1:=Aside0.mk hc0_1
 clear hr0_1 hc0_1
 have HR1:=Aside0.mk hr1
 have HC1:=Aside0.mk hc1
 clear hr1 hc1
 have HB:=Aside0.mk (Below.refl w.heap.size w)
 have H:((spec_l2dead.f k a0_0 l0_1 l1 a2).bind fun t242=>(if t242=true then (some 3) else (if a3_2=true then (spec_l2told.j0 k true a3_0 a3_1 a3_2 a3_3 a3_4) else (if a3_1=0 then (spec_l2told.j0 k false a3_0 a3_1 a3_2 a3_3 a3_4) else (spec_l2told.j0 k (!a3_3) a3_0 a3_1 a3_2 a3_3 a3_4)))))=some r:=h
 clear h
 replace H:=Option.bind_eq_some_iff.mp H
 obtain ⟨t242,A50,H⟩:=H
 replace H:(if t242=true then (some 3) else (if a3_2=true then (spec_l2told.j0 k true a3_0 a3_1 a3_2 a3_3 a3_4) else (if a3_1=0 then (spec_l2told.j0 k false a3_0 a3_1 a3_2 a3_3 a3_4) else (spec_l2told.j0 k (!a3_3) a3_0 a3_1 a3_2 a3_3 a3_4))))=some r:=H
 have A5:=Aside0.mk A50
 clear A50
 by_cases c6:t242=true
 ·subst c6
  have H1:(some 3)=some r:=by rw [if_pos rfl] at H;exact H
  clear H
  have H:=H1
  clear H1
  obtain rfl:=Option.some.inj H
  go_enter Try.func113,Try.ntmps113
  go_wp2_with (first|((with_reducible refine gate_dst (N:=4) rfl ?_);refine box_event ?hg (N:=4) ?hd (cs:=#[.int .i64 a0_0,.slice A0_1 l0_1.length c0_1]) (t:=30) ?hr ?_;(case hd=>rfl);(case hg=>rfl);(case hr=>first|(go_simp;done)|(go_simp;rfl));intro gb240 hg w7 hbox hb;have n0_:=Aside0.mk (below_step (by exact HB.out) hb);have n1_:=Aside0.mk (hbox);have n2_:=Aside0.mk ((by rw [hg];exact (below_size (by exact HB.out)):w.heap.size≤gb240));have n3_:=Aside0.mk ((by rw [hg];exact (below_size (by exact HB.out)):w.heap.size≤gb240));clear HB;have HB:=n0_;have BK240:=n1_;have GW240:=n2_;have GE240:=n3_;clear n0_ n1_ n2_ n3_;clear hb hbox hg)|((with_reducible refine gate_dst (N:=7) rfl ?_);refine box_event ?hg (N:=7) ?hd (cs:=#[.int .i64 a3_0,.int .i64 a3_1,.bool a3_2,.bool a3_3,.int .i64 a3_4]) (t:=50) ?hr ?_;(case hd=>rfl);(case hg=>rfl);(case hr=>first|(go_simp;done)|(go_simp;rfl));intro gb241 hg w8 hbox hb;have n0_:=Aside0.mk (blk_below (g:=gb240) (o:=.cells #[.int .i64 a0_0,.slice A0_1 l0_1.length c0_1] 30 (0,0)) (by exact BK240.out) hb);have n1_:=Aside0.mk (below_step (by exact HB.out) hb);have n2_:=Aside0.mk (hbox);have n3_:=Aside0.mk ((by rw [hg];exact (below_size (by exact HB.out)):w.heap.size≤gb241));have n4_:=Aside0.mk ((by rw [hg];exact (below_size (by exact HB.out)):w.heap.size≤gb241));have n5_:=Aside0.mk ((by rw [hg];exact Nat.ne_of_lt (blk_lt (g:=gb240) (o:=.cells #[.int .i64 a0_0,.slice A0_1 l0_1.length c0_1] 30 (0,0)) (by exact BK240.out)):gb240 ≠ gb241));have n6_:=Aside0.mk ((by rw [hg];exact Nat.ne_of_gt (blk_lt (g:=gb240) (o:=.cells #[.int .i64 a0_0,.slice A0_1 l0_1.length c0_1] 30 (0,0)) (by exact BK240.out)):gb241 ≠ gb240));clear BK240;clear HB;have BK240:=n0_;have HB:=n1_;have BK241:=n2_;have GW241:=n3_;have GE241:=n4_;have NB240_241:=n5_;have NB241_240:=n6_;clear n0_ n1_ n2_ n3_ n4_ n5_ n6_;clear hb hbox hg;have hnb9:=NB240_241.out;have hnc9:=NB241_240.out;have hcz10_0:w8.cell? ⟨gb240,0,none⟩=some (.int .i64 a0_0):=(blk_cell BK240.out 0).trans rfl;have hcz10_1:w8.cell? ⟨gb240,1,none⟩=some (.slice A0_1 l0_1.length c0_1):=(blk_cell BK240.out 1).trans rfl;have hfz10_0:=blk_frozen BK240.out 0;have hfz10_1:=blk_frozen BK240.out 1)|((with_reducible refine gate_callee (f:=114) rfl ?_);refine goesL_ (some 12) rfl rfl Try.func114 (by kernel_rfl) rfl #[.agg #[.int .i64 a0_0,.slice A0_1 l0_1.length c0_1],.slice A1 l1.length c1,.int .i64 a2] rfl (by (try simp only [List.map_toArray,List.map_cons,List.map_nil]);first|done|rfl|(simp only [List.length_drop,List.length_take];rfl)) ?_;(with_reducible refine (spec_l2dead.calls k a0_0 _ _ l0_1 _ _ l1 a2 true _ ?side1 ?side2 ?side3 ?side4 A5.out).mono ?_);(case side1=>repeat (first|exact (Kd.C_below HR0_1.out HB.out)|(with_reducible refine Kd.C_alloc ?_ _)|(with_reducible refine Kd.C_drewN ?_ _)|(with_reducible refine Kd.C_drew ?_)));(case side2=>exact HC0_1.out);(case side3=>repeat (first|exact (Kd.C_below HR1.out HB.out)|(with_reducible refine Kd.C_alloc ?_ _)|(with_reducible refine Kd.C_drewN ?_ _)|(with_reducible refine Kd.C_drew ?_)));(case side4=>exact HC1.out);rintro e w11 ⟨rfl,hb⟩;refine ⟨_,rfl,?_⟩;have n0_:=Aside0.mk (blk_below (g:=gb240) (o:=.cells #[.int .i64 a0_0,.slice A0_1 l0_1.length c0_1] 30 (0,0)) (by exact BK240.out) hb);have n1_:=Aside0.mk (blk_below (g:=gb241) (o:=.cells #[.int .i64 a3_0,.int .i64 a3_1,.bool a3_2,.bool a3_3,.int .i64 a3_4] 50 (0,0)) (by exact BK241.out) hb);have n2_:=Aside0.mk (below_step (by exact HB.out) hb);clear BK240;clear BK241;clear HB;have BK240:=n0_;have BK241:=n1_;have HB:=n2_;clear n0_ n1_ n2_;(try clear hb);(try clear hb2);(try clear hk);(try clear hi)))
  go_ret
  exact ⟨by first|rfl|(simp [errW_none,errW_some] <;> rfl)|(simp [*,errW_none,errW_some] <;> rfl),by exact HB.out⟩
 replace c6:=Bool.eq_false_iff.mpr c6
 subst c6
 have H1:(if a3_2=true then (spec_l2told.j0 k true a3_0 a3_1 a3_2 a3_3 a3_4) else (if a3_1=0 then (spec_l2told.j0 k false a3_0 a3_1 a3_2 a3_3 a3_4) else (spec_l2told.j0 k (!a3_3) a3_0 a3_1 a3_2 a3_3 a3_4)))=some r:=by rw [if_neg (show ¬ (false=true) by decide)] at H;exact H
 clear H
 have H:=H1
 clear H1
 have HC12:=Aside0.mk H
 clear H
 go_enter Try.func113,Try.ntmps113
 go_upto_region 3 with (first|((with_reducible refine gate_dst (N:=4) rfl ?_);refine box_event ?hg (N:=4) ?hd (cs:=#[.int .i64 a0_0,.slice A0_1 l0_1.length c0_1]) (t:=30) ?hr ?_;(case hd=>rfl);(case hg=>rfl);(case hr=>first|(go_simp;done)|(go_simp;rfl));intro gb240 hg w13 hbox hb;have n0_:=Aside0.mk (below_step (by exact HB.out) hb);have n1_:=Aside0.mk (hbox);have n2_:=Aside0.mk ((by rw [hg];exact (below_size (by exact HB.out)):w.heap.size≤gb240));have n3_:=Aside0.mk ((by rw [hg];exact (below_size (by exact HB.out)):w.heap.size≤gb240));clear HB;have HB:=n0_;have BK240:=n1_;have GW240:=n2_;have GE240:=n3_;clear n0_ n1_ n2_ n3_;clear hb hbox hg)|((with_reducible refine gate_dst (N:=7) rfl ?_);refine box_event ?hg (N:=7) ?hd (cs:=#[.int .i64 a3_0,.int .i64 a3_1,.bool a3_2,.bool a3_3,.int .i64 a3_4]) (t:=50) ?hr ?_;(case hd=>rfl);(case hg=>rfl);(case hr=>first|(go_simp;done)|(go_simp;rfl));intro gb241 hg w14 hbox hb;have n0_:=Aside0.mk (blk_below (g:=gb240) (o:=.cells #[.int .i64 a0_0,.slice A0_1 l0_1.length c0_1] 30 (0,0)) (by exact BK240.out) hb);have n1_:=Aside0.mk (below_step (by exact HB.out) hb);have n2_:=Aside0.mk (hbox);have n3_:=Aside0.mk ((by rw [hg];exact (below_size (by exact HB.out)):w.heap.size≤gb241));have n4_:=Aside0.mk ((by rw [hg];exact (below_size (by exact HB.out)):w.heap.size≤gb241));have n5_:=Aside0.mk ((by rw [hg];exact Nat.ne_of_lt (blk_lt (g:=gb240) (o:=.cells #[.int .i64 a0_0,.slice A0_1 l0_1.length c0_1] 30 (0,0)) (by exact BK240.out)):gb240 ≠ gb241));have n6_:=Aside0.mk ((by rw [hg];exact Nat.ne_of_gt (blk_lt (g:=gb240) (o:=.cells #[.int .i64 a0_0,.slice A0_1 l0_1.length c0_1] 30 (0,0)) (by exact BK240.out)):gb241 ≠ gb240));clear BK240;clear HB;have BK240:=n0_;have HB:=n1_;have BK241:=n2_;have GW241:=n3_;have GE241:=n4_;have NB240_241:=n5_;have NB241_240:=n6_;clear n0_ n1_ n2_ n3_ n4_ n5_ n6_;clear hb hbox hg;have hnb15:=NB240_241.out;have hnc15:=NB241_240.out;have hcz16_0:w14.cell? ⟨gb240,0,none⟩=some (.int .i64 a0_0):=(blk_cell BK240.out 0).trans rfl;have hcz16_1:w14.cell? ⟨gb240,1,none⟩=some (.slice A0_1 l0_1.length c0_1):=(blk_cell BK240.out 1).trans rfl;have hfz16_0:=blk_frozen BK240.out 0;have hfz16_1:=blk_frozen BK240.out 1)|((with_reducible refine gate_callee (f:=114) rfl ?_);refine goesL_ (some 12) rfl rfl Try.func114 (by kernel_rfl) rfl #[.agg #[.int .i64 a0_0,.slice A0_1 l0_1.length c0_1],.slice A1 l1.length c1,.int .i64 a2] rfl (by (try simp only [List.map_toArray,List.map_cons,List.map_nil]);first|done|rfl|(simp only [List.length_drop,List.length_take];rfl)) ?_;(with_reducible refine (spec_l2dead.calls k a0_0 _ _ l0_1 _ _ l1 a2 false _ ?side1 ?side2 ?side3 ?side4 A5.out).mono ?_);(case side1=>repeat (first|exact (Kd.C_below HR0_1.out HB.out)|(with_reducible refine Kd.C_alloc ?_ _)|(with_reducible refine Kd.C_drewN ?_ _)|(with_reducible refine Kd.C_drew ?_)));(case side2=>exact HC0_1.out);(case side3=>repeat (first|exact (Kd.C_below HR1.out HB.out)|(with_reducible refine Kd.C_alloc ?_ _)|(with_reducible refine Kd.C_drewN ?_ _)|(with_reducible refine Kd.C_drew ?_)));(case side4=>exact HC1.out);rintro e w17 ⟨rfl,hb⟩;refine ⟨_,rfl,?_⟩;have n0_:=Aside0.mk (blk_below (g:=gb240) (o:=.cells #[.int .i64 a0_0,.slice A0_1 l0_1.length c0_1] 30 (0,0)) (by exact BK240.out) hb);have n1_:=Aside0.mk (blk_below (g:=gb241) (o:=.cells #[.int .i64 a3_0,.int .i64 a3_1,.bool a3_2,.bool a3_3,.int .i64 a3_4] 50 (0,0)) (by exact BK241.out) hb);have n2_:=Aside0.mk (below_step (by exact HB.out) hb);clear BK240;clear BK241;clear HB;have BK240:=n0_;have BK241:=n1_;have HB:=n2_;clear n0_ n1_ n2_;(try clear hb);(try clear hb2);(try clear hk);(try clear hi)))
 (try simp only [Act.put,List.setIfInBounds_toArray,List.set_cons_zero,List.set_cons_succ])
 go_cut [24] (fun v24 wc=>∃ (kq:Nat) (x24_11:Bool),v24=.bool x24_11∧Aside0 (spec_l2told.j0 kq x24_11 a3_0 a3_1 a3_2 a3_3 a3_4=some r)∧Aside0 (kq≤k)∧Aside0 (wc.heap[gb240]?=some (.cells #[.int .i64 a0_0,(.slice A0_1 l0_1.length c0_1)] 30 (0,0)))∧Aside0 (wc.heap[gb241]?=some (.cells #[.int .i64 a3_0,.int .i64 a3_1,.bool a3_2,.bool a3_3,.int .i64 a3_4] 50 (0,0)))∧Aside0 (Below w.heap.size w wc))
 case first =>
  have H:=HC12.out
  clear HC12
  by_cases c18:a3_2=true
  ·subst c18
   have H1:(spec_l2told.j0 k true a3_0 a3_1 true a3_3 a3_4)=some r:=by rw [if_pos rfl] at H;exact H
   clear H
   have H:=H1
   clear H1
   have H':=Aside0.mk H
   clear H
   have hnb19:=NB241_240.out
   have hnc19:=NB240_241.out
   have hcz20_0:w17.cell? ⟨gb241,0,none⟩=some (.int .i64 a3_0):=(blk_cell BK241.out 0).trans rfl
   have hcz20_1:w17.cell? ⟨gb241,1,none⟩=some (.int .i64 a3_1):=(blk_cell BK241.out 1).trans rfl
   have hcz20_2:w17.cell? ⟨gb241,2,none⟩=some (.bool true):=(blk_cell BK241.out 2).trans rfl
   have hcz20_3:w17.cell? ⟨gb241,3,none⟩=some (.bool a3_3):=(blk_cell BK241.out 3).trans rfl
   have hcz20_4:w17.cell? ⟨gb241,4,none⟩=some (.int .i64 a3_4):=(blk_cell BK241.out 4).trans rfl
   have hfz20_0:=blk_frozen BK241.out 0
   have hfz20_1:=blk_frozen BK241.out 1
   have hfz20_2:=blk_frozen BK241.out 2
   have hfz20_3:=blk_frozen BK241.out 3
   have hfz20_4:=blk_frozen BK241.out 4
   go_wp2
   go_meet
   case rel=>exact ⟨_,(true),(by first|rfl|(simp;done)|(simp [*];done)),H',⟨by first|omega|exact Nat.le_refl _⟩,⟨by exact BK240.out⟩,⟨by exact BK241.out⟩,⟨by exact HB.out⟩⟩
  replace c18:=Bool.eq_false_iff.mpr c18
  subst c18
  have H1:(if a3_1=0 then (spec_l2told.j0 k false a3_0 a3_1 false a3_3 a3_4) else (spec_l2told.j0 k (!a3_3) a3_0 a3_1 false a3_3 a3_4))=some r:=by rw [if_neg (show ¬ (false=true) by decide)] at H;exact H
  clear H
  have H:=H1
  clear H1
  by_cases c21:a3_1=0
  ·rw [if_pos c21] at H
   have c21b0:(a3_1==0)=true:=beq_iff_eq.mpr c21
   have c21b1:(a3_1 != 0)=false:=bne_eq_false_iff_eq.mpr c21
   clear c21
   (first|rw [c21b0]|(simp only [i64_w,i32_w];rw [c21b0])|skip)
   have H':=Aside0.mk H
   clear H
   have hnb22:=NB241_240.out
   have hnc22:=NB240_241.out
   have hcz23_0:w17.cell? ⟨gb241,0,none⟩=some (.int .i64 a3_0):=(blk_cell BK241.out 0).trans rfl
   have hcz23_1:w17.cell? ⟨gb241,1,none⟩=some (.int .i64 a3_1):=(blk_cell BK241.out 1).trans rfl
   have hcz23_2:w17.cell? ⟨gb241,2,none⟩=some (.bool false):=(blk_cell BK241.out 2).trans rfl
   have hcz23_3:w17.cell? ⟨gb241,3,none⟩=some (.bool a3_3):=(blk_cell BK241.out 3).trans rfl
   have hcz23_4:w17.cell? ⟨gb241,4,none⟩=some (.int .i64 a3_4):=(blk_cell BK241.out 4).trans rfl
   have hfz23_0:=blk_frozen BK241.out 0
   have hfz23_1:=blk_frozen BK241.out 1
   have hfz23_2:=blk_frozen BK241.out 2
   have hfz23_3:=blk_frozen BK241.out 3
   have hfz23_4:=blk_frozen BK241.out 4
   go_wp2
   go_meet
   case rel=>exact ⟨_,(false),(by first|rfl|(simp;done)|(simp [*];done)),H',⟨by first|omega|exact Nat.le_refl _⟩,⟨by exact BK240.out⟩,⟨by exact BK241.out⟩,⟨by exact HB.out⟩⟩
  rw [if_neg c21] at H
  have c21b0:(a3_1==0)=false:=beq_eq_false_iff_ne.mpr c21
  have c21b1:(a3_1 != 0)=true:=bne_iff_ne.mpr c21
  (first|rw [c21b0]|(simp only [i64_w,i32_w];rw [c21b0])|skip)
  have H':=Aside0.mk H
  clear H
  have hnb24:=NB241_240.out
  have hnc24:=NB240_241.out
  have hcz25_0:w17.cell? ⟨gb241,0,none⟩=some (.int .i64 a3_0):=(blk_cell BK241.out 0).trans rfl
  have hcz25_1:w17.cell? ⟨gb241,1,none⟩=some (.int .i64 a3_1):=(blk_cell BK241.out 1).trans rfl
  have hcz25_2:w17.cell? ⟨gb241,2,none⟩=some (.bool false):=(blk_cell BK241.out 2).trans rfl
  have hcz25_3:w17.cell? ⟨gb241,3,none⟩=some (.bool a3_3):=(blk_cell BK241.out 3).trans rfl
  have hcz25_4:w17.cell? ⟨gb241,4,none⟩=some (.int .i64 a3_4):=(blk_cell BK241.out 4).trans rfl
  have hfz25_0:=blk_frozen BK241.out 0
  have hfz25_1:=blk_frozen BK241.out 1
  have hfz25_2:=blk_frozen BK241.out 2
  have hfz25_3:=blk_frozen BK241.out 3
  have hfz25_4:=blk_frozen BK241.out 4
  go_wp2
  go_meet
  case rel=>exact ⟨_,(!a3_3),(by first|rfl|(simp;done)|(simp [*];done)),H',⟨by first|omega|exact Nat.le_refl _⟩,⟨by exact BK240.out⟩,⟨by exact BK241.out⟩,⟨by exact HB.out⟩⟩
 case rest =>
  clear HC12
  try clear c1
  try clear c2
  try clear p2
  try clear c6
  try clear c9
  try clear c11
  try clear c15
  try clear c18
  try clear c19
  try clear c21
  try clear c21b0
  try clear c21b1
  try clear c22
  try clear c24
  try clear hcz10_0
  try clear hcz10_1
  try clear hcz16_0
  try clear hcz16_1
  try clear hcz20_0
  try clear hcz20_1
  try clear hcz20_2
  try clear hcz20_3
  try clear hcz20_4
  try clear hcz23_0
  try clear hcz23_1
  try clear hcz23_2
  try clear hcz23_3
  try clear hcz23_4
  try clear hcz25_0
  try clear hcz25_1
  try clear hcz25_2
  try clear hcz25_3
  try clear hcz25_4
  try clear hfz10_0
  try clear hfz10_1
  try clear hfz16_0
  try clear hfz16_1
  try clear hfz20_0
  try clear hfz20_1
  try clear hfz20_2
  try clear hfz20_3
  try clear hfz20_4
  try clear hfz23_0
  try clear hfz23_1
  try clear hfz23_2
  try clear hfz23_3
  try clear hfz23_4
  try clear hfz25_0
  try clear hfz25_1
  try clear hfz25_2
  try clear hfz25_3
  try clear hfz25_4
  obtain ⟨kq,x24_11,rfl,HA,HJ11,BK240,BK241,HB⟩:=hcut
  cases kq with
  | zero=>exact absurd HA.out (by simp [spec_l2told.j0])
  | succ kj11 =>
   have H:=HA.out
   clear HA
   simp only [spec_l2told.j0] at H
   by_cases c26:x24_11=true
   ·subst c26
    have H1:(some 1)=some r:=by rw [if_pos rfl] at H;exact H
    clear H
    have H:=H1
    clear H1
    obtain rfl:=Option.some.inj H
    go_wp2
    go_ret
    exact ⟨by first|rfl|(simp [errW_none,errW_some] <;> rfl)|(simp [*,errW_none,errW_some] <;> rfl),by exact HB.out⟩
   replace c26:=Bool.eq_false_iff.mpr c26
   subst c26
   have H1:(if a3_3=true then (some 2) else (some 0))=some r:=by rw [if_neg (show ¬ (false=true) by decide)] at H;exact H
   clear H
   have H:=H1
   clear H1
   by_cases c27:a3_3=true
   ·subst c27
    have H1:(some 2)=some r:=by rw [if_pos rfl] at H;exact H
    clear H
    have H:=H1
    clear H1
    obtain rfl:=Option.some.inj H
    have hnb28:=NB241_240.out
    have hnc28:=NB240_241.out
    have hcz29_0:wc.cell? ⟨gb241,0,none⟩=some (.int .i64 a3_0):=(blk_cell BK241.out 0).trans rfl
    have hcz29_1:wc.cell? ⟨gb241,1,none⟩=some (.int .i64 a3_1):=(blk_cell BK241.out 1).trans rfl
    have hcz29_2:wc.cell? ⟨gb241,2,none⟩=some (.bool a3_2):=(blk_cell BK241.out 2).trans rfl
    have hcz29_3:wc.cell? ⟨gb241,3,none⟩=some (.bool true):=(blk_cell BK241.out 3).trans rfl
    have hcz29_4:wc.cell? ⟨gb241,4,none⟩=some (.int .i64 a3_4):=(blk_cell BK241.out 4).trans rfl
    have hfz29_0:=blk_frozen BK241.out 0
    have hfz29_1:=blk_frozen BK241.out 1
    have hfz29_2:=blk_frozen BK241.out 2
    have hfz29_3:=blk_frozen BK241.out 3
    have hfz29_4:=blk_frozen BK241.out 4
    go_wp2
    go_ret
    exact ⟨by first|rfl|(simp [errW_none,errW_some] <;> rfl)|(simp [*,errW_none,errW_some] <;> rfl),by exact HB.out⟩
   replace c27:=Bool.eq_false_iff.mpr c27
   subst c27
   have H1:(some 0)=some r:=by rw [if_neg (show ¬ (false=true) by decide)] at H;exact H
   clear H
   have H:=H1
   clear H1
   obtain rfl:=Option.some.inj H
   have hnb30:=NB241_240.out
   have hnc30:=NB240_241.out
   have hcz31_0:wc.cell? ⟨gb241,0,none⟩=some (.int .i64 a3_0):=(blk_cell BK241.out 0).trans rfl
   have hcz31_1:wc.cell? ⟨gb241,1,none⟩=some (.int .i64 a3_1):=(blk_cell BK241.out 1).trans rfl
   have hcz31_2:wc.cell? ⟨gb241,2,none⟩=some (.bool a3_2):=(blk_cell BK241.out 2).trans rfl
   have hcz31_3:wc.cell? ⟨gb241,3,none⟩=some (.bool false):=(blk_cell BK241.out 3).trans rfl
   have hcz31_4:wc.cell? ⟨gb241,4,none⟩=some (.int .i64 a3_4):=(blk_cell BK241.out 4).trans rfl
   have hfz31_0:=blk_frozen BK241.out 0
   have hfz31_1:=blk_frozen BK241.out 1
   have hfz31_2:=blk_frozen BK241.out 2
   have hfz31_3:=blk_frozen BK241.out 3
   have hfz31_4:=blk_frozen BK241.out 4
   go_wp2
   go_ret
   exact ⟨by first|rfl|(simp [errW_none,errW_some] <;> rfl)|(simp [*,errW_none,errW_some] <;> rfl),by exact HB.out⟩
end Go.Proofs.Ytpdnabhpkdchjaa.P
namespace Go.Proofs.Ytpdnabhpkdchjaa.P
open Go.RowKit Go.Proofs.YtpdnabhpkdchjaaW.PrintWords Go.Proofs.YtpdnabhpkdchjaaW.PrintLast
set_option linter.unusedVariables false
set_option linter.unusedSimpArgs false
def deadFrom (l : List S88) (dead : List Bool) (s : Int) (d : Nat) (i : Nat) : Bool :=
  match d with
  | 0 => false
  | d + 1 => (rdOf false dead (i : Int) && hits s (rd_T88 l (i : Int))) || deadFrom l dead s d (i + 1)
def deadAt (l : List S88) (dead : List Bool) (s : Int) : Bool := deadFrom l dead s l.length 0
def toldC (l : List S88) (dead : List Bool) (s : Int) (x : S50) : Int :=
  if deadAt l dead s = true then 3 else if x.f2 = true ∨ (x.f1 ≠ 0 ∧ x.f3 = false) then 1 else if x.f3 = true then 2 else 0
theorem implDead_l0 (l : List S88) (dead : List Bool) (b : Bool) (secs : List S50) (s : Int) (hl : l.length ≤ 1048576) (hd : dead.length = l.length) (d : Nat) : ∀ (i : Nat), i + d = l.length →
    Ev (fun k => impl_dead.l0 k s l (l.length : Int) i b secs dead) (deadFrom l dead s d i) := by
  induction d with
  | zero => intro i hi; refine Ev.step1 fun k => ?_; simp only [impl_dead.l0]; rw [if_neg (by omega)]; rfl
  | succ d ih =>
    intro i hi
    have h1 := ih (i + 1) (by omega)
    simp only [deadFrom]
    cases hb : rdOf false dead (i : Int) with
    | false =>
      simp only [Bool.false_and, Bool.false_or]
      refine Ev.step (fun k => ?_) h1
      simp only [impl_dead.l0]
      rw [if_pos (by omega), if_pos (by omega), if_pos (by omega), if_pos (by omega), hb, wrap_succ (by omega)]
      rfl
    | true =>
      by_cases h2 : (rd_T88 l (i : Int)).f0 = s
      · simp only [hits, h2, decide_true, Bool.true_or, Bool.and_true]
        refine Ev.step1 fun k => ?_
        simp only [impl_dead.l0]
        rw [if_pos (by omega), if_pos (by omega), if_pos (by omega), if_pos (by omega), hb, if_pos rfl, if_pos h2]
      · by_cases h3 : (rd_T88 l (i : Int)).f1 = s
        · simp only [hits, h3, decide_true, Bool.or_true, Bool.true_or, Bool.and_true]
          refine Ev.step1 fun k => ?_
          simp only [impl_dead.l0]
          rw [if_pos (by omega), if_pos (by omega), if_pos (by omega), if_pos (by omega), hb, if_pos rfl, if_neg h2, if_pos h3]
        · simp only [hits, h2, h3, decide_false, Bool.or_self, Bool.and_false, Bool.false_or]
          refine Ev.step (fun k => ?_) h1
          simp only [impl_dead.l0]
          rw [if_pos (by omega), if_pos (by omega), if_pos (by omega), if_pos (by omega), hb, if_pos rfl, if_neg h2, if_neg h3, wrap_succ (by omega)]
theorem implDead_ev (n : Int) (l : List S88) (dead : List Bool) (b : Bool) (secs : List S50) (s : Int) (hl : l.length ≤ 1048576) (hd : dead.length = l.length) :
    Ev (fun k => impl_dead.f k n l b secs dead s) (deadAt l dead s) := by
  unfold impl_dead.f
  exact implDead_l0 l dead b secs s hl hd l.length 0 (by omega)
def anyDead (dead : List Bool) : List Int → Bool
  | [] => false
  | c :: r => rdOf false dead c || anyDead dead r
theorem anyDead_append (dead : List Bool) (a b : List Int) : anyDead dead (a ++ b) = (anyDead dead a || anyDead dead b) := by
  induction a with
  | nil => rfl
  | cons c r ih => simp [anyDead, ih, Bool.or_assoc]
theorem anyDead_hits (l : List S88) (dead : List Bool) (s : Int) (d : Nat) : ∀ i, i + d = l.length → (anyDead dead (hitsTo l s i) || deadFrom l dead s d i) = anyDead dead (hitsTo l s l.length) := by
  induction d with
  | zero => intro i hi; rw [show i = l.length by omega]; simp [deadFrom]
  | succ d ih =>
    intro i hi
    rw [← ih (i + 1) (by omega), hitsTo_succ]
    simp only [deadFrom]
    by_cases h : hits s (rd_T88 l (i : Int)) = true
    · rw [if_pos h, h, anyDead_append]
      simp [anyDead, Bool.or_assoc]
    · rw [if_neg h]
      have h' : hits s (rd_T88 l (i : Int)) = false := by simpa using h
      rw [h']; simp
theorem deadAt_any (l : List S88) (dead : List Bool) (s : Int) : deadAt l dead s = anyDead dead (hitsTo l s l.length) := by
  have := anyDead_hits l dead s l.length 0 (by omega)
  rw [← this]
  simp [deadAt, hitsTo, anyDead]
theorem hitsTo_mem (l : List S88) (s : Int) (i : Nat) : ∀ c ∈ hitsTo l s i, 0 ≤ c ∧ c < i := by
  intro c hc
  simp only [hitsTo, List.mem_map, List.mem_filter, List.mem_range] at hc
  obtain ⟨j, ⟨hj, _⟩, rfl⟩ := hc
  constructor
  · exact Int.natCast_nonneg _
  · exact Int.ofNat_lt.2 hj
theorem specDead_l0 (dead : List Bool) (r : List Int) (hr : ∀ c ∈ r, 0 ≤ c ∧ c < dead.length) (hl : r.length ≤ 1048576) (d : Nat) : ∀ (i : Nat), i + d = r.length →
    Ev (fun k => spec_l2dead.l0 k dead r (r.length : Int) i) (anyDead dead (r.drop i)) := by
  induction d with
  | zero => intro i hi; refine Ev.step1 fun k => ?_; simp only [spec_l2dead.l0]; rw [if_neg (by omega), List.drop_eq_nil_of_le (by omega)]; rfl
  | succ d ih =>
    intro i hi
    have hlt : i < r.length := by omega
    have h1 := ih (i + 1) (by omega)
    rw [List.drop_eq_getElem_cons hlt]
    have hrd : rd r (i : Int) = r[i] := by simp [rd, hlt]
    obtain ⟨p1, p2⟩ := hr r[i] (List.getElem_mem hlt)
    simp only [anyDead]
    cases hb : rdOf false dead r[i] with
    | false =>
      simp only [Bool.false_or]
      refine Ev.step (fun k => ?_) h1
      simp only [spec_l2dead.l0, hrd]
      rw [if_pos (by omega), if_pos (by omega), if_pos (by omega), if_pos p1, if_pos p2, hb, wrap_succ (by omega)]
      rfl
    | true =>
      simp only [Bool.true_or]
      refine Ev.step1 fun k => ?_
      simp only [spec_l2dead.l0, hrd]
      rw [if_pos (by omega), if_pos (by omega), if_pos (by omega), if_pos p1, if_pos p2, hb, if_pos rfl]
theorem specDead_ev (n : Int) (l : List S88) (dead : List Bool) (s : Int) (h0 : layoutOk n l = 0) (hs : 0 ≤ s ∧ s < n) (hd : dead.length = l.length) :
    Ev (fun k => spec_l2dead.f k n l dead s) (deadAt l dead s) := by
  unfold spec_l2dead.f
  have ha : around n l s = hitsTo l s l.length := by rw [around, if_pos ⟨h0, hs.1, hs.2⟩]
  refine Ev.bind (specAround_ev n l s) ?_
  rw [ha, deadAt_any]
  have hc := (lay_n h0).2.2
  have hlen := hitsTo_length l s l.length
  have := specDead_l0 dead (hitsTo l s l.length) (fun c hc => by have := hitsTo_mem l s l.length c hc; omega) (by omega) _ 0 (Nat.zero_add _)
  simpa using this
theorem told_tail (x : S50) (b : Bool) (hb : b = true ↔ (x.f2 = true ∨ (x.f1 ≠ 0 ∧ x.f3 = false))) :
    (if b = true then some (1 : Int) else if x.f3 = true then some 2 else some 0) = some (if x.f2 = true ∨ (x.f1 ≠ 0 ∧ x.f3 = false) then 1 else if x.f3 = true then 2 else 0) := by
  by_cases h : b = true
  · rw [if_pos h, if_pos (hb.1 h)]
  · rw [if_neg h, if_neg (fun k => h (hb.2 k))]
    split <;> rfl
theorem implTold_ev (n : Int) (l : List S88) (dead : List Bool) (b : Bool) (secs : List S50) (s : Int) (hl : l.length ≤ 1048576) (hd : dead.length = l.length) (h0 : 0 ≤ s) (h1 : s < secs.length) :
    Ev (fun k => impl_told.f k n l b secs dead s) (toldC l dead s (rd_T50 secs s)) := by
  unfold impl_told.f
  refine Ev.ite_pos h0 (Ev.ite_pos h1 (Ev.bind (implDead_ev n l dead b secs s hl hd) ?_))
  unfold toldC
  by_cases hdd : deadAt l dead s = true
  · rw [if_pos hdd]; exact Ev.ite_pos hdd (Ev.now _)
  · rw [if_neg hdd]
    refine Ev.ite_neg hdd ?_
    by_cases h2 : (rd_T50 secs s).f2 = true
    · refine Ev.ite_pos h2 (Ev.step1 fun k => ?_)
      simp only [impl_told.j0]
      exact told_tail _ true (by simp [h2])
    · refine Ev.ite_neg h2 ?_
      by_cases h3 : (rd_T50 secs s).f1 = 0
      · refine Ev.ite_pos h3 (Ev.step1 fun k => ?_)
        simp only [impl_told.j0]
        exact told_tail _ false (by simp [h2, h3])
      · refine Ev.ite_neg h3 (Ev.step1 fun k => ?_)
        simp only [impl_told.j0]
        exact told_tail _ _ (by simp [h2, h3])
theorem specTold_ev (n : Int) (l : List S88) (dead : List Bool) (s : Int) (x : S50) (h0 : layoutOk n l = 0) (hs : 0 ≤ s ∧ s < n) (hd : dead.length = l.length) :
    Ev (fun k => spec_l2told.f k n l dead s x.f0 x.f1 x.f2 x.f3 x.f4) (toldC l dead s x) := by
  unfold spec_l2told.f
  refine Ev.bind (specDead_ev n l dead s h0 hs hd) ?_
  unfold toldC
  by_cases hdd : deadAt l dead s = true
  · rw [if_pos hdd]; exact Ev.ite_pos hdd (Ev.now _)
  · rw [if_neg hdd]
    refine Ev.ite_neg hdd ?_
    by_cases h2 : x.f2 = true
    · refine Ev.ite_pos h2 (Ev.step1 fun k => ?_)
      simp only [spec_l2told.j0]
      exact told_tail x true (by simp [h2])
    · refine Ev.ite_neg h2 ?_
      by_cases h3 : x.f1 = 0
      · refine Ev.ite_pos h3 (Ev.step1 fun k => ?_)
        simp only [spec_l2told.j0]
        exact told_tail x false (by simp [h2, h3])
      · refine Ev.ite_neg h3 (Ev.step1 fun k => ?_)
        simp only [spec_l2told.j0]
        exact told_tail x _ (by simp [h2, h3])
end Go.Proofs.Ytpdnabhpkdchjaa.P
namespace Go.Proofs.Ytpdnabhpkdchjaa.P
open Go.RowKit Go.Proofs.YtpdnabhpkdchjaaW.PrintWords Go.Proofs.YtpdnabhpkdchjaaW.PrintLast
set_option linter.unusedVariables false
set_option linter.unusedSimpArgs false
def secRange (x : S50) : Bool := decide (-1000000 ≤ x.f1) && decide (x.f1 ≤ 1000000) && decide (-1 ≤ x.f4) && decide (x.f4 ≤ 1)
def secRest (dd : Bool) (x : S50) : Bool := !((decide (x.f1 < 0) || dd) && !x.f2) && !(x.f3 && decide (x.f1 = 0) && decide (x.f4 = -1) && !x.f2)
def secOk (l : List S88) (dead : List Bool) (s : Int) (x : S50) : Bool := secRange x && decide (x.f0 = toldC l dead s x) && secRest (deadAt l dead s) x
def secsFrom (l : List S88) (dead : List Bool) (secs : List S50) (d : Nat) (i : Nat) : Bool :=
  match d with
  | 0 => true
  | d + 1 => secOk l dead i (rd_T50 secs (i : Int)) && secsFrom l dead secs d (i + 1)
def stateOk (n : Int) (l : List S88) (ok : Bool) (secs : List S50) (dead : List Bool) : Bool :=
  decide (layoutOk n l = 0) && ok && decide ((secs.length : Int) = n) && decide (dead.length = l.length) && secsFrom l dead secs secs.length 0
end Go.Proofs.Ytpdnabhpkdchjaa.P
namespace Go.Proofs.Ytpdnabhpkdchjaa.P
open Go.RowKit Go.Proofs.YtpdnabhpkdchjaaW.PrintWords Go.Proofs.YtpdnabhpkdchjaaW.PrintLast Go.Proofs.YtpdnabhpkdchjaaW.PrintMore
set_option linter.unusedVariables false
def addS (ss : List S50) (s b : Int) : List S50 := if s < 0 then ss else ss.set s.toNat (countS (rd_T50 ss s) b)
def loseAt (ss : List S50) (s : Int) : List S50 := if s < 0 then ss else ss.set s.toNat (loseS (rd_T50 ss s))
def tellS (l : List S88) (dd : List Bool) (i : Nat) (x : S50) : S50 := ⟨toldC l dd (i : Int) x, x.f1, x.f2, x.f3, x.f4⟩
def retoldTo (l : List S88) (dd : List Bool) (ss : List S50) (k : Nat) : List S50 := ss.mapIdx fun i x => if i < k then tellS l dd i x else x
def retold (l : List S88) (dd : List Bool) (ss : List S50) : List S50 := retoldTo l dd ss ss.length
def midSecs (l : List S88) (ss : List S50) (op of dir : Int) : List S50 :=
  let c := rd_T88 l of
  let f := if dir = -1 then c.f1 else c.f0
  let t := if dir = -1 then c.f0 else c.f1
  if op = 1 then addS (addS ss f (-1)) t 1 else if op = 2 then addS ss t 1 else if op = 3 then loseAt (loseAt ss c.f0) c.f1 else if op = 5 then ss.set of.toNat ⟨0, 0, false, true, 0⟩ else ss
def midDead (dd : List Bool) (op of : Int) : List Bool := if op = 3 then dd.set of.toNat true else if op = 4 then dd.set of.toNat false else dd
def doCode (l : List S88) (ss : List S50) (dd : List Bool) (op of : Int) : Int :=
  if op = 1 ∨ op = 2 then (if rdOf false dd of = true then 2 else 0) else if op = 5 then (if deadAt l dd of = true then 3 else if (rd_T50 ss of).f4 = 1 then 4 else 0) else 0
def doSecs (l : List S88) (ss : List S50) (dd : List Bool) (op of dir : Int) : List S50 := if doCode l ss dd op of = 0 then retold l (midDead dd op of) (midSecs l ss op of dir) else ss
def doDead (l : List S88) (ss : List S50) (dd : List Bool) (op of : Int) : List Bool := if doCode l ss dd op of = 0 then midDead dd op of else dd
theorem addS_length (ss : List S50) (s b : Int) : (addS ss s b).length = ss.length := by unfold addS; split <;> simp
theorem loseAt_length (ss : List S50) (s : Int) : (loseAt ss s).length = ss.length := by unfold loseAt; split <;> simp
theorem retoldTo_length (l : List S88) (dd : List Bool) (ss : List S50) (k : Nat) : (retoldTo l dd ss k).length = ss.length := by simp [retoldTo]
theorem retold_length (l : List S88) (dd : List Bool) (ss : List S50) : (retold l dd ss).length = ss.length := retoldTo_length _ _ _ _
theorem midSecs_length (l : List S88) (ss : List S50) (op of dir : Int) : (midSecs l ss op of dir).length = ss.length := by
  unfold midSecs
  simp only []
  split
  · rw [addS_length, addS_length]
  · split
    · rw [addS_length]
    · split
      · rw [loseAt_length, loseAt_length]
      · split <;> simp
theorem midDead_length (dd : List Bool) (op of : Int) : (midDead dd op of).length = dd.length := by unfold midDead; split <;> (try split) <;> simp
theorem doSecs_length (l : List S88) (ss : List S50) (dd : List Bool) (op of dir : Int) : (doSecs l ss dd op of dir).length = ss.length := by
  unfold doSecs; split
  · rw [retold_length, midSecs_length]
  · rfl
theorem doDead_length (l : List S88) (ss : List S50) (dd : List Bool) (op of : Int) : (doDead l ss dd op of).length = dd.length := by
  unfold doDead; split
  · exact midDead_length _ _ _
  · rfl
theorem retoldTo_zero (l : List S88) (dd : List Bool) (ss : List S50) : retoldTo l dd ss 0 = ss := by
  apply List.ext_getElem <;> simp [retoldTo]
theorem retoldTo_at (l : List S88) (dd : List Bool) (ss : List S50) (k : Nat) (hk : k < ss.length) : rd_T50 (retoldTo l dd ss k) (k : Int) = rd_T50 ss (k : Int) := by
  simp [rd_T50, retoldTo, hk]
theorem retoldTo_succ (l : List S88) (dd : List Bool) (ss : List S50) (k : Nat) (hk : k < ss.length) :
    (retoldTo l dd ss k).set k (tellS l dd k (rd_T50 ss (k : Int))) = retoldTo l dd ss (k + 1) := by
  apply List.ext_getElem
  · simp [retoldTo]
  · intro i h1 h2
    have hi : i < ss.length := by simpa [retoldTo] using h2
    rw [List.getElem_set]
    by_cases e : k = i
    · subst e
      simp [retoldTo, rd_T50, hk]
    · rw [if_neg e]
      simp only [retoldTo, List.getElem_mapIdx]
      by_cases h3 : i < k
      · rw [if_pos h3, if_pos (by omega)]
      · rw [if_neg h3, if_neg (by omega)]
end Go.Proofs.Ytpdnabhpkdchjaa.P
namespace Go.Proofs.Ytpdnabhpkdchjaa.P
open Go.RowKit Go.Proofs.YtpdnabhpkdchjaaW.PrintWords Go.Proofs.YtpdnabhpkdchjaaW.PrintLast Go.Proofs.YtpdnabhpkdchjaaW.PrintMore
set_option linter.unusedVariables false
set_option linter.unusedSimpArgs false
theorem own_empty {α : Type} (d : Kd α) (e : Nat) (W : World) : d.R e (W.alloc (.cells #[] e)) W.heap.size (fun _ => True) (.slice (some ⟨W.heap.size, 0, none⟩) 0 0) [] :=
  ⟨fun _ _ => trivial, OwnRow.lit W W.heap.size (Reps.none _ _) (Nat.le_refl _) (by simp)⟩
theorem C_none {α : Type} {d : Kd α} {w : World} {l : List α} (h : d.C w none l.length l) : l = [] := by
  rcases Nat.eq_zero_or_pos l.length with h0 | h0
  · exact List.eq_nil_of_length_eq_zero h0
  · obtain ⟨ad, h, _⟩ := h.2.2 h0
    cases h
def impl_Section.f (l0 : List S50) : Option (List S50) := if l0.length ≤ 1000000 then some l0 else none
set_option maxHeartbeats 1000000 in
set_option maxRecDepth 100000 in
theorem impl_Section.calls (A0 : Option Addr) (c0 : Nat) (l0 : List S50) (r : List S50) (w : World) (hr0 : Kd.C k50 w A0 l0.length l0) (hc0 : l0.length ≤ c0) (h : impl_Section.f l0 = some r) :
    Calls Try.prog 94 #[.slice A0 l0.length c0] w fun e w' => ∃ v0_ : Value, e = .returned (v0_) ∧ Kd.R k50 50 w' w.heap.size (fun _ => True) v0_ r ∧ Below w.heap.size w w' := by
  have hq : ∀ (w : World) (a : Option Addr) (n c n' c' : Nat), (binOp .eql 43 (.slice a n c) (.slice none n' c')).run Try.prog w = .ok (.bool a.isNone) w := fun w a n c n' c' => Lib.run_eql_slice_nil w _ _ a n c n' c' Try.underlying43
  unfold impl_Section.f at h
  split at h
  · rename_i hl
    obtain rfl := Option.some.inj h
    clear h
    have HL := Aside0.mk hl
    have HR := Aside0.mk hr0
    clear hr0 hl hc0
    rcases A0 with _ | ad
    · have h0 := C_none HR.out
      subst h0
      go_enter Try.func94, Try.ntmps94
      go_wp2
      go_ret
      exact ⟨_, rfl, Kd.R_nil _ _ _ _ _, Below.refl _ _⟩
    · go_enter Try.func94, Try.ntmps94
      go_wp2_with (at_builtin; refine Kd.R_append_rows k50 (w0 := w) w.heap.size rfl (.tmp 5) (.tmp 6) 43 50 (.agg #[(.int .i64 0), (.int .i64 0), (.bool false), (.bool false), (.int .i64 0)]) 32 rfl Try.underlying43 info50 rfl (by decide) (by decide) (.slice (some ⟨w.heap.size, 0, none⟩) 0 0) [] l0 _ _ _ (fun _ => True) (fun _ => False) rfl rfl (own_empty k50 50 w) (Kd.C_below HR.out (below_alloc (Below.refl _ _) _)) (fun _ _ h => h) (fun _ h => h.elim) (fun _ _ => trivial) (below_alloc (Below.refl _ _) _) (by simp) (by have := HL.out; simp; omega) ?_; intro v1 w1 hown hB _ _; have HO := Aside0.mk hown; have HB := Aside0.mk hB; clear hown hB)
      go_ret
      exact ⟨_, rfl, HO.out, HB.out⟩
  · cases h
def slices_Clone_bool_bool.f (l0 : List Bool) : Option (List Bool) := if l0.length ≤ 1000000 then some l0 else none
set_option maxHeartbeats 1000000 in
set_option maxRecDepth 100000 in
theorem slices_Clone_bool_bool.calls (A0 : Option Addr) (c0 : Nat) (l0 : List Bool) (r : List Bool) (w : World) (hr0 : Kd.C Kd.bool w A0 l0.length l0) (hc0 : l0.length ≤ c0) (h : slices_Clone_bool_bool.f l0 = some r) :
    Calls Try.prog 95 #[.slice A0 l0.length c0] w fun e w' => ∃ v0_ : Value, e = .returned (v0_) ∧ Kd.R Kd.bool 4 w' w.heap.size (fun _ => True) v0_ r ∧ Below w.heap.size w w' := by
  have hq : ∀ (w : World) (a : Option Addr) (n c n' c' : Nat), (binOp .eql 44 (.slice a n c) (.slice none n' c')).run Try.prog w = .ok (.bool a.isNone) w := fun w a n c n' c' => Lib.run_eql_slice_nil w _ _ a n c n' c' Try.underlying44
  unfold slices_Clone_bool_bool.f at h
  split at h
  · rename_i hl
    obtain rfl := Option.some.inj h
    clear h
    have HL := Aside0.mk hl
    have HR := Aside0.mk hr0
    clear hr0 hl hc0
    rcases A0 with _ | ad
    · have h0 := C_none HR.out
      subst h0
      go_enter Try.func95, Try.ntmps95
      go_wp2
      go_ret
      exact ⟨_, rfl, Kd.R_nil _ _ _ _ _, Below.refl _ _⟩
    · go_enter Try.func95, Try.ntmps95
      go_wp2_with (at_builtin; refine Kd.R_append_rows Kd.bool (w0 := w) w.heap.size rfl (.tmp 5) (.tmp 6) 44 4 (.bool false) 1 rfl Try.underlying44 info4 rfl (by decide) (by decide) (.slice (some ⟨w.heap.size, 0, none⟩) 0 0) [] l0 _ _ _ (fun _ => True) (fun _ => False) rfl rfl (own_empty Kd.bool 4 w) (Kd.C_below HR.out (below_alloc (Below.refl _ _) _)) (fun _ _ h => h) (fun _ h => h.elim) (fun _ _ => trivial) (below_alloc (Below.refl _ _) _) (by simp) (by have := HL.out; simp; omega) ?_; intro v1 w1 hown hB _ _; have HO := Aside0.mk hown; have HB := Aside0.mk hB; clear hown hB)
      go_ret
      exact ⟨_, rfl, HO.out, HB.out⟩
  · cases h
end Go.Proofs.Ytpdnabhpkdchjaa.P
namespace Go.Proofs.Ytpdnabhpkdchjaa.P
open Go.RowKit Go.Proofs.YtpdnabhpkdchjaaW.PrintWords Go.Proofs.YtpdnabhpkdchjaaW.PrintLast Go.Proofs.YtpdnabhpkdchjaaW.PrintMore
set_option linter.unusedVariables false
theorem R_off {α : Type} {d : Kd α} {e : Nat} {w : World} {base : Nat} {ok : Nat → Prop} {v : Value} {xs : List α} (hE : d.E = []) (h : d.R e w base ok v xs) {p : Addr} (hne : some p.block ≠ v.ownBlock) (u : Value) : d.R e (w.setCell p u) base (fun _ => True) v xs :=
  Kd.R_mono (Kd.R_far (Kd.R_tight hE h) (fun k hk hp => hne (hp ▸ hk)) u) (fun _ _ => trivial)
theorem R_on {α : Type} {d : Kd α} {e : Nat} {w w' : World} {base : Nat} {ok : Nat → Prop} {v : Value} {xs : List α} (hE : d.E = []) (h : d.R e w base ok v xs) {row : Option Nat} (hg : w.grownBy w' row) (hne : row ≠ v.ownBlock) : d.R e w' base (fun _ => True) v xs :=
  Kd.R_mono (Kd.R_step (Kd.R_tight hE h) (fun k hk hlt => hg.block k hlt (fun c => hne (c ▸ hk)))) (fun _ _ => trivial)
theorem R_up {α : Type} {d : Kd α} {e : Nat} {w w' : World} {base : Nat} {ok : Nat → Prop} {v : Value} {xs : List α} (h : d.R e w base ok v xs) (hb : Below w.heap.size w w') : d.R e w' base (fun _ => True) v xs :=
  Kd.R_mono (Kd.R_step h (fun k hk hlt => hb.block k hlt)) (fun _ _ => trivial)
end Go.Proofs.Ytpdnabhpkdchjaa.P
namespace Go.Proofs.Ytpdnabhpkdchjaa.P
open Go.RowKit Go.Proofs.YtpdnabhpkdchjaaW.PrintWords Go.Proofs.YtpdnabhpkdchjaaW.PrintLast Go.Proofs.YtpdnabhpkdchjaaW.PrintMore
attribute [local go_sem] max2_int min2_int max_two min_two max_three min_three max_four min_four
set_option linter.unusedVariables false
set_option linter.unusedSimpArgs false
def laws_markCounterS.l0:Nat→List (S88)→Int→Int→Option (Int × (List (S88)))
 | 0,_,_,_=>none
 | k+1,x0,x1,x5=>if x5<(x0.length:Int) then (if 0≤x5 then ((some (x0.set (x5:Int).toNat (⟨x1,(rd_T88 x0 x5).f1⟩:S88):List (S88))).bind fun y438=>(laws_markCounterS.l0 k (y438.set (x5:Int).toNat (⟨(rd_T88 y438 x5).f0,wrap64 (x1+1)⟩:S88)) (wrap64 ((wrap64 (x1+1))+1)) (wrap64 (x5+1)))) else (none)) else (some (x1,x0))
def laws_markCounterS.f (k:Nat) (l0:List (S88)) (a1:Int):Option (Int × (List (S88))):=laws_markCounterS.l0 k l0 a1 0
set_option maxHeartbeats 8000000 in
set_option maxRecDepth 100000 in
theorem laws_markCounterS.calls (k:Nat) (P0_:Nat→Prop) (u9000_:Value) (l0:List (S88)) (a1:Int) (r1:Int) (r2:List (S88)) (w0 w:World) (hB:Below w0.heap.size w0 w) (ho0:Kd.R k88 88 w w0.heap.size P0_ u9000_ l0) (h:laws_markCounterS.f k l0 a1=some (r1,r2)) :
  Calls Try.prog 99 #[u9000_,.int .i64 a1] w fun e w'=>e=.returned (.int .i64 r1)∧Kd.R k88 88 w' w0.heap.size (fun k_=>(P0_ k_ ∨ w.heap.size≤k_)) u9000_ r2∧Below w0.heap.size w0 w'∧Kept w w' (fun k_=>P0_ k_):=by
 have HO0:=Aside0.mk (show Kd.R k88 88 w w0.heap.size (fun k_=>(P0_ k_ ∨ w.heap.size≤k_)) u9000_ l0 from Kd.R_mono ho0 (fun k_ hk=>(.inl hk)))
 have HK:=Aside0.mk (Kept.refl w (fun k_=>P0_ k_))
 have HW0:=Aside0.mk hB.size
 have HB:=Aside0.mk hB
 clear hB
 have H:(laws_markCounterS.l0 k l0 a1 0)=some (r1,r2):=h
 clear h
 have H':=Aside0.mk H
 clear H
 go_enter Try.func99,Try.ntmps99
 go_wp2
 go_loopg [1,5] k (fun kq v1 v5 w'=>∃ (x0_1:List (S88)) (x1_1:Int) (x5_1:Int),v1=.int .i64 x1_1∧v5=.int .i64 x5_1∧Aside0 (laws_markCounterS.l0 kq x0_1 x1_1 x5_1=some (r1,r2))∧Aside0 (kq≤k)∧Aside0 (Kd.R k88 88 w' w0.heap.size (fun k_=>(P0_ k_ ∨ w.heap.size≤k_)) u9000_ x0_1)∧Aside0 (Kept w w' (fun k_=>P0_ k_))∧Aside0 (Below w0.heap.size w0 w'))
 case atStart=>exact ⟨(l0),(a1),(0),(by first|rfl|(simp;done)|(simp [*];done)),(by first|rfl|(simp;done)|(simp [*];done)),H',⟨Nat.le_refl _⟩,⟨by (with_reducible repeat (first|apply Kd.R_alloc|apply Kd.R_drewN|apply Kd.R_drew));exact HO0.out⟩,⟨by repeat (first|(with_reducible first|exact HK.out|apply Kept.alloc|apply Kept.drewN|apply Kept.drew)|exact HK.out)⟩,⟨by repeat (first|(with_reducible first|exact HB.out|apply below_alloc|apply pw_below_drewN|apply below_drew1)|exact HB.out)⟩⟩
 case round =>
  clear H'
  try clear p2
  obtain ⟨x0_1,x1_1,x5_1,rfl,rfl,HA,HK1,HO_0,HK,HB⟩:=hrel
  cases gk with
  | zero=>exact absurd HA.out (by simp [laws_markCounterS.l0])
  | succ k1 =>
   have H:=HA.out
   clear HA
   simp only [laws_markCounterS.l0] at H
   by_cases c3:x5_1<(x0_1.length:Int)
   ·rw [if_pos c3] at H
    have c3b0:decide (x5_1<(x0_1.length:Int))=true:=decide_eq_true c3
    clear c3
    by_cases c4:0≤x5_1
    ·rw [if_pos c4] at H
     have c4b0:decide (0≤x5_1)=true:=decide_eq_true c4
     clear c4
     obtain ⟨y438,hy438⟩:∃ y_:List (S88),y_=(x0_1.set (x5_1:Int).toNat (⟨x1_1,(rd_T88 x0_1 x5_1).f1⟩:S88)):=⟨_,rfl⟩
     replace H:(laws_markCounterS.l0 k1 (y438.set (x5_1:Int).toNat (⟨(rd_T88 y438 x5_1).f0,wrap64 (x1_1+1)⟩:S88)) (wrap64 ((wrap64 (x1_1+1))+1)) (wrap64 (x5_1+1)))=some (r1,r2):=by first|(rw [hy438];with_reducible exact H)|(have H2_:=(Option.bind_some _ _).symm.trans H;rw [hy438];with_reducible exact H2_)|(have H2_:=(Option.bind_some _ _).symm.trans H;with_reducible exact H2_)|with_reducible exact H|(rw [hy438];exact H)|exact H
     have Ny438:=Aside0.mk hy438
     clear hy438
     obtain ⟨y439,hy439⟩:∃ y_:List (S88),y_=(y438.set (x5_1:Int).toNat (⟨(rd_T88 y438 x5_1).f0,wrap64 (x1_1+1)⟩:S88)):=⟨_,rfl⟩
     replace H:(laws_markCounterS.l0 k1 y439 (wrap64 ((wrap64 (x1_1+1))+1)) (wrap64 (x5_1+1)))=some (r1,r2):=by first|(rw [hy439];with_reducible exact H)|(have H2_:=(Option.bind_some _ _).symm.trans H;rw [hy439];with_reducible exact H2_)|(have H2_:=(Option.bind_some _ _).symm.trans H;with_reducible exact H2_)|with_reducible exact H|(rw [hy439];exact H)|exact H
     have Ny439:=Aside0.mk hy439
     clear hy439
     have H':=Aside0.mk H
     clear H
     obtain ⟨Ao7,co7,eo7⟩:=Kd.R_slice HO_0.out
     subst eo7
     have p5:0≤(x5_1:Int):=of_decide_eq_true (by first|(with_reducible assumption)|assumption)
     have q5:(x5_1:Int)<((x0_1.length:Int):Int):=of_decide_eq_true (by first|(with_reducible assumption)|assumption)
     obtain ⟨go5,co5,eo5,gb5,gl5,cl5,HG5⟩:=Kd.R_form HO_0.out (by omega)
     (first|cases eo5|(injection eo5 with ea_ en_ ec_;(first|subst ea_|(injection ea_ with ea_;subst ea_));subst ec_;clear en_))
     have GB5:=Aside0.mk gb5
     have GG5:=Aside0.mk HG5
     clear gb5 gl5 HG5
     have HMgo5:=Aside0.mk (show (P0_ go5 ∨ w.heap.size≤go5) from (HO_0.out.1 _ rfl))
     obtain ⟨ce5,hcl5,hM5,hcc5,hfr5⟩:=Kd.R_elem HO_0.out z88 (x5_1:Int) p5 q5
     obtain rfl:=k88_openM hM5
     have hx5_0:wr.cell? ⟨go5,(x5_1:Int).toNat * 2,none⟩=some (.int .i64 ((rd_T88 x0_1 x5_1).f0)):=hcc5 0 _ rfl
     have hx5_1:wr.cell? ⟨go5,(x5_1:Int).toNat * 2+1,none⟩=some (.int .i64 ((rd_T88 x0_1 x5_1).f1)):=hcc5 1 _ rfl
     have hf5_0:wr.frozen? ⟨go5,(x5_1:Int).toNat * 2,none⟩=false:=hfr5 0
     have hf5_1:wr.frozen? ⟨go5,(x5_1:Int).toNat * 2+1,none⟩=false:=hfr5 1
     clear hcl5 hcc5 hfr5 hM5
     replace p5:=eq_true p5
     replace q5:=eq_true q5
     have HX8:=Aside0.mk (show Kd.R k88 88 wr w0.heap.size (fun k_=>(P0_ k_ ∨ w.heap.size≤k_)) (.slice (some ⟨go5,0,none⟩) x0_1.length co7) x0_1 from (by (with_reducible repeat (first|apply Kd.R_alloc|apply Kd.R_drewN|apply Kd.R_drew));exact HO_0.out))
     obtain ⟨ce8,hcl8,hM8,hcc8,hfr8⟩:=Kd.R_elem HX8.out z88 (x5_1:Int) (of_decide_eq_true (by first|(with_reducible assumption)|assumption)) (by have h_:(x5_1:Int)<((x0_1.length:Int):Int):=of_decide_eq_true (by first|(with_reducible assumption)|assumption);first|exact h_|(have e_:=(Kd.R_reads' HO_0.out).1;omega)|simpa using h_)
     obtain rfl:=k88_openM hM8
     have HP8:=Kd.R_seg HX8.out (x5_1:Int) (of_decide_eq_true (by first|(with_reducible assumption)|assumption)) (by have h_:(x5_1:Int)<((x0_1.length:Int):Int):=of_decide_eq_true (by first|(with_reducible assumption)|assumption);first|exact h_|(have e_:=(Kd.R_reads' HO_0.out).1;omega)|simpa using h_) (seg:=[.int .i64 x1_1]) (j:=0) hcl8 hcc8 (show 1≤2 from by decide) (x':=(⟨x1_1,(rd_T88 x0_1 x5_1).f1⟩:S88)) (k88_mkM _ _ _ (⟨x1_1,(rd_T88 x0_1 x5_1).f1⟩:S88) ) (fun _ hk=>hk)
     have hx8_0:=hcc8 0 _ rfl
     (try simp only [show (k88).sz=2 from rfl,Nat.mul_one,Nat.add_zero] at hx8_0)
     have hf8_0:=hfr8 0
     (try simp only [show (k88).sz=2 from rfl,Nat.mul_one,Nat.add_zero] at hf8_0)
     clear hcl8 hcc8 hfr8 hM8
     go_wp2_with (first|((with_reducible refine gate_store (t:=3) (p:=16) rfl ?_);refine store_event (t:=3) (p:=16) (v:=?vo_w9) (w1:=(wr.setCell ⟨go5,(x5_1:Int).toNat * 2,none⟩ (.int .i64 x1_1))) ?hg ?ho ?hn ?hr ?_;(case ho=>rfl);(case hg=>rfl);(case hn=>rfl);(case hr=>first|(go_simp;done)|(go_simp;rfl));intro w9 hw;have hg:wr.grownBy w9 (some go5):=(by rw [hw];exact HP8.2);have hp_:Kd.R k88 88 w9 w0.heap.size (fun k_=>(P0_ k_ ∨ w.heap.size≤k_)) (.slice (some ⟨go5,0,none⟩) x0_1.length co7) y438:=(by rw [hw,Ny438.out];exact HP8.1);clear HP8;have n0_:=Aside0.mk (hp_);have n1_:=Aside0.mk ((by rw [hw];exact below_set (HB.out) GB5.out:Below w0.heap.size w0 w9));have n2_:=Aside0.mk (Kept.of_grown (S:=(fun k_=>P0_ k_)) hg (by repeat (first|(with_reducible first|exact HK.out|apply Kept.alloc|apply Kept.drewN|apply Kept.drew)|exact HK.out)) (fun k_ e_=>(HO_0.out.1 k_ e_)));clear HO_0;clear HB;clear HK;have HO_0:=n0_;have HB:=n1_;have HK:=n2_;clear n0_ n1_ n2_;clear hg hw hp_;have p6:0≤(x5_1:Int):=of_decide_eq_true (by first|(with_reducible assumption)|assumption);have q6:(x5_1:Int)<((x0_1.length:Int):Int):=of_decide_eq_true (by first|(with_reducible assumption)|assumption);obtain ⟨ce6,hcl6,hM6,hcc6,hfr6⟩:=Kd.R_elem HO_0.out z88 (x5_1:Int) p6 q6;obtain rfl:=k88_openM hM6;have hx6_0:w9.cell? ⟨go5,(x5_1:Int).toNat * 2,none⟩=some (.int .i64 ((rd_T88 y438 x5_1).f0)):=hcc6 0 _ rfl;have hx6_1:w9.cell? ⟨go5,(x5_1:Int).toNat * 2+1,none⟩=some (.int .i64 ((rd_T88 y438 x5_1).f1)):=hcc6 1 _ rfl;have hf6_0:w9.frozen? ⟨go5,(x5_1:Int).toNat * 2,none⟩=false:=hfr6 0;have hf6_1:w9.frozen? ⟨go5,(x5_1:Int).toNat * 2+1,none⟩=false:=hfr6 1;clear hcl6 hcc6 hfr6 hM6;replace p6:=eq_true p6;replace q6:=eq_true q6;have HX10:=Aside0.mk (show Kd.R k88 88 w9 w0.heap.size (fun k_=>(P0_ k_ ∨ w.heap.size≤k_)) (.slice (some ⟨go5,0,none⟩) x0_1.length co7) y438 from (by (with_reducible repeat (first|apply Kd.R_alloc|apply Kd.R_drewN|apply Kd.R_drew));exact HO_0.out));obtain ⟨ce10,hcl10,hM10,hcc10,hfr10⟩:=Kd.R_elem HX10.out z88 (x5_1:Int) (of_decide_eq_true (by first|(with_reducible assumption)|assumption)) (by have h_:(x5_1:Int)<((x0_1.length:Int):Int):=of_decide_eq_true (by first|(with_reducible assumption)|assumption);first|exact h_|(have e_:=(Kd.R_reads' HO_0.out).1;omega)|simpa using h_);obtain rfl:=k88_openM hM10;have HP10:=Kd.R_seg HX10.out (x5_1:Int) (of_decide_eq_true (by first|(with_reducible assumption)|assumption)) (by have h_:(x5_1:Int)<((x0_1.length:Int):Int):=of_decide_eq_true (by first|(with_reducible assumption)|assumption);first|exact h_|(have e_:=(Kd.R_reads' HO_0.out).1;omega)|simpa using h_) (seg:=[.int .i64 (wrap64 (x1_1+1))]) (j:=1) hcl10 hcc10 (show 2≤2 from by decide) (x':=(⟨(rd_T88 y438 x5_1).f0,wrap64 (x1_1+1)⟩:S88)) (k88_mkM _ _ _ (⟨(rd_T88 y438 x5_1).f0,wrap64 (x1_1+1)⟩:S88) ) (fun _ hk=>hk);have hx10_1:=hcc10 1 _ rfl;(try simp only [show (k88).sz=2 from rfl,Nat.mul_one,Nat.add_zero] at hx10_1);have hf10_1:=hfr10 1;(try simp only [show (k88).sz=2 from rfl,Nat.mul_one,Nat.add_zero] at hf10_1);clear hcl10 hcc10 hfr10 hM10)|((with_reducible refine gate_store (t:=3) (p:=23) rfl ?_);refine store_event (t:=3) (p:=23) (v:=?vo_w11) (w1:=(w9.setCell ⟨go5,(x5_1:Int).toNat * 2+1,none⟩ (.int .i64 (wrap64 (x1_1+1))))) ?hg ?ho ?hn ?hr ?_;(case ho=>rfl);(case hg=>rfl);(case hn=>rfl);(case hr=>first|(go_simp;done)|(go_simp;rfl));intro w11 hw;have hg:w9.grownBy w11 (some go5):=(by rw [hw];exact HP10.2);have hp_:Kd.R k88 88 w11 w0.heap.size (fun k_=>(P0_ k_ ∨ w.heap.size≤k_)) (.slice (some ⟨go5,0,none⟩) x0_1.length co7) y439:=(by rw [hw,Ny439.out];exact HP10.1);clear HP10;have n0_:=Aside0.mk (hp_);have n1_:=Aside0.mk ((by rw [hw];exact below_set (HB.out) GB5.out:Below w0.heap.size w0 w11));have n2_:=Aside0.mk (Kept.of_grown (S:=(fun k_=>P0_ k_)) hg (by repeat (first|(with_reducible first|exact HK.out|apply Kept.alloc|apply Kept.drewN|apply Kept.drew)|exact HK.out)) (fun k_ e_=>(HO_0.out.1 k_ e_)));clear HO_0;clear HB;clear HK;have HO_0:=n0_;have HB:=n1_;have HK:=n2_;clear n0_ n1_ n2_;clear hg hw hp_))
     go_roundg k1
     case measure=>have:=HK1.out;omega
     case rel=>exact ⟨(y439),(wrap64 ((wrap64 (x1_1+1))+1)),(wrap64 (x5_1+1)),(by first|rfl|(simp;done)|(simp [*];done)),(by first|rfl|(simp;done)|(simp [*];done)),H',⟨by have:=HK1.out;omega⟩,⟨by (with_reducible repeat (first|apply Kd.R_alloc|apply Kd.R_drewN|apply Kd.R_drew));exact HO_0.out⟩,⟨by repeat (first|(with_reducible first|exact HK.out|apply Kept.alloc|apply Kept.drewN|apply Kept.drew)|exact HK.out)⟩,⟨by repeat (first|(with_reducible first|exact HB.out|apply below_alloc|apply pw_below_drewN|apply below_drew1)|exact HB.out)⟩⟩
    rw [if_neg c4] at H
    exact absurd H (by simp)
   rw [if_neg c3] at H
   have c3b0:decide (x5_1<(x0_1.length:Int))=false:=decide_eq_false c3
   clear c3
   simp only [Option.some.injEq,Prod.mk.injEq] at H
   obtain ⟨rfl,rfl⟩:=H
   obtain ⟨Ao12,co12,eo12⟩:=Kd.R_slice HO_0.out
   subst eo12
   go_wp2
   go_ret
   exact ⟨by first|rfl|(simp [errW_none,errW_some] <;> rfl)|(simp [*,errW_none,errW_some] <;> rfl),by (with_reducible repeat (first|apply Kd.R_alloc|apply Kd.R_drewN|apply Kd.R_drew));exact HO_0.out,by repeat (first|(with_reducible first|exact HB.out|apply below_alloc|apply pw_below_drewN|apply below_drew1)|exact HB.out),by repeat (first|(with_reducible first|exact HK.out|apply Kept.alloc|apply Kept.drewN|apply Kept.drew)|exact HK.out)⟩
end Go.Proofs.Ytpdnabhpkdchjaa.P
namespace Go.Proofs.Ytpdnabhpkdchjaa.P
open Go.RowKit Go.Proofs.YtpdnabhpkdchjaaW.PrintWords Go.Proofs.YtpdnabhpkdchjaaW.PrintLast Go.Proofs.YtpdnabhpkdchjaaW.PrintMore
attribute [local go_sem] max2_int min2_int max_two min_two max_three min_three max_four min_four
set_option linter.unusedVariables false
set_option linter.unusedSimpArgs false
def laws_markLayout.f (k:Nat) (a0_0:Int) (l0_1:List (S88)) (a1:Int):Option (Int × (List (S88))):=(laws_markCounterS.f k l0_1 a1).bind fun bt441=>(some (bt441.1,bt441.2))
set_option maxHeartbeats 8000000 in
set_option maxRecDepth 100000 in
theorem laws_markLayout.calls (k:Nat) (a0_0:Int) (P0_1_:Nat→Prop) (u9000_:Value) (l0_1:List (S88)) (a1:Int) (r1:Int) (r2:List (S88)) (w0 w:World) (hB:Below w0.heap.size w0 w) (ho0_1:Kd.R k88 88 w w0.heap.size P0_1_ u9000_ l0_1) (h:laws_markLayout.f k a0_0 l0_1 a1=some (r1,r2)) :
  Calls Try.prog 40 #[.agg #[.int .i64 a0_0,u9000_],.int .i64 a1] w fun e w'=>e=.returned (.int .i64 r1)∧Kd.R k88 88 w' w0.heap.size (fun k_=>(P0_1_ k_ ∨ w.heap.size≤k_)) u9000_ r2∧Below w0.heap.size w0 w'∧Kept w w' (fun k_=>P0_1_ k_):=by
 have hu30:=Try.underlying30
 have HO0_1:=Aside0.mk (show Kd.R k88 88 w w0.heap.size (fun k_=>(P0_1_ k_ ∨ w.heap.size≤k_)) u9000_ l0_1 from Kd.R_mono ho0_1 (fun k_ hk=>(.inl hk)))
 have HK:=Aside0.mk (Kept.refl w (fun k_=>P0_1_ k_))
 have HW0:=Aside0.mk hB.size
 have HB:=Aside0.mk hB
 clear hB
 have H:((laws_markCounterS.f k l0_1 a1).bind fun bt441=>(some (bt441.1,bt441.2)))=some (r1,r2):=h
 clear h
 replace H:=Option.bind_eq_some_iff.mp H
 obtain ⟨⟨t441,t442⟩,A30,H⟩:=H
 replace H:(some (t441,t442))=some (r1,r2):=H
 have A3:=Aside0.mk A30
 clear A30
 simp only [Option.some.injEq,Prod.mk.injEq] at H
 obtain ⟨rfl,rfl⟩:=H
 obtain ⟨Ao4,co4,eo4⟩:=Kd.R_slice HO0_1.out
 subst eo4
 go_enter Try.func40,Try.ntmps40
 go_wp2_with (first|((with_reducible refine gate_dst (N:=2) rfl ?_);refine box_event ?hg (N:=2) ?hd (cs:=#[.int .i64 a0_0,.slice Ao4 l0_1.length co4]) (t:=30) ?hr ?_;(case hd=>rfl);(case hg=>rfl);(case hr=>first|(go_simp;done)|(go_simp;rfl));intro gb440 hg w5 hbox hb;have n0_:=Aside0.mk (Kd.R_below (by (with_reducible repeat (first|apply Kd.R_alloc|apply Kd.R_drewN|apply Kd.R_drew));exact HO0_1.out) hb);have n1_:=Aside0.mk (Kept.below (S:=(fun k_=>P0_1_ k_)) (by repeat (first|(with_reducible first|exact HK.out|apply Kept.alloc|apply Kept.drewN|apply Kept.drew)|exact HK.out)) hb);have n2_:=Aside0.mk (below_step (by repeat (first|(with_reducible first|exact HB.out|apply below_alloc|apply pw_below_drewN|apply below_drew1)|exact HB.out)) hb);have n3_:=Aside0.mk (hbox);have n4_:=Aside0.mk ((by rw [hg];exact (by first|exact HK.out.1|exact (show Kept w _ (fun k_=>P0_1_ k_) from by repeat (first|(with_reducible first|exact HK.out|apply Kept.alloc|apply Kept.drewN|apply Kept.drew)|exact HK.out)).1):w.heap.size≤gb440));have n5_:=Aside0.mk ((by rw [hg];exact (below_size (by repeat (first|(with_reducible first|exact HB.out|apply below_alloc|apply pw_below_drewN|apply below_drew1)|exact HB.out))):w0.heap.size≤gb440));clear HO0_1;clear HK;clear HB;have HO0_1:=n0_;have HK:=n1_;have HB:=n2_;have BK440:=n3_;have GW440:=n4_;have GE440:=n5_;clear n0_ n1_ n2_ n3_ n4_ n5_;clear hb hbox hg;have hcz6_0:w5.cell? ⟨gb440,0,none⟩=some (.int .i64 a0_0):=(blk_cell BK440.out 0).trans rfl;have hcz6_1:w5.cell? ⟨gb440,1,none⟩=some (.slice Ao4 l0_1.length co4):=(blk_cell BK440.out 1).trans rfl;have hfz6_0:=blk_frozen BK440.out 0;have hfz6_1:=blk_frozen BK440.out 1)|((with_reducible refine gate_callee (f:=99) rfl ?_);refine goesL_ (some 8) rfl rfl Try.func99 (by kernel_rfl) rfl #[.slice Ao4 l0_1.length co4,.int .i64 a1] rfl (by (try simp only [List.map_toArray,List.map_cons,List.map_nil]);first|done|rfl|(simp only [List.length_drop,List.length_take];rfl)) ?_;(with_reducible refine (laws_markCounterS.calls k (fun k_=>some k_=(.slice Ao4 l0_1.length co4:Value).ownBlock) (.slice Ao4 l0_1.length co4) l0_1 a1 t441 t442 w0 _ ?side1 ?side2 A3.out).mono ?_);(case side1=>repeat (first|(with_reducible first|exact HB.out|apply below_alloc|apply pw_below_drewN|apply below_drew1|refine below_set ?_ GE440.out)|exact HB.out));(case side2=>exact Kd.R_tight rfl HO0_1.out);rintro e w7 ⟨rfl,hy0,hb,hkp⟩;refine ⟨_,rfl,?_⟩;have n0_:=Aside0.mk (Kd.R_reok rfl hy0 (fun k_ e_=>HO0_1.out.1 k_ e_));have n1_:=Aside0.mk (blk_kept (by (with_reducible repeat (first|refine blk_drewN ?_ _|refine blk_drew ?_|refine blk_alloc ?_ _));exact BK440.out) hkp (fun hs_=>(fun e_=>(Kd.R_ne HO0_1.out BK440.out (by decide)) e_) hs_));have n2_:=Aside0.mk (Kept.then_ (S:=(fun k_=>P0_1_ k_)) (by repeat (first|(with_reducible first|exact HK.out|apply Kept.alloc|apply Kept.drewN|apply Kept.drew|refine Kept.setCell ?_ (.inr GW440.out) _)|exact HK.out)) hkp (fun k_ hs_=>(fun e_=>(HO0_1.out.1 k_ e_.symm)) hs_));have n3_:=Aside0.mk (hb);clear HO0_1;clear BK440;clear HK;clear HB;have HO0_1:=n0_;have BK440:=n1_;have HK:=n2_;have HB:=n3_;clear n0_ n1_ n2_ n3_;(try clear hb);(try clear hkp);(try clear hy0)))
 go_ret
 exact ⟨by first|rfl|(simp [errW_none,errW_some] <;> rfl)|(simp [*,errW_none,errW_some] <;> rfl),by (with_reducible repeat (first|apply Kd.R_alloc|apply Kd.R_drewN|apply Kd.R_drew));exact HO0_1.out,by repeat (first|(with_reducible first|exact HB.out|apply below_alloc|apply pw_below_drewN|apply below_drew1|refine below_set ?_ GE440.out)|exact HB.out),by repeat (first|(with_reducible first|exact HK.out|apply Kept.alloc|apply Kept.drewN|apply Kept.drew|refine Kept.setCell ?_ (.inr GW440.out) _)|exact HK.out)⟩
end Go.Proofs.Ytpdnabhpkdchjaa.P
namespace Go.Proofs.Ytpdnabhpkdchjaa.P
open Go.RowKit Go.Proofs.YtpdnabhpkdchjaaW.PrintWords Go.Proofs.YtpdnabhpkdchjaaW.PrintLast
set_option linter.unusedVariables false
set_option linter.unusedSimpArgs false
def marks {α : Type} (f : Int → α) (c : Int) (a : Int) (n : Nat) : List α := (List.range n).map fun j => f (a + c * (j : Nat))
theorem marks_length {α : Type} (f : Int → α) (c a : Int) (n : Nat) : (marks f c a n).length = n := by simp [marks]
theorem marks_get {α : Type} (f : Int → α) (c a : Int) (n : Nat) (i : Nat) (h : i < n) : (marks f c a n)[i]'(by rw [marks_length]; exact h) = f (a + c * (i : Nat)) := by simp [marks]
theorem set_mid {α : Type} {m l : List α} {i : Nat} (h : i < l.length) (hm : m.length = l.length) {v : α} (hv : m[i]'(by omega) = v) : (m.take i ++ l.drop i).set i v = m.take (i + 1) ++ l.drop (i + 1) := by
  subst hv
  rw [List.set_append_right _ _ (by simp; omega)]
  simp only [List.length_take, hm, Nat.min_eq_left (Nat.le_of_lt h), Nat.sub_self]
  rw [List.drop_eq_getElem_cons h, List.set_cons_zero, List.take_succ_eq_append_getElem (by omega), List.append_assoc]
  rfl
theorem mid_length {α : Type} {m l : List α} {i : Nat} (h : i ≤ l.length) (hm : m.length = l.length) : (m.take i ++ l.drop i).length = l.length := by simp; omega
def mkC (k : Int) : S88 := ⟨k, k + 1⟩
theorem markCounterS_l0 (l : List S88) (a : Int) (ha : 0 ≤ a) (hl : a + 2 * l.length ≤ 4611686018427387903) (d : Nat) : ∀ (i : Nat), i + d = l.length →
    Ev (fun k => laws_markCounterS.l0 k ((marks mkC 2 a l.length).take i ++ l.drop i) (a + 2 * i) i) (a + 2 * l.length, marks mkC 2 a l.length) := by
  have hm : (marks mkC 2 a l.length).length = l.length := marks_length _ _ _ _
  induction d with
  | zero =>
    intro i hi
    refine Ev.step1 fun k => ?_
    simp only [laws_markCounterS.l0]
    rw [mid_length (by omega) hm, if_neg (by omega), List.take_of_length_le (by omega), List.drop_eq_nil_of_le (by omega), List.append_nil, show i = l.length by omega]
  | succ d ih =>
    intro i hi
    refine Ev.step (fun k => ?_) (ih (i + 1) (by omega))
    have hlen := mid_length (m := marks mkC 2 a l.length) (l := l) (i := i) (by omega) hm
    simp only [laws_markCounterS.l0, Option.bind_some]
    rw [hlen, if_pos (by omega), if_pos (by omega), wrap_succ (by omega), wrap_id (x := a + 2 * (i : Int) + 1) (by omega) (by omega), wrap_id (by omega) (by omega)]
    simp only [Int.toNat_natCast, rd_T88, List.set_set]
    rw [List.getD_eq_getElem?_getD, List.getElem?_set_self (by omega), Option.getD_some,
      set_mid (by omega) hm (v := ⟨a + 2 * i, a + 2 * i + 1⟩) (by rw [marks_get _ _ _ _ _ (by omega)]; rfl), show a + 2 * (i : Int) + 1 + 1 = a + 2 * ((i + 1 : Nat) : Int) by omega]
theorem markLayout_ev (n : Int) (l : List S88) (a : Int) (ha : 0 ≤ a) (hl : a + 2 * l.length ≤ 4611686018427387903) : Ev (fun k => laws_markLayout.f k n l a) (a + 2 * l.length, marks mkC 2 a l.length) := by
  unfold laws_markLayout.f
  refine Ev.bind (a := (a + 2 * (l.length : Int), marks mkC 2 a l.length)) ?_ (Ev.now _)
  unfold laws_markCounterS.f
  simpa using markCounterS_l0 l a ha hl l.length 0 (by omega)
end Go.Proofs.Ytpdnabhpkdchjaa.P
namespace Go.Proofs.Ytpdnabhpkdchjaa.P
open Go.RowKit Go.Proofs.YtpdnabhpkdchjaaW.PrintWords Go.Proofs.YtpdnabhpkdchjaaW.PrintLast Go.Proofs.YtpdnabhpkdchjaaW.PrintMore
attribute [local go_sem] max2_int min2_int max_two min_two max_three min_three max_four min_four
set_option linter.unusedVariables false
set_option linter.unusedSimpArgs false
def laws_eqSection.f (a0_0:Int) (a0_1:Int) (a0_2:Bool) (a0_3:Bool) (a0_4:Int) (a1_0:Int) (a1_1:Int) (a1_2:Bool) (a1_3:Bool) (a1_4:Int):Option (Bool):=if a0_0=a1_0 then (if a0_1=a1_1 then (if (a0_2 != a1_2)=true then (some false) else (if (a0_3 != a1_3)=true then (some false) else (if a0_4=a1_4 then (some true) else (some false)))) else (some false)) else (some false)
set_option maxHeartbeats 8000000 in
set_option maxRecDepth 100000 in
theorem laws_eqSection.calls (a0_0:Int) (a0_1:Int) (a0_2:Bool) (a0_3:Bool) (a0_4:Int) (a1_0:Int) (a1_1:Int) (a1_2:Bool) (a1_3:Bool) (a1_4:Int) (r:Bool) (w:World) (h:laws_eqSection.f a0_0 a0_1 a0_2 a0_3 a0_4 a1_0 a1_1 a1_2 a1_3 a1_4=some r) :
  Calls Try.prog 132 #[.agg #[.int .i64 a0_0,.int .i64 a0_1,.bool a0_2,.bool a0_3,.int .i64 a0_4],.agg #[.int .i64 a1_0,.int .i64 a1_1,.bool a1_2,.bool a1_3,.int .i64 a1_4]] w fun e w'=>e=.returned (.bool r)∧Below w.heap.size w w':=by
 have hu50:=Try.underlying50
 have HB:=Aside0.mk (Below.refl w.heap.size w)
 have H:(if a0_0=a1_0 then (if a0_1=a1_1 then (if (a0_2 != a1_2)=true then (some false) else (if (a0_3 != a1_3)=true then (some false) else (if a0_4=a1_4 then (some true) else (some false)))) else (some false)) else (some false))=some r:=h
 clear h
 by_cases c3:a0_0=a1_0
 ·rw [if_pos c3] at H
  have c3b0:(a0_0==a1_0)=true:=beq_iff_eq.mpr c3
  have c3b1:(a0_0 != a1_0)=false:=bne_eq_false_iff_eq.mpr c3
  clear c3
  by_cases c4:a0_1=a1_1
  ·rw [if_pos c4] at H
   have c4b0:(a0_1==a1_1)=true:=beq_iff_eq.mpr c4
   have c4b1:(a0_1 != a1_1)=false:=bne_eq_false_iff_eq.mpr c4
   clear c4
   by_cases c5:(a0_2 != a1_2)=true
   ·rw [if_pos c5] at H
    have c5b0:(a0_2 != a1_2)=true:=c5
    (try (have c5b1:decide (a0_2=a1_2)=false:=by simpa using c5))
    (try (have c5b2:(a0_2==a1_2)=false:=by simpa using c5))
    (try (have c5b3:¬ (a0_2=a1_2):=by simpa using c5))
    clear c5
    obtain rfl:=Option.some.inj H
    go_enter Try.func132,Try.ntmps132
    go_wp2_with (first|((with_reducible refine gate_dst (N:=2) rfl ?_);refine box_event ?hg (N:=2) ?hd (cs:=#[.int .i64 a0_0,.int .i64 a0_1,.bool a0_2,.bool a0_3,.int .i64 a0_4]) (t:=50) ?hr ?_;(case hd=>rfl);(case hg=>rfl);(case hr=>first|(go_simp;done)|(go_simp;rfl));intro gb483 hg w6 hbox hb;have n0_:=Aside0.mk (below_step (by repeat (first|(with_reducible first|exact HB.out|apply below_alloc|apply pw_below_drewN|apply below_drew1)|exact HB.out)) hb);have n1_:=Aside0.mk (hbox);have n2_:=Aside0.mk ((by rw [hg];exact (below_size (by repeat (first|(with_reducible first|exact HB.out|apply below_alloc|apply pw_below_drewN|apply below_drew1)|exact HB.out))):w.heap.size≤gb483));have n3_:=Aside0.mk ((by rw [hg];exact (below_size (by repeat (first|(with_reducible first|exact HB.out|apply below_alloc|apply pw_below_drewN|apply below_drew1)|exact HB.out))):w.heap.size≤gb483));clear HB;have HB:=n0_;have BK483:=n1_;have GW483:=n2_;have GE483:=n3_;clear n0_ n1_ n2_ n3_;clear hb hbox hg)|((with_reducible refine gate_dst (N:=3) rfl ?_);refine box_event ?hg (N:=3) ?hd (cs:=#[.int .i64 a1_0,.int .i64 a1_1,.bool a1_2,.bool a1_3,.int .i64 a1_4]) (t:=50) ?hr ?_;(case hd=>rfl);(case hg=>rfl);(case hr=>first|(go_simp;done)|(go_simp;rfl));intro gb484 hg w7 hbox hb;have n0_:=Aside0.mk (blk_below (g:=gb483) (o:=.cells #[.int .i64 a0_0,.int .i64 a0_1,.bool a0_2,.bool a0_3,.int .i64 a0_4] 50 (0,0)) (by (with_reducible repeat (first|refine blk_drewN ?_ _|refine blk_drew ?_|refine blk_alloc ?_ _));exact BK483.out) hb);have n1_:=Aside0.mk (below_step (by repeat (first|(with_reducible first|exact HB.out|apply below_alloc|apply pw_below_drewN|apply below_drew1|refine below_set ?_ GE483.out)|exact HB.out)) hb);have n2_:=Aside0.mk (hbox);have n3_:=Aside0.mk ((by rw [hg];exact (below_size (by repeat (first|(with_reducible first|exact HB.out|apply below_alloc|apply pw_below_drewN|apply below_drew1|refine below_set ?_ GE483.out)|exact HB.out))):w.heap.size≤gb484));have n4_:=Aside0.mk ((by rw [hg];exact (below_size (by repeat (first|(with_reducible first|exact HB.out|apply below_alloc|apply pw_below_drewN|apply below_drew1|refine below_set ?_ GE483.out)|exact HB.out))):w.heap.size≤gb484));have n5_:=Aside0.mk ((by rw [hg];exact Nat.ne_of_lt (blk_lt (g:=gb483) (o:=.cells #[.int .i64 a0_0,.int .i64 a0_1,.bool a0_2,.bool a0_3,.int .i64 a0_4] 50 (0,0)) (by (with_reducible repeat (first|refine blk_drewN ?_ _|refine blk_drew ?_|refine blk_alloc ?_ _));exact BK483.out)):gb483 ≠ gb484));have n6_:=Aside0.mk ((by rw [hg];exact Nat.ne_of_gt (blk_lt (g:=gb483) (o:=.cells #[.int .i64 a0_0,.int .i64 a0_1,.bool a0_2,.bool a0_3,.int .i64 a0_4] 50 (0,0)) (by (with_reducible repeat (first|refine blk_drewN ?_ _|refine blk_drew ?_|refine blk_alloc ?_ _));exact BK483.out)):gb484 ≠ gb483));clear BK483;clear HB;have BK483:=n0_;have HB:=n1_;have BK484:=n2_;have GW484:=n3_;have GE484:=n4_;have NB483_484:=n5_;have NB484_483:=n6_;clear n0_ n1_ n2_ n3_ n4_ n5_ n6_;clear hb hbox hg;have hnb8:=NB483_484.out;have hnc8:=NB484_483.out;have hcz9_0:w7.cell? ⟨gb483,0,none⟩=some (.int .i64 a0_0):=(blk_cell BK483.out 0).trans rfl;have hcz9_1:w7.cell? ⟨gb483,1,none⟩=some (.int .i64 a0_1):=(blk_cell BK483.out 1).trans rfl;have hcz9_2:w7.cell? ⟨gb483,2,none⟩=some (.bool a0_2):=(blk_cell BK483.out 2).trans rfl;have hcz9_3:w7.cell? ⟨gb483,3,none⟩=some (.bool a0_3):=(blk_cell BK483.out 3).trans rfl;have hcz9_4:w7.cell? ⟨gb483,4,none⟩=some (.int .i64 a0_4):=(blk_cell BK483.out 4).trans rfl;have hfz9_0:=blk_frozen BK483.out 0;have hfz9_1:=blk_frozen BK483.out 1;have hfz9_2:=blk_frozen BK483.out 2;have hfz9_3:=blk_frozen BK483.out 3;have hfz9_4:=blk_frozen BK483.out 4;have hcz10_0:w7.cell? ⟨gb484,0,none⟩=some (.int .i64 a1_0):=(blk_cell BK484.out 0).trans rfl;have hcz10_1:w7.cell? ⟨gb484,1,none⟩=some (.int .i64 a1_1):=(blk_cell BK484.out 1).trans rfl;have hcz10_2:w7.cell? ⟨gb484,2,none⟩=some (.bool a1_2):=(blk_cell BK484.out 2).trans rfl;have hcz10_3:w7.cell? ⟨gb484,3,none⟩=some (.bool a1_3):=(blk_cell BK484.out 3).trans rfl;have hcz10_4:w7.cell? ⟨gb484,4,none⟩=some (.int .i64 a1_4):=(blk_cell BK484.out 4).trans rfl;have hfz10_0:=blk_frozen BK484.out 0;have hfz10_1:=blk_frozen BK484.out 1;have hfz10_2:=blk_frozen BK484.out 2;have hfz10_3:=blk_frozen BK484.out 3;have hfz10_4:=blk_frozen BK484.out 4))
    go_ret
    exact ⟨by first|rfl|(simp [errW_none,errW_some] <;> rfl)|(simp [*,errW_none,errW_some] <;> rfl),by repeat (first|(with_reducible first|exact HB.out|apply below_alloc|apply pw_below_drewN|apply below_drew1|refine below_set ?_ GE483.out|refine below_set ?_ GE484.out)|exact HB.out)⟩
   rw [if_neg c5] at H
   have c5b0:(a0_2 != a1_2)=false:=by simpa using c5
   (try (have c5b1:decide (a0_2=a1_2)=true:=by simpa using c5))
   (try (have c5b2:(a0_2==a1_2)=true:=by simpa using c5))
   clear c5
   by_cases c11:(a0_3 != a1_3)=true
   ·rw [if_pos c11] at H
    have c11b0:(a0_3 != a1_3)=true:=c11
    (try (have c11b1:decide (a0_3=a1_3)=false:=by simpa using c11))
    (try (have c11b2:(a0_3==a1_3)=false:=by simpa using c11))
    (try (have c11b3:¬ (a0_3=a1_3):=by simpa using c11))
    clear c11
    obtain rfl:=Option.some.inj H
    go_enter Try.func132,Try.ntmps132
    go_wp2_with (first|((with_reducible refine gate_dst (N:=2) rfl ?_);refine box_event ?hg (N:=2) ?hd (cs:=#[.int .i64 a0_0,.int .i64 a0_1,.bool a0_2,.bool a0_3,.int .i64 a0_4]) (t:=50) ?hr ?_;(case hd=>rfl);(case hg=>rfl);(case hr=>first|(go_simp;done)|(go_simp;rfl));intro gb483 hg w12 hbox hb;have n0_:=Aside0.mk (below_step (by repeat (first|(with_reducible first|exact HB.out|apply below_alloc|apply pw_below_drewN|apply below_drew1)|exact HB.out)) hb);have n1_:=Aside0.mk (hbox);have n2_:=Aside0.mk ((by rw [hg];exact (below_size (by repeat (first|(with_reducible first|exact HB.out|apply below_alloc|apply pw_below_drewN|apply below_drew1)|exact HB.out))):w.heap.size≤gb483));have n3_:=Aside0.mk ((by rw [hg];exact (below_size (by repeat (first|(with_reducible first|exact HB.out|apply below_alloc|apply pw_below_drewN|apply below_drew1)|exact HB.out))):w.heap.size≤gb483));clear HB;have HB:=n0_;have BK483:=n1_;have GW483:=n2_;have GE483:=n3_;clear n0_ n1_ n2_ n3_;clear hb hbox hg)|((with_reducible refine gate_dst (N:=3) rfl ?_);refine box_event ?hg (N:=3) ?hd (cs:=#[.int .i64 a1_0,.int .i64 a1_1,.bool a1_2,.bool a1_3,.int .i64 a1_4]) (t:=50) ?hr ?_;(case hd=>rfl);(case hg=>rfl);(case hr=>first|(go_simp;done)|(go_simp;rfl));intro gb484 hg w13 hbox hb;have n0_:=Aside0.mk (blk_below (g:=gb483) (o:=.cells #[.int .i64 a0_0,.int .i64 a0_1,.bool a0_2,.bool a0_3,.int .i64 a0_4] 50 (0,0)) (by (with_reducible repeat (first|refine blk_drewN ?_ _|refine blk_drew ?_|refine blk_alloc ?_ _));exact BK483.out) hb);have n1_:=Aside0.mk (below_step (by repeat (first|(with_reducible first|exact HB.out|apply below_alloc|apply pw_below_drewN|apply below_drew1|refine below_set ?_ GE483.out)|exact HB.out)) hb);have n2_:=Aside0.mk (hbox);have n3_:=Aside0.mk ((by rw [hg];exact (below_size (by repeat (first|(with_reducible first|exact HB.out|apply below_alloc|apply pw_below_drewN|apply below_drew1|refine below_set ?_ GE483.out)|exact HB.out))):w.heap.size≤gb484));have n4_:=Aside0.mk ((by rw [hg];exact (below_size (by repeat (first|(with_reducible first|exact HB.out|apply below_alloc|apply pw_below_drewN|apply below_drew1|refine below_set ?_ GE483.out)|exact HB.out))):w.heap.size≤gb484));have n5_:=Aside0.mk ((by rw [hg];exact Nat.ne_of_lt (blk_lt (g:=gb483) (o:=.cells #[.int .i64 a0_0,.int .i64 a0_1,.bool a0_2,.bool a0_3,.int .i64 a0_4] 50 (0,0)) (by (with_reducible repeat (first|refine blk_drewN ?_ _|refine blk_drew ?_|refine blk_alloc ?_ _));exact BK483.out)):gb483 ≠ gb484));have n6_:=Aside0.mk ((by rw [hg];exact Nat.ne_of_gt (blk_lt (g:=gb483) (o:=.cells #[.int .i64 a0_0,.int .i64 a0_1,.bool a0_2,.bool a0_3,.int .i64 a0_4] 50 (0,0)) (by (with_reducible repeat (first|refine blk_drewN ?_ _|refine blk_drew ?_|refine blk_alloc ?_ _));exact BK483.out)):gb484 ≠ gb483));clear BK483;clear HB;have BK483:=n0_;have HB:=n1_;have BK484:=n2_;have GW484:=n3_;have GE484:=n4_;have NB483_484:=n5_;have NB484_483:=n6_;clear n0_ n1_ n2_ n3_ n4_ n5_ n6_;clear hb hbox hg;have hnb14:=NB483_484.out;have hnc14:=NB484_483.out;have hcz15_0:w13.cell? ⟨gb483,0,none⟩=some (.int .i64 a0_0):=(blk_cell BK483.out 0).trans rfl;have hcz15_1:w13.cell? ⟨gb483,1,none⟩=some (.int .i64 a0_1):=(blk_cell BK483.out 1).trans rfl;have hcz15_2:w13.cell? ⟨gb483,2,none⟩=some (.bool a0_2):=(blk_cell BK483.out 2).trans rfl;have hcz15_3:w13.cell? ⟨gb483,3,none⟩=some (.bool a0_3):=(blk_cell BK483.out 3).trans rfl;have hcz15_4:w13.cell? ⟨gb483,4,none⟩=some (.int .i64 a0_4):=(blk_cell BK483.out 4).trans rfl;have hfz15_0:=blk_frozen BK483.out 0;have hfz15_1:=blk_frozen BK483.out 1;have hfz15_2:=blk_frozen BK483.out 2;have hfz15_3:=blk_frozen BK483.out 3;have hfz15_4:=blk_frozen BK483.out 4;have hcz16_0:w13.cell? ⟨gb484,0,none⟩=some (.int .i64 a1_0):=(blk_cell BK484.out 0).trans rfl;have hcz16_1:w13.cell? ⟨gb484,1,none⟩=some (.int .i64 a1_1):=(blk_cell BK484.out 1).trans rfl;have hcz16_2:w13.cell? ⟨gb484,2,none⟩=some (.bool a1_2):=(blk_cell BK484.out 2).trans rfl;have hcz16_3:w13.cell? ⟨gb484,3,none⟩=some (.bool a1_3):=(blk_cell BK484.out 3).trans rfl;have hcz16_4:w13.cell? ⟨gb484,4,none⟩=some (.int .i64 a1_4):=(blk_cell BK484.out 4).trans rfl;have hfz16_0:=blk_frozen BK484.out 0;have hfz16_1:=blk_frozen BK484.out 1;have hfz16_2:=blk_frozen BK484.out 2;have hfz16_3:=blk_frozen BK484.out 3;have hfz16_4:=blk_frozen BK484.out 4))
    go_ret
    exact ⟨by first|rfl|(simp [errW_none,errW_some] <;> rfl)|(simp [*,errW_none,errW_some] <;> rfl),by repeat (first|(with_reducible first|exact HB.out|apply below_alloc|apply pw_below_drewN|apply below_drew1|refine below_set ?_ GE483.out|refine below_set ?_ GE484.out)|exact HB.out)⟩
   rw [if_neg c11] at H
   have c11b0:(a0_3 != a1_3)=false:=by simpa using c11
   (try (have c11b1:decide (a0_3=a1_3)=true:=by simpa using c11))
   (try (have c11b2:(a0_3==a1_3)=true:=by simpa using c11))
   clear c11
   by_cases c17:a0_4=a1_4
   ·rw [if_pos c17] at H
    have c17b0:(a0_4==a1_4)=true:=beq_iff_eq.mpr c17
    have c17b1:(a0_4 != a1_4)=false:=bne_eq_false_iff_eq.mpr c17
    clear c17
    obtain rfl:=Option.some.inj H
    go_enter Try.func132,Try.ntmps132
    go_wp2_with (first|((with_reducible refine gate_dst (N:=2) rfl ?_);refine box_event ?hg (N:=2) ?hd (cs:=#[.int .i64 a0_0,.int .i64 a0_1,.bool a0_2,.bool a0_3,.int .i64 a0_4]) (t:=50) ?hr ?_;(case hd=>rfl);(case hg=>rfl);(case hr=>first|(go_simp;done)|(go_simp;rfl));intro gb483 hg w18 hbox hb;have n0_:=Aside0.mk (below_step (by repeat (first|(with_reducible first|exact HB.out|apply below_alloc|apply pw_below_drewN|apply below_drew1)|exact HB.out)) hb);have n1_:=Aside0.mk (hbox);have n2_:=Aside0.mk ((by rw [hg];exact (below_size (by repeat (first|(with_reducible first|exact HB.out|apply below_alloc|apply pw_below_drewN|apply below_drew1)|exact HB.out))):w.heap.size≤gb483));have n3_:=Aside0.mk ((by rw [hg];exact (below_size (by repeat (first|(with_reducible first|exact HB.out|apply below_alloc|apply pw_below_drewN|apply below_drew1)|exact HB.out))):w.heap.size≤gb483));clear HB;have HB:=n0_;have BK483:=n1_;have GW483:=n2_;have GE483:=n3_;clear n0_ n1_ n2_ n3_;clear hb hbox hg)|((with_reducible refine gate_dst (N:=3) rfl ?_);refine box_event ?hg (N:=3) ?hd (cs:=#[.int .i64 a1_0,.int .i64 a1_1,.bool a1_2,.bool a1_3,.int .i64 a1_4]) (t:=50) ?hr ?_;(case hd=>rfl);(case hg=>rfl);(case hr=>first|(go_simp;done)|(go_simp;rfl));intro gb484 hg w19 hbox hb;have n0_:=Aside0.mk (blk_below (g:=gb483) (o:=.cells #[.int .i64 a0_0,.int .i64 a0_1,.bool a0_2,.bool a0_3,.int .i64 a0_4] 50 (0,0)) (by (with_reducible repeat (first|refine blk_drewN ?_ _|refine blk_drew ?_|refine blk_alloc ?_ _));exact BK483.out) hb);have n1_:=Aside0.mk (below_step (by repeat (first|(with_reducible first|exact HB.out|apply below_alloc|apply pw_below_drewN|apply below_drew1|refine below_set ?_ GE483.out)|exact HB.out)) hb);have n2_:=Aside0.mk (hbox);have n3_:=Aside0.mk ((by rw [hg];exact (below_size (by repeat (first|(with_reducible first|exact HB.out|apply below_alloc|apply pw_below_drewN|apply below_drew1|refine below_set ?_ GE483.out)|exact HB.out))):w.heap.size≤gb484));have n4_:=Aside0.mk ((by rw [hg];exact (below_size (by repeat (first|(with_reducible first|exact HB.out|apply below_alloc|apply pw_below_drewN|apply below_drew1|refine below_set ?_ GE483.out)|exact HB.out))):w.heap.size≤gb484));have n5_:=Aside0.mk ((by rw [hg];exact Nat.ne_of_lt (blk_lt (g:=gb483) (o:=.cells #[.int .i64 a0_0,.int .i64 a0_1,.bool a0_2,.bool a0_3,.int .i64 a0_4] 50 (0,0)) (by (with_reducible repeat (first|refine blk_drewN ?_ _|refine blk_drew ?_|refine blk_alloc ?_ _));exact BK483.out)):gb483 ≠ gb484));have n6_:=Aside0.mk ((by rw [hg];exact Nat.ne_of_gt (blk_lt (g:=gb483) (o:=.cells #[.int .i64 a0_0,.int .i64 a0_1,.bool a0_2,.bool a0_3,.int .i64 a0_4] 50 (0,0)) (by (with_reducible repeat (first|refine blk_drewN ?_ _|refine blk_drew ?_|refine blk_alloc ?_ _));exact BK483.out)):gb484 ≠ gb483));clear BK483;clear HB;have BK483:=n0_;have HB:=n1_;have BK484:=n2_;have GW484:=n3_;have GE484:=n4_;have NB483_484:=n5_;have NB484_483:=n6_;clear n0_ n1_ n2_ n3_ n4_ n5_ n6_;clear hb hbox hg;have hnb20:=NB483_484.out;have hnc20:=NB484_483.out;have hcz21_0:w19.cell? ⟨gb483,0,none⟩=some (.int .i64 a0_0):=(blk_cell BK483.out 0).trans rfl;have hcz21_1:w19.cell? ⟨gb483,1,none⟩=some (.int .i64 a0_1):=(blk_cell BK483.out 1).trans rfl;have hcz21_2:w19.cell? ⟨gb483,2,none⟩=some (.bool a0_2):=(blk_cell BK483.out 2).trans rfl;have hcz21_3:w19.cell? ⟨gb483,3,none⟩=some (.bool a0_3):=(blk_cell BK483.out 3).trans rfl;have hcz21_4:w19.cell? ⟨gb483,4,none⟩=some (.int .i64 a0_4):=(blk_cell BK483.out 4).trans rfl;have hfz21_0:=blk_frozen BK483.out 0;have hfz21_1:=blk_frozen BK483.out 1;have hfz21_2:=blk_frozen BK483.out 2;have hfz21_3:=blk_frozen BK483.out 3;have hfz21_4:=blk_frozen BK483.out 4;have hcz22_0:w19.cell? ⟨gb484,0,none⟩=some (.int .i64 a1_0):=(blk_cell BK484.out 0).trans rfl;have hcz22_1:w19.cell? ⟨gb484,1,none⟩=some (.int .i64 a1_1):=(blk_cell BK484.out 1).trans rfl;have hcz22_2:w19.cell? ⟨gb484,2,none⟩=some (.bool a1_2):=(blk_cell BK484.out 2).trans rfl;have hcz22_3:w19.cell? ⟨gb484,3,none⟩=some (.bool a1_3):=(blk_cell BK484.out 3).trans rfl;have hcz22_4:w19.cell? ⟨gb484,4,none⟩=some (.int .i64 a1_4):=(blk_cell BK484.out 4).trans rfl;have hfz22_0:=blk_frozen BK484.out 0;have hfz22_1:=blk_frozen BK484.out 1;have hfz22_2:=blk_frozen BK484.out 2;have hfz22_3:=blk_frozen BK484.out 3;have hfz22_4:=blk_frozen BK484.out 4))
    go_ret
    exact ⟨by first|rfl|(simp [errW_none,errW_some] <;> rfl)|(simp [*,errW_none,errW_some] <;> rfl),by repeat (first|(with_reducible first|exact HB.out|apply below_alloc|apply pw_below_drewN|apply below_drew1|refine below_set ?_ GE483.out|refine below_set ?_ GE484.out)|exact HB.out)⟩
   rw [if_neg c17] at H
   have c17b0:(a0_4==a1_4)=false:=beq_eq_false_iff_ne.mpr c17
   have c17b1:(a0_4 != a1_4)=true:=bne_iff_ne.mpr c17
   obtain rfl:=Option.some.inj H
   go_enter Try.func132,Try.ntmps132
   go_wp2_with (first|((with_reducible refine gate_dst (N:=2) rfl ?_);refine box_event ?hg (N:=2) ?hd (cs:=#[.int .i64 a0_0,.int .i64 a0_1,.bool a0_2,.bool a0_3,.int .i64 a0_4]) (t:=50) ?hr ?_;(case hd=>rfl);(case hg=>rfl);(case hr=>first|(go_simp;done)|(go_simp;rfl));intro gb483 hg w23 hbox hb;have n0_:=Aside0.mk (below_step (by repeat (first|(with_reducible first|exact HB.out|apply below_alloc|apply pw_below_drewN|apply below_drew1)|exact HB.out)) hb);have n1_:=Aside0.mk (hbox);have n2_:=Aside0.mk ((by rw [hg];exact (below_size (by repeat (first|(with_reducible first|exact HB.out|apply below_alloc|apply pw_below_drewN|apply below_drew1)|exact HB.out))):w.heap.size≤gb483));have n3_:=Aside0.mk ((by rw [hg];exact (below_size (by repeat (first|(with_reducible first|exact HB.out|apply below_alloc|apply pw_below_drewN|apply below_drew1)|exact HB.out))):w.heap.size≤gb483));clear HB;have HB:=n0_;have BK483:=n1_;have GW483:=n2_;have GE483:=n3_;clear n0_ n1_ n2_ n3_;clear hb hbox hg)|((with_reducible refine gate_dst (N:=3) rfl ?_);refine box_event ?hg (N:=3) ?hd (cs:=#[.int .i64 a1_0,.int .i64 a1_1,.bool a1_2,.bool a1_3,.int .i64 a1_4]) (t:=50) ?hr ?_;(case hd=>rfl);(case hg=>rfl);(case hr=>first|(go_simp;done)|(go_simp;rfl));intro gb484 hg w24 hbox hb;have n0_:=Aside0.mk (blk_below (g:=gb483) (o:=.cells #[.int .i64 a0_0,.int .i64 a0_1,.bool a0_2,.bool a0_3,.int .i64 a0_4] 50 (0,0)) (by (with_reducible repeat (first|refine blk_drewN ?_ _|refine blk_drew ?_|refine blk_alloc ?_ _));exact BK483.out) hb);have n1_:=Aside0.mk (below_step (by repeat (first|(with_reducible first|exact HB.out|apply below_alloc|apply pw_below_drewN|apply below_drew1|refine below_set ?_ GE483.out)|exact HB.out)) hb);have n2_:=Aside0.mk (hbox);have n3_:=Aside0.mk ((by rw [hg];exact (below_size (by repeat (first|(with_reducible first|exact HB.out|apply below_alloc|apply pw_below_drewN|apply below_drew1|refine below_set ?_ GE483.out)|exact HB.out))):w.heap.size≤gb484));have n4_:=Aside0.mk ((by rw [hg];exact (below_size (by repeat (first|(with_reducible first|exact HB.out|apply below_alloc|apply pw_below_drewN|apply below_drew1|refine below_set ?_ GE483.out)|exact HB.out))):w.heap.size≤gb484));have n5_:=Aside0.mk ((by rw [hg];exact Nat.ne_of_lt (blk_lt (g:=gb483) (o:=.cells #[.int .i64 a0_0,.int .i64 a0_1,.bool a0_2,.bool a0_3,.int .i64 a0_4] 50 (0,0)) (by (with_reducible repeat (first|refine blk_drewN ?_ _|refine blk_drew ?_|refine blk_alloc ?_ _));exact BK483.out)):gb483 ≠ gb484));have n6_:=Aside0.mk ((by rw [hg];exact Nat.ne_of_gt (blk_lt (g:=gb483) (o:=.cells #[.int .i64 a0_0,.int .i64 a0_1,.bool a0_2,.bool a0_3,.int .i64 a0_4] 50 (0,0)) (by (with_reducible repeat (first|refine blk_drewN ?_ _|refine blk_drew ?_|refine blk_alloc ?_ _));exact BK483.out)):gb484 ≠ gb483));clear BK483;clear HB;have BK483:=n0_;have HB:=n1_;have BK484:=n2_;have GW484:=n3_;have GE484:=n4_;have NB483_484:=n5_;have NB484_483:=n6_;clear n0_ n1_ n2_ n3_ n4_ n5_ n6_;clear hb hbox hg;have hnb25:=NB483_484.out;have hnc25:=NB484_483.out;have hcz26_0:w24.cell? ⟨gb483,0,none⟩=some (.int .i64 a0_0):=(blk_cell BK483.out 0).trans rfl;have hcz26_1:w24.cell? ⟨gb483,1,none⟩=some (.int .i64 a0_1):=(blk_cell BK483.out 1).trans rfl;have hcz26_2:w24.cell? ⟨gb483,2,none⟩=some (.bool a0_2):=(blk_cell BK483.out 2).trans rfl;have hcz26_3:w24.cell? ⟨gb483,3,none⟩=some (.bool a0_3):=(blk_cell BK483.out 3).trans rfl;have hcz26_4:w24.cell? ⟨gb483,4,none⟩=some (.int .i64 a0_4):=(blk_cell BK483.out 4).trans rfl;have hfz26_0:=blk_frozen BK483.out 0;have hfz26_1:=blk_frozen BK483.out 1;have hfz26_2:=blk_frozen BK483.out 2;have hfz26_3:=blk_frozen BK483.out 3;have hfz26_4:=blk_frozen BK483.out 4;have hcz27_0:w24.cell? ⟨gb484,0,none⟩=some (.int .i64 a1_0):=(blk_cell BK484.out 0).trans rfl;have hcz27_1:w24.cell? ⟨gb484,1,none⟩=some (.int .i64 a1_1):=(blk_cell BK484.out 1).trans rfl;have hcz27_2:w24.cell? ⟨gb484,2,none⟩=some (.bool a1_2):=(blk_cell BK484.out 2).trans rfl;have hcz27_3:w24.cell? ⟨gb484,3,none⟩=some (.bool a1_3):=(blk_cell BK484.out 3).trans rfl;have hcz27_4:w24.cell? ⟨gb484,4,none⟩=some (.int .i64 a1_4):=(blk_cell BK484.out 4).trans rfl;have hfz27_0:=blk_frozen BK484.out 0;have hfz27_1:=blk_frozen BK484.out 1;have hfz27_2:=blk_frozen BK484.out 2;have hfz27_3:=blk_frozen BK484.out 3;have hfz27_4:=blk_frozen BK484.out 4))
   go_ret
   exact ⟨by first|rfl|(simp [errW_none,errW_some] <;> rfl)|(simp [*,errW_none,errW_some] <;> rfl),by repeat (first|(with_reducible first|exact HB.out|apply below_alloc|apply pw_below_drewN|apply below_drew1|refine below_set ?_ GE483.out|refine below_set ?_ GE484.out)|exact HB.out)⟩
  rw [if_neg c4] at H
  have c4b0:(a0_1==a1_1)=false:=beq_eq_false_iff_ne.mpr c4
  have c4b1:(a0_1 != a1_1)=true:=bne_iff_ne.mpr c4
  obtain rfl:=Option.some.inj H
  go_enter Try.func132,Try.ntmps132
  go_wp2_with (first|((with_reducible refine gate_dst (N:=2) rfl ?_);refine box_event ?hg (N:=2) ?hd (cs:=#[.int .i64 a0_0,.int .i64 a0_1,.bool a0_2,.bool a0_3,.int .i64 a0_4]) (t:=50) ?hr ?_;(case hd=>rfl);(case hg=>rfl);(case hr=>first|(go_simp;done)|(go_simp;rfl));intro gb483 hg w28 hbox hb;have n0_:=Aside0.mk (below_step (by repeat (first|(with_reducible first|exact HB.out|apply below_alloc|apply pw_below_drewN|apply below_drew1)|exact HB.out)) hb);have n1_:=Aside0.mk (hbox);have n2_:=Aside0.mk ((by rw [hg];exact (below_size (by repeat (first|(with_reducible first|exact HB.out|apply below_alloc|apply pw_below_drewN|apply below_drew1)|exact HB.out))):w.heap.size≤gb483));have n3_:=Aside0.mk ((by rw [hg];exact (below_size (by repeat (first|(with_reducible first|exact HB.out|apply below_alloc|apply pw_below_drewN|apply below_drew1)|exact HB.out))):w.heap.size≤gb483));clear HB;have HB:=n0_;have BK483:=n1_;have GW483:=n2_;have GE483:=n3_;clear n0_ n1_ n2_ n3_;clear hb hbox hg)|((with_reducible refine gate_dst (N:=3) rfl ?_);refine box_event ?hg (N:=3) ?hd (cs:=#[.int .i64 a1_0,.int .i64 a1_1,.bool a1_2,.bool a1_3,.int .i64 a1_4]) (t:=50) ?hr ?_;(case hd=>rfl);(case hg=>rfl);(case hr=>first|(go_simp;done)|(go_simp;rfl));intro gb484 hg w29 hbox hb;have n0_:=Aside0.mk (blk_below (g:=gb483) (o:=.cells #[.int .i64 a0_0,.int .i64 a0_1,.bool a0_2,.bool a0_3,.int .i64 a0_4] 50 (0,0)) (by (with_reducible repeat (first|refine blk_drewN ?_ _|refine blk_drew ?_|refine blk_alloc ?_ _));exact BK483.out) hb);have n1_:=Aside0.mk (below_step (by repeat (first|(with_reducible first|exact HB.out|apply below_alloc|apply pw_below_drewN|apply below_drew1|refine below_set ?_ GE483.out)|exact HB.out)) hb);have n2_:=Aside0.mk (hbox);have n3_:=Aside0.mk ((by rw [hg];exact (below_size (by repeat (first|(with_reducible first|exact HB.out|apply below_alloc|apply pw_below_drewN|apply below_drew1|refine below_set ?_ GE483.out)|exact HB.out))):w.heap.size≤gb484));have n4_:=Aside0.mk ((by rw [hg];exact (below_size (by repeat (first|(with_reducible first|exact HB.out|apply below_alloc|apply pw_below_drewN|apply below_drew1|refine below_set ?_ GE483.out)|exact HB.out))):w.heap.size≤gb484));have n5_:=Aside0.mk ((by rw [hg];exact Nat.ne_of_lt (blk_lt (g:=gb483) (o:=.cells #[.int .i64 a0_0,.int .i64 a0_1,.bool a0_2,.bool a0_3,.int .i64 a0_4] 50 (0,0)) (by (with_reducible repeat (first|refine blk_drewN ?_ _|refine blk_drew ?_|refine blk_alloc ?_ _));exact BK483.out)):gb483 ≠ gb484));have n6_:=Aside0.mk ((by rw [hg];exact Nat.ne_of_gt (blk_lt (g:=gb483) (o:=.cells #[.int .i64 a0_0,.int .i64 a0_1,.bool a0_2,.bool a0_3,.int .i64 a0_4] 50 (0,0)) (by (with_reducible repeat (first|refine blk_drewN ?_ _|refine blk_drew ?_|refine blk_alloc ?_ _));exact BK483.out)):gb484 ≠ gb483));clear BK483;clear HB;have BK483:=n0_;have HB:=n1_;have BK484:=n2_;have GW484:=n3_;have GE484:=n4_;have NB483_484:=n5_;have NB484_483:=n6_;clear n0_ n1_ n2_ n3_ n4_ n5_ n6_;clear hb hbox hg;have hnb30:=NB483_484.out;have hnc30:=NB484_483.out;have hcz31_0:w29.cell? ⟨gb483,0,none⟩=some (.int .i64 a0_0):=(blk_cell BK483.out 0).trans rfl;have hcz31_1:w29.cell? ⟨gb483,1,none⟩=some (.int .i64 a0_1):=(blk_cell BK483.out 1).trans rfl;have hcz31_2:w29.cell? ⟨gb483,2,none⟩=some (.bool a0_2):=(blk_cell BK483.out 2).trans rfl;have hcz31_3:w29.cell? ⟨gb483,3,none⟩=some (.bool a0_3):=(blk_cell BK483.out 3).trans rfl;have hcz31_4:w29.cell? ⟨gb483,4,none⟩=some (.int .i64 a0_4):=(blk_cell BK483.out 4).trans rfl;have hfz31_0:=blk_frozen BK483.out 0;have hfz31_1:=blk_frozen BK483.out 1;have hfz31_2:=blk_frozen BK483.out 2;have hfz31_3:=blk_frozen BK483.out 3;have hfz31_4:=blk_frozen BK483.out 4;have hcz32_0:w29.cell? ⟨gb484,0,none⟩=some (.int .i64 a1_0):=(blk_cell BK484.out 0).trans rfl;have hcz32_1:w29.cell? ⟨gb484,1,none⟩=some (.int .i64 a1_1):=(blk_cell BK484.out 1).trans rfl;have hcz32_2:w29.cell? ⟨gb484,2,none⟩=some (.bool a1_2):=(blk_cell BK484.out 2).trans rfl;have hcz32_3:w29.cell? ⟨gb484,3,none⟩=some (.bool a1_3):=(blk_cell BK484.out 3).trans rfl;have hcz32_4:w29.cell? ⟨gb484,4,none⟩=some (.int .i64 a1_4):=(blk_cell BK484.out 4).trans rfl;have hfz32_0:=blk_frozen BK484.out 0;have hfz32_1:=blk_frozen BK484.out 1;have hfz32_2:=blk_frozen BK484.out 2;have hfz32_3:=blk_frozen BK484.out 3;have hfz32_4:=blk_frozen BK484.out 4))
  go_ret
  exact ⟨by first|rfl|(simp [errW_none,errW_some] <;> rfl)|(simp [*,errW_none,errW_some] <;> rfl),by repeat (first|(with_reducible first|exact HB.out|apply below_alloc|apply pw_below_drewN|apply below_drew1|refine below_set ?_ GE483.out|refine below_set ?_ GE484.out)|exact HB.out)⟩
 rw [if_neg c3] at H
 have c3b0:(a0_0==a1_0)=false:=beq_eq_false_iff_ne.mpr c3
 have c3b1:(a0_0 != a1_0)=true:=bne_iff_ne.mpr c3
 obtain rfl:=Option.some.inj H
 go_enter Try.func132,Try.ntmps132
 go_wp2_with (first|((with_reducible refine gate_dst (N:=2) rfl ?_);refine box_event ?hg (N:=2) ?hd (cs:=#[.int .i64 a0_0,.int .i64 a0_1,.bool a0_2,.bool a0_3,.int .i64 a0_4]) (t:=50) ?hr ?_;(case hd=>rfl);(case hg=>rfl);(case hr=>first|(go_simp;done)|(go_simp;rfl));intro gb483 hg w33 hbox hb;have n0_:=Aside0.mk (below_step (by repeat (first|(with_reducible first|exact HB.out|apply below_alloc|apply pw_below_drewN|apply below_drew1)|exact HB.out)) hb);have n1_:=Aside0.mk (hbox);have n2_:=Aside0.mk ((by rw [hg];exact (below_size (by repeat (first|(with_reducible first|exact HB.out|apply below_alloc|apply pw_below_drewN|apply below_drew1)|exact HB.out))):w.heap.size≤gb483));have n3_:=Aside0.mk ((by rw [hg];exact (below_size (by repeat (first|(with_reducible first|exact HB.out|apply below_alloc|apply pw_below_drewN|apply below_drew1)|exact HB.out))):w.heap.size≤gb483));clear HB;have HB:=n0_;have BK483:=n1_;have GW483:=n2_;have GE483:=n3_;clear n0_ n1_ n2_ n3_;clear hb hbox hg)|((with_reducible refine gate_dst (N:=3) rfl ?_);refine box_event ?hg (N:=3) ?hd (cs:=#[.int .i64 a1_0,.int .i64 a1_1,.bool a1_2,.bool a1_3,.int .i64 a1_4]) (t:=50) ?hr ?_;(case hd=>rfl);(case hg=>rfl);(case hr=>first|(go_simp;done)|(go_simp;rfl));intro gb484 hg w34 hbox hb;have n0_:=Aside0.mk (blk_below (g:=gb483) (o:=.cells #[.int .i64 a0_0,.int .i64 a0_1,.bool a0_2,.bool a0_3,.int .i64 a0_4] 50 (0,0)) (by (with_reducible repeat (first|refine blk_drewN ?_ _|refine blk_drew ?_|refine blk_alloc ?_ _));exact BK483.out) hb);have n1_:=Aside0.mk (below_step (by repeat (first|(with_reducible first|exact HB.out|apply below_alloc|apply pw_below_drewN|apply below_drew1|refine below_set ?_ GE483.out)|exact HB.out)) hb);have n2_:=Aside0.mk (hbox);have n3_:=Aside0.mk ((by rw [hg];exact (below_size (by repeat (first|(with_reducible first|exact HB.out|apply below_alloc|apply pw_below_drewN|apply below_drew1|refine below_set ?_ GE483.out)|exact HB.out))):w.heap.size≤gb484));have n4_:=Aside0.mk ((by rw [hg];exact (below_size (by repeat (first|(with_reducible first|exact HB.out|apply below_alloc|apply pw_below_drewN|apply below_drew1|refine below_set ?_ GE483.out)|exact HB.out))):w.heap.size≤gb484));have n5_:=Aside0.mk ((by rw [hg];exact Nat.ne_of_lt (blk_lt (g:=gb483) (o:=.cells #[.int .i64 a0_0,.int .i64 a0_1,.bool a0_2,.bool a0_3,.int .i64 a0_4] 50 (0,0)) (by (with_reducible repeat (first|refine blk_drewN ?_ _|refine blk_drew ?_|refine blk_alloc ?_ _));exact BK483.out)):gb483 ≠ gb484));have n6_:=Aside0.mk ((by rw [hg];exact Nat.ne_of_gt (blk_lt (g:=gb483) (o:=.cells #[.int .i64 a0_0,.int .i64 a0_1,.bool a0_2,.bool a0_3,.int .i64 a0_4] 50 (0,0)) (by (with_reducible repeat (first|refine blk_drewN ?_ _|refine blk_drew ?_|refine blk_alloc ?_ _));exact BK483.out)):gb484 ≠ gb483));clear BK483;clear HB;have BK483:=n0_;have HB:=n1_;have BK484:=n2_;have GW484:=n3_;have GE484:=n4_;have NB483_484:=n5_;have NB484_483:=n6_;clear n0_ n1_ n2_ n3_ n4_ n5_ n6_;clear hb hbox hg;have hnb35:=NB483_484.out;have hnc35:=NB484_483.out;have hcz36_0:w34.cell? ⟨gb483,0,none⟩=some (.int .i64 a0_0):=(blk_cell BK483.out 0).trans rfl;have hcz36_1:w34.cell? ⟨gb483,1,none⟩=some (.int .i64 a0_1):=(blk_cell BK483.out 1).trans rfl;have hcz36_2:w34.cell? ⟨gb483,2,none⟩=some (.bool a0_2):=(blk_cell BK483.out 2).trans rfl;have hcz36_3:w34.cell? ⟨gb483,3,none⟩=some (.bool a0_3):=(blk_cell BK483.out 3).trans rfl;have hcz36_4:w34.cell? ⟨gb483,4,none⟩=some (.int .i64 a0_4):=(blk_cell BK483.out 4).trans rfl;have hfz36_0:=blk_frozen BK483.out 0;have hfz36_1:=blk_frozen BK483.out 1;have hfz36_2:=blk_frozen BK483.out 2;have hfz36_3:=blk_frozen BK483.out 3;have hfz36_4:=blk_frozen BK483.out 4;have hcz37_0:w34.cell? ⟨gb484,0,none⟩=some (.int .i64 a1_0):=(blk_cell BK484.out 0).trans rfl;have hcz37_1:w34.cell? ⟨gb484,1,none⟩=some (.int .i64 a1_1):=(blk_cell BK484.out 1).trans rfl;have hcz37_2:w34.cell? ⟨gb484,2,none⟩=some (.bool a1_2):=(blk_cell BK484.out 2).trans rfl;have hcz37_3:w34.cell? ⟨gb484,3,none⟩=some (.bool a1_3):=(blk_cell BK484.out 3).trans rfl;have hcz37_4:w34.cell? ⟨gb484,4,none⟩=some (.int .i64 a1_4):=(blk_cell BK484.out 4).trans rfl;have hfz37_0:=blk_frozen BK484.out 0;have hfz37_1:=blk_frozen BK484.out 1;have hfz37_2:=blk_frozen BK484.out 2;have hfz37_3:=blk_frozen BK484.out 3;have hfz37_4:=blk_frozen BK484.out 4))
 go_ret
 exact ⟨by first|rfl|(simp [errW_none,errW_some] <;> rfl)|(simp [*,errW_none,errW_some] <;> rfl),by repeat (first|(with_reducible first|exact HB.out|apply below_alloc|apply pw_below_drewN|apply below_drew1|refine below_set ?_ GE483.out|refine below_set ?_ GE484.out)|exact HB.out)⟩
end Go.Proofs.Ytpdnabhpkdchjaa.P
namespace Go.Proofs.Ytpdnabhpkdchjaa.P
open Go.RowKit Go.Proofs.YtpdnabhpkdchjaaW.PrintWords Go.Proofs.YtpdnabhpkdchjaaW.PrintLast Go.Proofs.YtpdnabhpkdchjaaW.PrintMore
attribute [local go_sem] max2_int min2_int max_two min_two max_three min_three max_four min_four
set_option linter.unusedVariables false
set_option linter.unusedSimpArgs false
def laws_eqSectionS.l0:Nat→List (S50)→List (S50)→Int→Option (Bool)
 | 0,_,_,_=>none
 | k+1,x0,x1,x5=>if x5<(x0.length:Int) then (if 0≤x5 then (if x5<(x1.length:Int) then ((laws_eqSection.f ((rd_T50 x0 x5).f0) ((rd_T50 x0 x5).f1) ((rd_T50 x0 x5).f2) ((rd_T50 x0 x5).f3) ((rd_T50 x0 x5).f4) ((rd_T50 x1 x5).f0) ((rd_T50 x1 x5).f1) ((rd_T50 x1 x5).f2) ((rd_T50 x1 x5).f3) ((rd_T50 x1 x5).f4)).bind fun t487=>(if t487=true then (laws_eqSectionS.l0 k x0 x1 (wrap64 (x5+1))) else (some false))) else (none)) else (none)) else (some true)
def laws_eqSectionS.f (k:Nat) (l0:List (S50)) (l1:List (S50)):Option (Bool):=if (l0.length:Int)=(l1.length:Int) then (laws_eqSectionS.l0 k l0 l1 0) else (some false)
def laws_eqSectionS.T6:Bool × List (List Nat × List Nat):=(true,[([],[]),([],[]),([0,1],[0,1]),([2],[2]),([],[]),([],[]),([4,5],[4,5]),([6],[6]),([3,7],[3,7]),([8],[8])])
def laws_eqSectionS.B6:List Nat:=[0,0,3,7,0,0,48,112,255,511]
theorem laws_eqSectionS.tab6:rtab .any (opsOf Try.f100 6)=laws_eqSectionS.T6:=by kernel_rfl
theorem laws_eqSectionS.bits6:waitsOk laws_eqSectionS.T6.2 laws_eqSectionS.B6=true:=by kernel_rfl
set_option maxHeartbeats 8000000 in
set_option maxRecDepth 100000 in
theorem laws_eqSectionS.calls (k:Nat) (A0:Option Addr) (c0:Nat) (l0:List (S50)) (A1:Option Addr) (c1:Nat) (l1:List (S50)) (r:Bool) (w:World) (hr0:Kd.C k50 w A0 l0.length l0) (hc0:l0.length≤c0) (hr1:Kd.C k50 w A1 l1.length l1) (hc1:l1.length≤c1) (h:laws_eqSectionS.f k l0 l1=some r) :
  Calls Try.prog 100 #[.slice A0 l0.length c0,.slice A1 l1.length c1] w fun e w'=>e=.returned (.bool r)∧Below w.heap.size w w':=by
 have hu50:=Try.underlying50
 have HR0:=Aside0.mk hr0
 have HC0:=Aside0.mk hc0
 clear hr0 hc0
 have HR1:=Aside0.mk hr1
 have HC1:=Aside0.mk hc1
 clear hr1 hc1
 have HB:=Aside0.mk (Below.refl w.heap.size w)
 have H:(if (l0.length:Int)=(l1.length:Int) then (laws_eqSectionS.l0 k l0 l1 0) else (some false))=some r:=h
 clear h
 by_cases c3:(l0.length:Int)=(l1.length:Int)
 ·rw [if_pos c3] at H
  have c3b0:((l0.length:Int)==(l1.length:Int))=true:=beq_iff_eq.mpr c3
  have c3b1:((l0.length:Int) != (l1.length:Int))=false:=bne_eq_false_iff_eq.mpr c3
  have c3b2:(l0.length==l1.length)=true:=by first|simpa using c3|(simp at c3 ⊢;omega)
  clear c3
  have H':=Aside0.mk H
  clear H
  go_enter Try.func100,Try.ntmps100
  go_wp2
  go_loopg [5] k (fun kq v5 w'=>∃ (x5_1:Int),v5=.int .i64 x5_1∧Aside0 (laws_eqSectionS.l0 kq l0 l1 x5_1=some r)∧Aside0 (kq≤k)∧Aside0 (Below w.heap.size w w'))
  case atStart=>exact ⟨(0),(by first|rfl|(simp;done)|(simp [*];done)),H',⟨Nat.le_refl _⟩,⟨by repeat (first|(with_reducible first|exact HB.out|apply below_alloc|apply pw_below_drewN|apply below_drew1)|exact HB.out)⟩⟩
  case round =>
   clear H'
   try clear c1
   try clear p2
   try clear c3
   try clear c3b0
   try clear c3b1
   try clear c3b2
   obtain ⟨x5_1,rfl,HA,HK1,HB⟩:=hrel
   cases gk with
   | zero=>exact absurd HA.out (by simp [laws_eqSectionS.l0])
   | succ k1 =>
    have H:=HA.out
    clear HA
    simp only [laws_eqSectionS.l0] at H
    by_cases c4:x5_1<(l0.length:Int)
    ·rw [if_pos c4] at H
     have c4b0:decide (x5_1<(l0.length:Int))=true:=decide_eq_true c4
     clear c4
     by_cases c5:0≤x5_1
     ·rw [if_pos c5] at H
      have c5b0:decide (0≤x5_1)=true:=decide_eq_true c5
      clear c5
      by_cases c6:x5_1<(l1.length:Int)
      ·rw [if_pos c6] at H
       have c6b0:decide (x5_1<(l1.length:Int))=true:=decide_eq_true c6
       clear c6
       replace H:=Option.bind_eq_some_iff.mp H
       obtain ⟨t487,A70,H⟩:=H
       replace H:(if t487=true then (laws_eqSectionS.l0 k1 l0 l1 (wrap64 (x5_1+1))) else (some false))=some r:=H
       have A7:=Aside0.mk A70
       clear A70
       by_cases c8:t487=true
       ·subst c8
        have H1:(laws_eqSectionS.l0 k1 l0 l1 (wrap64 (x5_1+1)))=some r:=by rw [if_pos rfl] at H;exact H
        clear H
        have H:=H1
        clear H1
        have H':=Aside0.mk H
        clear H
        try go_wp2
        have n0_:=Aside0.mk (below_drew1 HB.out)
        clear HB
        have HB:=n0_
        clear n0_
        have p485:0≤(x5_1:Int):=of_decide_eq_true (by first|(with_reducible assumption)|assumption)
        have q485:x5_1<(l0.length:Int):=of_decide_eq_true (by first|(with_reducible assumption)|assumption)
        obtain ⟨ad485,e485,hx485_0,hx485_1,hx485_2,hx485_3,hx485_4⟩:=at_T50 HR0.out x5_1 p485 q485
        have hw485_4:=hx485_4
        have hw485_3:=hx485_3
        have hw485_2:=hx485_2
        have hw485_1:=hx485_1
        have hw485_0:=hx485_0
        cases e485
        replace hx485_0:=(HB.out.cell (World.block_lt_of_cell? w _ hx485_0)).trans hx485_0
        replace hx485_1:=(HB.out.cell (World.block_lt_of_cell? w _ hx485_1)).trans hx485_1
        replace hx485_2:=(HB.out.cell (World.block_lt_of_cell? w _ hx485_2)).trans hx485_2
        replace hx485_3:=(HB.out.cell (World.block_lt_of_cell? w _ hx485_3)).trans hx485_3
        replace hx485_4:=(HB.out.cell (World.block_lt_of_cell? w _ hx485_4)).trans hx485_4
        replace p485:=eq_true p485
        replace q485:=eq_true q485
        have p486:0≤(x5_1:Int):=of_decide_eq_true (by first|(with_reducible assumption)|assumption)
        have q486:x5_1<(l1.length:Int):=of_decide_eq_true (by first|(with_reducible assumption)|assumption)
        obtain ⟨ad486,e486,hx486_0,hx486_1,hx486_2,hx486_3,hx486_4⟩:=at_T50 HR1.out x5_1 p486 q486
        have hw486_4:=hx486_4
        have hw486_3:=hx486_3
        have hw486_2:=hx486_2
        have hw486_1:=hx486_1
        have hw486_0:=hx486_0
        cases e486
        replace hx486_0:=(HB.out.cell (World.block_lt_of_cell? w _ hx486_0)).trans hx486_0
        replace hx486_1:=(HB.out.cell (World.block_lt_of_cell? w _ hx486_1)).trans hx486_1
        replace hx486_2:=(HB.out.cell (World.block_lt_of_cell? w _ hx486_2)).trans hx486_2
        replace hx486_3:=(HB.out.cell (World.block_lt_of_cell? w _ hx486_3)).trans hx486_3
        replace hx486_4:=(HB.out.cell (World.block_lt_of_cell? w _ hx486_4)).trans hx486_4
        replace p486:=eq_true p486
        replace q486:=eq_true q486
        refine start_ (n:=10) (S:=fun w'=>w'.cell? (ad485.add ((x5_1).toNat * 5))=some (.int .i64 ((rd_T50 l0 x5_1).f0))∧w'.cell? ⟨(ad485.add ((x5_1).toNat * 5)).block,(ad485.add ((x5_1).toNat * 5)).off+1,none⟩=some (.int .i64 ((rd_T50 l0 x5_1).f1))∧w'.cell? ⟨(ad485.add ((x5_1).toNat * 5)).block,(ad485.add ((x5_1).toNat * 5)).off+2,none⟩=some (.bool ((rd_T50 l0 x5_1).f2))∧w'.cell? ⟨(ad485.add ((x5_1).toNat * 5)).block,(ad485.add ((x5_1).toNat * 5)).off+3,none⟩=some (.bool ((rd_T50 l0 x5_1).f3))∧w'.cell? ⟨(ad485.add ((x5_1).toNat * 5)).block,(ad485.add ((x5_1).toNat * 5)).off+4,none⟩=some (.int .i64 ((rd_T50 l0 x5_1).f4))∧w'.cell? (ad486.add ((x5_1).toNat * 5))=some (.int .i64 ((rd_T50 l1 x5_1).f0))∧w'.cell? ⟨(ad486.add ((x5_1).toNat * 5)).block,(ad486.add ((x5_1).toNat * 5)).off+1,none⟩=some (.int .i64 ((rd_T50 l1 x5_1).f1))∧w'.cell? ⟨(ad486.add ((x5_1).toNat * 5)).block,(ad486.add ((x5_1).toNat * 5)).off+2,none⟩=some (.bool ((rd_T50 l1 x5_1).f2))∧w'.cell? ⟨(ad486.add ((x5_1).toNat * 5)).block,(ad486.add ((x5_1).toNat * 5)).off+3,none⟩=some (.bool ((rd_T50 l1 x5_1).f3))∧w'.cell? ⟨(ad486.add ((x5_1).toNat * 5)).block,(ad486.add ((x5_1).toNat * 5)).off+4,none⟩=some (.int .i64 ((rd_T50 l1 x5_1).f4))) (ds:=[]) #[false,false,false,false,false,false,false,false,false,false] (by kernel_rfl) rfl rfl ⟨((HB.out.cell (World.block_lt_of_cell? w _ hw485_0)).trans hw485_0),((HB.out.cell (World.block_lt_of_cell? w _ hw485_1)).trans hw485_1),((HB.out.cell (World.block_lt_of_cell? w _ hw485_2)).trans hw485_2),((HB.out.cell (World.block_lt_of_cell? w _ hw485_3)).trans hw485_3),((HB.out.cell (World.block_lt_of_cell? w _ hw485_4)).trans hw485_4),((HB.out.cell (World.block_lt_of_cell? w _ hw486_0)).trans hw486_0),((HB.out.cell (World.block_lt_of_cell? w _ hw486_1)).trans hw486_1),((HB.out.cell (World.block_lt_of_cell? w _ hw486_2)).trans hw486_2),((HB.out.cell (World.block_lt_of_cell? w _ hw486_3)).trans hw486_3),((HB.out.cell (World.block_lt_of_cell? w _ hw486_4)).trans hw486_4)⟩ (fun hHeld=>?_);refine with_tabW laws_eqSectionS.tab6 laws_eqSectionS.bits6 (fun HT_ HW_=>?_)
        generalize wr.drew=w9 at HB hx485_0 hx485_1 hx485_2 hx485_3 hx485_4 hx486_0 hx486_1 hx486_2 hx486_3 hx486_4 hHeld ⊢
        refine pure_ (i:=0) (N:=some 17) (v:=?_) (a':=?_) #[true,false,false,false,false,false,false,false,false,false] rfl rfl (any_of HT_.out (by kernel_rfl)) (fun _ _ _ h=>h) (Or.inl ⟨by rfl,?_⟩) ?_ ?_
        rotate_left
        ·intro w'
         go_simp
         with_reducible rfl
        rotate_left
        ·simp only [Act.put,List.setIfInBounds_toArray,List.set_cons_zero,List.set_cons_succ,i64_w,i32_w]
         rfl
        refine pure_ (i:=1) (N:=some 18) (v:=?_) (a':=?_) #[true,true,false,false,false,false,false,false,false,false] rfl rfl (any_of HT_.out (by kernel_rfl)) (fun _ _ _ h=>h) (Or.inl ⟨by rfl,?_⟩) ?_ ?_
        rotate_left
        ·intro w'
         go_simp
         with_reducible rfl
        rotate_left
        ·simp only [Act.put,List.setIfInBounds_toArray,List.set_cons_zero,List.set_cons_succ,i64_w,i32_w]
         rfl
        refine pure_ (i:=2) (N:=some 19) (v:=?_) (a':=?_) #[true,true,true,false,false,false,false,false,false,false] rfl rfl (any_of HT_.out (by kernel_rfl)) (fun _ _ _ h=>h) (Or.inl ⟨by rfl,?_⟩) ?_ ?_
        rotate_left
        ·intro w'
         go_simp
         with_reducible rfl
        rotate_left
        ·simp only [Act.put,List.setIfInBounds_toArray,List.set_cons_zero,List.set_cons_succ,i64_w,i32_w]
         rfl
        refine pure_ (i:=4) (N:=some 21) (v:=?_) (a':=?_) #[true,true,true,false,true,false,false,false,false,false] rfl rfl (any_of HT_.out (by kernel_rfl)) (fun _ _ _ h=>h) (Or.inl ⟨by rfl,?_⟩) ?_ ?_
        rotate_left
        ·intro w'
         go_simp
         with_reducible rfl
        rotate_left
        ·simp only [Act.put,List.setIfInBounds_toArray,List.set_cons_zero,List.set_cons_succ,i64_w,i32_w]
         rfl
        refine pure_ (i:=5) (N:=some 22) (v:=?_) (a':=?_) #[true,true,true,false,true,true,false,false,false,false] rfl rfl (any_of HT_.out (by kernel_rfl)) (fun _ _ _ h=>h) (Or.inl ⟨by rfl,?_⟩) ?_ ?_
        rotate_left
        ·intro w'
         go_simp
         with_reducible rfl
        rotate_left
        ·simp only [Act.put,List.setIfInBounds_toArray,List.set_cons_zero,List.set_cons_succ,i64_w,i32_w]
         rfl
        refine pure_ (i:=6) (N:=some 23) (v:=?_) (a':=?_) #[true,true,true,false,true,true,true,false,false,false] rfl rfl (any_of HT_.out (by kernel_rfl)) (fun _ _ _ h=>h) (Or.inl ⟨by rfl,?_⟩) ?_ ?_
        rotate_left
        ·intro w'
         go_simp
         with_reducible rfl
        rotate_left
        ·simp only [Act.put,List.setIfInBounds_toArray,List.set_cons_zero,List.set_cons_succ,i64_w,i32_w]
         rfl
        refine take_ (i:=3) (N:=some 20) (v:=?_) (a':=?_) #[true,true,true,true,true,true,true,false,false,false] rfl rfl (take_ofW HT_.out HW_.out (by kernel_rfl)) (fun _ _ _ h=>h) (Or.inl ⟨by rfl,?_⟩) hHeld ?_ ?_
        rotate_left
        ·rintro w' ⟨s0,s1,s2,s3,s4,s5,s6,s7,s8,s9⟩
         go_simp
         with_reducible rfl
        rotate_left
        ·simp only [Act.put,List.setIfInBounds_toArray,List.set_cons_zero,List.set_cons_succ,i64_w,i32_w]
         rfl
        refine take_ (i:=7) (N:=some 24) (v:=?_) (a':=?_) #[true,true,true,true,true,true,true,true,false,false] rfl rfl (take_ofW HT_.out HW_.out (by kernel_rfl)) (fun _ _ _ h=>h) (Or.inl ⟨by rfl,?_⟩) hHeld ?_ ?_
        rotate_left
        ·rintro w' ⟨s0,s1,s2,s3,s4,s5,s6,s7,s8,s9⟩
         go_simp
         with_reducible rfl
        rotate_left
        ·simp only [Act.put,List.setIfInBounds_toArray,List.set_cons_zero,List.set_cons_succ,i64_w,i32_w]
         rfl
        refine one_ (i:=8) (N:=some 25) #[true,true,true,true,true,true,true,true,true,false] rfl rfl (one_of HT_.out (by kernel_rfl)) (by decide) (fun K hK=>?_)
        refine goes_ Try.func132 (by kernel_rfl) rfl #[.agg #[.int .i64 ((rd_T50 l0 x5_1).f0),.int .i64 ((rd_T50 l0 x5_1).f1),.bool ((rd_T50 l0 x5_1).f2),.bool ((rd_T50 l0 x5_1).f3),.int .i64 ((rd_T50 l0 x5_1).f4)],.agg #[.int .i64 ((rd_T50 l1 x5_1).f0),.int .i64 ((rd_T50 l1 x5_1).f1),.bool ((rd_T50 l1 x5_1).f2),.bool ((rd_T50 l1 x5_1).f3),.int .i64 ((rd_T50 l1 x5_1).f4)]] (by rfl) rfl rfl (by (try simp only [List.map_toArray,List.map_cons,List.map_nil]);first|done|rfl|(simp only [List.length_drop,List.length_take];rfl)) ?_
        with_reducible refine (laws_eqSection.calls ((rd_T50 l0 x5_1).f0) ((rd_T50 l0 x5_1).f1) ((rd_T50 l0 x5_1).f2) ((rd_T50 l0 x5_1).f3) ((rd_T50 l0 x5_1).f4) ((rd_T50 l1 x5_1).f0) ((rd_T50 l1 x5_1).f1) ((rd_T50 l1 x5_1).f2) ((rd_T50 l1 x5_1).f3) ((rd_T50 l1 x5_1).f4) true _ A7.out).mono ?_
        rintro e w10 ⟨rfl,hb⟩
        refine ⟨_,rfl,?_⟩
        have n0_:=Aside0.mk (below_step (by repeat (first|(with_reducible first|exact HB.out|apply below_alloc|apply pw_below_drewN|apply below_drew1)|exact HB.out)) hb)
        clear HB
        have HB:=n0_
        clear n0_
        (try clear hb)
        (try clear hb2)
        (try clear hk)
        (try clear hi)
        refine hK.out _ _ ⟨((HB.out.cell (World.block_lt_of_cell? w _ hw485_0)).trans hw485_0),((HB.out.cell (World.block_lt_of_cell? w _ hw485_1)).trans hw485_1),((HB.out.cell (World.block_lt_of_cell? w _ hw485_2)).trans hw485_2),((HB.out.cell (World.block_lt_of_cell? w _ hw485_3)).trans hw485_3),((HB.out.cell (World.block_lt_of_cell? w _ hw485_4)).trans hw485_4),((HB.out.cell (World.block_lt_of_cell? w _ hw486_0)).trans hw486_0),((HB.out.cell (World.block_lt_of_cell? w _ hw486_1)).trans hw486_1),((HB.out.cell (World.block_lt_of_cell? w _ hw486_2)).trans hw486_2),((HB.out.cell (World.block_lt_of_cell? w _ hw486_3)).trans hw486_3),((HB.out.cell (World.block_lt_of_cell? w _ hw486_4)).trans hw486_4)⟩ (fun hHeld=>?_)
        clear hK K
        refine norm_ (a':=?_) ?_ ?_
        rotate_left
        ·show Act.put _ (some 25) _=_
         simp only [Act.put,List.setIfInBounds_toArray,List.set_cons_zero,List.set_cons_succ,i64_w,i32_w]
         rfl
        refine pure_ (i:=9) (N:=some 26) (v:=?_) (a':=?_) #[true,true,true,true,true,true,true,true,true,true] rfl rfl (any_of HT_.out (by kernel_rfl)) (fun _ _ _ h=>h) (Or.inl ⟨by rfl,?_⟩) ?_ ?_
        rotate_left
        ·intro w'
         go_simp
         with_reducible rfl
        rotate_left
        ·simp only [Act.put,List.setIfInBounds_toArray,List.set_cons_zero,List.set_cons_succ,i64_w,i32_w]
         rfl
        refine done_ (done_of HT_.out (by kernel_rfl)) ?_
        try go_wp2
        go_roundg k1
        case measure=>have:=HK1.out;omega
        case rel=>exact ⟨(wrap64 (x5_1+1)),(by first|rfl|(simp;done)|(simp [*];done)),H',⟨by have:=HK1.out;omega⟩,⟨by repeat (first|(with_reducible first|exact HB.out|apply below_alloc|apply pw_below_drewN|apply below_drew1)|exact HB.out)⟩⟩
       replace c8:=Bool.eq_false_iff.mpr c8
       subst c8
       have H1:(some false)=some r:=by rw [if_neg (show ¬ (false=true) by decide)] at H;exact H
       clear H
       have H:=H1
       clear H1
       obtain rfl:=Option.some.inj H
       try go_wp2
       have n0_:=Aside0.mk (below_drew1 HB.out)
       clear HB
       have HB:=n0_
       clear n0_
       have p485:0≤(x5_1:Int):=of_decide_eq_true (by first|(with_reducible assumption)|assumption)
       have q485:x5_1<(l0.length:Int):=of_decide_eq_true (by first|(with_reducible assumption)|assumption)
       obtain ⟨ad485,e485,hx485_0,hx485_1,hx485_2,hx485_3,hx485_4⟩:=at_T50 HR0.out x5_1 p485 q485
       have hw485_4:=hx485_4
       have hw485_3:=hx485_3
       have hw485_2:=hx485_2
       have hw485_1:=hx485_1
       have hw485_0:=hx485_0
       cases e485
       replace hx485_0:=(HB.out.cell (World.block_lt_of_cell? w _ hx485_0)).trans hx485_0
       replace hx485_1:=(HB.out.cell (World.block_lt_of_cell? w _ hx485_1)).trans hx485_1
       replace hx485_2:=(HB.out.cell (World.block_lt_of_cell? w _ hx485_2)).trans hx485_2
       replace hx485_3:=(HB.out.cell (World.block_lt_of_cell? w _ hx485_3)).trans hx485_3
       replace hx485_4:=(HB.out.cell (World.block_lt_of_cell? w _ hx485_4)).trans hx485_4
       replace p485:=eq_true p485
       replace q485:=eq_true q485
       have p486:0≤(x5_1:Int):=of_decide_eq_true (by first|(with_reducible assumption)|assumption)
       have q486:x5_1<(l1.length:Int):=of_decide_eq_true (by first|(with_reducible assumption)|assumption)
       obtain ⟨ad486,e486,hx486_0,hx486_1,hx486_2,hx486_3,hx486_4⟩:=at_T50 HR1.out x5_1 p486 q486
       have hw486_4:=hx486_4
       have hw486_3:=hx486_3
       have hw486_2:=hx486_2
       have hw486_1:=hx486_1
       have hw486_0:=hx486_0
       cases e486
       replace hx486_0:=(HB.out.cell (World.block_lt_of_cell? w _ hx486_0)).trans hx486_0
       replace hx486_1:=(HB.out.cell (World.block_lt_of_cell? w _ hx486_1)).trans hx486_1
       replace hx486_2:=(HB.out.cell (World.block_lt_of_cell? w _ hx486_2)).trans hx486_2
       replace hx486_3:=(HB.out.cell (World.block_lt_of_cell? w _ hx486_3)).trans hx486_3
       replace hx486_4:=(HB.out.cell (World.block_lt_of_cell? w _ hx486_4)).trans hx486_4
       replace p486:=eq_true p486
       replace q486:=eq_true q486
       refine start_ (n:=10) (S:=fun w'=>w'.cell? (ad485.add ((x5_1).toNat * 5))=some (.int .i64 ((rd_T50 l0 x5_1).f0))∧w'.cell? ⟨(ad485.add ((x5_1).toNat * 5)).block,(ad485.add ((x5_1).toNat * 5)).off+1,none⟩=some (.int .i64 ((rd_T50 l0 x5_1).f1))∧w'.cell? ⟨(ad485.add ((x5_1).toNat * 5)).block,(ad485.add ((x5_1).toNat * 5)).off+2,none⟩=some (.bool ((rd_T50 l0 x5_1).f2))∧w'.cell? ⟨(ad485.add ((x5_1).toNat * 5)).block,(ad485.add ((x5_1).toNat * 5)).off+3,none⟩=some (.bool ((rd_T50 l0 x5_1).f3))∧w'.cell? ⟨(ad485.add ((x5_1).toNat * 5)).block,(ad485.add ((x5_1).toNat * 5)).off+4,none⟩=some (.int .i64 ((rd_T50 l0 x5_1).f4))∧w'.cell? (ad486.add ((x5_1).toNat * 5))=some (.int .i64 ((rd_T50 l1 x5_1).f0))∧w'.cell? ⟨(ad486.add ((x5_1).toNat * 5)).block,(ad486.add ((x5_1).toNat * 5)).off+1,none⟩=some (.int .i64 ((rd_T50 l1 x5_1).f1))∧w'.cell? ⟨(ad486.add ((x5_1).toNat * 5)).block,(ad486.add ((x5_1).toNat * 5)).off+2,none⟩=some (.bool ((rd_T50 l1 x5_1).f2))∧w'.cell? ⟨(ad486.add ((x5_1).toNat * 5)).block,(ad486.add ((x5_1).toNat * 5)).off+3,none⟩=some (.bool ((rd_T50 l1 x5_1).f3))∧w'.cell? ⟨(ad486.add ((x5_1).toNat * 5)).block,(ad486.add ((x5_1).toNat * 5)).off+4,none⟩=some (.int .i64 ((rd_T50 l1 x5_1).f4))) (ds:=[]) #[false,false,false,false,false,false,false,false,false,false] (by kernel_rfl) rfl rfl ⟨((HB.out.cell (World.block_lt_of_cell? w _ hw485_0)).trans hw485_0),((HB.out.cell (World.block_lt_of_cell? w _ hw485_1)).trans hw485_1),((HB.out.cell (World.block_lt_of_cell? w _ hw485_2)).trans hw485_2),((HB.out.cell (World.block_lt_of_cell? w _ hw485_3)).trans hw485_3),((HB.out.cell (World.block_lt_of_cell? w _ hw485_4)).trans hw485_4),((HB.out.cell (World.block_lt_of_cell? w _ hw486_0)).trans hw486_0),((HB.out.cell (World.block_lt_of_cell? w _ hw486_1)).trans hw486_1),((HB.out.cell (World.block_lt_of_cell? w _ hw486_2)).trans hw486_2),((HB.out.cell (World.block_lt_of_cell? w _ hw486_3)).trans hw486_3),((HB.out.cell (World.block_lt_of_cell? w _ hw486_4)).trans hw486_4)⟩ (fun hHeld=>?_);refine with_tabW laws_eqSectionS.tab6 laws_eqSectionS.bits6 (fun HT_ HW_=>?_)
       generalize wr.drew=w11 at HB hx485_0 hx485_1 hx485_2 hx485_3 hx485_4 hx486_0 hx486_1 hx486_2 hx486_3 hx486_4 hHeld ⊢
       refine pure_ (i:=0) (N:=some 17) (v:=?_) (a':=?_) #[true,false,false,false,false,false,false,false,false,false] rfl rfl (any_of HT_.out (by kernel_rfl)) (fun _ _ _ h=>h) (Or.inl ⟨by rfl,?_⟩) ?_ ?_
       rotate_left
       ·intro w'
        go_simp
        with_reducible rfl
       rotate_left
       ·simp only [Act.put,List.setIfInBounds_toArray,List.set_cons_zero,List.set_cons_succ,i64_w,i32_w]
        rfl
       refine pure_ (i:=1) (N:=some 18) (v:=?_) (a':=?_) #[true,true,false,false,false,false,false,false,false,false] rfl rfl (any_of HT_.out (by kernel_rfl)) (fun _ _ _ h=>h) (Or.inl ⟨by rfl,?_⟩) ?_ ?_
       rotate_left
       ·intro w'
        go_simp
        with_reducible rfl
       rotate_left
       ·simp only [Act.put,List.setIfInBounds_toArray,List.set_cons_zero,List.set_cons_succ,i64_w,i32_w]
        rfl
       refine pure_ (i:=2) (N:=some 19) (v:=?_) (a':=?_) #[true,true,true,false,false,false,false,false,false,false] rfl rfl (any_of HT_.out (by kernel_rfl)) (fun _ _ _ h=>h) (Or.inl ⟨by rfl,?_⟩) ?_ ?_
       rotate_left
       ·intro w'
        go_simp
        with_reducible rfl
       rotate_left
       ·simp only [Act.put,List.setIfInBounds_toArray,List.set_cons_zero,List.set_cons_succ,i64_w,i32_w]
        rfl
       refine pure_ (i:=4) (N:=some 21) (v:=?_) (a':=?_) #[true,true,true,false,true,false,false,false,false,false] rfl rfl (any_of HT_.out (by kernel_rfl)) (fun _ _ _ h=>h) (Or.inl ⟨by rfl,?_⟩) ?_ ?_
       rotate_left
       ·intro w'
        go_simp
        with_reducible rfl
       rotate_left
       ·simp only [Act.put,List.setIfInBounds_toArray,List.set_cons_zero,List.set_cons_succ,i64_w,i32_w]
        rfl
       refine pure_ (i:=5) (N:=some 22) (v:=?_) (a':=?_) #[true,true,true,false,true,true,false,false,false,false] rfl rfl (any_of HT_.out (by kernel_rfl)) (fun _ _ _ h=>h) (Or.inl ⟨by rfl,?_⟩) ?_ ?_
       rotate_left
       ·intro w'
        go_simp
        with_reducible rfl
       rotate_left
       ·simp only [Act.put,List.setIfInBounds_toArray,List.set_cons_zero,List.set_cons_succ,i64_w,i32_w]
        rfl
       refine pure_ (i:=6) (N:=some 23) (v:=?_) (a':=?_) #[true,true,true,false,true,true,true,false,false,false] rfl rfl (any_of HT_.out (by kernel_rfl)) (fun _ _ _ h=>h) (Or.inl ⟨by rfl,?_⟩) ?_ ?_
       rotate_left
       ·intro w'
        go_simp
        with_reducible rfl
       rotate_left
       ·simp only [Act.put,List.setIfInBounds_toArray,List.set_cons_zero,List.set_cons_succ,i64_w,i32_w]
        rfl
       refine take_ (i:=3) (N:=some 20) (v:=?_) (a':=?_) #[true,true,true,true,true,true,true,false,false,false] rfl rfl (take_ofW HT_.out HW_.out (by kernel_rfl)) (fun _ _ _ h=>h) (Or.inl ⟨by rfl,?_⟩) hHeld ?_ ?_
       rotate_left
       ·rintro w' ⟨s0,s1,s2,s3,s4,s5,s6,s7,s8,s9⟩
        go_simp
        with_reducible rfl
       rotate_left
       ·simp only [Act.put,List.setIfInBounds_toArray,List.set_cons_zero,List.set_cons_succ,i64_w,i32_w]
        rfl
       refine take_ (i:=7) (N:=some 24) (v:=?_) (a':=?_) #[true,true,true,true,true,true,true,true,false,false] rfl rfl (take_ofW HT_.out HW_.out (by kernel_rfl)) (fun _ _ _ h=>h) (Or.inl ⟨by rfl,?_⟩) hHeld ?_ ?_
       rotate_left
       ·rintro w' ⟨s0,s1,s2,s3,s4,s5,s6,s7,s8,s9⟩
        go_simp
        with_reducible rfl
       rotate_left
       ·simp only [Act.put,List.setIfInBounds_toArray,List.set_cons_zero,List.set_cons_succ,i64_w,i32_w]
        rfl
       refine one_ (i:=8) (N:=some 25) #[true,true,true,true,true,true,true,true,true,false] rfl rfl (one_of HT_.out (by kernel_rfl)) (by decide) (fun K hK=>?_)
       refine goes_ Try.func132 (by kernel_rfl) rfl #[.agg #[.int .i64 ((rd_T50 l0 x5_1).f0),.int .i64 ((rd_T50 l0 x5_1).f1),.bool ((rd_T50 l0 x5_1).f2),.bool ((rd_T50 l0 x5_1).f3),.int .i64 ((rd_T50 l0 x5_1).f4)],.agg #[.int .i64 ((rd_T50 l1 x5_1).f0),.int .i64 ((rd_T50 l1 x5_1).f1),.bool ((rd_T50 l1 x5_1).f2),.bool ((rd_T50 l1 x5_1).f3),.int .i64 ((rd_T50 l1 x5_1).f4)]] (by rfl) rfl rfl (by (try simp only [List.map_toArray,List.map_cons,List.map_nil]);first|done|rfl|(simp only [List.length_drop,List.length_take];rfl)) ?_
       with_reducible refine (laws_eqSection.calls ((rd_T50 l0 x5_1).f0) ((rd_T50 l0 x5_1).f1) ((rd_T50 l0 x5_1).f2) ((rd_T50 l0 x5_1).f3) ((rd_T50 l0 x5_1).f4) ((rd_T50 l1 x5_1).f0) ((rd_T50 l1 x5_1).f1) ((rd_T50 l1 x5_1).f2) ((rd_T50 l1 x5_1).f3) ((rd_T50 l1 x5_1).f4) false _ A7.out).mono ?_
       rintro e w12 ⟨rfl,hb⟩
       refine ⟨_,rfl,?_⟩
       have n0_:=Aside0.mk (below_step (by repeat (first|(with_reducible first|exact HB.out|apply below_alloc|apply pw_below_drewN|apply below_drew1)|exact HB.out)) hb)
       clear HB
       have HB:=n0_
       clear n0_
       (try clear hb)
       (try clear hb2)
       (try clear hk)
       (try clear hi)
       refine hK.out _ _ ⟨((HB.out.cell (World.block_lt_of_cell? w _ hw485_0)).trans hw485_0),((HB.out.cell (World.block_lt_of_cell? w _ hw485_1)).trans hw485_1),((HB.out.cell (World.block_lt_of_cell? w _ hw485_2)).trans hw485_2),((HB.out.cell (World.block_lt_of_cell? w _ hw485_3)).trans hw485_3),((HB.out.cell (World.block_lt_of_cell? w _ hw485_4)).trans hw485_4),((HB.out.cell (World.block_lt_of_cell? w _ hw486_0)).trans hw486_0),((HB.out.cell (World.block_lt_of_cell? w _ hw486_1)).trans hw486_1),((HB.out.cell (World.block_lt_of_cell? w _ hw486_2)).trans hw486_2),((HB.out.cell (World.block_lt_of_cell? w _ hw486_3)).trans hw486_3),((HB.out.cell (World.block_lt_of_cell? w _ hw486_4)).trans hw486_4)⟩ (fun hHeld=>?_)
       clear hK K
       refine norm_ (a':=?_) ?_ ?_
       rotate_left
       ·show Act.put _ (some 25) _=_
        simp only [Act.put,List.setIfInBounds_toArray,List.set_cons_zero,List.set_cons_succ,i64_w,i32_w]
        rfl
       refine pure_ (i:=9) (N:=some 26) (v:=?_) (a':=?_) #[true,true,true,true,true,true,true,true,true,true] rfl rfl (any_of HT_.out (by kernel_rfl)) (fun _ _ _ h=>h) (Or.inl ⟨by rfl,?_⟩) ?_ ?_
       rotate_left
       ·intro w'
        go_simp
        with_reducible rfl
       rotate_left
       ·simp only [Act.put,List.setIfInBounds_toArray,List.set_cons_zero,List.set_cons_succ,i64_w,i32_w]
        rfl
       refine done_ (done_of HT_.out (by kernel_rfl)) ?_
       try go_wp2
       go_ret
       exact ⟨by first|rfl|(simp [errW_none,errW_some] <;> rfl)|(simp [*,errW_none,errW_some] <;> rfl),by repeat (first|(with_reducible first|exact HB.out|apply below_alloc|apply pw_below_drewN|apply below_drew1)|exact HB.out)⟩
      rw [if_neg c6] at H
      exact absurd H (by simp)
     rw [if_neg c5] at H
     exact absurd H (by simp)
    rw [if_neg c4] at H
    have c4b0:decide (x5_1<(l0.length:Int))=false:=decide_eq_false c4
    clear c4
    obtain rfl:=Option.some.inj H
    go_wp2
    go_ret
    exact ⟨by first|rfl|(simp [errW_none,errW_some] <;> rfl)|(simp [*,errW_none,errW_some] <;> rfl),by repeat (first|(with_reducible first|exact HB.out|apply below_alloc|apply pw_below_drewN|apply below_drew1)|exact HB.out)⟩
 rw [if_neg c3] at H
 have c3b0:((l0.length:Int)==(l1.length:Int))=false:=beq_eq_false_iff_ne.mpr c3
 have c3b1:((l0.length:Int) != (l1.length:Int))=true:=bne_iff_ne.mpr c3
 have c3b2:(l0.length==l1.length)=false:=by first|simpa using c3|(simp at c3 ⊢;omega)
 obtain rfl:=Option.some.inj H
 go_enter Try.func100,Try.ntmps100
 go_wp2
 go_ret
 exact ⟨by first|rfl|(simp [errW_none,errW_some] <;> rfl)|(simp [*,errW_none,errW_some] <;> rfl),by repeat (first|(with_reducible first|exact HB.out|apply below_alloc|apply pw_below_drewN|apply below_drew1)|exact HB.out)⟩
end Go.Proofs.Ytpdnabhpkdchjaa.P
namespace Go.Proofs.Ytpdnabhpkdchjaa.P
open Go.RowKit Go.Proofs.YtpdnabhpkdchjaaW.PrintWords Go.Proofs.YtpdnabhpkdchjaaW.PrintLast Go.Proofs.YtpdnabhpkdchjaaW.PrintMore
attribute [local go_sem] max2_int min2_int max_two min_two max_three min_three max_four min_four
set_option linter.unusedVariables false
set_option linter.unusedSimpArgs false
def laws_eqBoolS.l0:Nat→List Bool→List Bool→Int→Option (Bool)
 | 0,_,_,_=>none
 | k+1,x0,x1,x5=>if x5<(x0.length:Int) then (if 0≤x5 then (if x5<(x1.length:Int) then (if ((rdOf false x0 x5) != (rdOf false x1 x5))=true then (some false) else (laws_eqBoolS.l0 k x0 x1 (wrap64 (x5+1)))) else (none)) else (none)) else (some true)
def laws_eqBoolS.f (k:Nat) (l0:List Bool) (l1:List Bool):Option (Bool):=if (l0.length:Int)=(l1.length:Int) then (laws_eqBoolS.l0 k l0 l1 0) else (some false)
set_option maxHeartbeats 8000000 in
set_option maxRecDepth 100000 in
theorem laws_eqBoolS.calls (k:Nat) (A0:Option Addr) (c0:Nat) (l0:List Bool) (A1:Option Addr) (c1:Nat) (l1:List Bool) (r:Bool) (w:World) (hr0:Kd.C Kd.bool w A0 l0.length l0) (hc0:l0.length≤c0) (hr1:Kd.C Kd.bool w A1 l1.length l1) (hc1:l1.length≤c1) (h:laws_eqBoolS.f k l0 l1=some r) :
  Calls Try.prog 101 #[.slice A0 l0.length c0,.slice A1 l1.length c1] w fun e w'=>e=.returned (.bool r)∧Drawn0 w w':=by
 have HR0:=Aside0.mk hr0
 have HC0:=Aside0.mk hc0
 clear hr0 hc0
 have HR1:=Aside0.mk hr1
 have HC1:=Aside0.mk hc1
 clear hr1 hc1
 have H:(if (l0.length:Int)=(l1.length:Int) then (laws_eqBoolS.l0 k l0 l1 0) else (some false))=some r:=h
 clear h
 by_cases c3:(l0.length:Int)=(l1.length:Int)
 ·rw [if_pos c3] at H
  have c3b0:((l0.length:Int)==(l1.length:Int))=true:=beq_iff_eq.mpr c3
  have c3b1:((l0.length:Int) != (l1.length:Int))=false:=bne_eq_false_iff_eq.mpr c3
  have c3b2:(l0.length==l1.length)=true:=by first|simpa using c3|(simp at c3 ⊢;omega)
  clear c3
  have H':=Aside0.mk H
  clear H
  go_enter Try.func101,Try.ntmps101
  go_wp2
  repeat (go_quiet (fail);try go_wp2)
  go_loopg [5] k (fun kq v5 w'=>∃ (x5_1:Int),v5=.int .i64 x5_1∧Aside0 (laws_eqBoolS.l0 kq l0 l1 x5_1=some r)∧Aside0 (kq≤k)∧Drawn0 w w')
  case atStart=>exact ⟨(0),(by first|rfl|(simp;done)|(simp [*];done)),H',⟨Nat.le_refl _⟩,by repeat (first|exact Drawn0.refl _|apply Drawn0.step)⟩
  case round =>
   clear H'
   try clear c1
   try clear p2
   try clear c3
   try clear c3b0
   try clear c3b1
   try clear c3b2
   obtain ⟨x5_1,rfl,HA,HK1,⟨m1,rfl⟩⟩:=hrel
   cases gk with
   | zero=>exact absurd HA.out (by simp [laws_eqBoolS.l0])
   | succ k1 =>
    have H:=HA.out
    clear HA
    simp only [laws_eqBoolS.l0] at H
    by_cases c4:x5_1<(l0.length:Int)
    ·rw [if_pos c4] at H
     have c4b0:decide (x5_1<(l0.length:Int))=true:=decide_eq_true c4
     clear c4
     by_cases c5:0≤x5_1
     ·rw [if_pos c5] at H
      have c5b0:decide (0≤x5_1)=true:=decide_eq_true c5
      clear c5
      by_cases c6:x5_1<(l1.length:Int)
      ·rw [if_pos c6] at H
       have c6b0:decide (x5_1<(l1.length:Int))=true:=decide_eq_true c6
       clear c6
       by_cases c7:((rdOf false l0 x5_1) != (rdOf false l1 x5_1))=true
       ·rw [if_pos c7] at H
        have c7b0:((rdOf false l0 x5_1) != (rdOf false l1 x5_1))=true:=c7
        (try (have c7b1:decide ((rdOf false l0 x5_1)=(rdOf false l1 x5_1))=false:=by simpa using c7))
        (try (have c7b2:((rdOf false l0 x5_1)==(rdOf false l1 x5_1))=false:=by simpa using c7))
        (try (have c7b3:¬ ((rdOf false l0 x5_1)=(rdOf false l1 x5_1)):=by simpa using c7))
        clear c7
        obtain rfl:=Option.some.inj H
        have p488:0≤(x5_1:Int):=of_decide_eq_true (by first|(with_reducible assumption)|assumption)
        have q488:x5_1<(l0.length:Int):=of_decide_eq_true (by first|(with_reducible assumption)|assumption)
        obtain ⟨ad488,e488,hx488_0⟩:=Kd.at_bool HR0.out x5_1 p488 q488
        cases e488
        replace p488:=eq_true p488
        replace q488:=eq_true q488
        have p489:0≤(x5_1:Int):=of_decide_eq_true (by first|(with_reducible assumption)|assumption)
        have q489:x5_1<(l1.length:Int):=of_decide_eq_true (by first|(with_reducible assumption)|assumption)
        obtain ⟨ad489,e489,hx489_0⟩:=Kd.at_bool HR1.out x5_1 p489 q489
        cases e489
        replace p489:=eq_true p489
        replace q489:=eq_true q489
        go_wp2
        repeat (go_quiet (fail);try go_wp2)
        go_ret
        exact ⟨by first|rfl|(simp;done)|(simp [*];done),by repeat (first|exact Drawn0.refl _|apply Drawn0.step)⟩
       rw [if_neg c7] at H
       have c7b0:((rdOf false l0 x5_1) != (rdOf false l1 x5_1))=false:=by simpa using c7
       (try (have c7b1:decide ((rdOf false l0 x5_1)=(rdOf false l1 x5_1))=true:=by simpa using c7))
       (try (have c7b2:((rdOf false l0 x5_1)==(rdOf false l1 x5_1))=true:=by simpa using c7))
       clear c7
       have H':=Aside0.mk H
       clear H
       have p488:0≤(x5_1:Int):=of_decide_eq_true (by first|(with_reducible assumption)|assumption)
       have q488:x5_1<(l0.length:Int):=of_decide_eq_true (by first|(with_reducible assumption)|assumption)
       obtain ⟨ad488,e488,hx488_0⟩:=Kd.at_bool HR0.out x5_1 p488 q488
       cases e488
       replace p488:=eq_true p488
       replace q488:=eq_true q488
       have p489:0≤(x5_1:Int):=of_decide_eq_true (by first|(with_reducible assumption)|assumption)
       have q489:x5_1<(l1.length:Int):=of_decide_eq_true (by first|(with_reducible assumption)|assumption)
       obtain ⟨ad489,e489,hx489_0⟩:=Kd.at_bool HR1.out x5_1 p489 q489
       cases e489
       replace p489:=eq_true p489
       replace q489:=eq_true q489
       go_wp2
       repeat (go_quiet (fail);try go_wp2)
       go_roundg k1
       case measure=>have:=HK1.out;omega
       case rel=>exact ⟨(wrap64 (x5_1+1)),(by first|rfl|(simp;done)|(simp [*];done)),H',⟨by have:=HK1.out;omega⟩,by repeat (first|exact Drawn0.refl _|apply Drawn0.step)⟩
      rw [if_neg c6] at H
      exact absurd H (by simp)
     rw [if_neg c5] at H
     exact absurd H (by simp)
    rw [if_neg c4] at H
    have c4b0:decide (x5_1<(l0.length:Int))=false:=decide_eq_false c4
    clear c4
    obtain rfl:=Option.some.inj H
    go_wp2
    repeat (go_quiet (fail);try go_wp2)
    go_ret
    exact ⟨by first|rfl|(simp;done)|(simp [*];done),by repeat (first|exact Drawn0.refl _|apply Drawn0.step)⟩
 rw [if_neg c3] at H
 have c3b0:((l0.length:Int)==(l1.length:Int))=false:=beq_eq_false_iff_ne.mpr c3
 have c3b1:((l0.length:Int) != (l1.length:Int))=true:=bne_iff_ne.mpr c3
 have c3b2:(l0.length==l1.length)=false:=by first|simpa using c3|(simp at c3 ⊢;omega)
 obtain rfl:=Option.some.inj H
 go_enter Try.func101,Try.ntmps101
 go_wp2
 repeat (go_quiet (fail);try go_wp2)
 go_ret
 exact ⟨by first|rfl|(simp;done)|(simp [*];done),by repeat (first|exact Drawn0.refl _|apply Drawn0.step)⟩
end Go.Proofs.Ytpdnabhpkdchjaa.P
namespace Go.Proofs.Ytpdnabhpkdchjaa.P
open Go.RowKit Go.Proofs.YtpdnabhpkdchjaaW.PrintWords Go.Proofs.YtpdnabhpkdchjaaW.PrintLast Go.Proofs.YtpdnabhpkdchjaaW.PrintMore
attribute [local go_sem] max2_int min2_int max_two min_two max_three min_three max_four min_four
set_option linter.unusedVariables false
set_option linter.unusedSimpArgs false
def laws_eqState.f (k:Nat) (a0_0:Bool) (l0_1:List (S50)) (l0_2:List Bool) (a1_0:Bool) (l1_1:List (S50)) (l1_2:List Bool):Option (Bool):=if (a0_0 != a1_0)=true then (some false) else ((laws_eqSectionS.f k l0_1 l1_1).bind fun t492=>(if t492=true then ((laws_eqBoolS.f k l0_2 l1_2).bind fun t493=>(if t493=true then (some true) else (some false))) else (some false)))
set_option maxHeartbeats 8000000 in
set_option maxRecDepth 100000 in
theorem laws_eqState.calls (k:Nat) (a0_0:Bool) (A0_1:Option Addr) (c0_1:Nat) (l0_1:List (S50)) (A0_2:Option Addr) (c0_2:Nat) (l0_2:List Bool) (a1_0:Bool) (A1_1:Option Addr) (c1_1:Nat) (l1_1:List (S50)) (A1_2:Option Addr) (c1_2:Nat) (l1_2:List Bool) (r:Bool) (w:World) (hr0_1:Kd.C k50 w A0_1 l0_1.length l0_1) (hc0_1:l0_1.length≤c0_1) (hr0_2:Kd.C Kd.bool w A0_2 l0_2.length l0_2) (hc0_2:l0_2.length≤c0_2) (hr1_1:Kd.C k50 w A1_1 l1_1.length l1_1) (hc1_1:l1_1.length≤c1_1) (hr1_2:Kd.C Kd.bool w A1_2 l1_2.length l1_2) (hc1_2:l1_2.length≤c1_2) (h:laws_eqState.f k a0_0 l0_1 l0_2 a1_0 l1_1 l1_2=some r) :
  Calls Try.prog 45 #[.agg #[.bool a0_0,.slice A0_1 l0_1.length c0_1,.slice A0_2 l0_2.length c0_2],.agg #[.bool a1_0,.slice A1_1 l1_1.length c1_1,.slice A1_2 l1_2.length c1_2]] w fun e w'=>e=.returned (.bool r)∧Below w.heap.size w w':=by
 have hu46:=Try.underlying46
 have HR0_1:=Aside0.mk hr0_1
 have HC0_1:=Aside0.mk hc0_1
 clear hr0_1 hc0_1
 have HR0_2:=Aside0.mk hr0_2
 have HC0_2:=Aside0.mk hc0_2
 clear hr0_2 hc0_2
 have HR1_1:=Aside0.mk hr1_1
 have HC1_1:=Aside0.mk hc1_1
 clear hr1_1 hc1_1
 have HR1_2:=Aside0.mk hr1_2
 have HC1_2:=Aside0.mk hc1_2
 clear hr1_2 hc1_2
 have HB:=Aside0.mk (Below.refl w.heap.size w)
 have H:(if (a0_0 != a1_0)=true then (some false) else ((laws_eqSectionS.f k l0_1 l1_1).bind fun t492=>(if t492=true then ((laws_eqBoolS.f k l0_2 l1_2).bind fun t493=>(if t493=true then (some true) else (some false))) else (some false))))=some r:=h
 clear h
 by_cases c3:(a0_0 != a1_0)=true
 ·rw [if_pos c3] at H
  have c3b0:(a0_0 != a1_0)=true:=c3
  (try (have c3b1:decide (a0_0=a1_0)=false:=by simpa using c3))
  (try (have c3b2:(a0_0==a1_0)=false:=by simpa using c3))
  (try (have c3b3:¬ (a0_0=a1_0):=by simpa using c3))
  clear c3
  obtain rfl:=Option.some.inj H
  go_enter Try.func45,Try.ntmps45
  go_wp2_with (first|((with_reducible refine gate_dst (N:=2) rfl ?_);refine box_event ?hg (N:=2) ?hd (cs:=#[.bool a0_0,.slice A0_1 l0_1.length c0_1,.slice A0_2 l0_2.length c0_2]) (t:=46) ?hr ?_;(case hd=>rfl);(case hg=>rfl);(case hr=>first|(go_simp;done)|(go_simp;rfl));intro gb490 hg w4 hbox hb;have n0_:=Aside0.mk (below_step (by repeat (first|(with_reducible first|exact HB.out|apply below_alloc|apply pw_below_drewN|apply below_drew1)|exact HB.out)) hb);have n1_:=Aside0.mk (hbox);have n2_:=Aside0.mk ((by rw [hg];exact (below_size (by repeat (first|(with_reducible first|exact HB.out|apply below_alloc|apply pw_below_drewN|apply below_drew1)|exact HB.out))):w.heap.size≤gb490));have n3_:=Aside0.mk ((by rw [hg];exact (below_size (by repeat (first|(with_reducible first|exact HB.out|apply below_alloc|apply pw_below_drewN|apply below_drew1)|exact HB.out))):w.heap.size≤gb490));clear HB;have HB:=n0_;have BK490:=n1_;have GW490:=n2_;have GE490:=n3_;clear n0_ n1_ n2_ n3_;clear hb hbox hg)|((with_reducible refine gate_dst (N:=3) rfl ?_);refine box_event ?hg (N:=3) ?hd (cs:=#[.bool a1_0,.slice A1_1 l1_1.length c1_1,.slice A1_2 l1_2.length c1_2]) (t:=46) ?hr ?_;(case hd=>rfl);(case hg=>rfl);(case hr=>first|(go_simp;done)|(go_simp;rfl));intro gb491 hg w5 hbox hb;have n0_:=Aside0.mk (blk_below (g:=gb490) (o:=.cells #[.bool a0_0,.slice A0_1 l0_1.length c0_1,.slice A0_2 l0_2.length c0_2] 46 (0,0)) (by (with_reducible repeat (first|refine blk_drewN ?_ _|refine blk_drew ?_|refine blk_alloc ?_ _));exact BK490.out) hb);have n1_:=Aside0.mk (below_step (by repeat (first|(with_reducible first|exact HB.out|apply below_alloc|apply pw_below_drewN|apply below_drew1|refine below_set ?_ GE490.out)|exact HB.out)) hb);have n2_:=Aside0.mk (hbox);have n3_:=Aside0.mk ((by rw [hg];exact (below_size (by repeat (first|(with_reducible first|exact HB.out|apply below_alloc|apply pw_below_drewN|apply below_drew1|refine below_set ?_ GE490.out)|exact HB.out))):w.heap.size≤gb491));have n4_:=Aside0.mk ((by rw [hg];exact (below_size (by repeat (first|(with_reducible first|exact HB.out|apply below_alloc|apply pw_below_drewN|apply below_drew1|refine below_set ?_ GE490.out)|exact HB.out))):w.heap.size≤gb491));have n5_:=Aside0.mk ((by rw [hg];exact Nat.ne_of_lt (blk_lt (g:=gb490) (o:=.cells #[.bool a0_0,.slice A0_1 l0_1.length c0_1,.slice A0_2 l0_2.length c0_2] 46 (0,0)) (by (with_reducible repeat (first|refine blk_drewN ?_ _|refine blk_drew ?_|refine blk_alloc ?_ _));exact BK490.out)):gb490 ≠ gb491));have n6_:=Aside0.mk ((by rw [hg];exact Nat.ne_of_gt (blk_lt (g:=gb490) (o:=.cells #[.bool a0_0,.slice A0_1 l0_1.length c0_1,.slice A0_2 l0_2.length c0_2] 46 (0,0)) (by (with_reducible repeat (first|refine blk_drewN ?_ _|refine blk_drew ?_|refine blk_alloc ?_ _));exact BK490.out)):gb491 ≠ gb490));clear BK490;clear HB;have BK490:=n0_;have HB:=n1_;have BK491:=n2_;have GW491:=n3_;have GE491:=n4_;have NB490_491:=n5_;have NB491_490:=n6_;clear n0_ n1_ n2_ n3_ n4_ n5_ n6_;clear hb hbox hg;have hnb6:=NB490_491.out;have hnc6:=NB491_490.out;have hcz7_0:w5.cell? ⟨gb490,0,none⟩=some (.bool a0_0):=(blk_cell BK490.out 0).trans rfl;have hcz7_1:w5.cell? ⟨gb490,1,none⟩=some (.slice A0_1 l0_1.length c0_1):=(blk_cell BK490.out 1).trans rfl;have hcz7_2:w5.cell? ⟨gb490,2,none⟩=some (.slice A0_2 l0_2.length c0_2):=(blk_cell BK490.out 2).trans rfl;have hfz7_0:=blk_frozen BK490.out 0;have hfz7_1:=blk_frozen BK490.out 1;have hfz7_2:=blk_frozen BK490.out 2;have hcz8_0:w5.cell? ⟨gb491,0,none⟩=some (.bool a1_0):=(blk_cell BK491.out 0).trans rfl;have hcz8_1:w5.cell? ⟨gb491,1,none⟩=some (.slice A1_1 l1_1.length c1_1):=(blk_cell BK491.out 1).trans rfl;have hcz8_2:w5.cell? ⟨gb491,2,none⟩=some (.slice A1_2 l1_2.length c1_2):=(blk_cell BK491.out 2).trans rfl;have hfz8_0:=blk_frozen BK491.out 0;have hfz8_1:=blk_frozen BK491.out 1;have hfz8_2:=blk_frozen BK491.out 2))
  go_ret
  exact ⟨by first|rfl|(simp [errW_none,errW_some] <;> rfl)|(simp [*,errW_none,errW_some] <;> rfl),by repeat (first|(with_reducible first|exact HB.out|apply below_alloc|apply pw_below_drewN|apply below_drew1|refine below_set ?_ GE490.out|refine below_set ?_ GE491.out)|exact HB.out)⟩
 rw [if_neg c3] at H
 have c3b0:(a0_0 != a1_0)=false:=by simpa using c3
 (try (have c3b1:decide (a0_0=a1_0)=true:=by simpa using c3))
 (try (have c3b2:(a0_0==a1_0)=true:=by simpa using c3))
 clear c3
 replace H:=Option.bind_eq_some_iff.mp H
 obtain ⟨t492,A90,H⟩:=H
 replace H:(if t492=true then ((laws_eqBoolS.f k l0_2 l1_2).bind fun t493=>(if t493=true then (some true) else (some false))) else (some false))=some r:=H
 have A9:=Aside0.mk A90
 clear A90
 by_cases c10:t492=true
 ·subst c10
  have H1:((laws_eqBoolS.f k l0_2 l1_2).bind fun t493=>(if t493=true then (some true) else (some false)))=some r:=by rw [if_pos rfl] at H;exact H
  clear H
  have H:=H1
  clear H1
  replace H:=Option.bind_eq_some_iff.mp H
  obtain ⟨t493,A110,H⟩:=H
  replace H:(if t493=true then (some true) else (some false))=some r:=H
  have A11:=Aside0.mk A110
  clear A110
  by_cases c12:t493=true
  ·subst c12
   have H1:(some true)=some r:=by rw [if_pos rfl] at H;exact H
   clear H
   have H:=H1
   clear H1
   obtain rfl:=Option.some.inj H
   go_enter Try.func45,Try.ntmps45
   go_wp2_with (first|((with_reducible refine gate_dst (N:=2) rfl ?_);refine box_event ?hg (N:=2) ?hd (cs:=#[.bool a0_0,.slice A0_1 l0_1.length c0_1,.slice A0_2 l0_2.length c0_2]) (t:=46) ?hr ?_;(case hd=>rfl);(case hg=>rfl);(case hr=>first|(go_simp;done)|(go_simp;rfl));intro gb490 hg w13 hbox hb;have n0_:=Aside0.mk (below_step (by repeat (first|(with_reducible first|exact HB.out|apply below_alloc|apply pw_below_drewN|apply below_drew1)|exact HB.out)) hb);have n1_:=Aside0.mk (hbox);have n2_:=Aside0.mk ((by rw [hg];exact (below_size (by repeat (first|(with_reducible first|exact HB.out|apply below_alloc|apply pw_below_drewN|apply below_drew1)|exact HB.out))):w.heap.size≤gb490));have n3_:=Aside0.mk ((by rw [hg];exact (below_size (by repeat (first|(with_reducible first|exact HB.out|apply below_alloc|apply pw_below_drewN|apply below_drew1)|exact HB.out))):w.heap.size≤gb490));clear HB;have HB:=n0_;have BK490:=n1_;have GW490:=n2_;have GE490:=n3_;clear n0_ n1_ n2_ n3_;clear hb hbox hg)|((with_reducible refine gate_dst (N:=3) rfl ?_);refine box_event ?hg (N:=3) ?hd (cs:=#[.bool a1_0,.slice A1_1 l1_1.length c1_1,.slice A1_2 l1_2.length c1_2]) (t:=46) ?hr ?_;(case hd=>rfl);(case hg=>rfl);(case hr=>first|(go_simp;done)|(go_simp;rfl));intro gb491 hg w14 hbox hb;have n0_:=Aside0.mk (blk_below (g:=gb490) (o:=.cells #[.bool a0_0,.slice A0_1 l0_1.length c0_1,.slice A0_2 l0_2.length c0_2] 46 (0,0)) (by (with_reducible repeat (first|refine blk_drewN ?_ _|refine blk_drew ?_|refine blk_alloc ?_ _));exact BK490.out) hb);have n1_:=Aside0.mk (below_step (by repeat (first|(with_reducible first|exact HB.out|apply below_alloc|apply pw_below_drewN|apply below_drew1|refine below_set ?_ GE490.out)|exact HB.out)) hb);have n2_:=Aside0.mk (hbox);have n3_:=Aside0.mk ((by rw [hg];exact (below_size (by repeat (first|(with_reducible first|exact HB.out|apply below_alloc|apply pw_below_drewN|apply below_drew1|refine below_set ?_ GE490.out)|exact HB.out))):w.heap.size≤gb491));have n4_:=Aside0.mk ((by rw [hg];exact (below_size (by repeat (first|(with_reducible first|exact HB.out|apply below_alloc|apply pw_below_drewN|apply below_drew1|refine below_set ?_ GE490.out)|exact HB.out))):w.heap.size≤gb491));have n5_:=Aside0.mk ((by rw [hg];exact Nat.ne_of_lt (blk_lt (g:=gb490) (o:=.cells #[.bool a0_0,.slice A0_1 l0_1.length c0_1,.slice A0_2 l0_2.length c0_2] 46 (0,0)) (by (with_reducible repeat (first|refine blk_drewN ?_ _|refine blk_drew ?_|refine blk_alloc ?_ _));exact BK490.out)):gb490 ≠ gb491));have n6_:=Aside0.mk ((by rw [hg];exact Nat.ne_of_gt (blk_lt (g:=gb490) (o:=.cells #[.bool a0_0,.slice A0_1 l0_1.length c0_1,.slice A0_2 l0_2.length c0_2] 46 (0,0)) (by (with_reducible repeat (first|refine blk_drewN ?_ _|refine blk_drew ?_|refine blk_alloc ?_ _));exact BK490.out)):gb491 ≠ gb490));clear BK490;clear HB;have BK490:=n0_;have HB:=n1_;have BK491:=n2_;have GW491:=n3_;have GE491:=n4_;have NB490_491:=n5_;have NB491_490:=n6_;clear n0_ n1_ n2_ n3_ n4_ n5_ n6_;clear hb hbox hg;have hnb15:=NB490_491.out;have hnc15:=NB491_490.out;have hcz16_0:w14.cell? ⟨gb490,0,none⟩=some (.bool a0_0):=(blk_cell BK490.out 0).trans rfl;have hcz16_1:w14.cell? ⟨gb490,1,none⟩=some (.slice A0_1 l0_1.length c0_1):=(blk_cell BK490.out 1).trans rfl;have hcz16_2:w14.cell? ⟨gb490,2,none⟩=some (.slice A0_2 l0_2.length c0_2):=(blk_cell BK490.out 2).trans rfl;have hfz16_0:=blk_frozen BK490.out 0;have hfz16_1:=blk_frozen BK490.out 1;have hfz16_2:=blk_frozen BK490.out 2;have hcz17_0:w14.cell? ⟨gb491,0,none⟩=some (.bool a1_0):=(blk_cell BK491.out 0).trans rfl;have hcz17_1:w14.cell? ⟨gb491,1,none⟩=some (.slice A1_1 l1_1.length c1_1):=(blk_cell BK491.out 1).trans rfl;have hcz17_2:w14.cell? ⟨gb491,2,none⟩=some (.slice A1_2 l1_2.length c1_2):=(blk_cell BK491.out 2).trans rfl;have hfz17_0:=blk_frozen BK491.out 0;have hfz17_1:=blk_frozen BK491.out 1;have hfz17_2:=blk_frozen BK491.out 2)|((with_reducible refine gate_callee (f:=100) rfl ?_);refine goesL_ (some 14) rfl rfl Try.func100 (by kernel_rfl) rfl #[.slice A0_1 l0_1.length c0_1,.slice A1_1 l1_1.length c1_1] rfl (by (try simp only [List.map_toArray,List.map_cons,List.map_nil]);first|done|rfl|(simp only [List.length_drop,List.length_take];rfl)) ?_;(with_reducible refine (laws_eqSectionS.calls k _ _ l0_1 _ _ l1_1 true _ ?side1 ?side2 ?side3 ?side4 A9.out).mono ?_);(case side1=>repeat (first|exact (Kd.C_below HR0_1.out HB.out)|(with_reducible refine Kd.C_alloc ?_ _)|(with_reducible refine Kd.C_drewN ?_ _)|(with_reducible refine Kd.C_drew ?_)));(case side2=>exact HC0_1.out);(case side3=>repeat (first|exact (Kd.C_below HR1_1.out HB.out)|(with_reducible refine Kd.C_alloc ?_ _)|(with_reducible refine Kd.C_drewN ?_ _)|(with_reducible refine Kd.C_drew ?_)));(case side4=>exact HC1_1.out);rintro e w18 ⟨rfl,hb⟩;refine ⟨_,rfl,?_⟩;have n0_:=Aside0.mk (blk_below (g:=gb490) (o:=.cells #[.bool a0_0,.slice A0_1 l0_1.length c0_1,.slice A0_2 l0_2.length c0_2] 46 (0,0)) (by (with_reducible repeat (first|refine blk_drewN ?_ _|refine blk_drew ?_|refine blk_alloc ?_ _));exact BK490.out) hb);have n1_:=Aside0.mk (blk_below (g:=gb491) (o:=.cells #[.bool a1_0,.slice A1_1 l1_1.length c1_1,.slice A1_2 l1_2.length c1_2] 46 (0,0)) (by (with_reducible repeat (first|refine blk_drewN ?_ _|refine blk_drew ?_|refine blk_alloc ?_ _));exact BK491.out) hb);have n2_:=Aside0.mk (below_step (by repeat (first|(with_reducible first|exact HB.out|apply below_alloc|apply pw_below_drewN|apply below_drew1|refine below_set ?_ GE490.out|refine below_set ?_ GE491.out)|exact HB.out)) hb);clear BK490;clear BK491;clear HB;have BK490:=n0_;have BK491:=n1_;have HB:=n2_;clear n0_ n1_ n2_;(try clear hb);(try clear hb2);(try clear hk);(try clear hi);have hcz19_0:w18.cell? ⟨gb490,0,none⟩=some (.bool a0_0):=(blk_cell BK490.out 0).trans rfl;have hcz19_1:w18.cell? ⟨gb490,1,none⟩=some (.slice A0_1 l0_1.length c0_1):=(blk_cell BK490.out 1).trans rfl;have hcz19_2:w18.cell? ⟨gb490,2,none⟩=some (.slice A0_2 l0_2.length c0_2):=(blk_cell BK490.out 2).trans rfl;have hfz19_0:=blk_frozen BK490.out 0;have hfz19_1:=blk_frozen BK490.out 1;have hfz19_2:=blk_frozen BK490.out 2;have hcz20_0:w18.cell? ⟨gb491,0,none⟩=some (.bool a1_0):=(blk_cell BK491.out 0).trans rfl;have hcz20_1:w18.cell? ⟨gb491,1,none⟩=some (.slice A1_1 l1_1.length c1_1):=(blk_cell BK491.out 1).trans rfl;have hcz20_2:w18.cell? ⟨gb491,2,none⟩=some (.slice A1_2 l1_2.length c1_2):=(blk_cell BK491.out 2).trans rfl;have hfz20_0:=blk_frozen BK491.out 0;have hfz20_1:=blk_frozen BK491.out 1;have hfz20_2:=blk_frozen BK491.out 2)|((with_reducible refine gate_callee (f:=101) rfl ?_);refine goesL_ (some 20) rfl rfl Try.func101 (by kernel_rfl) rfl #[.slice A0_2 l0_2.length c0_2,.slice A1_2 l1_2.length c1_2] rfl (by (try simp only [List.map_toArray,List.map_cons,List.map_nil]);first|done|rfl|(simp only [List.length_drop,List.length_take];rfl)) ?_;(with_reducible refine (laws_eqBoolS.calls k _ _ l0_2 _ _ l1_2 true _ ?side1 ?side2 ?side3 ?side4 A11.out).mono ?_);(case side1=>repeat (first|exact (Kd.C_below HR0_2.out HB.out)|(with_reducible refine Kd.C_alloc ?_ _)|(with_reducible refine Kd.C_drewN ?_ _)|(with_reducible refine Kd.C_drew ?_)));(case side2=>exact HC0_2.out);(case side3=>repeat (first|exact (Kd.C_below HR1_2.out HB.out)|(with_reducible refine Kd.C_alloc ?_ _)|(with_reducible refine Kd.C_drewN ?_ _)|(with_reducible refine Kd.C_drew ?_)));(case side4=>exact HC1_2.out);rintro e w' ⟨rfl,⟨nd,rfl⟩⟩;refine ⟨_,rfl,?_⟩))
   go_ret
   exact ⟨by first|rfl|(simp [errW_none,errW_some] <;> rfl)|(simp [*,errW_none,errW_some] <;> rfl),by repeat (first|(with_reducible first|exact HB.out|apply below_alloc|apply pw_below_drewN|apply below_drew1|refine below_set ?_ GE490.out|refine below_set ?_ GE491.out)|exact HB.out)⟩
  replace c12:=Bool.eq_false_iff.mpr c12
  subst c12
  have H1:(some false)=some r:=by rw [if_neg (show ¬ (false=true) by decide)] at H;exact H
  clear H
  have H:=H1
  clear H1
  obtain rfl:=Option.some.inj H
  go_enter Try.func45,Try.ntmps45
  go_wp2_with (first|((with_reducible refine gate_dst (N:=2) rfl ?_);refine box_event ?hg (N:=2) ?hd (cs:=#[.bool a0_0,.slice A0_1 l0_1.length c0_1,.slice A0_2 l0_2.length c0_2]) (t:=46) ?hr ?_;(case hd=>rfl);(case hg=>rfl);(case hr=>first|(go_simp;done)|(go_simp;rfl));intro gb490 hg w21 hbox hb;have n0_:=Aside0.mk (below_step (by repeat (first|(with_reducible first|exact HB.out|apply below_alloc|apply pw_below_drewN|apply below_drew1)|exact HB.out)) hb);have n1_:=Aside0.mk (hbox);have n2_:=Aside0.mk ((by rw [hg];exact (below_size (by repeat (first|(with_reducible first|exact HB.out|apply below_alloc|apply pw_below_drewN|apply below_drew1)|exact HB.out))):w.heap.size≤gb490));have n3_:=Aside0.mk ((by rw [hg];exact (below_size (by repeat (first|(with_reducible first|exact HB.out|apply below_alloc|apply pw_below_drewN|apply below_drew1)|exact HB.out))):w.heap.size≤gb490));clear HB;have HB:=n0_;have BK490:=n1_;have GW490:=n2_;have GE490:=n3_;clear n0_ n1_ n2_ n3_;clear hb hbox hg)|((with_reducible refine gate_dst (N:=3) rfl ?_);refine box_event ?hg (N:=3) ?hd (cs:=#[.bool a1_0,.slice A1_1 l1_1.length c1_1,.slice A1_2 l1_2.length c1_2]) (t:=46) ?hr ?_;(case hd=>rfl);(case hg=>rfl);(case hr=>first|(go_simp;done)|(go_simp;rfl));intro gb491 hg w22 hbox hb;have n0_:=Aside0.mk (blk_below (g:=gb490) (o:=.cells #[.bool a0_0,.slice A0_1 l0_1.length c0_1,.slice A0_2 l0_2.length c0_2] 46 (0,0)) (by (with_reducible repeat (first|refine blk_drewN ?_ _|refine blk_drew ?_|refine blk_alloc ?_ _));exact BK490.out) hb);have n1_:=Aside0.mk (below_step (by repeat (first|(with_reducible first|exact HB.out|apply below_alloc|apply pw_below_drewN|apply below_drew1|refine below_set ?_ GE490.out)|exact HB.out)) hb);have n2_:=Aside0.mk (hbox);have n3_:=Aside0.mk ((by rw [hg];exact (below_size (by repeat (first|(with_reducible first|exact HB.out|apply below_alloc|apply pw_below_drewN|apply below_drew1|refine below_set ?_ GE490.out)|exact HB.out))):w.heap.size≤gb491));have n4_:=Aside0.mk ((by rw [hg];exact (below_size (by repeat (first|(with_reducible first|exact HB.out|apply below_alloc|apply pw_below_drewN|apply below_drew1|refine below_set ?_ GE490.out)|exact HB.out))):w.heap.size≤gb491));have n5_:=Aside0.mk ((by rw [hg];exact Nat.ne_of_lt (blk_lt (g:=gb490) (o:=.cells #[.bool a0_0,.slice A0_1 l0_1.length c0_1,.slice A0_2 l0_2.length c0_2] 46 (0,0)) (by (with_reducible repeat (first|refine blk_drewN ?_ _|refine blk_drew ?_|refine blk_alloc ?_ _));exact BK490.out)):gb490 ≠ gb491));have n6_:=Aside0.mk ((by rw [hg];exact Nat.ne_of_gt (blk_lt (g:=gb490) (o:=.cells #[.bool a0_0,.slice A0_1 l0_1.length c0_1,.slice A0_2 l0_2.length c0_2] 46 (0,0)) (by (with_reducible repeat (first|refine blk_drewN ?_ _|refine blk_drew ?_|refine blk_alloc ?_ _));exact BK490.out)):gb491 ≠ gb490));clear BK490;clear HB;have BK490:=n0_;have HB:=n1_;have BK491:=n2_;have GW491:=n3_;have GE491:=n4_;have NB490_491:=n5_;have NB491_490:=n6_;clear n0_ n1_ n2_ n3_ n4_ n5_ n6_;clear hb hbox hg;have hnb23:=NB490_491.out;have hnc23:=NB491_490.out;have hcz24_0:w22.cell? ⟨gb490,0,none⟩=some (.bool a0_0):=(blk_cell BK490.out 0).trans rfl;have hcz24_1:w22.cell? ⟨gb490,1,none⟩=some (.slice A0_1 l0_1.length c0_1):=(blk_cell BK490.out 1).trans rfl;have hcz24_2:w22.cell? ⟨gb490,2,none⟩=some (.slice A0_2 l0_2.length c0_2):=(blk_cell BK490.out 2).trans rfl;have hfz24_0:=blk_frozen BK490.out 0;have hfz24_1:=blk_frozen BK490.out 1;have hfz24_2:=blk_frozen BK490.out 2;have hcz25_0:w22.cell? ⟨gb491,0,none⟩=some (.bool a1_0):=(blk_cell BK491.out 0).trans rfl;have hcz25_1:w22.cell? ⟨gb491,1,none⟩=some (.slice A1_1 l1_1.length c1_1):=(blk_cell BK491.out 1).trans rfl;have hcz25_2:w22.cell? ⟨gb491,2,none⟩=some (.slice A1_2 l1_2.length c1_2):=(blk_cell BK491.out 2).trans rfl;have hfz25_0:=blk_frozen BK491.out 0;have hfz25_1:=blk_frozen BK491.out 1;have hfz25_2:=blk_frozen BK491.out 2)|((with_reducible refine gate_callee (f:=100) rfl ?_);refine goesL_ (some 14) rfl rfl Try.func100 (by kernel_rfl) rfl #[.slice A0_1 l0_1.length c0_1,.slice A1_1 l1_1.length c1_1] rfl (by (try simp only [List.map_toArray,List.map_cons,List.map_nil]);first|done|rfl|(simp only [List.length_drop,List.length_take];rfl)) ?_;(with_reducible refine (laws_eqSectionS.calls k _ _ l0_1 _ _ l1_1 true _ ?side1 ?side2 ?side3 ?side4 A9.out).mono ?_);(case side1=>repeat (first|exact (Kd.C_below HR0_1.out HB.out)|(with_reducible refine Kd.C_alloc ?_ _)|(with_reducible refine Kd.C_drewN ?_ _)|(with_reducible refine Kd.C_drew ?_)));(case side2=>exact HC0_1.out);(case side3=>repeat (first|exact (Kd.C_below HR1_1.out HB.out)|(with_reducible refine Kd.C_alloc ?_ _)|(with_reducible refine Kd.C_drewN ?_ _)|(with_reducible refine Kd.C_drew ?_)));(case side4=>exact HC1_1.out);rintro e w26 ⟨rfl,hb⟩;refine ⟨_,rfl,?_⟩;have n0_:=Aside0.mk (blk_below (g:=gb490) (o:=.cells #[.bool a0_0,.slice A0_1 l0_1.length c0_1,.slice A0_2 l0_2.length c0_2] 46 (0,0)) (by (with_reducible repeat (first|refine blk_drewN ?_ _|refine blk_drew ?_|refine blk_alloc ?_ _));exact BK490.out) hb);have n1_:=Aside0.mk (blk_below (g:=gb491) (o:=.cells #[.bool a1_0,.slice A1_1 l1_1.length c1_1,.slice A1_2 l1_2.length c1_2] 46 (0,0)) (by (with_reducible repeat (first|refine blk_drewN ?_ _|refine blk_drew ?_|refine blk_alloc ?_ _));exact BK491.out) hb);have n2_:=Aside0.mk (below_step (by repeat (first|(with_reducible first|exact HB.out|apply below_alloc|apply pw_below_drewN|apply below_drew1|refine below_set ?_ GE490.out|refine below_set ?_ GE491.out)|exact HB.out)) hb);clear BK490;clear BK491;clear HB;have BK490:=n0_;have BK491:=n1_;have HB:=n2_;clear n0_ n1_ n2_;(try clear hb);(try clear hb2);(try clear hk);(try clear hi);have hcz27_0:w26.cell? ⟨gb490,0,none⟩=some (.bool a0_0):=(blk_cell BK490.out 0).trans rfl;have hcz27_1:w26.cell? ⟨gb490,1,none⟩=some (.slice A0_1 l0_1.length c0_1):=(blk_cell BK490.out 1).trans rfl;have hcz27_2:w26.cell? ⟨gb490,2,none⟩=some (.slice A0_2 l0_2.length c0_2):=(blk_cell BK490.out 2).trans rfl;have hfz27_0:=blk_frozen BK490.out 0;have hfz27_1:=blk_frozen BK490.out 1;have hfz27_2:=blk_frozen BK490.out 2;have hcz28_0:w26.cell? ⟨gb491,0,none⟩=some (.bool a1_0):=(blk_cell BK491.out 0).trans rfl;have hcz28_1:w26.cell? ⟨gb491,1,none⟩=some (.slice A1_1 l1_1.length c1_1):=(blk_cell BK491.out 1).trans rfl;have hcz28_2:w26.cell? ⟨gb491,2,none⟩=some (.slice A1_2 l1_2.length c1_2):=(blk_cell BK491.out 2).trans rfl;have hfz28_0:=blk_frozen BK491.out 0;have hfz28_1:=blk_frozen BK491.out 1;have hfz28_2:=blk_frozen BK491.out 2)|((with_reducible refine gate_callee (f:=101) rfl ?_);refine goesL_ (some 20) rfl rfl Try.func101 (by kernel_rfl) rfl #[.slice A0_2 l0_2.length c0_2,.slice A1_2 l1_2.length c1_2] rfl (by (try simp only [List.map_toArray,List.map_cons,List.map_nil]);first|done|rfl|(simp only [List.length_drop,List.length_take];rfl)) ?_;(with_reducible refine (laws_eqBoolS.calls k _ _ l0_2 _ _ l1_2 false _ ?side1 ?side2 ?side3 ?side4 A11.out).mono ?_);(case side1=>repeat (first|exact (Kd.C_below HR0_2.out HB.out)|(with_reducible refine Kd.C_alloc ?_ _)|(with_reducible refine Kd.C_drewN ?_ _)|(with_reducible refine Kd.C_drew ?_)));(case side2=>exact HC0_2.out);(case side3=>repeat (first|exact (Kd.C_below HR1_2.out HB.out)|(with_reducible refine Kd.C_alloc ?_ _)|(with_reducible refine Kd.C_drewN ?_ _)|(with_reducible refine Kd.C_drew ?_)));(case side4=>exact HC1_2.out);rintro e w' ⟨rfl,⟨nd,rfl⟩⟩;refine ⟨_,rfl,?_⟩))
  go_ret
  exact ⟨by first|rfl|(simp [errW_none,errW_some] <;> rfl)|(simp [*,errW_none,errW_some] <;> rfl),by repeat (first|(with_reducible first|exact HB.out|apply below_alloc|apply pw_below_drewN|apply below_drew1|refine below_set ?_ GE490.out|refine below_set ?_ GE491.out)|exact HB.out)⟩
 replace c10:=Bool.eq_false_iff.mpr c10
 subst c10
 have H1:(some false)=some r:=by rw [if_neg (show ¬ (false=true) by decide)] at H;exact H
 clear H
 have H:=H1
 clear H1
 obtain rfl:=Option.some.inj H
 go_enter Try.func45,Try.ntmps45
 go_wp2_with (first|((with_reducible refine gate_dst (N:=2) rfl ?_);refine box_event ?hg (N:=2) ?hd (cs:=#[.bool a0_0,.slice A0_1 l0_1.length c0_1,.slice A0_2 l0_2.length c0_2]) (t:=46) ?hr ?_;(case hd=>rfl);(case hg=>rfl);(case hr=>first|(go_simp;done)|(go_simp;rfl));intro gb490 hg w29 hbox hb;have n0_:=Aside0.mk (below_step (by repeat (first|(with_reducible first|exact HB.out|apply below_alloc|apply pw_below_drewN|apply below_drew1)|exact HB.out)) hb);have n1_:=Aside0.mk (hbox);have n2_:=Aside0.mk ((by rw [hg];exact (below_size (by repeat (first|(with_reducible first|exact HB.out|apply below_alloc|apply pw_below_drewN|apply below_drew1)|exact HB.out))):w.heap.size≤gb490));have n3_:=Aside0.mk ((by rw [hg];exact (below_size (by repeat (first|(with_reducible first|exact HB.out|apply below_alloc|apply pw_below_drewN|apply below_drew1)|exact HB.out))):w.heap.size≤gb490));clear HB;have HB:=n0_;have BK490:=n1_;have GW490:=n2_;have GE490:=n3_;clear n0_ n1_ n2_ n3_;clear hb hbox hg)|((with_reducible refine gate_dst (N:=3) rfl ?_);refine box_event ?hg (N:=3) ?hd (cs:=#[.bool a1_0,.slice A1_1 l1_1.length c1_1,.slice A1_2 l1_2.length c1_2]) (t:=46) ?hr ?_;(case hd=>rfl);(case hg=>rfl);(case hr=>first|(go_simp;done)|(go_simp;rfl));intro gb491 hg w30 hbox hb;have n0_:=Aside0.mk (blk_below (g:=gb490) (o:=.cells #[.bool a0_0,.slice A0_1 l0_1.length c0_1,.slice A0_2 l0_2.length c0_2] 46 (0,0)) (by (with_reducible repeat (first|refine blk_drewN ?_ _|refine blk_drew ?_|refine blk_alloc ?_ _));exact BK490.out) hb);have n1_:=Aside0.mk (below_step (by repeat (first|(with_reducible first|exact HB.out|apply below_alloc|apply pw_below_drewN|apply below_drew1|refine below_set ?_ GE490.out)|exact HB.out)) hb);have n2_:=Aside0.mk (hbox);have n3_:=Aside0.mk ((by rw [hg];exact (below_size (by repeat (first|(with_reducible first|exact HB.out|apply below_alloc|apply pw_below_drewN|apply below_drew1|refine below_set ?_ GE490.out)|exact HB.out))):w.heap.size≤gb491));have n4_:=Aside0.mk ((by rw [hg];exact (below_size (by repeat (first|(with_reducible first|exact HB.out|apply below_alloc|apply pw_below_drewN|apply below_drew1|refine below_set ?_ GE490.out)|exact HB.out))):w.heap.size≤gb491));have n5_:=Aside0.mk ((by rw [hg];exact Nat.ne_of_lt (blk_lt (g:=gb490) (o:=.cells #[.bool a0_0,.slice A0_1 l0_1.length c0_1,.slice A0_2 l0_2.length c0_2] 46 (0,0)) (by (with_reducible repeat (first|refine blk_drewN ?_ _|refine blk_drew ?_|refine blk_alloc ?_ _));exact BK490.out)):gb490 ≠ gb491));have n6_:=Aside0.mk ((by rw [hg];exact Nat.ne_of_gt (blk_lt (g:=gb490) (o:=.cells #[.bool a0_0,.slice A0_1 l0_1.length c0_1,.slice A0_2 l0_2.length c0_2] 46 (0,0)) (by (with_reducible repeat (first|refine blk_drewN ?_ _|refine blk_drew ?_|refine blk_alloc ?_ _));exact BK490.out)):gb491 ≠ gb490));clear BK490;clear HB;have BK490:=n0_;have HB:=n1_;have BK491:=n2_;have GW491:=n3_;have GE491:=n4_;have NB490_491:=n5_;have NB491_490:=n6_;clear n0_ n1_ n2_ n3_ n4_ n5_ n6_;clear hb hbox hg;have hnb31:=NB490_491.out;have hnc31:=NB491_490.out;have hcz32_0:w30.cell? ⟨gb490,0,none⟩=some (.bool a0_0):=(blk_cell BK490.out 0).trans rfl;have hcz32_1:w30.cell? ⟨gb490,1,none⟩=some (.slice A0_1 l0_1.length c0_1):=(blk_cell BK490.out 1).trans rfl;have hcz32_2:w30.cell? ⟨gb490,2,none⟩=some (.slice A0_2 l0_2.length c0_2):=(blk_cell BK490.out 2).trans rfl;have hfz32_0:=blk_frozen BK490.out 0;have hfz32_1:=blk_frozen BK490.out 1;have hfz32_2:=blk_frozen BK490.out 2;have hcz33_0:w30.cell? ⟨gb491,0,none⟩=some (.bool a1_0):=(blk_cell BK491.out 0).trans rfl;have hcz33_1:w30.cell? ⟨gb491,1,none⟩=some (.slice A1_1 l1_1.length c1_1):=(blk_cell BK491.out 1).trans rfl;have hcz33_2:w30.cell? ⟨gb491,2,none⟩=some (.slice A1_2 l1_2.length c1_2):=(blk_cell BK491.out 2).trans rfl;have hfz33_0:=blk_frozen BK491.out 0;have hfz33_1:=blk_frozen BK491.out 1;have hfz33_2:=blk_frozen BK491.out 2)|((with_reducible refine gate_callee (f:=100) rfl ?_);refine goesL_ (some 14) rfl rfl Try.func100 (by kernel_rfl) rfl #[.slice A0_1 l0_1.length c0_1,.slice A1_1 l1_1.length c1_1] rfl (by (try simp only [List.map_toArray,List.map_cons,List.map_nil]);first|done|rfl|(simp only [List.length_drop,List.length_take];rfl)) ?_;(with_reducible refine (laws_eqSectionS.calls k _ _ l0_1 _ _ l1_1 false _ ?side1 ?side2 ?side3 ?side4 A9.out).mono ?_);(case side1=>repeat (first|exact (Kd.C_below HR0_1.out HB.out)|(with_reducible refine Kd.C_alloc ?_ _)|(with_reducible refine Kd.C_drewN ?_ _)|(with_reducible refine Kd.C_drew ?_)));(case side2=>exact HC0_1.out);(case side3=>repeat (first|exact (Kd.C_below HR1_1.out HB.out)|(with_reducible refine Kd.C_alloc ?_ _)|(with_reducible refine Kd.C_drewN ?_ _)|(with_reducible refine Kd.C_drew ?_)));(case side4=>exact HC1_1.out);rintro e w34 ⟨rfl,hb⟩;refine ⟨_,rfl,?_⟩;have n0_:=Aside0.mk (blk_below (g:=gb490) (o:=.cells #[.bool a0_0,.slice A0_1 l0_1.length c0_1,.slice A0_2 l0_2.length c0_2] 46 (0,0)) (by (with_reducible repeat (first|refine blk_drewN ?_ _|refine blk_drew ?_|refine blk_alloc ?_ _));exact BK490.out) hb);have n1_:=Aside0.mk (blk_below (g:=gb491) (o:=.cells #[.bool a1_0,.slice A1_1 l1_1.length c1_1,.slice A1_2 l1_2.length c1_2] 46 (0,0)) (by (with_reducible repeat (first|refine blk_drewN ?_ _|refine blk_drew ?_|refine blk_alloc ?_ _));exact BK491.out) hb);have n2_:=Aside0.mk (below_step (by repeat (first|(with_reducible first|exact HB.out|apply below_alloc|apply pw_below_drewN|apply below_drew1|refine below_set ?_ GE490.out|refine below_set ?_ GE491.out)|exact HB.out)) hb);clear BK490;clear BK491;clear HB;have BK490:=n0_;have BK491:=n1_;have HB:=n2_;clear n0_ n1_ n2_;(try clear hb);(try clear hb2);(try clear hk);(try clear hi)))
 go_ret
 exact ⟨by first|rfl|(simp [errW_none,errW_some] <;> rfl)|(simp [*,errW_none,errW_some] <;> rfl),by repeat (first|(with_reducible first|exact HB.out|apply below_alloc|apply pw_below_drewN|apply below_drew1|refine below_set ?_ GE490.out|refine below_set ?_ GE491.out)|exact HB.out)⟩
end Go.Proofs.Ytpdnabhpkdchjaa.P
