/- The statement FnTrain holds of the given program, for every argument; there are no conditions. (Part 3 of 5.) -/
import Derived.Test.YtpdnabhpkdchjaaBFnTrain2
namespace Go.Proofs.Ytpdnabhpkdchjaa.P
open Go.RowKit Go.Proofs.YtpdnabhpkdchjaaW.PrintWords Go.Proofs.YtpdnabhpkdchjaaW.PrintLast Go.Proofs.YtpdnabhpkdchjaaW.PrintMore
attribute [local go_sem] max2_int min2_int max_two min_two max_three min_three max_four min_four
set_option linter.unusedVariables false
set_option linter.unusedSimpArgs false
mutual
def impl_Truth.j0:Nat→List (S56)→Bool→Int→List (S88)→Option ((List (List Int)))
 | 0,_,_,_,_=>none
 | k+1,x1,x17,x615000,x615001=>if x17=true then (some ([]:List (List Int))) else (if 0≤x615000 then (if (x615000:Int).toNat≤35184372088832 then (impl_Truth.l0 k (List.replicate (x615000:Int).toNat 0) ([]:List (List Int)) x1 (x1.length:Int) 0 x615000 x615001) else (none)) else (none))
def impl_Truth.l0:Nat→List Int→List (List Int)→List (S56)→Int→Int→Int→List (S88)→Option ((List (List Int)))
 | 0,_,_,_,_,_,_,_=>none
 | k+1,x5,x6,x21,x22,x23,x615000,x615001=>if x23<x22 then (if 0≤x23 then (if x23<(x21.length:Int) then ((impl_EventOk.f k x615000 x615001 ((rd_T56 x21 x23).f0) ((rd_T56 x21 x23).f1) ((rd_T56 x21 x23).f2)).bind fun t621=>(if t621=true then (impl_Truth.j2 k x5 x6 x21 x22 x23 (((rd_T56 x21 x23).f0)==1) x615000 x615001 ((rd_T56 x21 x23).f0) ((rd_T56 x21 x23).f1) ((rd_T56 x21 x23).f2)) else (impl_Truth.j2 k x5 x6 x21 x22 x23 false x615000 x615001 ((rd_T56 x21 x23).f0) ((rd_T56 x21 x23).f1) ((rd_T56 x21 x23).f2)))) else (none)) else (none)) else (some x6)
def impl_Truth.j2:Nat→List Int→List (List Int)→List (S56)→Int→Int→Bool→Int→List (S88)→Int→Int→Int→Option ((List (List Int)))
 | 0,_,_,_,_,_,_,_,_,_,_,_=>none
 | k+1,x5,x6,x21,x22,x23,x34,x615000,x615001,x621000,x621001,x621002=>if x34=true then (if 0≤x621001 then (if x621001<(x615001.length:Int) then (if ((rd_T88 x615001 x621001).f0) ≥ 0 then (if 0≤((rd_T88 x615001 x621001).f0) then (if ((rd_T88 x615001 x621001).f0)<(x5.length:Int) then ((some (x5.set (((rd_T88 x615001 x621001).f0):Int).toNat (wrap64 ((rd x5 ((rd_T88 x615001 x621001).f0)) - x621002)):List Int)).bind fun y625=>(if ((rd_T88 x615001 x621001).f1) ≥ 0 then (if 0≤((rd_T88 x615001 x621001).f1) then (if ((rd_T88 x615001 x621001).f1)<(x5.length:Int) then ((some (y625.set (((rd_T88 x615001 x621001).f1):Int).toNat (wrap64 ((rd y625 ((rd_T88 x615001 x621001).f1))+x621002)):List Int)).bind fun y627=>((slices_Clone_int_int.f y627).bind fun t628=>(if x6.length<5864062014805 then (impl_Truth.l0 k y627 (x6 ++ [t628]) x21 x22 (wrap64 (x23+1)) x615000 x615001) else (none)))) else (none)) else (none)) else ((slices_Clone_int_int.f y625).bind fun t634=>(if x6.length<5864062014805 then (impl_Truth.l0 k y625 (x6 ++ [t634]) x21 x22 (wrap64 (x23+1)) x615000 x615001) else (none))))) else (none)) else (none)) else (if ((rd_T88 x615001 x621001).f1) ≥ 0 then (if 0≤((rd_T88 x615001 x621001).f1) then (if ((rd_T88 x615001 x621001).f1)<(x5.length:Int) then ((some (x5.set (((rd_T88 x615001 x621001).f1):Int).toNat (wrap64 ((rd x5 ((rd_T88 x615001 x621001).f1))+x621002)):List Int)).bind fun y641=>((slices_Clone_int_int.f y641).bind fun t642=>(if x6.length<5864062014805 then (impl_Truth.l0 k y641 (x6 ++ [t642]) x21 x22 (wrap64 (x23+1)) x615000 x615001) else (none)))) else (none)) else (none)) else ((slices_Clone_int_int.f x5).bind fun t648=>(if x6.length<5864062014805 then (impl_Truth.l0 k x5 (x6 ++ [t648]) x21 x22 (wrap64 (x23+1)) x615000 x615001) else (none))))) else (none)) else (none)) else ((slices_Clone_int_int.f x5).bind fun t654=>(if x6.length<5864062014805 then (impl_Truth.l0 k x5 (x6 ++ [t654]) x21 x22 (wrap64 (x23+1)) x615000 x615001) else (none)))
end
def impl_Truth.f (k:Nat) (a0_0:Int) (l0_1:List (S88)) (l1:List (S56)):Option ((List (List Int))):=(impl_LayoutOk.f a0_0 l0_1).bind fun t615=>(if t615=0 then (impl_Truth.j0 k l1 (decide ((l1.length:Int) > 2000)) a0_0 l0_1) else (impl_Truth.j0 k l1 true a0_0 l0_1))
def impl_Truth.T11:Bool × List (List Nat × List Nat):=(true,[([],[]),([],[]),([1],[1]),([0,2],[0,2]),([3],[3]),([],[]),([5],[5]),([4,6],[4,6]),([0,2,0,1,2,3,4,5,6,7],[0,2]),([8,7,0,1,2,3,4,5,6,7],[7,8])])
def impl_Truth.B11:List Nat:=[0,0,2,7,15,0,32,127,255,511]
theorem impl_Truth.tab11:rtab .any (opsOf Try.f54 11)=impl_Truth.T11:=by kernel_rfl
theorem impl_Truth.bits11:waitsOk impl_Truth.T11.2 impl_Truth.B11=true:=by kernel_rfl
def impl_Truth.T13:Bool × List (List Nat × List Nat):=(true,[([],[]),([],[]),([1],[1]),([0,2],[0,2]),([3],[3]),([],[]),([5],[5]),([4,6],[4,6]),([0,2,0,1,2,3,4,5,6,7],[0,2]),([8,7,0,1,2,3,4,5,6,7],[7,8])])
def impl_Truth.B13:List Nat:=[0,0,2,7,15,0,32,127,255,511]
theorem impl_Truth.tab13:rtab .any (opsOf Try.f54 13)=impl_Truth.T13:=by kernel_rfl
theorem impl_Truth.bits13:waitsOk impl_Truth.T13.2 impl_Truth.B13=true:=by kernel_rfl
set_option maxHeartbeats 8000000 in
set_option maxRecDepth 100000 in
theorem impl_Truth.calls (k:Nat) (a0_0:Int) (A0_1:Option Addr) (c0_1:Nat) (l0_1:List (S88)) (A1:Option Addr) (c1:Nat) (l1:List (S56)) (r:List (List Int)) (w:World) (hr0_1:Kd.C k88 w A0_1 l0_1.length l0_1) (hc0_1:l0_1.length≤c0_1) (hr1:Kd.C k56 w A1 l1.length l1) (hc1:l1.length≤c1) (h:impl_Truth.f k a0_0 l0_1 l1=some r) :
  Calls Try.prog 54 #[.agg #[.int .i64 a0_0,.slice A0_1 l0_1.length c0_1],.slice A1 l1.length c1] w fun e w'=>∃ v0_:Value,e=.returned (v0_)∧Kd.S (Kd.slice 3 (Kd.int .i64)) 59 w' w.heap.size (fun _=>True) v0_ r∧Below w.heap.size w w':=by
 have hu30:=Try.underlying30
 have hu56:=Try.underlying56
 have hu88:=Try.underlying88
 have HR0_1:=Aside0.mk hr0_1
 have HC0_1:=Aside0.mk hc0_1
 clear hr0_1 hc0_1
 have HR1:=Aside0.mk hr1
 have HC1:=Aside0.mk hc1
 clear hr1 hc1
 have HB:=Aside0.mk (Below.refl w.heap.size w)
 have H:((impl_LayoutOk.f a0_0 l0_1).bind fun t615=>(if t615=0 then (impl_Truth.j0 k l1 (decide ((l1.length:Int) > 2000)) a0_0 l0_1) else (impl_Truth.j0 k l1 true a0_0 l0_1)))=some r:=h
 clear h
 have HC3:=Aside0.mk H
 clear H
 go_enter Try.func54,Try.ntmps54
 go_upto_region 1 with (first|((with_reducible refine gate_dst (N:=2) rfl ?_);(try (refine gate_guard (by rfl) ?_;dsimp only));refine box_event ?hg (N:=2) ?hd (cs:=#[.int .i64 a0_0,.slice A0_1 l0_1.length c0_1]) (t:=30) ?hr ?_;(case hd=>rfl);(case hg=>rfl);(case hr=>first|(go_simp;done)|(go_simp;rfl));intro gb614 hg w4 hbox hb;have n0_:=Aside0.mk (below_step (by exact HB.out) hb);have n1_:=Aside0.mk (hbox);have n2_:=Aside0.mk ((by rw [hg];exact (below_size (by exact HB.out)):w.heap.size≤gb614));have n3_:=Aside0.mk ((by rw [hg];exact (below_size (by exact HB.out)):w.heap.size≤gb614));clear HB;have HB:=n0_;have BK614:=n1_;have GW614:=n2_;have GE614:=n3_;clear n0_ n1_ n2_ n3_;clear hb hbox hg))
 (try simp only [Act.put,List.setIfInBounds_toArray,List.set_cons_zero,List.set_cons_succ])
 go_cut [17] (fun v17 wc=>∃ (kq:Nat) (x17_2:Bool),v17=.bool x17_2∧Aside0 (impl_Truth.j0 kq l1 x17_2 a0_0 l0_1=some r)∧Aside0 (kq≤k)∧Aside0 (wc.heap[gb614]?=some (.cells #[.int .i64 a0_0,(.slice A0_1 l0_1.length c0_1)] 30 (0,0)))∧Aside0 (Below w.heap.size w wc))
 case first =>
  have H:=HC3.out
  clear HC3
  replace H:=Option.bind_eq_some_iff.mp H
  obtain ⟨t615,A50,H⟩:=H
  replace H:(if t615=0 then (impl_Truth.j0 k l1 (decide ((l1.length:Int) > 2000)) a0_0 l0_1) else (impl_Truth.j0 k l1 true a0_0 l0_1))=some r:=H
  have A5:=Aside0.mk A50
  clear A50
  by_cases c6:t615=0
  ·rw [if_pos c6] at H
   have c6b0:(t615==0)=true:=beq_iff_eq.mpr c6
   have c6b1:(t615 != 0)=false:=bne_eq_false_iff_eq.mpr c6
   clear c6
   (first|rw [c6b0]|(simp only [i64_w,i32_w];rw [c6b0])|skip)
   have H':=Aside0.mk H
   clear H
   have hcz7_0:w4.cell? ⟨gb614,0,none⟩=some (.int .i64 a0_0):=(blk_cell BK614.out 0).trans rfl
   have hcz7_1:w4.cell? ⟨gb614,1,none⟩=some (.slice A0_1 l0_1.length c0_1):=(blk_cell BK614.out 1).trans rfl
   have hfz7_0:=blk_frozen BK614.out 0
   have hfz7_1:=blk_frozen BK614.out 1
   go_wp2_with (first|((with_reducible refine gate_callee (f:=25) rfl ?_);refine goesL_ (some 11) rfl rfl Try.func25 (by kernel_rfl) rfl #[.agg #[.int .i64 a0_0,.slice A0_1 l0_1.length c0_1]] rfl (by (try simp only [List.map_toArray,List.map_cons,List.map_nil]);first|done|rfl|(simp only [List.length_drop,List.length_take];rfl)) ?_;(with_reducible refine (impl_LayoutOk.calls a0_0 _ _ l0_1 t615 _ ?side1 ?side2 A5.out).mono ?_);(case side1=>repeat (first|exact (Kd.C_below HR0_1.out HB.out)|(with_reducible refine Kd.C_alloc ?_ _)|(with_reducible refine Kd.C_drewN ?_ _)|(with_reducible refine Kd.C_drew ?_)));(case side2=>exact HC0_1.out);rintro e w8 ⟨rfl,hb⟩;refine ⟨_,rfl,?_⟩;have n0_:=Aside0.mk (blk_below (g:=gb614) (o:=.cells #[.int .i64 a0_0,.slice A0_1 l0_1.length c0_1] 30 (0,0)) (by exact BK614.out) hb);have n1_:=Aside0.mk (below_step (by exact HB.out) hb);clear BK614;clear HB;have BK614:=n0_;have HB:=n1_;clear n0_ n1_;(try clear hb);(try clear hb2);(try clear hk);(try clear hi)))
   go_meet
   case rel=>exact ⟨_,(decide ((l1.length:Int) > 2000)),(by first|rfl|(simp;done)|(simp [*];done)),H',⟨by first|omega|exact Nat.le_refl _⟩,⟨by exact BK614.out⟩,⟨by exact HB.out⟩⟩
  rw [if_neg c6] at H
  have c6b0:(t615==0)=false:=beq_eq_false_iff_ne.mpr c6
  have c6b1:(t615 != 0)=true:=bne_iff_ne.mpr c6
  (first|rw [c6b0]|(simp only [i64_w,i32_w];rw [c6b0])|skip)
  have H':=Aside0.mk H
  clear H
  have hcz9_0:w4.cell? ⟨gb614,0,none⟩=some (.int .i64 a0_0):=(blk_cell BK614.out 0).trans rfl
  have hcz9_1:w4.cell? ⟨gb614,1,none⟩=some (.slice A0_1 l0_1.length c0_1):=(blk_cell BK614.out 1).trans rfl
  have hfz9_0:=blk_frozen BK614.out 0
  have hfz9_1:=blk_frozen BK614.out 1
  go_wp2_with (first|((with_reducible refine gate_callee (f:=25) rfl ?_);refine goesL_ (some 11) rfl rfl Try.func25 (by kernel_rfl) rfl #[.agg #[.int .i64 a0_0,.slice A0_1 l0_1.length c0_1]] rfl (by (try simp only [List.map_toArray,List.map_cons,List.map_nil]);first|done|rfl|(simp only [List.length_drop,List.length_take];rfl)) ?_;(with_reducible refine (impl_LayoutOk.calls a0_0 _ _ l0_1 t615 _ ?side1 ?side2 A5.out).mono ?_);(case side1=>repeat (first|exact (Kd.C_below HR0_1.out HB.out)|(with_reducible refine Kd.C_alloc ?_ _)|(with_reducible refine Kd.C_drewN ?_ _)|(with_reducible refine Kd.C_drew ?_)));(case side2=>exact HC0_1.out);rintro e w10 ⟨rfl,hb⟩;refine ⟨_,rfl,?_⟩;have n0_:=Aside0.mk (blk_below (g:=gb614) (o:=.cells #[.int .i64 a0_0,.slice A0_1 l0_1.length c0_1] 30 (0,0)) (by exact BK614.out) hb);have n1_:=Aside0.mk (below_step (by exact HB.out) hb);clear BK614;clear HB;have BK614:=n0_;have HB:=n1_;clear n0_ n1_;(try clear hb);(try clear hb2);(try clear hk);(try clear hi)))
  go_meet
  case rel=>exact ⟨_,(true),(by first|rfl|(simp;done)|(simp [*];done)),H',⟨by first|omega|exact Nat.le_refl _⟩,⟨by exact BK614.out⟩,⟨by exact HB.out⟩⟩
 case rest =>
  clear HC3
  try clear c1
  try clear c2
  try clear p2
  try clear c5
  try clear c6
  try clear c6b0
  try clear c6b1
  try clear hcz7_0
  try clear hcz7_1
  try clear hcz9_0
  try clear hcz9_1
  try clear hfz7_0
  try clear hfz7_1
  try clear hfz9_0
  try clear hfz9_1
  obtain ⟨kq,x17_2,rfl,HA,HJ2,BK614,HB⟩:=hcut
  cases kq with
  | zero=>exact absurd HA.out (by simp [impl_Truth.j0])
  | succ kj2 =>
   have H:=HA.out
   clear HA
   simp only [impl_Truth.j0] at H
   by_cases c11:x17_2=true
   ·subst c11
    have H1:(some ([]:List (List Int)))=some r:=by rw [if_pos rfl] at H;exact H
    clear H
    have H:=H1
    clear H1
    obtain rfl:=Option.some.inj H
    go_wp2
    go_ret
    exact ⟨_,by first|rfl|(simp [errW_none,errW_some] <;> rfl)|(simp [*,errW_none,errW_some] <;> rfl),by first|exact Kd.S_nil _ _ _ _ _|exact Kd.N_nil _ _ _ _ _|exact Kd.V_nil _ _ _ _ _|exact Kd.Q_nil _ _ _ _ _|exact Kd.R_nil _ _ _ _ _,by exact HB.out⟩
   replace c11:=Bool.eq_false_iff.mpr c11
   subst c11
   have H1:(if 0≤a0_0 then (if (a0_0:Int).toNat≤35184372088832 then (impl_Truth.l0 kj2 (List.replicate (a0_0:Int).toNat 0) ([]:List (List Int)) l1 (l1.length:Int) 0 a0_0 l0_1) else (none)) else (none))=some r:=by rw [if_neg (show ¬ (false=true) by decide)] at H;exact H
   clear H
   have H:=H1
   clear H1
   by_cases c12:0≤a0_0
   ·rw [if_pos c12] at H
    have c12b0:=eq_true c12
    have c12b1:decide (0≤a0_0)=true:=decide_eq_true c12
    clear c12
    by_cases c13:(a0_0:Int).toNat≤35184372088832
    ·rw [if_pos c13] at H
     have c13b0:=eq_true c13
     have c13b1:decide ((a0_0:Int).toNat≤35184372088832)=true:=decide_eq_true c13
     clear c13
     obtain ⟨y616,hy616⟩:∃ y_:List Int,y_=(List.replicate (a0_0:Int).toNat 0):=⟨_,rfl⟩
     replace H:(impl_Truth.l0 kj2 y616 ([]:List (List Int)) l1 (l1.length:Int) 0 a0_0 l0_1)=some r:=by first|(rw [hy616];with_reducible exact H)|(have H2_:=(Option.bind_some _ _).symm.trans H;rw [hy616];with_reducible exact H2_)|(have H2_:=(Option.bind_some _ _).symm.trans H;with_reducible exact H2_)|with_reducible exact H|(rw [hy616];exact H)|exact H
     have Ny616:=Aside0.mk hy616
     clear hy616
     have H':=Aside0.mk H
     clear H
     have hcz14_0:wc.cell? ⟨gb614,0,none⟩=some (.int .i64 a0_0):=(blk_cell BK614.out 0).trans rfl
     have hcz14_1:wc.cell? ⟨gb614,1,none⟩=some (.slice A0_1 l0_1.length c0_1):=(blk_cell BK614.out 1).trans rfl
     have hfz14_0:=blk_frozen BK614.out 0
     have hfz14_1:=blk_frozen BK614.out 1
     go_wp2_with (first|((with_reducible refine gate_dst (N:=20) rfl ?_);(try (refine gate_guard (by rfl) ?_;dsimp only));refine Kd.R_make (Kd.int .i64) _ 3 rfl (N:=20) rfl 59 _ _ rfl a0_0 rfl rfl Try.underlying59 (.int .i64 0) 8 info3 rfl (by decide) (by omega) 0 (ok:=fun _=>True) (okp:=fun _=>True) rfl (fun _ hk=>hk) trivial (of_decide_eq_true (by first|(with_reducible assumption)|assumption)) (Nat.le_trans (Nat.mul_le_mul_right _ (of_decide_eq_true (by first|(with_reducible assumption)|assumption):a0_0.toNat≤35184372088832)) (by omega)) (Below.refl _ _) (Nat.le_refl _) ?_;intro v617 w15 ho16 hb hg_ hnew_;clear hg_ hnew_;(first|rw [← Ny616.out] at ho16|(simp only [Int.reduceToNat] at ho16;rw [← Ny616.out] at ho16));have n0_:=Aside0.mk (Kd.R_lower ho16 (below_size (by repeat (first|(with_reducible first|exact HB.out|apply below_alloc|apply pw_below_drewN|apply below_drew1|refine below_set ?_ GE614.out)|exact HB.out))));have n1_:=Aside0.mk (blk_below (g:=gb614) (o:=.cells #[.int .i64 a0_0,.slice A0_1 l0_1.length c0_1] 30 (0,0)) (by (with_reducible repeat (first|refine blk_drewN ?_ _|refine blk_drew ?_|refine blk_alloc ?_ _));exact BK614.out) hb);have n2_:=Aside0.mk (below_step (by repeat (first|(with_reducible first|exact HB.out|apply below_alloc|apply pw_below_drewN|apply below_drew1|refine below_set ?_ GE614.out)|exact HB.out)) hb);clear BK614;clear HB;have HO618:=n0_;have BK614:=n1_;have HB:=n2_;clear n0_ n1_ n2_;clear hb ho16))
     go_loopg [6,23] kj2 (fun kq v6 v23 w'=>∃ (x5_2:List Int) (x6_2:List (List Int)) (x23_2:Int),v23=.int .i64 x23_2∧Aside0 (impl_Truth.l0 kq x5_2 x6_2 l1 (l1.length:Int) x23_2 a0_0 l0_1=some r)∧Aside0 (kq≤kj2)∧Aside0 (Kd.R (Kd.int .i64) 3 w' w.heap.size (fun _=>True) v617 x5_2)∧Aside0 (Kd.S (Kd.slice 3 (Kd.int .i64)) 59 w' w.heap.size (fun k_=>some k_ ≠ (v617:Value).ownBlock) v6 x6_2)∧Aside0 (w'.heap[gb614]?=some (.cells #[.int .i64 a0_0,(.slice A0_1 l0_1.length c0_1)] 30 (0,0)))∧Aside0 (Below w.heap.size w w'))
     case atStart=>exact ⟨(y616),(([]:List (List Int))),(0),(by first|rfl|(simp;done)|(simp [*];done)),H',⟨Nat.le_refl _⟩,⟨by (with_reducible repeat (first|apply Kd.R_alloc|apply Kd.R_drewN|apply Kd.R_drew));exact HO618.out⟩,⟨by first|exact Kd.S_nil _ _ _ _ _|exact Kd.N_nil _ _ _ _ _|exact Kd.V_nil _ _ _ _ _|exact Kd.Q_nil _ _ _ _ _|exact Kd.R_nil _ _ _ _ _⟩,⟨by (with_reducible repeat (first|refine blk_drewN ?_ _|refine blk_drew ?_|refine blk_alloc ?_ _));exact BK614.out⟩,⟨by repeat (first|(with_reducible first|exact HB.out|apply below_alloc|apply pw_below_drewN|apply below_drew1|refine below_set ?_ GE614.out)|exact HB.out)⟩⟩
     case round =>
      clear H'
      try clear c1
      try clear c2
      try clear p2
      try clear c5
      try clear c6
      try clear c6b0
      try clear c6b1
      try clear c11
      try clear c12
      try clear c12b0
      try clear c12b1
      try clear c13
      try clear c13b0
      try clear c13b1
      try clear hcz14_0
      try clear hcz14_1
      try clear hcz7_0
      try clear hcz7_1
      try clear hcz9_0
      try clear hcz9_1
      try clear hfz14_0
      try clear hfz14_1
      try clear hfz7_0
      try clear hfz7_1
      try clear hfz9_0
      try clear hfz9_1
      try clear p2
      obtain ⟨x5_2,x6_2,x23_2,rfl,HA,HK2,HO_5,HO_6,BK614,HB⟩:=hrel
      cases gk with
      | zero=>exact absurd HA.out (by simp [impl_Truth.l0])
      | succ k2 =>
       have H:=HA.out
       clear HA
       simp only [impl_Truth.l0] at H
       by_cases c17:x23_2<(l1.length:Int)
       ·rw [if_pos c17] at H
        have c17b0:decide (x23_2<(l1.length:Int))=true:=decide_eq_true c17
        clear c17
        by_cases c18:0≤x23_2
        ·rw [if_pos c18] at H
         have c18b0:decide (0≤x23_2)=true:=decide_eq_true c18
         clear c18
         by_cases c19:x23_2<(l1.length:Int)
         ·rw [if_pos c19] at H
          have c19b0:decide (x23_2<(l1.length:Int))=true:=decide_eq_true c19
          clear c19
          have HC20:=Aside0.mk H
          clear H
          have p619:0≤(x23_2:Int):=of_decide_eq_true (by first|(with_reducible assumption)|assumption)
          have q619:x23_2<(l1.length:Int):=of_decide_eq_true (by first|(with_reducible assumption)|assumption)
          obtain ⟨ad619,e619,hx619_0,hx619_1,hx619_2⟩:=at_T56 HR1.out x23_2 p619 q619
          cases e619
          replace hx619_0:=(HB.out.cell (World.block_lt_of_cell? w _ hx619_0)).trans hx619_0
          replace hx619_1:=(HB.out.cell (World.block_lt_of_cell? w _ hx619_1)).trans hx619_1
          replace hx619_2:=(HB.out.cell (World.block_lt_of_cell? w _ hx619_2)).trans hx619_2
          replace p619:=eq_true p619
          replace q619:=eq_true q619
          go_upto_region 8 with (first|((with_reducible refine gate_dst (N:=8) rfl ?_);(try (refine gate_guard (by rfl) ?_;dsimp only));refine box_event ?hg (N:=8) ?hd (cs:=#[.int .i64 0,.int .i64 0,.int .i64 0]) (t:=56) ?hr ?_;(case hd=>rfl);(case hg=>rfl);(case hr=>first|(go_simp;done)|(go_simp;rfl));intro gb620 hg w21 hbox hb;have n0_:=Aside0.mk (Kd.R_below (by (with_reducible repeat (first|apply Kd.R_alloc|apply Kd.R_drewN|apply Kd.R_drew));exact HO_5.out) hb);have n1_:=Aside0.mk (Kd.S_below (by (with_reducible repeat (first|apply Kd.S_alloc|apply Kd.S_drewN|apply Kd.S_drew));exact HO_6.out) hb);have n2_:=Aside0.mk (blk_below (g:=gb614) (o:=.cells #[.int .i64 a0_0,.slice A0_1 l0_1.length c0_1] 30 (0,0)) (by (with_reducible repeat (first|refine blk_drewN ?_ _|refine blk_drew ?_|refine blk_alloc ?_ _));exact BK614.out) hb);have n3_:=Aside0.mk (below_step (by repeat (first|(with_reducible first|exact HB.out|apply below_alloc|apply pw_below_drewN|apply below_drew1|refine below_set ?_ GE614.out)|exact HB.out)) hb);have n4_:=Aside0.mk (hbox);have n5_:=Aside0.mk ((by rw [hg];exact (below_size (by repeat (first|(with_reducible first|exact HB.out|apply below_alloc|apply pw_below_drewN|apply below_drew1|refine below_set ?_ GE614.out)|exact HB.out))):w.heap.size≤gb620));have n6_:=Aside0.mk ((by rw [hg];exact (below_size (by repeat (first|(with_reducible first|exact HB.out|apply below_alloc|apply pw_below_drewN|apply below_drew1|refine below_set ?_ GE614.out)|exact HB.out))):w.heap.size≤gb620));have n7_:=Aside0.mk ((by rw [hg];exact Nat.ne_of_lt (blk_lt (g:=gb614) (o:=.cells #[.int .i64 a0_0,.slice A0_1 l0_1.length c0_1] 30 (0,0)) (by (with_reducible repeat (first|refine blk_drewN ?_ _|refine blk_drew ?_|refine blk_alloc ?_ _));exact BK614.out)):gb614 ≠ gb620));have n8_:=Aside0.mk ((by rw [hg];exact Nat.ne_of_gt (blk_lt (g:=gb614) (o:=.cells #[.int .i64 a0_0,.slice A0_1 l0_1.length c0_1] 30 (0,0)) (by (with_reducible repeat (first|refine blk_drewN ?_ _|refine blk_drew ?_|refine blk_alloc ?_ _));exact BK614.out)):gb620 ≠ gb614));clear HO_5;clear HO_6;clear BK614;clear HB;have HO_5:=n0_;have HO_6:=n1_;have BK614:=n2_;have HB:=n3_;have BK620:=n4_;have GW620:=n5_;have GE620:=n6_;have NB614_620:=n7_;have NB620_614:=n8_;clear n0_ n1_ n2_ n3_ n4_ n5_ n6_ n7_ n8_;clear hb hbox hg;have hnb22:=NB620_614.out;have hnc22:=NB614_620.out;have hcz23_0:w21.cell? ⟨gb620,0,none⟩=some (.int .i64 0):=(blk_cell BK620.out 0).trans rfl;have hcz23_1:w21.cell? ⟨gb620,1,none⟩=some (.int .i64 0):=(blk_cell BK620.out 1).trans rfl;have hcz23_2:w21.cell? ⟨gb620,2,none⟩=some (.int .i64 0):=(blk_cell BK620.out 2).trans rfl;have hfz23_0:=blk_frozen BK620.out 0;have hfz23_1:=blk_frozen BK620.out 1;have hfz23_2:=blk_frozen BK620.out 2))
          (try simp only [Act.put,List.setIfInBounds_toArray,List.set_cons_zero,List.set_cons_succ])
          go_cut [34] (fun v34 wc=>∃ (kq:Nat) (x34_19:Bool),v34=.bool x34_19∧Aside0 (impl_Truth.j2 kq x5_2 x6_2 l1 (l1.length:Int) x23_2 x34_19 a0_0 l0_1 ((rd_T56 l1 x23_2).f0) ((rd_T56 l1 x23_2).f1) ((rd_T56 l1 x23_2).f2)=some r)∧Aside0 (kq≤k2)∧Aside0 (Kd.R (Kd.int .i64) 3 wc w.heap.size (fun _=>True) v617 x5_2)∧Aside0 (Kd.S (Kd.slice 3 (Kd.int .i64)) 59 wc w.heap.size (fun k_=>some k_ ≠ (v617:Value).ownBlock) u6 x6_2)∧Aside0 (wc.heap[gb614]?=some (.cells #[.int .i64 a0_0,(.slice A0_1 l0_1.length c0_1)] 30 (0,0)))∧Aside0 (wc.heap[gb620]?=some (.cells #[.int .i64 ((rd_T56 l1 x23_2).f0),.int .i64 ((rd_T56 l1 x23_2).f1),.int .i64 ((rd_T56 l1 x23_2).f2)] 56 (0,0)))∧Aside0 (Below w.heap.size w wc))
          case first =>
           have H:=HC20.out
           clear HC20
           replace H:=Option.bind_eq_some_iff.mp H
           obtain ⟨t621,A240,H⟩:=H
           replace H:(if t621=true then (impl_Truth.j2 k2 x5_2 x6_2 l1 (l1.length:Int) x23_2 (((rd_T56 l1 x23_2).f0)==1) a0_0 l0_1 ((rd_T56 l1 x23_2).f0) ((rd_T56 l1 x23_2).f1) ((rd_T56 l1 x23_2).f2)) else (impl_Truth.j2 k2 x5_2 x6_2 l1 (l1.length:Int) x23_2 false a0_0 l0_1 ((rd_T56 l1 x23_2).f0) ((rd_T56 l1 x23_2).f1) ((rd_T56 l1 x23_2).f2)))=some r:=H
           have A24:=Aside0.mk A240
           clear A240
           by_cases c25:t621=true
           ·subst c25
            have H1:(impl_Truth.j2 k2 x5_2 x6_2 l1 (l1.length:Int) x23_2 (((rd_T56 l1 x23_2).f0)==1) a0_0 l0_1 ((rd_T56 l1 x23_2).f0) ((rd_T56 l1 x23_2).f1) ((rd_T56 l1 x23_2).f2))=some r:=by rw [if_pos rfl] at H;exact H
            clear H
            have H:=H1
            clear H1
            have H':=Aside0.mk H
            clear H
            have hnb26:=NB614_620.out
            have hnc26:=NB620_614.out
            have hcz27_0:w21.cell? ⟨gb614,0,none⟩=some (.int .i64 a0_0):=(blk_cell BK614.out 0).trans rfl
            have hcz27_1:w21.cell? ⟨gb614,1,none⟩=some (.slice A0_1 l0_1.length c0_1):=(blk_cell BK614.out 1).trans rfl
            have hfz27_0:=blk_frozen BK614.out 0
            have hfz27_1:=blk_frozen BK614.out 1
            have hcz28_0:w21.cell? ⟨gb620,0,none⟩=some (.int .i64 0):=(blk_cell BK620.out 0).trans rfl
            have hcz28_1:w21.cell? ⟨gb620,1,none⟩=some (.int .i64 0):=(blk_cell BK620.out 1).trans rfl
            have hcz28_2:w21.cell? ⟨gb620,2,none⟩=some (.int .i64 0):=(blk_cell BK620.out 2).trans rfl
            have hfz28_0:=blk_frozen BK620.out 0
            have hfz28_1:=blk_frozen BK620.out 1
            have hfz28_2:=blk_frozen BK620.out 2
            go_wp2_with (first|((with_reducible refine gate_callee (f:=36) rfl ?_);refine goesL_ (some 29) rfl rfl Try.func36 (by kernel_rfl) rfl #[.agg #[.int .i64 a0_0,.slice A0_1 l0_1.length c0_1],.agg #[.int .i64 ((rd_T56 l1 x23_2).f0),.int .i64 ((rd_T56 l1 x23_2).f1),.int .i64 ((rd_T56 l1 x23_2).f2)]] rfl (by (try simp only [List.map_toArray,List.map_cons,List.map_nil]);first|done|rfl|(simp only [List.length_drop,List.length_take];rfl)) ?_;(with_reducible refine (impl_EventOk.calls k2 a0_0 _ _ l0_1 ((rd_T56 l1 x23_2).f0) ((rd_T56 l1 x23_2).f1) ((rd_T56 l1 x23_2).f2) true _ ?side1 ?side2 A24.out).mono ?_);(case side1=>exact Kd.C_below HR0_1.out (by repeat (first|(with_reducible first|exact HB.out|apply below_alloc|apply pw_below_drewN|apply below_drew1|refine below_set ?_ GE614.out|refine below_set ?_ GE620.out)|exact HB.out)));(case side2=>exact HC0_1.out);rintro e w29 ⟨rfl,hb⟩;refine ⟨_,rfl,?_⟩;have n0_:=Aside0.mk (Kd.R_below (by (with_reducible repeat (first|apply Kd.R_alloc|apply Kd.R_drewN|apply Kd.R_drew));exact (Kd.R_mono (Kd.R_far (p:=⟨gb620,2,none⟩) (Kd.R_far (p:=⟨gb620,1,none⟩) (Kd.R_far (p:=⟨gb620,0,none⟩) (Kd.R_types HO_5.out BK620.out (by decide)) (fun _ hk=>hk.2) (.int .i64 ((rd_T56 l1 x23_2).f0))) (fun _ hk=>hk.2) (.int .i64 ((rd_T56 l1 x23_2).f1))) (fun _ hk=>hk.2) (.int .i64 ((rd_T56 l1 x23_2).f2))) (fun _ h_=>h_.1))) hb);have n1_:=Aside0.mk (Kd.S_below (by (with_reducible repeat (first|apply Kd.S_alloc|apply Kd.S_drewN|apply Kd.S_drew));exact (Kd.S_mono (Kd.S_far (p:=⟨gb620,2,none⟩) (Kd.S_far (p:=⟨gb620,1,none⟩) (Kd.S_far (p:=⟨gb620,0,none⟩) (Kd.S_types HO_6.out BK620.out (by decide)) (fun _ hk=>hk.2) (.int .i64 ((rd_T56 l1 x23_2).f0))) (fun _ hk=>hk.2) (.int .i64 ((rd_T56 l1 x23_2).f1))) (fun _ hk=>hk.2) (.int .i64 ((rd_T56 l1 x23_2).f2))) (fun _ h_=>h_.1))) hb);have n2_:=Aside0.mk (blk_below (g:=gb614) (o:=.cells #[.int .i64 a0_0,.slice A0_1 l0_1.length c0_1] 30 (0,0)) (by (with_reducible repeat (first|refine blk_drewN ?_ _|refine blk_drew ?_|refine blk_alloc ?_ _));refine blk_far ?_ NB614_620.out _;(with_reducible repeat (first|refine blk_drewN ?_ _|refine blk_drew ?_|refine blk_alloc ?_ _));refine blk_far ?_ NB614_620.out _;(with_reducible repeat (first|refine blk_drewN ?_ _|refine blk_drew ?_|refine blk_alloc ?_ _));refine blk_far ?_ NB614_620.out _;(with_reducible repeat (first|refine blk_drewN ?_ _|refine blk_drew ?_|refine blk_alloc ?_ _));exact BK614.out) hb);have n3_:=Aside0.mk (blk_below (g:=gb620) (o:=.cells #[.int .i64 ((rd_T56 l1 x23_2).f0),.int .i64 ((rd_T56 l1 x23_2).f1),.int .i64 ((rd_T56 l1 x23_2).f2)] 56 (0,0)) (by (with_reducible repeat (first|refine blk_drewN ?_ _|refine blk_drew ?_|refine blk_alloc ?_ _));refine blk_put (cs:=#[.int .i64 ((rd_T56 l1 x23_2).f0),.int .i64 ((rd_T56 l1 x23_2).f1),.int .i64 0]) ?_ 2 _ rfl;(with_reducible repeat (first|refine blk_drewN ?_ _|refine blk_drew ?_|refine blk_alloc ?_ _));refine blk_put (cs:=#[.int .i64 ((rd_T56 l1 x23_2).f0),.int .i64 0,.int .i64 0]) ?_ 1 _ rfl;(with_reducible repeat (first|refine blk_drewN ?_ _|refine blk_drew ?_|refine blk_alloc ?_ _));refine blk_put (cs:=#[.int .i64 0,.int .i64 0,.int .i64 0]) ?_ 0 _ rfl;(with_reducible repeat (first|refine blk_drewN ?_ _|refine blk_drew ?_|refine blk_alloc ?_ _));exact BK620.out) hb);have n4_:=Aside0.mk (below_step (by repeat (first|(with_reducible first|exact HB.out|apply below_alloc|apply pw_below_drewN|apply below_drew1|refine below_set ?_ GE614.out|refine below_set ?_ GE620.out)|exact HB.out)) hb);clear HO_5;clear HO_6;clear BK614;clear BK620;clear HB;have HO_5:=n0_;have HO_6:=n1_;have BK614:=n2_;have BK620:=n3_;have HB:=n4_;clear n0_ n1_ n2_ n3_ n4_;(try clear hb);(try clear hb2);(try clear hk);(try clear hi);have hcz30_0:w29.cell? ⟨gb620,0,none⟩=some (.int .i64 ((rd_T56 l1 x23_2).f0)):=(blk_cell BK620.out 0).trans rfl;have hcz30_1:w29.cell? ⟨gb620,1,none⟩=some (.int .i64 ((rd_T56 l1 x23_2).f1)):=(blk_cell BK620.out 1).trans rfl;have hcz30_2:w29.cell? ⟨gb620,2,none⟩=some (.int .i64 ((rd_T56 l1 x23_2).f2)):=(blk_cell BK620.out 2).trans rfl;have hfz30_0:=blk_frozen BK620.out 0;have hfz30_1:=blk_frozen BK620.out 1;have hfz30_2:=blk_frozen BK620.out 2))
            go_meet
            case rel=>exact ⟨_,((((rd_T56 l1 x23_2).f0)==1)),(by first|rfl|(simp;done)|(simp [*];done)),H',⟨by have:=HJ2.out;have:=HK2.out;first|omega|exact Nat.le_refl _⟩,⟨by (with_reducible repeat (first|apply Kd.R_alloc|apply Kd.R_drewN|apply Kd.R_drew));exact HO_5.out⟩,⟨by (with_reducible repeat (first|apply Kd.S_alloc|apply Kd.S_drewN|apply Kd.S_drew));exact HO_6.out⟩,⟨by (with_reducible repeat (first|refine blk_drewN ?_ _|refine blk_drew ?_|refine blk_alloc ?_ _));exact BK614.out⟩,⟨by (with_reducible repeat (first|refine blk_drewN ?_ _|refine blk_drew ?_|refine blk_alloc ?_ _));exact BK620.out⟩,⟨by repeat (first|(with_reducible first|exact HB.out|apply below_alloc|apply pw_below_drewN|apply below_drew1|refine below_set ?_ GE614.out|refine below_set ?_ GE620.out)|exact HB.out)⟩⟩
           replace c25:=Bool.eq_false_iff.mpr c25
           subst c25
           have H1:(impl_Truth.j2 k2 x5_2 x6_2 l1 (l1.length:Int) x23_2 false a0_0 l0_1 ((rd_T56 l1 x23_2).f0) ((rd_T56 l1 x23_2).f1) ((rd_T56 l1 x23_2).f2))=some r:=by rw [if_neg (show ¬ (false=true) by decide)] at H;exact H
           clear H
           have H:=H1
           clear H1
           have H':=Aside0.mk H
           clear H
           have hnb31:=NB614_620.out
           have hnc31:=NB620_614.out
           have hcz32_0:w21.cell? ⟨gb614,0,none⟩=some (.int .i64 a0_0):=(blk_cell BK614.out 0).trans rfl
           have hcz32_1:w21.cell? ⟨gb614,1,none⟩=some (.slice A0_1 l0_1.length c0_1):=(blk_cell BK614.out 1).trans rfl
           have hfz32_0:=blk_frozen BK614.out 0
           have hfz32_1:=blk_frozen BK614.out 1
           have hcz33_0:w21.cell? ⟨gb620,0,none⟩=some (.int .i64 0):=(blk_cell BK620.out 0).trans rfl
           have hcz33_1:w21.cell? ⟨gb620,1,none⟩=some (.int .i64 0):=(blk_cell BK620.out 1).trans rfl
           have hcz33_2:w21.cell? ⟨gb620,2,none⟩=some (.int .i64 0):=(blk_cell BK620.out 2).trans rfl
           have hfz33_0:=blk_frozen BK620.out 0
           have hfz33_1:=blk_frozen BK620.out 1
           have hfz33_2:=blk_frozen BK620.out 2
           go_wp2_with (first|((with_reducible refine gate_callee (f:=36) rfl ?_);refine goesL_ (some 29) rfl rfl Try.func36 (by kernel_rfl) rfl #[.agg #[.int .i64 a0_0,.slice A0_1 l0_1.length c0_1],.agg #[.int .i64 ((rd_T56 l1 x23_2).f0),.int .i64 ((rd_T56 l1 x23_2).f1),.int .i64 ((rd_T56 l1 x23_2).f2)]] rfl (by (try simp only [List.map_toArray,List.map_cons,List.map_nil]);first|done|rfl|(simp only [List.length_drop,List.length_take];rfl)) ?_;(with_reducible refine (impl_EventOk.calls k2 a0_0 _ _ l0_1 ((rd_T56 l1 x23_2).f0) ((rd_T56 l1 x23_2).f1) ((rd_T56 l1 x23_2).f2) false _ ?side1 ?side2 A24.out).mono ?_);(case side1=>exact Kd.C_below HR0_1.out (by repeat (first|(with_reducible first|exact HB.out|apply below_alloc|apply pw_below_drewN|apply below_drew1|refine below_set ?_ GE614.out|refine below_set ?_ GE620.out)|exact HB.out)));(case side2=>exact HC0_1.out);rintro e w34 ⟨rfl,hb⟩;refine ⟨_,rfl,?_⟩;have n0_:=Aside0.mk (Kd.R_below (by (with_reducible repeat (first|apply Kd.R_alloc|apply Kd.R_drewN|apply Kd.R_drew));exact (Kd.R_mono (Kd.R_far (p:=⟨gb620,2,none⟩) (Kd.R_far (p:=⟨gb620,1,none⟩) (Kd.R_far (p:=⟨gb620,0,none⟩) (Kd.R_types HO_5.out BK620.out (by decide)) (fun _ hk=>hk.2) (.int .i64 ((rd_T56 l1 x23_2).f0))) (fun _ hk=>hk.2) (.int .i64 ((rd_T56 l1 x23_2).f1))) (fun _ hk=>hk.2) (.int .i64 ((rd_T56 l1 x23_2).f2))) (fun _ h_=>h_.1))) hb);have n1_:=Aside0.mk (Kd.S_below (by (with_reducible repeat (first|apply Kd.S_alloc|apply Kd.S_drewN|apply Kd.S_drew));exact (Kd.S_mono (Kd.S_far (p:=⟨gb620,2,none⟩) (Kd.S_far (p:=⟨gb620,1,none⟩) (Kd.S_far (p:=⟨gb620,0,none⟩) (Kd.S_types HO_6.out BK620.out (by decide)) (fun _ hk=>hk.2) (.int .i64 ((rd_T56 l1 x23_2).f0))) (fun _ hk=>hk.2) (.int .i64 ((rd_T56 l1 x23_2).f1))) (fun _ hk=>hk.2) (.int .i64 ((rd_T56 l1 x23_2).f2))) (fun _ h_=>h_.1))) hb);have n2_:=Aside0.mk (blk_below (g:=gb614) (o:=.cells #[.int .i64 a0_0,.slice A0_1 l0_1.length c0_1] 30 (0,0)) (by (with_reducible repeat (first|refine blk_drewN ?_ _|refine blk_drew ?_|refine blk_alloc ?_ _));refine blk_far ?_ NB614_620.out _;(with_reducible repeat (first|refine blk_drewN ?_ _|refine blk_drew ?_|refine blk_alloc ?_ _));refine blk_far ?_ NB614_620.out _;(with_reducible repeat (first|refine blk_drewN ?_ _|refine blk_drew ?_|refine blk_alloc ?_ _));refine blk_far ?_ NB614_620.out _;(with_reducible repeat (first|refine blk_drewN ?_ _|refine blk_drew ?_|refine blk_alloc ?_ _));exact BK614.out) hb);have n3_:=Aside0.mk (blk_below (g:=gb620) (o:=.cells #[.int .i64 ((rd_T56 l1 x23_2).f0),.int .i64 ((rd_T56 l1 x23_2).f1),.int .i64 ((rd_T56 l1 x23_2).f2)] 56 (0,0)) (by (with_reducible repeat (first|refine blk_drewN ?_ _|refine blk_drew ?_|refine blk_alloc ?_ _));refine blk_put (cs:=#[.int .i64 ((rd_T56 l1 x23_2).f0),.int .i64 ((rd_T56 l1 x23_2).f1),.int .i64 0]) ?_ 2 _ rfl;(with_reducible repeat (first|refine blk_drewN ?_ _|refine blk_drew ?_|refine blk_alloc ?_ _));refine blk_put (cs:=#[.int .i64 ((rd_T56 l1 x23_2).f0),.int .i64 0,.int .i64 0]) ?_ 1 _ rfl;(with_reducible repeat (first|refine blk_drewN ?_ _|refine blk_drew ?_|refine blk_alloc ?_ _));refine blk_put (cs:=#[.int .i64 0,.int .i64 0,.int .i64 0]) ?_ 0 _ rfl;(with_reducible repeat (first|refine blk_drewN ?_ _|refine blk_drew ?_|refine blk_alloc ?_ _));exact BK620.out) hb);have n4_:=Aside0.mk (below_step (by repeat (first|(with_reducible first|exact HB.out|apply below_alloc|apply pw_below_drewN|apply below_drew1|refine below_set ?_ GE614.out|refine below_set ?_ GE620.out)|exact HB.out)) hb);clear HO_5;clear HO_6;clear BK614;clear BK620;clear HB;have HO_5:=n0_;have HO_6:=n1_;have BK614:=n2_;have BK620:=n3_;have HB:=n4_;clear n0_ n1_ n2_ n3_ n4_;(try clear hb);(try clear hb2);(try clear hk);(try clear hi)))
           go_meet
           case rel=>exact ⟨_,(false),(by first|rfl|(simp;done)|(simp [*];done)),H',⟨by have:=HJ2.out;have:=HK2.out;first|omega|exact Nat.le_refl _⟩,⟨by exact HO_5.out⟩,⟨by exact HO_6.out⟩,⟨by exact BK614.out⟩,⟨by exact BK620.out⟩,⟨by exact HB.out⟩⟩
          case rest =>
           clear HC20
           try clear c1
           try clear c2
           try clear p2
           try clear c3
           try clear c5
           try clear c6
           try clear c6b0
           try clear c6b1
           try clear p6
           try clear q6
           try clear hx6
           try clear c11
           try clear c12
           try clear c12b0
           try clear c12b1
           try clear c13
           try clear c13b0
           try clear c13b1
           try clear c17
           try clear c17b0
           try clear c18
           try clear c18b0
           try clear c19
           try clear c19b0
           try clear c22
           try clear c25
           try clear c26
           try clear c31
           try clear hcz14_0
           try clear hcz14_1
           try clear hcz23_0
           try clear hcz23_1
           try clear hcz23_2
           try clear hcz27_0
           try clear hcz27_1
           try clear hcz28_0
           try clear hcz28_1
           try clear hcz28_2
           try clear hcz30_0
           try clear hcz30_1
           try clear hcz30_2
           try clear hcz32_0
           try clear hcz32_1
           try clear hcz33_0
           try clear hcz33_1
           try clear hcz33_2
           try clear hcz7_0
           try clear hcz7_1
           try clear hcz9_0
           try clear hcz9_1
           try clear hfz14_0
           try clear hfz14_1
           try clear hfz23_0
           try clear hfz23_1
           try clear hfz23_2
           try clear hfz27_0
           try clear hfz27_1
           try clear hfz28_0
           try clear hfz28_1
           try clear hfz28_2
           try clear hfz30_0
           try clear hfz30_1
           try clear hfz30_2
           try clear hfz32_0
           try clear hfz32_1
           try clear hfz33_0
           try clear hfz33_1
           try clear hfz33_2
           try clear hfz7_0
           try clear hfz7_1
           try clear hfz9_0
           try clear hfz9_1
           try clear hx619_0
           try clear hx619_1
           try clear hx619_2
           try clear p2
           try clear p619
           try clear q619
           obtain ⟨kq,x34_19,rfl,HA,HJ19,HO_5,HO_6,BK614,BK620,HB⟩:=hcut
           cases kq with
           | zero=>exact absurd HA.out (by simp [impl_Truth.j2])
           | succ kj19 =>
            have H:=HA.out
            clear HA
            simp only [impl_Truth.j2] at H
            by_cases c35:x34_19=true
            ·subst c35
             have H1:(if 0≤((rd_T56 l1 x23_2).f1) then (if ((rd_T56 l1 x23_2).f1)<(l0_1.length:Int) then (if ((rd_T88 l0_1 ((rd_T56 l1 x23_2).f1)).f0) ≥ 0 then (if 0≤((rd_T88 l0_1 ((rd_T56 l1 x23_2).f1)).f0) then (if ((rd_T88 l0_1 ((rd_T56 l1 x23_2).f1)).f0)<(x5_2.length:Int) then ((some (x5_2.set (((rd_T88 l0_1 ((rd_T56 l1 x23_2).f1)).f0):Int).toNat (wrap64 ((rd x5_2 ((rd_T88 l0_1 ((rd_T56 l1 x23_2).f1)).f0)) - ((rd_T56 l1 x23_2).f2))):List Int)).bind fun y625=>(if ((rd_T88 l0_1 ((rd_T56 l1 x23_2).f1)).f1) ≥ 0 then (if 0≤((rd_T88 l0_1 ((rd_T56 l1 x23_2).f1)).f1) then (if ((rd_T88 l0_1 ((rd_T56 l1 x23_2).f1)).f1)<(x5_2.length:Int) then ((some (y625.set (((rd_T88 l0_1 ((rd_T56 l1 x23_2).f1)).f1):Int).toNat (wrap64 ((rd y625 ((rd_T88 l0_1 ((rd_T56 l1 x23_2).f1)).f1))+((rd_T56 l1 x23_2).f2))):List Int)).bind fun y627=>((slices_Clone_int_int.f y627).bind fun t628=>(if x6_2.length<5864062014805 then (impl_Truth.l0 kj19 y627 (x6_2 ++ [t628]) l1 (l1.length:Int) (wrap64 (x23_2+1)) a0_0 l0_1) else (none)))) else (none)) else (none)) else ((slices_Clone_int_int.f y625).bind fun t634=>(if x6_2.length<5864062014805 then (impl_Truth.l0 kj19 y625 (x6_2 ++ [t634]) l1 (l1.length:Int) (wrap64 (x23_2+1)) a0_0 l0_1) else (none))))) else (none)) else (none)) else (if ((rd_T88 l0_1 ((rd_T56 l1 x23_2).f1)).f1) ≥ 0 then (if 0≤((rd_T88 l0_1 ((rd_T56 l1 x23_2).f1)).f1) then (if ((rd_T88 l0_1 ((rd_T56 l1 x23_2).f1)).f1)<(x5_2.length:Int) then ((some (x5_2.set (((rd_T88 l0_1 ((rd_T56 l1 x23_2).f1)).f1):Int).toNat (wrap64 ((rd x5_2 ((rd_T88 l0_1 ((rd_T56 l1 x23_2).f1)).f1))+((rd_T56 l1 x23_2).f2))):List Int)).bind fun y641=>((slices_Clone_int_int.f y641).bind fun t642=>(if x6_2.length<5864062014805 then (impl_Truth.l0 kj19 y641 (x6_2 ++ [t642]) l1 (l1.length:Int) (wrap64 (x23_2+1)) a0_0 l0_1) else (none)))) else (none)) else (none)) else ((slices_Clone_int_int.f x5_2).bind fun t648=>(if x6_2.length<5864062014805 then (impl_Truth.l0 kj19 x5_2 (x6_2 ++ [t648]) l1 (l1.length:Int) (wrap64 (x23_2+1)) a0_0 l0_1) else (none))))) else (none)) else (none))=some r:=by rw [if_pos rfl] at H;exact H
             clear H
             have H:=H1
             clear H1
             by_cases c36:0≤((rd_T56 l1 x23_2).f1)
             ·rw [if_pos c36] at H
              have c36b0:decide (0≤((rd_T56 l1 x23_2).f1))=true:=decide_eq_true c36
              clear c36
              by_cases c37:((rd_T56 l1 x23_2).f1)<(l0_1.length:Int)
              ·rw [if_pos c37] at H
               have c37b0:decide (((rd_T56 l1 x23_2).f1)<(l0_1.length:Int))=true:=decide_eq_true c37
               clear c37
               by_cases c38:((rd_T88 l0_1 ((rd_T56 l1 x23_2).f1)).f0) ≥ 0
               ·rw [if_pos c38] at H
                have c38b0:decide (0≤((rd_T88 l0_1 ((rd_T56 l1 x23_2).f1)).f0))=true:=decide_eq_true c38
                clear c38
                by_cases c39:0≤((rd_T88 l0_1 ((rd_T56 l1 x23_2).f1)).f0)
                ·rw [if_pos c39] at H
                 have c39b0:decide (0≤((rd_T88 l0_1 ((rd_T56 l1 x23_2).f1)).f0))=true:=decide_eq_true c39
                 clear c39
                 by_cases c40:((rd_T88 l0_1 ((rd_T56 l1 x23_2).f1)).f0)<(x5_2.length:Int)
                 ·rw [if_pos c40] at H
                  have c40b0:decide (((rd_T88 l0_1 ((rd_T56 l1 x23_2).f1)).f0)<(x5_2.length:Int))=true:=decide_eq_true c40
                  clear c40
                  obtain ⟨y625,hy625⟩:∃ y_:List Int,y_=(x5_2.set (((rd_T88 l0_1 ((rd_T56 l1 x23_2).f1)).f0):Int).toNat (wrap64 ((rd x5_2 ((rd_T88 l0_1 ((rd_T56 l1 x23_2).f1)).f0)) - ((rd_T56 l1 x23_2).f2)))):=⟨_,rfl⟩
                  replace H:(if ((rd_T88 l0_1 ((rd_T56 l1 x23_2).f1)).f1) ≥ 0 then (if 0≤((rd_T88 l0_1 ((rd_T56 l1 x23_2).f1)).f1) then (if ((rd_T88 l0_1 ((rd_T56 l1 x23_2).f1)).f1)<(x5_2.length:Int) then ((some (y625.set (((rd_T88 l0_1 ((rd_T56 l1 x23_2).f1)).f1):Int).toNat (wrap64 ((rd y625 ((rd_T88 l0_1 ((rd_T56 l1 x23_2).f1)).f1))+((rd_T56 l1 x23_2).f2))):List Int)).bind fun y627=>((slices_Clone_int_int.f y627).bind fun t628=>(if x6_2.length<5864062014805 then (impl_Truth.l0 kj19 y627 (x6_2 ++ [t628]) l1 (l1.length:Int) (wrap64 (x23_2+1)) a0_0 l0_1) else (none)))) else (none)) else (none)) else ((slices_Clone_int_int.f y625).bind fun t634=>(if x6_2.length<5864062014805 then (impl_Truth.l0 kj19 y625 (x6_2 ++ [t634]) l1 (l1.length:Int) (wrap64 (x23_2+1)) a0_0 l0_1) else (none))))=some r:=by first|(rw [hy625];with_reducible exact H)|(have H2_:=(Option.bind_some _ _).symm.trans H;rw [hy625];with_reducible exact H2_)|(have H2_:=(Option.bind_some _ _).symm.trans H;with_reducible exact H2_)|with_reducible exact H|(rw [hy625];exact H)|exact H
                  have Ny625:=Aside0.mk hy625
                  clear hy625
                  by_cases c42:((rd_T88 l0_1 ((rd_T56 l1 x23_2).f1)).f1) ≥ 0
                  ·rw [if_pos c42] at H
                   have c42b0:decide (0≤((rd_T88 l0_1 ((rd_T56 l1 x23_2).f1)).f1))=true:=decide_eq_true c42
                   clear c42
                   by_cases c43:0≤((rd_T88 l0_1 ((rd_T56 l1 x23_2).f1)).f1)
                   ·rw [if_pos c43] at H
                    have c43b0:decide (0≤((rd_T88 l0_1 ((rd_T56 l1 x23_2).f1)).f1))=true:=decide_eq_true c43
                    clear c43
                    by_cases c44:((rd_T88 l0_1 ((rd_T56 l1 x23_2).f1)).f1)<(x5_2.length:Int)
                    ·rw [if_pos c44] at H
                     have c44b0:decide (((rd_T88 l0_1 ((rd_T56 l1 x23_2).f1)).f1)<(x5_2.length:Int))=true:=decide_eq_true c44
                     clear c44
                     obtain ⟨y627,hy627⟩:∃ y_:List Int,y_=(y625.set (((rd_T88 l0_1 ((rd_T56 l1 x23_2).f1)).f1):Int).toNat (wrap64 ((rd y625 ((rd_T88 l0_1 ((rd_T56 l1 x23_2).f1)).f1))+((rd_T56 l1 x23_2).f2)))):=⟨_,rfl⟩
                     replace H:((slices_Clone_int_int.f y627).bind fun t628=>(if x6_2.length<5864062014805 then (impl_Truth.l0 kj19 y627 (x6_2 ++ [t628]) l1 (l1.length:Int) (wrap64 (x23_2+1)) a0_0 l0_1) else (none)))=some r:=by first|(rw [hy627];with_reducible exact H)|(have H2_:=(Option.bind_some _ _).symm.trans H;rw [hy627];with_reducible exact H2_)|(have H2_:=(Option.bind_some _ _).symm.trans H;with_reducible exact H2_)|with_reducible exact H|(rw [hy627];exact H)|exact H
                     have Ny627:=Aside0.mk hy627
                     clear hy627
                     replace H:=Option.bind_eq_some_iff.mp H
                     obtain ⟨t628,A460,H⟩:=H
                     replace H:(if x6_2.length<5864062014805 then (impl_Truth.l0 kj19 y627 (x6_2 ++ [t628]) l1 (l1.length:Int) (wrap64 (x23_2+1)) a0_0 l0_1) else (none))=some r:=H
                     have A46:=Aside0.mk A460
                     clear A460
                     by_cases c47:x6_2.length<5864062014805
                     ·rw [if_pos c47] at H
                      have LMc47:=Aside0.mk c47
                      clear c47
                      obtain ⟨y631,hy631⟩:∃ y_:List (List Int),y_=(x6_2 ++ [t628]):=⟨_,rfl⟩
                      replace H:(impl_Truth.l0 kj19 y627 y631 l1 (l1.length:Int) (wrap64 (x23_2+1)) a0_0 l0_1)=some r:=by first|(rw [hy631];with_reducible exact H)|(have H2_:=(Option.bind_some _ _).symm.trans H;rw [hy631];with_reducible exact H2_)|(have H2_:=(Option.bind_some _ _).symm.trans H;with_reducible exact H2_)|with_reducible exact H|(rw [hy631];exact H)|exact H
                      have Ny631:=Aside0.mk hy631
                      clear hy631
                      have H':=Aside0.mk H
                      clear H
                      have hnb48:=NB614_620.out
                      have hnc48:=NB620_614.out
                      have hcz49_0:wc.cell? ⟨gb614,0,none⟩=some (.int .i64 a0_0):=(blk_cell BK614.out 0).trans rfl
                      have hcz49_1:wc.cell? ⟨gb614,1,none⟩=some (.slice A0_1 l0_1.length c0_1):=(blk_cell BK614.out 1).trans rfl
                      have hfz49_0:=blk_frozen BK614.out 0
                      have hfz49_1:=blk_frozen BK614.out 1
                      have hcz50_0:wc.cell? ⟨gb620,0,none⟩=some (.int .i64 ((rd_T56 l1 x23_2).f0)):=(blk_cell BK620.out 0).trans rfl
                      have hcz50_1:wc.cell? ⟨gb620,1,none⟩=some (.int .i64 ((rd_T56 l1 x23_2).f1)):=(blk_cell BK620.out 1).trans rfl
                      have hcz50_2:wc.cell? ⟨gb620,2,none⟩=some (.int .i64 ((rd_T56 l1 x23_2).f2)):=(blk_cell BK620.out 2).trans rfl
                      have hfz50_0:=blk_frozen BK620.out 0
                      have hfz50_1:=blk_frozen BK620.out 1
                      have hfz50_2:=blk_frozen BK620.out 2
                      have p622:0≤(((rd_T56 l1 x23_2).f1):Int):=of_decide_eq_true (by first|(with_reducible assumption)|assumption)
                      have q622:((rd_T56 l1 x23_2).f1)<(l0_1.length:Int):=of_decide_eq_true (by first|(with_reducible assumption)|assumption)
                      obtain ⟨ad622,e622,hx622_0,hx622_1⟩:=at_T88 HR0_1.out ((rd_T56 l1 x23_2).f1) p622 q622
                      cases e622
                      replace hx622_0:=(HB.out.cell (World.block_lt_of_cell? w _ hx622_0)).trans hx622_0
                      replace hx622_1:=(HB.out.cell (World.block_lt_of_cell? w _ hx622_1)).trans hx622_1
                      replace p622:=eq_true p622
                      replace q622:=eq_true q622
                      try go_wp2_with (first|((with_reducible refine gate_dst (N:=9) rfl ?_);(try (refine gate_guard (by rfl) ?_;dsimp only));refine box_event ?hg (N:=9) ?hd (cs:=#[.int .i64 0,.int .i64 0]) (t:=88) ?hr ?_;(case hd=>rfl);(case hg=>rfl);(case hr=>first|(go_simp;done)|(go_simp;rfl));intro gb623 hg w51 hbox hb;have n0_:=Aside0.mk (Kd.R_below (by exact HO_5.out) hb);have n1_:=Aside0.mk (Kd.S_below (by exact HO_6.out) hb);have n2_:=Aside0.mk (blk_below (g:=gb614) (o:=.cells #[.int .i64 a0_0,.slice (some ad622) l0_1.length c0_1] 30 (0,0)) (by exact BK614.out) hb);have n3_:=Aside0.mk (blk_below (g:=gb620) (o:=.cells #[.int .i64 ((rd_T56 l1 x23_2).f0),.int .i64 ((rd_T56 l1 x23_2).f1),.int .i64 ((rd_T56 l1 x23_2).f2)] 56 (0,0)) (by exact BK620.out) hb);have n4_:=Aside0.mk (below_step (by exact HB.out) hb);have n5_:=Aside0.mk (hbox);have n6_:=Aside0.mk ((by rw [hg];exact (below_size (by exact HB.out)):w.heap.size≤gb623));have n7_:=Aside0.mk ((by rw [hg];exact (below_size (by exact HB.out)):w.heap.size≤gb623));have n8_:=Aside0.mk ((by rw [hg];exact Nat.ne_of_lt (blk_lt (g:=gb614) (o:=.cells #[.int .i64 a0_0,.slice (some ad622) l0_1.length c0_1] 30 (0,0)) (by exact BK614.out)):gb614 ≠ gb623));have n9_:=Aside0.mk ((by rw [hg];exact Nat.ne_of_gt (blk_lt (g:=gb614) (o:=.cells #[.int .i64 a0_0,.slice (some ad622) l0_1.length c0_1] 30 (0,0)) (by exact BK614.out)):gb623 ≠ gb614));have n10_:=Aside0.mk ((by rw [hg];exact Nat.ne_of_lt (blk_lt (g:=gb620) (o:=.cells #[.int .i64 ((rd_T56 l1 x23_2).f0),.int .i64 ((rd_T56 l1 x23_2).f1),.int .i64 ((rd_T56 l1 x23_2).f2)] 56 (0,0)) (by exact BK620.out)):gb620 ≠ gb623));have n11_:=Aside0.mk ((by rw [hg];exact Nat.ne_of_gt (blk_lt (g:=gb620) (o:=.cells #[.int .i64 ((rd_T56 l1 x23_2).f0),.int .i64 ((rd_T56 l1 x23_2).f1),.int .i64 ((rd_T56 l1 x23_2).f2)] 56 (0,0)) (by exact BK620.out)):gb623 ≠ gb620));clear HO_5;clear HO_6;clear BK614;clear BK620;clear HB;have HO_5:=n0_;have HO_6:=n1_;have BK614:=n2_;have BK620:=n3_;have HB:=n4_;have BK623:=n5_;have GW623:=n6_;have GE623:=n7_;have NB614_623:=n8_;have NB623_614:=n9_;have NB620_623:=n10_;have NB623_620:=n11_;clear n0_ n1_ n2_ n3_ n4_ n5_ n6_ n7_ n8_ n9_ n10_ n11_;clear hb hbox hg;have hnb52:=NB623_614.out;have hnc52:=NB614_623.out;have hnb53:=NB623_620.out;have hnc53:=NB620_623.out;have hcz54_0:w51.cell? ⟨gb623,0,none⟩=some (.int .i64 0):=(blk_cell BK623.out 0).trans rfl;have hcz54_1:w51.cell? ⟨gb623,1,none⟩=some (.int .i64 0):=(blk_cell BK623.out 1).trans rfl;have hfz54_0:=blk_frozen BK623.out 0;have hfz54_1:=blk_frozen BK623.out 1))
                      have n0_:Aside0 (Kd.R (Kd.int .i64) 3 ((w51.setCell ⟨gb623,0,none⟩ (.int .i64 ((rd_T88 l0_1 ((rd_T56 l1 x23_2).f1)).f0))).setCell ⟨gb623,1,none⟩ (.int .i64 ((rd_T88 l0_1 ((rd_T56 l1 x23_2).f1)).f1))) w.heap.size (fun _=>True) v617 x5_2):=⟨by exact Kd.R_mono (Kd.R_far (p:=⟨gb623,1,none⟩) (Kd.R_far (p:=⟨gb623,0,none⟩) (Kd.R_types HO_5.out BK623.out (by decide)) (fun _ hk=>hk.2) (.int .i64 ((rd_T88 l0_1 ((rd_T56 l1 x23_2).f1)).f0))) (fun _ hk=>hk.2) (.int .i64 ((rd_T88 l0_1 ((rd_T56 l1 x23_2).f1)).f1))) (fun _ hk=>trivial)⟩
                      have n1_:Aside0 (Kd.S (Kd.slice 3 (Kd.int .i64)) 59 ((w51.setCell ⟨gb623,0,none⟩ (.int .i64 ((rd_T88 l0_1 ((rd_T56 l1 x23_2).f1)).f0))).setCell ⟨gb623,1,none⟩ (.int .i64 ((rd_T88 l0_1 ((rd_T56 l1 x23_2).f1)).f1))) w.heap.size (fun k_=>some k_ ≠ (v617:Value).ownBlock) u6 x6_2):=⟨by exact Kd.S_mono (Kd.S_far (p:=⟨gb623,1,none⟩) (Kd.S_far (p:=⟨gb623,0,none⟩) (Kd.S_types HO_6.out BK623.out (by decide)) (fun _ hk=>hk.2) (.int .i64 ((rd_T88 l0_1 ((rd_T56 l1 x23_2).f1)).f0))) (fun _ hk=>hk.2) (.int .i64 ((rd_T88 l0_1 ((rd_T56 l1 x23_2).f1)).f1))) (fun _ hk=>hk.1)⟩
                      have n2_:Aside0 (((w51.setCell ⟨gb623,0,none⟩ (.int .i64 ((rd_T88 l0_1 ((rd_T56 l1 x23_2).f1)).f0))).setCell ⟨gb623,1,none⟩ (.int .i64 ((rd_T88 l0_1 ((rd_T56 l1 x23_2).f1)).f1))).heap[gb614]?=some (.cells #[.int .i64 a0_0,.slice (some ad622) l0_1.length c0_1] 30 (0,0))):=⟨by refine blk_far ?_ NB614_623.out _;refine blk_far ?_ NB614_623.out _;exact BK614.out⟩
                      have n3_:Aside0 (((w51.setCell ⟨gb623,0,none⟩ (.int .i64 ((rd_T88 l0_1 ((rd_T56 l1 x23_2).f1)).f0))).setCell ⟨gb623,1,none⟩ (.int .i64 ((rd_T88 l0_1 ((rd_T56 l1 x23_2).f1)).f1))).heap[gb620]?=some (.cells #[.int .i64 ((rd_T56 l1 x23_2).f0),.int .i64 ((rd_T56 l1 x23_2).f1),.int .i64 ((rd_T56 l1 x23_2).f2)] 56 (0,0))):=⟨by refine blk_far ?_ NB620_623.out _;refine blk_far ?_ NB620_623.out _;exact BK620.out⟩
                      have n4_:Aside0 (((w51.setCell ⟨gb623,0,none⟩ (.int .i64 ((rd_T88 l0_1 ((rd_T56 l1 x23_2).f1)).f0))).setCell ⟨gb623,1,none⟩ (.int .i64 ((rd_T88 l0_1 ((rd_T56 l1 x23_2).f1)).f1))).heap[gb623]?=some (.cells #[.int .i64 ((rd_T88 l0_1 ((rd_T56 l1 x23_2).f1)).f0),.int .i64 ((rd_T88 l0_1 ((rd_T56 l1 x23_2).f1)).f1)] 88 (0,0))):=⟨by refine blk_put (cs:=#[.int .i64 ((rd_T88 l0_1 ((rd_T56 l1 x23_2).f1)).f0),.int .i64 0]) ?_ 1 _ rfl;refine blk_put (cs:=#[.int .i64 0,.int .i64 0]) ?_ 0 _ rfl;exact BK623.out⟩
                      have n5_:Aside0 (Below w.heap.size w ((w51.setCell ⟨gb623,0,none⟩ (.int .i64 ((rd_T88 l0_1 ((rd_T56 l1 x23_2).f1)).f0))).setCell ⟨gb623,1,none⟩ (.int .i64 ((rd_T88 l0_1 ((rd_T56 l1 x23_2).f1)).f1)))):=⟨by repeat (first|(with_reducible first|exact HB.out|apply below_alloc|apply pw_below_drewN|apply below_drew1|refine below_set ?_ GE614.out|refine below_set ?_ GE620.out|refine below_set ?_ GE623.out)|exact HB.out)⟩
                      (try clear HO_5)
                      (try clear HO_6)
                      (try clear BK614)
                      (try clear BK620)
                      (try clear BK623)
                      (try clear HB)
                      generalize ((w51.setCell ⟨gb623,0,none⟩ (.int .i64 ((rd_T88 l0_1 ((rd_T56 l1 x23_2).f1)).f0))).setCell ⟨gb623,1,none⟩ (.int .i64 ((rd_T88 l0_1 ((rd_T56 l1 x23_2).f1)).f1)))=w55 at n0_ n1_ n2_ n3_ n4_ n5_ ⊢
                      have HO_5:=n0_
                      have HO_6:=n1_
                      have BK614:=n2_
                      have BK620:=n3_
                      have BK623:=n4_
                      have HB:=n5_
                      clear n0_ n1_ n2_ n3_ n4_ n5_
                      have n0_:=Aside0.mk (Kd.R_drew HO_5.out)
                      have n1_:=Aside0.mk (Kd.S_drew HO_6.out)
                      have n2_:=Aside0.mk (blk_drew BK614.out)
                      have n3_:=Aside0.mk (blk_drew BK620.out)
                      have n4_:=Aside0.mk (blk_drew BK623.out)
                      have n5_:=Aside0.mk (below_drew1 HB.out)
                      clear HO_5
                      clear HO_6
                      clear BK614
                      clear BK620
                      clear BK623
                      clear HB
                      have HO_5:=n0_
                      have HO_6:=n1_
                      have BK614:=n2_
                      have BK620:=n3_
                      have BK623:=n4_
                      have HB:=n5_
                      clear n0_ n1_ n2_ n3_ n4_ n5_
                      obtain ⟨Ao57,co57,eo57⟩:=Kd.R_slice HO_5.out
                      (first|subst eo57|(injection eo57 with f1_ f2_ f3_;have f4_:=f1_.symm;have f5_:=f3_.symm;clear f1_ f2_ f3_;subst f4_;subst f5_))
                      have p624:0≤(((rd_T88 l0_1 ((rd_T56 l1 x23_2).f1)).f0):Int):=of_decide_eq_true (by first|(with_reducible assumption)|assumption)
                      have q624:((rd_T88 l0_1 ((rd_T56 l1 x23_2).f1)).f0)<(x5_2.length:Int):=of_decide_eq_true (by first|(with_reducible assumption)|assumption)
                      obtain ⟨ad624,e624,hx624_0⟩:=Kd.at_int (Kd.R_reads' HO_5.out).2.2 ((rd_T88 l0_1 ((rd_T56 l1 x23_2).f1)).f0) p624 q624
                      cases e624
                      replace p624:=eq_true p624
                      replace q624:=eq_true q624
                      have p41:0≤(((rd_T88 l0_1 ((rd_T56 l1 x23_2).f1)).f0):Int):=of_decide_eq_true (by first|(with_reducible assumption)|assumption)
                      have q41:(((rd_T88 l0_1 ((rd_T56 l1 x23_2).f1)).f0):Int)<((x5_2.length:Int):Int):=of_decide_eq_true (by first|(with_reducible assumption)|assumption)
                      obtain ⟨go41,co41,eo41,gb41,gl41,cl41,HG41⟩:=Kd.R_form HO_5.out (by omega)
                      (first|cases eo41|(injection eo41 with ea_ en_ ec_;(first|subst ea_|(injection ea_ with ea_;subst ea_));subst ec_;clear en_))
                      have GB41:=Aside0.mk gb41
                      have GG41:=Aside0.mk HG41
                      clear gb41 gl41 HG41
                      (first|simp only [add_plain] at hx624_0|skip)
                      obtain ⟨hx41_0,hf41_0⟩:=Kd.R_celln 0 HO_5.out (((rd_T88 l0_1 ((rd_T56 l1 x23_2).f1)).f0):Int) p41 q41
                      replace p41:=eq_true p41
                      replace q41:=eq_true q41
                      have HP58:=Kd.R_putn HO_5.out (((rd_T88 l0_1 ((rd_T56 l1 x23_2).f1)).f0):Int) (wrap64 ((rd x5_2 ((rd_T88 l0_1 ((rd_T56 l1 x23_2).f1)).f0)) - ((rd_T56 l1 x23_2).f2)))
                      rw [← Ny625.out] at HP58
                      have HQ58:=Aside0.mk HP58
                      clear HP58
                      refine start_ (n:=10) (S:=fun w'=>w'.cell? ⟨gb623,0,none⟩=some (.int .i64 ((rd_T88 l0_1 ((rd_T56 l1 x23_2).f1)).f0))∧w'.cell? ⟨gb623,1,none⟩=some (.int .i64 ((rd_T88 l0_1 ((rd_T56 l1 x23_2).f1)).f1))∧w'.cell? ⟨gb620,0,none⟩=some (.int .i64 ((rd_T56 l1 x23_2).f0))∧w'.cell? ⟨gb620,1,none⟩=some (.int .i64 ((rd_T56 l1 x23_2).f1))∧w'.cell? ⟨gb620,2,none⟩=some (.int .i64 ((rd_T56 l1 x23_2).f2))∧w'.cell? ⟨go41,(((rd_T88 l0_1 ((rd_T56 l1 x23_2).f1)).f0)).toNat,none⟩=some (.int .i64 (rd x5_2 ((rd_T88 l0_1 ((rd_T56 l1 x23_2).f1)).f0)))) (ds:=[9]) #[false,false,false,false,false,false,false,false,false,false] (by kernel_rfl) rfl rfl ⟨(blk_cell BK623.out 0).trans rfl,(blk_cell BK623.out 1).trans rfl,(blk_cell BK620.out 0).trans rfl,(blk_cell BK620.out 1).trans rfl,(blk_cell BK620.out 2).trans rfl,hx624_0⟩ (fun hHeld=>?_);refine with_tabW impl_Truth.tab11 impl_Truth.bits11 (fun HT_ HW_=>?_)
                      generalize w55.drew=w56 at HO_5 HO_6 BK614 BK620 BK623 HB GG41 HQ58 hf41_0 hx41_0 hx624_0 hHeld ⊢
                      refine pure_ (i:=0) (N:=some 44) (v:=?_) (a':=?_) #[true,false,false,false,false,false,false,false,false,false] rfl rfl (any_of HT_.out (by kernel_rfl)) (fun _ _ _ h=>h) (Or.inl ⟨by rfl,?_⟩) ?_ ?_
                      rotate_left
                      ·intro w'
                       go_simp
                       with_reducible rfl
                      rotate_left
                      ·simp only [Act.put,List.setIfInBounds_toArray,List.set_cons_zero,List.set_cons_succ,i64_w,i32_w]
                       rfl
                      refine pure_ (i:=1) (N:=some 45) (v:=?_) (a':=?_) #[true,true,false,false,false,false,false,false,false,false] rfl rfl (any_of HT_.out (by kernel_rfl)) (fun _ _ _ h=>h) (Or.inl ⟨by rfl,?_⟩) ?_ ?_
                      rotate_left
                      ·intro w'
                       go_simp
                       with_reducible rfl
                      rotate_left
                      ·simp only [Act.put,List.setIfInBounds_toArray,List.set_cons_zero,List.set_cons_succ,i64_w,i32_w]
                       rfl
                      refine pure_ (i:=5) (N:=some 49) (v:=?_) (a':=?_) #[true,true,false,false,false,true,false,false,false,false] rfl rfl (any_of HT_.out (by kernel_rfl)) (fun _ _ _ h=>h) (Or.inl ⟨by rfl,?_⟩) ?_ ?_
                      rotate_left
                      ·intro w'
                       go_simp
                       with_reducible rfl
                      rotate_left
                      ·simp only [Act.put,List.setIfInBounds_toArray,List.set_cons_zero,List.set_cons_succ,i64_w,i32_w]
                       rfl
                      refine take_ (i:=2) (N:=some 46) (v:=?_) (a':=?_) #[true,true,true,false,false,true,false,false,false,false] rfl rfl (take_ofW HT_.out HW_.out (by kernel_rfl)) (fun _ _ _ h=>h) (Or.inl ⟨by rfl,?_⟩) hHeld ?_ ?_
                      rotate_left
                      ·rintro w' ⟨s0,s1,s2,s3,s4,s5⟩
                       go_simp
                       with_reducible rfl
                      rotate_left
                      ·simp only [Act.put,List.setIfInBounds_toArray,List.set_cons_zero,List.set_cons_succ,i64_w,i32_w]
                       rfl
                      refine pure_ (i:=3) (N:=some 47) (v:=?_) (a':=?_) #[true,true,true,true,false,true,false,false,false,false] rfl rfl (any_of HT_.out (by kernel_rfl)) (fun _ _ _ h=>h) (Or.inl ⟨by rfl,?_⟩) ?_ ?_
                      rotate_left
                      ·intro w'
                       go_simp
                       with_reducible rfl
                      rotate_left
                      ·simp only [Act.put,List.setIfInBounds_toArray,List.set_cons_zero,List.set_cons_succ,i64_w,i32_w]
                       rfl
                      refine take_ (i:=4) (N:=some 48) (v:=?_) (a':=?_) #[true,true,true,true,true,true,false,false,false,false] rfl rfl (take_ofW HT_.out HW_.out (by kernel_rfl)) (fun _ _ _ h=>h) (Or.inl ⟨by rfl,?_⟩) hHeld ?_ ?_
                      rotate_left
                      ·rintro w' ⟨s0,s1,s2,s3,s4,s5⟩
                       go_simp
                       with_reducible rfl
                      rotate_left
                      ·simp only [Act.put,List.setIfInBounds_toArray,List.set_cons_zero,List.set_cons_succ,i64_w,i32_w]
                       rfl
                      refine take_ (i:=6) (N:=some 50) (v:=?_) (a':=?_) #[true,true,true,true,true,true,true,false,false,false] rfl rfl (take_ofW HT_.out HW_.out (by kernel_rfl)) (fun _ _ _ h=>h) (Or.inl ⟨by rfl,?_⟩) hHeld ?_ ?_
                      rotate_left
                      ·rintro w' ⟨s0,s1,s2,s3,s4,s5⟩
                       go_simp
                       with_reducible rfl
                      rotate_left
                      ·simp only [Act.put,List.setIfInBounds_toArray,List.set_cons_zero,List.set_cons_succ,i64_w,i32_w]
                       rfl
                      refine pure_ (i:=7) (N:=some 51) (v:=?_) (a':=?_) #[true,true,true,true,true,true,true,true,false,false] rfl rfl (any_of HT_.out (by kernel_rfl)) (fun _ _ _ h=>h) (Or.inl ⟨by rfl,?_⟩) ?_ ?_
                      rotate_left
                      ·intro w'
                       go_simp
                       with_reducible rfl
                      rotate_left
                      ·simp only [Act.put,List.setIfInBounds_toArray,List.set_cons_zero,List.set_cons_succ,i64_w,i32_w]
                       rfl
                      refine pure_ (i:=8) (N:=some 52) (v:=?_) (a':=?_) #[true,true,true,true,true,true,true,true,true,false] rfl rfl (any_of HT_.out (by kernel_rfl)) (fun _ _ _ h=>h) (Or.inl ⟨by rfl,?_⟩) ?_ ?_
                      rotate_left
                      ·intro w'
                       go_simp
                       with_reducible rfl
                      rotate_left
                      ·simp only [Act.put,List.setIfInBounds_toArray,List.set_cons_zero,List.set_cons_succ,i64_w,i32_w]
                       rfl
                      refine last_ (i:=9) (N:=none) #[true,true,true,true,true,true,true,true,true,true] rfl rfl (one_of HT_.out (by kernel_rfl)) (by decide) (fun K hK=>?_)
                      refine skip_ (w1:=?_) (by rfl) rfl ?_ ?_
                      rotate_left
                      ·go_simp
                       rfl
                      refine hK.out _ _ ?_
                      clear hK K
                      refine done_ (done_of HT_.out (by kernel_rfl)) ?_
                      have hnx_:gb623 ≠ go41:=(by have h_:=Kd.R_ne HO_5.out BK623.out (by decide);intro e_;exact h_ (by rw [e_];rfl))
                      have hny_:go41 ≠ gb623:=fun e_=>hnx_ e_.symm
                      have hcz59_0:w56.cell? ⟨gb623,0,none⟩=some (.int .i64 ((rd_T88 l0_1 ((rd_T56 l1 x23_2).f1)).f0)):=(blk_cell BK623.out 0).trans rfl
                      have hcz59_1:w56.cell? ⟨gb623,1,none⟩=some (.int .i64 ((rd_T88 l0_1 ((rd_T56 l1 x23_2).f1)).f1)):=(blk_cell BK623.out 1).trans rfl
                      have hfz59_0:=blk_frozen BK623.out 0
                      have hfz59_1:=blk_frozen BK623.out 1
                      try go_wp2
                      have n0_:Aside0 (Kd.R (Kd.int .i64) 3 (w56.setCell ⟨go41,(((rd_T88 l0_1 ((rd_T56 l1 x23_2).f1)).f0):Int).toNat,none⟩ (.int .i64 (wrap64 ((rd x5_2 ((rd_T88 l0_1 ((rd_T56 l1 x23_2).f1)).f0)) - ((rd_T56 l1 x23_2).f2))))) w.heap.size (fun _=>True) (.slice (some ⟨go41,0,none⟩) x5_2.length co57) y625):=⟨by exact HQ58.out⟩
                      have n1_:Aside0 (Kd.S (Kd.slice 3 (Kd.int .i64)) 59 (w56.setCell ⟨go41,(((rd_T88 l0_1 ((rd_T56 l1 x23_2).f1)).f0):Int).toNat,none⟩ (.int .i64 (wrap64 ((rd x5_2 ((rd_T88 l0_1 ((rd_T56 l1 x23_2).f1)).f0)) - ((rd_T56 l1 x23_2).f2))))) w.heap.size (fun k_=>some k_ ≠ (.slice (some ⟨go41,0,none⟩) x5_2.length co57:Value).ownBlock) u6 x6_2):=⟨by exact Kd.S_mono (Kd.S_far (p:=⟨go41,(((rd_T88 l0_1 ((rd_T56 l1 x23_2).f1)).f0):Int).toNat,none⟩) (Kd.S_mono HO_6.out (fun k_ hk=>(⟨hk,fun e_=>hk (by rw [e_];rfl)⟩:_∧k_ ≠ go41))) (fun _ hk=>hk.2) (.int .i64 (wrap64 ((rd x5_2 ((rd_T88 l0_1 ((rd_T56 l1 x23_2).f1)).f0)) - ((rd_T56 l1 x23_2).f2))))) (fun _ hk=>hk.1)⟩
                      have n2_:Aside0 ((w56.setCell ⟨go41,(((rd_T88 l0_1 ((rd_T56 l1 x23_2).f1)).f0):Int).toNat,none⟩ (.int .i64 (wrap64 ((rd x5_2 ((rd_T88 l0_1 ((rd_T56 l1 x23_2).f1)).f0)) - ((rd_T56 l1 x23_2).f2))))).heap[gb614]?=some (.cells #[.int .i64 a0_0,.slice (some ad622) l0_1.length c0_1] 30 (0,0))):=⟨by refine blk_far ?_ (by have h_:=Kd.R_ne HO_5.out BK614.out (by decide);intro e_;exact h_ (by rw [e_];rfl)) _;exact BK614.out⟩
                      have n3_:Aside0 ((w56.setCell ⟨go41,(((rd_T88 l0_1 ((rd_T56 l1 x23_2).f1)).f0):Int).toNat,none⟩ (.int .i64 (wrap64 ((rd x5_2 ((rd_T88 l0_1 ((rd_T56 l1 x23_2).f1)).f0)) - ((rd_T56 l1 x23_2).f2))))).heap[gb620]?=some (.cells #[.int .i64 ((rd_T56 l1 x23_2).f0),.int .i64 ((rd_T56 l1 x23_2).f1),.int .i64 ((rd_T56 l1 x23_2).f2)] 56 (0,0))):=⟨by (with_reducible repeat (first|refine blk_drewN ?_ _|refine blk_drew ?_|refine blk_alloc ?_ _));refine blk_far ?_ (by have h_:=Kd.R_ne HO_5.out BK620.out (by decide);intro e_;exact h_ (by rw [e_];rfl)) _;(with_reducible repeat (first|refine blk_drewN ?_ _|refine blk_drew ?_|refine blk_alloc ?_ _));exact BK620.out⟩
                      have n4_:Aside0 ((w56.setCell ⟨go41,(((rd_T88 l0_1 ((rd_T56 l1 x23_2).f1)).f0):Int).toNat,none⟩ (.int .i64 (wrap64 ((rd x5_2 ((rd_T88 l0_1 ((rd_T56 l1 x23_2).f1)).f0)) - ((rd_T56 l1 x23_2).f2))))).heap[gb623]?=some (.cells #[.int .i64 ((rd_T88 l0_1 ((rd_T56 l1 x23_2).f1)).f0),.int .i64 ((rd_T88 l0_1 ((rd_T56 l1 x23_2).f1)).f1)] 88 (0,0))):=⟨by (with_reducible repeat (first|refine blk_drewN ?_ _|refine blk_drew ?_|refine blk_alloc ?_ _));refine blk_far ?_ (by have h_:=Kd.R_ne HO_5.out BK623.out (by decide);intro e_;exact h_ (by rw [e_];rfl)) _;(with_reducible repeat (first|refine blk_drewN ?_ _|refine blk_drew ?_|refine blk_alloc ?_ _));exact BK623.out⟩
                      have n5_:Aside0 (Below w.heap.size w (w56.setCell ⟨go41,(((rd_T88 l0_1 ((rd_T56 l1 x23_2).f1)).f0):Int).toNat,none⟩ (.int .i64 (wrap64 ((rd x5_2 ((rd_T88 l0_1 ((rd_T56 l1 x23_2).f1)).f0)) - ((rd_T56 l1 x23_2).f2)))))):=⟨by repeat (first|(with_reducible first|exact HB.out|apply below_alloc|apply pw_below_drewN|apply below_drew1|refine below_set ?_ GB41.out|refine below_set ?_ GE614.out|refine below_set ?_ GE620.out|refine below_set ?_ GE623.out)|exact HB.out)⟩
                      (try clear HO_5)
                      (try clear HO_6)
                      (try clear BK614)
                      (try clear BK620)
                      (try clear BK623)
                      (try clear HB)
                      generalize (w56.setCell ⟨go41,(((rd_T88 l0_1 ((rd_T56 l1 x23_2).f1)).f0):Int).toNat,none⟩ (.int .i64 (wrap64 ((rd x5_2 ((rd_T88 l0_1 ((rd_T56 l1 x23_2).f1)).f0)) - ((rd_T56 l1 x23_2).f2)))))=w60 at n0_ n1_ n2_ n3_ n4_ n5_ ⊢
                      have HO_5:=n0_
                      have HO_6:=n1_
                      have BK614:=n2_
                      have BK620:=n3_
                      have BK623:=n4_
                      have HB:=n5_
                      clear n0_ n1_ n2_ n3_ n4_ n5_
                      have n0_:=Aside0.mk (Kd.R_drew HO_5.out)
                      have n1_:=Aside0.mk (Kd.S_drew HO_6.out)
                      have n2_:=Aside0.mk (blk_drew BK614.out)
                      have n3_:=Aside0.mk (blk_drew BK620.out)
                      have n4_:=Aside0.mk (blk_drew BK623.out)
                      have n5_:=Aside0.mk (below_drew1 HB.out)
                      clear HO_5
                      clear HO_6
                      clear BK614
                      clear BK620
                      clear BK623
                      clear HB
                      have HO_5:=n0_
                      have HO_6:=n1_
                      have BK614:=n2_
                      have BK620:=n3_
                      have BK623:=n4_
                      have HB:=n5_
                      clear n0_ n1_ n2_ n3_ n4_ n5_
                      have p626:0≤(((rd_T88 l0_1 ((rd_T56 l1 x23_2).f1)).f1):Int):=of_decide_eq_true (by first|(with_reducible assumption)|assumption)
                      have q626:((rd_T88 l0_1 ((rd_T56 l1 x23_2).f1)).f1)<(y625.length:Int):=(by have h_:(((rd_T88 l0_1 ((rd_T56 l1 x23_2).f1)).f1):Int)<((x5_2.length:Int):Int):=of_decide_eq_true (by first|(with_reducible assumption)|assumption);first|(have e_:=(Kd.R_reads' HO_5.out).1;omega)|simpa only [Ny625.out,List.length_set] using h_)
                      have ql626:((((rd_T88 l0_1 ((rd_T56 l1 x23_2).f1)).f1):Int)<((x5_2.length:Int):Int))=True:=eq_true (of_decide_eq_true (by first|(with_reducible assumption)|assumption))
                      obtain ⟨ad626,e626,hx626_0⟩:=Kd.at_int (Kd.R_reads' HO_5.out).2.2 ((rd_T88 l0_1 ((rd_T56 l1 x23_2).f1)).f1) p626 q626
                      obtain rfl:(⟨go41,0,none⟩:Addr)=ad626:=(by injection e626)
                      (first|simp only [add_plain] at hx626_0|simp only [add_at] at hx626_0|simp only [Addr.add,Nat.zero_add] at hx626_0|skip)
                      replace p626:=eq_true p626
                      replace q626:=eq_true q626
                      have p45:0≤(((rd_T88 l0_1 ((rd_T56 l1 x23_2).f1)).f1):Int):=of_decide_eq_true (by first|(with_reducible assumption)|assumption)
                      have q45:(((rd_T88 l0_1 ((rd_T56 l1 x23_2).f1)).f1):Int)<((x5_2.length:Int):Int):=of_decide_eq_true (by first|(with_reducible assumption)|assumption)
                      obtain ⟨hx45_0,hf45_0⟩:=Kd.R_celln 0 HO_5.out (((rd_T88 l0_1 ((rd_T56 l1 x23_2).f1)).f1):Int) p45 q45
                      replace p45:=eq_true p45
                      replace q45:=eq_true q45
                      have HP62:=Kd.R_putn HO_5.out (((rd_T88 l0_1 ((rd_T56 l1 x23_2).f1)).f1):Int) (wrap64 ((rd y625 ((rd_T88 l0_1 ((rd_T56 l1 x23_2).f1)).f1))+((rd_T56 l1 x23_2).f2)))
                      rw [← Ny627.out] at HP62
                      have HQ62:=Aside0.mk HP62
                      clear HP62
                      refine start_ (n:=10) (S:=fun w'=>w'.cell? ⟨gb623,0,none⟩=some (.int .i64 ((rd_T88 l0_1 ((rd_T56 l1 x23_2).f1)).f0))∧w'.cell? ⟨gb623,1,none⟩=some (.int .i64 ((rd_T88 l0_1 ((rd_T56 l1 x23_2).f1)).f1))∧w'.cell? ⟨gb620,0,none⟩=some (.int .i64 ((rd_T56 l1 x23_2).f0))∧w'.cell? ⟨gb620,1,none⟩=some (.int .i64 ((rd_T56 l1 x23_2).f1))∧w'.cell? ⟨gb620,2,none⟩=some (.int .i64 ((rd_T56 l1 x23_2).f2))∧w'.cell? ⟨go41,(((rd_T88 l0_1 ((rd_T56 l1 x23_2).f1)).f1)).toNat,none⟩=some (.int .i64 (rd y625 ((rd_T88 l0_1 ((rd_T56 l1 x23_2).f1)).f1)))) (ds:=[9]) #[false,false,false,false,false,false,false,false,false,false] (by kernel_rfl) rfl rfl ⟨(blk_cell BK623.out 0).trans rfl,(blk_cell BK623.out 1).trans rfl,(blk_cell BK620.out 0).trans rfl,(blk_cell BK620.out 1).trans rfl,(blk_cell BK620.out 2).trans rfl,hx626_0⟩ (fun hHeld=>?_);refine with_tabW impl_Truth.tab13 impl_Truth.bits13 (fun HT_ HW_=>?_)
                      generalize w60.drew=w61 at HO_5 HO_6 BK614 BK620 BK623 HB HQ58 HQ62 hf45_0 hx45_0 hx626_0 hHeld ⊢
                      refine pure_ (i:=0) (N:=some 56) (v:=?_) (a':=?_) #[true,false,false,false,false,false,false,false,false,false] rfl rfl (any_of HT_.out (by kernel_rfl)) (fun _ _ _ h=>h) (Or.inl ⟨by rfl,?_⟩) ?_ ?_
                      rotate_left
                      ·intro w'
                       go_simp
                       with_reducible rfl
                      rotate_left
                      ·simp only [Act.put,List.setIfInBounds_toArray,List.set_cons_zero,List.set_cons_succ,i64_w,i32_w]
                       rfl
                      refine pure_ (i:=1) (N:=some 57) (v:=?_) (a':=?_) #[true,true,false,false,false,false,false,false,false,false] rfl rfl (any_of HT_.out (by kernel_rfl)) (fun _ _ _ h=>h) (Or.inl ⟨by rfl,?_⟩) ?_ ?_
                      rotate_left
                      ·intro w'
                       go_simp
                       with_reducible rfl
                      rotate_left
                      ·simp only [Act.put,List.setIfInBounds_toArray,List.set_cons_zero,List.set_cons_succ,i64_w,i32_w]
                       rfl
                      refine pure_ (i:=5) (N:=some 61) (v:=?_) (a':=?_) #[true,true,false,false,false,true,false,false,false,false] rfl rfl (any_of HT_.out (by kernel_rfl)) (fun _ _ _ h=>h) (Or.inl ⟨by rfl,?_⟩) ?_ ?_
                      rotate_left
                      ·intro w'
                       go_simp
                       with_reducible rfl
                      rotate_left
                      ·simp only [Act.put,List.setIfInBounds_toArray,List.set_cons_zero,List.set_cons_succ,i64_w,i32_w]
                       rfl
                      refine take_ (i:=2) (N:=some 58) (v:=?_) (a':=?_) #[true,true,true,false,false,true,false,false,false,false] rfl rfl (take_ofW HT_.out HW_.out (by kernel_rfl)) (fun _ _ _ h=>h) (Or.inl ⟨by rfl,?_⟩) hHeld ?_ ?_
                      rotate_left
                      ·rintro w' ⟨s0,s1,s2,s3,s4,s5⟩
                       go_simp
                       with_reducible rfl
                      rotate_left
                      ·simp only [Act.put,List.setIfInBounds_toArray,List.set_cons_zero,List.set_cons_succ,i64_w,i32_w]
                       rfl
                      refine pure_ (i:=3) (N:=some 59) (v:=?_) (a':=?_) #[true,true,true,true,false,true,false,false,false,false] rfl rfl (any_of HT_.out (by kernel_rfl)) (fun _ _ _ h=>h) (Or.inl ⟨by rfl,?_⟩) ?_ ?_
                      rotate_left
                      ·intro w'
                       go_simp
                       with_reducible rfl
                      rotate_left
                      ·simp only [Act.put,List.setIfInBounds_toArray,List.set_cons_zero,List.set_cons_succ,i64_w,i32_w]
                       rfl
                      refine take_ (i:=4) (N:=some 60) (v:=?_) (a':=?_) #[true,true,true,true,true,true,false,false,false,false] rfl rfl (take_ofW HT_.out HW_.out (by kernel_rfl)) (fun _ _ _ h=>h) (Or.inl ⟨by rfl,?_⟩) hHeld ?_ ?_
                      rotate_left
                      ·rintro w' ⟨s0,s1,s2,s3,s4,s5⟩
                       go_simp
                       with_reducible rfl
                      rotate_left
                      ·simp only [Act.put,List.setIfInBounds_toArray,List.set_cons_zero,List.set_cons_succ,i64_w,i32_w]
                       rfl
                      refine take_ (i:=6) (N:=some 62) (v:=?_) (a':=?_) #[true,true,true,true,true,true,true,false,false,false] rfl rfl (take_ofW HT_.out HW_.out (by kernel_rfl)) (fun _ _ _ h=>h) (Or.inl ⟨by rfl,?_⟩) hHeld ?_ ?_
                      rotate_left
                      ·rintro w' ⟨s0,s1,s2,s3,s4,s5⟩
                       go_simp
                       with_reducible rfl
                      rotate_left
                      ·simp only [Act.put,List.setIfInBounds_toArray,List.set_cons_zero,List.set_cons_succ,i64_w,i32_w]
                       rfl
                      refine pure_ (i:=7) (N:=some 63) (v:=?_) (a':=?_) #[true,true,true,true,true,true,true,true,false,false] rfl rfl (any_of HT_.out (by kernel_rfl)) (fun _ _ _ h=>h) (Or.inl ⟨by rfl,?_⟩) ?_ ?_
                      rotate_left
                      ·intro w'
                       go_simp
                       with_reducible rfl
                      rotate_left
                      ·simp only [Act.put,List.setIfInBounds_toArray,List.set_cons_zero,List.set_cons_succ,i64_w,i32_w]
                       rfl
                      refine pure_ (i:=8) (N:=some 64) (v:=?_) (a':=?_) #[true,true,true,true,true,true,true,true,true,false] rfl rfl (any_of HT_.out (by kernel_rfl)) (fun _ _ _ h=>h) (Or.inl ⟨by rfl,?_⟩) ?_ ?_
                      rotate_left
                      ·intro w'
                       go_simp
                       with_reducible rfl
                      rotate_left
                      ·simp only [Act.put,List.setIfInBounds_toArray,List.set_cons_zero,List.set_cons_succ,i64_w,i32_w]
                       rfl
                      refine last_ (i:=9) (N:=none) #[true,true,true,true,true,true,true,true,true,true] rfl rfl (one_of HT_.out (by kernel_rfl)) (by decide) (fun K hK=>?_)
                      refine skip_ (w1:=?_) (by rfl) rfl ?_ ?_
                      rotate_left
                      ·go_simp
                       rfl
                      refine hK.out _ _ ?_
                      clear hK K
                      refine done_ (done_of HT_.out (by kernel_rfl)) ?_
                      try go_wp2_with (first|((with_reducible refine gate_callee (f:=110) rfl ?_);refine goesL_ (some 67) rfl rfl Try.func110 (by kernel_rfl) rfl #[.slice (some ⟨go41,0,none⟩) y627.length co57] rfl (by (try simp only [List.map_toArray,List.map_cons,List.map_nil]);first|done|(rw [show y627.length=x5_2.length from (Kd.R_reads' HQ62.out).1.symm] <;> rfl)|rfl|(simp only [List.length_drop,List.length_take];rfl)) ?_;(with_reducible refine (slices_Clone_int_int.calls _ _ y627 t628 _ ?side1 ?side2 A46.out).mono ?_);(case side1=>refine (Kd.R_reads' (e:=3) (base:=w.heap.size) (ok:=fun k_=>True) (n:=x5_2.length) (c:=co57) ?_).2.2;exact (by (with_reducible repeat (first|apply Kd.R_alloc|apply Kd.R_drewN|apply Kd.R_drew));exact HQ62.out));(case side2=>rw [show y627.length=x5_2.length from (Kd.R_reads' HQ62.out).1.symm];exact (Kd.R_reads' HO_5.out).2.1);rintro e w63 ⟨v629,rfl,ho0,hb⟩;refine ⟨_,rfl,?_⟩;have n0_:=Aside0.mk (Kd.R_elder' (by (with_reducible repeat (first|apply Kd.R_alloc|apply Kd.R_drewN|apply Kd.R_drew));exact HQ62.out) (Kd.R_base ho0) hb);have n1_:=Aside0.mk (Kd.S_elder' (by (with_reducible repeat (first|apply Kd.S_alloc|apply Kd.S_drewN|apply Kd.S_drew));exact (Kd.S_mono (Kd.S_far (p:=⟨go41,(((rd_T88 l0_1 ((rd_T56 l1 x23_2).f1)).f1):Int).toNat,none⟩) (Kd.S_mono HO_6.out (fun k_ hk=>(⟨hk,fun e_=>hk (by rw [e_];rfl)⟩:_∧k_ ≠ go41))) (fun _ hk=>hk.2) (.int .i64 (wrap64 ((rd y625 ((rd_T88 l0_1 ((rd_T56 l1 x23_2).f1)).f1))+((rd_T56 l1 x23_2).f2))))) (fun _ h_=>h_.1))) (Kd.R_base ho0) hb);have n2_:=Aside0.mk (Kd.R_lower (Kd.R_new' ho0 (Kd.R_lt (by (with_reducible repeat (first|apply Kd.R_alloc|apply Kd.R_drewN|apply Kd.R_drew));exact HQ62.out))) (below_size (by repeat (first|(with_reducible first|exact HB.out|apply below_alloc|apply pw_below_drewN|apply below_drew1|refine below_set ?_ GB41.out|refine below_set ?_ GE614.out|refine below_set ?_ GE620.out|refine below_set ?_ GE623.out)|exact HB.out))));have n3_:=Aside0.mk (blk_below (g:=gb614) (o:=.cells #[.int .i64 a0_0,.slice (some ad622) l0_1.length c0_1] 30 (0,0)) (by (with_reducible repeat (first|refine blk_drewN ?_ _|refine blk_drew ?_|refine blk_alloc ?_ _));refine blk_far ?_ (by have h_:=Kd.R_ne HO_5.out BK614.out (by decide);intro e_;exact h_ (by rw [e_];rfl)) _;(with_reducible repeat (first|refine blk_drewN ?_ _|refine blk_drew ?_|refine blk_alloc ?_ _));exact BK614.out) hb);have n4_:=Aside0.mk (blk_below (g:=gb620) (o:=.cells #[.int .i64 ((rd_T56 l1 x23_2).f0),.int .i64 ((rd_T56 l1 x23_2).f1),.int .i64 ((rd_T56 l1 x23_2).f2)] 56 (0,0)) (by (with_reducible repeat (first|refine blk_drewN ?_ _|refine blk_drew ?_|refine blk_alloc ?_ _));refine blk_far ?_ (by have h_:=Kd.R_ne HO_5.out BK620.out (by decide);intro e_;exact h_ (by rw [e_];rfl)) _;(with_reducible repeat (first|refine blk_drewN ?_ _|refine blk_drew ?_|refine blk_alloc ?_ _));exact BK620.out) hb);have n5_:=Aside0.mk (blk_below (g:=gb623) (o:=.cells #[.int .i64 ((rd_T88 l0_1 ((rd_T56 l1 x23_2).f1)).f0),.int .i64 ((rd_T88 l0_1 ((rd_T56 l1 x23_2).f1)).f1)] 88 (0,0)) (by (with_reducible repeat (first|refine blk_drewN ?_ _|refine blk_drew ?_|refine blk_alloc ?_ _));refine blk_far ?_ (by have h_:=Kd.R_ne HO_5.out BK623.out (by decide);intro e_;exact h_ (by rw [e_];rfl)) _;(with_reducible repeat (first|refine blk_drewN ?_ _|refine blk_drew ?_|refine blk_alloc ?_ _));exact BK623.out) hb);have n6_:=Aside0.mk (below_step (by repeat (first|(with_reducible first|exact HB.out|apply below_alloc|apply pw_below_drewN|apply below_drew1|refine below_set ?_ GB41.out|refine below_set ?_ GE614.out|refine below_set ?_ GE620.out|refine below_set ?_ GE623.out)|exact HB.out)) hb);clear HO_5;clear HO_6;clear BK614;clear BK620;clear BK623;clear HB;have HO_5:=n0_;have HO_6:=n1_;have HO630:=n2_;have BK614:=n3_;have BK620:=n4_;have BK623:=n5_;have HB:=n6_;clear n0_ n1_ n2_ n3_ n4_ n5_ n6_;(try clear hb);(try clear hb2);(try clear hk);(try clear hi);(try clear ho0);obtain ⟨Ao65,co65,eo65⟩:=Kd.R_slice HO630.out;subst eo65)|((with_reducible refine gate_builtin (b:=.append) (xs:=#[.tmp 65,.tmp 68]) rfl ?_);(try (refine gate_guard (by rfl) ?_;dsimp only));at_builtin;refine Kd.S_append (Kd.slice 3 (Kd.int .i64)) (w0:=w) w.heap.size rfl (.tmp 65) (.tmp 68) 73 59 (.slice none 0 0) 24 rfl Try.underlying73 info59 rfl (by decide) (by omega) u6 x6_2 t628 [.slice Ao65 t628.length co65] (fun k_=>some k_ ≠ (.slice (some ⟨go41,0,none⟩) x5_2.length co57:Value).ownBlock) (fun k_=>some k_=(.slice Ao65 t628.length co65:Value).ownBlock) rfl rfl ?aP (fun k_ hk_=>((Kd.R_mono (ok':=fun k_=>((fun k_=>some k_ ≠ (.slice (some ⟨go41,0,none⟩) x5_2.length co57:Value).ownBlock)) k_∧some k_ ≠ (u6:Value).ownBlock) (Kd.R_apart' (HO630.out) (Kd.S_typed HO_6.out) (by decide)) (fun k_ hk=>⟨hk.1.2,hk.2⟩))).1 k_ hk_.symm) ?aF ?aO ?aB ?aS ?aL ?_;(case aP=>exact Kd.M_row (Kd.R_mono (Kd.R_tight rfl (Kd.R_mono (ok':=fun k_=>((fun k_=>some k_ ≠ (.slice (some ⟨go41,0,none⟩) x5_2.length co57:Value).ownBlock)) k_∧some k_ ≠ (u6:Value).ownBlock) (Kd.R_apart' (HO630.out) (Kd.S_typed HO_6.out) (by decide)) (fun k_ hk=>⟨hk.1.2,hk.2⟩))) (fun _ h_=>h_)));(case aB=>exact (by repeat (first|(with_reducible first|exact HB.out|apply below_alloc|apply pw_below_drewN|apply below_drew1|refine below_set ?_ GE614.out|refine below_set ?_ GE620.out|refine below_set ?_ GE623.out)|exact HB.out)));(case aF=>exact (fun k_ hk=>Kd.fresh' (Kd.R_lt (by (with_reducible repeat (first|apply Kd.R_alloc|apply Kd.R_drewN|apply Kd.R_drew));exact HO_5.out)) k_ hk));(case aO=>exact (by (with_reducible repeat (first|apply Kd.S_alloc|apply Kd.S_drewN|apply Kd.S_drew));exact Kd.S_mono HO_6.out (fun k_ hk=>⟨hk.1,fun e_=>hk.2 e_⟩)));(case aS=>exact (below_size (by repeat (first|(with_reducible first|exact HB.out|apply below_alloc|apply pw_below_drewN|apply below_drew1|refine below_set ?_ GE614.out|refine below_set ?_ GE620.out|refine below_set ?_ GE623.out)|exact HB.out))));(case aL=>have:=LMc47.out;omega);intro v632 w64 ho hb hg hat;rw [← Ny631.out] at ho;have n0_:=Aside0.mk (Kd.R_over' (by (with_reducible repeat (first|apply Kd.R_alloc|apply Kd.R_drewN|apply Kd.R_drew));exact HO_5.out) (Kd.S_typed (by (with_reducible repeat (first|apply Kd.S_alloc|apply Kd.S_drewN|apply Kd.S_drew));exact HO_6.out)) (by decide) hg);have n1_:=Aside0.mk (blk_grown (g:=gb614) (o:=.cells #[.int .i64 a0_0,.slice (some ad622) l0_1.length c0_1] 30 (0,0)) (by (with_reducible repeat (first|refine blk_drewN ?_ _|refine blk_drew ?_|refine blk_alloc ?_ _));exact BK614.out) hg (Kd.S_ne HO_6.out BK614.out (by decide)));have n2_:=Aside0.mk (blk_grown (g:=gb620) (o:=.cells #[.int .i64 ((rd_T56 l1 x23_2).f0),.int .i64 ((rd_T56 l1 x23_2).f1),.int .i64 ((rd_T56 l1 x23_2).f2)] 56 (0,0)) (by (with_reducible repeat (first|refine blk_drewN ?_ _|refine blk_drew ?_|refine blk_alloc ?_ _));exact BK620.out) hg (Kd.S_ne HO_6.out BK620.out (by decide)));have n3_:=Aside0.mk (blk_grown (g:=gb623) (o:=.cells #[.int .i64 ((rd_T88 l0_1 ((rd_T56 l1 x23_2).f1)).f0),.int .i64 ((rd_T88 l0_1 ((rd_T56 l1 x23_2).f1)).f1)] 88 (0,0)) (by (with_reducible repeat (first|refine blk_drewN ?_ _|refine blk_drew ?_|refine blk_alloc ?_ _));exact BK623.out) hg (Kd.S_ne HO_6.out BK623.out (by decide)));have n4_:=Aside0.mk (hb);have n5_:=Aside0.mk (ho);clear HO_5;clear BK614;clear BK620;clear BK623;clear HB;clear HO_6;clear HO630;have HO_5:=n0_;have BK614:=n1_;have BK620:=n2_;have BK623:=n3_;have HB:=n4_;have HO633:=n5_;clear n0_ n1_ n2_ n3_ n4_ n5_;clear ho hb hg hat))
                      go_roundg kj19
                      case measure=>have:=HJ2.out;have:=HK2.out;have:=HJ19.out;omega
                      case rel=>exact ⟨(y627),(y631),(wrap64 (x23_2+1)),(by first|rfl|(simp;done)|(simp [*];done)),H',⟨by have:=HJ2.out;have:=HK2.out;have:=HJ19.out;omega⟩,⟨by exact Kd.R_mono HO_5.out (fun _ hk=>trivial)⟩,⟨by exact HO633.out⟩,⟨by exact BK614.out⟩,⟨by exact HB.out⟩⟩
                     rw [if_neg c47] at H
                     exact absurd H (by simp)
                    rw [if_neg c44] at H
                    exact absurd H (by simp)
                   rw [if_neg c43] at H
                   exact absurd H (by simp)
                  rw [if_neg c42] at H
                  have c42b0:decide (0≤((rd_T88 l0_1 ((rd_T56 l1 x23_2).f1)).f1))=false:=decide_eq_false c42
                  clear c42
                  replace H:=Option.bind_eq_some_iff.mp H
                  obtain ⟨t634,A660,H⟩:=H
                  replace H:(if x6_2.length<5864062014805 then (impl_Truth.l0 kj19 y625 (x6_2 ++ [t634]) l1 (l1.length:Int) (wrap64 (x23_2+1)) a0_0 l0_1) else (none))=some r:=H
                  have A66:=Aside0.mk A660
                  clear A660
                  by_cases c67:x6_2.length<5864062014805
                  ·rw [if_pos c67] at H
                   have LMc67:=Aside0.mk c67
                   clear c67
                   obtain ⟨y637,hy637⟩:∃ y_:List (List Int),y_=(x6_2 ++ [t634]):=⟨_,rfl⟩
                   replace H:(impl_Truth.l0 kj19 y625 y637 l1 (l1.length:Int) (wrap64 (x23_2+1)) a0_0 l0_1)=some r:=by first|(rw [hy637];with_reducible exact H)|(have H2_:=(Option.bind_some _ _).symm.trans H;rw [hy637];with_reducible exact H2_)|(have H2_:=(Option.bind_some _ _).symm.trans H;with_reducible exact H2_)|with_reducible exact H|(rw [hy637];exact H)|exact H
                   have Ny637:=Aside0.mk hy637
                   clear hy637
                   have H':=Aside0.mk H
                   clear H
                   have hnb68:=NB614_620.out
                   have hnc68:=NB620_614.out
                   have hcz69_0:wc.cell? ⟨gb614,0,none⟩=some (.int .i64 a0_0):=(blk_cell BK614.out 0).trans rfl
                   have hcz69_1:wc.cell? ⟨gb614,1,none⟩=some (.slice A0_1 l0_1.length c0_1):=(blk_cell BK614.out 1).trans rfl
                   have hfz69_0:=blk_frozen BK614.out 0
                   have hfz69_1:=blk_frozen BK614.out 1
                   have hcz70_0:wc.cell? ⟨gb620,0,none⟩=some (.int .i64 ((rd_T56 l1 x23_2).f0)):=(blk_cell BK620.out 0).trans rfl
                   have hcz70_1:wc.cell? ⟨gb620,1,none⟩=some (.int .i64 ((rd_T56 l1 x23_2).f1)):=(blk_cell BK620.out 1).trans rfl
                   have hcz70_2:wc.cell? ⟨gb620,2,none⟩=some (.int .i64 ((rd_T56 l1 x23_2).f2)):=(blk_cell BK620.out 2).trans rfl
                   have hfz70_0:=blk_frozen BK620.out 0
                   have hfz70_1:=blk_frozen BK620.out 1
                   have hfz70_2:=blk_frozen BK620.out 2
                   have p622:0≤(((rd_T56 l1 x23_2).f1):Int):=of_decide_eq_true (by first|(with_reducible assumption)|assumption)
                   have q622:((rd_T56 l1 x23_2).f1)<(l0_1.length:Int):=of_decide_eq_true (by first|(with_reducible assumption)|assumption)
                   obtain ⟨ad622,e622,hx622_0,hx622_1⟩:=at_T88 HR0_1.out ((rd_T56 l1 x23_2).f1) p622 q622
                   cases e622
                   replace hx622_0:=(HB.out.cell (World.block_lt_of_cell? w _ hx622_0)).trans hx622_0
                   replace hx622_1:=(HB.out.cell (World.block_lt_of_cell? w _ hx622_1)).trans hx622_1
                   replace p622:=eq_true p622
                   replace q622:=eq_true q622
                   try go_wp2_with (first|((with_reducible refine gate_dst (N:=9) rfl ?_);(try (refine gate_guard (by rfl) ?_;dsimp only));refine box_event ?hg (N:=9) ?hd (cs:=#[.int .i64 0,.int .i64 0]) (t:=88) ?hr ?_;(case hd=>rfl);(case hg=>rfl);(case hr=>first|(go_simp;done)|(go_simp;rfl));intro gb623 hg w71 hbox hb;have n0_:=Aside0.mk (Kd.R_below (by exact HO_5.out) hb);have n1_:=Aside0.mk (Kd.S_below (by exact HO_6.out) hb);have n2_:=Aside0.mk (blk_below (g:=gb614) (o:=.cells #[.int .i64 a0_0,.slice (some ad622) l0_1.length c0_1] 30 (0,0)) (by exact BK614.out) hb);have n3_:=Aside0.mk (blk_below (g:=gb620) (o:=.cells #[.int .i64 ((rd_T56 l1 x23_2).f0),.int .i64 ((rd_T56 l1 x23_2).f1),.int .i64 ((rd_T56 l1 x23_2).f2)] 56 (0,0)) (by exact BK620.out) hb);have n4_:=Aside0.mk (below_step (by exact HB.out) hb);have n5_:=Aside0.mk (hbox);have n6_:=Aside0.mk ((by rw [hg];exact (below_size (by exact HB.out)):w.heap.size≤gb623));have n7_:=Aside0.mk ((by rw [hg];exact (below_size (by exact HB.out)):w.heap.size≤gb623));have n8_:=Aside0.mk ((by rw [hg];exact Nat.ne_of_lt (blk_lt (g:=gb614) (o:=.cells #[.int .i64 a0_0,.slice (some ad622) l0_1.length c0_1] 30 (0,0)) (by exact BK614.out)):gb614 ≠ gb623));have n9_:=Aside0.mk ((by rw [hg];exact Nat.ne_of_gt (blk_lt (g:=gb614) (o:=.cells #[.int .i64 a0_0,.slice (some ad622) l0_1.length c0_1] 30 (0,0)) (by exact BK614.out)):gb623 ≠ gb614));have n10_:=Aside0.mk ((by rw [hg];exact Nat.ne_of_lt (blk_lt (g:=gb620) (o:=.cells #[.int .i64 ((rd_T56 l1 x23_2).f0),.int .i64 ((rd_T56 l1 x23_2).f1),.int .i64 ((rd_T56 l1 x23_2).f2)] 56 (0,0)) (by exact BK620.out)):gb620 ≠ gb623));have n11_:=Aside0.mk ((by rw [hg];exact Nat.ne_of_gt (blk_lt (g:=gb620) (o:=.cells #[.int .i64 ((rd_T56 l1 x23_2).f0),.int .i64 ((rd_T56 l1 x23_2).f1),.int .i64 ((rd_T56 l1 x23_2).f2)] 56 (0,0)) (by exact BK620.out)):gb623 ≠ gb620));clear HO_5;clear HO_6;clear BK614;clear BK620;clear HB;have HO_5:=n0_;have HO_6:=n1_;have BK614:=n2_;have BK620:=n3_;have HB:=n4_;have BK623:=n5_;have GW623:=n6_;have GE623:=n7_;have NB614_623:=n8_;have NB623_614:=n9_;have NB620_623:=n10_;have NB623_620:=n11_;clear n0_ n1_ n2_ n3_ n4_ n5_ n6_ n7_ n8_ n9_ n10_ n11_;clear hb hbox hg;have hnb72:=NB623_614.out;have hnc72:=NB614_623.out;have hnb73:=NB623_620.out;have hnc73:=NB620_623.out;have hcz74_0:w71.cell? ⟨gb623,0,none⟩=some (.int .i64 0):=(blk_cell BK623.out 0).trans rfl;have hcz74_1:w71.cell? ⟨gb623,1,none⟩=some (.int .i64 0):=(blk_cell BK623.out 1).trans rfl;have hfz74_0:=blk_frozen BK623.out 0;have hfz74_1:=blk_frozen BK623.out 1))
                   have n0_:Aside0 (Kd.R (Kd.int .i64) 3 ((w71.setCell ⟨gb623,0,none⟩ (.int .i64 ((rd_T88 l0_1 ((rd_T56 l1 x23_2).f1)).f0))).setCell ⟨gb623,1,none⟩ (.int .i64 ((rd_T88 l0_1 ((rd_T56 l1 x23_2).f1)).f1))) w.heap.size (fun _=>True) v617 x5_2):=⟨by exact Kd.R_mono (Kd.R_far (p:=⟨gb623,1,none⟩) (Kd.R_far (p:=⟨gb623,0,none⟩) (Kd.R_types HO_5.out BK623.out (by decide)) (fun _ hk=>hk.2) (.int .i64 ((rd_T88 l0_1 ((rd_T56 l1 x23_2).f1)).f0))) (fun _ hk=>hk.2) (.int .i64 ((rd_T88 l0_1 ((rd_T56 l1 x23_2).f1)).f1))) (fun _ hk=>trivial)⟩
                   have n1_:Aside0 (Kd.S (Kd.slice 3 (Kd.int .i64)) 59 ((w71.setCell ⟨gb623,0,none⟩ (.int .i64 ((rd_T88 l0_1 ((rd_T56 l1 x23_2).f1)).f0))).setCell ⟨gb623,1,none⟩ (.int .i64 ((rd_T88 l0_1 ((rd_T56 l1 x23_2).f1)).f1))) w.heap.size (fun k_=>some k_ ≠ (v617:Value).ownBlock) u6 x6_2):=⟨by exact Kd.S_mono (Kd.S_far (p:=⟨gb623,1,none⟩) (Kd.S_far (p:=⟨gb623,0,none⟩) (Kd.S_types HO_6.out BK623.out (by decide)) (fun _ hk=>hk.2) (.int .i64 ((rd_T88 l0_1 ((rd_T56 l1 x23_2).f1)).f0))) (fun _ hk=>hk.2) (.int .i64 ((rd_T88 l0_1 ((rd_T56 l1 x23_2).f1)).f1))) (fun _ hk=>hk.1)⟩
                   have n2_:Aside0 (((w71.setCell ⟨gb623,0,none⟩ (.int .i64 ((rd_T88 l0_1 ((rd_T56 l1 x23_2).f1)).f0))).setCell ⟨gb623,1,none⟩ (.int .i64 ((rd_T88 l0_1 ((rd_T56 l1 x23_2).f1)).f1))).heap[gb614]?=some (.cells #[.int .i64 a0_0,.slice (some ad622) l0_1.length c0_1] 30 (0,0))):=⟨by refine blk_far ?_ NB614_623.out _;refine blk_far ?_ NB614_623.out _;exact BK614.out⟩
                   have n3_:Aside0 (((w71.setCell ⟨gb623,0,none⟩ (.int .i64 ((rd_T88 l0_1 ((rd_T56 l1 x23_2).f1)).f0))).setCell ⟨gb623,1,none⟩ (.int .i64 ((rd_T88 l0_1 ((rd_T56 l1 x23_2).f1)).f1))).heap[gb620]?=some (.cells #[.int .i64 ((rd_T56 l1 x23_2).f0),.int .i64 ((rd_T56 l1 x23_2).f1),.int .i64 ((rd_T56 l1 x23_2).f2)] 56 (0,0))):=⟨by (with_reducible repeat (first|refine blk_drewN ?_ _|refine blk_drew ?_|refine blk_alloc ?_ _));refine blk_far ?_ NB620_623.out _;(with_reducible repeat (first|refine blk_drewN ?_ _|refine blk_drew ?_|refine blk_alloc ?_ _));refine blk_far ?_ NB620_623.out _;(with_reducible repeat (first|refine blk_drewN ?_ _|refine blk_drew ?_|refine blk_alloc ?_ _));exact BK620.out⟩
                   have n4_:Aside0 (((w71.setCell ⟨gb623,0,none⟩ (.int .i64 ((rd_T88 l0_1 ((rd_T56 l1 x23_2).f1)).f0))).setCell ⟨gb623,1,none⟩ (.int .i64 ((rd_T88 l0_1 ((rd_T56 l1 x23_2).f1)).f1))).heap[gb623]?=some (.cells #[.int .i64 ((rd_T88 l0_1 ((rd_T56 l1 x23_2).f1)).f0),.int .i64 ((rd_T88 l0_1 ((rd_T56 l1 x23_2).f1)).f1)] 88 (0,0))):=⟨by (with_reducible repeat (first|refine blk_drewN ?_ _|refine blk_drew ?_|refine blk_alloc ?_ _));refine blk_put (cs:=#[.int .i64 ((rd_T88 l0_1 ((rd_T56 l1 x23_2).f1)).f0),.int .i64 0]) ?_ 1 _ rfl;(with_reducible repeat (first|refine blk_drewN ?_ _|refine blk_drew ?_|refine blk_alloc ?_ _));refine blk_put (cs:=#[.int .i64 0,.int .i64 0]) ?_ 0 _ rfl;(with_reducible repeat (first|refine blk_drewN ?_ _|refine blk_drew ?_|refine blk_alloc ?_ _));exact BK623.out⟩
                   have n5_:Aside0 (Below w.heap.size w ((w71.setCell ⟨gb623,0,none⟩ (.int .i64 ((rd_T88 l0_1 ((rd_T56 l1 x23_2).f1)).f0))).setCell ⟨gb623,1,none⟩ (.int .i64 ((rd_T88 l0_1 ((rd_T56 l1 x23_2).f1)).f1)))):=⟨by repeat (first|(with_reducible first|exact HB.out|apply below_alloc|apply pw_below_drewN|apply below_drew1|refine below_set ?_ GE614.out|refine below_set ?_ GE620.out|refine below_set ?_ GE623.out)|exact HB.out)⟩
                   (try clear HO_5)
                   (try clear HO_6)
                   (try clear BK614)
                   (try clear BK620)
                   (try clear BK623)
                   (try clear HB)
                   generalize ((w71.setCell ⟨gb623,0,none⟩ (.int .i64 ((rd_T88 l0_1 ((rd_T56 l1 x23_2).f1)).f0))).setCell ⟨gb623,1,none⟩ (.int .i64 ((rd_T88 l0_1 ((rd_T56 l1 x23_2).f1)).f1)))=w75 at n0_ n1_ n2_ n3_ n4_ n5_ ⊢
                   have HO_5:=n0_
                   have HO_6:=n1_
                   have BK614:=n2_
                   have BK620:=n3_
                   have BK623:=n4_
                   have HB:=n5_
                   clear n0_ n1_ n2_ n3_ n4_ n5_
                   have n0_:=Aside0.mk (Kd.R_drew HO_5.out)
                   have n1_:=Aside0.mk (Kd.S_drew HO_6.out)
                   have n2_:=Aside0.mk (blk_drew BK614.out)
                   have n3_:=Aside0.mk (blk_drew BK620.out)
                   have n4_:=Aside0.mk (blk_drew BK623.out)
                   have n5_:=Aside0.mk (below_drew1 HB.out)
                   clear HO_5
                   clear HO_6
                   clear BK614
                   clear BK620
                   clear BK623
                   clear HB
                   have HO_5:=n0_
                   have HO_6:=n1_
                   have BK614:=n2_
                   have BK620:=n3_
                   have BK623:=n4_
                   have HB:=n5_
                   clear n0_ n1_ n2_ n3_ n4_ n5_
                   obtain ⟨Ao77,co77,eo77⟩:=Kd.R_slice HO_5.out
                   (first|subst eo77|(injection eo77 with f1_ f2_ f3_;have f4_:=f1_.symm;have f5_:=f3_.symm;clear f1_ f2_ f3_;subst f4_;subst f5_))
                   have p624:0≤(((rd_T88 l0_1 ((rd_T56 l1 x23_2).f1)).f0):Int):=of_decide_eq_true (by first|(with_reducible assumption)|assumption)
                   have q624:((rd_T88 l0_1 ((rd_T56 l1 x23_2).f1)).f0)<(x5_2.length:Int):=of_decide_eq_true (by first|(with_reducible assumption)|assumption)
                   obtain ⟨ad624,e624,hx624_0⟩:=Kd.at_int (Kd.R_reads' HO_5.out).2.2 ((rd_T88 l0_1 ((rd_T56 l1 x23_2).f1)).f0) p624 q624
                   cases e624
                   replace p624:=eq_true p624
                   replace q624:=eq_true q624
                   have p41:0≤(((rd_T88 l0_1 ((rd_T56 l1 x23_2).f1)).f0):Int):=of_decide_eq_true (by first|(with_reducible assumption)|assumption)
                   have q41:(((rd_T88 l0_1 ((rd_T56 l1 x23_2).f1)).f0):Int)<((x5_2.length:Int):Int):=of_decide_eq_true (by first|(with_reducible assumption)|assumption)
                   obtain ⟨go41,co41,eo41,gb41,gl41,cl41,HG41⟩:=Kd.R_form HO_5.out (by omega)
                   (first|cases eo41|(injection eo41 with ea_ en_ ec_;(first|subst ea_|(injection ea_ with ea_;subst ea_));subst ec_;clear en_))
                   have GB41:=Aside0.mk gb41
                   have GG41:=Aside0.mk HG41
                   clear gb41 gl41 HG41
                   (first|simp only [add_plain] at hx624_0|skip)
                   obtain ⟨hx41_0,hf41_0⟩:=Kd.R_celln 0 HO_5.out (((rd_T88 l0_1 ((rd_T56 l1 x23_2).f1)).f0):Int) p41 q41
                   replace p41:=eq_true p41
                   replace q41:=eq_true q41
                   have HP78:=Kd.R_putn HO_5.out (((rd_T88 l0_1 ((rd_T56 l1 x23_2).f1)).f0):Int) (wrap64 ((rd x5_2 ((rd_T88 l0_1 ((rd_T56 l1 x23_2).f1)).f0)) - ((rd_T56 l1 x23_2).f2)))
                   rw [← Ny625.out] at HP78
                   have HQ78:=Aside0.mk HP78
                   clear HP78
                   refine start_ (n:=10) (S:=fun w'=>w'.cell? ⟨gb623,0,none⟩=some (.int .i64 ((rd_T88 l0_1 ((rd_T56 l1 x23_2).f1)).f0))∧w'.cell? ⟨gb623,1,none⟩=some (.int .i64 ((rd_T88 l0_1 ((rd_T56 l1 x23_2).f1)).f1))∧w'.cell? ⟨gb620,0,none⟩=some (.int .i64 ((rd_T56 l1 x23_2).f0))∧w'.cell? ⟨gb620,1,none⟩=some (.int .i64 ((rd_T56 l1 x23_2).f1))∧w'.cell? ⟨gb620,2,none⟩=some (.int .i64 ((rd_T56 l1 x23_2).f2))∧w'.cell? ⟨go41,(((rd_T88 l0_1 ((rd_T56 l1 x23_2).f1)).f0)).toNat,none⟩=some (.int .i64 (rd x5_2 ((rd_T88 l0_1 ((rd_T56 l1 x23_2).f1)).f0)))) (ds:=[9]) #[false,false,false,false,false,false,false,false,false,false] (by kernel_rfl) rfl rfl ⟨(blk_cell BK623.out 0).trans rfl,(blk_cell BK623.out 1).trans rfl,(blk_cell BK620.out 0).trans rfl,(blk_cell BK620.out 1).trans rfl,(blk_cell BK620.out 2).trans rfl,hx624_0⟩ (fun hHeld=>?_);refine with_tabW impl_Truth.tab11 impl_Truth.bits11 (fun HT_ HW_=>?_)
                   generalize w75.drew=w76 at HO_5 HO_6 BK614 BK620 BK623 HB GG41 HQ78 hf41_0 hx41_0 hx624_0 hHeld ⊢
                   refine pure_ (i:=0) (N:=some 44) (v:=?_) (a':=?_) #[true,false,false,false,false,false,false,false,false,false] rfl rfl (any_of HT_.out (by kernel_rfl)) (fun _ _ _ h=>h) (Or.inl ⟨by rfl,?_⟩) ?_ ?_
                   rotate_left
                   ·intro w'
                    go_simp
                    with_reducible rfl
                   rotate_left
                   ·simp only [Act.put,List.setIfInBounds_toArray,List.set_cons_zero,List.set_cons_succ,i64_w,i32_w]
                    rfl
                   refine pure_ (i:=1) (N:=some 45) (v:=?_) (a':=?_) #[true,true,false,false,false,false,false,false,false,false] rfl rfl (any_of HT_.out (by kernel_rfl)) (fun _ _ _ h=>h) (Or.inl ⟨by rfl,?_⟩) ?_ ?_
                   rotate_left
                   ·intro w'
                    go_simp
                    with_reducible rfl
                   rotate_left
                   ·simp only [Act.put,List.setIfInBounds_toArray,List.set_cons_zero,List.set_cons_succ,i64_w,i32_w]
                    rfl
                   refine pure_ (i:=5) (N:=some 49) (v:=?_) (a':=?_) #[true,true,false,false,false,true,false,false,false,false] rfl rfl (any_of HT_.out (by kernel_rfl)) (fun _ _ _ h=>h) (Or.inl ⟨by rfl,?_⟩) ?_ ?_
                   rotate_left
                   ·intro w'
                    go_simp
                    with_reducible rfl
                   rotate_left
                   ·simp only [Act.put,List.setIfInBounds_toArray,List.set_cons_zero,List.set_cons_succ,i64_w,i32_w]
                    rfl
                   refine take_ (i:=2) (N:=some 46) (v:=?_) (a':=?_) #[true,true,true,false,false,true,false,false,false,false] rfl rfl (take_ofW HT_.out HW_.out (by kernel_rfl)) (fun _ _ _ h=>h) (Or.inl ⟨by rfl,?_⟩) hHeld ?_ ?_
                   rotate_left
                   ·rintro w' ⟨s0,s1,s2,s3,s4,s5⟩
                    go_simp
                    with_reducible rfl
                   rotate_left
                   ·simp only [Act.put,List.setIfInBounds_toArray,List.set_cons_zero,List.set_cons_succ,i64_w,i32_w]
                    rfl
                   refine pure_ (i:=3) (N:=some 47) (v:=?_) (a':=?_) #[true,true,true,true,false,true,false,false,false,false] rfl rfl (any_of HT_.out (by kernel_rfl)) (fun _ _ _ h=>h) (Or.inl ⟨by rfl,?_⟩) ?_ ?_
                   rotate_left
                   ·intro w'
                    go_simp
                    with_reducible rfl
                   rotate_left
                   ·simp only [Act.put,List.setIfInBounds_toArray,List.set_cons_zero,List.set_cons_succ,i64_w,i32_w]
                    rfl
                   refine take_ (i:=4) (N:=some 48) (v:=?_) (a':=?_) #[true,true,true,true,true,true,false,false,false,false] rfl rfl (take_ofW HT_.out HW_.out (by kernel_rfl)) (fun _ _ _ h=>h) (Or.inl ⟨by rfl,?_⟩) hHeld ?_ ?_
                   rotate_left
                   ·rintro w' ⟨s0,s1,s2,s3,s4,s5⟩
                    go_simp
                    with_reducible rfl
                   rotate_left
                   ·simp only [Act.put,List.setIfInBounds_toArray,List.set_cons_zero,List.set_cons_succ,i64_w,i32_w]
                    rfl
                   refine take_ (i:=6) (N:=some 50) (v:=?_) (a':=?_) #[true,true,true,true,true,true,true,false,false,false] rfl rfl (take_ofW HT_.out HW_.out (by kernel_rfl)) (fun _ _ _ h=>h) (Or.inl ⟨by rfl,?_⟩) hHeld ?_ ?_
                   rotate_left
                   ·rintro w' ⟨s0,s1,s2,s3,s4,s5⟩
                    go_simp
                    with_reducible rfl
                   rotate_left
                   ·simp only [Act.put,List.setIfInBounds_toArray,List.set_cons_zero,List.set_cons_succ,i64_w,i32_w]
                    rfl
                   refine pure_ (i:=7) (N:=some 51) (v:=?_) (a':=?_) #[true,true,true,true,true,true,true,true,false,false] rfl rfl (any_of HT_.out (by kernel_rfl)) (fun _ _ _ h=>h) (Or.inl ⟨by rfl,?_⟩) ?_ ?_
                   rotate_left
                   ·intro w'
                    go_simp
                    with_reducible rfl
                   rotate_left
                   ·simp only [Act.put,List.setIfInBounds_toArray,List.set_cons_zero,List.set_cons_succ,i64_w,i32_w]
                    rfl
                   refine pure_ (i:=8) (N:=some 52) (v:=?_) (a':=?_) #[true,true,true,true,true,true,true,true,true,false] rfl rfl (any_of HT_.out (by kernel_rfl)) (fun _ _ _ h=>h) (Or.inl ⟨by rfl,?_⟩) ?_ ?_
                   rotate_left
                   ·intro w'
                    go_simp
                    with_reducible rfl
                   rotate_left
                   ·simp only [Act.put,List.setIfInBounds_toArray,List.set_cons_zero,List.set_cons_succ,i64_w,i32_w]
                    rfl
                   refine last_ (i:=9) (N:=none) #[true,true,true,true,true,true,true,true,true,true] rfl rfl (one_of HT_.out (by kernel_rfl)) (by decide) (fun K hK=>?_)
                   refine skip_ (w1:=?_) (by rfl) rfl ?_ ?_
                   rotate_left
                   ·go_simp
                    rfl
                   refine hK.out _ _ ?_
                   clear hK K
                   refine done_ (done_of HT_.out (by kernel_rfl)) ?_
                   have hnx_:gb623 ≠ go41:=(by have h_:=Kd.R_ne HO_5.out BK623.out (by decide);intro e_;exact h_ (by rw [e_];rfl))
                   have hny_:go41 ≠ gb623:=fun e_=>hnx_ e_.symm
                   have hcz79_0:w76.cell? ⟨gb623,0,none⟩=some (.int .i64 ((rd_T88 l0_1 ((rd_T56 l1 x23_2).f1)).f0)):=(blk_cell BK623.out 0).trans rfl
                   have hcz79_1:w76.cell? ⟨gb623,1,none⟩=some (.int .i64 ((rd_T88 l0_1 ((rd_T56 l1 x23_2).f1)).f1)):=(blk_cell BK623.out 1).trans rfl
                   have hfz79_0:=blk_frozen BK623.out 0
                   have hfz79_1:=blk_frozen BK623.out 1
                   try go_wp2_with (first|((with_reducible refine gate_callee (f:=110) rfl ?_);refine goesL_ (some 67) rfl rfl Try.func110 (by kernel_rfl) rfl #[.slice (some ⟨go41,0,none⟩) y625.length co77] rfl (by (try simp only [List.map_toArray,List.map_cons,List.map_nil]);first|done|(rw [show y625.length=x5_2.length from (Kd.R_reads' HQ78.out).1.symm] <;> rfl)|rfl|(simp only [List.length_drop,List.length_take];rfl)) ?_;(with_reducible refine (slices_Clone_int_int.calls _ _ y625 t634 _ ?side1 ?side2 A66.out).mono ?_);(case side1=>refine (Kd.R_reads' (e:=3) (base:=w.heap.size) (ok:=fun k_=>True) (n:=x5_2.length) (c:=co77) ?_).2.2;exact (by (with_reducible repeat (first|apply Kd.R_alloc|apply Kd.R_drewN|apply Kd.R_drew));exact HQ78.out));(case side2=>rw [show y625.length=x5_2.length from (Kd.R_reads' HQ78.out).1.symm];exact (Kd.R_reads' HO_5.out).2.1);rintro e w80 ⟨v635,rfl,ho0,hb⟩;refine ⟨_,rfl,?_⟩;have n0_:=Aside0.mk (Kd.R_elder' (by (with_reducible repeat (first|apply Kd.R_alloc|apply Kd.R_drewN|apply Kd.R_drew));exact HQ78.out) (Kd.R_base ho0) hb);have n1_:=Aside0.mk (Kd.S_elder' (by (with_reducible repeat (first|apply Kd.S_alloc|apply Kd.S_drewN|apply Kd.S_drew));exact (Kd.S_mono (Kd.S_far (p:=⟨go41,(((rd_T88 l0_1 ((rd_T56 l1 x23_2).f1)).f0):Int).toNat,none⟩) (Kd.S_mono HO_6.out (fun k_ hk=>(⟨hk,fun e_=>hk (by rw [e_];rfl)⟩:_∧k_ ≠ go41))) (fun _ hk=>hk.2) (.int .i64 (wrap64 ((rd x5_2 ((rd_T88 l0_1 ((rd_T56 l1 x23_2).f1)).f0)) - ((rd_T56 l1 x23_2).f2))))) (fun _ h_=>h_.1))) (Kd.R_base ho0) hb);have n2_:=Aside0.mk (Kd.R_lower (Kd.R_new' ho0 (Kd.R_lt (by (with_reducible repeat (first|apply Kd.R_alloc|apply Kd.R_drewN|apply Kd.R_drew));exact HQ78.out))) (below_size (by repeat (first|(with_reducible first|exact HB.out|apply below_alloc|apply pw_below_drewN|apply below_drew1|refine below_set ?_ GB41.out|refine below_set ?_ GE614.out|refine below_set ?_ GE620.out|refine below_set ?_ GE623.out)|exact HB.out))));have n3_:=Aside0.mk (blk_below (g:=gb614) (o:=.cells #[.int .i64 a0_0,.slice (some ad622) l0_1.length c0_1] 30 (0,0)) (by (with_reducible repeat (first|refine blk_drewN ?_ _|refine blk_drew ?_|refine blk_alloc ?_ _));refine blk_far ?_ (by have h_:=Kd.R_ne HO_5.out BK614.out (by decide);intro e_;exact h_ (by rw [e_];rfl)) _;(with_reducible repeat (first|refine blk_drewN ?_ _|refine blk_drew ?_|refine blk_alloc ?_ _));exact BK614.out) hb);have n4_:=Aside0.mk (blk_below (g:=gb620) (o:=.cells #[.int .i64 ((rd_T56 l1 x23_2).f0),.int .i64 ((rd_T56 l1 x23_2).f1),.int .i64 ((rd_T56 l1 x23_2).f2)] 56 (0,0)) (by (with_reducible repeat (first|refine blk_drewN ?_ _|refine blk_drew ?_|refine blk_alloc ?_ _));refine blk_far ?_ (by have h_:=Kd.R_ne HO_5.out BK620.out (by decide);intro e_;exact h_ (by rw [e_];rfl)) _;(with_reducible repeat (first|refine blk_drewN ?_ _|refine blk_drew ?_|refine blk_alloc ?_ _));exact BK620.out) hb);have n5_:=Aside0.mk (blk_below (g:=gb623) (o:=.cells #[.int .i64 ((rd_T88 l0_1 ((rd_T56 l1 x23_2).f1)).f0),.int .i64 ((rd_T88 l0_1 ((rd_T56 l1 x23_2).f1)).f1)] 88 (0,0)) (by (with_reducible repeat (first|refine blk_drewN ?_ _|refine blk_drew ?_|refine blk_alloc ?_ _));refine blk_far ?_ (by have h_:=Kd.R_ne HO_5.out BK623.out (by decide);intro e_;exact h_ (by rw [e_];rfl)) _;(with_reducible repeat (first|refine blk_drewN ?_ _|refine blk_drew ?_|refine blk_alloc ?_ _));exact BK623.out) hb);have n6_:=Aside0.mk (below_step (by repeat (first|(with_reducible first|exact HB.out|apply below_alloc|apply pw_below_drewN|apply below_drew1|refine below_set ?_ GB41.out|refine below_set ?_ GE614.out|refine below_set ?_ GE620.out|refine below_set ?_ GE623.out)|exact HB.out)) hb);clear HO_5;clear HO_6;clear BK614;clear BK620;clear BK623;clear HB;have HO_5:=n0_;have HO_6:=n1_;have HO636:=n2_;have BK614:=n3_;have BK620:=n4_;have BK623:=n5_;have HB:=n6_;clear n0_ n1_ n2_ n3_ n4_ n5_ n6_;(try clear hb);(try clear hb2);(try clear hk);(try clear hi);(try clear ho0);obtain ⟨Ao82,co82,eo82⟩:=Kd.R_slice HO636.out;subst eo82)|((with_reducible refine gate_builtin (b:=.append) (xs:=#[.tmp 65,.tmp 68]) rfl ?_);(try (refine gate_guard (by rfl) ?_;dsimp only));at_builtin;refine Kd.S_append (Kd.slice 3 (Kd.int .i64)) (w0:=w) w.heap.size rfl (.tmp 65) (.tmp 68) 73 59 (.slice none 0 0) 24 rfl Try.underlying73 info59 rfl (by decide) (by omega) u6 x6_2 t634 [.slice Ao82 t634.length co82] (fun k_=>some k_ ≠ (.slice (some ⟨go41,0,none⟩) x5_2.length co77:Value).ownBlock) (fun k_=>some k_=(.slice Ao82 t634.length co82:Value).ownBlock) rfl rfl ?aP (fun k_ hk_=>((Kd.R_mono (ok':=fun k_=>((fun k_=>some k_ ≠ (.slice (some ⟨go41,0,none⟩) x5_2.length co77:Value).ownBlock)) k_∧some k_ ≠ (u6:Value).ownBlock) (Kd.R_apart' (HO636.out) (Kd.S_typed HO_6.out) (by decide)) (fun k_ hk=>⟨hk.1.2,hk.2⟩))).1 k_ hk_.symm) ?aF ?aO ?aB ?aS ?aL ?_;(case aP=>exact Kd.M_row (Kd.R_mono (Kd.R_tight rfl (Kd.R_mono (ok':=fun k_=>((fun k_=>some k_ ≠ (.slice (some ⟨go41,0,none⟩) x5_2.length co77:Value).ownBlock)) k_∧some k_ ≠ (u6:Value).ownBlock) (Kd.R_apart' (HO636.out) (Kd.S_typed HO_6.out) (by decide)) (fun k_ hk=>⟨hk.1.2,hk.2⟩))) (fun _ h_=>h_)));(case aB=>exact (by repeat (first|(with_reducible first|exact HB.out|apply below_alloc|apply pw_below_drewN|apply below_drew1|refine below_set ?_ GE614.out|refine below_set ?_ GE620.out|refine below_set ?_ GE623.out)|exact HB.out)));(case aF=>exact (fun k_ hk=>Kd.fresh' (Kd.R_lt (by (with_reducible repeat (first|apply Kd.R_alloc|apply Kd.R_drewN|apply Kd.R_drew));exact HO_5.out)) k_ hk));(case aO=>exact (by (with_reducible repeat (first|apply Kd.S_alloc|apply Kd.S_drewN|apply Kd.S_drew));exact Kd.S_mono HO_6.out (fun k_ hk=>⟨hk.1,fun e_=>hk.2 e_⟩)));(case aS=>exact (below_size (by repeat (first|(with_reducible first|exact HB.out|apply below_alloc|apply pw_below_drewN|apply below_drew1|refine below_set ?_ GE614.out|refine below_set ?_ GE620.out|refine below_set ?_ GE623.out)|exact HB.out))));(case aL=>have:=LMc67.out;omega);intro v638 w81 ho hb hg hat;rw [← Ny637.out] at ho;have n0_:=Aside0.mk (Kd.R_over' (by (with_reducible repeat (first|apply Kd.R_alloc|apply Kd.R_drewN|apply Kd.R_drew));exact HO_5.out) (Kd.S_typed (by (with_reducible repeat (first|apply Kd.S_alloc|apply Kd.S_drewN|apply Kd.S_drew));exact HO_6.out)) (by decide) hg);have n1_:=Aside0.mk (blk_grown (g:=gb614) (o:=.cells #[.int .i64 a0_0,.slice (some ad622) l0_1.length c0_1] 30 (0,0)) (by (with_reducible repeat (first|refine blk_drewN ?_ _|refine blk_drew ?_|refine blk_alloc ?_ _));exact BK614.out) hg (Kd.S_ne HO_6.out BK614.out (by decide)));have n2_:=Aside0.mk (blk_grown (g:=gb620) (o:=.cells #[.int .i64 ((rd_T56 l1 x23_2).f0),.int .i64 ((rd_T56 l1 x23_2).f1),.int .i64 ((rd_T56 l1 x23_2).f2)] 56 (0,0)) (by (with_reducible repeat (first|refine blk_drewN ?_ _|refine blk_drew ?_|refine blk_alloc ?_ _));exact BK620.out) hg (Kd.S_ne HO_6.out BK620.out (by decide)));have n3_:=Aside0.mk (blk_grown (g:=gb623) (o:=.cells #[.int .i64 ((rd_T88 l0_1 ((rd_T56 l1 x23_2).f1)).f0),.int .i64 ((rd_T88 l0_1 ((rd_T56 l1 x23_2).f1)).f1)] 88 (0,0)) (by (with_reducible repeat (first|refine blk_drewN ?_ _|refine blk_drew ?_|refine blk_alloc ?_ _));exact BK623.out) hg (Kd.S_ne HO_6.out BK623.out (by decide)));have n4_:=Aside0.mk (hb);have n5_:=Aside0.mk (ho);clear HO_5;clear BK614;clear BK620;clear BK623;clear HB;clear HO_6;clear HO636;have HO_5:=n0_;have BK614:=n1_;have BK620:=n2_;have BK623:=n3_;have HB:=n4_;have HO639:=n5_;clear n0_ n1_ n2_ n3_ n4_ n5_;clear ho hb hg hat))
                   go_roundg kj19
                   case measure=>have:=HJ2.out;have:=HK2.out;have:=HJ19.out;omega
                   case rel=>exact ⟨(y625),(y637),(wrap64 (x23_2+1)),(by first|rfl|(simp;done)|(simp [*];done)),H',⟨by have:=HJ2.out;have:=HK2.out;have:=HJ19.out;omega⟩,⟨by exact Kd.R_mono HO_5.out (fun _ hk=>trivial)⟩,⟨by exact HO639.out⟩,⟨by exact BK614.out⟩,⟨by exact HB.out⟩⟩
                  rw [if_neg c67] at H
                  exact absurd H (by simp)
                 rw [if_neg c40] at H
                 exact absurd H (by simp)
                rw [if_neg c39] at H
                exact absurd H (by simp)
               rw [if_neg c38] at H
               have c38b0:decide (0≤((rd_T88 l0_1 ((rd_T56 l1 x23_2).f1)).f0))=false:=decide_eq_false c38
               clear c38
               by_cases c83:((rd_T88 l0_1 ((rd_T56 l1 x23_2).f1)).f1) ≥ 0
               ·rw [if_pos c83] at H
                have c83b0:decide (0≤((rd_T88 l0_1 ((rd_T56 l1 x23_2).f1)).f1))=true:=decide_eq_true c83
                clear c83
                by_cases c84:0≤((rd_T88 l0_1 ((rd_T56 l1 x23_2).f1)).f1)
                ·rw [if_pos c84] at H
                 have c84b0:decide (0≤((rd_T88 l0_1 ((rd_T56 l1 x23_2).f1)).f1))=true:=decide_eq_true c84
                 clear c84
                 by_cases c85:((rd_T88 l0_1 ((rd_T56 l1 x23_2).f1)).f1)<(x5_2.length:Int)
                 ·rw [if_pos c85] at H
                  have c85b0:decide (((rd_T88 l0_1 ((rd_T56 l1 x23_2).f1)).f1)<(x5_2.length:Int))=true:=decide_eq_true c85
                  clear c85
                  obtain ⟨y641,hy641⟩:∃ y_:List Int,y_=(x5_2.set (((rd_T88 l0_1 ((rd_T56 l1 x23_2).f1)).f1):Int).toNat (wrap64 ((rd x5_2 ((rd_T88 l0_1 ((rd_T56 l1 x23_2).f1)).f1))+((rd_T56 l1 x23_2).f2)))):=⟨_,rfl⟩
                  replace H:((slices_Clone_int_int.f y641).bind fun t642=>(if x6_2.length<5864062014805 then (impl_Truth.l0 kj19 y641 (x6_2 ++ [t642]) l1 (l1.length:Int) (wrap64 (x23_2+1)) a0_0 l0_1) else (none)))=some r:=by first|(rw [hy641];with_reducible exact H)|(have H2_:=(Option.bind_some _ _).symm.trans H;rw [hy641];with_reducible exact H2_)|(have H2_:=(Option.bind_some _ _).symm.trans H;with_reducible exact H2_)|with_reducible exact H|(rw [hy641];exact H)|exact H
                  have Ny641:=Aside0.mk hy641
                  clear hy641
                  replace H:=Option.bind_eq_some_iff.mp H
                  obtain ⟨t642,A870,H⟩:=H
                  replace H:(if x6_2.length<5864062014805 then (impl_Truth.l0 kj19 y641 (x6_2 ++ [t642]) l1 (l1.length:Int) (wrap64 (x23_2+1)) a0_0 l0_1) else (none))=some r:=H
                  have A87:=Aside0.mk A870
                  clear A870
                  by_cases c88:x6_2.length<5864062014805
                  ·rw [if_pos c88] at H
                   have LMc88:=Aside0.mk c88
                   clear c88
                   obtain ⟨y645,hy645⟩:∃ y_:List (List Int),y_=(x6_2 ++ [t642]):=⟨_,rfl⟩
                   replace H:(impl_Truth.l0 kj19 y641 y645 l1 (l1.length:Int) (wrap64 (x23_2+1)) a0_0 l0_1)=some r:=by first|(rw [hy645];with_reducible exact H)|(have H2_:=(Option.bind_some _ _).symm.trans H;rw [hy645];with_reducible exact H2_)|(have H2_:=(Option.bind_some _ _).symm.trans H;with_reducible exact H2_)|with_reducible exact H|(rw [hy645];exact H)|exact H
                   have Ny645:=Aside0.mk hy645
                   clear hy645
                   have H':=Aside0.mk H
                   clear H
                   have hnb89:=NB614_620.out
                   have hnc89:=NB620_614.out
                   have hcz90_0:wc.cell? ⟨gb614,0,none⟩=some (.int .i64 a0_0):=(blk_cell BK614.out 0).trans rfl
                   have hcz90_1:wc.cell? ⟨gb614,1,none⟩=some (.slice A0_1 l0_1.length c0_1):=(blk_cell BK614.out 1).trans rfl
                   have hfz90_0:=blk_frozen BK614.out 0
                   have hfz90_1:=blk_frozen BK614.out 1
                   have hcz91_0:wc.cell? ⟨gb620,0,none⟩=some (.int .i64 ((rd_T56 l1 x23_2).f0)):=(blk_cell BK620.out 0).trans rfl
                   have hcz91_1:wc.cell? ⟨gb620,1,none⟩=some (.int .i64 ((rd_T56 l1 x23_2).f1)):=(blk_cell BK620.out 1).trans rfl
                   have hcz91_2:wc.cell? ⟨gb620,2,none⟩=some (.int .i64 ((rd_T56 l1 x23_2).f2)):=(blk_cell BK620.out 2).trans rfl
                   have hfz91_0:=blk_frozen BK620.out 0
                   have hfz91_1:=blk_frozen BK620.out 1
                   have hfz91_2:=blk_frozen BK620.out 2
                   have p622:0≤(((rd_T56 l1 x23_2).f1):Int):=of_decide_eq_true (by first|(with_reducible assumption)|assumption)
                   have q622:((rd_T56 l1 x23_2).f1)<(l0_1.length:Int):=of_decide_eq_true (by first|(with_reducible assumption)|assumption)
                   obtain ⟨ad622,e622,hx622_0,hx622_1⟩:=at_T88 HR0_1.out ((rd_T56 l1 x23_2).f1) p622 q622
                   cases e622
                   replace hx622_0:=(HB.out.cell (World.block_lt_of_cell? w _ hx622_0)).trans hx622_0
                   replace hx622_1:=(HB.out.cell (World.block_lt_of_cell? w _ hx622_1)).trans hx622_1
                   replace p622:=eq_true p622
                   replace q622:=eq_true q622
                   try go_wp2_with (first|((with_reducible refine gate_dst (N:=9) rfl ?_);(try (refine gate_guard (by rfl) ?_;dsimp only));refine box_event ?hg (N:=9) ?hd (cs:=#[.int .i64 0,.int .i64 0]) (t:=88) ?hr ?_;(case hd=>rfl);(case hg=>rfl);(case hr=>first|(go_simp;done)|(go_simp;rfl));intro gb623 hg w92 hbox hb;have n0_:=Aside0.mk (Kd.R_below (by exact HO_5.out) hb);have n1_:=Aside0.mk (Kd.S_below (by exact HO_6.out) hb);have n2_:=Aside0.mk (blk_below (g:=gb614) (o:=.cells #[.int .i64 a0_0,.slice (some ad622) l0_1.length c0_1] 30 (0,0)) (by exact BK614.out) hb);have n3_:=Aside0.mk (blk_below (g:=gb620) (o:=.cells #[.int .i64 ((rd_T56 l1 x23_2).f0),.int .i64 ((rd_T56 l1 x23_2).f1),.int .i64 ((rd_T56 l1 x23_2).f2)] 56 (0,0)) (by exact BK620.out) hb);have n4_:=Aside0.mk (below_step (by exact HB.out) hb);have n5_:=Aside0.mk (hbox);have n6_:=Aside0.mk ((by rw [hg];exact (below_size (by exact HB.out)):w.heap.size≤gb623));have n7_:=Aside0.mk ((by rw [hg];exact (below_size (by exact HB.out)):w.heap.size≤gb623));have n8_:=Aside0.mk ((by rw [hg];exact Nat.ne_of_lt (blk_lt (g:=gb614) (o:=.cells #[.int .i64 a0_0,.slice (some ad622) l0_1.length c0_1] 30 (0,0)) (by exact BK614.out)):gb614 ≠ gb623));have n9_:=Aside0.mk ((by rw [hg];exact Nat.ne_of_gt (blk_lt (g:=gb614) (o:=.cells #[.int .i64 a0_0,.slice (some ad622) l0_1.length c0_1] 30 (0,0)) (by exact BK614.out)):gb623 ≠ gb614));have n10_:=Aside0.mk ((by rw [hg];exact Nat.ne_of_lt (blk_lt (g:=gb620) (o:=.cells #[.int .i64 ((rd_T56 l1 x23_2).f0),.int .i64 ((rd_T56 l1 x23_2).f1),.int .i64 ((rd_T56 l1 x23_2).f2)] 56 (0,0)) (by exact BK620.out)):gb620 ≠ gb623));have n11_:=Aside0.mk ((by rw [hg];exact Nat.ne_of_gt (blk_lt (g:=gb620) (o:=.cells #[.int .i64 ((rd_T56 l1 x23_2).f0),.int .i64 ((rd_T56 l1 x23_2).f1),.int .i64 ((rd_T56 l1 x23_2).f2)] 56 (0,0)) (by exact BK620.out)):gb623 ≠ gb620));clear HO_5;clear HO_6;clear BK614;clear BK620;clear HB;have HO_5:=n0_;have HO_6:=n1_;have BK614:=n2_;have BK620:=n3_;have HB:=n4_;have BK623:=n5_;have GW623:=n6_;have GE623:=n7_;have NB614_623:=n8_;have NB623_614:=n9_;have NB620_623:=n10_;have NB623_620:=n11_;clear n0_ n1_ n2_ n3_ n4_ n5_ n6_ n7_ n8_ n9_ n10_ n11_;clear hb hbox hg;have hnb93:=NB623_614.out;have hnc93:=NB614_623.out;have hnb94:=NB623_620.out;have hnc94:=NB620_623.out;have hcz95_0:w92.cell? ⟨gb623,0,none⟩=some (.int .i64 0):=(blk_cell BK623.out 0).trans rfl;have hcz95_1:w92.cell? ⟨gb623,1,none⟩=some (.int .i64 0):=(blk_cell BK623.out 1).trans rfl;have hfz95_0:=blk_frozen BK623.out 0;have hfz95_1:=blk_frozen BK623.out 1))
                   have n0_:Aside0 (Kd.R (Kd.int .i64) 3 ((w92.setCell ⟨gb623,0,none⟩ (.int .i64 ((rd_T88 l0_1 ((rd_T56 l1 x23_2).f1)).f0))).setCell ⟨gb623,1,none⟩ (.int .i64 ((rd_T88 l0_1 ((rd_T56 l1 x23_2).f1)).f1))) w.heap.size (fun _=>True) v617 x5_2):=⟨by exact Kd.R_mono (Kd.R_far (p:=⟨gb623,1,none⟩) (Kd.R_far (p:=⟨gb623,0,none⟩) (Kd.R_types HO_5.out BK623.out (by decide)) (fun _ hk=>hk.2) (.int .i64 ((rd_T88 l0_1 ((rd_T56 l1 x23_2).f1)).f0))) (fun _ hk=>hk.2) (.int .i64 ((rd_T88 l0_1 ((rd_T56 l1 x23_2).f1)).f1))) (fun _ hk=>trivial)⟩
                   have n1_:Aside0 (Kd.S (Kd.slice 3 (Kd.int .i64)) 59 ((w92.setCell ⟨gb623,0,none⟩ (.int .i64 ((rd_T88 l0_1 ((rd_T56 l1 x23_2).f1)).f0))).setCell ⟨gb623,1,none⟩ (.int .i64 ((rd_T88 l0_1 ((rd_T56 l1 x23_2).f1)).f1))) w.heap.size (fun k_=>some k_ ≠ (v617:Value).ownBlock) u6 x6_2):=⟨by exact Kd.S_mono (Kd.S_far (p:=⟨gb623,1,none⟩) (Kd.S_far (p:=⟨gb623,0,none⟩) (Kd.S_types HO_6.out BK623.out (by decide)) (fun _ hk=>hk.2) (.int .i64 ((rd_T88 l0_1 ((rd_T56 l1 x23_2).f1)).f0))) (fun _ hk=>hk.2) (.int .i64 ((rd_T88 l0_1 ((rd_T56 l1 x23_2).f1)).f1))) (fun _ hk=>hk.1)⟩
                   have n2_:Aside0 (((w92.setCell ⟨gb623,0,none⟩ (.int .i64 ((rd_T88 l0_1 ((rd_T56 l1 x23_2).f1)).f0))).setCell ⟨gb623,1,none⟩ (.int .i64 ((rd_T88 l0_1 ((rd_T56 l1 x23_2).f1)).f1))).heap[gb614]?=some (.cells #[.int .i64 a0_0,.slice (some ad622) l0_1.length c0_1] 30 (0,0))):=⟨by (with_reducible repeat (first|refine blk_drewN ?_ _|refine blk_drew ?_|refine blk_alloc ?_ _));refine blk_far ?_ NB614_623.out _;(with_reducible repeat (first|refine blk_drewN ?_ _|refine blk_drew ?_|refine blk_alloc ?_ _));refine blk_far ?_ NB614_623.out _;(with_reducible repeat (first|refine blk_drewN ?_ _|refine blk_drew ?_|refine blk_alloc ?_ _));exact BK614.out⟩
                   have n3_:Aside0 (((w92.setCell ⟨gb623,0,none⟩ (.int .i64 ((rd_T88 l0_1 ((rd_T56 l1 x23_2).f1)).f0))).setCell ⟨gb623,1,none⟩ (.int .i64 ((rd_T88 l0_1 ((rd_T56 l1 x23_2).f1)).f1))).heap[gb620]?=some (.cells #[.int .i64 ((rd_T56 l1 x23_2).f0),.int .i64 ((rd_T56 l1 x23_2).f1),.int .i64 ((rd_T56 l1 x23_2).f2)] 56 (0,0))):=⟨by (with_reducible repeat (first|refine blk_drewN ?_ _|refine blk_drew ?_|refine blk_alloc ?_ _));refine blk_far ?_ NB620_623.out _;(with_reducible repeat (first|refine blk_drewN ?_ _|refine blk_drew ?_|refine blk_alloc ?_ _));refine blk_far ?_ NB620_623.out _;(with_reducible repeat (first|refine blk_drewN ?_ _|refine blk_drew ?_|refine blk_alloc ?_ _));exact BK620.out⟩
                   have n4_:Aside0 (((w92.setCell ⟨gb623,0,none⟩ (.int .i64 ((rd_T88 l0_1 ((rd_T56 l1 x23_2).f1)).f0))).setCell ⟨gb623,1,none⟩ (.int .i64 ((rd_T88 l0_1 ((rd_T56 l1 x23_2).f1)).f1))).heap[gb623]?=some (.cells #[.int .i64 ((rd_T88 l0_1 ((rd_T56 l1 x23_2).f1)).f0),.int .i64 ((rd_T88 l0_1 ((rd_T56 l1 x23_2).f1)).f1)] 88 (0,0))):=⟨by (with_reducible repeat (first|refine blk_drewN ?_ _|refine blk_drew ?_|refine blk_alloc ?_ _));refine blk_put (cs:=#[.int .i64 ((rd_T88 l0_1 ((rd_T56 l1 x23_2).f1)).f0),.int .i64 0]) ?_ 1 _ rfl;(with_reducible repeat (first|refine blk_drewN ?_ _|refine blk_drew ?_|refine blk_alloc ?_ _));refine blk_put (cs:=#[.int .i64 0,.int .i64 0]) ?_ 0 _ rfl;(with_reducible repeat (first|refine blk_drewN ?_ _|refine blk_drew ?_|refine blk_alloc ?_ _));exact BK623.out⟩
                   have n5_:Aside0 (Below w.heap.size w ((w92.setCell ⟨gb623,0,none⟩ (.int .i64 ((rd_T88 l0_1 ((rd_T56 l1 x23_2).f1)).f0))).setCell ⟨gb623,1,none⟩ (.int .i64 ((rd_T88 l0_1 ((rd_T56 l1 x23_2).f1)).f1)))):=⟨by repeat (first|(with_reducible first|exact HB.out|apply below_alloc|apply pw_below_drewN|apply below_drew1|refine below_set ?_ GE614.out|refine below_set ?_ GE620.out|refine below_set ?_ GE623.out)|exact HB.out)⟩
                   (try clear HO_5)
                   (try clear HO_6)
                   (try clear BK614)
                   (try clear BK620)
                   (try clear BK623)
                   (try clear HB)
                   generalize ((w92.setCell ⟨gb623,0,none⟩ (.int .i64 ((rd_T88 l0_1 ((rd_T56 l1 x23_2).f1)).f0))).setCell ⟨gb623,1,none⟩ (.int .i64 ((rd_T88 l0_1 ((rd_T56 l1 x23_2).f1)).f1)))=w96 at n0_ n1_ n2_ n3_ n4_ n5_ ⊢
                   have HO_5:=n0_
                   have HO_6:=n1_
                   have BK614:=n2_
                   have BK620:=n3_
                   have BK623:=n4_
                   have HB:=n5_
                   clear n0_ n1_ n2_ n3_ n4_ n5_
                   have n0_:=Aside0.mk (Kd.R_drew HO_5.out)
                   have n1_:=Aside0.mk (Kd.S_drew HO_6.out)
                   have n2_:=Aside0.mk (blk_drew BK614.out)
                   have n3_:=Aside0.mk (blk_drew BK620.out)
                   have n4_:=Aside0.mk (blk_drew BK623.out)
                   have n5_:=Aside0.mk (below_drew1 HB.out)
                   clear HO_5
                   clear HO_6
                   clear BK614
                   clear BK620
                   clear BK623
                   clear HB
                   have HO_5:=n0_
                   have HO_6:=n1_
                   have BK614:=n2_
                   have BK620:=n3_
                   have BK623:=n4_
                   have HB:=n5_
                   clear n0_ n1_ n2_ n3_ n4_ n5_
                   obtain ⟨Ao98,co98,eo98⟩:=Kd.R_slice HO_5.out
                   (first|subst eo98|(injection eo98 with f1_ f2_ f3_;have f4_:=f1_.symm;have f5_:=f3_.symm;clear f1_ f2_ f3_;subst f4_;subst f5_))
                   have p640:0≤(((rd_T88 l0_1 ((rd_T56 l1 x23_2).f1)).f1):Int):=of_decide_eq_true (by first|(with_reducible assumption)|assumption)
                   have q640:((rd_T88 l0_1 ((rd_T56 l1 x23_2).f1)).f1)<(x5_2.length:Int):=of_decide_eq_true (by first|(with_reducible assumption)|assumption)
                   obtain ⟨ad640,e640,hx640_0⟩:=Kd.at_int (Kd.R_reads' HO_5.out).2.2 ((rd_T88 l0_1 ((rd_T56 l1 x23_2).f1)).f1) p640 q640
                   cases e640
                   replace p640:=eq_true p640
                   replace q640:=eq_true q640
                   have p86:0≤(((rd_T88 l0_1 ((rd_T56 l1 x23_2).f1)).f1):Int):=of_decide_eq_true (by first|(with_reducible assumption)|assumption)
                   have q86:(((rd_T88 l0_1 ((rd_T56 l1 x23_2).f1)).f1):Int)<((x5_2.length:Int):Int):=of_decide_eq_true (by first|(with_reducible assumption)|assumption)
                   obtain ⟨go86,co86,eo86,gb86,gl86,cl86,HG86⟩:=Kd.R_form HO_5.out (by omega)
                   (first|cases eo86|(injection eo86 with ea_ en_ ec_;(first|subst ea_|(injection ea_ with ea_;subst ea_));subst ec_;clear en_))
                   have GB86:=Aside0.mk gb86
                   have GG86:=Aside0.mk HG86
                   clear gb86 gl86 HG86
                   (first|simp only [add_plain] at hx640_0|skip)
                   obtain ⟨hx86_0,hf86_0⟩:=Kd.R_celln 0 HO_5.out (((rd_T88 l0_1 ((rd_T56 l1 x23_2).f1)).f1):Int) p86 q86
                   replace p86:=eq_true p86
                   replace q86:=eq_true q86
                   have HP99:=Kd.R_putn HO_5.out (((rd_T88 l0_1 ((rd_T56 l1 x23_2).f1)).f1):Int) (wrap64 ((rd x5_2 ((rd_T88 l0_1 ((rd_T56 l1 x23_2).f1)).f1))+((rd_T56 l1 x23_2).f2)))
                   rw [← Ny641.out] at HP99
                   have HQ99:=Aside0.mk HP99
                   clear HP99
                   refine start_ (n:=10) (S:=fun w'=>w'.cell? ⟨gb623,0,none⟩=some (.int .i64 ((rd_T88 l0_1 ((rd_T56 l1 x23_2).f1)).f0))∧w'.cell? ⟨gb623,1,none⟩=some (.int .i64 ((rd_T88 l0_1 ((rd_T56 l1 x23_2).f1)).f1))∧w'.cell? ⟨gb620,0,none⟩=some (.int .i64 ((rd_T56 l1 x23_2).f0))∧w'.cell? ⟨gb620,1,none⟩=some (.int .i64 ((rd_T56 l1 x23_2).f1))∧w'.cell? ⟨gb620,2,none⟩=some (.int .i64 ((rd_T56 l1 x23_2).f2))∧w'.cell? ⟨go86,(((rd_T88 l0_1 ((rd_T56 l1 x23_2).f1)).f1)).toNat,none⟩=some (.int .i64 (rd x5_2 ((rd_T88 l0_1 ((rd_T56 l1 x23_2).f1)).f1)))) (ds:=[9]) #[false,false,false,false,false,false,false,false,false,false] (by kernel_rfl) rfl rfl ⟨(blk_cell BK623.out 0).trans rfl,(blk_cell BK623.out 1).trans rfl,(blk_cell BK620.out 0).trans rfl,(blk_cell BK620.out 1).trans rfl,(blk_cell BK620.out 2).trans rfl,hx640_0⟩ (fun hHeld=>?_);refine with_tabW impl_Truth.tab13 impl_Truth.bits13 (fun HT_ HW_=>?_)
                   generalize w96.drew=w97 at HO_5 HO_6 BK614 BK620 BK623 HB GG86 HQ99 hf86_0 hx640_0 hx86_0 hHeld ⊢
                   refine pure_ (i:=0) (N:=some 56) (v:=?_) (a':=?_) #[true,false,false,false,false,false,false,false,false,false] rfl rfl (any_of HT_.out (by kernel_rfl)) (fun _ _ _ h=>h) (Or.inl ⟨by rfl,?_⟩) ?_ ?_
                   rotate_left
                   ·intro w'
                    go_simp
                    with_reducible rfl
                   rotate_left
                   ·simp only [Act.put,List.setIfInBounds_toArray,List.set_cons_zero,List.set_cons_succ,i64_w,i32_w]
                    rfl
                   refine pure_ (i:=1) (N:=some 57) (v:=?_) (a':=?_) #[true,true,false,false,false,false,false,false,false,false] rfl rfl (any_of HT_.out (by kernel_rfl)) (fun _ _ _ h=>h) (Or.inl ⟨by rfl,?_⟩) ?_ ?_
                   rotate_left
                   ·intro w'
                    go_simp
                    with_reducible rfl
                   rotate_left
                   ·simp only [Act.put,List.setIfInBounds_toArray,List.set_cons_zero,List.set_cons_succ,i64_w,i32_w]
                    rfl
                   refine pure_ (i:=5) (N:=some 61) (v:=?_) (a':=?_) #[true,true,false,false,false,true,false,false,false,false] rfl rfl (any_of HT_.out (by kernel_rfl)) (fun _ _ _ h=>h) (Or.inl ⟨by rfl,?_⟩) ?_ ?_
                   rotate_left
                   ·intro w'
                    go_simp
                    with_reducible rfl
                   rotate_left
                   ·simp only [Act.put,List.setIfInBounds_toArray,List.set_cons_zero,List.set_cons_succ,i64_w,i32_w]
                    rfl
                   refine take_ (i:=2) (N:=some 58) (v:=?_) (a':=?_) #[true,true,true,false,false,true,false,false,false,false] rfl rfl (take_ofW HT_.out HW_.out (by kernel_rfl)) (fun _ _ _ h=>h) (Or.inl ⟨by rfl,?_⟩) hHeld ?_ ?_
                   rotate_left
                   ·rintro w' ⟨s0,s1,s2,s3,s4,s5⟩
                    go_simp
                    with_reducible rfl
                   rotate_left
                   ·simp only [Act.put,List.setIfInBounds_toArray,List.set_cons_zero,List.set_cons_succ,i64_w,i32_w]
                    rfl
                   refine pure_ (i:=3) (N:=some 59) (v:=?_) (a':=?_) #[true,true,true,true,false,true,false,false,false,false] rfl rfl (any_of HT_.out (by kernel_rfl)) (fun _ _ _ h=>h) (Or.inl ⟨by rfl,?_⟩) ?_ ?_
                   rotate_left
                   ·intro w'
                    go_simp
                    with_reducible rfl
                   rotate_left
                   ·simp only [Act.put,List.setIfInBounds_toArray,List.set_cons_zero,List.set_cons_succ,i64_w,i32_w]
                    rfl
                   refine take_ (i:=4) (N:=some 60) (v:=?_) (a':=?_) #[true,true,true,true,true,true,false,false,false,false] rfl rfl (take_ofW HT_.out HW_.out (by kernel_rfl)) (fun _ _ _ h=>h) (Or.inl ⟨by rfl,?_⟩) hHeld ?_ ?_
                   rotate_left
                   ·rintro w' ⟨s0,s1,s2,s3,s4,s5⟩
                    go_simp
                    with_reducible rfl
                   rotate_left
                   ·simp only [Act.put,List.setIfInBounds_toArray,List.set_cons_zero,List.set_cons_succ,i64_w,i32_w]
                    rfl
                   refine take_ (i:=6) (N:=some 62) (v:=?_) (a':=?_) #[true,true,true,true,true,true,true,false,false,false] rfl rfl (take_ofW HT_.out HW_.out (by kernel_rfl)) (fun _ _ _ h=>h) (Or.inl ⟨by rfl,?_⟩) hHeld ?_ ?_
                   rotate_left
                   ·rintro w' ⟨s0,s1,s2,s3,s4,s5⟩
                    go_simp
                    with_reducible rfl
                   rotate_left
                   ·simp only [Act.put,List.setIfInBounds_toArray,List.set_cons_zero,List.set_cons_succ,i64_w,i32_w]
                    rfl
                   refine pure_ (i:=7) (N:=some 63) (v:=?_) (a':=?_) #[true,true,true,true,true,true,true,true,false,false] rfl rfl (any_of HT_.out (by kernel_rfl)) (fun _ _ _ h=>h) (Or.inl ⟨by rfl,?_⟩) ?_ ?_
                   rotate_left
                   ·intro w'
                    go_simp
                    with_reducible rfl
                   rotate_left
                   ·simp only [Act.put,List.setIfInBounds_toArray,List.set_cons_zero,List.set_cons_succ,i64_w,i32_w]
                    rfl
                   refine pure_ (i:=8) (N:=some 64) (v:=?_) (a':=?_) #[true,true,true,true,true,true,true,true,true,false] rfl rfl (any_of HT_.out (by kernel_rfl)) (fun _ _ _ h=>h) (Or.inl ⟨by rfl,?_⟩) ?_ ?_
                   rotate_left
                   ·intro w'
                    go_simp
                    with_reducible rfl
                   rotate_left
                   ·simp only [Act.put,List.setIfInBounds_toArray,List.set_cons_zero,List.set_cons_succ,i64_w,i32_w]
                    rfl
                   refine last_ (i:=9) (N:=none) #[true,true,true,true,true,true,true,true,true,true] rfl rfl (one_of HT_.out (by kernel_rfl)) (by decide) (fun K hK=>?_)
                   refine skip_ (w1:=?_) (by rfl) rfl ?_ ?_
                   rotate_left
                   ·go_simp
                    rfl
                   refine hK.out _ _ ?_
                   clear hK K
                   refine done_ (done_of HT_.out (by kernel_rfl)) ?_
                   try go_wp2_with (first|((with_reducible refine gate_callee (f:=110) rfl ?_);refine goesL_ (some 67) rfl rfl Try.func110 (by kernel_rfl) rfl #[.slice (some ⟨go86,0,none⟩) y641.length co98] rfl (by (try simp only [List.map_toArray,List.map_cons,List.map_nil]);first|done|(rw [show y641.length=x5_2.length from (Kd.R_reads' HQ99.out).1.symm] <;> rfl)|rfl|(simp only [List.length_drop,List.length_take];rfl)) ?_;(with_reducible refine (slices_Clone_int_int.calls _ _ y641 t642 _ ?side1 ?side2 A87.out).mono ?_);(case side1=>refine (Kd.R_reads' (e:=3) (base:=w.heap.size) (ok:=fun k_=>True) (n:=x5_2.length) (c:=co98) ?_).2.2;exact (by (with_reducible repeat (first|apply Kd.R_alloc|apply Kd.R_drewN|apply Kd.R_drew));exact HQ99.out));(case side2=>rw [show y641.length=x5_2.length from (Kd.R_reads' HQ99.out).1.symm];exact (Kd.R_reads' HO_5.out).2.1);rintro e w100 ⟨v643,rfl,ho0,hb⟩;refine ⟨_,rfl,?_⟩;have n0_:=Aside0.mk (Kd.R_elder' (by (with_reducible repeat (first|apply Kd.R_alloc|apply Kd.R_drewN|apply Kd.R_drew));exact HQ99.out) (Kd.R_base ho0) hb);have n1_:=Aside0.mk (Kd.S_elder' (by (with_reducible repeat (first|apply Kd.S_alloc|apply Kd.S_drewN|apply Kd.S_drew));exact (Kd.S_mono (Kd.S_far (p:=⟨go86,(((rd_T88 l0_1 ((rd_T56 l1 x23_2).f1)).f1):Int).toNat,none⟩) (Kd.S_mono HO_6.out (fun k_ hk=>(⟨hk,fun e_=>hk (by rw [e_];rfl)⟩:_∧k_ ≠ go86))) (fun _ hk=>hk.2) (.int .i64 (wrap64 ((rd x5_2 ((rd_T88 l0_1 ((rd_T56 l1 x23_2).f1)).f1))+((rd_T56 l1 x23_2).f2))))) (fun _ h_=>h_.1))) (Kd.R_base ho0) hb);have n2_:=Aside0.mk (Kd.R_lower (Kd.R_new' ho0 (Kd.R_lt (by (with_reducible repeat (first|apply Kd.R_alloc|apply Kd.R_drewN|apply Kd.R_drew));exact HQ99.out))) (below_size (by repeat (first|(with_reducible first|exact HB.out|apply below_alloc|apply pw_below_drewN|apply below_drew1|refine below_set ?_ GB86.out|refine below_set ?_ GE614.out|refine below_set ?_ GE620.out|refine below_set ?_ GE623.out)|exact HB.out))));have n3_:=Aside0.mk (blk_below (g:=gb614) (o:=.cells #[.int .i64 a0_0,.slice (some ad622) l0_1.length c0_1] 30 (0,0)) (by (with_reducible repeat (first|refine blk_drewN ?_ _|refine blk_drew ?_|refine blk_alloc ?_ _));refine blk_far ?_ (by have h_:=Kd.R_ne HO_5.out BK614.out (by decide);intro e_;exact h_ (by rw [e_];rfl)) _;(with_reducible repeat (first|refine blk_drewN ?_ _|refine blk_drew ?_|refine blk_alloc ?_ _));exact BK614.out) hb);have n4_:=Aside0.mk (blk_below (g:=gb620) (o:=.cells #[.int .i64 ((rd_T56 l1 x23_2).f0),.int .i64 ((rd_T56 l1 x23_2).f1),.int .i64 ((rd_T56 l1 x23_2).f2)] 56 (0,0)) (by (with_reducible repeat (first|refine blk_drewN ?_ _|refine blk_drew ?_|refine blk_alloc ?_ _));refine blk_far ?_ (by have h_:=Kd.R_ne HO_5.out BK620.out (by decide);intro e_;exact h_ (by rw [e_];rfl)) _;(with_reducible repeat (first|refine blk_drewN ?_ _|refine blk_drew ?_|refine blk_alloc ?_ _));exact BK620.out) hb);have n5_:=Aside0.mk (blk_below (g:=gb623) (o:=.cells #[.int .i64 ((rd_T88 l0_1 ((rd_T56 l1 x23_2).f1)).f0),.int .i64 ((rd_T88 l0_1 ((rd_T56 l1 x23_2).f1)).f1)] 88 (0,0)) (by (with_reducible repeat (first|refine blk_drewN ?_ _|refine blk_drew ?_|refine blk_alloc ?_ _));refine blk_far ?_ (by have h_:=Kd.R_ne HO_5.out BK623.out (by decide);intro e_;exact h_ (by rw [e_];rfl)) _;(with_reducible repeat (first|refine blk_drewN ?_ _|refine blk_drew ?_|refine blk_alloc ?_ _));exact BK623.out) hb);have n6_:=Aside0.mk (below_step (by repeat (first|(with_reducible first|exact HB.out|apply below_alloc|apply pw_below_drewN|apply below_drew1|refine below_set ?_ GB86.out|refine below_set ?_ GE614.out|refine below_set ?_ GE620.out|refine below_set ?_ GE623.out)|exact HB.out)) hb);clear HO_5;clear HO_6;clear BK614;clear BK620;clear BK623;clear HB;have HO_5:=n0_;have HO_6:=n1_;have HO644:=n2_;have BK614:=n3_;have BK620:=n4_;have BK623:=n5_;have HB:=n6_;clear n0_ n1_ n2_ n3_ n4_ n5_ n6_;(try clear hb);(try clear hb2);(try clear hk);(try clear hi);(try clear ho0);obtain ⟨Ao102,co102,eo102⟩:=Kd.R_slice HO644.out;subst eo102)|((with_reducible refine gate_builtin (b:=.append) (xs:=#[.tmp 65,.tmp 68]) rfl ?_);(try (refine gate_guard (by rfl) ?_;dsimp only));at_builtin;refine Kd.S_append (Kd.slice 3 (Kd.int .i64)) (w0:=w) w.heap.size rfl (.tmp 65) (.tmp 68) 73 59 (.slice none 0 0) 24 rfl Try.underlying73 info59 rfl (by decide) (by omega) u6 x6_2 t642 [.slice Ao102 t642.length co102] (fun k_=>some k_ ≠ (.slice (some ⟨go86,0,none⟩) x5_2.length co98:Value).ownBlock) (fun k_=>some k_=(.slice Ao102 t642.length co102:Value).ownBlock) rfl rfl ?aP (fun k_ hk_=>((Kd.R_mono (ok':=fun k_=>((fun k_=>some k_ ≠ (.slice (some ⟨go86,0,none⟩) x5_2.length co98:Value).ownBlock)) k_∧some k_ ≠ (u6:Value).ownBlock) (Kd.R_apart' (HO644.out) (Kd.S_typed HO_6.out) (by decide)) (fun k_ hk=>⟨hk.1.2,hk.2⟩))).1 k_ hk_.symm) ?aF ?aO ?aB ?aS ?aL ?_;(case aP=>exact Kd.M_row (Kd.R_mono (Kd.R_tight rfl (Kd.R_mono (ok':=fun k_=>((fun k_=>some k_ ≠ (.slice (some ⟨go86,0,none⟩) x5_2.length co98:Value).ownBlock)) k_∧some k_ ≠ (u6:Value).ownBlock) (Kd.R_apart' (HO644.out) (Kd.S_typed HO_6.out) (by decide)) (fun k_ hk=>⟨hk.1.2,hk.2⟩))) (fun _ h_=>h_)));(case aB=>exact (by repeat (first|(with_reducible first|exact HB.out|apply below_alloc|apply pw_below_drewN|apply below_drew1|refine below_set ?_ GE614.out|refine below_set ?_ GE620.out|refine below_set ?_ GE623.out)|exact HB.out)));(case aF=>exact (fun k_ hk=>Kd.fresh' (Kd.R_lt (by (with_reducible repeat (first|apply Kd.R_alloc|apply Kd.R_drewN|apply Kd.R_drew));exact HO_5.out)) k_ hk));(case aO=>exact (by (with_reducible repeat (first|apply Kd.S_alloc|apply Kd.S_drewN|apply Kd.S_drew));exact Kd.S_mono HO_6.out (fun k_ hk=>⟨hk.1,fun e_=>hk.2 e_⟩)));(case aS=>exact (below_size (by repeat (first|(with_reducible first|exact HB.out|apply below_alloc|apply pw_below_drewN|apply below_drew1|refine below_set ?_ GE614.out|refine below_set ?_ GE620.out|refine below_set ?_ GE623.out)|exact HB.out))));(case aL=>have:=LMc88.out;omega);intro v646 w101 ho hb hg hat;rw [← Ny645.out] at ho;have n0_:=Aside0.mk (Kd.R_over' (by (with_reducible repeat (first|apply Kd.R_alloc|apply Kd.R_drewN|apply Kd.R_drew));exact HO_5.out) (Kd.S_typed (by (with_reducible repeat (first|apply Kd.S_alloc|apply Kd.S_drewN|apply Kd.S_drew));exact HO_6.out)) (by decide) hg);have n1_:=Aside0.mk (blk_grown (g:=gb614) (o:=.cells #[.int .i64 a0_0,.slice (some ad622) l0_1.length c0_1] 30 (0,0)) (by (with_reducible repeat (first|refine blk_drewN ?_ _|refine blk_drew ?_|refine blk_alloc ?_ _));exact BK614.out) hg (Kd.S_ne HO_6.out BK614.out (by decide)));have n2_:=Aside0.mk (blk_grown (g:=gb620) (o:=.cells #[.int .i64 ((rd_T56 l1 x23_2).f0),.int .i64 ((rd_T56 l1 x23_2).f1),.int .i64 ((rd_T56 l1 x23_2).f2)] 56 (0,0)) (by (with_reducible repeat (first|refine blk_drewN ?_ _|refine blk_drew ?_|refine blk_alloc ?_ _));exact BK620.out) hg (Kd.S_ne HO_6.out BK620.out (by decide)));have n3_:=Aside0.mk (blk_grown (g:=gb623) (o:=.cells #[.int .i64 ((rd_T88 l0_1 ((rd_T56 l1 x23_2).f1)).f0),.int .i64 ((rd_T88 l0_1 ((rd_T56 l1 x23_2).f1)).f1)] 88 (0,0)) (by (with_reducible repeat (first|refine blk_drewN ?_ _|refine blk_drew ?_|refine blk_alloc ?_ _));exact BK623.out) hg (Kd.S_ne HO_6.out BK623.out (by decide)));have n4_:=Aside0.mk (hb);have n5_:=Aside0.mk (ho);clear HO_5;clear BK614;clear BK620;clear BK623;clear HB;clear HO_6;clear HO644;have HO_5:=n0_;have BK614:=n1_;have BK620:=n2_;have BK623:=n3_;have HB:=n4_;have HO647:=n5_;clear n0_ n1_ n2_ n3_ n4_ n5_;clear ho hb hg hat))
                   go_roundg kj19
                   case measure=>have:=HJ2.out;have:=HK2.out;have:=HJ19.out;omega
                   case rel=>exact ⟨(y641),(y645),(wrap64 (x23_2+1)),(by first|rfl|(simp;done)|(simp [*];done)),H',⟨by have:=HJ2.out;have:=HK2.out;have:=HJ19.out;omega⟩,⟨by (with_reducible repeat (first|apply Kd.R_alloc|apply Kd.R_drewN|apply Kd.R_drew));exact Kd.R_mono HO_5.out (fun _ hk=>trivial)⟩,⟨by (with_reducible repeat (first|apply Kd.S_alloc|apply Kd.S_drewN|apply Kd.S_drew));exact HO647.out⟩,⟨by (with_reducible repeat (first|refine blk_drewN ?_ _|refine blk_drew ?_|refine blk_alloc ?_ _));exact BK614.out⟩,⟨by repeat (first|(with_reducible first|exact HB.out|apply below_alloc|apply pw_below_drewN|apply below_drew1|refine below_set ?_ GE614.out|refine below_set ?_ GE620.out|refine below_set ?_ GE623.out)|exact HB.out)⟩⟩
                  rw [if_neg c88] at H
                  exact absurd H (by simp)
                 rw [if_neg c85] at H
                 exact absurd H (by simp)
                rw [if_neg c84] at H
                exact absurd H (by simp)
               rw [if_neg c83] at H
               have c83b0:decide (0≤((rd_T88 l0_1 ((rd_T56 l1 x23_2).f1)).f1))=false:=decide_eq_false c83
               clear c83
               replace H:=Option.bind_eq_some_iff.mp H
               obtain ⟨t648,A1030,H⟩:=H
               replace H:(if x6_2.length<5864062014805 then (impl_Truth.l0 kj19 x5_2 (x6_2 ++ [t648]) l1 (l1.length:Int) (wrap64 (x23_2+1)) a0_0 l0_1) else (none))=some r:=H
               have A103:=Aside0.mk A1030
               clear A1030
               by_cases c104:x6_2.length<5864062014805
               ·rw [if_pos c104] at H
                have LMc104:=Aside0.mk c104
                clear c104
                obtain ⟨y651,hy651⟩:∃ y_:List (List Int),y_=(x6_2 ++ [t648]):=⟨_,rfl⟩
                replace H:(impl_Truth.l0 kj19 x5_2 y651 l1 (l1.length:Int) (wrap64 (x23_2+1)) a0_0 l0_1)=some r:=by first|(rw [hy651];with_reducible exact H)|(have H2_:=(Option.bind_some _ _).symm.trans H;rw [hy651];with_reducible exact H2_)|(have H2_:=(Option.bind_some _ _).symm.trans H;with_reducible exact H2_)|with_reducible exact H|(rw [hy651];exact H)|exact H
                have Ny651:=Aside0.mk hy651
                clear hy651
                have H':=Aside0.mk H
                clear H
                have hnb105:=NB614_620.out
                have hnc105:=NB620_614.out
                have hcz106_0:wc.cell? ⟨gb614,0,none⟩=some (.int .i64 a0_0):=(blk_cell BK614.out 0).trans rfl
                have hcz106_1:wc.cell? ⟨gb614,1,none⟩=some (.slice A0_1 l0_1.length c0_1):=(blk_cell BK614.out 1).trans rfl
                have hfz106_0:=blk_frozen BK614.out 0
                have hfz106_1:=blk_frozen BK614.out 1
                have hcz107_0:wc.cell? ⟨gb620,0,none⟩=some (.int .i64 ((rd_T56 l1 x23_2).f0)):=(blk_cell BK620.out 0).trans rfl
                have hcz107_1:wc.cell? ⟨gb620,1,none⟩=some (.int .i64 ((rd_T56 l1 x23_2).f1)):=(blk_cell BK620.out 1).trans rfl
                have hcz107_2:wc.cell? ⟨gb620,2,none⟩=some (.int .i64 ((rd_T56 l1 x23_2).f2)):=(blk_cell BK620.out 2).trans rfl
                have hfz107_0:=blk_frozen BK620.out 0
                have hfz107_1:=blk_frozen BK620.out 1
                have hfz107_2:=blk_frozen BK620.out 2
                have p622:0≤(((rd_T56 l1 x23_2).f1):Int):=of_decide_eq_true (by first|(with_reducible assumption)|assumption)
                have q622:((rd_T56 l1 x23_2).f1)<(l0_1.length:Int):=of_decide_eq_true (by first|(with_reducible assumption)|assumption)
                obtain ⟨ad622,e622,hx622_0,hx622_1⟩:=at_T88 HR0_1.out ((rd_T56 l1 x23_2).f1) p622 q622
                cases e622
                replace hx622_0:=(HB.out.cell (World.block_lt_of_cell? w _ hx622_0)).trans hx622_0
                replace hx622_1:=(HB.out.cell (World.block_lt_of_cell? w _ hx622_1)).trans hx622_1
                replace p622:=eq_true p622
                replace q622:=eq_true q622
                go_wp2_with (first|((with_reducible refine gate_dst (N:=9) rfl ?_);(try (refine gate_guard (by rfl) ?_;dsimp only));refine box_event ?hg (N:=9) ?hd (cs:=#[.int .i64 0,.int .i64 0]) (t:=88) ?hr ?_;(case hd=>rfl);(case hg=>rfl);(case hr=>first|(go_simp;done)|(go_simp;rfl));intro gb623 hg w108 hbox hb;have n0_:=Aside0.mk (Kd.R_below (by (with_reducible repeat (first|apply Kd.R_alloc|apply Kd.R_drewN|apply Kd.R_drew));exact HO_5.out) hb);have n1_:=Aside0.mk (Kd.S_below (by (with_reducible repeat (first|apply Kd.S_alloc|apply Kd.S_drewN|apply Kd.S_drew));exact HO_6.out) hb);have n2_:=Aside0.mk (blk_below (g:=gb614) (o:=.cells #[.int .i64 a0_0,.slice (some ad622) l0_1.length c0_1] 30 (0,0)) (by (with_reducible repeat (first|refine blk_drewN ?_ _|refine blk_drew ?_|refine blk_alloc ?_ _));exact BK614.out) hb);have n3_:=Aside0.mk (blk_below (g:=gb620) (o:=.cells #[.int .i64 ((rd_T56 l1 x23_2).f0),.int .i64 ((rd_T56 l1 x23_2).f1),.int .i64 ((rd_T56 l1 x23_2).f2)] 56 (0,0)) (by (with_reducible repeat (first|refine blk_drewN ?_ _|refine blk_drew ?_|refine blk_alloc ?_ _));exact BK620.out) hb);have n4_:=Aside0.mk (below_step (by repeat (first|(with_reducible first|exact HB.out|apply below_alloc|apply pw_below_drewN|apply below_drew1|refine below_set ?_ GE614.out|refine below_set ?_ GE620.out)|exact HB.out)) hb);have n5_:=Aside0.mk (hbox);have n6_:=Aside0.mk ((by rw [hg];exact (below_size (by repeat (first|(with_reducible first|exact HB.out|apply below_alloc|apply pw_below_drewN|apply below_drew1|refine below_set ?_ GE614.out|refine below_set ?_ GE620.out)|exact HB.out))):w.heap.size≤gb623));have n7_:=Aside0.mk ((by rw [hg];exact (below_size (by repeat (first|(with_reducible first|exact HB.out|apply below_alloc|apply pw_below_drewN|apply below_drew1|refine below_set ?_ GE614.out|refine below_set ?_ GE620.out)|exact HB.out))):w.heap.size≤gb623));have n8_:=Aside0.mk ((by rw [hg];exact Nat.ne_of_lt (blk_lt (g:=gb614) (o:=.cells #[.int .i64 a0_0,.slice (some ad622) l0_1.length c0_1] 30 (0,0)) (by (with_reducible repeat (first|refine blk_drewN ?_ _|refine blk_drew ?_|refine blk_alloc ?_ _));exact BK614.out)):gb614 ≠ gb623));have n9_:=Aside0.mk ((by rw [hg];exact Nat.ne_of_gt (blk_lt (g:=gb614) (o:=.cells #[.int .i64 a0_0,.slice (some ad622) l0_1.length c0_1] 30 (0,0)) (by (with_reducible repeat (first|refine blk_drewN ?_ _|refine blk_drew ?_|refine blk_alloc ?_ _));exact BK614.out)):gb623 ≠ gb614));have n10_:=Aside0.mk ((by rw [hg];exact Nat.ne_of_lt (blk_lt (g:=gb620) (o:=.cells #[.int .i64 ((rd_T56 l1 x23_2).f0),.int .i64 ((rd_T56 l1 x23_2).f1),.int .i64 ((rd_T56 l1 x23_2).f2)] 56 (0,0)) (by (with_reducible repeat (first|refine blk_drewN ?_ _|refine blk_drew ?_|refine blk_alloc ?_ _));exact BK620.out)):gb620 ≠ gb623));have n11_:=Aside0.mk ((by rw [hg];exact Nat.ne_of_gt (blk_lt (g:=gb620) (o:=.cells #[.int .i64 ((rd_T56 l1 x23_2).f0),.int .i64 ((rd_T56 l1 x23_2).f1),.int .i64 ((rd_T56 l1 x23_2).f2)] 56 (0,0)) (by (with_reducible repeat (first|refine blk_drewN ?_ _|refine blk_drew ?_|refine blk_alloc ?_ _));exact BK620.out)):gb623 ≠ gb620));clear HO_5;clear HO_6;clear BK614;clear BK620;clear HB;have HO_5:=n0_;have HO_6:=n1_;have BK614:=n2_;have BK620:=n3_;have HB:=n4_;have BK623:=n5_;have GW623:=n6_;have GE623:=n7_;have NB614_623:=n8_;have NB623_614:=n9_;have NB620_623:=n10_;have NB623_620:=n11_;clear n0_ n1_ n2_ n3_ n4_ n5_ n6_ n7_ n8_ n9_ n10_ n11_;clear hb hbox hg;have hnb109:=NB623_614.out;have hnc109:=NB614_623.out;have hnb110:=NB623_620.out;have hnc110:=NB620_623.out;have hcz111_0:w108.cell? ⟨gb623,0,none⟩=some (.int .i64 0):=(blk_cell BK623.out 0).trans rfl;have hcz111_1:w108.cell? ⟨gb623,1,none⟩=some (.int .i64 0):=(blk_cell BK623.out 1).trans rfl;have hfz111_0:=blk_frozen BK623.out 0;have hfz111_1:=blk_frozen BK623.out 1;obtain ⟨Ao112,co112,eo112⟩:=Kd.R_slice HO_5.out;subst eo112)|((with_reducible refine gate_callee (f:=110) rfl ?_);refine goesL_ (some 67) rfl rfl Try.func110 (by kernel_rfl) rfl #[.slice Ao112 x5_2.length co112] rfl (by (try simp only [List.map_toArray,List.map_cons,List.map_nil]);first|done|rfl|(simp only [List.length_drop,List.length_take];rfl)) ?_;(with_reducible refine (slices_Clone_int_int.calls _ _ x5_2 t648 _ ?side1 ?side2 A103.out).mono ?_);(case side1=>refine (Kd.R_reads' (e:=3) (base:=w.heap.size) (ok:=fun k_=>True) (n:=x5_2.length) (c:=co112) ?_).2.2;exact (by (with_reducible repeat (first|apply Kd.R_alloc|apply Kd.R_drewN|apply Kd.R_drew));exact (Kd.R_mono (Kd.R_far (p:=⟨gb623,1,none⟩) (Kd.R_far (p:=⟨gb623,0,none⟩) (Kd.R_types HO_5.out BK623.out (by decide)) (fun _ hk=>hk.2) (.int .i64 ((rd_T88 l0_1 ((rd_T56 l1 x23_2).f1)).f0))) (fun _ hk=>hk.2) (.int .i64 ((rd_T88 l0_1 ((rd_T56 l1 x23_2).f1)).f1))) (fun _ h_=>h_.1))));(case side2=>exact (Kd.R_reads' HO_5.out).2.1);rintro e w113 ⟨v649,rfl,ho0,hb⟩;refine ⟨_,rfl,?_⟩;have n0_:=Aside0.mk (Kd.R_elder' (by (with_reducible repeat (first|apply Kd.R_alloc|apply Kd.R_drewN|apply Kd.R_drew));exact (Kd.R_mono (Kd.R_far (p:=⟨gb623,1,none⟩) (Kd.R_far (p:=⟨gb623,0,none⟩) (Kd.R_types HO_5.out BK623.out (by decide)) (fun _ hk=>hk.2) (.int .i64 ((rd_T88 l0_1 ((rd_T56 l1 x23_2).f1)).f0))) (fun _ hk=>hk.2) (.int .i64 ((rd_T88 l0_1 ((rd_T56 l1 x23_2).f1)).f1))) (fun _ h_=>h_.1))) (Kd.R_base ho0) hb);have n1_:=Aside0.mk (Kd.S_elder' (by (with_reducible repeat (first|apply Kd.S_alloc|apply Kd.S_drewN|apply Kd.S_drew));exact (Kd.S_mono (Kd.S_far (p:=⟨gb623,1,none⟩) (Kd.S_far (p:=⟨gb623,0,none⟩) (Kd.S_types HO_6.out BK623.out (by decide)) (fun _ hk=>hk.2) (.int .i64 ((rd_T88 l0_1 ((rd_T56 l1 x23_2).f1)).f0))) (fun _ hk=>hk.2) (.int .i64 ((rd_T88 l0_1 ((rd_T56 l1 x23_2).f1)).f1))) (fun _ h_=>h_.1))) (Kd.R_base ho0) hb);have n2_:=Aside0.mk (Kd.R_lower (Kd.R_new' ho0 (Kd.R_lt (by (with_reducible repeat (first|apply Kd.R_alloc|apply Kd.R_drewN|apply Kd.R_drew));exact (Kd.R_mono (Kd.R_far (p:=⟨gb623,1,none⟩) (Kd.R_far (p:=⟨gb623,0,none⟩) (Kd.R_types HO_5.out BK623.out (by decide)) (fun _ hk=>hk.2) (.int .i64 ((rd_T88 l0_1 ((rd_T56 l1 x23_2).f1)).f0))) (fun _ hk=>hk.2) (.int .i64 ((rd_T88 l0_1 ((rd_T56 l1 x23_2).f1)).f1))) (fun _ h_=>h_.1))))) (below_size (by repeat (first|(with_reducible first|exact HB.out|apply below_alloc|apply pw_below_drewN|apply below_drew1|refine below_set ?_ GE614.out|refine below_set ?_ GE620.out|refine below_set ?_ GE623.out)|exact HB.out))));have n3_:=Aside0.mk (blk_below (g:=gb614) (o:=.cells #[.int .i64 a0_0,.slice (some ad622) l0_1.length c0_1] 30 (0,0)) (by (with_reducible repeat (first|refine blk_drewN ?_ _|refine blk_drew ?_|refine blk_alloc ?_ _));refine blk_far ?_ NB614_623.out _;(with_reducible repeat (first|refine blk_drewN ?_ _|refine blk_drew ?_|refine blk_alloc ?_ _));refine blk_far ?_ NB614_623.out _;(with_reducible repeat (first|refine blk_drewN ?_ _|refine blk_drew ?_|refine blk_alloc ?_ _));exact BK614.out) hb);have n4_:=Aside0.mk (blk_below (g:=gb620) (o:=.cells #[.int .i64 ((rd_T56 l1 x23_2).f0),.int .i64 ((rd_T56 l1 x23_2).f1),.int .i64 ((rd_T56 l1 x23_2).f2)] 56 (0,0)) (by (with_reducible repeat (first|refine blk_drewN ?_ _|refine blk_drew ?_|refine blk_alloc ?_ _));refine blk_far ?_ NB620_623.out _;(with_reducible repeat (first|refine blk_drewN ?_ _|refine blk_drew ?_|refine blk_alloc ?_ _));refine blk_far ?_ NB620_623.out _;(with_reducible repeat (first|refine blk_drewN ?_ _|refine blk_drew ?_|refine blk_alloc ?_ _));exact BK620.out) hb);have n5_:=Aside0.mk (blk_below (g:=gb623) (o:=.cells #[.int .i64 ((rd_T88 l0_1 ((rd_T56 l1 x23_2).f1)).f0),.int .i64 ((rd_T88 l0_1 ((rd_T56 l1 x23_2).f1)).f1)] 88 (0,0)) (by (with_reducible repeat (first|refine blk_drewN ?_ _|refine blk_drew ?_|refine blk_alloc ?_ _));refine blk_put (cs:=#[.int .i64 ((rd_T88 l0_1 ((rd_T56 l1 x23_2).f1)).f0),.int .i64 0]) ?_ 1 _ rfl;(with_reducible repeat (first|refine blk_drewN ?_ _|refine blk_drew ?_|refine blk_alloc ?_ _));refine blk_put (cs:=#[.int .i64 0,.int .i64 0]) ?_ 0 _ rfl;(with_reducible repeat (first|refine blk_drewN ?_ _|refine blk_drew ?_|refine blk_alloc ?_ _));exact BK623.out) hb);have n6_:=Aside0.mk (below_step (by repeat (first|(with_reducible first|exact HB.out|apply below_alloc|apply pw_below_drewN|apply below_drew1|refine below_set ?_ GE614.out|refine below_set ?_ GE620.out|refine below_set ?_ GE623.out)|exact HB.out)) hb);clear HO_5;clear HO_6;clear BK614;clear BK620;clear BK623;clear HB;have HO_5:=n0_;have HO_6:=n1_;have HO650:=n2_;have BK614:=n3_;have BK620:=n4_;have BK623:=n5_;have HB:=n6_;clear n0_ n1_ n2_ n3_ n4_ n5_ n6_;(try clear hb);(try clear hb2);(try clear hk);(try clear hi);(try clear ho0);obtain ⟨Ao115,co115,eo115⟩:=Kd.R_slice HO650.out;subst eo115)|((with_reducible refine gate_builtin (b:=.append) (xs:=#[.tmp 65,.tmp 68]) rfl ?_);(try (refine gate_guard (by rfl) ?_;dsimp only));at_builtin;refine Kd.S_append (Kd.slice 3 (Kd.int .i64)) (w0:=w) w.heap.size rfl (.tmp 65) (.tmp 68) 73 59 (.slice none 0 0) 24 rfl Try.underlying73 info59 rfl (by decide) (by omega) u6 x6_2 t648 [.slice Ao115 t648.length co115] (fun k_=>some k_ ≠ (.slice Ao112 x5_2.length co112:Value).ownBlock) (fun k_=>some k_=(.slice Ao115 t648.length co115:Value).ownBlock) rfl rfl ?aP (fun k_ hk_=>((Kd.R_mono (ok':=fun k_=>((fun k_=>some k_ ≠ (.slice Ao112 x5_2.length co112:Value).ownBlock)) k_∧some k_ ≠ (u6:Value).ownBlock) (Kd.R_apart' (HO650.out) (Kd.S_typed HO_6.out) (by decide)) (fun k_ hk=>⟨hk.1.2,hk.2⟩))).1 k_ hk_.symm) ?aF ?aO ?aB ?aS ?aL ?_;(case aP=>exact Kd.M_row (Kd.R_mono (Kd.R_tight rfl (Kd.R_mono (ok':=fun k_=>((fun k_=>some k_ ≠ (.slice Ao112 x5_2.length co112:Value).ownBlock)) k_∧some k_ ≠ (u6:Value).ownBlock) (Kd.R_apart' (HO650.out) (Kd.S_typed HO_6.out) (by decide)) (fun k_ hk=>⟨hk.1.2,hk.2⟩))) (fun _ h_=>h_)));(case aB=>exact (by repeat (first|(with_reducible first|exact HB.out|apply below_alloc|apply pw_below_drewN|apply below_drew1|refine below_set ?_ GE614.out|refine below_set ?_ GE620.out|refine below_set ?_ GE623.out)|exact HB.out)));(case aF=>exact (fun k_ hk=>Kd.fresh' (Kd.R_lt (by (with_reducible repeat (first|apply Kd.R_alloc|apply Kd.R_drewN|apply Kd.R_drew));exact HO_5.out)) k_ hk));(case aO=>exact (by (with_reducible repeat (first|apply Kd.S_alloc|apply Kd.S_drewN|apply Kd.S_drew));exact Kd.S_mono HO_6.out (fun k_ hk=>⟨hk.1,fun e_=>hk.2 e_⟩)));(case aS=>exact (below_size (by repeat (first|(with_reducible first|exact HB.out|apply below_alloc|apply pw_below_drewN|apply below_drew1|refine below_set ?_ GE614.out|refine below_set ?_ GE620.out|refine below_set ?_ GE623.out)|exact HB.out))));(case aL=>have:=LMc104.out;omega);intro v652 w114 ho hb hg hat;rw [← Ny651.out] at ho;have n0_:=Aside0.mk (Kd.R_over' (by (with_reducible repeat (first|apply Kd.R_alloc|apply Kd.R_drewN|apply Kd.R_drew));exact HO_5.out) (Kd.S_typed (by (with_reducible repeat (first|apply Kd.S_alloc|apply Kd.S_drewN|apply Kd.S_drew));exact HO_6.out)) (by decide) hg);have n1_:=Aside0.mk (blk_grown (g:=gb614) (o:=.cells #[.int .i64 a0_0,.slice (some ad622) l0_1.length c0_1] 30 (0,0)) (by (with_reducible repeat (first|refine blk_drewN ?_ _|refine blk_drew ?_|refine blk_alloc ?_ _));exact BK614.out) hg (Kd.S_ne HO_6.out BK614.out (by decide)));have n2_:=Aside0.mk (blk_grown (g:=gb620) (o:=.cells #[.int .i64 ((rd_T56 l1 x23_2).f0),.int .i64 ((rd_T56 l1 x23_2).f1),.int .i64 ((rd_T56 l1 x23_2).f2)] 56 (0,0)) (by (with_reducible repeat (first|refine blk_drewN ?_ _|refine blk_drew ?_|refine blk_alloc ?_ _));exact BK620.out) hg (Kd.S_ne HO_6.out BK620.out (by decide)));have n3_:=Aside0.mk (blk_grown (g:=gb623) (o:=.cells #[.int .i64 ((rd_T88 l0_1 ((rd_T56 l1 x23_2).f1)).f0),.int .i64 ((rd_T88 l0_1 ((rd_T56 l1 x23_2).f1)).f1)] 88 (0,0)) (by (with_reducible repeat (first|refine blk_drewN ?_ _|refine blk_drew ?_|refine blk_alloc ?_ _));exact BK623.out) hg (Kd.S_ne HO_6.out BK623.out (by decide)));have n4_:=Aside0.mk (hb);have n5_:=Aside0.mk (ho);clear HO_5;clear BK614;clear BK620;clear BK623;clear HB;clear HO_6;clear HO650;have HO_5:=n0_;have BK614:=n1_;have BK620:=n2_;have BK623:=n3_;have HB:=n4_;have HO653:=n5_;clear n0_ n1_ n2_ n3_ n4_ n5_;clear ho hb hg hat))
                go_roundg kj19
                case measure=>have:=HJ2.out;have:=HK2.out;have:=HJ19.out;omega
                case rel=>exact ⟨(x5_2),(y651),(wrap64 (x23_2+1)),(by first|rfl|(simp;done)|(simp [*];done)),H',⟨by have:=HJ2.out;have:=HK2.out;have:=HJ19.out;omega⟩,⟨by exact Kd.R_mono HO_5.out (fun _ hk=>trivial)⟩,⟨by exact HO653.out⟩,⟨by exact BK614.out⟩,⟨by exact HB.out⟩⟩
               rw [if_neg c104] at H
               exact absurd H (by simp)
              rw [if_neg c37] at H
              exact absurd H (by simp)
             rw [if_neg c36] at H
             exact absurd H (by simp)
            replace c35:=Bool.eq_false_iff.mpr c35
            subst c35
            have H1:((slices_Clone_int_int.f x5_2).bind fun t654=>(if x6_2.length<5864062014805 then (impl_Truth.l0 kj19 x5_2 (x6_2 ++ [t654]) l1 (l1.length:Int) (wrap64 (x23_2+1)) a0_0 l0_1) else (none)))=some r:=by rw [if_neg (show ¬ (false=true) by decide)] at H;exact H
            clear H
            have H:=H1
            clear H1
            replace H:=Option.bind_eq_some_iff.mp H
            obtain ⟨t654,A1160,H⟩:=H
            replace H:(if x6_2.length<5864062014805 then (impl_Truth.l0 kj19 x5_2 (x6_2 ++ [t654]) l1 (l1.length:Int) (wrap64 (x23_2+1)) a0_0 l0_1) else (none))=some r:=H
            have A116:=Aside0.mk A1160
            clear A1160
            by_cases c117:x6_2.length<5864062014805
            ·rw [if_pos c117] at H
             have LMc117:=Aside0.mk c117
             clear c117
             obtain ⟨y657,hy657⟩:∃ y_:List (List Int),y_=(x6_2 ++ [t654]):=⟨_,rfl⟩
             replace H:(impl_Truth.l0 kj19 x5_2 y657 l1 (l1.length:Int) (wrap64 (x23_2+1)) a0_0 l0_1)=some r:=by first|(rw [hy657];with_reducible exact H)|(have H2_:=(Option.bind_some _ _).symm.trans H;rw [hy657];with_reducible exact H2_)|(have H2_:=(Option.bind_some _ _).symm.trans H;with_reducible exact H2_)|with_reducible exact H|(rw [hy657];exact H)|exact H
             have Ny657:=Aside0.mk hy657
             clear hy657
             have H':=Aside0.mk H
             clear H
             obtain ⟨Ao118,co118,eo118⟩:=Kd.R_slice HO_5.out
             subst eo118
             go_wp2_with (first|((with_reducible refine gate_callee (f:=110) rfl ?_);refine goesL_ (some 67) rfl rfl Try.func110 (by kernel_rfl) rfl #[.slice Ao118 x5_2.length co118] rfl (by (try simp only [List.map_toArray,List.map_cons,List.map_nil]);first|done|rfl|(simp only [List.length_drop,List.length_take];rfl)) ?_;(with_reducible refine (slices_Clone_int_int.calls _ _ x5_2 t654 _ ?side1 ?side2 A116.out).mono ?_);(case side1=>repeat (first|exact (Kd.R_reads' HO_5.out).2.2|(with_reducible refine Kd.C_alloc ?_ _)|(with_reducible refine Kd.C_drewN ?_ _)|(with_reducible refine Kd.C_drew ?_)));(case side2=>exact (Kd.R_reads' HO_5.out).2.1);rintro e w119 ⟨v655,rfl,ho0,hb⟩;refine ⟨_,rfl,?_⟩;have n0_:=Aside0.mk (Kd.R_elder' (by exact HO_5.out) (Kd.R_base ho0) hb);have n1_:=Aside0.mk (Kd.S_elder' (by exact HO_6.out) (Kd.R_base ho0) hb);have n2_:=Aside0.mk (Kd.R_lower (Kd.R_new' ho0 (Kd.R_lt (by exact HO_5.out))) (below_size (by exact HB.out)));have n3_:=Aside0.mk (blk_below (g:=gb614) (o:=.cells #[.int .i64 a0_0,.slice A0_1 l0_1.length c0_1] 30 (0,0)) (by exact BK614.out) hb);have n4_:=Aside0.mk (blk_below (g:=gb620) (o:=.cells #[.int .i64 ((rd_T56 l1 x23_2).f0),.int .i64 ((rd_T56 l1 x23_2).f1),.int .i64 ((rd_T56 l1 x23_2).f2)] 56 (0,0)) (by exact BK620.out) hb);have n5_:=Aside0.mk (below_step (by exact HB.out) hb);clear HO_5;clear HO_6;clear BK614;clear BK620;clear HB;have HO_5:=n0_;have HO_6:=n1_;have HO656:=n2_;have BK614:=n3_;have BK620:=n4_;have HB:=n5_;clear n0_ n1_ n2_ n3_ n4_ n5_;(try clear hb);(try clear hb2);(try clear hk);(try clear hi);(try clear ho0);obtain ⟨Ao121,co121,eo121⟩:=Kd.R_slice HO656.out;subst eo121)|((with_reducible refine gate_builtin (b:=.append) (xs:=#[.tmp 65,.tmp 68]) rfl ?_);(try (refine gate_guard (by rfl) ?_;dsimp only));at_builtin;refine Kd.S_append (Kd.slice 3 (Kd.int .i64)) (w0:=w) w.heap.size rfl (.tmp 65) (.tmp 68) 73 59 (.slice none 0 0) 24 rfl Try.underlying73 info59 rfl (by decide) (by omega) u6 x6_2 t654 [.slice Ao121 t654.length co121] (fun k_=>some k_ ≠ (.slice Ao118 x5_2.length co118:Value).ownBlock) (fun k_=>some k_=(.slice Ao121 t654.length co121:Value).ownBlock) rfl rfl ?aP (fun k_ hk_=>((Kd.R_mono (ok':=fun k_=>((fun k_=>some k_ ≠ (.slice Ao118 x5_2.length co118:Value).ownBlock)) k_∧some k_ ≠ (u6:Value).ownBlock) (Kd.R_apart' (HO656.out) (Kd.S_typed HO_6.out) (by decide)) (fun k_ hk=>⟨hk.1.2,hk.2⟩))).1 k_ hk_.symm) ?aF ?aO ?aB ?aS ?aL ?_;(case aP=>exact Kd.M_row (Kd.R_mono (Kd.R_tight rfl (Kd.R_mono (ok':=fun k_=>((fun k_=>some k_ ≠ (.slice Ao118 x5_2.length co118:Value).ownBlock)) k_∧some k_ ≠ (u6:Value).ownBlock) (Kd.R_apart' (HO656.out) (Kd.S_typed HO_6.out) (by decide)) (fun k_ hk=>⟨hk.1.2,hk.2⟩))) (fun _ h_=>h_)));(case aB=>exact (by exact HB.out));(case aF=>exact (fun k_ hk=>Kd.fresh' (Kd.R_lt (by exact HO_5.out)) k_ hk));(case aO=>exact (by exact Kd.S_mono HO_6.out (fun k_ hk=>⟨hk.1,fun e_=>hk.2 e_⟩)));(case aS=>exact (below_size (by exact HB.out)));(case aL=>have:=LMc117.out;omega);intro v658 w120 ho hb hg hat;rw [← Ny657.out] at ho;have n0_:=Aside0.mk (Kd.R_over' (by exact HO_5.out) (Kd.S_typed (by exact HO_6.out)) (by decide) hg);have n1_:=Aside0.mk (blk_grown (g:=gb614) (o:=.cells #[.int .i64 a0_0,.slice A0_1 l0_1.length c0_1] 30 (0,0)) (by exact BK614.out) hg (Kd.S_ne HO_6.out BK614.out (by decide)));have n2_:=Aside0.mk (blk_grown (g:=gb620) (o:=.cells #[.int .i64 ((rd_T56 l1 x23_2).f0),.int .i64 ((rd_T56 l1 x23_2).f1),.int .i64 ((rd_T56 l1 x23_2).f2)] 56 (0,0)) (by exact BK620.out) hg (Kd.S_ne HO_6.out BK620.out (by decide)));have n3_:=Aside0.mk (hb);have n4_:=Aside0.mk (ho);clear HO_5;clear BK614;clear BK620;clear HB;clear HO_6;clear HO656;have HO_5:=n0_;have BK614:=n1_;have BK620:=n2_;have HB:=n3_;have HO659:=n4_;clear n0_ n1_ n2_ n3_ n4_;clear ho hb hg hat))
             go_roundg kj19
             case measure=>have:=HJ2.out;have:=HK2.out;have:=HJ19.out;omega
             case rel=>exact ⟨(x5_2),(y657),(wrap64 (x23_2+1)),(by first|rfl|(simp;done)|(simp [*];done)),H',⟨by have:=HJ2.out;have:=HK2.out;have:=HJ19.out;omega⟩,⟨by exact Kd.R_mono HO_5.out (fun _ hk=>trivial)⟩,⟨by exact HO659.out⟩,⟨by exact BK614.out⟩,⟨by exact HB.out⟩⟩
            rw [if_neg c117] at H
            exact absurd H (by simp)
         rw [if_neg c19] at H
         exact absurd H (by simp)
        rw [if_neg c18] at H
        exact absurd H (by simp)
       rw [if_neg c17] at H
       have c17b0:decide (x23_2<(l1.length:Int))=false:=decide_eq_false c17
       clear c17
       obtain rfl:=Option.some.inj H
       go_wp2
       go_ret
       exact ⟨_,by first|rfl|(simp [errW_none,errW_some] <;> rfl)|(simp [*,errW_none,errW_some] <;> rfl),by exact Kd.S_mono HO_6.out (fun _ hk=>trivial),by exact HB.out⟩
    rw [if_neg c13] at H
    exact absurd H (by simp)
   rw [if_neg c12] at H
   exact absurd H (by simp)
end Go.Proofs.Ytpdnabhpkdchjaa.P
namespace Go.Proofs.Ytpdnabhpkdchjaa.P
open Go.RowKit Go.Proofs.YtpdnabhpkdchjaaW.PrintWords Go.Proofs.YtpdnabhpkdchjaaW.PrintLast
set_option linter.unusedVariables false
set_option linter.unusedSimpArgs false
def axle (c : S88) (d : Int) (row : List Int) : List Int :=
  let row1 := if 0 ≤ c.f0 then row.set c.f0.toNat (wrap64 (rd row c.f0 - d)) else row
  if 0 ≤ c.f1 then row1.set c.f1.toNat (wrap64 (rd row1 c.f1 + d)) else row1
def isPass (n : Int) (l : List S88) (e : S56) : Bool := eventOk n l e.f0 e.f1 e.f2 && decide (e.f0 = 1)
def tstep (n : Int) (l : List S88) (row : List Int) (e : S56) : List Int := if isPass n l e then axle (rd_T88 l e.f1) e.f2 row else row
def row0 (n : Int) : List Int := List.replicate n.toNat 0
def truthAt (n : Int) (l : List S88) (es : List S56) (k : Nat) : List Int := (es.take k).foldl (tstep n l) (row0 n)
def truth (n : Int) (l : List S88) (es : List S56) : List (List Int) :=
  if layoutOk n l = 0 ∧ es.length ≤ 2000 then (List.range es.length).map fun k => truthAt n l es (k + 1) else []
theorem axle_length (c : S88) (d : Int) (row : List Int) : (axle c d row).length = row.length := by
  unfold axle
  by_cases h0 : 0 ≤ c.f0 <;> by_cases h1 : 0 ≤ c.f1 <;> simp [h0, h1]
theorem tstep_length (n : Int) (l : List S88) (row : List Int) (e : S56) : (tstep n l row e).length = row.length := by
  unfold tstep
  by_cases h : isPass n l e = true
  · rw [if_pos h, axle_length]
  · rw [if_neg h]
theorem foldl_tstep_length (n : Int) (l : List S88) (es : List S56) : ∀ row : List Int, (es.foldl (tstep n l) row).length = row.length := by
  induction es with
  | nil => intro row; rfl
  | cons e es ih => intro row; rw [List.foldl_cons, ih, tstep_length]
theorem truthAt_length (n : Int) (l : List S88) (es : List S56) (k : Nat) : (truthAt n l es k).length = n.toNat := by
  rw [truthAt, foldl_tstep_length, row0, List.length_replicate]
theorem lay_ctr {n : Int} {l : List S88} (h : layoutOk n l = 0) : ∀ x ∈ l, -1 ≤ x.f0 ∧ x.f0 < n ∧ -1 ≤ x.f1 ∧ x.f1 < n ∧ x.f0 ≠ x.f1 := by
  unfold layoutOk at h
  split at h
  · cases h
  · split at h
    · cases h
    · split at h
      · cases h
      · split at h
        · rename_i hall
          intro x hx
          have := List.all_eq_true.1 hall x hx
          simp only [ctrOk, inB, Bool.and_eq_true, decide_eq_true_eq, Bool.not_eq_true', beq_eq_false_iff_ne] at this
          exact ⟨this.1.1.1, this.1.1.2, this.1.2.1, this.1.2.2, this.2⟩
        · cases h
theorem lay_rd {n : Int} {l : List S88} (h : layoutOk n l = 0) (i : Int) (h0 : 0 ≤ i) (h1 : i < l.length) : -1 ≤ (rd_T88 l i).f0 ∧ (rd_T88 l i).f0 < n ∧ -1 ≤ (rd_T88 l i).f1 ∧ (rd_T88 l i).f1 < n ∧ (rd_T88 l i).f0 ≠ (rd_T88 l i).f1 := by
  refine lay_ctr h _ ?_
  have hlt : i.toNat < l.length := by omega
  have : rd_T88 l i = l[i.toNat] := by simp [rd_T88, hlt]
  rw [this]
  exact List.getElem_mem hlt
theorem isPass_of {n : Int} {l : List S88} {e : S56} (h : isPass n l e = true) : e.f0 = 1 ∧ 0 ≤ e.f1 ∧ e.f1 < l.length ∧ (e.f2 = 1 ∨ e.f2 = -1) ∧ eventOk n l e.f0 e.f1 e.f2 = true := by
  simp only [isPass, Bool.and_eq_true, decide_eq_true_eq] at h
  obtain ⟨h1, h2⟩ := h
  have h1' := h1
  rw [h2, eventOk] at h1
  split at h1
  · simp at h1
    exact ⟨h2, h1.1.1, h1.1.2, h1.2, h1'⟩
  · cases h1
section
variable {n : Int} {l : List S88} {es : List S56} {R : List (List Int)}
theorem rd56 (l : List S56) (i : Nat) (h : i < l.length) : rd_T56 l (i : Int) = l[i] := by simp [rd_T56, h]
end
section
variable {n : Int} {l : List S88} {es : List S56} {R : List (List Int)}
theorem clone_int (l : List Int) (h : l.length ≤ 1000000) : slices_Clone_int_int.f l = some l := by unfold slices_Clone_int_int.f; rw [if_pos h]
theorem implTruth_j2 (hl : layoutOk n l = 0) (out : List (List Int)) (ho : out.length < 5864062014805) (row : List Int) (hrow : row.length = n.toNat) (x22 : Int) (i : Nat) (hi : i < 9223372036854775807) (e : S56) (b : Bool) (hb : b = isPass n l e)
    (h : Ev (fun k => impl_Truth.l0 k (tstep n l row e) (out ++ [tstep n l row e]) es x22 ((i + 1 : Nat) : Int) n l) R) :
    Ev (fun k => impl_Truth.j2 k row out es x22 (i : Int) b n l e.f0 e.f1 e.f2) R := by
  have hn := lay_n hl
  have hlen := tstep_length n l row e
  refine Ev.step (fun k => by simp only [impl_Truth.j2, wrap_succ hi]; rfl) ?_
  cases hp : isPass n l e with
  | false =>
    rw [hp] at hb
    simp only [tstep, hp] at h hlen
    exact Ev.ite_neg (by simp [hb]) (Ev.call (clone_int _ (by omega)) (Ev.ite_pos ho h))
  | true =>
    rw [hp] at hb
    obtain ⟨e0, e1, e2, e3, e4⟩ := isPass_of hp
    obtain ⟨c0, c1, c2, c3, c4⟩ := lay_rd hl e.f1 e1 e2
    refine Ev.ite_pos hb (Ev.ite_pos e1 (Ev.ite_pos e2 ?_))
    simp only [tstep, hp, if_true, axle] at h hlen
    by_cases h0 : 0 ≤ (rd_T88 l e.f1).f0
    · simp only [h0, if_true] at h hlen
      refine Ev.ite_pos h0 (Ev.ite_pos h0 (Ev.ite_pos (by rw [hrow]; omega) ?_))
      simp only [Option.bind_some]
      by_cases h1 : 0 ≤ (rd_T88 l e.f1).f1
      · simp only [h1, if_true] at h hlen
        exact Ev.ite_pos h1 (Ev.ite_pos h1 (Ev.ite_pos (by rw [hrow]; omega) (Ev.call (clone_int _ (by omega)) (Ev.ite_pos ho h))))
      · simp only [h1, if_false] at h hlen
        exact Ev.ite_neg h1 (Ev.call (clone_int _ (by omega)) (Ev.ite_pos ho h))
    · simp only [h0, if_false] at h hlen
      refine Ev.ite_neg h0 ?_
      by_cases h1 : 0 ≤ (rd_T88 l e.f1).f1
      · simp only [h1, if_true] at h hlen
        exact Ev.ite_pos h1 (Ev.ite_pos h1 (Ev.ite_pos (by rw [hrow]; omega) (Ev.call rfl (Ev.call (clone_int _ (by omega)) (Ev.ite_pos ho h)))))
      · simp only [h1, if_false] at h hlen
        exact Ev.ite_neg h1 (Ev.call (clone_int _ (by omega)) (Ev.ite_pos ho h))
theorem truthAt_succ {j : Nat} (h : j < es.length) : truthAt n l es (j + 1) = tstep n l (truthAt n l es j) es[j] := by
  rw [truthAt, List.take_succ_eq_append_getElem h, List.foldl_append]
  rfl
theorem implTruth_l0 (hl : layoutOk n l = 0) (he : es.length ≤ 2000) (d : Nat) : ∀ (j : Nat), j + d = es.length →
    Ev (fun k => impl_Truth.l0 k (truthAt n l es j) ((List.range j).map fun k => truthAt n l es (k + 1)) es (es.length : Int) (j : Int) n l) ((List.range es.length).map fun k => truthAt n l es (k + 1)) := by
  induction d with
  | zero =>
    intro j hj
    refine Ev.step1 fun k => ?_
    simp only [impl_Truth.l0]
    rw [if_neg (by omega), show j = es.length by omega]
  | succ d ih =>
    intro j hj
    have hlt : j < es.length := by omega
    have h2 := ih (j + 1) (by omega)
    rw [List.range_succ, List.map_append, List.map_singleton, truthAt_succ hlt] at h2
    refine Ev.step (fun k => by simp only [impl_Truth.l0, rd56 es j hlt]; rw [if_pos (by omega), if_pos (by omega), if_pos (by omega)]) ?_
    refine Ev.bind (implEventOk_ev n l _ _ _) ?_
    cases hok : eventOk n l es[j].f0 es[j].f1 es[j].f2 with
    | true => exact Ev.ite_pos rfl (implTruth_j2 hl _ (by simp; omega) _ (truthAt_length _ _ _ _) _ j (by omega) es[j] _ (by simp [isPass, hok, beq_dec]) h2)
    | false => exact Ev.ite_neg (by simp) (implTruth_j2 hl _ (by simp; omega) _ (truthAt_length _ _ _ _) _ j (by omega) es[j] _ (by simp [isPass, hok]) h2)
theorem implTruth_ev (n : Int) (l : List S88) (es : List S56) : Ev (fun k => impl_Truth.f k n l es) (truth n l es) := by
  unfold impl_Truth.f truth
  refine Ev.call (show impl_LayoutOk.f n l = some (layoutOk n l) from rfl) ?_
  have key : ∀ b : Bool, b = !(decide (layoutOk n l = 0 ∧ es.length ≤ 2000)) → Ev (fun k => impl_Truth.j0 k es b n l) (if layoutOk n l = 0 ∧ es.length ≤ 2000 then (List.range es.length).map fun k => truthAt n l es (k + 1) else []) := by
    intro b hb
    refine Ev.step (fun k => by simp only [impl_Truth.j0]; rfl) ?_
    by_cases h : layoutOk n l = 0 ∧ es.length ≤ 2000
    · have hn := lay_n h.1
      rw [if_pos h]
      refine Ev.ite_neg (by simp [hb, h]) (Ev.ite_pos (by omega) (Ev.ite_pos (by omega) ?_))
      simpa [truthAt, row0] using implTruth_l0 h.1 h.2 es.length 0 (by omega)
    · rw [if_neg h]
      exact Ev.ite_pos (by rw [hb, decide_eq_false h]; rfl) (Ev.now _)
  by_cases h : layoutOk n l = 0
  · refine Ev.ite_pos h (key _ ?_)
    by_cases h2 : es.length ≤ 2000
    · rw [show decide ((es.length : Int) > 2000) = false from decide_eq_false (by omega), decide_eq_true (show layoutOk n l = 0 ∧ es.length ≤ 2000 from ⟨h, h2⟩)]; rfl
    · rw [show decide ((es.length : Int) > 2000) = true from decide_eq_true (by omega), decide_eq_false (show ¬ (layoutOk n l = 0 ∧ es.length ≤ 2000) from fun c => h2 c.2)]; rfl
  · exact Ev.ite_neg h (key _ (by simp [h]))
end
end Go.Proofs.Ytpdnabhpkdchjaa.P
namespace Go.Proofs.Ytpdnabhpkdchjaa.P
open Go.RowKit Go.Proofs.YtpdnabhpkdchjaaW.PrintWords Go.Proofs.YtpdnabhpkdchjaaW.PrintLast
set_option linter.unusedVariables false
set_option linter.unusedSimpArgs false
def prevP (ps : List S143) : Nat → Int
  | 0 => 0
  | k + 1 => (rd_T143 ps (k : Int)).f0
def prevA (ax : List Int) : Nat → Int
  | 0 => 0
  | k + 1 => rd ax (k : Int)
def postAt (l : List S88) (ps : List S143) (k : Nat) : Bool :=
  (decide (prevP ps k ≤ (rd_T143 ps (k : Int)).f0) && decide ((rd_T143 ps (k : Int)).f0 ≤ 1000000)) && (decide (0 ≤ (rd_T143 ps (k : Int)).f1) && decide ((rd_T143 ps (k : Int)).f1 < (l.length : Int))) && (decide ((rd_T143 ps (k : Int)).f2 = 1) || decide ((rd_T143 ps (k : Int)).f2 = -1))
def postsTo (l : List S88) (ps : List S143) : Nat → Bool
  | 0 => true
  | k + 1 => postsTo l ps k && postAt l ps k
def axleAt (ax : List Int) (k : Nat) : Bool := decide (prevA ax k ≤ rd ax (k : Int)) && decide (rd ax (k : Int) ≤ 1000000)
def axlesTo (ax : List Int) : Nat → Bool
  | 0 => true
  | k + 1 => axlesTo ax k && axleAt ax k
def passOk (n : Int) (l : List S88) (ps : List S143) (ax : List Int) (fr tt : Int) : Bool :=
  decide (layoutOk n l = 0) && (postsTo l ps ps.length && decide (ps.length ≤ 120)) && (axlesTo ax ax.length && decide (ax.length ≤ 200)) && (decide (0 ≤ fr) && decide (fr ≤ 1000000)) && (decide (fr ≤ tt) && decide (tt ≤ 1000000))
def passing (n : Int) (l : List S88) (ps : List S143) (ax : List Int) (fr tt : Int) : List S56 := if passOk n l ps ax fr tt = true then trainEvs ps ax fr tt else []
theorem postsTo_false {l : List S88} {ps : List S143} {i : Nat} (h : postsTo l ps i = false) : ∀ d, postsTo l ps (i + d) = false
  | 0 => h
  | d + 1 => by show (postsTo l ps (i + d) && _) = false; rw [postsTo_false h d]; rfl
theorem postsTo_at {l : List S88} {ps : List S143} : ∀ {n : Nat}, postsTo l ps n = true → ∀ k, k < n → postAt l ps k = true
  | n + 1, h, k, hk => by
    rw [postsTo, Bool.and_eq_true] at h
    by_cases e : k = n
    · rw [e]; exact h.2
    · exact postsTo_at h.1 k (by omega)
theorem axlesTo_false {ax : List Int} {i : Nat} (h : axlesTo ax i = false) : ∀ d, axlesTo ax (i + d) = false
  | 0 => h
  | d + 1 => by show (axlesTo ax (i + d) && _) = false; rw [axlesTo_false h d]; rfl
theorem axlesTo_at {ax : List Int} : ∀ {n : Nat}, axlesTo ax n = true → ∀ k, k < n → axleAt ax k = true
  | n + 1, h, k, hk => by
    rw [axlesTo, Bool.and_eq_true] at h
    by_cases e : k = n
    · rw [e]; exact h.2
    · exact axlesTo_at h.1 k (by omega)
theorem post_parts {l : List S88} {ps : List S143} {k : Nat} (h : postAt l ps k = true) : (prevP ps k ≤ (rd_T143 ps (k : Int)).f0 ∧ (rd_T143 ps (k : Int)).f0 ≤ 1000000) ∧ (0 ≤ (rd_T143 ps (k : Int)).f1 ∧ (rd_T143 ps (k : Int)).f1 < (l.length : Int)) ∧ ((rd_T143 ps (k : Int)).f2 = 1 ∨ (rd_T143 ps (k : Int)).f2 = -1) := by
  unfold postAt at h
  simp only [Bool.and_eq_true, Bool.or_eq_true, decide_eq_true_eq] at h
  exact ⟨h.1.1, h.1.2, h.2⟩
theorem axle_parts {ax : List Int} {k : Nat} (h : axleAt ax k = true) : prevA ax k ≤ rd ax (k : Int) ∧ rd ax (k : Int) ≤ 1000000 := by
  unfold axleAt at h
  simpa only [Bool.and_eq_true, decide_eq_true_eq] using h
theorem post_in {l : List S88} {ps : List S143} {n : Nat} (h : postsTo l ps n = true) : ∀ k, k < n → 0 ≤ (rd_T143 ps (k : Int)).f0 ∧ (rd_T143 ps (k : Int)).f0 ≤ 1000000
  | 0, hk => (post_parts (postsTo_at h 0 hk)).1
  | k + 1, hk => by
    have h1 := (post_parts (postsTo_at h (k + 1) hk)).1
    have h2 := post_in h k (by omega)
    have h3 : (rd_T143 ps (k : Int)).f0 ≤ (rd_T143 ps ((k + 1 : Nat) : Int)).f0 := h1.1
    exact ⟨by omega, h1.2⟩
theorem axle_in {ax : List Int} {n : Nat} (h : axlesTo ax n = true) : ∀ k : Nat, k < n → 0 ≤ rd ax (k : Int) ∧ rd ax (k : Int) ≤ 1000000
  | 0, hk => axle_parts (axlesTo_at h 0 hk)
  | k + 1, hk => by
    have h1 := axle_parts (axlesTo_at h (k + 1) hk)
    have h2 := axle_in h k (by omega)
    have h3 : rd ax (k : Int) ≤ rd ax ((k + 1 : Nat) : Int) := h1.1
    exact ⟨by omega, h1.2⟩
end Go.Proofs.Ytpdnabhpkdchjaa.P
namespace Go.Proofs.Ytpdnabhpkdchjaa.P
open Go.RowKit Go.Proofs.YtpdnabhpkdchjaaW.PrintWords Go.Proofs.YtpdnabhpkdchjaaW.PrintLast Go.Proofs.YtpdnabhpkdchjaaW.PrintMore
set_option linter.unusedVariables false
set_option linter.unusedSimpArgs false
section
variable {w : World} {base : Nat} {ok : Nat → Prop} {g n c : Nat} {l : List S50}
theorem sec_at (h : Kd.R k50 50 w base ok (.slice (some ⟨g, 0, none⟩) n c) l) (i : Int) (h0 : 0 ≤ i) (h1 : i < n) :
    w.cell? ⟨g, i.toNat * 5, none⟩ = some (.int .i64 (rd_T50 l i).f0) ∧ w.cell? ⟨g, i.toNat * 5 + 1, none⟩ = some (.int .i64 (rd_T50 l i).f1) ∧ w.cell? ⟨g, i.toNat * 5 + 2, none⟩ = some (.bool (rd_T50 l i).f2) ∧
    w.cell? ⟨g, i.toNat * 5 + 3, none⟩ = some (.bool (rd_T50 l i).f3) ∧ w.cell? ⟨g, i.toNat * 5 + 4, none⟩ = some (.int .i64 (rd_T50 l i).f4) ∧
    w.frozen? ⟨g, i.toNat * 5, none⟩ = false ∧ w.frozen? ⟨g, i.toNat * 5 + 1, none⟩ = false ∧ w.frozen? ⟨g, i.toNat * 5 + 2, none⟩ = false ∧ w.frozen? ⟨g, i.toNat * 5 + 3, none⟩ = false ∧ w.frozen? ⟨g, i.toNat * 5 + 4, none⟩ = false := by
  obtain ⟨ce, hcl, hM, hcc, hfr⟩ := Kd.R_elem h z50 i h0 h1
  obtain rfl := k50_openM hM
  exact ⟨hcc 0 _ rfl, hcc 1 _ rfl, hcc 2 _ rfl, hcc 3 _ rfl, hcc 4 _ rfl, hfr 0, hfr 1, hfr 2, hfr 3, hfr 4⟩
theorem sec_put (h : Kd.R k50 50 w base ok (.slice (some ⟨g, 0, none⟩) n c) l) (i : Int) (h0 : 0 ≤ i) (h1 : i < n) (j : Nat) (hj : j < 5) (u : Value) (x' : S50)
    (hx : ([.int .i64 (rd_T50 l i).f0, .int .i64 (rd_T50 l i).f1, .bool (rd_T50 l i).f2, .bool (rd_T50 l i).f3, .int .i64 (rd_T50 l i).f4] : List Value).take j ++ [u] ++ ([.int .i64 (rd_T50 l i).f0, .int .i64 (rd_T50 l i).f1, .bool (rd_T50 l i).f2, .bool (rd_T50 l i).f3, .int .i64 (rd_T50 l i).f4] : List Value).drop (j + 1) = [.int .i64 x'.f0, .int .i64 x'.f1, .bool x'.f2, .bool x'.f3, .int .i64 x'.f4]) :
    Kd.R k50 50 (w.setCell ⟨g, i.toNat * 5 + j, none⟩ u) base ok (.slice (some ⟨g, 0, none⟩) n c) (l.set i.toNat x') ∧ w.grownBy (w.setCell ⟨g, i.toNat * 5 + j, none⟩ u) (some g) := by
  obtain ⟨ce, hcl, hM, hcc, hfr⟩ := Kd.R_elem h z50 i h0 h1
  have hM0 := k50_openM hM
  change ce = [.int .i64 (rd_T50 l i).f0, .int .i64 (rd_T50 l i).f1, .bool (rd_T50 l i).f2, .bool (rd_T50 l i).f3, .int .i64 (rd_T50 l i).f4] at hM0
  subst hM0
  have HP := Kd.R_seg h i h0 h1 (seg := [u]) (j := j) (okp := fun k => ok k ∧ k ≠ g) hcl hcc (show j + 1 ≤ 5 by omega) (x' := x') (by
    have e : ([.int .i64 (rd_T50 l i).f0, .int .i64 (rd_T50 l i).f1, .bool (rd_T50 l i).f2, .bool (rd_T50 l i).f3, .int .i64 (rd_T50 l i).f4] : List Value).take j ++ [u] ++ ([.int .i64 (rd_T50 l i).f0, .int .i64 (rd_T50 l i).f1, .bool (rd_T50 l i).f2, .bool (rd_T50 l i).f3, .int .i64 (rd_T50 l i).f4] : List Value).drop (j + 1) = _ := hx
    show k50.M w base _ x' (_ ++ [u] ++ List.drop (j + 1) _)
    rw [e]
    exact k50_mkM _ _ _ x') (fun _ hk => hk)
  exact HP
def SecSt (base : Nat) (ok : Nat → Prop) (g n c : Nat) (l : List S50) (i : Int) (w0 w : World) (y : S50) : Prop :=
  Kd.R k50 50 w base ok (.slice (some ⟨g, 0, none⟩) n c) (l.set i.toNat y) ∧ w0.grownBy w (some g)
variable {i : Int} {w0 : World} {a0 a1 a4 : Int} {a2 a3 : Bool}
theorem SecSt.start (h : Kd.R k50 50 w base ok (.slice (some ⟨g, 0, none⟩) n c) l) (h0 : 0 ≤ i) (h1 : i < n) : SecSt base ok g n c l i w w ⟨(rd_T50 l i).f0, (rd_T50 l i).f1, (rd_T50 l i).f2, (rd_T50 l i).f3, (rd_T50 l i).f4⟩ := by
  refine ⟨?_, World.grownBy.refl w _⟩
  have hl := (Kd.R_reads' h).1
  have e : l.set i.toNat ⟨(rd_T50 l i).f0, (rd_T50 l i).f1, (rd_T50 l i).f2, (rd_T50 l i).f3, (rd_T50 l i).f4⟩ = l := by
    have hlt : i.toNat < l.length := by omega
    show l.set i.toNat (rd_T50 l i) = l
    simp only [rd_T50, List.getD_eq_getElem?_getD, List.getElem?_eq_getElem hlt, Option.getD_some, List.set_getElem_self]
  rw [e]
  exact h
theorem SecSt.put (h : SecSt base ok g n c l i w0 w ⟨a0, a1, a2, a3, a4⟩) (h0 : 0 ≤ i) (h1 : i < n) (j : Nat) (hj : j < 5) (u : Value) (x' : S50)
    (hx : ([.int .i64 a0, .int .i64 a1, .bool a2, .bool a3, .int .i64 a4] : List Value).take j ++ [u] ++ ([.int .i64 a0, .int .i64 a1, .bool a2, .bool a3, .int .i64 a4] : List Value).drop (j + 1) = [.int .i64 x'.f0, .int .i64 x'.f1, .bool x'.f2, .bool x'.f3, .int .i64 x'.f4]) :
    SecSt base ok g n c l i w0 (w.setCell ⟨g, i.toNat * 5 + j, none⟩ u) x' := by
  have hl := (Kd.R_reads' h.1).1
  have hlt : i.toNat < l.length := by simp at hl; omega
  have e : rd_T50 (l.set i.toNat ⟨a0, a1, a2, a3, a4⟩) i = ⟨a0, a1, a2, a3, a4⟩ := by
    simp [rd_T50, List.getD_eq_getElem?_getD, List.getElem?_set_self hlt]
  obtain ⟨h2, h3⟩ := sec_put h.1 i h0 h1 j hj u x' (by rw [e]; exact hx)
  rw [List.set_set] at h2
  exact ⟨h2, h.2.trans h3⟩
theorem SecSt.put0 (h : SecSt base ok g n c l i w0 w ⟨a0, a1, a2, a3, a4⟩) (h0 : 0 ≤ i) (h1 : i < n) {u : Int} {off : Nat} (ho : off = i.toNat * 5 + 0) : SecSt base ok g n c l i w0 (w.setCell ⟨g, off, none⟩ (.int .i64 u)) ⟨u, a1, a2, a3, a4⟩ := ho ▸ h.put h0 h1 0 (by omega) _ _ rfl
theorem SecSt.put1 (h : SecSt base ok g n c l i w0 w ⟨a0, a1, a2, a3, a4⟩) (h0 : 0 ≤ i) (h1 : i < n) {u : Int} {off : Nat} (ho : off = i.toNat * 5 + 1) : SecSt base ok g n c l i w0 (w.setCell ⟨g, off, none⟩ (.int .i64 u)) ⟨a0, u, a2, a3, a4⟩ := ho ▸ h.put h0 h1 1 (by omega) _ _ rfl
theorem SecSt.put2 (h : SecSt base ok g n c l i w0 w ⟨a0, a1, a2, a3, a4⟩) (h0 : 0 ≤ i) (h1 : i < n) {u : Bool} {off : Nat} (ho : off = i.toNat * 5 + 2) : SecSt base ok g n c l i w0 (w.setCell ⟨g, off, none⟩ (.bool u)) ⟨a0, a1, u, a3, a4⟩ := ho ▸ h.put h0 h1 2 (by omega) _ _ rfl
theorem SecSt.put3 (h : SecSt base ok g n c l i w0 w ⟨a0, a1, a2, a3, a4⟩) (h0 : 0 ≤ i) (h1 : i < n) {u : Bool} {off : Nat} (ho : off = i.toNat * 5 + 3) : SecSt base ok g n c l i w0 (w.setCell ⟨g, off, none⟩ (.bool u)) ⟨a0, a1, a2, u, a4⟩ := ho ▸ h.put h0 h1 3 (by omega) _ _ rfl
theorem SecSt.put4 (h : SecSt base ok g n c l i w0 w ⟨a0, a1, a2, a3, a4⟩) (h0 : 0 ≤ i) (h1 : i < n) {u : Int} {off : Nat} (ho : off = i.toNat * 5 + 4) : SecSt base ok g n c l i w0 (w.setCell ⟨g, off, none⟩ (.int .i64 u)) ⟨a0, a1, a2, a3, u⟩ := ho ▸ h.put h0 h1 4 (by omega) _ _ rfl
theorem SecSt.eq {y z : S50} (h : SecSt base ok g n c l i w0 w y) (e : z = y) : SecSt base ok g n c l i w0 w z := e ▸ h
end
def cntN (x : S50) (b : Int) : Int := if -1000000 ≤ wrap64 (x.f1 + b) ∧ wrap64 (x.f1 + b) ≤ 1000000 then wrap64 (x.f1 + b) else x.f1
def countS (x : S50) (b : Int) : S50 := ⟨x.f0, cntN x b, x.f2 || decide (cntN x b < 0), x.f3 && !(decide (cntN x b = 0) && decide (b = -1)), b⟩
theorem cnt_in {x : S50} {b : Int} (h1 : -1000000 ≤ wrap64 (x.f1 + b)) (h2 : wrap64 (x.f1 + b) ≤ 1000000) : cntN x b = wrap64 (x.f1 + b) := by unfold cntN; rw [if_pos ⟨h1, h2⟩]
theorem cnt_lo {x : S50} {b : Int} (h1 : ¬ -1000000 ≤ wrap64 (x.f1 + b)) : cntN x b = x.f1 := by unfold cntN; rw [if_neg (fun h => h1 h.1)]
theorem cnt_hi {x : S50} {b : Int} (h1 : ¬ wrap64 (x.f1 + b) ≤ 1000000) : cntN x b = x.f1 := by unfold cntN; rw [if_neg (fun h => h1 h.2)]
theorem countS_eq {x : S50} {b C : Int} {lost sw : Bool} (hC : cntN x b = C) (hl : (x.f2 || decide (C < 0)) = lost) (hs : (x.f3 && !(decide (C = 0) && decide (b = -1))) = sw) : countS x b = ⟨x.f0, C, lost, sw, b⟩ := by
  unfold countS
  rw [hC, hl, hs]
theorem cnt_out (s b : Int) (v : Value) (w : World) (h : s < 0) : Calls Try.prog 130 #[.int .i64 s, .int .i64 b, v] w fun e w' => e = .returned (.tuple #[]) ∧ w = w' := by
  have h1 : decide (s < 0) = true := decide_eq_true h
  go_enter Try.func130, Try.ntmps130
  go_wp2
  refine bodyPost_ret (results_none rfl _ _ _) rfl ?_
  exact ⟨rfl, rfl⟩
set_option maxHeartbeats 4000000 in
set_option maxRecDepth 100000 in
theorem cnt_calls (s b : Int) (bo : Bool) (g gr n c : Nat) (v2 : Value) (l : List S50) (w : World) (base : Nat) (ok : Nat → Prop) (h0 : 0 ≤ s) (h1 : s < n)
    (hb : w.heap[g]? = some (.cells #[.bool bo, .slice (some ⟨gr, 0, none⟩) n c, v2] 46 (0, 0))) (HO : Kd.R k50 50 w base ok (.slice (some ⟨gr, 0, none⟩) n c) l) :
    Calls Try.prog 130 #[.int .i64 s, .int .i64 b, .pointer (some ⟨g, 0, none⟩)] w fun e w' => e = .returned (.tuple #[]) ∧ Kd.R k50 50 w' base ok (.slice (some ⟨gr, 0, none⟩) n c) (l.set s.toNat (countS (rd_T50 l s) b)) ∧ w.grownBy w' (some gr) := by
  obtain ⟨x0, x1, x2, x3, x4, f0, f1, f2, f3, f4⟩ := sec_at HO s h0 h1
  have hc1 : w.cell? ⟨g, 1, none⟩ = some (.slice (some ⟨gr, 0, none⟩) n c) := (blk_cell hb 1).trans rfl
  have hs : decide (s < 0) = false := decide_eq_false (by omega)
  have H0 := Aside0.mk h0
  have H1 := Aside0.mk h1
  have HO2 := Aside0.mk HO
  have hp0 := eq_true h0
  have hp1 := eq_true h1
  have ST := Aside0.mk (SecSt.start HO H0.out H1.out)
  generalize hx : rd_T50 l s = x at x0 x1 x2 x3 x4 ST ⊢
  have HX := hx
  clear hx hb h0 h1 HO HO2 HX
  by_cases q1 : -1000000 ≤ wrap64 (x.f1 + b)
  · skip
    have f1 : decide (wrap64 (x.f1 + b) ≥ -1000000) = true := decide_eq_true q1
    have Q1 := Aside0.mk q1
    clear q1
    by_cases q2 : wrap64 (x.f1 + b) ≤ 1000000
    · skip
      have f2 : decide (wrap64 (x.f1 + b) ≤ 1000000) = true := decide_eq_true q2
      have Q2 := Aside0.mk q2
      clear q2
      by_cases q3 : wrap64 (x.f1 + b) < 0
      · skip
        have f3 : decide (wrap64 (x.f1 + b) < 0) = true := decide_eq_true q3
        have Q3 := Aside0.mk q3
        clear q3
        rcases Bool.eq_false_or_eq_true x.f3 with q4 | q4
        · skip
          by_cases q5 : wrap64 (x.f1 + b) = 0
          · skip
            have f5 : (wrap64 (x.f1 + b) == 0) = true := beq_iff_eq.mpr q5
            have Q5 := Aside0.mk q5
            clear q5
            exact absurd Q5.out (by have := Q3.out; omega)
          · skip
            have f5 : (wrap64 (x.f1 + b) == 0) = false := beq_eq_false_iff_ne.mpr q5
            have Q5 := Aside0.mk q5
            clear q5
            go_enter Try.func130, Try.ntmps130
            go_wp2
            go_end0
            exact ⟨rfl, SecSt.eq (((ST.out.put1 H0.out H1.out rfl).put4 H0.out H1.out rfl).put2 H0.out H1.out rfl) (countS_eq (cnt_in (by have := Q1.out; omega) (by have := Q2.out; omega)) (by rw [decide_eq_true (by have := Q3.out; omega)]; simp) (by rw [decide_eq_false (by have := Q5.out; omega)]; simp))⟩
        · have Q4 := Aside0.mk q4
          go_enter Try.func130, Try.ntmps130
          go_wp2
          go_end0
          exact ⟨rfl, SecSt.eq (((ST.out.put1 H0.out H1.out rfl).put4 H0.out H1.out rfl).put2 H0.out H1.out rfl) (countS_eq (cnt_in (by have := Q1.out; omega) (by have := Q2.out; omega)) (by rw [decide_eq_true (by have := Q3.out; omega)]; simp) (by rw [Q4.out]; rfl))⟩
      · skip
        have f3 : decide (wrap64 (x.f1 + b) < 0) = false := decide_eq_false q3
        have Q3 := Aside0.mk q3
        clear q3
        rcases Bool.eq_false_or_eq_true x.f3 with q4 | q4
        · skip
          by_cases q5 : wrap64 (x.f1 + b) = 0
          · skip
            have f5 : (wrap64 (x.f1 + b) == 0) = true := beq_iff_eq.mpr q5
            have Q5 := Aside0.mk q5
            clear q5
            by_cases q6 : b = -1
            · skip
              have f6 : (b == -1) = true := beq_iff_eq.mpr q6
              have Q6 := Aside0.mk q6
              clear q6
              go_enter Try.func130, Try.ntmps130
              go_wp2
              go_end0
              exact ⟨rfl, SecSt.eq (((ST.out.put1 H0.out H1.out rfl).put4 H0.out H1.out rfl).put3 H0.out H1.out rfl) (countS_eq (cnt_in (by have := Q1.out; omega) (by have := Q2.out; omega)) (by rw [decide_eq_false (by have := Q3.out; omega)]; simp) (by rw [decide_eq_true (by have := Q5.out; omega), decide_eq_true (by have := Q6.out; omega)]; simp))⟩
            · skip
              have f6 : (b == -1) = false := beq_eq_false_iff_ne.mpr q6
              have Q6 := Aside0.mk q6
              clear q6
              go_enter Try.func130, Try.ntmps130
              go_wp2
              go_end0
              exact ⟨rfl, SecSt.eq ((ST.out.put1 H0.out H1.out rfl).put4 H0.out H1.out rfl) (countS_eq (cnt_in (by have := Q1.out; omega) (by have := Q2.out; omega)) (by rw [decide_eq_false (by have := Q3.out; omega)]; simp) (by rw [decide_eq_false (show ¬ b = -1 from Q6.out)]; simp))⟩
          · skip
            have f5 : (wrap64 (x.f1 + b) == 0) = false := beq_eq_false_iff_ne.mpr q5
            have Q5 := Aside0.mk q5
            clear q5
            go_enter Try.func130, Try.ntmps130
            go_wp2
            go_end0
            exact ⟨rfl, SecSt.eq ((ST.out.put1 H0.out H1.out rfl).put4 H0.out H1.out rfl) (countS_eq (cnt_in (by have := Q1.out; omega) (by have := Q2.out; omega)) (by rw [decide_eq_false (by have := Q3.out; omega)]; simp) (by rw [decide_eq_false (by have := Q5.out; omega)]; simp))⟩
        · have Q4 := Aside0.mk q4
          go_enter Try.func130, Try.ntmps130
          go_wp2
          go_end0
          exact ⟨rfl, SecSt.eq ((ST.out.put1 H0.out H1.out rfl).put4 H0.out H1.out rfl) (countS_eq (cnt_in (by have := Q1.out; omega) (by have := Q2.out; omega)) (by rw [decide_eq_false (by have := Q3.out; omega)]; simp) (by rw [Q4.out]; rfl))⟩
    · skip
      have f2 : decide (wrap64 (x.f1 + b) ≤ 1000000) = false := decide_eq_false q2
      have Q2 := Aside0.mk q2
      clear q2
      by_cases q3 : x.f1 < 0
      · skip
        have f3 : decide (x.f1 < 0) = true := decide_eq_true q3
        have Q3 := Aside0.mk q3
        clear q3
        rcases Bool.eq_false_or_eq_true x.f3 with q4 | q4
        · skip
          by_cases q5 : x.f1 = 0
          · skip
            have f5 : (x.f1 == 0) = true := beq_iff_eq.mpr q5
            have Q5 := Aside0.mk q5
            clear q5
            exact absurd Q5.out (by have := Q3.out; omega)
          · skip
            have f5 : (x.f1 == 0) = false := beq_eq_false_iff_ne.mpr q5
            have Q5 := Aside0.mk q5
            clear q5
            go_enter Try.func130, Try.ntmps130
            go_wp2
            go_end0
            exact ⟨rfl, SecSt.eq ((ST.out.put4 H0.out H1.out rfl).put2 H0.out H1.out rfl) (countS_eq (cnt_hi (by have := Q2.out; omega)) (by rw [decide_eq_true (by have := Q3.out; omega)]; simp) (by rw [decide_eq_false (by have := Q5.out; omega)]; simp))⟩
        · have Q4 := Aside0.mk q4
          go_enter Try.func130, Try.ntmps130
          go_wp2
          go_end0
          exact ⟨rfl, SecSt.eq ((ST.out.put4 H0.out H1.out rfl).put2 H0.out H1.out rfl) (countS_eq (cnt_hi (by have := Q2.out; omega)) (by rw [decide_eq_true (by have := Q3.out; omega)]; simp) (by rw [Q4.out]; rfl))⟩
      · skip
        have f3 : decide (x.f1 < 0) = false := decide_eq_false q3
        have Q3 := Aside0.mk q3
        clear q3
        rcases Bool.eq_false_or_eq_true x.f3 with q4 | q4
        · skip
          by_cases q5 : x.f1 = 0
          · skip
            have f5 : (x.f1 == 0) = true := beq_iff_eq.mpr q5
            have Q5 := Aside0.mk q5
            clear q5
            by_cases q6 : b = -1
            · skip
              have f6 : (b == -1) = true := beq_iff_eq.mpr q6
              have Q6 := Aside0.mk q6
              clear q6
              go_enter Try.func130, Try.ntmps130
              go_wp2
              go_end0
              exact ⟨rfl, SecSt.eq ((ST.out.put4 H0.out H1.out rfl).put3 H0.out H1.out rfl) (countS_eq (cnt_hi (by have := Q2.out; omega)) (by rw [decide_eq_false (by have := Q3.out; omega)]; simp) (by rw [decide_eq_true (by have := Q5.out; omega), decide_eq_true (by have := Q6.out; omega)]; simp))⟩
            · skip
              have f6 : (b == -1) = false := beq_eq_false_iff_ne.mpr q6
              have Q6 := Aside0.mk q6
              clear q6
              go_enter Try.func130, Try.ntmps130
              go_wp2
              go_end0
              exact ⟨rfl, SecSt.eq (ST.out.put4 H0.out H1.out rfl) (countS_eq (cnt_hi (by have := Q2.out; omega)) (by rw [decide_eq_false (by have := Q3.out; omega)]; simp) (by rw [decide_eq_false (show ¬ b = -1 from Q6.out)]; simp))⟩
          · skip
            have f5 : (x.f1 == 0) = false := beq_eq_false_iff_ne.mpr q5
            have Q5 := Aside0.mk q5
            clear q5
            go_enter Try.func130, Try.ntmps130
            go_wp2
            go_end0
            exact ⟨rfl, SecSt.eq (ST.out.put4 H0.out H1.out rfl) (countS_eq (cnt_hi (by have := Q2.out; omega)) (by rw [decide_eq_false (by have := Q3.out; omega)]; simp) (by rw [decide_eq_false (by have := Q5.out; omega)]; simp))⟩
        · have Q4 := Aside0.mk q4
          go_enter Try.func130, Try.ntmps130
          go_wp2
          go_end0
          exact ⟨rfl, SecSt.eq (ST.out.put4 H0.out H1.out rfl) (countS_eq (cnt_hi (by have := Q2.out; omega)) (by rw [decide_eq_false (by have := Q3.out; omega)]; simp) (by rw [Q4.out]; rfl))⟩
  · skip
    have f1 : decide (wrap64 (x.f1 + b) ≥ -1000000) = false := decide_eq_false q1
    have Q1 := Aside0.mk q1
    clear q1
    by_cases q3 : x.f1 < 0
    · skip
      have f3 : decide (x.f1 < 0) = true := decide_eq_true q3
      have Q3 := Aside0.mk q3
      clear q3
      rcases Bool.eq_false_or_eq_true x.f3 with q4 | q4
      · skip
        by_cases q5 : x.f1 = 0
        · skip
          have f5 : (x.f1 == 0) = true := beq_iff_eq.mpr q5
          have Q5 := Aside0.mk q5
          clear q5
          exact absurd Q5.out (by have := Q3.out; omega)
        · skip
          have f5 : (x.f1 == 0) = false := beq_eq_false_iff_ne.mpr q5
          have Q5 := Aside0.mk q5
          clear q5
          go_enter Try.func130, Try.ntmps130
          go_wp2
          go_end0
          exact ⟨rfl, SecSt.eq ((ST.out.put4 H0.out H1.out rfl).put2 H0.out H1.out rfl) (countS_eq (cnt_lo (by have := Q1.out; omega)) (by rw [decide_eq_true (by have := Q3.out; omega)]; simp) (by rw [decide_eq_false (by have := Q5.out; omega)]; simp))⟩
      · have Q4 := Aside0.mk q4
        go_enter Try.func130, Try.ntmps130
        go_wp2
        go_end0
        exact ⟨rfl, SecSt.eq ((ST.out.put4 H0.out H1.out rfl).put2 H0.out H1.out rfl) (countS_eq (cnt_lo (by have := Q1.out; omega)) (by rw [decide_eq_true (by have := Q3.out; omega)]; simp) (by rw [Q4.out]; rfl))⟩
    · skip
      have f3 : decide (x.f1 < 0) = false := decide_eq_false q3
      have Q3 := Aside0.mk q3
      clear q3
      rcases Bool.eq_false_or_eq_true x.f3 with q4 | q4
      · skip
        by_cases q5 : x.f1 = 0
        · skip
          have f5 : (x.f1 == 0) = true := beq_iff_eq.mpr q5
          have Q5 := Aside0.mk q5
          clear q5
          by_cases q6 : b = -1
          · skip
            have f6 : (b == -1) = true := beq_iff_eq.mpr q6
            have Q6 := Aside0.mk q6
            clear q6
            go_enter Try.func130, Try.ntmps130
            go_wp2
            go_end0
            exact ⟨rfl, SecSt.eq ((ST.out.put4 H0.out H1.out rfl).put3 H0.out H1.out rfl) (countS_eq (cnt_lo (by have := Q1.out; omega)) (by rw [decide_eq_false (by have := Q3.out; omega)]; simp) (by rw [decide_eq_true (by have := Q5.out; omega), decide_eq_true (by have := Q6.out; omega)]; simp))⟩
          · skip
            have f6 : (b == -1) = false := beq_eq_false_iff_ne.mpr q6
            have Q6 := Aside0.mk q6
            clear q6
            go_enter Try.func130, Try.ntmps130
            go_wp2
            go_end0
            exact ⟨rfl, SecSt.eq (ST.out.put4 H0.out H1.out rfl) (countS_eq (cnt_lo (by have := Q1.out; omega)) (by rw [decide_eq_false (by have := Q3.out; omega)]; simp) (by rw [decide_eq_false (show ¬ b = -1 from Q6.out)]; simp))⟩
        · skip
          have f5 : (x.f1 == 0) = false := beq_eq_false_iff_ne.mpr q5
          have Q5 := Aside0.mk q5
          clear q5
          go_enter Try.func130, Try.ntmps130
          go_wp2
          go_end0
          exact ⟨rfl, SecSt.eq (ST.out.put4 H0.out H1.out rfl) (countS_eq (cnt_lo (by have := Q1.out; omega)) (by rw [decide_eq_false (by have := Q3.out; omega)]; simp) (by rw [decide_eq_false (by have := Q5.out; omega)]; simp))⟩
      · have Q4 := Aside0.mk q4
        go_enter Try.func130, Try.ntmps130
        go_wp2
        go_end0
        exact ⟨rfl, SecSt.eq (ST.out.put4 H0.out H1.out rfl) (countS_eq (cnt_lo (by have := Q1.out; omega)) (by rw [decide_eq_false (by have := Q3.out; omega)]; simp) (by rw [Q4.out]; rfl))⟩
end Go.Proofs.Ytpdnabhpkdchjaa.P
namespace Go.Proofs.Ytpdnabhpkdchjaa.P
open Go.RowKit Go.Proofs.YtpdnabhpkdchjaaW.PrintWords Go.Proofs.YtpdnabhpkdchjaaW.PrintLast Go.Proofs.YtpdnabhpkdchjaaW.PrintMore
set_option linter.unusedVariables false
set_option linter.unusedSimpArgs false
def loseS (x : S50) : S50 := ⟨x.f0, x.f1, true, x.f3, x.f4⟩
theorem lose_none (s : Int) (v : Value) (w : World) (h : s < 0) : Calls Try.prog 131 #[.int .i64 s, v] w fun e w' => e = .returned (.tuple #[]) ∧ w = w' := by
  have h1 : decide (s ≥ 0) = false := decide_eq_false (by omega)
  go_enter Try.func131, Try.ntmps131
  go_wp2
  go_end0
  exact ⟨rfl, rfl⟩
set_option maxHeartbeats 4000000 in
set_option maxRecDepth 100000 in
theorem lose_calls (s : Int) (bo : Bool) (g gr n c : Nat) (v2 : Value) (l : List S50) (w : World) (base : Nat) (ok : Nat → Prop) (h0 : 0 ≤ s) (h1 : s < n)
    (hb : w.heap[g]? = some (.cells #[.bool bo, .slice (some ⟨gr, 0, none⟩) n c, v2] 46 (0, 0))) (HO : Kd.R k50 50 w base ok (.slice (some ⟨gr, 0, none⟩) n c) l) :
    Calls Try.prog 131 #[.int .i64 s, .pointer (some ⟨g, 0, none⟩)] w fun e w' => e = .returned (.tuple #[]) ∧ Kd.R k50 50 w' base ok (.slice (some ⟨gr, 0, none⟩) n c) (l.set s.toNat (loseS (rd_T50 l s))) ∧ w.grownBy w' (some gr) := by
  obtain ⟨x0, x1, x2, x3, x4, f0, f1, f2, f3, f4⟩ := sec_at HO s h0 h1
  have hc1 : w.cell? ⟨g, 1, none⟩ = some (.slice (some ⟨gr, 0, none⟩) n c) := (blk_cell hb 1).trans rfl
  have hs : decide (s ≥ 0) = true := decide_eq_true (by omega)
  have H0 := Aside0.mk h0
  have H1 := Aside0.mk h1
  have hp0 := eq_true h0
  have hp1 := eq_true h1
  have ST := Aside0.mk (SecSt.start HO H0.out H1.out)
  generalize hx : rd_T50 l s = x at x0 x1 x2 x3 x4 ST ⊢
  clear hx hb h0 h1 HO
  go_enter Try.func131, Try.ntmps131
  go_wp2
  go_end0
  exact ⟨rfl, SecSt.eq (ST.out.put2 H0.out H1.out rfl) rfl⟩
end Go.Proofs.Ytpdnabhpkdchjaa.P
namespace Go.Proofs.Ytpdnabhpkdchjaa.P
open Go.RowKit Go.Proofs.YtpdnabhpkdchjaaW.PrintWords Go.Proofs.YtpdnabhpkdchjaaW.PrintLast
set_option linter.unusedVariables false
set_option linter.unusedSimpArgs false
def hits (s : Int) (x : S88) : Bool := decide (x.f0 = s) || decide (x.f1 = s)
end Go.Proofs.Ytpdnabhpkdchjaa.P
namespace Go.Proofs.Ytpdnabhpkdchjaa.P
open Go.RowKit Go.Proofs.YtpdnabhpkdchjaaW.PrintWords Go.Proofs.YtpdnabhpkdchjaaW.PrintLast Go.Proofs.YtpdnabhpkdchjaaW.PrintMore
attribute [local go_sem] max2_int min2_int max_two min_two max_three min_three max_four min_four
set_option linter.unusedVariables false
set_option linter.unusedSimpArgs false
def impl_dead.l0:Nat→Int→List (S88)→Int→Int→Bool→List (S50)→List Bool→Option (Bool)
 | 0,_,_,_,_,_,_,_=>none
 | k+1,x2,x10,x11,x12,x328000,x328001,x328002=>if x12<x11 then (if 0≤x12 then (if x12<(x10.length:Int) then (if x12<(x328002.length:Int) then (if rdOf false x328002 x12=true then (if ((rd_T88 x10 x12).f0)=x2 then (some true) else (if ((rd_T88 x10 x12).f1)=x2 then (some true) else (impl_dead.l0 k x2 x10 x11 (wrap64 (x12+1)) x328000 x328001 x328002))) else (impl_dead.l0 k x2 x10 x11 (wrap64 (x12+1)) x328000 x328001 x328002)) else (none)) else (none)) else (none)) else (some false)
def impl_dead.f (k:Nat) (a0_0:Int) (l0_1:List (S88)) (a1_0:Bool) (l1_1:List (S50)) (l1_2:List Bool) (a2:Int):Option (Bool):=impl_dead.l0 k a2 l0_1 (l0_1.length:Int) 0 a1_0 l1_1 l1_2
set_option maxHeartbeats 8000000 in
set_option maxRecDepth 100000 in
theorem impl_dead.calls (k:Nat) (a0_0:Int) (A0_1:Option Addr) (c0_1:Nat) (l0_1:List (S88)) (a1_0:Bool) (A1_1:Option Addr) (c1_1:Nat) (l1_1:List (S50)) (A1_2:Option Addr) (c1_2:Nat) (l1_2:List Bool) (a2:Int) (r:Bool) (w:World) (hr0_1:Kd.C k88 w A0_1 l0_1.length l0_1) (hc0_1:l0_1.length≤c0_1) (hr1_1:Kd.C k50 w A1_1 l1_1.length l1_1) (hc1_1:l1_1.length≤c1_1) (hr1_2:Kd.C Kd.bool w A1_2 l1_2.length l1_2) (hc1_2:l1_2.length≤c1_2) (h:impl_dead.f k a0_0 l0_1 a1_0 l1_1 l1_2 a2=some r) :
  Calls Try.prog 98 #[.agg #[.int .i64 a0_0,.slice A0_1 l0_1.length c0_1],.agg #[.bool a1_0,.slice A1_1 l1_1.length c1_1,.slice A1_2 l1_2.length c1_2],.int .i64 a2] w fun e w'=>e=.returned (.bool r)∧Below w.heap.size w w':=by
 have hu30:=Try.underlying30
 have hu46:=Try.underlying46
 have hu88:=Try.underlying88
 have HR0_1:=Aside0.mk hr0_1
 have HC0_1:=Aside0.mk hc0_1
 clear hr0_1 hc0_1
 have HR1_1:=Aside0.mk hr1_1
 have HC1_1:=Aside0.mk hc1_1
 clear hr1_1 hc1_1
 have HR1_2:=Aside0.mk hr1_2
 have HC1_2:=Aside0.mk hc1_2
 clear hr1_2 hc1_2
 have HB:=Aside0.mk (Below.refl w.heap.size w)
 have H:(impl_dead.l0 k a2 l0_1 (l0_1.length:Int) 0 a1_0 l1_1 l1_2)=some r:=h
 clear h
 have H':=Aside0.mk H
 clear H
 go_enter Try.func98,Try.ntmps98
 go_wp2_with (first|((with_reducible refine gate_dst (N:=3) rfl ?_);refine box_event ?hg (N:=3) ?hd (cs:=#[.int .i64 a0_0,.slice A0_1 l0_1.length c0_1]) (t:=30) ?hr ?_;(case hd=>rfl);(case hg=>rfl);(case hr=>first|(go_simp;done)|(go_simp;rfl));intro gb326 hg w4 hbox hb;have n0_:=Aside0.mk (below_step (by exact HB.out) hb);have n1_:=Aside0.mk (hbox);have n2_:=Aside0.mk ((by rw [hg];exact (below_size (by exact HB.out)):w.heap.size≤gb326));have n3_:=Aside0.mk ((by rw [hg];exact (below_size (by exact HB.out)):w.heap.size≤gb326));clear HB;have HB:=n0_;have BK326:=n1_;have GW326:=n2_;have GE326:=n3_;clear n0_ n1_ n2_ n3_;clear hb hbox hg)|((with_reducible refine gate_dst (N:=4) rfl ?_);refine box_event ?hg (N:=4) ?hd (cs:=#[.bool a1_0,.slice A1_1 l1_1.length c1_1,.slice A1_2 l1_2.length c1_2]) (t:=46) ?hr ?_;(case hd=>rfl);(case hg=>rfl);(case hr=>first|(go_simp;done)|(go_simp;rfl));intro gb327 hg w5 hbox hb;have n0_:=Aside0.mk (blk_below (g:=gb326) (o:=.cells #[.int .i64 a0_0,.slice A0_1 l0_1.length c0_1] 30 (0,0)) (by exact BK326.out) hb);have n1_:=Aside0.mk (below_step (by exact HB.out) hb);have n2_:=Aside0.mk (hbox);have n3_:=Aside0.mk ((by rw [hg];exact (below_size (by exact HB.out)):w.heap.size≤gb327));have n4_:=Aside0.mk ((by rw [hg];exact (below_size (by exact HB.out)):w.heap.size≤gb327));have n5_:=Aside0.mk ((by rw [hg];exact Nat.ne_of_lt (blk_lt (g:=gb326) (o:=.cells #[.int .i64 a0_0,.slice A0_1 l0_1.length c0_1] 30 (0,0)) (by exact BK326.out)):gb326 ≠ gb327));have n6_:=Aside0.mk ((by rw [hg];exact Nat.ne_of_gt (blk_lt (g:=gb326) (o:=.cells #[.int .i64 a0_0,.slice A0_1 l0_1.length c0_1] 30 (0,0)) (by exact BK326.out)):gb327 ≠ gb326));clear BK326;clear HB;have BK326:=n0_;have HB:=n1_;have BK327:=n2_;have GW327:=n3_;have GE327:=n4_;have NB326_327:=n5_;have NB327_326:=n6_;clear n0_ n1_ n2_ n3_ n4_ n5_ n6_;clear hb hbox hg;have hnb6:=NB326_327.out;have hnc6:=NB327_326.out;have hcz7_0:w5.cell? ⟨gb326,0,none⟩=some (.int .i64 a0_0):=(blk_cell BK326.out 0).trans rfl;have hcz7_1:w5.cell? ⟨gb326,1,none⟩=some (.slice A0_1 l0_1.length c0_1):=(blk_cell BK326.out 1).trans rfl;have hfz7_0:=blk_frozen BK326.out 0;have hfz7_1:=blk_frozen BK326.out 1))
 go_loopg [12] k (fun kq v12 w'=>∃ (x12_1:Int),v12=.int .i64 x12_1∧Aside0 (impl_dead.l0 kq a2 l0_1 (l0_1.length:Int) x12_1 a1_0 l1_1 l1_2=some r)∧Aside0 (kq≤k)∧Aside0 (w'.heap[gb326]?=some (.cells #[.int .i64 a0_0,(.slice A0_1 l0_1.length c0_1)] 30 (0,0)))∧Aside0 (w'.heap[gb327]?=some (.cells #[.bool a1_0,(.slice A1_1 l1_1.length c1_1),(.slice A1_2 l1_2.length c1_2)] 46 (0,0)))∧Aside0 (Below w.heap.size w w'))
 case atStart=>exact ⟨(0),(by first|rfl|(simp;done)|(simp [*];done)),H',⟨Nat.le_refl _⟩,⟨by exact BK326.out⟩,⟨by exact BK327.out⟩,⟨by exact HB.out⟩⟩
 case round =>
  clear H'
  try clear c1
  try clear p2
  try clear c6
  try clear hcz7_0
  try clear hcz7_1
  try clear hfz7_0
  try clear hfz7_1
  obtain ⟨x12_1,rfl,HA,HK1,BK326,BK327,HB⟩:=hrel
  cases gk with
  | zero=>exact absurd HA.out (by simp [impl_dead.l0])
  | succ k1 =>
   have H:=HA.out
   clear HA
   simp only [impl_dead.l0] at H
   by_cases c8:x12_1<(l0_1.length:Int)
   ·rw [if_pos c8] at H
    have c8b0:decide (x12_1<(l0_1.length:Int))=true:=decide_eq_true c8
    clear c8
    by_cases c9:0≤x12_1
    ·rw [if_pos c9] at H
     have c9b0:decide (0≤x12_1)=true:=decide_eq_true c9
     clear c9
     by_cases c10:x12_1<(l0_1.length:Int)
     ·rw [if_pos c10] at H
      have c10b0:decide (x12_1<(l0_1.length:Int))=true:=decide_eq_true c10
      clear c10
      by_cases c11:x12_1<(l1_2.length:Int)
      ·rw [if_pos c11] at H
       have c11b0:decide (x12_1<(l1_2.length:Int))=true:=decide_eq_true c11
       clear c11
       obtain ⟨bq12,hbq12⟩:∃ b_:Bool,b_=(rdOf false l1_2 x12_1):=⟨_,rfl⟩
       replace H:(if bq12=true then (if ((rd_T88 l0_1 x12_1).f0)=a2 then (some true) else (if ((rd_T88 l0_1 x12_1).f1)=a2 then (some true) else (impl_dead.l0 k1 a2 l0_1 (l0_1.length:Int) (wrap64 (x12_1+1)) a1_0 l1_1 l1_2))) else (impl_dead.l0 k1 a2 l0_1 (l0_1.length:Int) (wrap64 (x12_1+1)) a1_0 l1_1 l1_2))=some r:=by rw [← hbq12] at H;exact H
       have Nbq12:=Aside0.mk hbq12
       clear hbq12
       by_cases c13:bq12=true
       ·subst c13
        have H1:(if ((rd_T88 l0_1 x12_1).f0)=a2 then (some true) else (if ((rd_T88 l0_1 x12_1).f1)=a2 then (some true) else (impl_dead.l0 k1 a2 l0_1 (l0_1.length:Int) (wrap64 (x12_1+1)) a1_0 l1_1 l1_2)))=some r:=by rw [if_pos rfl] at H;exact H
        clear H
        have H:=H1
        clear H1
        by_cases c14:((rd_T88 l0_1 x12_1).f0)=a2
        ·rw [if_pos c14] at H
         have c14b0:(((rd_T88 l0_1 x12_1).f0)==a2)=true:=beq_iff_eq.mpr c14
         have c14b1:(((rd_T88 l0_1 x12_1).f0) != a2)=false:=bne_eq_false_iff_eq.mpr c14
         clear c14
         obtain rfl:=Option.some.inj H
         have p328:0≤(x12_1:Int):=of_decide_eq_true (by first|(with_reducible assumption)|assumption)
         have q328:x12_1<(l0_1.length:Int):=of_decide_eq_true (by first|(with_reducible assumption)|assumption)
         obtain ⟨ad328,e328,hx328_0,hx328_1⟩:=at_T88 HR0_1.out x12_1 p328 q328
         cases e328
         replace hx328_0:=(HB.out.cell (World.block_lt_of_cell? w _ hx328_0)).trans hx328_0
         replace hx328_1:=(HB.out.cell (World.block_lt_of_cell? w _ hx328_1)).trans hx328_1
         replace p328:=eq_true p328
         replace q328:=eq_true q328
         go_wp2_with (first|((with_reducible refine gate_dst (N:=8) rfl ?_);refine box_event ?hg (N:=8) ?hd (cs:=#[.int .i64 0,.int .i64 0]) (t:=88) ?hr ?_;(case hd=>rfl);(case hg=>rfl);(case hr=>first|(go_simp;done)|(go_simp;rfl));intro gb329 hg w15 hbox hb;have n0_:=Aside0.mk (blk_below (g:=gb326) (o:=.cells #[.int .i64 a0_0,.slice (some ad328) l0_1.length c0_1] 30 (0,0)) (by exact BK326.out) hb);have n1_:=Aside0.mk (blk_below (g:=gb327) (o:=.cells #[.bool a1_0,.slice A1_1 l1_1.length c1_1,.slice A1_2 l1_2.length c1_2] 46 (0,0)) (by exact BK327.out) hb);have n2_:=Aside0.mk (below_step (by exact HB.out) hb);have n3_:=Aside0.mk (hbox);have n4_:=Aside0.mk ((by rw [hg];exact (below_size (by exact HB.out)):w.heap.size≤gb329));have n5_:=Aside0.mk ((by rw [hg];exact (below_size (by exact HB.out)):w.heap.size≤gb329));have n6_:=Aside0.mk ((by rw [hg];exact Nat.ne_of_lt (blk_lt (g:=gb326) (o:=.cells #[.int .i64 a0_0,.slice (some ad328) l0_1.length c0_1] 30 (0,0)) (by exact BK326.out)):gb326 ≠ gb329));have n7_:=Aside0.mk ((by rw [hg];exact Nat.ne_of_gt (blk_lt (g:=gb326) (o:=.cells #[.int .i64 a0_0,.slice (some ad328) l0_1.length c0_1] 30 (0,0)) (by exact BK326.out)):gb329 ≠ gb326));have n8_:=Aside0.mk ((by rw [hg];exact Nat.ne_of_lt (blk_lt (g:=gb327) (o:=.cells #[.bool a1_0,.slice A1_1 l1_1.length c1_1,.slice A1_2 l1_2.length c1_2] 46 (0,0)) (by exact BK327.out)):gb327 ≠ gb329));have n9_:=Aside0.mk ((by rw [hg];exact Nat.ne_of_gt (blk_lt (g:=gb327) (o:=.cells #[.bool a1_0,.slice A1_1 l1_1.length c1_1,.slice A1_2 l1_2.length c1_2] 46 (0,0)) (by exact BK327.out)):gb329 ≠ gb327));clear BK326;clear BK327;clear HB;have BK326:=n0_;have BK327:=n1_;have HB:=n2_;have BK329:=n3_;have GW329:=n4_;have GE329:=n5_;have NB326_329:=n6_;have NB329_326:=n7_;have NB327_329:=n8_;have NB329_327:=n9_;clear n0_ n1_ n2_ n3_ n4_ n5_ n6_ n7_ n8_ n9_;clear hb hbox hg;have hnb16:=NB329_326.out;have hnc16:=NB326_329.out;have hnb17:=NB329_327.out;have hnc17:=NB327_329.out;have hcz18_0:w15.cell? ⟨gb329,0,none⟩=some (.int .i64 0):=(blk_cell BK329.out 0).trans rfl;have hcz18_1:w15.cell? ⟨gb329,1,none⟩=some (.int .i64 0):=(blk_cell BK329.out 1).trans rfl;have hfz18_0:=blk_frozen BK329.out 0;have hfz18_1:=blk_frozen BK329.out 1;have hnb19:=NB327_326.out;have hnc19:=NB326_327.out;have hcz20_0:w15.cell? ⟨gb327,0,none⟩=some (.bool a1_0):=(blk_cell BK327.out 0).trans rfl;have hcz20_1:w15.cell? ⟨gb327,1,none⟩=some (.slice A1_1 l1_1.length c1_1):=(blk_cell BK327.out 1).trans rfl;have hcz20_2:w15.cell? ⟨gb327,2,none⟩=some (.slice A1_2 l1_2.length c1_2):=(blk_cell BK327.out 2).trans rfl;have hfz20_0:=blk_frozen BK327.out 0;have hfz20_1:=blk_frozen BK327.out 1;have hfz20_2:=blk_frozen BK327.out 2;have p330:0≤(x12_1:Int):=of_decide_eq_true (by first|(with_reducible assumption)|assumption);have q330:x12_1<(l1_2.length:Int):=of_decide_eq_true (by first|(with_reducible assumption)|assumption);obtain ⟨ad330,e330,hx330_0⟩:=Kd.at_bool HR1_2.out x12_1 p330 q330;(try rw [← Nbq12.out] at hx330_0);cases e330;have hn330_0:ad330.block ≠ gb329:=Nat.ne_of_lt (Nat.lt_of_lt_of_le (by have:=World.block_lt_of_cell? _ _ hx330_0;first|rwa [add_block] at this|exact this) GW329.out);have hn330_1:ad330.block ≠ gb329:=Nat.ne_of_lt (Nat.lt_of_lt_of_le (by have:=World.block_lt_of_cell? _ _ hx330_0;first|rwa [add_block] at this|exact this) GW329.out);replace hx330_0:=(HB.out.cell (World.block_lt_of_cell? w _ hx330_0)).trans hx330_0;replace hx330_0:=(cell_far (p:=⟨gb329,0,none⟩) (by first|(rw [add_block];exact hn330_0)|(show (Addr.add _ _).block ≠ _;rw [add_block];exact hn330_0)|exact hn330_0) (.int .i64 ((rd_T88 l0_1 x12_1).f0))).trans hx330_0;replace hx330_0:=(cell_far (p:=⟨gb329,1,none⟩) (by first|(rw [add_block];exact hn330_1)|(show (Addr.add _ _).block ≠ _;rw [add_block];exact hn330_1)|exact hn330_1) (.int .i64 ((rd_T88 l0_1 x12_1).f1))).trans hx330_0;clear hn330_0;clear hn330_1;replace p330:=eq_true p330;replace q330:=eq_true q330))
         go_ret
         exact ⟨by first|rfl|(simp [errW_none,errW_some] <;> rfl)|(simp [*,errW_none,errW_some] <;> rfl),by repeat (first|(with_reducible first|exact HB.out|apply below_alloc|apply pw_below_drewN|apply below_drew1|refine below_set ?_ GE326.out|refine below_set ?_ GE327.out|refine below_set ?_ GE329.out)|exact HB.out)⟩
        rw [if_neg c14] at H
        have c14b0:(((rd_T88 l0_1 x12_1).f0)==a2)=false:=beq_eq_false_iff_ne.mpr c14
        have c14b1:(((rd_T88 l0_1 x12_1).f0) != a2)=true:=bne_iff_ne.mpr c14
        by_cases c21:((rd_T88 l0_1 x12_1).f1)=a2
        ·rw [if_pos c21] at H
         have c21b0:(((rd_T88 l0_1 x12_1).f1)==a2)=true:=beq_iff_eq.mpr c21
         have c21b1:(((rd_T88 l0_1 x12_1).f1) != a2)=false:=bne_eq_false_iff_eq.mpr c21
         clear c21
         obtain rfl:=Option.some.inj H
         have p328:0≤(x12_1:Int):=of_decide_eq_true (by first|(with_reducible assumption)|assumption)
         have q328:x12_1<(l0_1.length:Int):=of_decide_eq_true (by first|(with_reducible assumption)|assumption)
         obtain ⟨ad328,e328,hx328_0,hx328_1⟩:=at_T88 HR0_1.out x12_1 p328 q328
         cases e328
         replace hx328_0:=(HB.out.cell (World.block_lt_of_cell? w _ hx328_0)).trans hx328_0
         replace hx328_1:=(HB.out.cell (World.block_lt_of_cell? w _ hx328_1)).trans hx328_1
         replace p328:=eq_true p328
         replace q328:=eq_true q328
         go_wp2_with (first|((with_reducible refine gate_dst (N:=8) rfl ?_);refine box_event ?hg (N:=8) ?hd (cs:=#[.int .i64 0,.int .i64 0]) (t:=88) ?hr ?_;(case hd=>rfl);(case hg=>rfl);(case hr=>first|(go_simp;done)|(go_simp;rfl));intro gb329 hg w22 hbox hb;have n0_:=Aside0.mk (blk_below (g:=gb326) (o:=.cells #[.int .i64 a0_0,.slice (some ad328) l0_1.length c0_1] 30 (0,0)) (by exact BK326.out) hb);have n1_:=Aside0.mk (blk_below (g:=gb327) (o:=.cells #[.bool a1_0,.slice A1_1 l1_1.length c1_1,.slice A1_2 l1_2.length c1_2] 46 (0,0)) (by exact BK327.out) hb);have n2_:=Aside0.mk (below_step (by exact HB.out) hb);have n3_:=Aside0.mk (hbox);have n4_:=Aside0.mk ((by rw [hg];exact (below_size (by exact HB.out)):w.heap.size≤gb329));have n5_:=Aside0.mk ((by rw [hg];exact (below_size (by exact HB.out)):w.heap.size≤gb329));have n6_:=Aside0.mk ((by rw [hg];exact Nat.ne_of_lt (blk_lt (g:=gb326) (o:=.cells #[.int .i64 a0_0,.slice (some ad328) l0_1.length c0_1] 30 (0,0)) (by exact BK326.out)):gb326 ≠ gb329));have n7_:=Aside0.mk ((by rw [hg];exact Nat.ne_of_gt (blk_lt (g:=gb326) (o:=.cells #[.int .i64 a0_0,.slice (some ad328) l0_1.length c0_1] 30 (0,0)) (by exact BK326.out)):gb329 ≠ gb326));have n8_:=Aside0.mk ((by rw [hg];exact Nat.ne_of_lt (blk_lt (g:=gb327) (o:=.cells #[.bool a1_0,.slice A1_1 l1_1.length c1_1,.slice A1_2 l1_2.length c1_2] 46 (0,0)) (by exact BK327.out)):gb327 ≠ gb329));have n9_:=Aside0.mk ((by rw [hg];exact Nat.ne_of_gt (blk_lt (g:=gb327) (o:=.cells #[.bool a1_0,.slice A1_1 l1_1.length c1_1,.slice A1_2 l1_2.length c1_2] 46 (0,0)) (by exact BK327.out)):gb329 ≠ gb327));clear BK326;clear BK327;clear HB;have BK326:=n0_;have BK327:=n1_;have HB:=n2_;have BK329:=n3_;have GW329:=n4_;have GE329:=n5_;have NB326_329:=n6_;have NB329_326:=n7_;have NB327_329:=n8_;have NB329_327:=n9_;clear n0_ n1_ n2_ n3_ n4_ n5_ n6_ n7_ n8_ n9_;clear hb hbox hg;have hnb23:=NB329_326.out;have hnc23:=NB326_329.out;have hnb24:=NB329_327.out;have hnc24:=NB327_329.out;have hcz25_0:w22.cell? ⟨gb329,0,none⟩=some (.int .i64 0):=(blk_cell BK329.out 0).trans rfl;have hcz25_1:w22.cell? ⟨gb329,1,none⟩=some (.int .i64 0):=(blk_cell BK329.out 1).trans rfl;have hfz25_0:=blk_frozen BK329.out 0;have hfz25_1:=blk_frozen BK329.out 1;have hnb26:=NB327_326.out;have hnc26:=NB326_327.out;have hcz27_0:w22.cell? ⟨gb327,0,none⟩=some (.bool a1_0):=(blk_cell BK327.out 0).trans rfl;have hcz27_1:w22.cell? ⟨gb327,1,none⟩=some (.slice A1_1 l1_1.length c1_1):=(blk_cell BK327.out 1).trans rfl;have hcz27_2:w22.cell? ⟨gb327,2,none⟩=some (.slice A1_2 l1_2.length c1_2):=(blk_cell BK327.out 2).trans rfl;have hfz27_0:=blk_frozen BK327.out 0;have hfz27_1:=blk_frozen BK327.out 1;have hfz27_2:=blk_frozen BK327.out 2;have p330:0≤(x12_1:Int):=of_decide_eq_true (by first|(with_reducible assumption)|assumption);have q330:x12_1<(l1_2.length:Int):=of_decide_eq_true (by first|(with_reducible assumption)|assumption);obtain ⟨ad330,e330,hx330_0⟩:=Kd.at_bool HR1_2.out x12_1 p330 q330;(try rw [← Nbq12.out] at hx330_0);cases e330;have hn330_0:ad330.block ≠ gb329:=Nat.ne_of_lt (Nat.lt_of_lt_of_le (by have:=World.block_lt_of_cell? _ _ hx330_0;first|rwa [add_block] at this|exact this) GW329.out);have hn330_1:ad330.block ≠ gb329:=Nat.ne_of_lt (Nat.lt_of_lt_of_le (by have:=World.block_lt_of_cell? _ _ hx330_0;first|rwa [add_block] at this|exact this) GW329.out);replace hx330_0:=(HB.out.cell (World.block_lt_of_cell? w _ hx330_0)).trans hx330_0;replace hx330_0:=(cell_far (p:=⟨gb329,0,none⟩) (by first|(rw [add_block];exact hn330_0)|(show (Addr.add _ _).block ≠ _;rw [add_block];exact hn330_0)|exact hn330_0) (.int .i64 ((rd_T88 l0_1 x12_1).f0))).trans hx330_0;replace hx330_0:=(cell_far (p:=⟨gb329,1,none⟩) (by first|(rw [add_block];exact hn330_1)|(show (Addr.add _ _).block ≠ _;rw [add_block];exact hn330_1)|exact hn330_1) (.int .i64 ((rd_T88 l0_1 x12_1).f1))).trans hx330_0;clear hn330_0;clear hn330_1;replace p330:=eq_true p330;replace q330:=eq_true q330))
         go_ret
         exact ⟨by first|rfl|(simp [errW_none,errW_some] <;> rfl)|(simp [*,errW_none,errW_some] <;> rfl),by repeat (first|(with_reducible first|exact HB.out|apply below_alloc|apply pw_below_drewN|apply below_drew1|refine below_set ?_ GE326.out|refine below_set ?_ GE327.out|refine below_set ?_ GE329.out)|exact HB.out)⟩
        rw [if_neg c21] at H
        have c21b0:(((rd_T88 l0_1 x12_1).f1)==a2)=false:=beq_eq_false_iff_ne.mpr c21
        have c21b1:(((rd_T88 l0_1 x12_1).f1) != a2)=true:=bne_iff_ne.mpr c21
        have H':=Aside0.mk H
        clear H
        have p328:0≤(x12_1:Int):=of_decide_eq_true (by first|(with_reducible assumption)|assumption)
        have q328:x12_1<(l0_1.length:Int):=of_decide_eq_true (by first|(with_reducible assumption)|assumption)
        obtain ⟨ad328,e328,hx328_0,hx328_1⟩:=at_T88 HR0_1.out x12_1 p328 q328
        cases e328
        replace hx328_0:=(HB.out.cell (World.block_lt_of_cell? w _ hx328_0)).trans hx328_0
        replace hx328_1:=(HB.out.cell (World.block_lt_of_cell? w _ hx328_1)).trans hx328_1
        replace p328:=eq_true p328
        replace q328:=eq_true q328
        go_wp2_with (first|((with_reducible refine gate_dst (N:=8) rfl ?_);refine box_event ?hg (N:=8) ?hd (cs:=#[.int .i64 0,.int .i64 0]) (t:=88) ?hr ?_;(case hd=>rfl);(case hg=>rfl);(case hr=>first|(go_simp;done)|(go_simp;rfl));intro gb329 hg w28 hbox hb;have n0_:=Aside0.mk (blk_below (g:=gb326) (o:=.cells #[.int .i64 a0_0,.slice (some ad328) l0_1.length c0_1] 30 (0,0)) (by exact BK326.out) hb);have n1_:=Aside0.mk (blk_below (g:=gb327) (o:=.cells #[.bool a1_0,.slice A1_1 l1_1.length c1_1,.slice A1_2 l1_2.length c1_2] 46 (0,0)) (by exact BK327.out) hb);have n2_:=Aside0.mk (below_step (by exact HB.out) hb);have n3_:=Aside0.mk (hbox);have n4_:=Aside0.mk ((by rw [hg];exact (below_size (by exact HB.out)):w.heap.size≤gb329));have n5_:=Aside0.mk ((by rw [hg];exact (below_size (by exact HB.out)):w.heap.size≤gb329));have n6_:=Aside0.mk ((by rw [hg];exact Nat.ne_of_lt (blk_lt (g:=gb326) (o:=.cells #[.int .i64 a0_0,.slice (some ad328) l0_1.length c0_1] 30 (0,0)) (by exact BK326.out)):gb326 ≠ gb329));have n7_:=Aside0.mk ((by rw [hg];exact Nat.ne_of_gt (blk_lt (g:=gb326) (o:=.cells #[.int .i64 a0_0,.slice (some ad328) l0_1.length c0_1] 30 (0,0)) (by exact BK326.out)):gb329 ≠ gb326));have n8_:=Aside0.mk ((by rw [hg];exact Nat.ne_of_lt (blk_lt (g:=gb327) (o:=.cells #[.bool a1_0,.slice A1_1 l1_1.length c1_1,.slice A1_2 l1_2.length c1_2] 46 (0,0)) (by exact BK327.out)):gb327 ≠ gb329));have n9_:=Aside0.mk ((by rw [hg];exact Nat.ne_of_gt (blk_lt (g:=gb327) (o:=.cells #[.bool a1_0,.slice A1_1 l1_1.length c1_1,.slice A1_2 l1_2.length c1_2] 46 (0,0)) (by exact BK327.out)):gb329 ≠ gb327));clear BK326;clear BK327;clear HB;have BK326:=n0_;have BK327:=n1_;have HB:=n2_;have BK329:=n3_;have GW329:=n4_;have GE329:=n5_;have NB326_329:=n6_;have NB329_326:=n7_;have NB327_329:=n8_;have NB329_327:=n9_;clear n0_ n1_ n2_ n3_ n4_ n5_ n6_ n7_ n8_ n9_;clear hb hbox hg;have hnb29:=NB329_326.out;have hnc29:=NB326_329.out;have hnb30:=NB329_327.out;have hnc30:=NB327_329.out;have hcz31_0:w28.cell? ⟨gb329,0,none⟩=some (.int .i64 0):=(blk_cell BK329.out 0).trans rfl;have hcz31_1:w28.cell? ⟨gb329,1,none⟩=some (.int .i64 0):=(blk_cell BK329.out 1).trans rfl;have hfz31_0:=blk_frozen BK329.out 0;have hfz31_1:=blk_frozen BK329.out 1;have hnb32:=NB327_326.out;have hnc32:=NB326_327.out;have hcz33_0:w28.cell? ⟨gb327,0,none⟩=some (.bool a1_0):=(blk_cell BK327.out 0).trans rfl;have hcz33_1:w28.cell? ⟨gb327,1,none⟩=some (.slice A1_1 l1_1.length c1_1):=(blk_cell BK327.out 1).trans rfl;have hcz33_2:w28.cell? ⟨gb327,2,none⟩=some (.slice A1_2 l1_2.length c1_2):=(blk_cell BK327.out 2).trans rfl;have hfz33_0:=blk_frozen BK327.out 0;have hfz33_1:=blk_frozen BK327.out 1;have hfz33_2:=blk_frozen BK327.out 2;have p330:0≤(x12_1:Int):=of_decide_eq_true (by first|(with_reducible assumption)|assumption);have q330:x12_1<(l1_2.length:Int):=of_decide_eq_true (by first|(with_reducible assumption)|assumption);obtain ⟨ad330,e330,hx330_0⟩:=Kd.at_bool HR1_2.out x12_1 p330 q330;(try rw [← Nbq12.out] at hx330_0);cases e330;have hn330_0:ad330.block ≠ gb329:=Nat.ne_of_lt (Nat.lt_of_lt_of_le (by have:=World.block_lt_of_cell? _ _ hx330_0;first|rwa [add_block] at this|exact this) GW329.out);have hn330_1:ad330.block ≠ gb329:=Nat.ne_of_lt (Nat.lt_of_lt_of_le (by have:=World.block_lt_of_cell? _ _ hx330_0;first|rwa [add_block] at this|exact this) GW329.out);replace hx330_0:=(HB.out.cell (World.block_lt_of_cell? w _ hx330_0)).trans hx330_0;replace hx330_0:=(cell_far (p:=⟨gb329,0,none⟩) (by first|(rw [add_block];exact hn330_0)|(show (Addr.add _ _).block ≠ _;rw [add_block];exact hn330_0)|exact hn330_0) (.int .i64 ((rd_T88 l0_1 x12_1).f0))).trans hx330_0;replace hx330_0:=(cell_far (p:=⟨gb329,1,none⟩) (by first|(rw [add_block];exact hn330_1)|(show (Addr.add _ _).block ≠ _;rw [add_block];exact hn330_1)|exact hn330_1) (.int .i64 ((rd_T88 l0_1 x12_1).f1))).trans hx330_0;clear hn330_0;clear hn330_1;replace p330:=eq_true p330;replace q330:=eq_true q330))
        go_roundg k1
        case measure=>have:=HK1.out;omega
        case rel=>exact ⟨(wrap64 (x12_1+1)),(by first|rfl|(simp;done)|(simp [*];done)),H',⟨by have:=HK1.out;omega⟩,⟨by refine blk_far ?_ NB326_329.out _;refine blk_far ?_ NB326_329.out _;exact BK326.out⟩,⟨by refine blk_far ?_ NB327_329.out _;refine blk_far ?_ NB327_329.out _;exact BK327.out⟩,⟨by repeat (first|(with_reducible first|exact HB.out|apply below_alloc|apply pw_below_drewN|apply below_drew1|refine below_set ?_ GE326.out|refine below_set ?_ GE327.out|refine below_set ?_ GE329.out)|exact HB.out)⟩⟩
       replace c13:=Bool.eq_false_iff.mpr c13
       subst c13
       have H1:(impl_dead.l0 k1 a2 l0_1 (l0_1.length:Int) (wrap64 (x12_1+1)) a1_0 l1_1 l1_2)=some r:=by rw [if_neg (show ¬ (false=true) by decide)] at H;exact H
       clear H
       have H:=H1
       clear H1
       have H':=Aside0.mk H
       clear H
       have p328:0≤(x12_1:Int):=of_decide_eq_true (by first|(with_reducible assumption)|assumption)
       have q328:x12_1<(l0_1.length:Int):=of_decide_eq_true (by first|(with_reducible assumption)|assumption)
       obtain ⟨ad328,e328,hx328_0,hx328_1⟩:=at_T88 HR0_1.out x12_1 p328 q328
       cases e328
       replace hx328_0:=(HB.out.cell (World.block_lt_of_cell? w _ hx328_0)).trans hx328_0
       replace hx328_1:=(HB.out.cell (World.block_lt_of_cell? w _ hx328_1)).trans hx328_1
       replace p328:=eq_true p328
       replace q328:=eq_true q328
       go_wp2_with (first|((with_reducible refine gate_dst (N:=8) rfl ?_);refine box_event ?hg (N:=8) ?hd (cs:=#[.int .i64 0,.int .i64 0]) (t:=88) ?hr ?_;(case hd=>rfl);(case hg=>rfl);(case hr=>first|(go_simp;done)|(go_simp;rfl));intro gb329 hg w34 hbox hb;have n0_:=Aside0.mk (blk_below (g:=gb326) (o:=.cells #[.int .i64 a0_0,.slice (some ad328) l0_1.length c0_1] 30 (0,0)) (by exact BK326.out) hb);have n1_:=Aside0.mk (blk_below (g:=gb327) (o:=.cells #[.bool a1_0,.slice A1_1 l1_1.length c1_1,.slice A1_2 l1_2.length c1_2] 46 (0,0)) (by exact BK327.out) hb);have n2_:=Aside0.mk (below_step (by exact HB.out) hb);have n3_:=Aside0.mk (hbox);have n4_:=Aside0.mk ((by rw [hg];exact (below_size (by exact HB.out)):w.heap.size≤gb329));have n5_:=Aside0.mk ((by rw [hg];exact (below_size (by exact HB.out)):w.heap.size≤gb329));have n6_:=Aside0.mk ((by rw [hg];exact Nat.ne_of_lt (blk_lt (g:=gb326) (o:=.cells #[.int .i64 a0_0,.slice (some ad328) l0_1.length c0_1] 30 (0,0)) (by exact BK326.out)):gb326 ≠ gb329));have n7_:=Aside0.mk ((by rw [hg];exact Nat.ne_of_gt (blk_lt (g:=gb326) (o:=.cells #[.int .i64 a0_0,.slice (some ad328) l0_1.length c0_1] 30 (0,0)) (by exact BK326.out)):gb329 ≠ gb326));have n8_:=Aside0.mk ((by rw [hg];exact Nat.ne_of_lt (blk_lt (g:=gb327) (o:=.cells #[.bool a1_0,.slice A1_1 l1_1.length c1_1,.slice A1_2 l1_2.length c1_2] 46 (0,0)) (by exact BK327.out)):gb327 ≠ gb329));have n9_:=Aside0.mk ((by rw [hg];exact Nat.ne_of_gt (blk_lt (g:=gb327) (o:=.cells #[.bool a1_0,.slice A1_1 l1_1.length c1_1,.slice A1_2 l1_2.length c1_2] 46 (0,0)) (by exact BK327.out)):gb329 ≠ gb327));clear BK326;clear BK327;clear HB;have BK326:=n0_;have BK327:=n1_;have HB:=n2_;have BK329:=n3_;have GW329:=n4_;have GE329:=n5_;have NB326_329:=n6_;have NB329_326:=n7_;have NB327_329:=n8_;have NB329_327:=n9_;clear n0_ n1_ n2_ n3_ n4_ n5_ n6_ n7_ n8_ n9_;clear hb hbox hg;have hnb35:=NB329_326.out;have hnc35:=NB326_329.out;have hnb36:=NB329_327.out;have hnc36:=NB327_329.out;have hcz37_0:w34.cell? ⟨gb329,0,none⟩=some (.int .i64 0):=(blk_cell BK329.out 0).trans rfl;have hcz37_1:w34.cell? ⟨gb329,1,none⟩=some (.int .i64 0):=(blk_cell BK329.out 1).trans rfl;have hfz37_0:=blk_frozen BK329.out 0;have hfz37_1:=blk_frozen BK329.out 1;have hnb38:=NB327_326.out;have hnc38:=NB326_327.out;have hcz39_0:w34.cell? ⟨gb327,0,none⟩=some (.bool a1_0):=(blk_cell BK327.out 0).trans rfl;have hcz39_1:w34.cell? ⟨gb327,1,none⟩=some (.slice A1_1 l1_1.length c1_1):=(blk_cell BK327.out 1).trans rfl;have hcz39_2:w34.cell? ⟨gb327,2,none⟩=some (.slice A1_2 l1_2.length c1_2):=(blk_cell BK327.out 2).trans rfl;have hfz39_0:=blk_frozen BK327.out 0;have hfz39_1:=blk_frozen BK327.out 1;have hfz39_2:=blk_frozen BK327.out 2;have p330:0≤(x12_1:Int):=of_decide_eq_true (by first|(with_reducible assumption)|assumption);have q330:x12_1<(l1_2.length:Int):=of_decide_eq_true (by first|(with_reducible assumption)|assumption);obtain ⟨ad330,e330,hx330_0⟩:=Kd.at_bool HR1_2.out x12_1 p330 q330;(try rw [← Nbq12.out] at hx330_0);cases e330;have hn330_0:ad330.block ≠ gb329:=Nat.ne_of_lt (Nat.lt_of_lt_of_le (by have:=World.block_lt_of_cell? _ _ hx330_0;first|rwa [add_block] at this|exact this) GW329.out);have hn330_1:ad330.block ≠ gb329:=Nat.ne_of_lt (Nat.lt_of_lt_of_le (by have:=World.block_lt_of_cell? _ _ hx330_0;first|rwa [add_block] at this|exact this) GW329.out);replace hx330_0:=(HB.out.cell (World.block_lt_of_cell? w _ hx330_0)).trans hx330_0;replace hx330_0:=(cell_far (p:=⟨gb329,0,none⟩) (by first|(rw [add_block];exact hn330_0)|(show (Addr.add _ _).block ≠ _;rw [add_block];exact hn330_0)|exact hn330_0) (.int .i64 ((rd_T88 l0_1 x12_1).f0))).trans hx330_0;replace hx330_0:=(cell_far (p:=⟨gb329,1,none⟩) (by first|(rw [add_block];exact hn330_1)|(show (Addr.add _ _).block ≠ _;rw [add_block];exact hn330_1)|exact hn330_1) (.int .i64 ((rd_T88 l0_1 x12_1).f1))).trans hx330_0;clear hn330_0;clear hn330_1;replace p330:=eq_true p330;replace q330:=eq_true q330))
       go_roundg k1
       case measure=>have:=HK1.out;omega
       case rel=>exact ⟨(wrap64 (x12_1+1)),(by first|rfl|(simp;done)|(simp [*];done)),H',⟨by have:=HK1.out;omega⟩,⟨by refine blk_far ?_ NB326_329.out _;refine blk_far ?_ NB326_329.out _;exact BK326.out⟩,⟨by refine blk_far ?_ NB327_329.out _;refine blk_far ?_ NB327_329.out _;exact BK327.out⟩,⟨by repeat (first|(with_reducible first|exact HB.out|apply below_alloc|apply pw_below_drewN|apply below_drew1|refine below_set ?_ GE326.out|refine below_set ?_ GE327.out|refine below_set ?_ GE329.out)|exact HB.out)⟩⟩
      rw [if_neg c11] at H
      exact absurd H (by simp)
     rw [if_neg c10] at H
     exact absurd H (by simp)
    rw [if_neg c9] at H
    exact absurd H (by simp)
   rw [if_neg c8] at H
   have c8b0:decide (x12_1<(l0_1.length:Int))=false:=decide_eq_false c8
   clear c8
   obtain rfl:=Option.some.inj H
   go_wp2
   go_ret
   exact ⟨by first|rfl|(simp [errW_none,errW_some] <;> rfl)|(simp [*,errW_none,errW_some] <;> rfl),by exact HB.out⟩
end Go.Proofs.Ytpdnabhpkdchjaa.P
namespace Go.Proofs.Ytpdnabhpkdchjaa.P
open Go.RowKit Go.Proofs.YtpdnabhpkdchjaaW.PrintWords Go.Proofs.YtpdnabhpkdchjaaW.PrintLast Go.Proofs.YtpdnabhpkdchjaaW.PrintMore
attribute [local go_sem] max2_int min2_int max_two min_two max_three min_three max_four min_four
set_option linter.unusedVariables false
set_option linter.unusedSimpArgs false
def impl_told.j0:Nat→Bool→Int→Int→Bool→Bool→Int→Option (Int)
 | 0,_,_,_,_,_,_=>none
 | k+1,x18,x335000,x335001,x335002,x335003,x335004=>if x18=true then (some 1) else (if x335003=true then (some 2) else (some 0))
def impl_told.f (k:Nat) (a0_0:Int) (l0_1:List (S88)) (a1_0:Bool) (l1_1:List (S50)) (l1_2:List Bool) (a2:Int):Option (Int):=if 0≤a2 then (if a2<(l1_1.length:Int) then ((impl_dead.f k a0_0 l0_1 a1_0 l1_1 l1_2 a2).bind fun t335=>(if t335=true then (some 3) else (if (rd_T50 l1_1 a2).f2=true then (impl_told.j0 k true ((rd_T50 l1_1 a2).f0) ((rd_T50 l1_1 a2).f1) ((rd_T50 l1_1 a2).f2) ((rd_T50 l1_1 a2).f3) ((rd_T50 l1_1 a2).f4)) else (if ((rd_T50 l1_1 a2).f1)=0 then (impl_told.j0 k false ((rd_T50 l1_1 a2).f0) ((rd_T50 l1_1 a2).f1) ((rd_T50 l1_1 a2).f2) ((rd_T50 l1_1 a2).f3) ((rd_T50 l1_1 a2).f4)) else (impl_told.j0 k (!((rd_T50 l1_1 a2).f3)) ((rd_T50 l1_1 a2).f0) ((rd_T50 l1_1 a2).f1) ((rd_T50 l1_1 a2).f2) ((rd_T50 l1_1 a2).f3) ((rd_T50 l1_1 a2).f4)))))) else (none)) else (none)
set_option maxHeartbeats 8000000 in
set_option maxRecDepth 100000 in
theorem impl_told.calls (k:Nat) (a0_0:Int) (A0_1:Option Addr) (c0_1:Nat) (l0_1:List (S88)) (a1_0:Bool) (A1_1:Option Addr) (c1_1:Nat) (l1_1:List (S50)) (A1_2:Option Addr) (c1_2:Nat) (l1_2:List Bool) (a2:Int) (r:Int) (w:World) (hr0_1:Kd.C k88 w A0_1 l0_1.length l0_1) (hc0_1:l0_1.length≤c0_1) (hr1_1:Kd.C k50 w A1_1 l1_1.length l1_1) (hc1_1:l1_1.length≤c1_1) (hr1_2:Kd.C Kd.bool w A1_2 l1_2.length l1_2) (hc1_2:l1_2.length≤c1_2) (h:impl_told.f k a0_0 l0_1 a1_0 l1_1 l1_2 a2=some r) :
  Calls Try.prog 97 #[.agg #[.int .i64 a0_0,.slice A0_1 l0_1.length c0_1],.agg #[.bool a1_0,.slice A1_1 l1_1.length c1_1,.slice A1_2 l1_2.length c1_2],.int .i64 a2] w fun e w'=>e=.returned (.int .i64 r)∧Below w.heap.size w w':=by
 have hu30:=Try.underlying30
 have hu46:=Try.underlying46
 have hu50:=Try.underlying50
 have HR0_1:=Aside0.mk hr0_1
 have HC0_1:=Aside0.mk hc0_1
 clear hr0_1 hc0_1
 have HR1_1:=Aside0.mk hr1_1
 have HC1_1:=Aside0.mk hc1_1
 clear hr1_1 hc1_1
 have HR1_2:=Aside0.mk hr1_2
 have HC1_2:=Aside0.mk hc1_2
 clear hr1_2 hc1_2
 have HB:=Aside0.mk (Below.refl w.heap.size w)
 have H:(if 0≤a2 then (if a2<(l1_1.length:Int) then ((impl_dead.f k a0_0 l0_1 a1_0 l1_1 l1_2 a2).bind fun t335=>(if t335=true then (some 3) else (if (rd_T50 l1_1 a2).f2=true then (impl_told.j0 k true ((rd_T50 l1_1 a2).f0) ((rd_T50 l1_1 a2).f1) ((rd_T50 l1_1 a2).f2) ((rd_T50 l1_1 a2).f3) ((rd_T50 l1_1 a2).f4)) else (if ((rd_T50 l1_1 a2).f1)=0 then (impl_told.j0 k false ((rd_T50 l1_1 a2).f0) ((rd_T50 l1_1 a2).f1) ((rd_T50 l1_1 a2).f2) ((rd_T50 l1_1 a2).f3) ((rd_T50 l1_1 a2).f4)) else (impl_told.j0 k (!((rd_T50 l1_1 a2).f3)) ((rd_T50 l1_1 a2).f0) ((rd_T50 l1_1 a2).f1) ((rd_T50 l1_1 a2).f2) ((rd_T50 l1_1 a2).f3) ((rd_T50 l1_1 a2).f4)))))) else (none)) else (none))=some r:=h
 clear h
 by_cases c4:0≤a2
 ·rw [if_pos c4] at H
  have c4b0:decide (0≤a2)=true:=decide_eq_true c4
  clear c4
  by_cases c5:a2<(l1_1.length:Int)
  ·rw [if_pos c5] at H
   have c5b0:decide (a2<(l1_1.length:Int))=true:=decide_eq_true c5
   clear c5
   replace H:=Option.bind_eq_some_iff.mp H
   obtain ⟨t335,A60,H⟩:=H
   replace H:(if t335=true then (some 3) else (if (rd_T50 l1_1 a2).f2=true then (impl_told.j0 k true ((rd_T50 l1_1 a2).f0) ((rd_T50 l1_1 a2).f1) ((rd_T50 l1_1 a2).f2) ((rd_T50 l1_1 a2).f3) ((rd_T50 l1_1 a2).f4)) else (if ((rd_T50 l1_1 a2).f1)=0 then (impl_told.j0 k false ((rd_T50 l1_1 a2).f0) ((rd_T50 l1_1 a2).f1) ((rd_T50 l1_1 a2).f2) ((rd_T50 l1_1 a2).f3) ((rd_T50 l1_1 a2).f4)) else (impl_told.j0 k (!((rd_T50 l1_1 a2).f3)) ((rd_T50 l1_1 a2).f0) ((rd_T50 l1_1 a2).f1) ((rd_T50 l1_1 a2).f2) ((rd_T50 l1_1 a2).f3) ((rd_T50 l1_1 a2).f4)))))=some r:=H
   have A6:=Aside0.mk A60
   clear A60
   by_cases c7:t335=true
   ·subst c7
    have H1:(some 3)=some r:=by rw [if_pos rfl] at H;exact H
    clear H
    have H:=H1
    clear H1
    obtain rfl:=Option.some.inj H
    go_enter Try.func97,Try.ntmps97
    go_wp2_with (first|((with_reducible refine gate_dst (N:=3) rfl ?_);refine box_event ?hg (N:=3) ?hd (cs:=#[.int .i64 a0_0,.slice A0_1 l0_1.length c0_1]) (t:=30) ?hr ?_;(case hd=>rfl);(case hg=>rfl);(case hr=>first|(go_simp;done)|(go_simp;rfl));intro gb331 hg w8 hbox hb;have n0_:=Aside0.mk (below_step (by exact HB.out) hb);have n1_:=Aside0.mk (hbox);have n2_:=Aside0.mk ((by rw [hg];exact (below_size (by exact HB.out)):w.heap.size≤gb331));have n3_:=Aside0.mk ((by rw [hg];exact (below_size (by exact HB.out)):w.heap.size≤gb331));clear HB;have HB:=n0_;have BK331:=n1_;have GW331:=n2_;have GE331:=n3_;clear n0_ n1_ n2_ n3_;clear hb hbox hg)|((with_reducible refine gate_dst (N:=4) rfl ?_);refine box_event ?hg (N:=4) ?hd (cs:=#[.bool a1_0,.slice A1_1 l1_1.length c1_1,.slice A1_2 l1_2.length c1_2]) (t:=46) ?hr ?_;(case hd=>rfl);(case hg=>rfl);(case hr=>first|(go_simp;done)|(go_simp;rfl));intro gb332 hg w9 hbox hb;have n0_:=Aside0.mk (blk_below (g:=gb331) (o:=.cells #[.int .i64 a0_0,.slice A0_1 l0_1.length c0_1] 30 (0,0)) (by exact BK331.out) hb);have n1_:=Aside0.mk (below_step (by exact HB.out) hb);have n2_:=Aside0.mk (hbox);have n3_:=Aside0.mk ((by rw [hg];exact (below_size (by exact HB.out)):w.heap.size≤gb332));have n4_:=Aside0.mk ((by rw [hg];exact (below_size (by exact HB.out)):w.heap.size≤gb332));have n5_:=Aside0.mk ((by rw [hg];exact Nat.ne_of_lt (blk_lt (g:=gb331) (o:=.cells #[.int .i64 a0_0,.slice A0_1 l0_1.length c0_1] 30 (0,0)) (by exact BK331.out)):gb331 ≠ gb332));have n6_:=Aside0.mk ((by rw [hg];exact Nat.ne_of_gt (blk_lt (g:=gb331) (o:=.cells #[.int .i64 a0_0,.slice A0_1 l0_1.length c0_1] 30 (0,0)) (by exact BK331.out)):gb332 ≠ gb331));clear BK331;clear HB;have BK331:=n0_;have HB:=n1_;have BK332:=n2_;have GW332:=n3_;have GE332:=n4_;have NB331_332:=n5_;have NB332_331:=n6_;clear n0_ n1_ n2_ n3_ n4_ n5_ n6_;clear hb hbox hg;have hnb10:=NB332_331.out;have hnc10:=NB331_332.out;have hcz11_0:w9.cell? ⟨gb332,0,none⟩=some (.bool a1_0):=(blk_cell BK332.out 0).trans rfl;have hcz11_1:w9.cell? ⟨gb332,1,none⟩=some (.slice A1_1 l1_1.length c1_1):=(blk_cell BK332.out 1).trans rfl;have hcz11_2:w9.cell? ⟨gb332,2,none⟩=some (.slice A1_2 l1_2.length c1_2):=(blk_cell BK332.out 2).trans rfl;have hfz11_0:=blk_frozen BK332.out 0;have hfz11_1:=blk_frozen BK332.out 1;have hfz11_2:=blk_frozen BK332.out 2;have p333:0≤(a2:Int):=of_decide_eq_true (by first|(with_reducible assumption)|assumption);have q333:a2<(l1_1.length:Int):=of_decide_eq_true (by first|(with_reducible assumption)|assumption);obtain ⟨ad333,e333,hx333_0,hx333_1,hx333_2,hx333_3,hx333_4⟩:=at_T50 HR1_1.out a2 p333 q333;cases e333;replace hx333_0:=(HB.out.cell (World.block_lt_of_cell? w _ hx333_0)).trans hx333_0;replace hx333_1:=(HB.out.cell (World.block_lt_of_cell? w _ hx333_1)).trans hx333_1;replace hx333_2:=(HB.out.cell (World.block_lt_of_cell? w _ hx333_2)).trans hx333_2;replace hx333_3:=(HB.out.cell (World.block_lt_of_cell? w _ hx333_3)).trans hx333_3;replace hx333_4:=(HB.out.cell (World.block_lt_of_cell? w _ hx333_4)).trans hx333_4;replace p333:=eq_true p333;replace q333:=eq_true q333)|((with_reducible refine gate_dst (N:=7) rfl ?_);refine box_event ?hg (N:=7) ?hd (cs:=#[.int .i64 0,.int .i64 0,.bool false,.bool false,.int .i64 0]) (t:=50) ?hr ?_;(case hd=>rfl);(case hg=>rfl);(case hr=>first|(go_simp;done)|(go_simp;rfl));intro gb334 hg w12 hbox hb;have n0_:=Aside0.mk (blk_below (g:=gb331) (o:=.cells #[.int .i64 a0_0,.slice A0_1 l0_1.length c0_1] 30 (0,0)) (by exact BK331.out) hb);have n1_:=Aside0.mk (blk_below (g:=gb332) (o:=.cells #[.bool a1_0,.slice (some ad333) l1_1.length c1_1,.slice A1_2 l1_2.length c1_2] 46 (0,0)) (by exact BK332.out) hb);have n2_:=Aside0.mk (below_step (by exact HB.out) hb);have n3_:=Aside0.mk (hbox);have n4_:=Aside0.mk ((by rw [hg];exact (below_size (by exact HB.out)):w.heap.size≤gb334));have n5_:=Aside0.mk ((by rw [hg];exact (below_size (by exact HB.out)):w.heap.size≤gb334));have n6_:=Aside0.mk ((by rw [hg];exact Nat.ne_of_lt (blk_lt (g:=gb331) (o:=.cells #[.int .i64 a0_0,.slice A0_1 l0_1.length c0_1] 30 (0,0)) (by exact BK331.out)):gb331 ≠ gb334));have n7_:=Aside0.mk ((by rw [hg];exact Nat.ne_of_gt (blk_lt (g:=gb331) (o:=.cells #[.int .i64 a0_0,.slice A0_1 l0_1.length c0_1] 30 (0,0)) (by exact BK331.out)):gb334 ≠ gb331));have n8_:=Aside0.mk ((by rw [hg];exact Nat.ne_of_lt (blk_lt (g:=gb332) (o:=.cells #[.bool a1_0,.slice (some ad333) l1_1.length c1_1,.slice A1_2 l1_2.length c1_2] 46 (0,0)) (by (with_reducible repeat (first|refine blk_drewN ?_ _|refine blk_drew ?_|refine blk_alloc ?_ _));exact BK332.out)):gb332 ≠ gb334));have n9_:=Aside0.mk ((by rw [hg];exact Nat.ne_of_gt (blk_lt (g:=gb332) (o:=.cells #[.bool a1_0,.slice (some ad333) l1_1.length c1_1,.slice A1_2 l1_2.length c1_2] 46 (0,0)) (by (with_reducible repeat (first|refine blk_drewN ?_ _|refine blk_drew ?_|refine blk_alloc ?_ _));exact BK332.out)):gb334 ≠ gb332));clear BK331;clear BK332;clear HB;have BK331:=n0_;have BK332:=n1_;have HB:=n2_;have BK334:=n3_;have GW334:=n4_;have GE334:=n5_;have NB331_334:=n6_;have NB334_331:=n7_;have NB332_334:=n8_;have NB334_332:=n9_;clear n0_ n1_ n2_ n3_ n4_ n5_ n6_ n7_ n8_ n9_;clear hb hbox hg;have hnb13:=NB334_331.out;have hnc13:=NB331_334.out;have hnb14:=NB334_332.out;have hnc14:=NB332_334.out;have hcz15_0:w12.cell? ⟨gb334,0,none⟩=some (.int .i64 0):=(blk_cell BK334.out 0).trans rfl;have hcz15_1:w12.cell? ⟨gb334,1,none⟩=some (.int .i64 0):=(blk_cell BK334.out 1).trans rfl;have hcz15_2:w12.cell? ⟨gb334,2,none⟩=some (.bool false):=(blk_cell BK334.out 2).trans rfl;have hcz15_3:w12.cell? ⟨gb334,3,none⟩=some (.bool false):=(blk_cell BK334.out 3).trans rfl;have hcz15_4:w12.cell? ⟨gb334,4,none⟩=some (.int .i64 0):=(blk_cell BK334.out 4).trans rfl;have hfz15_0:=blk_frozen BK334.out 0;have hfz15_1:=blk_frozen BK334.out 1;have hfz15_2:=blk_frozen BK334.out 2;have hfz15_3:=blk_frozen BK334.out 3;have hfz15_4:=blk_frozen BK334.out 4;have hcz16_0:w12.cell? ⟨gb331,0,none⟩=some (.int .i64 a0_0):=(blk_cell BK331.out 0).trans rfl;have hcz16_1:w12.cell? ⟨gb331,1,none⟩=some (.slice A0_1 l0_1.length c0_1):=(blk_cell BK331.out 1).trans rfl;have hfz16_0:=blk_frozen BK331.out 0;have hfz16_1:=blk_frozen BK331.out 1;have hcz17_0:w12.cell? ⟨gb332,0,none⟩=some (.bool a1_0):=(blk_cell BK332.out 0).trans rfl;have hcz17_1:w12.cell? ⟨gb332,1,none⟩=some (.slice (some ad333) l1_1.length c1_1):=(blk_cell BK332.out 1).trans rfl;have hcz17_2:w12.cell? ⟨gb332,2,none⟩=some (.slice A1_2 l1_2.length c1_2):=(blk_cell BK332.out 2).trans rfl;have hfz17_0:=blk_frozen BK332.out 0;have hfz17_1:=blk_frozen BK332.out 1;have hfz17_2:=blk_frozen BK332.out 2)|((with_reducible refine gate_callee (f:=98) rfl ?_);refine goesL_ (some 17) rfl rfl Try.func98 (by kernel_rfl) rfl #[.agg #[.int .i64 a0_0,.slice A0_1 l0_1.length c0_1],.agg #[.bool a1_0,.slice (some ad333) l1_1.length c1_1,.slice A1_2 l1_2.length c1_2],.int .i64 a2] rfl (by (try simp only [List.map_toArray,List.map_cons,List.map_nil]);first|done|rfl|(simp only [List.length_drop,List.length_take];rfl)) ?_;(with_reducible refine (impl_dead.calls k a0_0 _ _ l0_1 a1_0 _ _ l1_1 _ _ l1_2 a2 true _ ?side1 ?side2 ?side3 ?side4 ?side5 ?side6 A6.out).mono ?_);(case side1=>exact Kd.C_below HR0_1.out (by repeat (first|(with_reducible first|exact HB.out|apply below_alloc|apply pw_below_drewN|apply below_drew1|refine below_set ?_ GE331.out|refine below_set ?_ GE332.out|refine below_set ?_ GE334.out)|exact HB.out)));(case side2=>exact HC0_1.out);(case side3=>exact Kd.C_below HR1_1.out (by repeat (first|(with_reducible first|exact HB.out|apply below_alloc|apply pw_below_drewN|apply below_drew1|refine below_set ?_ GE331.out|refine below_set ?_ GE332.out|refine below_set ?_ GE334.out)|exact HB.out)));(case side4=>exact HC1_1.out);(case side5=>exact Kd.C_below HR1_2.out (by repeat (first|(with_reducible first|exact HB.out|apply below_alloc|apply pw_below_drewN|apply below_drew1|refine below_set ?_ GE331.out|refine below_set ?_ GE332.out|refine below_set ?_ GE334.out)|exact HB.out)));(case side6=>exact HC1_2.out);rintro e w18 ⟨rfl,hb⟩;refine ⟨_,rfl,?_⟩;have n0_:=Aside0.mk (blk_below (g:=gb331) (o:=.cells #[.int .i64 a0_0,.slice A0_1 l0_1.length c0_1] 30 (0,0)) (by (with_reducible repeat (first|refine blk_drewN ?_ _|refine blk_drew ?_|refine blk_alloc ?_ _));refine blk_far ?_ NB331_334.out _;(with_reducible repeat (first|refine blk_drewN ?_ _|refine blk_drew ?_|refine blk_alloc ?_ _));refine blk_far ?_ NB331_334.out _;(with_reducible repeat (first|refine blk_drewN ?_ _|refine blk_drew ?_|refine blk_alloc ?_ _));refine blk_far ?_ NB331_334.out _;(with_reducible repeat (first|refine blk_drewN ?_ _|refine blk_drew ?_|refine blk_alloc ?_ _));refine blk_far ?_ NB331_334.out _;(with_reducible repeat (first|refine blk_drewN ?_ _|refine blk_drew ?_|refine blk_alloc ?_ _));refine blk_far ?_ NB331_334.out _;(with_reducible repeat (first|refine blk_drewN ?_ _|refine blk_drew ?_|refine blk_alloc ?_ _));exact BK331.out) hb);have n1_:=Aside0.mk (blk_below (g:=gb332) (o:=.cells #[.bool a1_0,.slice (some ad333) l1_1.length c1_1,.slice A1_2 l1_2.length c1_2] 46 (0,0)) (by (with_reducible repeat (first|refine blk_drewN ?_ _|refine blk_drew ?_|refine blk_alloc ?_ _));refine blk_far ?_ NB332_334.out _;(with_reducible repeat (first|refine blk_drewN ?_ _|refine blk_drew ?_|refine blk_alloc ?_ _));refine blk_far ?_ NB332_334.out _;(with_reducible repeat (first|refine blk_drewN ?_ _|refine blk_drew ?_|refine blk_alloc ?_ _));refine blk_far ?_ NB332_334.out _;(with_reducible repeat (first|refine blk_drewN ?_ _|refine blk_drew ?_|refine blk_alloc ?_ _));refine blk_far ?_ NB332_334.out _;(with_reducible repeat (first|refine blk_drewN ?_ _|refine blk_drew ?_|refine blk_alloc ?_ _));refine blk_far ?_ NB332_334.out _;(with_reducible repeat (first|refine blk_drewN ?_ _|refine blk_drew ?_|refine blk_alloc ?_ _));exact BK332.out) hb);have n2_:=Aside0.mk (blk_below (g:=gb334) (o:=.cells #[.int .i64 ((rd_T50 l1_1 a2).f0),.int .i64 ((rd_T50 l1_1 a2).f1),.bool ((rd_T50 l1_1 a2).f2),.bool ((rd_T50 l1_1 a2).f3),.int .i64 ((rd_T50 l1_1 a2).f4)] 50 (0,0)) (by (with_reducible repeat (first|refine blk_drewN ?_ _|refine blk_drew ?_|refine blk_alloc ?_ _));refine blk_put (cs:=#[.int .i64 ((rd_T50 l1_1 a2).f0),.int .i64 ((rd_T50 l1_1 a2).f1),.bool ((rd_T50 l1_1 a2).f2),.bool ((rd_T50 l1_1 a2).f3),.int .i64 0]) ?_ 4 _ rfl;(with_reducible repeat (first|refine blk_drewN ?_ _|refine blk_drew ?_|refine blk_alloc ?_ _));refine blk_put (cs:=#[.int .i64 ((rd_T50 l1_1 a2).f0),.int .i64 ((rd_T50 l1_1 a2).f1),.bool ((rd_T50 l1_1 a2).f2),.bool false,.int .i64 0]) ?_ 3 _ rfl;(with_reducible repeat (first|refine blk_drewN ?_ _|refine blk_drew ?_|refine blk_alloc ?_ _));refine blk_put (cs:=#[.int .i64 ((rd_T50 l1_1 a2).f0),.int .i64 ((rd_T50 l1_1 a2).f1),.bool false,.bool false,.int .i64 0]) ?_ 2 _ rfl;(with_reducible repeat (first|refine blk_drewN ?_ _|refine blk_drew ?_|refine blk_alloc ?_ _));refine blk_put (cs:=#[.int .i64 ((rd_T50 l1_1 a2).f0),.int .i64 0,.bool false,.bool false,.int .i64 0]) ?_ 1 _ rfl;(with_reducible repeat (first|refine blk_drewN ?_ _|refine blk_drew ?_|refine blk_alloc ?_ _));refine blk_put (cs:=#[.int .i64 0,.int .i64 0,.bool false,.bool false,.int .i64 0]) ?_ 0 _ rfl;(with_reducible repeat (first|refine blk_drewN ?_ _|refine blk_drew ?_|refine blk_alloc ?_ _));exact BK334.out) hb);have n3_:=Aside0.mk (below_step (by repeat (first|(with_reducible first|exact HB.out|apply below_alloc|apply pw_below_drewN|apply below_drew1|refine below_set ?_ GE331.out|refine below_set ?_ GE332.out|refine below_set ?_ GE334.out)|exact HB.out)) hb);clear BK331;clear BK332;clear BK334;clear HB;have BK331:=n0_;have BK332:=n1_;have BK334:=n2_;have HB:=n3_;clear n0_ n1_ n2_ n3_;(try clear hb);(try clear hb2);(try clear hk);(try clear hi)))
    go_ret
    exact ⟨by first|rfl|(simp [errW_none,errW_some] <;> rfl)|(simp [*,errW_none,errW_some] <;> rfl),by exact HB.out⟩
   replace c7:=Bool.eq_false_iff.mpr c7
   subst c7
   have H1:(if (rd_T50 l1_1 a2).f2=true then (impl_told.j0 k true ((rd_T50 l1_1 a2).f0) ((rd_T50 l1_1 a2).f1) ((rd_T50 l1_1 a2).f2) ((rd_T50 l1_1 a2).f3) ((rd_T50 l1_1 a2).f4)) else (if ((rd_T50 l1_1 a2).f1)=0 then (impl_told.j0 k false ((rd_T50 l1_1 a2).f0) ((rd_T50 l1_1 a2).f1) ((rd_T50 l1_1 a2).f2) ((rd_T50 l1_1 a2).f3) ((rd_T50 l1_1 a2).f4)) else (impl_told.j0 k (!((rd_T50 l1_1 a2).f3)) ((rd_T50 l1_1 a2).f0) ((rd_T50 l1_1 a2).f1) ((rd_T50 l1_1 a2).f2) ((rd_T50 l1_1 a2).f3) ((rd_T50 l1_1 a2).f4))))=some r:=by rw [if_neg (show ¬ (false=true) by decide)] at H;exact H
   clear H
   have H:=H1
   clear H1
   have HC19:=Aside0.mk H
   clear H
   go_enter Try.func97,Try.ntmps97
   go_upto_region 4 with (first|((with_reducible refine gate_dst (N:=3) rfl ?_);refine box_event ?hg (N:=3) ?hd (cs:=#[.int .i64 a0_0,.slice A0_1 l0_1.length c0_1]) (t:=30) ?hr ?_;(case hd=>rfl);(case hg=>rfl);(case hr=>first|(go_simp;done)|(go_simp;rfl));intro gb331 hg w20 hbox hb;have n0_:=Aside0.mk (below_step (by exact HB.out) hb);have n1_:=Aside0.mk (hbox);have n2_:=Aside0.mk ((by rw [hg];exact (below_size (by exact HB.out)):w.heap.size≤gb331));have n3_:=Aside0.mk ((by rw [hg];exact (below_size (by exact HB.out)):w.heap.size≤gb331));clear HB;have HB:=n0_;have BK331:=n1_;have GW331:=n2_;have GE331:=n3_;clear n0_ n1_ n2_ n3_;clear hb hbox hg)|((with_reducible refine gate_dst (N:=4) rfl ?_);refine box_event ?hg (N:=4) ?hd (cs:=#[.bool a1_0,.slice A1_1 l1_1.length c1_1,.slice A1_2 l1_2.length c1_2]) (t:=46) ?hr ?_;(case hd=>rfl);(case hg=>rfl);(case hr=>first|(go_simp;done)|(go_simp;rfl));intro gb332 hg w21 hbox hb;have n0_:=Aside0.mk (blk_below (g:=gb331) (o:=.cells #[.int .i64 a0_0,.slice A0_1 l0_1.length c0_1] 30 (0,0)) (by exact BK331.out) hb);have n1_:=Aside0.mk (below_step (by exact HB.out) hb);have n2_:=Aside0.mk (hbox);have n3_:=Aside0.mk ((by rw [hg];exact (below_size (by exact HB.out)):w.heap.size≤gb332));have n4_:=Aside0.mk ((by rw [hg];exact (below_size (by exact HB.out)):w.heap.size≤gb332));have n5_:=Aside0.mk ((by rw [hg];exact Nat.ne_of_lt (blk_lt (g:=gb331) (o:=.cells #[.int .i64 a0_0,.slice A0_1 l0_1.length c0_1] 30 (0,0)) (by exact BK331.out)):gb331 ≠ gb332));have n6_:=Aside0.mk ((by rw [hg];exact Nat.ne_of_gt (blk_lt (g:=gb331) (o:=.cells #[.int .i64 a0_0,.slice A0_1 l0_1.length c0_1] 30 (0,0)) (by exact BK331.out)):gb332 ≠ gb331));clear BK331;clear HB;have BK331:=n0_;have HB:=n1_;have BK332:=n2_;have GW332:=n3_;have GE332:=n4_;have NB331_332:=n5_;have NB332_331:=n6_;clear n0_ n1_ n2_ n3_ n4_ n5_ n6_;clear hb hbox hg;have hnb22:=NB332_331.out;have hnc22:=NB331_332.out;have hcz23_0:w21.cell? ⟨gb332,0,none⟩=some (.bool a1_0):=(blk_cell BK332.out 0).trans rfl;have hcz23_1:w21.cell? ⟨gb332,1,none⟩=some (.slice A1_1 l1_1.length c1_1):=(blk_cell BK332.out 1).trans rfl;have hcz23_2:w21.cell? ⟨gb332,2,none⟩=some (.slice A1_2 l1_2.length c1_2):=(blk_cell BK332.out 2).trans rfl;have hfz23_0:=blk_frozen BK332.out 0;have hfz23_1:=blk_frozen BK332.out 1;have hfz23_2:=blk_frozen BK332.out 2;have p333:0≤(a2:Int):=of_decide_eq_true (by first|(with_reducible assumption)|assumption);have q333:a2<(l1_1.length:Int):=of_decide_eq_true (by first|(with_reducible assumption)|assumption);obtain ⟨ad333,e333,hx333_0,hx333_1,hx333_2,hx333_3,hx333_4⟩:=at_T50 HR1_1.out a2 p333 q333;cases e333;replace hx333_0:=(HB.out.cell (World.block_lt_of_cell? w _ hx333_0)).trans hx333_0;replace hx333_1:=(HB.out.cell (World.block_lt_of_cell? w _ hx333_1)).trans hx333_1;replace hx333_2:=(HB.out.cell (World.block_lt_of_cell? w _ hx333_2)).trans hx333_2;replace hx333_3:=(HB.out.cell (World.block_lt_of_cell? w _ hx333_3)).trans hx333_3;replace hx333_4:=(HB.out.cell (World.block_lt_of_cell? w _ hx333_4)).trans hx333_4;replace p333:=eq_true p333;replace q333:=eq_true q333)|((with_reducible refine gate_dst (N:=7) rfl ?_);refine box_event ?hg (N:=7) ?hd (cs:=#[.int .i64 0,.int .i64 0,.bool false,.bool false,.int .i64 0]) (t:=50) ?hr ?_;(case hd=>rfl);(case hg=>rfl);(case hr=>first|(go_simp;done)|(go_simp;rfl));intro gb334 hg w24 hbox hb;have n0_:=Aside0.mk (blk_below (g:=gb331) (o:=.cells #[.int .i64 a0_0,.slice A0_1 l0_1.length c0_1] 30 (0,0)) (by exact BK331.out) hb);have n1_:=Aside0.mk (blk_below (g:=gb332) (o:=.cells #[.bool a1_0,.slice (some ad333) l1_1.length c1_1,.slice A1_2 l1_2.length c1_2] 46 (0,0)) (by exact BK332.out) hb);have n2_:=Aside0.mk (below_step (by exact HB.out) hb);have n3_:=Aside0.mk (hbox);have n4_:=Aside0.mk ((by rw [hg];exact (below_size (by exact HB.out)):w.heap.size≤gb334));have n5_:=Aside0.mk ((by rw [hg];exact (below_size (by exact HB.out)):w.heap.size≤gb334));have n6_:=Aside0.mk ((by rw [hg];exact Nat.ne_of_lt (blk_lt (g:=gb331) (o:=.cells #[.int .i64 a0_0,.slice A0_1 l0_1.length c0_1] 30 (0,0)) (by exact BK331.out)):gb331 ≠ gb334));have n7_:=Aside0.mk ((by rw [hg];exact Nat.ne_of_gt (blk_lt (g:=gb331) (o:=.cells #[.int .i64 a0_0,.slice A0_1 l0_1.length c0_1] 30 (0,0)) (by exact BK331.out)):gb334 ≠ gb331));have n8_:=Aside0.mk ((by rw [hg];exact Nat.ne_of_lt (blk_lt (g:=gb332) (o:=.cells #[.bool a1_0,.slice (some ad333) l1_1.length c1_1,.slice A1_2 l1_2.length c1_2] 46 (0,0)) (by (with_reducible repeat (first|refine blk_drewN ?_ _|refine blk_drew ?_|refine blk_alloc ?_ _));exact BK332.out)):gb332 ≠ gb334));have n9_:=Aside0.mk ((by rw [hg];exact Nat.ne_of_gt (blk_lt (g:=gb332) (o:=.cells #[.bool a1_0,.slice (some ad333) l1_1.length c1_1,.slice A1_2 l1_2.length c1_2] 46 (0,0)) (by (with_reducible repeat (first|refine blk_drewN ?_ _|refine blk_drew ?_|refine blk_alloc ?_ _));exact BK332.out)):gb334 ≠ gb332));clear BK331;clear BK332;clear HB;have BK331:=n0_;have BK332:=n1_;have HB:=n2_;have BK334:=n3_;have GW334:=n4_;have GE334:=n5_;have NB331_334:=n6_;have NB334_331:=n7_;have NB332_334:=n8_;have NB334_332:=n9_;clear n0_ n1_ n2_ n3_ n4_ n5_ n6_ n7_ n8_ n9_;clear hb hbox hg;have hnb25:=NB334_331.out;have hnc25:=NB331_334.out;have hnb26:=NB334_332.out;have hnc26:=NB332_334.out;have hcz27_0:w24.cell? ⟨gb334,0,none⟩=some (.int .i64 0):=(blk_cell BK334.out 0).trans rfl;have hcz27_1:w24.cell? ⟨gb334,1,none⟩=some (.int .i64 0):=(blk_cell BK334.out 1).trans rfl;have hcz27_2:w24.cell? ⟨gb334,2,none⟩=some (.bool false):=(blk_cell BK334.out 2).trans rfl;have hcz27_3:w24.cell? ⟨gb334,3,none⟩=some (.bool false):=(blk_cell BK334.out 3).trans rfl;have hcz27_4:w24.cell? ⟨gb334,4,none⟩=some (.int .i64 0):=(blk_cell BK334.out 4).trans rfl;have hfz27_0:=blk_frozen BK334.out 0;have hfz27_1:=blk_frozen BK334.out 1;have hfz27_2:=blk_frozen BK334.out 2;have hfz27_3:=blk_frozen BK334.out 3;have hfz27_4:=blk_frozen BK334.out 4;have hcz28_0:w24.cell? ⟨gb331,0,none⟩=some (.int .i64 a0_0):=(blk_cell BK331.out 0).trans rfl;have hcz28_1:w24.cell? ⟨gb331,1,none⟩=some (.slice A0_1 l0_1.length c0_1):=(blk_cell BK331.out 1).trans rfl;have hfz28_0:=blk_frozen BK331.out 0;have hfz28_1:=blk_frozen BK331.out 1;have hcz29_0:w24.cell? ⟨gb332,0,none⟩=some (.bool a1_0):=(blk_cell BK332.out 0).trans rfl;have hcz29_1:w24.cell? ⟨gb332,1,none⟩=some (.slice (some ad333) l1_1.length c1_1):=(blk_cell BK332.out 1).trans rfl;have hcz29_2:w24.cell? ⟨gb332,2,none⟩=some (.slice A1_2 l1_2.length c1_2):=(blk_cell BK332.out 2).trans rfl;have hfz29_0:=blk_frozen BK332.out 0;have hfz29_1:=blk_frozen BK332.out 1;have hfz29_2:=blk_frozen BK332.out 2)|((with_reducible refine gate_callee (f:=98) rfl ?_);refine goesL_ (some 17) rfl rfl Try.func98 (by kernel_rfl) rfl #[.agg #[.int .i64 a0_0,.slice A0_1 l0_1.length c0_1],.agg #[.bool a1_0,.slice (some ad333) l1_1.length c1_1,.slice A1_2 l1_2.length c1_2],.int .i64 a2] rfl (by (try simp only [List.map_toArray,List.map_cons,List.map_nil]);first|done|rfl|(simp only [List.length_drop,List.length_take];rfl)) ?_;(with_reducible refine (impl_dead.calls k a0_0 _ _ l0_1 a1_0 _ _ l1_1 _ _ l1_2 a2 false _ ?side1 ?side2 ?side3 ?side4 ?side5 ?side6 A6.out).mono ?_);(case side1=>exact Kd.C_below HR0_1.out (by repeat (first|(with_reducible first|exact HB.out|apply below_alloc|apply pw_below_drewN|apply below_drew1|refine below_set ?_ GE331.out|refine below_set ?_ GE332.out|refine below_set ?_ GE334.out)|exact HB.out)));(case side2=>exact HC0_1.out);(case side3=>exact Kd.C_below HR1_1.out (by repeat (first|(with_reducible first|exact HB.out|apply below_alloc|apply pw_below_drewN|apply below_drew1|refine below_set ?_ GE331.out|refine below_set ?_ GE332.out|refine below_set ?_ GE334.out)|exact HB.out)));(case side4=>exact HC1_1.out);(case side5=>exact Kd.C_below HR1_2.out (by repeat (first|(with_reducible first|exact HB.out|apply below_alloc|apply pw_below_drewN|apply below_drew1|refine below_set ?_ GE331.out|refine below_set ?_ GE332.out|refine below_set ?_ GE334.out)|exact HB.out)));(case side6=>exact HC1_2.out);rintro e w30 ⟨rfl,hb⟩;refine ⟨_,rfl,?_⟩;have n0_:=Aside0.mk (blk_below (g:=gb331) (o:=.cells #[.int .i64 a0_0,.slice A0_1 l0_1.length c0_1] 30 (0,0)) (by (with_reducible repeat (first|refine blk_drewN ?_ _|refine blk_drew ?_|refine blk_alloc ?_ _));refine blk_far ?_ NB331_334.out _;(with_reducible repeat (first|refine blk_drewN ?_ _|refine blk_drew ?_|refine blk_alloc ?_ _));refine blk_far ?_ NB331_334.out _;(with_reducible repeat (first|refine blk_drewN ?_ _|refine blk_drew ?_|refine blk_alloc ?_ _));refine blk_far ?_ NB331_334.out _;(with_reducible repeat (first|refine blk_drewN ?_ _|refine blk_drew ?_|refine blk_alloc ?_ _));refine blk_far ?_ NB331_334.out _;(with_reducible repeat (first|refine blk_drewN ?_ _|refine blk_drew ?_|refine blk_alloc ?_ _));refine blk_far ?_ NB331_334.out _;(with_reducible repeat (first|refine blk_drewN ?_ _|refine blk_drew ?_|refine blk_alloc ?_ _));exact BK331.out) hb);have n1_:=Aside0.mk (blk_below (g:=gb332) (o:=.cells #[.bool a1_0,.slice (some ad333) l1_1.length c1_1,.slice A1_2 l1_2.length c1_2] 46 (0,0)) (by (with_reducible repeat (first|refine blk_drewN ?_ _|refine blk_drew ?_|refine blk_alloc ?_ _));refine blk_far ?_ NB332_334.out _;(with_reducible repeat (first|refine blk_drewN ?_ _|refine blk_drew ?_|refine blk_alloc ?_ _));refine blk_far ?_ NB332_334.out _;(with_reducible repeat (first|refine blk_drewN ?_ _|refine blk_drew ?_|refine blk_alloc ?_ _));refine blk_far ?_ NB332_334.out _;(with_reducible repeat (first|refine blk_drewN ?_ _|refine blk_drew ?_|refine blk_alloc ?_ _));refine blk_far ?_ NB332_334.out _;(with_reducible repeat (first|refine blk_drewN ?_ _|refine blk_drew ?_|refine blk_alloc ?_ _));refine blk_far ?_ NB332_334.out _;(with_reducible repeat (first|refine blk_drewN ?_ _|refine blk_drew ?_|refine blk_alloc ?_ _));exact BK332.out) hb);have n2_:=Aside0.mk (blk_below (g:=gb334) (o:=.cells #[.int .i64 ((rd_T50 l1_1 a2).f0),.int .i64 ((rd_T50 l1_1 a2).f1),.bool ((rd_T50 l1_1 a2).f2),.bool ((rd_T50 l1_1 a2).f3),.int .i64 ((rd_T50 l1_1 a2).f4)] 50 (0,0)) (by (with_reducible repeat (first|refine blk_drewN ?_ _|refine blk_drew ?_|refine blk_alloc ?_ _));refine blk_put (cs:=#[.int .i64 ((rd_T50 l1_1 a2).f0),.int .i64 ((rd_T50 l1_1 a2).f1),.bool ((rd_T50 l1_1 a2).f2),.bool ((rd_T50 l1_1 a2).f3),.int .i64 0]) ?_ 4 _ rfl;(with_reducible repeat (first|refine blk_drewN ?_ _|refine blk_drew ?_|refine blk_alloc ?_ _));refine blk_put (cs:=#[.int .i64 ((rd_T50 l1_1 a2).f0),.int .i64 ((rd_T50 l1_1 a2).f1),.bool ((rd_T50 l1_1 a2).f2),.bool false,.int .i64 0]) ?_ 3 _ rfl;(with_reducible repeat (first|refine blk_drewN ?_ _|refine blk_drew ?_|refine blk_alloc ?_ _));refine blk_put (cs:=#[.int .i64 ((rd_T50 l1_1 a2).f0),.int .i64 ((rd_T50 l1_1 a2).f1),.bool false,.bool false,.int .i64 0]) ?_ 2 _ rfl;(with_reducible repeat (first|refine blk_drewN ?_ _|refine blk_drew ?_|refine blk_alloc ?_ _));refine blk_put (cs:=#[.int .i64 ((rd_T50 l1_1 a2).f0),.int .i64 0,.bool false,.bool false,.int .i64 0]) ?_ 1 _ rfl;(with_reducible repeat (first|refine blk_drewN ?_ _|refine blk_drew ?_|refine blk_alloc ?_ _));refine blk_put (cs:=#[.int .i64 0,.int .i64 0,.bool false,.bool false,.int .i64 0]) ?_ 0 _ rfl;(with_reducible repeat (first|refine blk_drewN ?_ _|refine blk_drew ?_|refine blk_alloc ?_ _));exact BK334.out) hb);have n3_:=Aside0.mk (below_step (by repeat (first|(with_reducible first|exact HB.out|apply below_alloc|apply pw_below_drewN|apply below_drew1|refine below_set ?_ GE331.out|refine below_set ?_ GE332.out|refine below_set ?_ GE334.out)|exact HB.out)) hb);clear BK331;clear BK332;clear BK334;clear HB;have BK331:=n0_;have BK332:=n1_;have BK334:=n2_;have HB:=n3_;clear n0_ n1_ n2_ n3_;(try clear hb);(try clear hb2);(try clear hk);(try clear hi)))
   (try simp only [Act.put,List.setIfInBounds_toArray,List.set_cons_zero,List.set_cons_succ])
   go_cut [18] (fun v18 wc=>∃ (kq:Nat) (x18_18:Bool),v18=.bool x18_18∧Aside0 (impl_told.j0 kq x18_18 ((rd_T50 l1_1 a2).f0) ((rd_T50 l1_1 a2).f1) ((rd_T50 l1_1 a2).f2) ((rd_T50 l1_1 a2).f3) ((rd_T50 l1_1 a2).f4)=some r)∧Aside0 (kq≤k)∧Aside0 (wc.heap[gb331]?=some (.cells #[.int .i64 a0_0,(.slice A0_1 l0_1.length c0_1)] 30 (0,0)))∧Aside0 (wc.heap[gb332]?=some (.cells #[.bool a1_0,(.slice (some ad333) l1_1.length c1_1),(.slice A1_2 l1_2.length c1_2)] 46 (0,0)))∧Aside0 (wc.heap[gb334]?=some (.cells #[.int .i64 ((rd_T50 l1_1 a2).f0),.int .i64 ((rd_T50 l1_1 a2).f1),.bool ((rd_T50 l1_1 a2).f2),.bool ((rd_T50 l1_1 a2).f3),.int .i64 ((rd_T50 l1_1 a2).f4)] 50 (0,0)))∧Aside0 (Below w.heap.size w wc))
   case first =>
    have H:=HC19.out
    clear HC19
    obtain ⟨bq31,hbq31⟩:∃ b_:Bool,b_=((rd_T50 l1_1 a2).f2):=⟨_,rfl⟩
    replace H:(if bq31=true then (impl_told.j0 k true ((rd_T50 l1_1 a2).f0) ((rd_T50 l1_1 a2).f1) bq31 ((rd_T50 l1_1 a2).f3) ((rd_T50 l1_1 a2).f4)) else (if ((rd_T50 l1_1 a2).f1)=0 then (impl_told.j0 k false ((rd_T50 l1_1 a2).f0) ((rd_T50 l1_1 a2).f1) bq31 ((rd_T50 l1_1 a2).f3) ((rd_T50 l1_1 a2).f4)) else (impl_told.j0 k (!((rd_T50 l1_1 a2).f3)) ((rd_T50 l1_1 a2).f0) ((rd_T50 l1_1 a2).f1) bq31 ((rd_T50 l1_1 a2).f3) ((rd_T50 l1_1 a2).f4))))=some r:=by rw [← hbq31] at H;exact H
    have Nbq31:=Aside0.mk hbq31
    clear hbq31
    (try rw [← Nbq31.out])
    by_cases c32:bq31=true
    ·subst c32
     have H1:(impl_told.j0 k true ((rd_T50 l1_1 a2).f0) ((rd_T50 l1_1 a2).f1) true ((rd_T50 l1_1 a2).f3) ((rd_T50 l1_1 a2).f4))=some r:=by rw [if_pos rfl] at H;exact H
     clear H
     have H:=H1
     clear H1
     have H':=Aside0.mk H
     clear H
     have hnb33:=NB334_331.out
     have hnc33:=NB331_334.out
     have hnb34:=NB334_332.out
     have hnc34:=NB332_334.out
     have hcz35_0:w30.cell? ⟨gb334,0,none⟩=some (.int .i64 ((rd_T50 l1_1 a2).f0)):=(blk_cell BK334.out 0).trans rfl
     have hcz35_1:w30.cell? ⟨gb334,1,none⟩=some (.int .i64 ((rd_T50 l1_1 a2).f1)):=(blk_cell BK334.out 1).trans rfl
     have hcz35_2:w30.cell? ⟨gb334,2,none⟩=some (.bool true):=(blk_cell BK334.out 2).trans (congrArg (fun b_=>some (Value.bool b_)) Nbq31.out.symm)
     have hcz35_3:w30.cell? ⟨gb334,3,none⟩=some (.bool ((rd_T50 l1_1 a2).f3)):=(blk_cell BK334.out 3).trans rfl
     have hcz35_4:w30.cell? ⟨gb334,4,none⟩=some (.int .i64 ((rd_T50 l1_1 a2).f4)):=(blk_cell BK334.out 4).trans rfl
     have hfz35_0:=blk_frozen BK334.out 0
     have hfz35_1:=blk_frozen BK334.out 1
     have hfz35_2:=blk_frozen BK334.out 2
     have hfz35_3:=blk_frozen BK334.out 3
     have hfz35_4:=blk_frozen BK334.out 4
     go_wp2
     go_meet
     case rel=>exact ⟨_,(true),(by first|rfl|(simp;done)|(simp [*];done)),(by first|exact H'|(rw [← Nbq31.out];exact H')),⟨by first|omega|exact Nat.le_refl _⟩,⟨by exact BK331.out⟩,⟨by exact BK332.out⟩,⟨by exact BK334.out⟩,⟨by exact HB.out⟩⟩
    replace c32:=Bool.eq_false_iff.mpr c32
    subst c32
    have H1:(if ((rd_T50 l1_1 a2).f1)=0 then (impl_told.j0 k false ((rd_T50 l1_1 a2).f0) ((rd_T50 l1_1 a2).f1) false ((rd_T50 l1_1 a2).f3) ((rd_T50 l1_1 a2).f4)) else (impl_told.j0 k (!((rd_T50 l1_1 a2).f3)) ((rd_T50 l1_1 a2).f0) ((rd_T50 l1_1 a2).f1) false ((rd_T50 l1_1 a2).f3) ((rd_T50 l1_1 a2).f4)))=some r:=by rw [if_neg (show ¬ (false=true) by decide)] at H;exact H
    clear H
    have H:=H1
    clear H1
    by_cases c36:((rd_T50 l1_1 a2).f1)=0
    ·rw [if_pos c36] at H
     have c36b0:(((rd_T50 l1_1 a2).f1)==0)=true:=beq_iff_eq.mpr c36
     have c36b1:(((rd_T50 l1_1 a2).f1) != 0)=false:=bne_eq_false_iff_eq.mpr c36
     clear c36
     have H':=Aside0.mk H
     clear H
     have hnb37:=NB334_331.out
     have hnc37:=NB331_334.out
     have hnb38:=NB334_332.out
     have hnc38:=NB332_334.out
     have hcz39_0:w30.cell? ⟨gb334,0,none⟩=some (.int .i64 ((rd_T50 l1_1 a2).f0)):=(blk_cell BK334.out 0).trans rfl
     have hcz39_1:w30.cell? ⟨gb334,1,none⟩=some (.int .i64 ((rd_T50 l1_1 a2).f1)):=(blk_cell BK334.out 1).trans rfl
     have hcz39_2:w30.cell? ⟨gb334,2,none⟩=some (.bool false):=(blk_cell BK334.out 2).trans (congrArg (fun b_=>some (Value.bool b_)) Nbq31.out.symm)
     have hcz39_3:w30.cell? ⟨gb334,3,none⟩=some (.bool ((rd_T50 l1_1 a2).f3)):=(blk_cell BK334.out 3).trans rfl
     have hcz39_4:w30.cell? ⟨gb334,4,none⟩=some (.int .i64 ((rd_T50 l1_1 a2).f4)):=(blk_cell BK334.out 4).trans rfl
     have hfz39_0:=blk_frozen BK334.out 0
     have hfz39_1:=blk_frozen BK334.out 1
     have hfz39_2:=blk_frozen BK334.out 2
     have hfz39_3:=blk_frozen BK334.out 3
     have hfz39_4:=blk_frozen BK334.out 4
     go_wp2
     go_meet
     case rel=>exact ⟨_,(false),(by first|rfl|(simp;done)|(simp [*];done)),(by first|exact H'|(rw [← Nbq31.out];exact H')),⟨by first|omega|exact Nat.le_refl _⟩,⟨by exact BK331.out⟩,⟨by exact BK332.out⟩,⟨by exact BK334.out⟩,⟨by exact HB.out⟩⟩
    rw [if_neg c36] at H
    have c36b0:(((rd_T50 l1_1 a2).f1)==0)=false:=beq_eq_false_iff_ne.mpr c36
    have c36b1:(((rd_T50 l1_1 a2).f1) != 0)=true:=bne_iff_ne.mpr c36
    have H':=Aside0.mk H
    clear H
    have hnb40:=NB334_331.out
    have hnc40:=NB331_334.out
    have hnb41:=NB334_332.out
    have hnc41:=NB332_334.out
    have hcz42_0:w30.cell? ⟨gb334,0,none⟩=some (.int .i64 ((rd_T50 l1_1 a2).f0)):=(blk_cell BK334.out 0).trans rfl
    have hcz42_1:w30.cell? ⟨gb334,1,none⟩=some (.int .i64 ((rd_T50 l1_1 a2).f1)):=(blk_cell BK334.out 1).trans rfl
    have hcz42_2:w30.cell? ⟨gb334,2,none⟩=some (.bool false):=(blk_cell BK334.out 2).trans (congrArg (fun b_=>some (Value.bool b_)) Nbq31.out.symm)
    have hcz42_3:w30.cell? ⟨gb334,3,none⟩=some (.bool ((rd_T50 l1_1 a2).f3)):=(blk_cell BK334.out 3).trans rfl
    have hcz42_4:w30.cell? ⟨gb334,4,none⟩=some (.int .i64 ((rd_T50 l1_1 a2).f4)):=(blk_cell BK334.out 4).trans rfl
    have hfz42_0:=blk_frozen BK334.out 0
    have hfz42_1:=blk_frozen BK334.out 1
    have hfz42_2:=blk_frozen BK334.out 2
    have hfz42_3:=blk_frozen BK334.out 3
    have hfz42_4:=blk_frozen BK334.out 4
    go_wp2
    go_meet
    case rel=>exact ⟨_,(!((rd_T50 l1_1 a2).f3)),(by first|rfl|(simp;done)|(simp [*];done)),(by first|exact H'|(rw [← Nbq31.out];exact H')),⟨by first|omega|exact Nat.le_refl _⟩,⟨by exact BK331.out⟩,⟨by exact BK332.out⟩,⟨by exact BK334.out⟩,⟨by exact HB.out⟩⟩
   case rest =>
    clear HC19
    try clear c1
    try clear c2
    try clear p2
    try clear c3
    try clear p3
    try clear q3
    try clear hx3
    try clear c4
    try clear c4b0
    try clear c5
    try clear c5b0
    try clear c7
    try clear c9
    try clear c10
    try clear c13
    try clear c14
    try clear c22
    try clear c25
    try clear c26
    try clear q31
    try clear c32
    try clear c33
    try clear p33
    try clear q33
    try clear hx33
    try clear c34
    try clear c36
    try clear c36b0
    try clear c36b1
    try clear c37
    try clear c38
    try clear c40
    try clear c41
    try clear hcz11_0
    try clear hcz11_1
    try clear hcz11_2
    try clear hcz15_0
    try clear hcz15_1
    try clear hcz15_2
    try clear hcz15_3
    try clear hcz15_4
    try clear hcz16_0
    try clear hcz16_1
    try clear hcz17_0
    try clear hcz17_1
    try clear hcz17_2
    try clear hcz23_0
    try clear hcz23_1
    try clear hcz23_2
    try clear hcz27_0
    try clear hcz27_1
    try clear hcz27_2
    try clear hcz27_3
    try clear hcz27_4
    try clear hcz28_0
    try clear hcz28_1
    try clear hcz29_0
    try clear hcz29_1
    try clear hcz29_2
    try clear hcz35_0
    try clear hcz35_1
    try clear hcz35_2
    try clear hcz35_3
    try clear hcz35_4
    try clear hcz39_0
    try clear hcz39_1
    try clear hcz39_2
    try clear hcz39_3
    try clear hcz39_4
    try clear hcz42_0
    try clear hcz42_1
    try clear hcz42_2
    try clear hcz42_3
    try clear hcz42_4
    try clear hfz11_0
    try clear hfz11_1
    try clear hfz11_2
    try clear hfz15_0
    try clear hfz15_1
    try clear hfz15_2
    try clear hfz15_3
    try clear hfz15_4
    try clear hfz16_0
    try clear hfz16_1
    try clear hfz17_0
    try clear hfz17_1
    try clear hfz17_2
    try clear hfz23_0
    try clear hfz23_1
    try clear hfz23_2
    try clear hfz27_0
    try clear hfz27_1
    try clear hfz27_2
    try clear hfz27_3
    try clear hfz27_4
    try clear hfz28_0
    try clear hfz28_1
    try clear hfz29_0
    try clear hfz29_1
    try clear hfz29_2
    try clear hfz35_0
    try clear hfz35_1
    try clear hfz35_2
    try clear hfz35_3
    try clear hfz35_4
    try clear hfz39_0
    try clear hfz39_1
    try clear hfz39_2
    try clear hfz39_3
    try clear hfz39_4
    try clear hfz42_0
    try clear hfz42_1
    try clear hfz42_2
    try clear hfz42_3
    try clear hfz42_4
    try clear hx333_0
    try clear hx333_1
    try clear hx333_2
    try clear hx333_3
    try clear hx333_4
    try clear p333
    try clear q333
    obtain ⟨kq,x18_18,rfl,HA,HJ18,BK331,BK332,BK334,HB⟩:=hcut
    cases kq with
    | zero=>exact absurd HA.out (by simp [impl_told.j0])
    | succ kj18 =>
     have H:=HA.out
     clear HA
     simp only [impl_told.j0] at H
     by_cases c43:x18_18=true
     ·subst c43
      have H1:(some 1)=some r:=by rw [if_pos rfl] at H;exact H
      clear H
      have H:=H1
      clear H1
      obtain rfl:=Option.some.inj H
      go_wp2
      go_ret
      exact ⟨by first|rfl|(simp [errW_none,errW_some] <;> rfl)|(simp [*,errW_none,errW_some] <;> rfl),by exact HB.out⟩
     replace c43:=Bool.eq_false_iff.mpr c43
     subst c43
     have H1:(if ((rd_T50 l1_1 a2).f3)=true then (some 2) else (some 0))=some r:=by rw [if_neg (show ¬ (false=true) by decide)] at H;exact H
     clear H
     have H:=H1
     clear H1
     by_cases c44:((rd_T50 l1_1 a2).f3)=true
     ·rw [if_pos c44] at H
      have c44b0:((rd_T50 l1_1 a2).f3)=true:=c44
      clear c44
      obtain rfl:=Option.some.inj H
      have hnb45:=NB334_331.out
      have hnc45:=NB331_334.out
      have hnb46:=NB334_332.out
      have hnc46:=NB332_334.out
      have hcz47_0:wc.cell? ⟨gb334,0,none⟩=some (.int .i64 ((rd_T50 l1_1 a2).f0)):=(blk_cell BK334.out 0).trans rfl
      have hcz47_1:wc.cell? ⟨gb334,1,none⟩=some (.int .i64 ((rd_T50 l1_1 a2).f1)):=(blk_cell BK334.out 1).trans rfl
      have hcz47_2:wc.cell? ⟨gb334,2,none⟩=some (.bool ((rd_T50 l1_1 a2).f2)):=(blk_cell BK334.out 2).trans rfl
      have hcz47_3:wc.cell? ⟨gb334,3,none⟩=some (.bool ((rd_T50 l1_1 a2).f3)):=(blk_cell BK334.out 3).trans rfl
      have hcz47_4:wc.cell? ⟨gb334,4,none⟩=some (.int .i64 ((rd_T50 l1_1 a2).f4)):=(blk_cell BK334.out 4).trans rfl
      have hfz47_0:=blk_frozen BK334.out 0
      have hfz47_1:=blk_frozen BK334.out 1
      have hfz47_2:=blk_frozen BK334.out 2
      have hfz47_3:=blk_frozen BK334.out 3
      have hfz47_4:=blk_frozen BK334.out 4
      go_wp2
      go_ret
      exact ⟨by first|rfl|(simp [errW_none,errW_some] <;> rfl)|(simp [*,errW_none,errW_some] <;> rfl),by exact HB.out⟩
     rw [if_neg c44] at H
     have c44b0:((rd_T50 l1_1 a2).f3)=false:=by simpa using c44
     clear c44
     obtain rfl:=Option.some.inj H
     have hnb48:=NB334_331.out
     have hnc48:=NB331_334.out
     have hnb49:=NB334_332.out
     have hnc49:=NB332_334.out
     have hcz50_0:wc.cell? ⟨gb334,0,none⟩=some (.int .i64 ((rd_T50 l1_1 a2).f0)):=(blk_cell BK334.out 0).trans rfl
     have hcz50_1:wc.cell? ⟨gb334,1,none⟩=some (.int .i64 ((rd_T50 l1_1 a2).f1)):=(blk_cell BK334.out 1).trans rfl
     have hcz50_2:wc.cell? ⟨gb334,2,none⟩=some (.bool ((rd_T50 l1_1 a2).f2)):=(blk_cell BK334.out 2).trans rfl
     have hcz50_3:wc.cell? ⟨gb334,3,none⟩=some (.bool ((rd_T50 l1_1 a2).f3)):=(blk_cell BK334.out 3).trans rfl
     have hcz50_4:wc.cell? ⟨gb334,4,none⟩=some (.int .i64 ((rd_T50 l1_1 a2).f4)):=(blk_cell BK334.out 4).trans rfl
     have hfz50_0:=blk_frozen BK334.out 0
     have hfz50_1:=blk_frozen BK334.out 1
     have hfz50_2:=blk_frozen BK334.out 2
     have hfz50_3:=blk_frozen BK334.out 3
     have hfz50_4:=blk_frozen BK334.out 4
     go_wp2
     go_ret
     exact ⟨by first|rfl|(simp [errW_none,errW_some] <;> rfl)|(simp [*,errW_none,errW_some] <;> rfl),by exact HB.out⟩
  rw [if_neg c5] at H
  exact absurd H (by simp)
 rw [if_neg c4] at H
 exact absurd H (by simp)
end Go.Proofs.Ytpdnabhpkdchjaa.P
namespace Go.Proofs.Ytpdnabhpkdchjaa.P
open Go.RowKit Go.Proofs.YtpdnabhpkdchjaaW.PrintWords Go.Proofs.YtpdnabhpkdchjaaW.PrintLast
set_option linter.unusedVariables false
set_option linter.unusedSimpArgs false
def deadFrom (l : List S88) (dead : List Bool) (s : Int) (d : Nat) (i : Nat) : Bool :=
  match d with
  | 0 => false
  | d + 1 => (rdOf false dead (i : Int) && hits s (rd_T88 l (i : Int))) || deadFrom l dead s d (i + 1)
def deadAt (l : List S88) (dead : List Bool) (s : Int) : Bool := deadFrom l dead s l.length 0
def toldC (l : List S88) (dead : List Bool) (s : Int) (x : S50) : Int :=
  if deadAt l dead s = true then 3 else if x.f2 = true ∨ (x.f1 ≠ 0 ∧ x.f3 = false) then 1 else if x.f3 = true then 2 else 0
theorem implDead_l0 (l : List S88) (dead : List Bool) (b : Bool) (secs : List S50) (s : Int) (hl : l.length ≤ 1048576) (hd : dead.length = l.length) (d : Nat) : ∀ (i : Nat), i + d = l.length →
    Ev (fun k => impl_dead.l0 k s l (l.length : Int) i b secs dead) (deadFrom l dead s d i) := by
  induction d with
  | zero => intro i hi; refine Ev.step1 fun k => ?_; simp only [impl_dead.l0]; rw [if_neg (by omega)]; rfl
  | succ d ih =>
    intro i hi
    have h1 := ih (i + 1) (by omega)
    simp only [deadFrom]
    cases hb : rdOf false dead (i : Int) with
    | false =>
      simp only [Bool.false_and, Bool.false_or]
      refine Ev.step (fun k => ?_) h1
      simp only [impl_dead.l0]
      rw [if_pos (by omega), if_pos (by omega), if_pos (by omega), if_pos (by omega), hb, wrap_succ (by omega)]
      rfl
    | true =>
      by_cases h2 : (rd_T88 l (i : Int)).f0 = s
      · simp only [hits, h2, decide_true, Bool.true_or, Bool.and_true]
        refine Ev.step1 fun k => ?_
        simp only [impl_dead.l0]
        rw [if_pos (by omega), if_pos (by omega), if_pos (by omega), if_pos (by omega), hb, if_pos rfl, if_pos h2]
      · by_cases h3 : (rd_T88 l (i : Int)).f1 = s
        · simp only [hits, h3, decide_true, Bool.or_true, Bool.true_or, Bool.and_true]
          refine Ev.step1 fun k => ?_
          simp only [impl_dead.l0]
          rw [if_pos (by omega), if_pos (by omega), if_pos (by omega), if_pos (by omega), hb, if_pos rfl, if_neg h2, if_pos h3]
        · simp only [hits, h2, h3, decide_false, Bool.or_self, Bool.and_false, Bool.false_or]
          refine Ev.step (fun k => ?_) h1
          simp only [impl_dead.l0]
          rw [if_pos (by omega), if_pos (by omega), if_pos (by omega), if_pos (by omega), hb, if_pos rfl, if_neg h2, if_neg h3, wrap_succ (by omega)]
theorem implDead_ev (n : Int) (l : List S88) (dead : List Bool) (b : Bool) (secs : List S50) (s : Int) (hl : l.length ≤ 1048576) (hd : dead.length = l.length) :
    Ev (fun k => impl_dead.f k n l b secs dead s) (deadAt l dead s) := by
  unfold impl_dead.f
  exact implDead_l0 l dead b secs s hl hd l.length 0 (by omega)
theorem told_tail (x : S50) (b : Bool) (hb : b = true ↔ (x.f2 = true ∨ (x.f1 ≠ 0 ∧ x.f3 = false))) :
    (if b = true then some (1 : Int) else if x.f3 = true then some 2 else some 0) = some (if x.f2 = true ∨ (x.f1 ≠ 0 ∧ x.f3 = false) then 1 else if x.f3 = true then 2 else 0) := by
  by_cases h : b = true
  · rw [if_pos h, if_pos (hb.1 h)]
  · rw [if_neg h, if_neg (fun k => h (hb.2 k))]
    split <;> rfl
theorem implTold_ev (n : Int) (l : List S88) (dead : List Bool) (b : Bool) (secs : List S50) (s : Int) (hl : l.length ≤ 1048576) (hd : dead.length = l.length) (h0 : 0 ≤ s) (h1 : s < secs.length) :
    Ev (fun k => impl_told.f k n l b secs dead s) (toldC l dead s (rd_T50 secs s)) := by
  unfold impl_told.f
  refine Ev.ite_pos h0 (Ev.ite_pos h1 (Ev.bind (implDead_ev n l dead b secs s hl hd) ?_))
  unfold toldC
  by_cases hdd : deadAt l dead s = true
  · rw [if_pos hdd]; exact Ev.ite_pos hdd (Ev.now _)
  · rw [if_neg hdd]
    refine Ev.ite_neg hdd ?_
    by_cases h2 : (rd_T50 secs s).f2 = true
    · refine Ev.ite_pos h2 (Ev.step1 fun k => ?_)
      simp only [impl_told.j0]
      exact told_tail _ true (by simp [h2])
    · refine Ev.ite_neg h2 ?_
      by_cases h3 : (rd_T50 secs s).f1 = 0
      · refine Ev.ite_pos h3 (Ev.step1 fun k => ?_)
        simp only [impl_told.j0]
        exact told_tail _ false (by simp [h2, h3])
      · refine Ev.ite_neg h3 (Ev.step1 fun k => ?_)
        simp only [impl_told.j0]
        exact told_tail _ _ (by simp [h2, h3])
end Go.Proofs.Ytpdnabhpkdchjaa.P
namespace Go.Proofs.Ytpdnabhpkdchjaa.P
open Go.RowKit Go.Proofs.YtpdnabhpkdchjaaW.PrintWords Go.Proofs.YtpdnabhpkdchjaaW.PrintLast
set_option linter.unusedVariables false
set_option linter.unusedSimpArgs false
def secRange (x : S50) : Bool := decide (-1000000 ≤ x.f1) && decide (x.f1 ≤ 1000000) && decide (-1 ≤ x.f4) && decide (x.f4 ≤ 1)
def secRest (dd : Bool) (x : S50) : Bool := !((decide (x.f1 < 0) || dd) && !x.f2) && !(x.f3 && decide (x.f1 = 0) && decide (x.f4 = -1) && !x.f2)
def secOk (l : List S88) (dead : List Bool) (s : Int) (x : S50) : Bool := secRange x && decide (x.f0 = toldC l dead s x) && secRest (deadAt l dead s) x
def secsFrom (l : List S88) (dead : List Bool) (secs : List S50) (d : Nat) (i : Nat) : Bool :=
  match d with
  | 0 => true
  | d + 1 => secOk l dead i (rd_T50 secs (i : Int)) && secsFrom l dead secs d (i + 1)
def stateOk (n : Int) (l : List S88) (ok : Bool) (secs : List S50) (dead : List Bool) : Bool :=
  decide (layoutOk n l = 0) && ok && decide ((secs.length : Int) = n) && decide (dead.length = l.length) && secsFrom l dead secs secs.length 0
end Go.Proofs.Ytpdnabhpkdchjaa.P
namespace Go.Proofs.Ytpdnabhpkdchjaa.P
open Go.RowKit Go.Proofs.YtpdnabhpkdchjaaW.PrintWords Go.Proofs.YtpdnabhpkdchjaaW.PrintLast Go.Proofs.YtpdnabhpkdchjaaW.PrintMore
set_option linter.unusedVariables false
def addS (ss : List S50) (s b : Int) : List S50 := if s < 0 then ss else ss.set s.toNat (countS (rd_T50 ss s) b)
def loseAt (ss : List S50) (s : Int) : List S50 := if s < 0 then ss else ss.set s.toNat (loseS (rd_T50 ss s))
def tellS (l : List S88) (dd : List Bool) (i : Nat) (x : S50) : S50 := ⟨toldC l dd (i : Int) x, x.f1, x.f2, x.f3, x.f4⟩
def retoldTo (l : List S88) (dd : List Bool) (ss : List S50) (k : Nat) : List S50 := ss.mapIdx fun i x => if i < k then tellS l dd i x else x
def retold (l : List S88) (dd : List Bool) (ss : List S50) : List S50 := retoldTo l dd ss ss.length
def midSecs (l : List S88) (ss : List S50) (op of dir : Int) : List S50 :=
  let c := rd_T88 l of
  let f := if dir = -1 then c.f1 else c.f0
  let t := if dir = -1 then c.f0 else c.f1
  if op = 1 then addS (addS ss f (-1)) t 1 else if op = 2 then addS ss t 1 else if op = 3 then loseAt (loseAt ss c.f0) c.f1 else if op = 5 then ss.set of.toNat ⟨0, 0, false, true, 0⟩ else ss
def midDead (dd : List Bool) (op of : Int) : List Bool := if op = 3 then dd.set of.toNat true else if op = 4 then dd.set of.toNat false else dd
def doCode (l : List S88) (ss : List S50) (dd : List Bool) (op of : Int) : Int :=
  if op = 1 ∨ op = 2 then (if rdOf false dd of = true then 2 else 0) else if op = 5 then (if deadAt l dd of = true then 3 else if (rd_T50 ss of).f4 = 1 then 4 else 0) else 0
def doSecs (l : List S88) (ss : List S50) (dd : List Bool) (op of dir : Int) : List S50 := if doCode l ss dd op of = 0 then retold l (midDead dd op of) (midSecs l ss op of dir) else ss
def doDead (l : List S88) (ss : List S50) (dd : List Bool) (op of : Int) : List Bool := if doCode l ss dd op of = 0 then midDead dd op of else dd
theorem addS_length (ss : List S50) (s b : Int) : (addS ss s b).length = ss.length := by unfold addS; split <;> simp
theorem loseAt_length (ss : List S50) (s : Int) : (loseAt ss s).length = ss.length := by unfold loseAt; split <;> simp
theorem retoldTo_length (l : List S88) (dd : List Bool) (ss : List S50) (k : Nat) : (retoldTo l dd ss k).length = ss.length := by simp [retoldTo]
theorem retold_length (l : List S88) (dd : List Bool) (ss : List S50) : (retold l dd ss).length = ss.length := retoldTo_length _ _ _ _
theorem midSecs_length (l : List S88) (ss : List S50) (op of dir : Int) : (midSecs l ss op of dir).length = ss.length := by
  unfold midSecs
  simp only []
  split
  · rw [addS_length, addS_length]
  · split
    · rw [addS_length]
    · split
      · rw [loseAt_length, loseAt_length]
      · split <;> simp
theorem midDead_length (dd : List Bool) (op of : Int) : (midDead dd op of).length = dd.length := by unfold midDead; split <;> (try split) <;> simp
theorem doSecs_length (l : List S88) (ss : List S50) (dd : List Bool) (op of dir : Int) : (doSecs l ss dd op of dir).length = ss.length := by
  unfold doSecs; split
  · rw [retold_length, midSecs_length]
  · rfl
theorem doDead_length (l : List S88) (ss : List S50) (dd : List Bool) (op of : Int) : (doDead l ss dd op of).length = dd.length := by
  unfold doDead; split
  · exact midDead_length _ _ _
  · rfl
theorem retoldTo_zero (l : List S88) (dd : List Bool) (ss : List S50) : retoldTo l dd ss 0 = ss := by
  apply List.ext_getElem <;> simp [retoldTo]
theorem retoldTo_at (l : List S88) (dd : List Bool) (ss : List S50) (k : Nat) (hk : k < ss.length) : rd_T50 (retoldTo l dd ss k) (k : Int) = rd_T50 ss (k : Int) := by
  simp [rd_T50, retoldTo, hk]
theorem retoldTo_succ (l : List S88) (dd : List Bool) (ss : List S50) (k : Nat) (hk : k < ss.length) :
    (retoldTo l dd ss k).set k (tellS l dd k (rd_T50 ss (k : Int))) = retoldTo l dd ss (k + 1) := by
  apply List.ext_getElem
  · simp [retoldTo]
  · intro i h1 h2
    have hi : i < ss.length := by simpa [retoldTo] using h2
    rw [List.getElem_set]
    by_cases e : k = i
    · subst e
      simp [retoldTo, rd_T50, hk]
    · rw [if_neg e]
      simp only [retoldTo, List.getElem_mapIdx]
      by_cases h3 : i < k
      · rw [if_pos h3, if_pos (by omega)]
      · rw [if_neg h3, if_neg (by omega)]
end Go.Proofs.Ytpdnabhpkdchjaa.P
namespace Go.Proofs.Ytpdnabhpkdchjaa.P
open Go.RowKit Go.Proofs.YtpdnabhpkdchjaaW.PrintWords Go.Proofs.YtpdnabhpkdchjaaW.PrintLast Go.Proofs.YtpdnabhpkdchjaaW.PrintMore
set_option linter.unusedVariables false
set_option linter.unusedSimpArgs false
theorem secsFrom_at {l : List S88} {dd : List Bool} {ss : List S50} : ∀ (d i : Nat), secsFrom l dd ss d i = true → ∀ j, i ≤ j → j < i + d → secOk l dd (j : Int) (rd_T50 ss (j : Int)) = true := by
  intro d
  induction d with
  | zero => intro i h j h1 h2; omega
  | succ d ih =>
    intro i h j h1 h2
    simp only [secsFrom, Bool.and_eq_true] at h
    by_cases e : j = i
    · subst e; exact h.1
    · exact ih (i + 1) h.2 j (by omega) (by omega)
theorem secsFrom_of {l : List S88} {dd : List Bool} {ss : List S50} : ∀ (d i : Nat), (∀ j, i ≤ j → j < i + d → secOk l dd (j : Int) (rd_T50 ss (j : Int)) = true) → secsFrom l dd ss d i = true := by
  intro d
  induction d with
  | zero => intro i h; rfl
  | succ d ih =>
    intro i h
    simp only [secsFrom, Bool.and_eq_true]
    exact ⟨h i (Nat.le_refl _) (by omega), ih (i + 1) (fun j h1 h2 => h j (by omega) (by omega))⟩
theorem stateOk_of {n : Int} {l : List S88} {ok : Bool} {ss : List S50} {dd : List Bool} (h : stateOk n l ok ss dd = true) : layoutOk n l = 0 ∧ ok = true ∧ (ss.length : Int) = n ∧ dd.length = l.length ∧ ∀ j, j < ss.length → secOk l dd (j : Int) (rd_T50 ss (j : Int)) = true := by
  simp only [stateOk, Bool.and_eq_true, decide_eq_true_eq] at h
  exact ⟨h.1.1.1.1, h.1.1.1.2, h.1.1.2, h.1.2, fun j hj => secsFrom_at _ 0 h.2 j (by omega) (by omega)⟩
theorem stateOk_mk {n : Int} {l : List S88} {ok : Bool} {ss : List S50} {dd : List Bool} (h1 : layoutOk n l = 0) (h2 : ok = true) (h3 : (ss.length : Int) = n) (h4 : dd.length = l.length) (h5 : ∀ j, j < ss.length → secOk l dd (j : Int) (rd_T50 ss (j : Int)) = true) : stateOk n l ok ss dd = true := by
  simp only [stateOk, Bool.and_eq_true, decide_eq_true_eq]
  exact ⟨⟨⟨⟨h1, h2⟩, h3⟩, h4⟩, secsFrom_of _ 0 (fun j _ hj => h5 j (by omega))⟩
theorem secOk_told {l : List S88} {dd : List Bool} {s : Int} {x : S50} (h : secOk l dd s x = true) : x.f0 = toldC l dd s x := by
  simp only [secOk, Bool.and_eq_true, decide_eq_true_eq] at h
  exact h.1.2
end Go.Proofs.Ytpdnabhpkdchjaa.P
