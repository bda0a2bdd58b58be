/- The statement FnJust holds of the given program, for every argument; there are no conditions. (Part 3 of 5.) -/
import Derived.Test.YtpdnabhpkdchjaaBFnJust2
namespace Go.Proofs.Ytpdnabhpkdchjaa.P
open Go.RowKit Go.Proofs.YtpdnabhpkdchjaaW.PrintWords Go.Proofs.YtpdnabhpkdchjaaW.PrintLast Go.Proofs.YtpdnabhpkdchjaaW.PrintMore
attribute [local go_sem] max2_int min2_int max_two min_two max_three min_three max_four min_four
set_option linter.unusedVariables false
set_option linter.unusedSimpArgs false
mutual
def impl_Truth.j0:Nat→List (S56)→Bool→Int→List (S88)→Option ((List (List Int)))
 | 0,_,_,_,_=>none
 | k+1,x1,x17,x615000,x615001=>if x17=true then (some ([]:List (List Int))) else (if 0≤x615000 then (if (x615000:Int).toNat≤35184372088832 then (impl_Truth.l0 k (List.replicate (x615000:Int).toNat 0) ([]:List (List Int)) x1 (x1.length:Int) 0 x615000 x615001) else (none)) else (none))
def impl_Truth.l0:Nat→List Int→List (List Int)→List (S56)→Int→Int→Int→List (S88)→Option ((List (List Int)))
 | 0,_,_,_,_,_,_,_=>none
 | k+1,x5,x6,x21,x22,x23,x615000,x615001=>if x23<x22 then (if 0≤x23 then (if x23<(x21.length:Int) then ((impl_EventOk.f k x615000 x615001 ((rd_T56 x21 x23).f0) ((rd_T56 x21 x23).f1) ((rd_T56 x21 x23).f2)).bind fun t621=>(if t621=true then (impl_Truth.j2 k x5 x6 x21 x22 x23 (((rd_T56 x21 x23).f0)==1) x615000 x615001 ((rd_T56 x21 x23).f0) ((rd_T56 x21 x23).f1) ((rd_T56 x21 x23).f2)) else (impl_Truth.j2 k x5 x6 x21 x22 x23 false x615000 x615001 ((rd_T56 x21 x23).f0) ((rd_T56 x21 x23).f1) ((rd_T56 x21 x23).f2)))) else (none)) else (none)) else (some x6)
def impl_Truth.j2:Nat→List Int→List (List Int)→List (S56)→Int→Int→Bool→Int→List (S88)→Int→Int→Int→Option ((List (List Int)))
 | 0,_,_,_,_,_,_,_,_,_,_,_=>none
 | k+1,x5,x6,x21,x22,x23,x34,x615000,x615001,x621000,x621001,x621002=>if x34=true then (if 0≤x621001 then (if x621001<(x615001.length:Int) then (if ((rd_T88 x615001 x621001).f0) ≥ 0 then (if 0≤((rd_T88 x615001 x621001).f0) then (if ((rd_T88 x615001 x621001).f0)<(x5.length:Int) then ((some (x5.set (((rd_T88 x615001 x621001).f0):Int).toNat (wrap64 ((rd x5 ((rd_T88 x615001 x621001).f0)) - x621002)):List Int)).bind fun y625=>(if ((rd_T88 x615001 x621001).f1) ≥ 0 then (if 0≤((rd_T88 x615001 x621001).f1) then (if ((rd_T88 x615001 x621001).f1)<(x5.length:Int) then ((some (y625.set (((rd_T88 x615001 x621001).f1):Int).toNat (wrap64 ((rd y625 ((rd_T88 x615001 x621001).f1))+x621002)):List Int)).bind fun y627=>((slices_Clone_int_int.f y627).bind fun t628=>(if x6.length<5864062014805 then (impl_Truth.l0 k y627 (x6 ++ [t628]) x21 x22 (wrap64 (x23+1)) x615000 x615001) else (none)))) else (none)) else (none)) else ((slices_Clone_int_int.f y625).bind fun t634=>(if x6.length<5864062014805 then (impl_Truth.l0 k y625 (x6 ++ [t634]) x21 x22 (wrap64 (x23+1)) x615000 x615001) else (none))))) else (none)) else (none)) else (if ((rd_T88 x615001 x621001).f1) ≥ 0 then (if 0≤((rd_T88 x615001 x621001).f1) then (if ((rd_T88 x615001 x621001).f1)<(x5.length:Int) then ((some (x5.set (((rd_T88 x615001 x621001).f1):Int).toNat (wrap64 ((rd x5 ((rd_T88 x615001 x621001).f1))+x621002)):List Int)).bind fun y641=>((slices_Clone_int_int.f y641).bind fun t642=>(if x6.length<5864062014805 then (impl_Truth.l0 k y641 (x6 ++ [t642]) x21 x22 (wrap64 (x23+1)) x615000 x615001) else (none)))) else (none)) else (none)) else ((slices_Clone_int_int.f x5).bind fun t648=>(if x6.length<5864062014805 then (impl_Truth.l0 k x5 (x6 ++ [t648]) x21 x22 (wrap64 (x23+1)) x615000 x615001) else (none))))) else (none)) else (none)) else ((slices_Clone_int_int.f x5).bind fun t654=>(if x6.length<5864062014805 then (impl_Truth.l0 k x5 (x6 ++ [t654]) x21 x22 (wrap64 (x23+1)) x615000 x615001) else (none)))
end
def impl_Truth.f (k:Nat) (a0_0:Int) (l0_1:List (S88)) (l1:List (S56)):Option ((List (List Int))):=(impl_LayoutOk.f a0_0 l0_1).bind fun t615=>(if t615=0 then (impl_Truth.j0 k l1 (decide ((l1.length:Int) > 2000)) a0_0 l0_1) else (impl_Truth.j0 k l1 true a0_0 l0_1))
def impl_Truth.T11:Bool × List (List Nat × List Nat):=(true,[([],[]),([],[]),([1],[1]),([0,2],[0,2]),([3],[3]),([],[]),([5],[5]),([4,6],[4,6]),([0,2,0,1,2,3,4,5,6,7],[0,2]),([8,7,0,1,2,3,4,5,6,7],[7,8])])
def impl_Truth.B11:List Nat:=[0,0,2,7,15,0,32,127,255,511]
theorem impl_Truth.tab11:rtab .any (opsOf Try.f54 11)=impl_Truth.T11:=by kernel_rfl
theorem impl_Truth.bits11:waitsOk impl_Truth.T11.2 impl_Truth.B11=true:=by kernel_rfl
def impl_Truth.T13:Bool × List (List Nat × List Nat):=(true,[([],[]),([],[]),([1],[1]),([0,2],[0,2]),([3],[3]),([],[]),([5],[5]),([4,6],[4,6]),([0,2,0,1,2,3,4,5,6,7],[0,2]),([8,7,0,1,2,3,4,5,6,7],[7,8])])
def impl_Truth.B13:List Nat:=[0,0,2,7,15,0,32,127,255,511]
theorem impl_Truth.tab13:rtab .any (opsOf Try.f54 13)=impl_Truth.T13:=by kernel_rfl
theorem impl_Truth.bits13:waitsOk impl_Truth.T13.2 impl_Truth.B13=true:=by kernel_rfl
set_option maxHeartbeats 8000000 in
set_option maxRecDepth 100000 in
theorem impl_Truth.calls (k:Nat) (a0_0:Int) (A0_1:Option Addr) (c0_1:Nat) (l0_1:List (S88)) (A1:Option Addr) (c1:Nat) (l1:List (S56)) (r:List (List Int)) (w:World) (hr0_1:Kd.C k88 w A0_1 l0_1.length l0_1) (hc0_1:l0_1.length≤c0_1) (hr1:Kd.C k56 w A1 l1.length l1) (hc1:l1.length≤c1) (h:impl_Truth.f k a0_0 l0_1 l1=some r) :
  Calls Try.prog 54 #[.agg #[.int .i64 a0_0,.slice A0_1 l0_1.length c0_1],.slice A1 l1.length c1] w fun e w'=>∃ v0_:Value,e=.returned (v0_)∧Kd.S (Kd.slice 3 (Kd.int .i64)) 59 w' w.heap.size (fun _=>True) v0_ r∧Below w.heap.size w w':=by
 have hu30:=Try.underlying30
 have hu56:=Try.underlying56
 have hu88:=Try.underlying88
 have HR0_1:=Aside0.mk hr0_1
 have HC0_1:=Aside0.mk hc0_1
 clear hr0_1 hc0_1
 have HR1:=Aside0.mk hr1
 have HC1:=Aside0.mk hc1
 clear hr1 hc1
 have HB:=Aside0.mk (Below.refl w.heap.size w)
 have H:((impl_LayoutOk.f a0_0 l0_1).bind fun t615=>(if t615=0 then (impl_Truth.j0 k l1 (decide ((l1.length:Int) > 2000)) a0_0 l0_1) else (impl_Truth.j0 k l1 true a0_0 l0_1)))=some r:=h
 clear h
 have HC3:=Aside0.mk H
 clear H
 go_enter Try.func54,Try.ntmps54
 go_upto_region 1 with (first|((with_reducible refine gate_dst (N:=2) rfl ?_);(try (refine gate_guard (by rfl) ?_;dsimp only));refine box_event ?hg (N:=2) ?hd (cs:=#[.int .i64 a0_0,.slice A0_1 l0_1.length c0_1]) (t:=30) ?hr ?_;(case hd=>rfl);(case hg=>rfl);(case hr=>first|(go_simp;done)|(go_simp;rfl));intro gb614 hg w4 hbox hb;have n0_:=Aside0.mk (below_step (by exact HB.out) hb);have n1_:=Aside0.mk (hbox);have n2_:=Aside0.mk ((by rw [hg];exact (below_size (by exact HB.out)):w.heap.size≤gb614));have n3_:=Aside0.mk ((by rw [hg];exact (below_size (by exact HB.out)):w.heap.size≤gb614));clear HB;have HB:=n0_;have BK614:=n1_;have GW614:=n2_;have GE614:=n3_;clear n0_ n1_ n2_ n3_;clear hb hbox hg))
 (try simp only [Act.put,List.setIfInBounds_toArray,List.set_cons_zero,List.set_cons_succ])
 go_cut [17] (fun v17 wc=>∃ (kq:Nat) (x17_2:Bool),v17=.bool x17_2∧Aside0 (impl_Truth.j0 kq l1 x17_2 a0_0 l0_1=some r)∧Aside0 (kq≤k)∧Aside0 (wc.heap[gb614]?=some (.cells #[.int .i64 a0_0,(.slice A0_1 l0_1.length c0_1)] 30 (0,0)))∧Aside0 (Below w.heap.size w wc))
 case first =>
  have H:=HC3.out
  clear HC3
  replace H:=Option.bind_eq_some_iff.mp H
  obtain ⟨t615,A50,H⟩:=H
  replace H:(if t615=0 then (impl_Truth.j0 k l1 (decide ((l1.length:Int) > 2000)) a0_0 l0_1) else (impl_Truth.j0 k l1 true a0_0 l0_1))=some r:=H
  have A5:=Aside0.mk A50
  clear A50
  by_cases c6:t615=0
  ·rw [if_pos c6] at H
   have c6b0:(t615==0)=true:=beq_iff_eq.mpr c6
   have c6b1:(t615 != 0)=false:=bne_eq_false_iff_eq.mpr c6
   clear c6
   (first|rw [c6b0]|(simp only [i64_w,i32_w];rw [c6b0])|skip)
   have H':=Aside0.mk H
   clear H
   have hcz7_0:w4.cell? ⟨gb614,0,none⟩=some (.int .i64 a0_0):=(blk_cell BK614.out 0).trans rfl
   have hcz7_1:w4.cell? ⟨gb614,1,none⟩=some (.slice A0_1 l0_1.length c0_1):=(blk_cell BK614.out 1).trans rfl
   have hfz7_0:=blk_frozen BK614.out 0
   have hfz7_1:=blk_frozen BK614.out 1
   go_wp2_with (first|((with_reducible refine gate_callee (f:=25) rfl ?_);refine goesL_ (some 11) rfl rfl Try.func25 (by kernel_rfl) rfl #[.agg #[.int .i64 a0_0,.slice A0_1 l0_1.length c0_1]] rfl (by (try simp only [List.map_toArray,List.map_cons,List.map_nil]);first|done|rfl|(simp only [List.length_drop,List.length_take];rfl)) ?_;(with_reducible refine (impl_LayoutOk.calls a0_0 _ _ l0_1 t615 _ ?side1 ?side2 A5.out).mono ?_);(case side1=>repeat (first|exact (Kd.C_below HR0_1.out HB.out)|(with_reducible refine Kd.C_alloc ?_ _)|(with_reducible refine Kd.C_drewN ?_ _)|(with_reducible refine Kd.C_drew ?_)));(case side2=>exact HC0_1.out);rintro e w8 ⟨rfl,hb⟩;refine ⟨_,rfl,?_⟩;have n0_:=Aside0.mk (blk_below (g:=gb614) (o:=.cells #[.int .i64 a0_0,.slice A0_1 l0_1.length c0_1] 30 (0,0)) (by exact BK614.out) hb);have n1_:=Aside0.mk (below_step (by exact HB.out) hb);clear BK614;clear HB;have BK614:=n0_;have HB:=n1_;clear n0_ n1_;(try clear hb);(try clear hb2);(try clear hk);(try clear hi)))
   go_meet
   case rel=>exact ⟨_,(decide ((l1.length:Int) > 2000)),(by first|rfl|(simp;done)|(simp [*];done)),H',⟨by first|omega|exact Nat.le_refl _⟩,⟨by exact BK614.out⟩,⟨by exact HB.out⟩⟩
  rw [if_neg c6] at H
  have c6b0:(t615==0)=false:=beq_eq_false_iff_ne.mpr c6
  have c6b1:(t615 != 0)=true:=bne_iff_ne.mpr c6
  (first|rw [c6b0]|(simp only [i64_w,i32_w];rw [c6b0])|skip)
  have H':=Aside0.mk H
  clear H
  have hcz9_0:w4.cell? ⟨gb614,0,none⟩=some (.int .i64 a0_0):=(blk_cell BK614.out 0).trans rfl
  have hcz9_1:w4.cell? ⟨gb614,1,none⟩=some (.slice A0_1 l0_1.length c0_1):=(blk_cell BK614.out 1).trans rfl
  have hfz9_0:=blk_frozen BK614.out 0
  have hfz9_1:=blk_frozen BK614.out 1
  go_wp2_with (first|((with_reducible refine gate_callee (f:=25) rfl ?_);refine goesL_ (some 11) rfl rfl Try.func25 (by kernel_rfl) rfl #[.agg #[.int .i64 a0_0,.slice A0_1 l0_1.length c0_1]] rfl (by (try simp only [List.map_toArray,List.map_cons,List.map_nil]);first|done|rfl|(simp only [List.length_drop,List.length_take];rfl)) ?_;(with_reducible refine (impl_LayoutOk.calls a0_0 _ _ l0_1 t615 _ ?side1 ?side2 A5.out).mono ?_);(case side1=>repeat (first|exact (Kd.C_below HR0_1.out HB.out)|(with_reducible refine Kd.C_alloc ?_ _)|(with_reducible refine Kd.C_drewN ?_ _)|(with_reducible refine Kd.C_drew ?_)));(case side2=>exact HC0_1.out);rintro e w10 ⟨rfl,hb⟩;refine ⟨_,rfl,?_⟩;have n0_:=Aside0.mk (blk_below (g:=gb614) (o:=.cells #[.int .i64 a0_0,.slice A0_1 l0_1.length c0_1] 30 (0,0)) (by exact BK614.out) hb);have n1_:=Aside0.mk (below_step (by exact HB.out) hb);clear BK614;clear HB;have BK614:=n0_;have HB:=n1_;clear n0_ n1_;(try clear hb);(try clear hb2);(try clear hk);(try clear hi)))
  go_meet
  case rel=>exact ⟨_,(true),(by first|rfl|(simp;done)|(simp [*];done)),H',⟨by first|omega|exact Nat.le_refl _⟩,⟨by exact BK614.out⟩,⟨by exact HB.out⟩⟩
 case rest =>
  clear HC3
  try clear c1
  try clear c2
  try clear p2
  try clear c5
  try clear c6
  try clear c6b0
  try clear c6b1
  try clear hcz7_0
  try clear hcz7_1
  try clear hcz9_0
  try clear hcz9_1
  try clear hfz7_0
  try clear hfz7_1
  try clear hfz9_0
  try clear hfz9_1
  obtain ⟨kq,x17_2,rfl,HA,HJ2,BK614,HB⟩:=hcut
  cases kq with
  | zero=>exact absurd HA.out (by simp [impl_Truth.j0])
  | succ kj2 =>
   have H:=HA.out
   clear HA
   simp only [impl_Truth.j0] at H
   by_cases c11:x17_2=true
   ·subst c11
    have H1:(some ([]:List (List Int)))=some r:=by rw [if_pos rfl] at H;exact H
    clear H
    have H:=H1
    clear H1
    obtain rfl:=Option.some.inj H
    go_wp2
    go_ret
    exact ⟨_,by first|rfl|(simp [errW_none,errW_some] <;> rfl)|(simp [*,errW_none,errW_some] <;> rfl),by first|exact Kd.S_nil _ _ _ _ _|exact Kd.N_nil _ _ _ _ _|exact Kd.V_nil _ _ _ _ _|exact Kd.Q_nil _ _ _ _ _|exact Kd.R_nil _ _ _ _ _,by exact HB.out⟩
   replace c11:=Bool.eq_false_iff.mpr c11
   subst c11
   have H1:(if 0≤a0_0 then (if (a0_0:Int).toNat≤35184372088832 then (impl_Truth.l0 kj2 (List.replicate (a0_0:Int).toNat 0) ([]:List (List Int)) l1 (l1.length:Int) 0 a0_0 l0_1) else (none)) else (none))=some r:=by rw [if_neg (show ¬ (false=true) by decide)] at H;exact H
   clear H
   have H:=H1
   clear H1
   by_cases c12:0≤a0_0
   ·rw [if_pos c12] at H
    have c12b0:=eq_true c12
    have c12b1:decide (0≤a0_0)=true:=decide_eq_true c12
    clear c12
    by_cases c13:(a0_0:Int).toNat≤35184372088832
    ·rw [if_pos c13] at H
     have c13b0:=eq_true c13
     have c13b1:decide ((a0_0:Int).toNat≤35184372088832)=true:=decide_eq_true c13
     clear c13
     obtain ⟨y616,hy616⟩:∃ y_:List Int,y_=(List.replicate (a0_0:Int).toNat 0):=⟨_,rfl⟩
     replace H:(impl_Truth.l0 kj2 y616 ([]:List (List Int)) l1 (l1.length:Int) 0 a0_0 l0_1)=some r:=by first|(rw [hy616];with_reducible exact H)|(have H2_:=(Option.bind_some _ _).symm.trans H;rw [hy616];with_reducible exact H2_)|(have H2_:=(Option.bind_some _ _).symm.trans H;with_reducible exact H2_)|with_reducible exact H|(rw [hy616];exact H)|exact H
     have Ny616:=Aside0.mk hy616
     clear hy616
     have H':=Aside0.mk H
     clear H
     have hcz14_0:wc.cell? ⟨gb614,0,none⟩=some (.int .i64 a0_0):=(blk_cell BK614.out 0).trans rfl
     have hcz14_1:wc.cell? ⟨gb614,1,none⟩=some (.slice A0_1 l0_1.length c0_1):=(blk_cell BK614.out 1).trans rfl
     have hfz14_0:=blk_frozen BK614.out 0
     have hfz14_1:=blk_frozen BK614.out 1
     go_wp2_with (first|((with_reducible refine gate_dst (N:=20) rfl ?_);(try (refine gate_guard (by rfl) ?_;dsimp only));refine Kd.R_make (Kd.int .i64) _ 3 rfl (N:=20) rfl 59 _ _ rfl a0_0 rfl rfl Try.underlying59 (.int .i64 0) 8 info3 rfl (by decide) (by omega) 0 (ok:=fun _=>True) (okp:=fun _=>True) rfl (fun _ hk=>hk) trivial (of_decide_eq_true (by first|(with_reducible assumption)|assumption)) (Nat.le_trans (Nat.mul_le_mul_right _ (of_decide_eq_true (by first|(with_reducible assumption)|assumption):a0_0.toNat≤35184372088832)) (by omega)) (Below.refl _ _) (Nat.le_refl _) ?_;intro v617 w15 ho16 hb hg_ hnew_;clear hg_ hnew_;(first|rw [← Ny616.out] at ho16|(simp only [Int.reduceToNat] at ho16;rw [← Ny616.out] at ho16));have n0_:=Aside0.mk (Kd.R_lower ho16 (below_size (by repeat (first|(with_reducible first|exact HB.out|apply below_alloc|apply pw_below_drewN|apply below_drew1|refine below_set ?_ GE614.out)|exact HB.out))));have n1_:=Aside0.mk (blk_below (g:=gb614) (o:=.cells #[.int .i64 a0_0,.slice A0_1 l0_1.length c0_1] 30 (0,0)) (by (with_reducible repeat (first|refine blk_drewN ?_ _|refine blk_drew ?_|refine blk_alloc ?_ _));exact BK614.out) hb);have n2_:=Aside0.mk (below_step (by repeat (first|(with_reducible first|exact HB.out|apply below_alloc|apply pw_below_drewN|apply below_drew1|refine below_set ?_ GE614.out)|exact HB.out)) hb);clear BK614;clear HB;have HO618:=n0_;have BK614:=n1_;have HB:=n2_;clear n0_ n1_ n2_;clear hb ho16))
     go_loopg [6,23] kj2 (fun kq v6 v23 w'=>∃ (x5_2:List Int) (x6_2:List (List Int)) (x23_2:Int),v23=.int .i64 x23_2∧Aside0 (impl_Truth.l0 kq x5_2 x6_2 l1 (l1.length:Int) x23_2 a0_0 l0_1=some r)∧Aside0 (kq≤kj2)∧Aside0 (Kd.R (Kd.int .i64) 3 w' w.heap.size (fun _=>True) v617 x5_2)∧Aside0 (Kd.S (Kd.slice 3 (Kd.int .i64)) 59 w' w.heap.size (fun k_=>some k_ ≠ (v617:Value).ownBlock) v6 x6_2)∧Aside0 (w'.heap[gb614]?=some (.cells #[.int .i64 a0_0,(.slice A0_1 l0_1.length c0_1)] 30 (0,0)))∧Aside0 (Below w.heap.size w w'))
     case atStart=>exact ⟨(y616),(([]:List (List Int))),(0),(by first|rfl|(simp;done)|(simp [*];done)),H',⟨Nat.le_refl _⟩,⟨by (with_reducible repeat (first|apply Kd.R_alloc|apply Kd.R_drewN|apply Kd.R_drew));exact HO618.out⟩,⟨by first|exact Kd.S_nil _ _ _ _ _|exact Kd.N_nil _ _ _ _ _|exact Kd.V_nil _ _ _ _ _|exact Kd.Q_nil _ _ _ _ _|exact Kd.R_nil _ _ _ _ _⟩,⟨by (with_reducible repeat (first|refine blk_drewN ?_ _|refine blk_drew ?_|refine blk_alloc ?_ _));exact BK614.out⟩,⟨by repeat (first|(with_reducible first|exact HB.out|apply below_alloc|apply pw_below_drewN|apply below_drew1|refine below_set ?_ GE614.out)|exact HB.out)⟩⟩
     case round =>
      clear H'
      try clear c1
      try clear c2
      try clear p2
      try clear c5
      try clear c6
      try clear c6b0
      try clear c6b1
      try clear c11
      try clear c12
      try clear c12b0
      try clear c12b1
      try clear c13
      try clear c13b0
      try clear c13b1
      try clear hcz14_0
      try clear hcz14_1
      try clear hcz7_0
      try clear hcz7_1
      try clear hcz9_0
      try clear hcz9_1
      try clear hfz14_0
      try clear hfz14_1
      try clear hfz7_0
      try clear hfz7_1
      try clear hfz9_0
      try clear hfz9_1
      try clear p2
      obtain ⟨x5_2,x6_2,x23_2,rfl,HA,HK2,HO_5,HO_6,BK614,HB⟩:=hrel
      cases gk with
      | zero=>exact absurd HA.out (by simp [impl_Truth.l0])
      | succ k2 =>
       have H:=HA.out
       clear HA
       simp only [impl_Truth.l0] at H
       by_cases c17:x23_2<(l1.length:Int)
       ·rw [if_pos c17] at H
        have c17b0:decide (x23_2<(l1.length:Int))=true:=decide_eq_true c17
        clear c17
        by_cases c18:0≤x23_2
        ·rw [if_pos c18] at H
         have c18b0:decide (0≤x23_2)=true:=decide_eq_true c18
         clear c18
         by_cases c19:x23_2<(l1.length:Int)
         ·rw [if_pos c19] at H
          have c19b0:decide (x23_2<(l1.length:Int))=true:=decide_eq_true c19
          clear c19
          have HC20:=Aside0.mk H
          clear H
          have p619:0≤(x23_2:Int):=of_decide_eq_true (by first|(with_reducible assumption)|assumption)
          have q619:x23_2<(l1.length:Int):=of_decide_eq_true (by first|(with_reducible assumption)|assumption)
          obtain ⟨ad619,e619,hx619_0,hx619_1,hx619_2⟩:=at_T56 HR1.out x23_2 p619 q619
          cases e619
          replace hx619_0:=(HB.out.cell (World.block_lt_of_cell? w _ hx619_0)).trans hx619_0
          replace hx619_1:=(HB.out.cell (World.block_lt_of_cell? w _ hx619_1)).trans hx619_1
          replace hx619_2:=(HB.out.cell (World.block_lt_of_cell? w _ hx619_2)).trans hx619_2
          replace p619:=eq_true p619
          replace q619:=eq_true q619
          go_upto_region 8 with (first|((with_reducible refine gate_dst (N:=8) rfl ?_);(try (refine gate_guard (by rfl) ?_;dsimp only));refine box_event ?hg (N:=8) ?hd (cs:=#[.int .i64 0,.int .i64 0,.int .i64 0]) (t:=56) ?hr ?_;(case hd=>rfl);(case hg=>rfl);(case hr=>first|(go_simp;done)|(go_simp;rfl));intro gb620 hg w21 hbox hb;have n0_:=Aside0.mk (Kd.R_below (by (with_reducible repeat (first|apply Kd.R_alloc|apply Kd.R_drewN|apply Kd.R_drew));exact HO_5.out) hb);have n1_:=Aside0.mk (Kd.S_below (by (with_reducible repeat (first|apply Kd.S_alloc|apply Kd.S_drewN|apply Kd.S_drew));exact HO_6.out) hb);have n2_:=Aside0.mk (blk_below (g:=gb614) (o:=.cells #[.int .i64 a0_0,.slice A0_1 l0_1.length c0_1] 30 (0,0)) (by (with_reducible repeat (first|refine blk_drewN ?_ _|refine blk_drew ?_|refine blk_alloc ?_ _));exact BK614.out) hb);have n3_:=Aside0.mk (below_step (by repeat (first|(with_reducible first|exact HB.out|apply below_alloc|apply pw_below_drewN|apply below_drew1|refine below_set ?_ GE614.out)|exact HB.out)) hb);have n4_:=Aside0.mk (hbox);have n5_:=Aside0.mk ((by rw [hg];exact (below_size (by repeat (first|(with_reducible first|exact HB.out|apply below_alloc|apply pw_below_drewN|apply below_drew1|refine below_set ?_ GE614.out)|exact HB.out))):w.heap.size≤gb620));have n6_:=Aside0.mk ((by rw [hg];exact (below_size (by repeat (first|(with_reducible first|exact HB.out|apply below_alloc|apply pw_below_drewN|apply below_drew1|refine below_set ?_ GE614.out)|exact HB.out))):w.heap.size≤gb620));have n7_:=Aside0.mk ((by rw [hg];exact Nat.ne_of_lt (blk_lt (g:=gb614) (o:=.cells #[.int .i64 a0_0,.slice A0_1 l0_1.length c0_1] 30 (0,0)) (by (with_reducible repeat (first|refine blk_drewN ?_ _|refine blk_drew ?_|refine blk_alloc ?_ _));exact BK614.out)):gb614 ≠ gb620));have n8_:=Aside0.mk ((by rw [hg];exact Nat.ne_of_gt (blk_lt (g:=gb614) (o:=.cells #[.int .i64 a0_0,.slice A0_1 l0_1.length c0_1] 30 (0,0)) (by (with_reducible repeat (first|refine blk_drewN ?_ _|refine blk_drew ?_|refine blk_alloc ?_ _));exact BK614.out)):gb620 ≠ gb614));clear HO_5;clear HO_6;clear BK614;clear HB;have HO_5:=n0_;have HO_6:=n1_;have BK614:=n2_;have HB:=n3_;have BK620:=n4_;have GW620:=n5_;have GE620:=n6_;have NB614_620:=n7_;have NB620_614:=n8_;clear n0_ n1_ n2_ n3_ n4_ n5_ n6_ n7_ n8_;clear hb hbox hg;have hnb22:=NB620_614.out;have hnc22:=NB614_620.out;have hcz23_0:w21.cell? ⟨gb620,0,none⟩=some (.int .i64 0):=(blk_cell BK620.out 0).trans rfl;have hcz23_1:w21.cell? ⟨gb620,1,none⟩=some (.int .i64 0):=(blk_cell BK620.out 1).trans rfl;have hcz23_2:w21.cell? ⟨gb620,2,none⟩=some (.int .i64 0):=(blk_cell BK620.out 2).trans rfl;have hfz23_0:=blk_frozen BK620.out 0;have hfz23_1:=blk_frozen BK620.out 1;have hfz23_2:=blk_frozen BK620.out 2))
          (try simp only [Act.put,List.setIfInBounds_toArray,List.set_cons_zero,List.set_cons_succ])
          go_cut [34] (fun v34 wc=>∃ (kq:Nat) (x34_19:Bool),v34=.bool x34_19∧Aside0 (impl_Truth.j2 kq x5_2 x6_2 l1 (l1.length:Int) x23_2 x34_19 a0_0 l0_1 ((rd_T56 l1 x23_2).f0) ((rd_T56 l1 x23_2).f1) ((rd_T56 l1 x23_2).f2)=some r)∧Aside0 (kq≤k2)∧Aside0 (Kd.R (Kd.int .i64) 3 wc w.heap.size (fun _=>True) v617 x5_2)∧Aside0 (Kd.S (Kd.slice 3 (Kd.int .i64)) 59 wc w.heap.size (fun k_=>some k_ ≠ (v617:Value).ownBlock) u6 x6_2)∧Aside0 (wc.heap[gb614]?=some (.cells #[.int .i64 a0_0,(.slice A0_1 l0_1.length c0_1)] 30 (0,0)))∧Aside0 (wc.heap[gb620]?=some (.cells #[.int .i64 ((rd_T56 l1 x23_2).f0),.int .i64 ((rd_T56 l1 x23_2).f1),.int .i64 ((rd_T56 l1 x23_2).f2)] 56 (0,0)))∧Aside0 (Below w.heap.size w wc))
          case first =>
           have H:=HC20.out
           clear HC20
           replace H:=Option.bind_eq_some_iff.mp H
           obtain ⟨t621,A240,H⟩:=H
           replace H:(if t621=true then (impl_Truth.j2 k2 x5_2 x6_2 l1 (l1.length:Int) x23_2 (((rd_T56 l1 x23_2).f0)==1) a0_0 l0_1 ((rd_T56 l1 x23_2).f0) ((rd_T56 l1 x23_2).f1) ((rd_T56 l1 x23_2).f2)) else (impl_Truth.j2 k2 x5_2 x6_2 l1 (l1.length:Int) x23_2 false a0_0 l0_1 ((rd_T56 l1 x23_2).f0) ((rd_T56 l1 x23_2).f1) ((rd_T56 l1 x23_2).f2)))=some r:=H
           have A24:=Aside0.mk A240
           clear A240
           by_cases c25:t621=true
           ·subst c25
            have H1:(impl_Truth.j2 k2 x5_2 x6_2 l1 (l1.length:Int) x23_2 (((rd_T56 l1 x23_2).f0)==1) a0_0 l0_1 ((rd_T56 l1 x23_2).f0) ((rd_T56 l1 x23_2).f1) ((rd_T56 l1 x23_2).f2))=some r:=by rw [if_pos rfl] at H;exact H
            clear H
            have H:=H1
            clear H1
            have H':=Aside0.mk H
            clear H
            have hnb26:=NB614_620.out
            have hnc26:=NB620_614.out
            have hcz27_0:w21.cell? ⟨gb614,0,none⟩=some (.int .i64 a0_0):=(blk_cell BK614.out 0).trans rfl
            have hcz27_1:w21.cell? ⟨gb614,1,none⟩=some (.slice A0_1 l0_1.length c0_1):=(blk_cell BK614.out 1).trans rfl
            have hfz27_0:=blk_frozen BK614.out 0
            have hfz27_1:=blk_frozen BK614.out 1
            have hcz28_0:w21.cell? ⟨gb620,0,none⟩=some (.int .i64 0):=(blk_cell BK620.out 0).trans rfl
            have hcz28_1:w21.cell? ⟨gb620,1,none⟩=some (.int .i64 0):=(blk_cell BK620.out 1).trans rfl
            have hcz28_2:w21.cell? ⟨gb620,2,none⟩=some (.int .i64 0):=(blk_cell BK620.out 2).trans rfl
            have hfz28_0:=blk_frozen BK620.out 0
            have hfz28_1:=blk_frozen BK620.out 1
            have hfz28_2:=blk_frozen BK620.out 2
            go_wp2_with (first|((with_reducible refine gate_callee (f:=36) rfl ?_);refine goesL_ (some 29) rfl rfl Try.func36 (by kernel_rfl) rfl #[.agg #[.int .i64 a0_0,.slice A0_1 l0_1.length c0_1],.agg #[.int .i64 ((rd_T56 l1 x23_2).f0),.int .i64 ((rd_T56 l1 x23_2).f1),.int .i64 ((rd_T56 l1 x23_2).f2)]] rfl (by (try simp only [List.map_toArray,List.map_cons,List.map_nil]);first|done|rfl|(simp only [List.length_drop,List.length_take];rfl)) ?_;(with_reducible refine (impl_EventOk.calls k2 a0_0 _ _ l0_1 ((rd_T56 l1 x23_2).f0) ((rd_T56 l1 x23_2).f1) ((rd_T56 l1 x23_2).f2) true _ ?side1 ?side2 A24.out).mono ?_);(case side1=>exact Kd.C_below HR0_1.out (by repeat (first|(with_reducible first|exact HB.out|apply below_alloc|apply pw_below_drewN|apply below_drew1|refine below_set ?_ GE614.out|refine below_set ?_ GE620.out)|exact HB.out)));(case side2=>exact HC0_1.out);rintro e w29 ⟨rfl,hb⟩;refine ⟨_,rfl,?_⟩;have n0_:=Aside0.mk (Kd.R_below (by (with_reducible repeat (first|apply Kd.R_alloc|apply Kd.R_drewN|apply Kd.R_drew));exact (Kd.R_mono (Kd.R_far (p:=⟨gb620,2,none⟩) (Kd.R_far (p:=⟨gb620,1,none⟩) (Kd.R_far (p:=⟨gb620,0,none⟩) (Kd.R_types HO_5.out BK620.out (by decide)) (fun _ hk=>hk.2) (.int .i64 ((rd_T56 l1 x23_2).f0))) (fun _ hk=>hk.2) (.int .i64 ((rd_T56 l1 x23_2).f1))) (fun _ hk=>hk.2) (.int .i64 ((rd_T56 l1 x23_2).f2))) (fun _ h_=>h_.1))) hb);have n1_:=Aside0.mk (Kd.S_below (by (with_reducible repeat (first|apply Kd.S_alloc|apply Kd.S_drewN|apply Kd.S_drew));exact (Kd.S_mono (Kd.S_far (p:=⟨gb620,2,none⟩) (Kd.S_far (p:=⟨gb620,1,none⟩) (Kd.S_far (p:=⟨gb620,0,none⟩) (Kd.S_types HO_6.out BK620.out (by decide)) (fun _ hk=>hk.2) (.int .i64 ((rd_T56 l1 x23_2).f0))) (fun _ hk=>hk.2) (.int .i64 ((rd_T56 l1 x23_2).f1))) (fun _ hk=>hk.2) (.int .i64 ((rd_T56 l1 x23_2).f2))) (fun _ h_=>h_.1))) hb);have n2_:=Aside0.mk (blk_below (g:=gb614) (o:=.cells #[.int .i64 a0_0,.slice A0_1 l0_1.length c0_1] 30 (0,0)) (by (with_reducible repeat (first|refine blk_drewN ?_ _|refine blk_drew ?_|refine blk_alloc ?_ _));refine blk_far ?_ NB614_620.out _;(with_reducible repeat (first|refine blk_drewN ?_ _|refine blk_drew ?_|refine blk_alloc ?_ _));refine blk_far ?_ NB614_620.out _;(with_reducible repeat (first|refine blk_drewN ?_ _|refine blk_drew ?_|refine blk_alloc ?_ _));refine blk_far ?_ NB614_620.out _;(with_reducible repeat (first|refine blk_drewN ?_ _|refine blk_drew ?_|refine blk_alloc ?_ _));exact BK614.out) hb);have n3_:=Aside0.mk (blk_below (g:=gb620) (o:=.cells #[.int .i64 ((rd_T56 l1 x23_2).f0),.int .i64 ((rd_T56 l1 x23_2).f1),.int .i64 ((rd_T56 l1 x23_2).f2)] 56 (0,0)) (by (with_reducible repeat (first|refine blk_drewN ?_ _|refine blk_drew ?_|refine blk_alloc ?_ _));refine blk_put (cs:=#[.int .i64 ((rd_T56 l1 x23_2).f0),.int .i64 ((rd_T56 l1 x23_2).f1),.int .i64 0]) ?_ 2 _ rfl;(with_reducible repeat (first|refine blk_drewN ?_ _|refine blk_drew ?_|refine blk_alloc ?_ _));refine blk_put (cs:=#[.int .i64 ((rd_T56 l1 x23_2).f0),.int .i64 0,.int .i64 0]) ?_ 1 _ rfl;(with_reducible repeat (first|refine blk_drewN ?_ _|refine blk_drew ?_|refine blk_alloc ?_ _));refine blk_put (cs:=#[.int .i64 0,.int .i64 0,.int .i64 0]) ?_ 0 _ rfl;(with_reducible repeat (first|refine blk_drewN ?_ _|refine blk_drew ?_|refine blk_alloc ?_ _));exact BK620.out) hb);have n4_:=Aside0.mk (below_step (by repeat (first|(with_reducible first|exact HB.out|apply below_alloc|apply pw_below_drewN|apply below_drew1|refine below_set ?_ GE614.out|refine below_set ?_ GE620.out)|exact HB.out)) hb);clear HO_5;clear HO_6;clear BK614;clear BK620;clear HB;have HO_5:=n0_;have HO_6:=n1_;have BK614:=n2_;have BK620:=n3_;have HB:=n4_;clear n0_ n1_ n2_ n3_ n4_;(try clear hb);(try clear hb2);(try clear hk);(try clear hi);have hcz30_0:w29.cell? ⟨gb620,0,none⟩=some (.int .i64 ((rd_T56 l1 x23_2).f0)):=(blk_cell BK620.out 0).trans rfl;have hcz30_1:w29.cell? ⟨gb620,1,none⟩=some (.int .i64 ((rd_T56 l1 x23_2).f1)):=(blk_cell BK620.out 1).trans rfl;have hcz30_2:w29.cell? ⟨gb620,2,none⟩=some (.int .i64 ((rd_T56 l1 x23_2).f2)):=(blk_cell BK620.out 2).trans rfl;have hfz30_0:=blk_frozen BK620.out 0;have hfz30_1:=blk_frozen BK620.out 1;have hfz30_2:=blk_frozen BK620.out 2))
            go_meet
            case rel=>exact ⟨_,((((rd_T56 l1 x23_2).f0)==1)),(by first|rfl|(simp;done)|(simp [*];done)),H',⟨by have:=HJ2.out;have:=HK2.out;first|omega|exact Nat.le_refl _⟩,⟨by (with_reducible repeat (first|apply Kd.R_alloc|apply Kd.R_drewN|apply Kd.R_drew));exact HO_5.out⟩,⟨by (with_reducible repeat (first|apply Kd.S_alloc|apply Kd.S_drewN|apply Kd.S_drew));exact HO_6.out⟩,⟨by (with_reducible repeat (first|refine blk_drewN ?_ _|refine blk_drew ?_|refine blk_alloc ?_ _));exact BK614.out⟩,⟨by (with_reducible repeat (first|refine blk_drewN ?_ _|refine blk_drew ?_|refine blk_alloc ?_ _));exact BK620.out⟩,⟨by repeat (first|(with_reducible first|exact HB.out|apply below_alloc|apply pw_below_drewN|apply below_drew1|refine below_set ?_ GE614.out|refine below_set ?_ GE620.out)|exact HB.out)⟩⟩
           replace c25:=Bool.eq_false_iff.mpr c25
           subst c25
           have H1:(impl_Truth.j2 k2 x5_2 x6_2 l1 (l1.length:Int) x23_2 false a0_0 l0_1 ((rd_T56 l1 x23_2).f0) ((rd_T56 l1 x23_2).f1) ((rd_T56 l1 x23_2).f2))=some r:=by rw [if_neg (show ¬ (false=true) by decide)] at H;exact H
           clear H
           have H:=H1
           clear H1
           have H':=Aside0.mk H
           clear H
           have hnb31:=NB614_620.out
           have hnc31:=NB620_614.out
           have hcz32_0:w21.cell? ⟨gb614,0,none⟩=some (.int .i64 a0_0):=(blk_cell BK614.out 0).trans rfl
           have hcz32_1:w21.cell? ⟨gb614,1,none⟩=some (.slice A0_1 l0_1.length c0_1):=(blk_cell BK614.out 1).trans rfl
           have hfz32_0:=blk_frozen BK614.out 0
           have hfz32_1:=blk_frozen BK614.out 1
           have hcz33_0:w21.cell? ⟨gb620,0,none⟩=some (.int .i64 0):=(blk_cell BK620.out 0).trans rfl
           have hcz33_1:w21.cell? ⟨gb620,1,none⟩=some (.int .i64 0):=(blk_cell BK620.out 1).trans rfl
           have hcz33_2:w21.cell? ⟨gb620,2,none⟩=some (.int .i64 0):=(blk_cell BK620.out 2).trans rfl
           have hfz33_0:=blk_frozen BK620.out 0
           have hfz33_1:=blk_frozen BK620.out 1
           have hfz33_2:=blk_frozen BK620.out 2
           go_wp2_with (first|((with_reducible refine gate_callee (f:=36) rfl ?_);refine goesL_ (some 29) rfl rfl Try.func36 (by kernel_rfl) rfl #[.agg #[.int .i64 a0_0,.slice A0_1 l0_1.length c0_1],.agg #[.int .i64 ((rd_T56 l1 x23_2).f0),.int .i64 ((rd_T56 l1 x23_2).f1),.int .i64 ((rd_T56 l1 x23_2).f2)]] rfl (by (try simp only [List.map_toArray,List.map_cons,List.map_nil]);first|done|rfl|(simp only [List.length_drop,List.length_take];rfl)) ?_;(with_reducible refine (impl_EventOk.calls k2 a0_0 _ _ l0_1 ((rd_T56 l1 x23_2).f0) ((rd_T56 l1 x23_2).f1) ((rd_T56 l1 x23_2).f2) false _ ?side1 ?side2 A24.out).mono ?_);(case side1=>exact Kd.C_below HR0_1.out (by repeat (first|(with_reducible first|exact HB.out|apply below_alloc|apply pw_below_drewN|apply below_drew1|refine below_set ?_ GE614.out|refine below_set ?_ GE620.out)|exact HB.out)));(case side2=>exact HC0_1.out);rintro e w34 ⟨rfl,hb⟩;refine ⟨_,rfl,?_⟩;have n0_:=Aside0.mk (Kd.R_below (by (with_reducible repeat (first|apply Kd.R_alloc|apply Kd.R_drewN|apply Kd.R_drew));exact (Kd.R_mono (Kd.R_far (p:=⟨gb620,2,none⟩) (Kd.R_far (p:=⟨gb620,1,none⟩) (Kd.R_far (p:=⟨gb620,0,none⟩) (Kd.R_types HO_5.out BK620.out (by decide)) (fun _ hk=>hk.2) (.int .i64 ((rd_T56 l1 x23_2).f0))) (fun _ hk=>hk.2) (.int .i64 ((rd_T56 l1 x23_2).f1))) (fun _ hk=>hk.2) (.int .i64 ((rd_T56 l1 x23_2).f2))) (fun _ h_=>h_.1))) hb);have n1_:=Aside0.mk (Kd.S_below (by (with_reducible repeat (first|apply Kd.S_alloc|apply Kd.S_drewN|apply Kd.S_drew));exact (Kd.S_mono (Kd.S_far (p:=⟨gb620,2,none⟩) (Kd.S_far (p:=⟨gb620,1,none⟩) (Kd.S_far (p:=⟨gb620,0,none⟩) (Kd.S_types HO_6.out BK620.out (by decide)) (fun _ hk=>hk.2) (.int .i64 ((rd_T56 l1 x23_2).f0))) (fun _ hk=>hk.2) (.int .i64 ((rd_T56 l1 x23_2).f1))) (fun _ hk=>hk.2) (.int .i64 ((rd_T56 l1 x23_2).f2))) (fun _ h_=>h_.1))) hb);have n2_:=Aside0.mk (blk_below (g:=gb614) (o:=.cells #[.int .i64 a0_0,.slice A0_1 l0_1.length c0_1] 30 (0,0)) (by (with_reducible repeat (first|refine blk_drewN ?_ _|refine blk_drew ?_|refine blk_alloc ?_ _));refine blk_far ?_ NB614_620.out _;(with_reducible repeat (first|refine blk_drewN ?_ _|refine blk_drew ?_|refine blk_alloc ?_ _));refine blk_far ?_ NB614_620.out _;(with_reducible repeat (first|refine blk_drewN ?_ _|refine blk_drew ?_|refine blk_alloc ?_ _));refine blk_far ?_ NB614_620.out _;(with_reducible repeat (first|refine blk_drewN ?_ _|refine blk_drew ?_|refine blk_alloc ?_ _));exact BK614.out) hb);have n3_:=Aside0.mk (blk_below (g:=gb620) (o:=.cells #[.int .i64 ((rd_T56 l1 x23_2).f0),.int .i64 ((rd_T56 l1 x23_2).f1),.int .i64 ((rd_T56 l1 x23_2).f2)] 56 (0,0)) (by (with_reducible repeat (first|refine blk_drewN ?_ _|refine blk_drew ?_|refine blk_alloc ?_ _));refine blk_put (cs:=#[.int .i64 ((rd_T56 l1 x23_2).f0),.int .i64 ((rd_T56 l1 x23_2).f1),.int .i64 0]) ?_ 2 _ rfl;(with_reducible repeat (first|refine blk_drewN ?_ _|refine blk_drew ?_|refine blk_alloc ?_ _));refine blk_put (cs:=#[.int .i64 ((rd_T56 l1 x23_2).f0),.int .i64 0,.int .i64 0]) ?_ 1 _ rfl;(with_reducible repeat (first|refine blk_drewN ?_ _|refine blk_drew ?_|refine blk_alloc ?_ _));refine blk_put (cs:=#[.int .i64 0,.int .i64 0,.int .i64 0]) ?_ 0 _ rfl;(with_reducible repeat (first|refine blk_drewN ?_ _|refine blk_drew ?_|refine blk_alloc ?_ _));exact BK620.out) hb);have n4_:=Aside0.mk (below_step (by repeat (first|(with_reducible first|exact HB.out|apply below_alloc|apply pw_below_drewN|apply below_drew1|refine below_set ?_ GE614.out|refine below_set ?_ GE620.out)|exact HB.out)) hb);clear HO_5;clear HO_6;clear BK614;clear BK620;clear HB;have HO_5:=n0_;have HO_6:=n1_;have BK614:=n2_;have BK620:=n3_;have HB:=n4_;clear n0_ n1_ n2_ n3_ n4_;(try clear hb);(try clear hb2);(try clear hk);(try clear hi)))
           go_meet
           case rel=>exact ⟨_,(false),(by first|rfl|(simp;done)|(simp [*];done)),H',⟨by have:=HJ2.out;have:=HK2.out;first|omega|exact Nat.le_refl _⟩,⟨by exact HO_5.out⟩,⟨by exact HO_6.out⟩,⟨by exact BK614.out⟩,⟨by exact BK620.out⟩,⟨by exact HB.out⟩⟩
          case rest =>
           clear HC20
           try clear c1
           try clear c2
           try clear p2
           try clear c3
           try clear c5
           try clear c6
           try clear c6b0
           try clear c6b1
           try clear p6
           try clear q6
           try clear hx6
           try clear c11
           try clear c12
           try clear c12b0
           try clear c12b1
           try clear c13
           try clear c13b0
           try clear c13b1
           try clear c17
           try clear c17b0
           try clear c18
           try clear c18b0
           try clear c19
           try clear c19b0
           try clear c22
           try clear c25
           try clear c26
           try clear c31
           try clear hcz14_0
           try clear hcz14_1
           try clear hcz23_0
           try clear hcz23_1
           try clear hcz23_2
           try clear hcz27_0
           try clear hcz27_1
           try clear hcz28_0
           try clear hcz28_1
           try clear hcz28_2
           try clear hcz30_0
           try clear hcz30_1
           try clear hcz30_2
           try clear hcz32_0
           try clear hcz32_1
           try clear hcz33_0
           try clear hcz33_1
           try clear hcz33_2
           try clear hcz7_0
           try clear hcz7_1
           try clear hcz9_0
           try clear hcz9_1
           try clear hfz14_0
           try clear hfz14_1
           try clear hfz23_0
           try clear hfz23_1
           try clear hfz23_2
           try clear hfz27_0
           try clear hfz27_1
           try clear hfz28_0
           try clear hfz28_1
           try clear hfz28_2
           try clear hfz30_0
           try clear hfz30_1
           try clear hfz30_2
           try clear hfz32_0
           try clear hfz32_1
           try clear hfz33_0
           try clear hfz33_1
           try clear hfz33_2
           try clear hfz7_0
           try clear hfz7_1
           try clear hfz9_0
           try clear hfz9_1
           try clear hx619_0
           try clear hx619_1
           try clear hx619_2
           try clear p2
           try clear p619
           try clear q619
           obtain ⟨kq,x34_19,rfl,HA,HJ19,HO_5,HO_6,BK614,BK620,HB⟩:=hcut
           cases kq with
           | zero=>exact absurd HA.out (by simp [impl_Truth.j2])
           | succ kj19 =>
            have H:=HA.out
            clear HA
            simp only [impl_Truth.j2] at H
            by_cases c35:x34_19=true
            ·subst c35
             have H1:(if 0≤((rd_T56 l1 x23_2).f1) then (if ((rd_T56 l1 x23_2).f1)<(l0_1.length:Int) then (if ((rd_T88 l0_1 ((rd_T56 l1 x23_2).f1)).f0) ≥ 0 then (if 0≤((rd_T88 l0_1 ((rd_T56 l1 x23_2).f1)).f0) then (if ((rd_T88 l0_1 ((rd_T56 l1 x23_2).f1)).f0)<(x5_2.length:Int) then ((some (x5_2.set (((rd_T88 l0_1 ((rd_T56 l1 x23_2).f1)).f0):Int).toNat (wrap64 ((rd x5_2 ((rd_T88 l0_1 ((rd_T56 l1 x23_2).f1)).f0)) - ((rd_T56 l1 x23_2).f2))):List Int)).bind fun y625=>(if ((rd_T88 l0_1 ((rd_T56 l1 x23_2).f1)).f1) ≥ 0 then (if 0≤((rd_T88 l0_1 ((rd_T56 l1 x23_2).f1)).f1) then (if ((rd_T88 l0_1 ((rd_T56 l1 x23_2).f1)).f1)<(x5_2.length:Int) then ((some (y625.set (((rd_T88 l0_1 ((rd_T56 l1 x23_2).f1)).f1):Int).toNat (wrap64 ((rd y625 ((rd_T88 l0_1 ((rd_T56 l1 x23_2).f1)).f1))+((rd_T56 l1 x23_2).f2))):List Int)).bind fun y627=>((slices_Clone_int_int.f y627).bind fun t628=>(if x6_2.length<5864062014805 then (impl_Truth.l0 kj19 y627 (x6_2 ++ [t628]) l1 (l1.length:Int) (wrap64 (x23_2+1)) a0_0 l0_1) else (none)))) else (none)) else (none)) else ((slices_Clone_int_int.f y625).bind fun t634=>(if x6_2.length<5864062014805 then (impl_Truth.l0 kj19 y625 (x6_2 ++ [t634]) l1 (l1.length:Int) (wrap64 (x23_2+1)) a0_0 l0_1) else (none))))) else (none)) else (none)) else (if ((rd_T88 l0_1 ((rd_T56 l1 x23_2).f1)).f1) ≥ 0 then (if 0≤((rd_T88 l0_1 ((rd_T56 l1 x23_2).f1)).f1) then (if ((rd_T88 l0_1 ((rd_T56 l1 x23_2).f1)).f1)<(x5_2.length:Int) then ((some (x5_2.set (((rd_T88 l0_1 ((rd_T56 l1 x23_2).f1)).f1):Int).toNat (wrap64 ((rd x5_2 ((rd_T88 l0_1 ((rd_T56 l1 x23_2).f1)).f1))+((rd_T56 l1 x23_2).f2))):List Int)).bind fun y641=>((slices_Clone_int_int.f y641).bind fun t642=>(if x6_2.length<5864062014805 then (impl_Truth.l0 kj19 y641 (x6_2 ++ [t642]) l1 (l1.length:Int) (wrap64 (x23_2+1)) a0_0 l0_1) else (none)))) else (none)) else (none)) else ((slices_Clone_int_int.f x5_2).bind fun t648=>(if x6_2.length<5864062014805 then (impl_Truth.l0 kj19 x5_2 (x6_2 ++ [t648]) l1 (l1.length:Int) (wrap64 (x23_2+1)) a0_0 l0_1) else (none))))) else (none)) else (none))=some r:=by rw [if_pos rfl] at H;exact H
             clear H
             have H:=H1
             clear H1
             by_cases c36:0≤((rd_T56 l1 x23_2).f1)
             ·rw [if_pos c36] at H
              have c36b0:decide (0≤((rd_T56 l1 x23_2).f1))=true:=decide_eq_true c36
              clear c36
              by_cases c37:((rd_T56 l1 x23_2).f1)<(l0_1.length:Int)
              ·rw [if_pos c37] at H
               have c37b0:decide (((rd_T56 l1 x23_2).f1)<(l0_1.length:Int))=true:=decide_eq_true c37
               clear c37
               by_cases c38:((rd_T88 l0_1 ((rd_T56 l1 x23_2).f1)).f0) ≥ 0
               ·rw [if_pos c38] at H
                have c38b0:decide (0≤((rd_T88 l0_1 ((rd_T56 l1 x23_2).f1)).f0))=true:=decide_eq_true c38
                clear c38
                by_cases c39:0≤((rd_T88 l0_1 ((rd_T56 l1 x23_2).f1)).f0)
                ·rw [if_pos c39] at H
                 have c39b0:decide (0≤((rd_T88 l0_1 ((rd_T56 l1 x23_2).f1)).f0))=true:=decide_eq_true c39
                 clear c39
                 by_cases c40:((rd_T88 l0_1 ((rd_T56 l1 x23_2).f1)).f0)<(x5_2.length:Int)
                 ·rw [if_pos c40] at H
                  have c40b0:decide (((rd_T88 l0_1 ((rd_T56 l1 x23_2).f1)).f0)<(x5_2.length:Int))=true:=decide_eq_true c40
                  clear c40
                  obtain ⟨y625,hy625⟩:∃ y_:List Int,y_=(x5_2.set (((rd_T88 l0_1 ((rd_T56 l1 x23_2).f1)).f0):Int).toNat (wrap64 ((rd x5_2 ((rd_T88 l0_1 ((rd_T56 l1 x23_2).f1)).f0)) - ((rd_T56 l1 x23_2).f2)))):=⟨_,rfl⟩
                  replace H:(if ((rd_T88 l0_1 ((rd_T56 l1 x23_2).f1)).f1) ≥ 0 then (if 0≤((rd_T88 l0_1 ((rd_T56 l1 x23_2).f1)).f1) then (if ((rd_T88 l0_1 ((rd_T56 l1 x23_2).f1)).f1)<(x5_2.length:Int) then ((some (y625.set (((rd_T88 l0_1 ((rd_T56 l1 x23_2).f1)).f1):Int).toNat (wrap64 ((rd y625 ((rd_T88 l0_1 ((rd_T56 l1 x23_2).f1)).f1))+((rd_T56 l1 x23_2).f2))):List Int)).bind fun y627=>((slices_Clone_int_int.f y627).bind fun t628=>(if x6_2.length<5864062014805 then (impl_Truth.l0 kj19 y627 (x6_2 ++ [t628]) l1 (l1.length:Int) (wrap64 (x23_2+1)) a0_0 l0_1) else (none)))) else (none)) else (none)) else ((slices_Clone_int_int.f y625).bind fun t634=>(if x6_2.length<5864062014805 then (impl_Truth.l0 kj19 y625 (x6_2 ++ [t634]) l1 (l1.length:Int) (wrap64 (x23_2+1)) a0_0 l0_1) else (none))))=some r:=by first|(rw [hy625];with_reducible exact H)|(have H2_:=(Option.bind_some _ _).symm.trans H;rw [hy625];with_reducible exact H2_)|(have H2_:=(Option.bind_some _ _).symm.trans H;with_reducible exact H2_)|with_reducible exact H|(rw [hy625];exact H)|exact H
                  have Ny625:=Aside0.mk hy625
                  clear hy625
                  by_cases c42:((rd_T88 l0_1 ((rd_T56 l1 x23_2).f1)).f1) ≥ 0
                  ·rw [if_pos c42] at H
                   have c42b0:decide (0≤((rd_T88 l0_1 ((rd_T56 l1 x23_2).f1)).f1))=true:=decide_eq_true c42
                   clear c42
                   by_cases c43:0≤((rd_T88 l0_1 ((rd_T56 l1 x23_2).f1)).f1)
                   ·rw [if_pos c43] at H
                    have c43b0:decide (0≤((rd_T88 l0_1 ((rd_T56 l1 x23_2).f1)).f1))=true:=decide_eq_true c43
                    clear c43
                    by_cases c44:((rd_T88 l0_1 ((rd_T56 l1 x23_2).f1)).f1)<(x5_2.length:Int)
                    ·rw [if_pos c44] at H
                     have c44b0:decide (((rd_T88 l0_1 ((rd_T56 l1 x23_2).f1)).f1)<(x5_2.length:Int))=true:=decide_eq_true c44
                     clear c44
                     obtain ⟨y627,hy627⟩:∃ y_:List Int,y_=(y625.set (((rd_T88 l0_1 ((rd_T56 l1 x23_2).f1)).f1):Int).toNat (wrap64 ((rd y625 ((rd_T88 l0_1 ((rd_T56 l1 x23_2).f1)).f1))+((rd_T56 l1 x23_2).f2)))):=⟨_,rfl⟩
                     replace H:((slices_Clone_int_int.f y627).bind fun t628=>(if x6_2.length<5864062014805 then (impl_Truth.l0 kj19 y627 (x6_2 ++ [t628]) l1 (l1.length:Int) (wrap64 (x23_2+1)) a0_0 l0_1) else (none)))=some r:=by first|(rw [hy627];with_reducible exact H)|(have H2_:=(Option.bind_some _ _).symm.trans H;rw [hy627];with_reducible exact H2_)|(have H2_:=(Option.bind_some _ _).symm.trans H;with_reducible exact H2_)|with_reducible exact H|(rw [hy627];exact H)|exact H
                     have Ny627:=Aside0.mk hy627
                     clear hy627
                     replace H:=Option.bind_eq_some_iff.mp H
                     obtain ⟨t628,A460,H⟩:=H
                     replace H:(if x6_2.length<5864062014805 then (impl_Truth.l0 kj19 y627 (x6_2 ++ [t628]) l1 (l1.length:Int) (wrap64 (x23_2+1)) a0_0 l0_1) else (none))=some r:=H
                     have A46:=Aside0.mk A460
                     clear A460
                     by_cases c47:x6_2.length<5864062014805
                     ·rw [if_pos c47] at H
                      have LMc47:=Aside0.mk c47
                      clear c47
                      obtain ⟨y631,hy631⟩:∃ y_:List (List Int),y_=(x6_2 ++ [t628]):=⟨_,rfl⟩
                      replace H:(impl_Truth.l0 kj19 y627 y631 l1 (l1.length:Int) (wrap64 (x23_2+1)) a0_0 l0_1)=some r:=by first|(rw [hy631];with_reducible exact H)|(have H2_:=(Option.bind_some _ _).symm.trans H;rw [hy631];with_reducible exact H2_)|(have H2_:=(Option.bind_some _ _).symm.trans H;with_reducible exact H2_)|with_reducible exact H|(rw [hy631];exact H)|exact H
                      have Ny631:=Aside0.mk hy631
                      clear hy631
                      have H':=Aside0.mk H
                      clear H
                      have hnb48:=NB614_620.out
                      have hnc48:=NB620_614.out
                      have hcz49_0:wc.cell? ⟨gb614,0,none⟩=some (.int .i64 a0_0):=(blk_cell BK614.out 0).trans rfl
                      have hcz49_1:wc.cell? ⟨gb614,1,none⟩=some (.slice A0_1 l0_1.length c0_1):=(blk_cell BK614.out 1).trans rfl
                      have hfz49_0:=blk_frozen BK614.out 0
                      have hfz49_1:=blk_frozen BK614.out 1
                      have hcz50_0:wc.cell? ⟨gb620,0,none⟩=some (.int .i64 ((rd_T56 l1 x23_2).f0)):=(blk_cell BK620.out 0).trans rfl
                      have hcz50_1:wc.cell? ⟨gb620,1,none⟩=some (.int .i64 ((rd_T56 l1 x23_2).f1)):=(blk_cell BK620.out 1).trans rfl
                      have hcz50_2:wc.cell? ⟨gb620,2,none⟩=some (.int .i64 ((rd_T56 l1 x23_2).f2)):=(blk_cell BK620.out 2).trans rfl
                      have hfz50_0:=blk_frozen BK620.out 0
                      have hfz50_1:=blk_frozen BK620.out 1
                      have hfz50_2:=blk_frozen BK620.out 2
                      have p622:0≤(((rd_T56 l1 x23_2).f1):Int):=of_decide_eq_true (by first|(with_reducible assumption)|assumption)
                      have q622:((rd_T56 l1 x23_2).f1)<(l0_1.length:Int):=of_decide_eq_true (by first|(with_reducible assumption)|assumption)
                      obtain ⟨ad622,e622,hx622_0,hx622_1⟩:=at_T88 HR0_1.out ((rd_T56 l1 x23_2).f1) p622 q622
                      cases e622
                      replace hx622_0:=(HB.out.cell (World.block_lt_of_cell? w _ hx622_0)).trans hx622_0
                      replace hx622_1:=(HB.out.cell (World.block_lt_of_cell? w _ hx622_1)).trans hx622_1
                      replace p622:=eq_true p622
                      replace q622:=eq_true q622
                      try go_wp2_with (first|((with_reducible refine gate_dst (N:=9) rfl ?_);(try (refine gate_guard (by rfl) ?_;dsimp only));refine box_event ?hg (N:=9) ?hd (cs:=#[.int .i64 0,.int .i64 0]) (t:=88) ?hr ?_;(case hd=>rfl);(case hg=>rfl);(case hr=>first|(go_simp;done)|(go_simp;rfl));intro gb623 hg w51 hbox hb;have n0_:=Aside0.mk (Kd.R_below (by exact HO_5.out) hb);have n1_:=Aside0.mk (Kd.S_below (by exact HO_6.out) hb);have n2_:=Aside0.mk (blk_below (g:=gb614) (o:=.cells #[.int .i64 a0_0,.slice (some ad622) l0_1.length c0_1] 30 (0,0)) (by exact BK614.out) hb);have n3_:=Aside0.mk (blk_below (g:=gb620) (o:=.cells #[.int .i64 ((rd_T56 l1 x23_2).f0),.int .i64 ((rd_T56 l1 x23_2).f1),.int .i64 ((rd_T56 l1 x23_2).f2)] 56 (0,0)) (by exact BK620.out) hb);have n4_:=Aside0.mk (below_step (by exact HB.out) hb);have n5_:=Aside0.mk (hbox);have n6_:=Aside0.mk ((by rw [hg];exact (below_size (by exact HB.out)):w.heap.size≤gb623));have n7_:=Aside0.mk ((by rw [hg];exact (below_size (by exact HB.out)):w.heap.size≤gb623));have n8_:=Aside0.mk ((by rw [hg];exact Nat.ne_of_lt (blk_lt (g:=gb614) (o:=.cells #[.int .i64 a0_0,.slice (some ad622) l0_1.length c0_1] 30 (0,0)) (by exact BK614.out)):gb614 ≠ gb623));have n9_:=Aside0.mk ((by rw [hg];exact Nat.ne_of_gt (blk_lt (g:=gb614) (o:=.cells #[.int .i64 a0_0,.slice (some ad622) l0_1.length c0_1] 30 (0,0)) (by exact BK614.out)):gb623 ≠ gb614));have n10_:=Aside0.mk ((by rw [hg];exact Nat.ne_of_lt (blk_lt (g:=gb620) (o:=.cells #[.int .i64 ((rd_T56 l1 x23_2).f0),.int .i64 ((rd_T56 l1 x23_2).f1),.int .i64 ((rd_T56 l1 x23_2).f2)] 56 (0,0)) (by exact BK620.out)):gb620 ≠ gb623));have n11_:=Aside0.mk ((by rw [hg];exact Nat.ne_of_gt (blk_lt (g:=gb620) (o:=.cells #[.int .i64 ((rd_T56 l1 x23_2).f0),.int .i64 ((rd_T56 l1 x23_2).f1),.int .i64 ((rd_T56 l1 x23_2).f2)] 56 (0,0)) (by exact BK620.out)):gb623 ≠ gb620));clear HO_5;clear HO_6;clear BK614;clear BK620;clear HB;have HO_5:=n0_;have HO_6:=n1_;have BK614:=n2_;have BK620:=n3_;have HB:=n4_;have BK623:=n5_;have GW623:=n6_;have GE623:=n7_;have NB614_623:=n8_;have NB623_614:=n9_;have NB620_623:=n10_;have NB623_620:=n11_;clear n0_ n1_ n2_ n3_ n4_ n5_ n6_ n7_ n8_ n9_ n10_ n11_;clear hb hbox hg;have hnb52:=NB623_614.out;have hnc52:=NB614_623.out;have hnb53:=NB623_620.out;have hnc53:=NB620_623.out;have hcz54_0:w51.cell? ⟨gb623,0,none⟩=some (.int .i64 0):=(blk_cell BK623.out 0).trans rfl;have hcz54_1:w51.cell? ⟨gb623,1,none⟩=some (.int .i64 0):=(blk_cell BK623.out 1).trans rfl;have hfz54_0:=blk_frozen BK623.out 0;have hfz54_1:=blk_frozen BK623.out 1))
                      have n0_:Aside0 (Kd.R (Kd.int .i64) 3 ((w51.setCell ⟨gb623,0,none⟩ (.int .i64 ((rd_T88 l0_1 ((rd_T56 l1 x23_2).f1)).f0))).setCell ⟨gb623,1,none⟩ (.int .i64 ((rd_T88 l0_1 ((rd_T56 l1 x23_2).f1)).f1))) w.heap.size (fun _=>True) v617 x5_2):=⟨by exact Kd.R_mono (Kd.R_far (p:=⟨gb623,1,none⟩) (Kd.R_far (p:=⟨gb623,0,none⟩) (Kd.R_types HO_5.out BK623.out (by decide)) (fun _ hk=>hk.2) (.int .i64 ((rd_T88 l0_1 ((rd_T56 l1 x23_2).f1)).f0))) (fun _ hk=>hk.2) (.int .i64 ((rd_T88 l0_1 ((rd_T56 l1 x23_2).f1)).f1))) (fun _ hk=>trivial)⟩
                      have n1_:Aside0 (Kd.S (Kd.slice 3 (Kd.int .i64)) 59 ((w51.setCell ⟨gb623,0,none⟩ (.int .i64 ((rd_T88 l0_1 ((rd_T56 l1 x23_2).f1)).f0))).setCell ⟨gb623,1,none⟩ (.int .i64 ((rd_T88 l0_1 ((rd_T56 l1 x23_2).f1)).f1))) w.heap.size (fun k_=>some k_ ≠ (v617:Value).ownBlock) u6 x6_2):=⟨by exact Kd.S_mono (Kd.S_far (p:=⟨gb623,1,none⟩) (Kd.S_far (p:=⟨gb623,0,none⟩) (Kd.S_types HO_6.out BK623.out (by decide)) (fun _ hk=>hk.2) (.int .i64 ((rd_T88 l0_1 ((rd_T56 l1 x23_2).f1)).f0))) (fun _ hk=>hk.2) (.int .i64 ((rd_T88 l0_1 ((rd_T56 l1 x23_2).f1)).f1))) (fun _ hk=>hk.1)⟩
                      have n2_:Aside0 (((w51.setCell ⟨gb623,0,none⟩ (.int .i64 ((rd_T88 l0_1 ((rd_T56 l1 x23_2).f1)).f0))).setCell ⟨gb623,1,none⟩ (.int .i64 ((rd_T88 l0_1 ((rd_T56 l1 x23_2).f1)).f1))).heap[gb614]?=some (.cells #[.int .i64 a0_0,.slice (some ad622) l0_1.length c0_1] 30 (0,0))):=⟨by refine blk_far ?_ NB614_623.out _;refine blk_far ?_ NB614_623.out _;exact BK614.out⟩
                      have n3_:Aside0 (((w51.setCell ⟨gb623,0,none⟩ (.int .i64 ((rd_T88 l0_1 ((rd_T56 l1 x23_2).f1)).f0))).setCell ⟨gb623,1,none⟩ (.int .i64 ((rd_T88 l0_1 ((rd_T56 l1 x23_2).f1)).f1))).heap[gb620]?=some (.cells #[.int .i64 ((rd_T56 l1 x23_2).f0),.int .i64 ((rd_T56 l1 x23_2).f1),.int .i64 ((rd_T56 l1 x23_2).f2)] 56 (0,0))):=⟨by refine blk_far ?_ NB620_623.out _;refine blk_far ?_ NB620_623.out _;exact BK620.out⟩
                      have n4_:Aside0 (((w51.setCell ⟨gb623,0,none⟩ (.int .i64 ((rd_T88 l0_1 ((rd_T56 l1 x23_2).f1)).f0))).setCell ⟨gb623,1,none⟩ (.int .i64 ((rd_T88 l0_1 ((rd_T56 l1 x23_2).f1)).f1))).heap[gb623]?=some (.cells #[.int .i64 ((rd_T88 l0_1 ((rd_T56 l1 x23_2).f1)).f0),.int .i64 ((rd_T88 l0_1 ((rd_T56 l1 x23_2).f1)).f1)] 88 (0,0))):=⟨by refine blk_put (cs:=#[.int .i64 ((rd_T88 l0_1 ((rd_T56 l1 x23_2).f1)).f0),.int .i64 0]) ?_ 1 _ rfl;refine blk_put (cs:=#[.int .i64 0,.int .i64 0]) ?_ 0 _ rfl;exact BK623.out⟩
                      have n5_:Aside0 (Below w.heap.size w ((w51.setCell ⟨gb623,0,none⟩ (.int .i64 ((rd_T88 l0_1 ((rd_T56 l1 x23_2).f1)).f0))).setCell ⟨gb623,1,none⟩ (.int .i64 ((rd_T88 l0_1 ((rd_T56 l1 x23_2).f1)).f1)))):=⟨by repeat (first|(with_reducible first|exact HB.out|apply below_alloc|apply pw_below_drewN|apply below_drew1|refine below_set ?_ GE614.out|refine below_set ?_ GE620.out|refine below_set ?_ GE623.out)|exact HB.out)⟩
                      (try clear HO_5)
                      (try clear HO_6)
                      (try clear BK614)
                      (try clear BK620)
                      (try clear BK623)
                      (try clear HB)
                      generalize ((w51.setCell ⟨gb623,0,none⟩ (.int .i64 ((rd_T88 l0_1 ((rd_T56 l1 x23_2).f1)).f0))).setCell ⟨gb623,1,none⟩ (.int .i64 ((rd_T88 l0_1 ((rd_T56 l1 x23_2).f1)).f1)))=w55 at n0_ n1_ n2_ n3_ n4_ n5_ ⊢
                      have HO_5:=n0_
                      have HO_6:=n1_
                      have BK614:=n2_
                      have BK620:=n3_
                      have BK623:=n4_
                      have HB:=n5_
                      clear n0_ n1_ n2_ n3_ n4_ n5_
                      have n0_:=Aside0.mk (Kd.R_drew HO_5.out)
                      have n1_:=Aside0.mk (Kd.S_drew HO_6.out)
                      have n2_:=Aside0.mk (blk_drew BK614.out)
                      have n3_:=Aside0.mk (blk_drew BK620.out)
                      have n4_:=Aside0.mk (blk_drew BK623.out)
                      have n5_:=Aside0.mk (below_drew1 HB.out)
                      clear HO_5
                      clear HO_6
                      clear BK614
                      clear BK620
                      clear BK623
                      clear HB
                      have HO_5:=n0_
                      have HO_6:=n1_
                      have BK614:=n2_
                      have BK620:=n3_
                      have BK623:=n4_
                      have HB:=n5_
                      clear n0_ n1_ n2_ n3_ n4_ n5_
                      obtain ⟨Ao57,co57,eo57⟩:=Kd.R_slice HO_5.out
                      (first|subst eo57|(injection eo57 with f1_ f2_ f3_;have f4_:=f1_.symm;have f5_:=f3_.symm;clear f1_ f2_ f3_;subst f4_;subst f5_))
                      have p624:0≤(((rd_T88 l0_1 ((rd_T56 l1 x23_2).f1)).f0):Int):=of_decide_eq_true (by first|(with_reducible assumption)|assumption)
                      have q624:((rd_T88 l0_1 ((rd_T56 l1 x23_2).f1)).f0)<(x5_2.length:Int):=of_decide_eq_true (by first|(with_reducible assumption)|assumption)
                      obtain ⟨ad624,e624,hx624_0⟩:=Kd.at_int (Kd.R_reads' HO_5.out).2.2 ((rd_T88 l0_1 ((rd_T56 l1 x23_2).f1)).f0) p624 q624
                      cases e624
                      replace p624:=eq_true p624
                      replace q624:=eq_true q624
                      have p41:0≤(((rd_T88 l0_1 ((rd_T56 l1 x23_2).f1)).f0):Int):=of_decide_eq_true (by first|(with_reducible assumption)|assumption)
                      have q41:(((rd_T88 l0_1 ((rd_T56 l1 x23_2).f1)).f0):Int)<((x5_2.length:Int):Int):=of_decide_eq_true (by first|(with_reducible assumption)|assumption)
                      obtain ⟨go41,co41,eo41,gb41,gl41,cl41,HG41⟩:=Kd.R_form HO_5.out (by omega)
                      (first|cases eo41|(injection eo41 with ea_ en_ ec_;(first|subst ea_|(injection ea_ with ea_;subst ea_));subst ec_;clear en_))
                      have GB41:=Aside0.mk gb41
                      have GG41:=Aside0.mk HG41
                      clear gb41 gl41 HG41
                      (first|simp only [add_plain] at hx624_0|skip)
                      obtain ⟨hx41_0,hf41_0⟩:=Kd.R_celln 0 HO_5.out (((rd_T88 l0_1 ((rd_T56 l1 x23_2).f1)).f0):Int) p41 q41
                      replace p41:=eq_true p41
                      replace q41:=eq_true q41
                      have HP58:=Kd.R_putn HO_5.out (((rd_T88 l0_1 ((rd_T56 l1 x23_2).f1)).f0):Int) (wrap64 ((rd x5_2 ((rd_T88 l0_1 ((rd_T56 l1 x23_2).f1)).f0)) - ((rd_T56 l1 x23_2).f2)))
                      rw [← Ny625.out] at HP58
                      have HQ58:=Aside0.mk HP58
                      clear HP58
                      refine start_ (n:=10) (S:=fun w'=>w'.cell? ⟨gb623,0,none⟩=some (.int .i64 ((rd_T88 l0_1 ((rd_T56 l1 x23_2).f1)).f0))∧w'.cell? ⟨gb623,1,none⟩=some (.int .i64 ((rd_T88 l0_1 ((rd_T56 l1 x23_2).f1)).f1))∧w'.cell? ⟨gb620,0,none⟩=some (.int .i64 ((rd_T56 l1 x23_2).f0))∧w'.cell? ⟨gb620,1,none⟩=some (.int .i64 ((rd_T56 l1 x23_2).f1))∧w'.cell? ⟨gb620,2,none⟩=some (.int .i64 ((rd_T56 l1 x23_2).f2))∧w'.cell? ⟨go41,(((rd_T88 l0_1 ((rd_T56 l1 x23_2).f1)).f0)).toNat,none⟩=some (.int .i64 (rd x5_2 ((rd_T88 l0_1 ((rd_T56 l1 x23_2).f1)).f0)))) (ds:=[9]) #[false,false,false,false,false,false,false,false,false,false] (by kernel_rfl) rfl rfl ⟨(blk_cell BK623.out 0).trans rfl,(blk_cell BK623.out 1).trans rfl,(blk_cell BK620.out 0).trans rfl,(blk_cell BK620.out 1).trans rfl,(blk_cell BK620.out 2).trans rfl,hx624_0⟩ (fun hHeld=>?_);refine with_tabW impl_Truth.tab11 impl_Truth.bits11 (fun HT_ HW_=>?_)
                      generalize w55.drew=w56 at HO_5 HO_6 BK614 BK620 BK623 HB GG41 HQ58 hf41_0 hx41_0 hx624_0 hHeld ⊢
                      refine pure_ (i:=0) (N:=some 44) (v:=?_) (a':=?_) #[true,false,false,false,false,false,false,false,false,false] rfl rfl (any_of HT_.out (by kernel_rfl)) (fun _ _ _ h=>h) (Or.inl ⟨by rfl,?_⟩) ?_ ?_
                      rotate_left
                      ·intro w'
                       go_simp
                       with_reducible rfl
                      rotate_left
                      ·simp only [Act.put,List.setIfInBounds_toArray,List.set_cons_zero,List.set_cons_succ,i64_w,i32_w]
                       rfl
                      refine pure_ (i:=1) (N:=some 45) (v:=?_) (a':=?_) #[true,true,false,false,false,false,false,false,false,false] rfl rfl (any_of HT_.out (by kernel_rfl)) (fun _ _ _ h=>h) (Or.inl ⟨by rfl,?_⟩) ?_ ?_
                      rotate_left
                      ·intro w'
                       go_simp
                       with_reducible rfl
                      rotate_left
                      ·simp only [Act.put,List.setIfInBounds_toArray,List.set_cons_zero,List.set_cons_succ,i64_w,i32_w]
                       rfl
                      refine pure_ (i:=5) (N:=some 49) (v:=?_) (a':=?_) #[true,true,false,false,false,true,false,false,false,false] rfl rfl (any_of HT_.out (by kernel_rfl)) (fun _ _ _ h=>h) (Or.inl ⟨by rfl,?_⟩) ?_ ?_
                      rotate_left
                      ·intro w'
                       go_simp
                       with_reducible rfl
                      rotate_left
                      ·simp only [Act.put,List.setIfInBounds_toArray,List.set_cons_zero,List.set_cons_succ,i64_w,i32_w]
                       rfl
                      refine take_ (i:=2) (N:=some 46) (v:=?_) (a':=?_) #[true,true,true,false,false,true,false,false,false,false] rfl rfl (take_ofW HT_.out HW_.out (by kernel_rfl)) (fun _ _ _ h=>h) (Or.inl ⟨by rfl,?_⟩) hHeld ?_ ?_
                      rotate_left
                      ·rintro w' ⟨s0,s1,s2,s3,s4,s5⟩
                       go_simp
                       with_reducible rfl
                      rotate_left
                      ·simp only [Act.put,List.setIfInBounds_toArray,List.set_cons_zero,List.set_cons_succ,i64_w,i32_w]
                       rfl
                      refine pure_ (i:=3) (N:=some 47) (v:=?_) (a':=?_) #[true,true,true,true,false,true,false,false,false,false] rfl rfl (any_of HT_.out (by kernel_rfl)) (fun _ _ _ h=>h) (Or.inl ⟨by rfl,?_⟩) ?_ ?_
                      rotate_left
                      ·intro w'
                       go_simp
                       with_reducible rfl
                      rotate_left
                      ·simp only [Act.put,List.setIfInBounds_toArray,List.set_cons_zero,List.set_cons_succ,i64_w,i32_w]
                       rfl
                      refine take_ (i:=4) (N:=some 48) (v:=?_) (a':=?_) #[true,true,true,true,true,true,false,false,false,false] rfl rfl (take_ofW HT_.out HW_.out (by kernel_rfl)) (fun _ _ _ h=>h) (Or.inl ⟨by rfl,?_⟩) hHeld ?_ ?_
                      rotate_left
                      ·rintro w' ⟨s0,s1,s2,s3,s4,s5⟩
                       go_simp
                       with_reducible rfl
                      rotate_left
                      ·simp only [Act.put,List.setIfInBounds_toArray,List.set_cons_zero,List.set_cons_succ,i64_w,i32_w]
                       rfl
                      refine take_ (i:=6) (N:=some 50) (v:=?_) (a':=?_) #[true,true,true,true,true,true,true,false,false,false] rfl rfl (take_ofW HT_.out HW_.out (by kernel_rfl)) (fun _ _ _ h=>h) (Or.inl ⟨by rfl,?_⟩) hHeld ?_ ?_
                      rotate_left
                      ·rintro w' ⟨s0,s1,s2,s3,s4,s5⟩
                       go_simp
                       with_reducible rfl
                      rotate_left
                      ·simp only [Act.put,List.setIfInBounds_toArray,List.set_cons_zero,List.set_cons_succ,i64_w,i32_w]
                       rfl
                      refine pure_ (i:=7) (N:=some 51) (v:=?_) (a':=?_) #[true,true,true,true,true,true,true,true,false,false] rfl rfl (any_of HT_.out (by kernel_rfl)) (fun _ _ _ h=>h) (Or.inl ⟨by rfl,?_⟩) ?_ ?_
                      rotate_left
                      ·intro w'
                       go_simp
                       with_reducible rfl
                      rotate_left
                      ·simp only [Act.put,List.setIfInBounds_toArray,List.set_cons_zero,List.set_cons_succ,i64_w,i32_w]
                       rfl
                      refine pure_ (i:=8) (N:=some 52) (v:=?_) (a':=?_) #[true,true,true,true,true,true,true,true,true,false] rfl rfl (any_of HT_.out (by kernel_rfl)) (fun _ _ _ h=>h) (Or.inl ⟨by rfl,?_⟩) ?_ ?_
                      rotate_left
                      ·intro w'
                       go_simp
                       with_reducible rfl
                      rotate_left
                      ·simp only [Act.put,List.setIfInBounds_toArray,List.set_cons_zero,List.set_cons_succ,i64_w,i32_w]
                       rfl
                      refine last_ (i:=9) (N:=none) #[true,true,true,true,true,true,true,true,true,true] rfl rfl (one_of HT_.out (by kernel_rfl)) (by decide) (fun K hK=>?_)
                      refine skip_ (w1:=?_) (by rfl) rfl ?_ ?_
                      rotate_left
                      ·go_simp
                       rfl
                      refine hK.out _ _ ?_
                      clear hK K
                      refine done_ (done_of HT_.out (by kernel_rfl)) ?_
                      have hnx_:gb623 ≠ go41:=(by have h_:=Kd.R_ne HO_5.out BK623.out (by decide);intro e_;exact h_ (by rw [e_];rfl))
                      have hny_:go41 ≠ gb623:=fun e_=>hnx_ e_.symm
                      have hcz59_0:w56.cell? ⟨gb623,0,none⟩=some (.int .i64 ((rd_T88 l0_1 ((rd_T56 l1 x23_2).f1)).f0)):=(blk_cell BK623.out 0).trans rfl
                      have hcz59_1:w56.cell? ⟨gb623,1,none⟩=some (.int .i64 ((rd_T88 l0_1 ((rd_T56 l1 x23_2).f1)).f1)):=(blk_cell BK623.out 1).trans rfl
                      have hfz59_0:=blk_frozen BK623.out 0
                      have hfz59_1:=blk_frozen BK623.out 1
                      try go_wp2
                      have n0_:Aside0 (Kd.R (Kd.int .i64) 3 (w56.setCell ⟨go41,(((rd_T88 l0_1 ((rd_T56 l1 x23_2).f1)).f0):Int).toNat,none⟩ (.int .i64 (wrap64 ((rd x5_2 ((rd_T88 l0_1 ((rd_T56 l1 x23_2).f1)).f0)) - ((rd_T56 l1 x23_2).f2))))) w.heap.size (fun _=>True) (.slice (some ⟨go41,0,none⟩) x5_2.length co57) y625):=⟨by exact HQ58.out⟩
                      have n1_:Aside0 (Kd.S (Kd.slice 3 (Kd.int .i64)) 59 (w56.setCell ⟨go41,(((rd_T88 l0_1 ((rd_T56 l1 x23_2).f1)).f0):Int).toNat,none⟩ (.int .i64 (wrap64 ((rd x5_2 ((rd_T88 l0_1 ((rd_T56 l1 x23_2).f1)).f0)) - ((rd_T56 l1 x23_2).f2))))) w.heap.size (fun k_=>some k_ ≠ (.slice (some ⟨go41,0,none⟩) x5_2.length co57:Value).ownBlock) u6 x6_2):=⟨by exact Kd.S_mono (Kd.S_far (p:=⟨go41,(((rd_T88 l0_1 ((rd_T56 l1 x23_2).f1)).f0):Int).toNat,none⟩) (Kd.S_mono HO_6.out (fun k_ hk=>(⟨hk,fun e_=>hk (by rw [e_];rfl)⟩:_∧k_ ≠ go41))) (fun _ hk=>hk.2) (.int .i64 (wrap64 ((rd x5_2 ((rd_T88 l0_1 ((rd_T56 l1 x23_2).f1)).f0)) - ((rd_T56 l1 x23_2).f2))))) (fun _ hk=>hk.1)⟩
                      have n2_:Aside0 ((w56.setCell ⟨go41,(((rd_T88 l0_1 ((rd_T56 l1 x23_2).f1)).f0):Int).toNat,none⟩ (.int .i64 (wrap64 ((rd x5_2 ((rd_T88 l0_1 ((rd_T56 l1 x23_2).f1)).f0)) - ((rd_T56 l1 x23_2).f2))))).heap[gb614]?=some (.cells #[.int .i64 a0_0,.slice (some ad622) l0_1.length c0_1] 30 (0,0))):=⟨by refine blk_far ?_ (by have h_:=Kd.R_ne HO_5.out BK614.out (by decide);intro e_;exact h_ (by rw [e_];rfl)) _;exact BK614.out⟩
                      have n3_:Aside0 ((w56.setCell ⟨go41,(((rd_T88 l0_1 ((rd_T56 l1 x23_2).f1)).f0):Int).toNat,none⟩ (.int .i64 (wrap64 ((rd x5_2 ((rd_T88 l0_1 ((rd_T56 l1 x23_2).f1)).f0)) - ((rd_T56 l1 x23_2).f2))))).heap[gb620]?=some (.cells #[.int .i64 ((rd_T56 l1 x23_2).f0),.int .i64 ((rd_T56 l1 x23_2).f1),.int .i64 ((rd_T56 l1 x23_2).f2)] 56 (0,0))):=⟨by (with_reducible repeat (first|refine blk_drewN ?_ _|refine blk_drew ?_|refine blk_alloc ?_ _));refine blk_far ?_ (by have h_:=Kd.R_ne HO_5.out BK620.out (by decide);intro e_;exact h_ (by rw [e_];rfl)) _;(with_reducible repeat (first|refine blk_drewN ?_ _|refine blk_drew ?_|refine blk_alloc ?_ _));exact BK620.out⟩
                      have n4_:Aside0 ((w56.setCell ⟨go41,(((rd_T88 l0_1 ((rd_T56 l1 x23_2).f1)).f0):Int).toNat,none⟩ (.int .i64 (wrap64 ((rd x5_2 ((rd_T88 l0_1 ((rd_T56 l1 x23_2).f1)).f0)) - ((rd_T56 l1 x23_2).f2))))).heap[gb623]?=some (.cells #[.int .i64 ((rd_T88 l0_1 ((rd_T56 l1 x23_2).f1)).f0),.int .i64 ((rd_T88 l0_1 ((rd_T56 l1 x23_2).f1)).f1)] 88 (0,0))):=⟨by (with_reducible repeat (first|refine blk_drewN ?_ _|refine blk_drew ?_|refine blk_alloc ?_ _));refine blk_far ?_ (by have h_:=Kd.R_ne HO_5.out BK623.out (by decide);intro e_;exact h_ (by rw [e_];rfl)) _;(with_reducible repeat (first|refine blk_drewN ?_ _|refine blk_drew ?_|refine blk_alloc ?_ _));exact BK623.out⟩
                      have n5_:Aside0 (Below w.heap.size w (w56.setCell ⟨go41,(((rd_T88 l0_1 ((rd_T56 l1 x23_2).f1)).f0):Int).toNat,none⟩ (.int .i64 (wrap64 ((rd x5_2 ((rd_T88 l0_1 ((rd_T56 l1 x23_2).f1)).f0)) - ((rd_T56 l1 x23_2).f2)))))):=⟨by repeat (first|(with_reducible first|exact HB.out|apply below_alloc|apply pw_below_drewN|apply below_drew1|refine below_set ?_ GB41.out|refine below_set ?_ GE614.out|refine below_set ?_ GE620.out|refine below_set ?_ GE623.out)|exact HB.out)⟩
                      (try clear HO_5)
                      (try clear HO_6)
                      (try clear BK614)
                      (try clear BK620)
                      (try clear BK623)
                      (try clear HB)
                      generalize (w56.setCell ⟨go41,(((rd_T88 l0_1 ((rd_T56 l1 x23_2).f1)).f0):Int).toNat,none⟩ (.int .i64 (wrap64 ((rd x5_2 ((rd_T88 l0_1 ((rd_T56 l1 x23_2).f1)).f0)) - ((rd_T56 l1 x23_2).f2)))))=w60 at n0_ n1_ n2_ n3_ n4_ n5_ ⊢
                      have HO_5:=n0_
                      have HO_6:=n1_
                      have BK614:=n2_
                      have BK620:=n3_
                      have BK623:=n4_
                      have HB:=n5_
                      clear n0_ n1_ n2_ n3_ n4_ n5_
                      have n0_:=Aside0.mk (Kd.R_drew HO_5.out)
                      have n1_:=Aside0.mk (Kd.S_drew HO_6.out)
                      have n2_:=Aside0.mk (blk_drew BK614.out)
                      have n3_:=Aside0.mk (blk_drew BK620.out)
                      have n4_:=Aside0.mk (blk_drew BK623.out)
                      have n5_:=Aside0.mk (below_drew1 HB.out)
                      clear HO_5
                      clear HO_6
                      clear BK614
                      clear BK620
                      clear BK623
                      clear HB
                      have HO_5:=n0_
                      have HO_6:=n1_
                      have BK614:=n2_
                      have BK620:=n3_
                      have BK623:=n4_
                      have HB:=n5_
                      clear n0_ n1_ n2_ n3_ n4_ n5_
                      have p626:0≤(((rd_T88 l0_1 ((rd_T56 l1 x23_2).f1)).f1):Int):=of_decide_eq_true (by first|(with_reducible assumption)|assumption)
                      have q626:((rd_T88 l0_1 ((rd_T56 l1 x23_2).f1)).f1)<(y625.length:Int):=(by have h_:(((rd_T88 l0_1 ((rd_T56 l1 x23_2).f1)).f1):Int)<((x5_2.length:Int):Int):=of_decide_eq_true (by first|(with_reducible assumption)|assumption);first|(have e_:=(Kd.R_reads' HO_5.out).1;omega)|simpa only [Ny625.out,List.length_set] using h_)
                      have ql626:((((rd_T88 l0_1 ((rd_T56 l1 x23_2).f1)).f1):Int)<((x5_2.length:Int):Int))=True:=eq_true (of_decide_eq_true (by first|(with_reducible assumption)|assumption))
                      obtain ⟨ad626,e626,hx626_0⟩:=Kd.at_int (Kd.R_reads' HO_5.out).2.2 ((rd_T88 l0_1 ((rd_T56 l1 x23_2).f1)).f1) p626 q626
                      obtain rfl:(⟨go41,0,none⟩:Addr)=ad626:=(by injection e626)
                      (first|simp only [add_plain] at hx626_0|simp only [add_at] at hx626_0|simp only [Addr.add,Nat.zero_add] at hx626_0|skip)
                      replace p626:=eq_true p626
                      replace q626:=eq_true q626
                      have p45:0≤(((rd_T88 l0_1 ((rd_T56 l1 x23_2).f1)).f1):Int):=of_decide_eq_true (by first|(with_reducible assumption)|assumption)
                      have q45:(((rd_T88 l0_1 ((rd_T56 l1 x23_2).f1)).f1):Int)<((x5_2.length:Int):Int):=of_decide_eq_true (by first|(with_reducible assumption)|assumption)
                      obtain ⟨hx45_0,hf45_0⟩:=Kd.R_celln 0 HO_5.out (((rd_T88 l0_1 ((rd_T56 l1 x23_2).f1)).f1):Int) p45 q45
                      replace p45:=eq_true p45
                      replace q45:=eq_true q45
                      have HP62:=Kd.R_putn HO_5.out (((rd_T88 l0_1 ((rd_T56 l1 x23_2).f1)).f1):Int) (wrap64 ((rd y625 ((rd_T88 l0_1 ((rd_T56 l1 x23_2).f1)).f1))+((rd_T56 l1 x23_2).f2)))
                      rw [← Ny627.out] at HP62
                      have HQ62:=Aside0.mk HP62
                      clear HP62
                      refine start_ (n:=10) (S:=fun w'=>w'.cell? ⟨gb623,0,none⟩=some (.int .i64 ((rd_T88 l0_1 ((rd_T56 l1 x23_2).f1)).f0))∧w'.cell? ⟨gb623,1,none⟩=some (.int .i64 ((rd_T88 l0_1 ((rd_T56 l1 x23_2).f1)).f1))∧w'.cell? ⟨gb620,0,none⟩=some (.int .i64 ((rd_T56 l1 x23_2).f0))∧w'.cell? ⟨gb620,1,none⟩=some (.int .i64 ((rd_T56 l1 x23_2).f1))∧w'.cell? ⟨gb620,2,none⟩=some (.int .i64 ((rd_T56 l1 x23_2).f2))∧w'.cell? ⟨go41,(((rd_T88 l0_1 ((rd_T56 l1 x23_2).f1)).f1)).toNat,none⟩=some (.int .i64 (rd y625 ((rd_T88 l0_1 ((rd_T56 l1 x23_2).f1)).f1)))) (ds:=[9]) #[false,false,false,false,false,false,false,false,false,false] (by kernel_rfl) rfl rfl ⟨(blk_cell BK623.out 0).trans rfl,(blk_cell BK623.out 1).trans rfl,(blk_cell BK620.out 0).trans rfl,(blk_cell BK620.out 1).trans rfl,(blk_cell BK620.out 2).trans rfl,hx626_0⟩ (fun hHeld=>?_);refine with_tabW impl_Truth.tab13 impl_Truth.bits13 (fun HT_ HW_=>?_)
                      generalize w60.drew=w61 at HO_5 HO_6 BK614 BK620 BK623 HB HQ58 HQ62 hf45_0 hx45_0 hx626_0 hHeld ⊢
                      refine pure_ (i:=0) (N:=some 56) (v:=?_) (a':=?_) #[true,false,false,false,false,false,false,false,false,false] rfl rfl (any_of HT_.out (by kernel_rfl)) (fun _ _ _ h=>h) (Or.inl ⟨by rfl,?_⟩) ?_ ?_
                      rotate_left
                      ·intro w'
                       go_simp
                       with_reducible rfl
                      rotate_left
                      ·simp only [Act.put,List.setIfInBounds_toArray,List.set_cons_zero,List.set_cons_succ,i64_w,i32_w]
                       rfl
                      refine pure_ (i:=1) (N:=some 57) (v:=?_) (a':=?_) #[true,true,false,false,false,false,false,false,false,false] rfl rfl (any_of HT_.out (by kernel_rfl)) (fun _ _ _ h=>h) (Or.inl ⟨by rfl,?_⟩) ?_ ?_
                      rotate_left
                      ·intro w'
                       go_simp
                       with_reducible rfl
                      rotate_left
                      ·simp only [Act.put,List.setIfInBounds_toArray,List.set_cons_zero,List.set_cons_succ,i64_w,i32_w]
                       rfl
                      refine pure_ (i:=5) (N:=some 61) (v:=?_) (a':=?_) #[true,true,false,false,false,true,false,false,false,false] rfl rfl (any_of HT_.out (by kernel_rfl)) (fun _ _ _ h=>h) (Or.inl ⟨by rfl,?_⟩) ?_ ?_
                      rotate_left
                      ·intro w'
                       go_simp
                       with_reducible rfl
                      rotate_left
                      ·simp only [Act.put,List.setIfInBounds_toArray,List.set_cons_zero,List.set_cons_succ,i64_w,i32_w]
                       rfl
                      refine take_ (i:=2) (N:=some 58) (v:=?_) (a':=?_) #[true,true,true,false,false,true,false,false,false,false] rfl rfl (take_ofW HT_.out HW_.out (by kernel_rfl)) (fun _ _ _ h=>h) (Or.inl ⟨by rfl,?_⟩) hHeld ?_ ?_
                      rotate_left
                      ·rintro w' ⟨s0,s1,s2,s3,s4,s5⟩
                       go_simp
                       with_reducible rfl
                      rotate_left
                      ·simp only [Act.put,List.setIfInBounds_toArray,List.set_cons_zero,List.set_cons_succ,i64_w,i32_w]
                       rfl
                      refine pure_ (i:=3) (N:=some 59) (v:=?_) (a':=?_) #[true,true,true,true,false,true,false,false,false,false] rfl rfl (any_of HT_.out (by kernel_rfl)) (fun _ _ _ h=>h) (Or.inl ⟨by rfl,?_⟩) ?_ ?_
                      rotate_left
                      ·intro w'
                       go_simp
                       with_reducible rfl
                      rotate_left
                      ·simp only [Act.put,List.setIfInBounds_toArray,List.set_cons_zero,List.set_cons_succ,i64_w,i32_w]
                       rfl
                      refine take_ (i:=4) (N:=some 60) (v:=?_) (a':=?_) #[true,true,true,true,true,true,false,false,false,false] rfl rfl (take_ofW HT_.out HW_.out (by kernel_rfl)) (fun _ _ _ h=>h) (Or.inl ⟨by rfl,?_⟩) hHeld ?_ ?_
                      rotate_left
                      ·rintro w' ⟨s0,s1,s2,s3,s4,s5⟩
                       go_simp
                       with_reducible rfl
                      rotate_left
                      ·simp only [Act.put,List.setIfInBounds_toArray,List.set_cons_zero,List.set_cons_succ,i64_w,i32_w]
                       rfl
                      refine take_ (i:=6) (N:=some 62) (v:=?_) (a':=?_) #[true,true,true,true,true,true,true,false,false,false] rfl rfl (take_ofW HT_.out HW_.out (by kernel_rfl)) (fun _ _ _ h=>h) (Or.inl ⟨by rfl,?_⟩) hHeld ?_ ?_
                      rotate_left
                      ·rintro w' ⟨s0,s1,s2,s3,s4,s5⟩
                       go_simp
                       with_reducible rfl
                      rotate_left
                      ·simp only [Act.put,List.setIfInBounds_toArray,List.set_cons_zero,List.set_cons_succ,i64_w,i32_w]
                       rfl
                      refine pure_ (i:=7) (N:=some 63) (v:=?_) (a':=?_) #[true,true,true,true,true,true,true,true,false,false] rfl rfl (any_of HT_.out (by kernel_rfl)) (fun _ _ _ h=>h) (Or.inl ⟨by rfl,?_⟩) ?_ ?_
                      rotate_left
                      ·intro w'
                       go_simp
                       with_reducible rfl
                      rotate_left
                      ·simp only [Act.put,List.setIfInBounds_toArray,List.set_cons_zero,List.set_cons_succ,i64_w,i32_w]
                       rfl
                      refine pure_ (i:=8) (N:=some 64) (v:=?_) (a':=?_) #[true,true,true,true,true,true,true,true,true,false] rfl rfl (any_of HT_.out (by kernel_rfl)) (fun _ _ _ h=>h) (Or.inl ⟨by rfl,?_⟩) ?_ ?_
                      rotate_left
                      ·intro w'
                       go_simp
                       with_reducible rfl
                      rotate_left
                      ·simp only [Act.put,List.setIfInBounds_toArray,List.set_cons_zero,List.set_cons_succ,i64_w,i32_w]
                       rfl
                      refine last_ (i:=9) (N:=none) #[true,true,true,true,true,true,true,true,true,true] rfl rfl (one_of HT_.out (by kernel_rfl)) (by decide) (fun K hK=>?_)
                      refine skip_ (w1:=?_) (by rfl) rfl ?_ ?_
                      rotate_left
                      ·go_simp
                       rfl
                      refine hK.out _ _ ?_
                      clear hK K
                      refine done_ (done_of HT_.out (by kernel_rfl)) ?_
                      try go_wp2_with (first|((with_reducible refine gate_callee (f:=110) rfl ?_);refine goesL_ (some 67) rfl rfl Try.func110 (by kernel_rfl) rfl #[.slice (some ⟨go41,0,none⟩) y627.length co57] rfl (by (try simp only [List.map_toArray,List.map_cons,List.map_nil]);first|done|(rw [show y627.length=x5_2.length from (Kd.R_reads' HQ62.out).1.symm] <;> rfl)|rfl|(simp only [List.length_drop,List.length_take];rfl)) ?_;(with_reducible refine (slices_Clone_int_int.calls _ _ y627 t628 _ ?side1 ?side2 A46.out).mono ?_);(case side1=>refine (Kd.R_reads' (e:=3) (base:=w.heap.size) (ok:=fun k_=>True) (n:=x5_2.length) (c:=co57) ?_).2.2;exact (by (with_reducible repeat (first|apply Kd.R_alloc|apply Kd.R_drewN|apply Kd.R_drew));exact HQ62.out));(case side2=>rw [show y627.length=x5_2.length from (Kd.R_reads' HQ62.out).1.symm];exact (Kd.R_reads' HO_5.out).2.1);rintro e w63 ⟨v629,rfl,ho0,hb⟩;refine ⟨_,rfl,?_⟩;have n0_:=Aside0.mk (Kd.R_elder' (by (with_reducible repeat (first|apply Kd.R_alloc|apply Kd.R_drewN|apply Kd.R_drew));exact HQ62.out) (Kd.R_base ho0) hb);have n1_:=Aside0.mk (Kd.S_elder' (by (with_reducible repeat (first|apply Kd.S_alloc|apply Kd.S_drewN|apply Kd.S_drew));exact (Kd.S_mono (Kd.S_far (p:=⟨go41,(((rd_T88 l0_1 ((rd_T56 l1 x23_2).f1)).f1):Int).toNat,none⟩) (Kd.S_mono HO_6.out (fun k_ hk=>(⟨hk,fun e_=>hk (by rw [e_];rfl)⟩:_∧k_ ≠ go41))) (fun _ hk=>hk.2) (.int .i64 (wrap64 ((rd y625 ((rd_T88 l0_1 ((rd_T56 l1 x23_2).f1)).f1))+((rd_T56 l1 x23_2).f2))))) (fun _ h_=>h_.1))) (Kd.R_base ho0) hb);have n2_:=Aside0.mk (Kd.R_lower (Kd.R_new' ho0 (Kd.R_lt (by (with_reducible repeat (first|apply Kd.R_alloc|apply Kd.R_drewN|apply Kd.R_drew));exact HQ62.out))) (below_size (by repeat (first|(with_reducible first|exact HB.out|apply below_alloc|apply pw_below_drewN|apply below_drew1|refine below_set ?_ GB41.out|refine below_set ?_ GE614.out|refine below_set ?_ GE620.out|refine below_set ?_ GE623.out)|exact HB.out))));have n3_:=Aside0.mk (blk_below (g:=gb614) (o:=.cells #[.int .i64 a0_0,.slice (some ad622) l0_1.length c0_1] 30 (0,0)) (by (with_reducible repeat (first|refine blk_drewN ?_ _|refine blk_drew ?_|refine blk_alloc ?_ _));refine blk_far ?_ (by have h_:=Kd.R_ne HO_5.out BK614.out (by decide);intro e_;exact h_ (by rw [e_];rfl)) _;(with_reducible repeat (first|refine blk_drewN ?_ _|refine blk_drew ?_|refine blk_alloc ?_ _));exact BK614.out) hb);have n4_:=Aside0.mk (blk_below (g:=gb620) (o:=.cells #[.int .i64 ((rd_T56 l1 x23_2).f0),.int .i64 ((rd_T56 l1 x23_2).f1),.int .i64 ((rd_T56 l1 x23_2).f2)] 56 (0,0)) (by (with_reducible repeat (first|refine blk_drewN ?_ _|refine blk_drew ?_|refine blk_alloc ?_ _));refine blk_far ?_ (by have h_:=Kd.R_ne HO_5.out BK620.out (by decide);intro e_;exact h_ (by rw [e_];rfl)) _;(with_reducible repeat (first|refine blk_drewN ?_ _|refine blk_drew ?_|refine blk_alloc ?_ _));exact BK620.out) hb);have n5_:=Aside0.mk (blk_below (g:=gb623) (o:=.cells #[.int .i64 ((rd_T88 l0_1 ((rd_T56 l1 x23_2).f1)).f0),.int .i64 ((rd_T88 l0_1 ((rd_T56 l1 x23_2).f1)).f1)] 88 (0,0)) (by (with_reducible repeat (first|refine blk_drewN ?_ _|refine blk_drew ?_|refine blk_alloc ?_ _));refine blk_far ?_ (by have h_:=Kd.R_ne HO_5.out BK623.out (by decide);intro e_;exact h_ (by rw [e_];rfl)) _;(with_reducible repeat (first|refine blk_drewN ?_ _|refine blk_drew ?_|refine blk_alloc ?_ _));exact BK623.out) hb);have n6_:=Aside0.mk (below_step (by repeat (first|(with_reducible first|exact HB.out|apply below_alloc|apply pw_below_drewN|apply below_drew1|refine below_set ?_ GB41.out|refine below_set ?_ GE614.out|refine below_set ?_ GE620.out|refine below_set ?_ GE623.out)|exact HB.out)) hb);clear HO_5;clear HO_6;clear BK614;clear BK620;clear BK623;clear HB;have HO_5:=n0_;have HO_6:=n1_;have HO630:=n2_;have BK614:=n3_;have BK620:=n4_;have BK623:=n5_;have HB:=n6_;clear n0_ n1_ n2_ n3_ n4_ n5_ n6_;(try clear hb);(try clear hb2);(try clear hk);(try clear hi);(try clear ho0);obtain ⟨Ao65,co65,eo65⟩:=Kd.R_slice HO630.out;subst eo65)|((with_reducible refine gate_builtin (b:=.append) (xs:=#[.tmp 65,.tmp 68]) rfl ?_);(try (refine gate_guard (by rfl) ?_;dsimp only));at_builtin;refine Kd.S_append (Kd.slice 3 (Kd.int .i64)) (w0:=w) w.heap.size rfl (.tmp 65) (.tmp 68) 73 59 (.slice none 0 0) 24 rfl Try.underlying73 info59 rfl (by decide) (by omega) u6 x6_2 t628 [.slice Ao65 t628.length co65] (fun k_=>some k_ ≠ (.slice (some ⟨go41,0,none⟩) x5_2.length co57:Value).ownBlock) (fun k_=>some k_=(.slice Ao65 t628.length co65:Value).ownBlock) rfl rfl ?aP (fun k_ hk_=>((Kd.R_mono (ok':=fun k_=>((fun k_=>some k_ ≠ (.slice (some ⟨go41,0,none⟩) x5_2.length co57:Value).ownBlock)) k_∧some k_ ≠ (u6:Value).ownBlock) (Kd.R_apart' (HO630.out) (Kd.S_typed HO_6.out) (by decide)) (fun k_ hk=>⟨hk.1.2,hk.2⟩))).1 k_ hk_.symm) ?aF ?aO ?aB ?aS ?aL ?_;(case aP=>exact Kd.M_row (Kd.R_mono (Kd.R_tight rfl (Kd.R_mono (ok':=fun k_=>((fun k_=>some k_ ≠ (.slice (some ⟨go41,0,none⟩) x5_2.length co57:Value).ownBlock)) k_∧some k_ ≠ (u6:Value).ownBlock) (Kd.R_apart' (HO630.out) (Kd.S_typed HO_6.out) (by decide)) (fun k_ hk=>⟨hk.1.2,hk.2⟩))) (fun _ h_=>h_)));(case aB=>exact (by repeat (first|(with_reducible first|exact HB.out|apply below_alloc|apply pw_below_drewN|apply below_drew1|refine below_set ?_ GE614.out|refine below_set ?_ GE620.out|refine below_set ?_ GE623.out)|exact HB.out)));(case aF=>exact (fun k_ hk=>Kd.fresh' (Kd.R_lt (by (with_reducible repeat (first|apply Kd.R_alloc|apply Kd.R_drewN|apply Kd.R_drew));exact HO_5.out)) k_ hk));(case aO=>exact (by (with_reducible repeat (first|apply Kd.S_alloc|apply Kd.S_drewN|apply Kd.S_drew));exact Kd.S_mono HO_6.out (fun k_ hk=>⟨hk.1,fun e_=>hk.2 e_⟩)));(case aS=>exact (below_size (by repeat (first|(with_reducible first|exact HB.out|apply below_alloc|apply pw_below_drewN|apply below_drew1|refine below_set ?_ GE614.out|refine below_set ?_ GE620.out|refine below_set ?_ GE623.out)|exact HB.out))));(case aL=>have:=LMc47.out;omega);intro v632 w64 ho hb hg hat;rw [← Ny631.out] at ho;have n0_:=Aside0.mk (Kd.R_over' (by (with_reducible repeat (first|apply Kd.R_alloc|apply Kd.R_drewN|apply Kd.R_drew));exact HO_5.out) (Kd.S_typed (by (with_reducible repeat (first|apply Kd.S_alloc|apply Kd.S_drewN|apply Kd.S_drew));exact HO_6.out)) (by decide) hg);have n1_:=Aside0.mk (blk_grown (g:=gb614) (o:=.cells #[.int .i64 a0_0,.slice (some ad622) l0_1.length c0_1] 30 (0,0)) (by (with_reducible repeat (first|refine blk_drewN ?_ _|refine blk_drew ?_|refine blk_alloc ?_ _));exact BK614.out) hg (Kd.S_ne HO_6.out BK614.out (by decide)));have n2_:=Aside0.mk (blk_grown (g:=gb620) (o:=.cells #[.int .i64 ((rd_T56 l1 x23_2).f0),.int .i64 ((rd_T56 l1 x23_2).f1),.int .i64 ((rd_T56 l1 x23_2).f2)] 56 (0,0)) (by (with_reducible repeat (first|refine blk_drewN ?_ _|refine blk_drew ?_|refine blk_alloc ?_ _));exact BK620.out) hg (Kd.S_ne HO_6.out BK620.out (by decide)));have n3_:=Aside0.mk (blk_grown (g:=gb623) (o:=.cells #[.int .i64 ((rd_T88 l0_1 ((rd_T56 l1 x23_2).f1)).f0),.int .i64 ((rd_T88 l0_1 ((rd_T56 l1 x23_2).f1)).f1)] 88 (0,0)) (by (with_reducible repeat (first|refine blk_drewN ?_ _|refine blk_drew ?_|refine blk_alloc ?_ _));exact BK623.out) hg (Kd.S_ne HO_6.out BK623.out (by decide)));have n4_:=Aside0.mk (hb);have n5_:=Aside0.mk (ho);clear HO_5;clear BK614;clear BK620;clear BK623;clear HB;clear HO_6;clear HO630;have HO_5:=n0_;have BK614:=n1_;have BK620:=n2_;have BK623:=n3_;have HB:=n4_;have HO633:=n5_;clear n0_ n1_ n2_ n3_ n4_ n5_;clear ho hb hg hat))
                      go_roundg kj19
                      case measure=>have:=HJ2.out;have:=HK2.out;have:=HJ19.out;omega
                      case rel=>exact ⟨(y627),(y631),(wrap64 (x23_2+1)),(by first|rfl|(simp;done)|(simp [*];done)),H',⟨by have:=HJ2.out;have:=HK2.out;have:=HJ19.out;omega⟩,⟨by exact Kd.R_mono HO_5.out (fun _ hk=>trivial)⟩,⟨by exact HO633.out⟩,⟨by exact BK614.out⟩,⟨by exact HB.out⟩⟩
                     rw [if_neg c47] at H
                     exact absurd H (by simp)
                    rw [if_neg c44] at H
                    exact absurd H (by simp)
                   rw [if_neg c43] at H
                   exact absurd H (by simp)
                  rw [if_neg c42] at H
                  have c42b0:decide (0≤((rd_T88 l0_1 ((rd_T56 l1 x23_2).f1)).f1))=false:=decide_eq_false c42
                  clear c42
                  replace H:=Option.bind_eq_some_iff.mp H
                  obtain ⟨t634,A660,H⟩:=H
                  replace H:(if x6_2.length<5864062014805 then (impl_Truth.l0 kj19 y625 (x6_2 ++ [t634]) l1 (l1.length:Int) (wrap64 (x23_2+1)) a0_0 l0_1) else (none))=some r:=H
                  have A66:=Aside0.mk A660
                  clear A660
                  by_cases c67:x6_2.length<5864062014805
                  ·rw [if_pos c67] at H
                   have LMc67:=Aside0.mk c67
                   clear c67
                   obtain ⟨y637,hy637⟩:∃ y_:List (List Int),y_=(x6_2 ++ [t634]):=⟨_,rfl⟩
                   replace H:(impl_Truth.l0 kj19 y625 y637 l1 (l1.length:Int) (wrap64 (x23_2+1)) a0_0 l0_1)=some r:=by first|(rw [hy637];with_reducible exact H)|(have H2_:=(Option.bind_some _ _).symm.trans H;rw [hy637];with_reducible exact H2_)|(have H2_:=(Option.bind_some _ _).symm.trans H;with_reducible exact H2_)|with_reducible exact H|(rw [hy637];exact H)|exact H
                   have Ny637:=Aside0.mk hy637
                   clear hy637
                   have H':=Aside0.mk H
                   clear H
                   have hnb68:=NB614_620.out
                   have hnc68:=NB620_614.out
                   have hcz69_0:wc.cell? ⟨gb614,0,none⟩=some (.int .i64 a0_0):=(blk_cell BK614.out 0).trans rfl
                   have hcz69_1:wc.cell? ⟨gb614,1,none⟩=some (.slice A0_1 l0_1.length c0_1):=(blk_cell BK614.out 1).trans rfl
                   have hfz69_0:=blk_frozen BK614.out 0
                   have hfz69_1:=blk_frozen BK614.out 1
                   have hcz70_0:wc.cell? ⟨gb620,0,none⟩=some (.int .i64 ((rd_T56 l1 x23_2).f0)):=(blk_cell BK620.out 0).trans rfl
                   have hcz70_1:wc.cell? ⟨gb620,1,none⟩=some (.int .i64 ((rd_T56 l1 x23_2).f1)):=(blk_cell BK620.out 1).trans rfl
                   have hcz70_2:wc.cell? ⟨gb620,2,none⟩=some (.int .i64 ((rd_T56 l1 x23_2).f2)):=(blk_cell BK620.out 2).trans rfl
                   have hfz70_0:=blk_frozen BK620.out 0
                   have hfz70_1:=blk_frozen BK620.out 1
                   have hfz70_2:=blk_frozen BK620.out 2
                   have p622:0≤(((rd_T56 l1 x23_2).f1):Int):=of_decide_eq_true (by first|(with_reducible assumption)|assumption)
                   have q622:((rd_T56 l1 x23_2).f1)<(l0_1.length:Int):=of_decide_eq_true (by first|(with_reducible assumption)|assumption)
                   obtain ⟨ad622,e622,hx622_0,hx622_1⟩:=at_T88 HR0_1.out ((rd_T56 l1 x23_2).f1) p622 q622
                   cases e622
                   replace hx622_0:=(HB.out.cell (World.block_lt_of_cell? w _ hx622_0)).trans hx622_0
                   replace hx622_1:=(HB.out.cell (World.block_lt_of_cell? w _ hx622_1)).trans hx622_1
                   replace p622:=eq_true p622
                   replace q622:=eq_true q622
                   try go_wp2_with (first|((with_reducible refine gate_dst (N:=9) rfl ?_);(try (refine gate_guard (by rfl) ?_;dsimp only));refine box_event ?hg (N:=9) ?hd (cs:=#[.int .i64 0,.int .i64 0]) (t:=88) ?hr ?_;(case hd=>rfl);(case hg=>rfl);(case hr=>first|(go_simp;done)|(go_simp;rfl));intro gb623 hg w71 hbox hb;have n0_:=Aside0.mk (Kd.R_below (by exact HO_5.out) hb);have n1_:=Aside0.mk (Kd.S_below (by exact HO_6.out) hb);have n2_:=Aside0.mk (blk_below (g:=gb614) (o:=.cells #[.int .i64 a0_0,.slice (some ad622) l0_1.length c0_1] 30 (0,0)) (by exact BK614.out) hb);have n3_:=Aside0.mk (blk_below (g:=gb620) (o:=.cells #[.int .i64 ((rd_T56 l1 x23_2).f0),.int .i64 ((rd_T56 l1 x23_2).f1),.int .i64 ((rd_T56 l1 x23_2).f2)] 56 (0,0)) (by exact BK620.out) hb);have n4_:=Aside0.mk (below_step (by exact HB.out) hb);have n5_:=Aside0.mk (hbox);have n6_:=Aside0.mk ((by rw [hg];exact (below_size (by exact HB.out)):w.heap.size≤gb623));have n7_:=Aside0.mk ((by rw [hg];exact (below_size (by exact HB.out)):w.heap.size≤gb623));have n8_:=Aside0.mk ((by rw [hg];exact Nat.ne_of_lt (blk_lt (g:=gb614) (o:=.cells #[.int .i64 a0_0,.slice (some ad622) l0_1.length c0_1] 30 (0,0)) (by exact BK614.out)):gb614 ≠ gb623));have n9_:=Aside0.mk ((by rw [hg];exact Nat.ne_of_gt (blk_lt (g:=gb614) (o:=.cells #[.int .i64 a0_0,.slice (some ad622) l0_1.length c0_1] 30 (0,0)) (by exact BK614.out)):gb623 ≠ gb614));have n10_:=Aside0.mk ((by rw [hg];exact Nat.ne_of_lt (blk_lt (g:=gb620) (o:=.cells #[.int .i64 ((rd_T56 l1 x23_2).f0),.int .i64 ((rd_T56 l1 x23_2).f1),.int .i64 ((rd_T56 l1 x23_2).f2)] 56 (0,0)) (by exact BK620.out)):gb620 ≠ gb623));have n11_:=Aside0.mk ((by rw [hg];exact Nat.ne_of_gt (blk_lt (g:=gb620) (o:=.cells #[.int .i64 ((rd_T56 l1 x23_2).f0),.int .i64 ((rd_T56 l1 x23_2).f1),.int .i64 ((rd_T56 l1 x23_2).f2)] 56 (0,0)) (by exact BK620.out)):gb623 ≠ gb620));clear HO_5;clear HO_6;clear BK614;clear BK620;clear HB;have HO_5:=n0_;have HO_6:=n1_;have BK614:=n2_;have BK620:=n3_;have HB:=n4_;have BK623:=n5_;have GW623:=n6_;have GE623:=n7_;have NB614_623:=n8_;have NB623_614:=n9_;have NB620_623:=n10_;have NB623_620:=n11_;clear n0_ n1_ n2_ n3_ n4_ n5_ n6_ n7_ n8_ n9_ n10_ n11_;clear hb hbox hg;have hnb72:=NB623_614.out;have hnc72:=NB614_623.out;have hnb73:=NB623_620.out;have hnc73:=NB620_623.out;have hcz74_0:w71.cell? ⟨gb623,0,none⟩=some (.int .i64 0):=(blk_cell BK623.out 0).trans rfl;have hcz74_1:w71.cell? ⟨gb623,1,none⟩=some (.int .i64 0):=(blk_cell BK623.out 1).trans rfl;have hfz74_0:=blk_frozen BK623.out 0;have hfz74_1:=blk_frozen BK623.out 1))
                   have n0_:Aside0 (Kd.R (Kd.int .i64) 3 ((w71.setCell ⟨gb623,0,none⟩ (.int .i64 ((rd_T88 l0_1 ((rd_T56 l1 x23_2).f1)).f0))).setCell ⟨gb623,1,none⟩ (.int .i64 ((rd_T88 l0_1 ((rd_T56 l1 x23_2).f1)).f1))) w.heap.size (fun _=>True) v617 x5_2):=⟨by exact Kd.R_mono (Kd.R_far (p:=⟨gb623,1,none⟩) (Kd.R_far (p:=⟨gb623,0,none⟩) (Kd.R_types HO_5.out BK623.out (by decide)) (fun _ hk=>hk.2) (.int .i64 ((rd_T88 l0_1 ((rd_T56 l1 x23_2).f1)).f0))) (fun _ hk=>hk.2) (.int .i64 ((rd_T88 l0_1 ((rd_T56 l1 x23_2).f1)).f1))) (fun _ hk=>trivial)⟩
                   have n1_:Aside0 (Kd.S (Kd.slice 3 (Kd.int .i64)) 59 ((w71.setCell ⟨gb623,0,none⟩ (.int .i64 ((rd_T88 l0_1 ((rd_T56 l1 x23_2).f1)).f0))).setCell ⟨gb623,1,none⟩ (.int .i64 ((rd_T88 l0_1 ((rd_T56 l1 x23_2).f1)).f1))) w.heap.size (fun k_=>some k_ ≠ (v617:Value).ownBlock) u6 x6_2):=⟨by exact Kd.S_mono (Kd.S_far (p:=⟨gb623,1,none⟩) (Kd.S_far (p:=⟨gb623,0,none⟩) (Kd.S_types HO_6.out BK623.out (by decide)) (fun _ hk=>hk.2) (.int .i64 ((rd_T88 l0_1 ((rd_T56 l1 x23_2).f1)).f0))) (fun _ hk=>hk.2) (.int .i64 ((rd_T88 l0_1 ((rd_T56 l1 x23_2).f1)).f1))) (fun _ hk=>hk.1)⟩
                   have n2_:Aside0 (((w71.setCell ⟨gb623,0,none⟩ (.int .i64 ((rd_T88 l0_1 ((rd_T56 l1 x23_2).f1)).f0))).setCell ⟨gb623,1,none⟩ (.int .i64 ((rd_T88 l0_1 ((rd_T56 l1 x23_2).f1)).f1))).heap[gb614]?=some (.cells #[.int .i64 a0_0,.slice (some ad622) l0_1.length c0_1] 30 (0,0))):=⟨by refine blk_far ?_ NB614_623.out _;refine blk_far ?_ NB614_623.out _;exact BK614.out⟩
                   have n3_:Aside0 (((w71.setCell ⟨gb623,0,none⟩ (.int .i64 ((rd_T88 l0_1 ((rd_T56 l1 x23_2).f1)).f0))).setCell ⟨gb623,1,none⟩ (.int .i64 ((rd_T88 l0_1 ((rd_T56 l1 x23_2).f1)).f1))).heap[gb620]?=some (.cells #[.int .i64 ((rd_T56 l1 x23_2).f0),.int .i64 ((rd_T56 l1 x23_2).f1),.int .i64 ((rd_T56 l1 x23_2).f2)] 56 (0,0))):=⟨by (with_reducible repeat (first|refine blk_drewN ?_ _|refine blk_drew ?_|refine blk_alloc ?_ _));refine blk_far ?_ NB620_623.out _;(with_reducible repeat (first|refine blk_drewN ?_ _|refine blk_drew ?_|refine blk_alloc ?_ _));refine blk_far ?_ NB620_623.out _;(with_reducible repeat (first|refine blk_drewN ?_ _|refine blk_drew ?_|refine blk_alloc ?_ _));exact BK620.out⟩
                   have n4_:Aside0 (((w71.setCell ⟨gb623,0,none⟩ (.int .i64 ((rd_T88 l0_1 ((rd_T56 l1 x23_2).f1)).f0))).setCell ⟨gb623,1,none⟩ (.int .i64 ((rd_T88 l0_1 ((rd_T56 l1 x23_2).f1)).f1))).heap[gb623]?=some (.cells #[.int .i64 ((rd_T88 l0_1 ((rd_T56 l1 x23_2).f1)).f0),.int .i64 ((rd_T88 l0_1 ((rd_T56 l1 x23_2).f1)).f1)] 88 (0,0))):=⟨by (with_reducible repeat (first|refine blk_drewN ?_ _|refine blk_drew ?_|refine blk_alloc ?_ _));refine blk_put (cs:=#[.int .i64 ((rd_T88 l0_1 ((rd_T56 l1 x23_2).f1)).f0),.int .i64 0]) ?_ 1 _ rfl;(with_reducible repeat (first|refine blk_drewN ?_ _|refine blk_drew ?_|refine blk_alloc ?_ _));refine blk_put (cs:=#[.int .i64 0,.int .i64 0]) ?_ 0 _ rfl;(with_reducible repeat (first|refine blk_drewN ?_ _|refine blk_drew ?_|refine blk_alloc ?_ _));exact BK623.out⟩
                   have n5_:Aside0 (Below w.heap.size w ((w71.setCell ⟨gb623,0,none⟩ (.int .i64 ((rd_T88 l0_1 ((rd_T56 l1 x23_2).f1)).f0))).setCell ⟨gb623,1,none⟩ (.int .i64 ((rd_T88 l0_1 ((rd_T56 l1 x23_2).f1)).f1)))):=⟨by repeat (first|(with_reducible first|exact HB.out|apply below_alloc|apply pw_below_drewN|apply below_drew1|refine below_set ?_ GE614.out|refine below_set ?_ GE620.out|refine below_set ?_ GE623.out)|exact HB.out)⟩
                   (try clear HO_5)
                   (try clear HO_6)
                   (try clear BK614)
                   (try clear BK620)
                   (try clear BK623)
                   (try clear HB)
                   generalize ((w71.setCell ⟨gb623,0,none⟩ (.int .i64 ((rd_T88 l0_1 ((rd_T56 l1 x23_2).f1)).f0))).setCell ⟨gb623,1,none⟩ (.int .i64 ((rd_T88 l0_1 ((rd_T56 l1 x23_2).f1)).f1)))=w75 at n0_ n1_ n2_ n3_ n4_ n5_ ⊢
                   have HO_5:=n0_
                   have HO_6:=n1_
                   have BK614:=n2_
                   have BK620:=n3_
                   have BK623:=n4_
                   have HB:=n5_
                   clear n0_ n1_ n2_ n3_ n4_ n5_
                   have n0_:=Aside0.mk (Kd.R_drew HO_5.out)
                   have n1_:=Aside0.mk (Kd.S_drew HO_6.out)
                   have n2_:=Aside0.mk (blk_drew BK614.out)
                   have n3_:=Aside0.mk (blk_drew BK620.out)
                   have n4_:=Aside0.mk (blk_drew BK623.out)
                   have n5_:=Aside0.mk (below_drew1 HB.out)
                   clear HO_5
                   clear HO_6
                   clear BK614
                   clear BK620
                   clear BK623
                   clear HB
                   have HO_5:=n0_
                   have HO_6:=n1_
                   have BK614:=n2_
                   have BK620:=n3_
                   have BK623:=n4_
                   have HB:=n5_
                   clear n0_ n1_ n2_ n3_ n4_ n5_
                   obtain ⟨Ao77,co77,eo77⟩:=Kd.R_slice HO_5.out
                   (first|subst eo77|(injection eo77 with f1_ f2_ f3_;have f4_:=f1_.symm;have f5_:=f3_.symm;clear f1_ f2_ f3_;subst f4_;subst f5_))
                   have p624:0≤(((rd_T88 l0_1 ((rd_T56 l1 x23_2).f1)).f0):Int):=of_decide_eq_true (by first|(with_reducible assumption)|assumption)
                   have q624:((rd_T88 l0_1 ((rd_T56 l1 x23_2).f1)).f0)<(x5_2.length:Int):=of_decide_eq_true (by first|(with_reducible assumption)|assumption)
                   obtain ⟨ad624,e624,hx624_0⟩:=Kd.at_int (Kd.R_reads' HO_5.out).2.2 ((rd_T88 l0_1 ((rd_T56 l1 x23_2).f1)).f0) p624 q624
                   cases e624
                   replace p624:=eq_true p624
                   replace q624:=eq_true q624
                   have p41:0≤(((rd_T88 l0_1 ((rd_T56 l1 x23_2).f1)).f0):Int):=of_decide_eq_true (by first|(with_reducible assumption)|assumption)
                   have q41:(((rd_T88 l0_1 ((rd_T56 l1 x23_2).f1)).f0):Int)<((x5_2.length:Int):Int):=of_decide_eq_true (by first|(with_reducible assumption)|assumption)
                   obtain ⟨go41,co41,eo41,gb41,gl41,cl41,HG41⟩:=Kd.R_form HO_5.out (by omega)
                   (first|cases eo41|(injection eo41 with ea_ en_ ec_;(first|subst ea_|(injection ea_ with ea_;subst ea_));subst ec_;clear en_))
                   have GB41:=Aside0.mk gb41
                   have GG41:=Aside0.mk HG41
                   clear gb41 gl41 HG41
                   (first|simp only [add_plain] at hx624_0|skip)
                   obtain ⟨hx41_0,hf41_0⟩:=Kd.R_celln 0 HO_5.out (((rd_T88 l0_1 ((rd_T56 l1 x23_2).f1)).f0):Int) p41 q41
                   replace p41:=eq_true p41
                   replace q41:=eq_true q41
                   have HP78:=Kd.R_putn HO_5.out (((rd_T88 l0_1 ((rd_T56 l1 x23_2).f1)).f0):Int) (wrap64 ((rd x5_2 ((rd_T88 l0_1 ((rd_T56 l1 x23_2).f1)).f0)) - ((rd_T56 l1 x23_2).f2)))
                   rw [← Ny625.out] at HP78
                   have HQ78:=Aside0.mk HP78
                   clear HP78
                   refine start_ (n:=10) (S:=fun w'=>w'.cell? ⟨gb623,0,none⟩=some (.int .i64 ((rd_T88 l0_1 ((rd_T56 l1 x23_2).f1)).f0))∧w'.cell? ⟨gb623,1,none⟩=some (.int .i64 ((rd_T88 l0_1 ((rd_T56 l1 x23_2).f1)).f1))∧w'.cell? ⟨gb620,0,none⟩=some (.int .i64 ((rd_T56 l1 x23_2).f0))∧w'.cell? ⟨gb620,1,none⟩=some (.int .i64 ((rd_T56 l1 x23_2).f1))∧w'.cell? ⟨gb620,2,none⟩=some (.int .i64 ((rd_T56 l1 x23_2).f2))∧w'.cell? ⟨go41,(((rd_T88 l0_1 ((rd_T56 l1 x23_2).f1)).f0)).toNat,none⟩=some (.int .i64 (rd x5_2 ((rd_T88 l0_1 ((rd_T56 l1 x23_2).f1)).f0)))) (ds:=[9]) #[false,false,false,false,false,false,false,false,false,false] (by kernel_rfl) rfl rfl ⟨(blk_cell BK623.out 0).trans rfl,(blk_cell BK623.out 1).trans rfl,(blk_cell BK620.out 0).trans rfl,(blk_cell BK620.out 1).trans rfl,(blk_cell BK620.out 2).trans rfl,hx624_0⟩ (fun hHeld=>?_);refine with_tabW impl_Truth.tab11 impl_Truth.bits11 (fun HT_ HW_=>?_)
                   generalize w75.drew=w76 at HO_5 HO_6 BK614 BK620 BK623 HB GG41 HQ78 hf41_0 hx41_0 hx624_0 hHeld ⊢
                   refine pure_ (i:=0) (N:=some 44) (v:=?_) (a':=?_) #[true,false,false,false,false,false,false,false,false,false] rfl rfl (any_of HT_.out (by kernel_rfl)) (fun _ _ _ h=>h) (Or.inl ⟨by rfl,?_⟩) ?_ ?_
                   rotate_left
                   ·intro w'
                    go_simp
                    with_reducible rfl
                   rotate_left
                   ·simp only [Act.put,List.setIfInBounds_toArray,List.set_cons_zero,List.set_cons_succ,i64_w,i32_w]
                    rfl
                   refine pure_ (i:=1) (N:=some 45) (v:=?_) (a':=?_) #[true,true,false,false,false,false,false,false,false,false] rfl rfl (any_of HT_.out (by kernel_rfl)) (fun _ _ _ h=>h) (Or.inl ⟨by rfl,?_⟩) ?_ ?_
                   rotate_left
                   ·intro w'
                    go_simp
                    with_reducible rfl
                   rotate_left
                   ·simp only [Act.put,List.setIfInBounds_toArray,List.set_cons_zero,List.set_cons_succ,i64_w,i32_w]
                    rfl
                   refine pure_ (i:=5) (N:=some 49) (v:=?_) (a':=?_) #[true,true,false,false,false,true,false,false,false,false] rfl rfl (any_of HT_.out (by kernel_rfl)) (fun _ _ _ h=>h) (Or.inl ⟨by rfl,?_⟩) ?_ ?_
                   rotate_left
                   ·intro w'
                    go_simp
                    with_reducible rfl
                   rotate_left
                   ·simp only [Act.put,List.setIfInBounds_toArray,List.set_cons_zero,List.set_cons_succ,i64_w,i32_w]
                    rfl
                   refine take_ (i:=2) (N:=some 46) (v:=?_) (a':=?_) #[true,true,true,false,false,true,false,false,false,false] rfl rfl (take_ofW HT_.out HW_.out (by kernel_rfl)) (fun _ _ _ h=>h) (Or.inl ⟨by rfl,?_⟩) hHeld ?_ ?_
                   rotate_left
                   ·rintro w' ⟨s0,s1,s2,s3,s4,s5⟩
                    go_simp
                    with_reducible rfl
                   rotate_left
                   ·simp only [Act.put,List.setIfInBounds_toArray,List.set_cons_zero,List.set_cons_succ,i64_w,i32_w]
                    rfl
                   refine pure_ (i:=3) (N:=some 47) (v:=?_) (a':=?_) #[true,true,true,true,false,true,false,false,false,false] rfl rfl (any_of HT_.out (by kernel_rfl)) (fun _ _ _ h=>h) (Or.inl ⟨by rfl,?_⟩) ?_ ?_
                   rotate_left
                   ·intro w'
                    go_simp
                    with_reducible rfl
                   rotate_left
                   ·simp only [Act.put,List.setIfInBounds_toArray,List.set_cons_zero,List.set_cons_succ,i64_w,i32_w]
                    rfl
                   refine take_ (i:=4) (N:=some 48) (v:=?_) (a':=?_) #[true,true,true,true,true,true,false,false,false,false] rfl rfl (take_ofW HT_.out HW_.out (by kernel_rfl)) (fun _ _ _ h=>h) (Or.inl ⟨by rfl,?_⟩) hHeld ?_ ?_
                   rotate_left
                   ·rintro w' ⟨s0,s1,s2,s3,s4,s5⟩
                    go_simp
                    with_reducible rfl
                   rotate_left
                   ·simp only [Act.put,List.setIfInBounds_toArray,List.set_cons_zero,List.set_cons_succ,i64_w,i32_w]
                    rfl
                   refine take_ (i:=6) (N:=some 50) (v:=?_) (a':=?_) #[true,true,true,true,true,true,true,false,false,false] rfl rfl (take_ofW HT_.out HW_.out (by kernel_rfl)) (fun _ _ _ h=>h) (Or.inl ⟨by rfl,?_⟩) hHeld ?_ ?_
                   rotate_left
                   ·rintro w' ⟨s0,s1,s2,s3,s4,s5⟩
                    go_simp
                    with_reducible rfl
                   rotate_left
                   ·simp only [Act.put,List.setIfInBounds_toArray,List.set_cons_zero,List.set_cons_succ,i64_w,i32_w]
                    rfl
                   refine pure_ (i:=7) (N:=some 51) (v:=?_) (a':=?_) #[true,true,true,true,true,true,true,true,false,false] rfl rfl (any_of HT_.out (by kernel_rfl)) (fun _ _ _ h=>h) (Or.inl ⟨by rfl,?_⟩) ?_ ?_
                   rotate_left
                   ·intro w'
                    go_simp
                    with_reducible rfl
                   rotate_left
                   ·simp only [Act.put,List.setIfInBounds_toArray,List.set_cons_zero,List.set_cons_succ,i64_w,i32_w]
                    rfl
                   refine pure_ (i:=8) (N:=some 52) (v:=?_) (a':=?_) #[true,true,true,true,true,true,true,true,true,false] rfl rfl (any_of HT_.out (by kernel_rfl)) (fun _ _ _ h=>h) (Or.inl ⟨by rfl,?_⟩) ?_ ?_
                   rotate_left
                   ·intro w'
                    go_simp
                    with_reducible rfl
                   rotate_left
                   ·simp only [Act.put,List.setIfInBounds_toArray,List.set_cons_zero,List.set_cons_succ,i64_w,i32_w]
                    rfl
                   refine last_ (i:=9) (N:=none) #[true,true,true,true,true,true,true,true,true,true] rfl rfl (one_of HT_.out (by kernel_rfl)) (by decide) (fun K hK=>?_)
                   refine skip_ (w1:=?_) (by rfl) rfl ?_ ?_
                   rotate_left
                   ·go_simp
                    rfl
                   refine hK.out _ _ ?_
                   clear hK K
                   refine done_ (done_of HT_.out (by kernel_rfl)) ?_
                   have hnx_:gb623 ≠ go41:=(by have h_:=Kd.R_ne HO_5.out BK623.out (by decide);intro e_;exact h_ (by rw [e_];rfl))
                   have hny_:go41 ≠ gb623:=fun e_=>hnx_ e_.symm
                   have hcz79_0:w76.cell? ⟨gb623,0,none⟩=some (.int .i64 ((rd_T88 l0_1 ((rd_T56 l1 x23_2).f1)).f0)):=(blk_cell BK623.out 0).trans rfl
                   have hcz79_1:w76.cell? ⟨gb623,1,none⟩=some (.int .i64 ((rd_T88 l0_1 ((rd_T56 l1 x23_2).f1)).f1)):=(blk_cell BK623.out 1).trans rfl
                   have hfz79_0:=blk_frozen BK623.out 0
                   have hfz79_1:=blk_frozen BK623.out 1
                   try go_wp2_with (first|((with_reducible refine gate_callee (f:=110) rfl ?_);refine goesL_ (some 67) rfl rfl Try.func110 (by kernel_rfl) rfl #[.slice (some ⟨go41,0,none⟩) y625.length co77] rfl (by (try simp only [List.map_toArray,List.map_cons,List.map_nil]);first|done|(rw [show y625.length=x5_2.length from (Kd.R_reads' HQ78.out).1.symm] <;> rfl)|rfl|(simp only [List.length_drop,List.length_take];rfl)) ?_;(with_reducible refine (slices_Clone_int_int.calls _ _ y625 t634 _ ?side1 ?side2 A66.out).mono ?_);(case side1=>refine (Kd.R_reads' (e:=3) (base:=w.heap.size) (ok:=fun k_=>True) (n:=x5_2.length) (c:=co77) ?_).2.2;exact (by (with_reducible repeat (first|apply Kd.R_alloc|apply Kd.R_drewN|apply Kd.R_drew));exact HQ78.out));(case side2=>rw [show y625.length=x5_2.length from (Kd.R_reads' HQ78.out).1.symm];exact (Kd.R_reads' HO_5.out).2.1);rintro e w80 ⟨v635,rfl,ho0,hb⟩;refine ⟨_,rfl,?_⟩;have n0_:=Aside0.mk (Kd.R_elder' (by (with_reducible repeat (first|apply Kd.R_alloc|apply Kd.R_drewN|apply Kd.R_drew));exact HQ78.out) (Kd.R_base ho0) hb);have n1_:=Aside0.mk (Kd.S_elder' (by (with_reducible repeat (first|apply Kd.S_alloc|apply Kd.S_drewN|apply Kd.S_drew));exact (Kd.S_mono (Kd.S_far (p:=⟨go41,(((rd_T88 l0_1 ((rd_T56 l1 x23_2).f1)).f0):Int).toNat,none⟩) (Kd.S_mono HO_6.out (fun k_ hk=>(⟨hk,fun e_=>hk (by rw [e_];rfl)⟩:_∧k_ ≠ go41))) (fun _ hk=>hk.2) (.int .i64 (wrap64 ((rd x5_2 ((rd_T88 l0_1 ((rd_T56 l1 x23_2).f1)).f0)) - ((rd_T56 l1 x23_2).f2))))) (fun _ h_=>h_.1))) (Kd.R_base ho0) hb);have n2_:=Aside0.mk (Kd.R_lower (Kd.R_new' ho0 (Kd.R_lt (by (with_reducible repeat (first|apply Kd.R_alloc|apply Kd.R_drewN|apply Kd.R_drew));exact HQ78.out))) (below_size (by repeat (first|(with_reducible first|exact HB.out|apply below_alloc|apply pw_below_drewN|apply below_drew1|refine below_set ?_ GB41.out|refine below_set ?_ GE614.out|refine below_set ?_ GE620.out|refine below_set ?_ GE623.out)|exact HB.out))));have n3_:=Aside0.mk (blk_below (g:=gb614) (o:=.cells #[.int .i64 a0_0,.slice (some ad622) l0_1.length c0_1] 30 (0,0)) (by (with_reducible repeat (first|refine blk_drewN ?_ _|refine blk_drew ?_|refine blk_alloc ?_ _));refine blk_far ?_ (by have h_:=Kd.R_ne HO_5.out BK614.out (by decide);intro e_;exact h_ (by rw [e_];rfl)) _;(with_reducible repeat (first|refine blk_drewN ?_ _|refine blk_drew ?_|refine blk_alloc ?_ _));exact BK614.out) hb);have n4_:=Aside0.mk (blk_below (g:=gb620) (o:=.cells #[.int .i64 ((rd_T56 l1 x23_2).f0),.int .i64 ((rd_T56 l1 x23_2).f1),.int .i64 ((rd_T56 l1 x23_2).f2)] 56 (0,0)) (by (with_reducible repeat (first|refine blk_drewN ?_ _|refine blk_drew ?_|refine blk_alloc ?_ _));refine blk_far ?_ (by have h_:=Kd.R_ne HO_5.out BK620.out (by decide);intro e_;exact h_ (by rw [e_];rfl)) _;(with_reducible repeat (first|refine blk_drewN ?_ _|refine blk_drew ?_|refine blk_alloc ?_ _));exact BK620.out) hb);have n5_:=Aside0.mk (blk_below (g:=gb623) (o:=.cells #[.int .i64 ((rd_T88 l0_1 ((rd_T56 l1 x23_2).f1)).f0),.int .i64 ((rd_T88 l0_1 ((rd_T56 l1 x23_2).f1)).f1)] 88 (0,0)) (by (with_reducible repeat (first|refine blk_drewN ?_ _|refine blk_drew ?_|refine blk_alloc ?_ _));refine blk_far ?_ (by have h_:=Kd.R_ne HO_5.out BK623.out (by decide);intro e_;exact h_ (by rw [e_];rfl)) _;(with_reducible repeat (first|refine blk_drewN ?_ _|refine blk_drew ?_|refine blk_alloc ?_ _));exact BK623.out) hb);have n6_:=Aside0.mk (below_step (by repeat (first|(with_reducible first|exact HB.out|apply below_alloc|apply pw_below_drewN|apply below_drew1|refine below_set ?_ GB41.out|refine below_set ?_ GE614.out|refine below_set ?_ GE620.out|refine below_set ?_ GE623.out)|exact HB.out)) hb);clear HO_5;clear HO_6;clear BK614;clear BK620;clear BK623;clear HB;have HO_5:=n0_;have HO_6:=n1_;have HO636:=n2_;have BK614:=n3_;have BK620:=n4_;have BK623:=n5_;have HB:=n6_;clear n0_ n1_ n2_ n3_ n4_ n5_ n6_;(try clear hb);(try clear hb2);(try clear hk);(try clear hi);(try clear ho0);obtain ⟨Ao82,co82,eo82⟩:=Kd.R_slice HO636.out;subst eo82)|((with_reducible refine gate_builtin (b:=.append) (xs:=#[.tmp 65,.tmp 68]) rfl ?_);(try (refine gate_guard (by rfl) ?_;dsimp only));at_builtin;refine Kd.S_append (Kd.slice 3 (Kd.int .i64)) (w0:=w) w.heap.size rfl (.tmp 65) (.tmp 68) 73 59 (.slice none 0 0) 24 rfl Try.underlying73 info59 rfl (by decide) (by omega) u6 x6_2 t634 [.slice Ao82 t634.length co82] (fun k_=>some k_ ≠ (.slice (some ⟨go41,0,none⟩) x5_2.length co77:Value).ownBlock) (fun k_=>some k_=(.slice Ao82 t634.length co82:Value).ownBlock) rfl rfl ?aP (fun k_ hk_=>((Kd.R_mono (ok':=fun k_=>((fun k_=>some k_ ≠ (.slice (some ⟨go41,0,none⟩) x5_2.length co77:Value).ownBlock)) k_∧some k_ ≠ (u6:Value).ownBlock) (Kd.R_apart' (HO636.out) (Kd.S_typed HO_6.out) (by decide)) (fun k_ hk=>⟨hk.1.2,hk.2⟩))).1 k_ hk_.symm) ?aF ?aO ?aB ?aS ?aL ?_;(case aP=>exact Kd.M_row (Kd.R_mono (Kd.R_tight rfl (Kd.R_mono (ok':=fun k_=>((fun k_=>some k_ ≠ (.slice (some ⟨go41,0,none⟩) x5_2.length co77:Value).ownBlock)) k_∧some k_ ≠ (u6:Value).ownBlock) (Kd.R_apart' (HO636.out) (Kd.S_typed HO_6.out) (by decide)) (fun k_ hk=>⟨hk.1.2,hk.2⟩))) (fun _ h_=>h_)));(case aB=>exact (by repeat (first|(with_reducible first|exact HB.out|apply below_alloc|apply pw_below_drewN|apply below_drew1|refine below_set ?_ GE614.out|refine below_set ?_ GE620.out|refine below_set ?_ GE623.out)|exact HB.out)));(case aF=>exact (fun k_ hk=>Kd.fresh' (Kd.R_lt (by (with_reducible repeat (first|apply Kd.R_alloc|apply Kd.R_drewN|apply Kd.R_drew));exact HO_5.out)) k_ hk));(case aO=>exact (by (with_reducible repeat (first|apply Kd.S_alloc|apply Kd.S_drewN|apply Kd.S_drew));exact Kd.S_mono HO_6.out (fun k_ hk=>⟨hk.1,fun e_=>hk.2 e_⟩)));(case aS=>exact (below_size (by repeat (first|(with_reducible first|exact HB.out|apply below_alloc|apply pw_below_drewN|apply below_drew1|refine below_set ?_ GE614.out|refine below_set ?_ GE620.out|refine below_set ?_ GE623.out)|exact HB.out))));(case aL=>have:=LMc67.out;omega);intro v638 w81 ho hb hg hat;rw [← Ny637.out] at ho;have n0_:=Aside0.mk (Kd.R_over' (by (with_reducible repeat (first|apply Kd.R_alloc|apply Kd.R_drewN|apply Kd.R_drew));exact HO_5.out) (Kd.S_typed (by (with_reducible repeat (first|apply Kd.S_alloc|apply Kd.S_drewN|apply Kd.S_drew));exact HO_6.out)) (by decide) hg);have n1_:=Aside0.mk (blk_grown (g:=gb614) (o:=.cells #[.int .i64 a0_0,.slice (some ad622) l0_1.length c0_1] 30 (0,0)) (by (with_reducible repeat (first|refine blk_drewN ?_ _|refine blk_drew ?_|refine blk_alloc ?_ _));exact BK614.out) hg (Kd.S_ne HO_6.out BK614.out (by decide)));have n2_:=Aside0.mk (blk_grown (g:=gb620) (o:=.cells #[.int .i64 ((rd_T56 l1 x23_2).f0),.int .i64 ((rd_T56 l1 x23_2).f1),.int .i64 ((rd_T56 l1 x23_2).f2)] 56 (0,0)) (by (with_reducible repeat (first|refine blk_drewN ?_ _|refine blk_drew ?_|refine blk_alloc ?_ _));exact BK620.out) hg (Kd.S_ne HO_6.out BK620.out (by decide)));have n3_:=Aside0.mk (blk_grown (g:=gb623) (o:=.cells #[.int .i64 ((rd_T88 l0_1 ((rd_T56 l1 x23_2).f1)).f0),.int .i64 ((rd_T88 l0_1 ((rd_T56 l1 x23_2).f1)).f1)] 88 (0,0)) (by (with_reducible repeat (first|refine blk_drewN ?_ _|refine blk_drew ?_|refine blk_alloc ?_ _));exact BK623.out) hg (Kd.S_ne HO_6.out BK623.out (by decide)));have n4_:=Aside0.mk (hb);have n5_:=Aside0.mk (ho);clear HO_5;clear BK614;clear BK620;clear BK623;clear HB;clear HO_6;clear HO636;have HO_5:=n0_;have BK614:=n1_;have BK620:=n2_;have BK623:=n3_;have HB:=n4_;have HO639:=n5_;clear n0_ n1_ n2_ n3_ n4_ n5_;clear ho hb hg hat))
                   go_roundg kj19
                   case measure=>have:=HJ2.out;have:=HK2.out;have:=HJ19.out;omega
                   case rel=>exact ⟨(y625),(y637),(wrap64 (x23_2+1)),(by first|rfl|(simp;done)|(simp [*];done)),H',⟨by have:=HJ2.out;have:=HK2.out;have:=HJ19.out;omega⟩,⟨by exact Kd.R_mono HO_5.out (fun _ hk=>trivial)⟩,⟨by exact HO639.out⟩,⟨by exact BK614.out⟩,⟨by exact HB.out⟩⟩
                  rw [if_neg c67] at H
                  exact absurd H (by simp)
                 rw [if_neg c40] at H
                 exact absurd H (by simp)
                rw [if_neg c39] at H
                exact absurd H (by simp)
               rw [if_neg c38] at H
               have c38b0:decide (0≤((rd_T88 l0_1 ((rd_T56 l1 x23_2).f1)).f0))=false:=decide_eq_false c38
               clear c38
               by_cases c83:((rd_T88 l0_1 ((rd_T56 l1 x23_2).f1)).f1) ≥ 0
               ·rw [if_pos c83] at H
                have c83b0:decide (0≤((rd_T88 l0_1 ((rd_T56 l1 x23_2).f1)).f1))=true:=decide_eq_true c83
                clear c83
                by_cases c84:0≤((rd_T88 l0_1 ((rd_T56 l1 x23_2).f1)).f1)
                ·rw [if_pos c84] at H
                 have c84b0:decide (0≤((rd_T88 l0_1 ((rd_T56 l1 x23_2).f1)).f1))=true:=decide_eq_true c84
                 clear c84
                 by_cases c85:((rd_T88 l0_1 ((rd_T56 l1 x23_2).f1)).f1)<(x5_2.length:Int)
                 ·rw [if_pos c85] at H
                  have c85b0:decide (((rd_T88 l0_1 ((rd_T56 l1 x23_2).f1)).f1)<(x5_2.length:Int))=true:=decide_eq_true c85
                  clear c85
                  obtain ⟨y641,hy641⟩:∃ y_:List Int,y_=(x5_2.set (((rd_T88 l0_1 ((rd_T56 l1 x23_2).f1)).f1):Int).toNat (wrap64 ((rd x5_2 ((rd_T88 l0_1 ((rd_T56 l1 x23_2).f1)).f1))+((rd_T56 l1 x23_2).f2)))):=⟨_,rfl⟩
                  replace H:((slices_Clone_int_int.f y641).bind fun t642=>(if x6_2.length<5864062014805 then (impl_Truth.l0 kj19 y641 (x6_2 ++ [t642]) l1 (l1.length:Int) (wrap64 (x23_2+1)) a0_0 l0_1) else (none)))=some r:=by first|(rw [hy641];with_reducible exact H)|(have H2_:=(Option.bind_some _ _).symm.trans H;rw [hy641];with_reducible exact H2_)|(have H2_:=(Option.bind_some _ _).symm.trans H;with_reducible exact H2_)|with_reducible exact H|(rw [hy641];exact H)|exact H
                  have Ny641:=Aside0.mk hy641
                  clear hy641
                  replace H:=Option.bind_eq_some_iff.mp H
                  obtain ⟨t642,A870,H⟩:=H
                  replace H:(if x6_2.length<5864062014805 then (impl_Truth.l0 kj19 y641 (x6_2 ++ [t642]) l1 (l1.length:Int) (wrap64 (x23_2+1)) a0_0 l0_1) else (none))=some r:=H
                  have A87:=Aside0.mk A870
                  clear A870
                  by_cases c88:x6_2.length<5864062014805
                  ·rw [if_pos c88] at H
                   have LMc88:=Aside0.mk c88
                   clear c88
                   obtain ⟨y645,hy645⟩:∃ y_:List (List Int),y_=(x6_2 ++ [t642]):=⟨_,rfl⟩
                   replace H:(impl_Truth.l0 kj19 y641 y645 l1 (l1.length:Int) (wrap64 (x23_2+1)) a0_0 l0_1)=some r:=by first|(rw [hy645];with_reducible exact H)|(have H2_:=(Option.bind_some _ _).symm.trans H;rw [hy645];with_reducible exact H2_)|(have H2_:=(Option.bind_some _ _).symm.trans H;with_reducible exact H2_)|with_reducible exact H|(rw [hy645];exact H)|exact H
                   have Ny645:=Aside0.mk hy645
                   clear hy645
                   have H':=Aside0.mk H
                   clear H
                   have hnb89:=NB614_620.out
                   have hnc89:=NB620_614.out
                   have hcz90_0:wc.cell? ⟨gb614,0,none⟩=some (.int .i64 a0_0):=(blk_cell BK614.out 0).trans rfl
                   have hcz90_1:wc.cell? ⟨gb614,1,none⟩=some (.slice A0_1 l0_1.length c0_1):=(blk_cell BK614.out 1).trans rfl
                   have hfz90_0:=blk_frozen BK614.out 0
                   have hfz90_1:=blk_frozen BK614.out 1
                   have hcz91_0:wc.cell? ⟨gb620,0,none⟩=some (.int .i64 ((rd_T56 l1 x23_2).f0)):=(blk_cell BK620.out 0).trans rfl
                   have hcz91_1:wc.cell? ⟨gb620,1,none⟩=some (.int .i64 ((rd_T56 l1 x23_2).f1)):=(blk_cell BK620.out 1).trans rfl
                   have hcz91_2:wc.cell? ⟨gb620,2,none⟩=some (.int .i64 ((rd_T56 l1 x23_2).f2)):=(blk_cell BK620.out 2).trans rfl
                   have hfz91_0:=blk_frozen BK620.out 0
                   have hfz91_1:=blk_frozen BK620.out 1
                   have hfz91_2:=blk_frozen BK620.out 2
                   have p622:0≤(((rd_T56 l1 x23_2).f1):Int):=of_decide_eq_true (by first|(with_reducible assumption)|assumption)
                   have q622:((rd_T56 l1 x23_2).f1)<(l0_1.length:Int):=of_decide_eq_true (by first|(with_reducible assumption)|assumption)
                   obtain ⟨ad622,e622,hx622_0,hx622_1⟩:=at_T88 HR0_1.out ((rd_T56 l1 x23_2).f1) p622 q622
                   cases e622
                   replace hx622_0:=(HB.out.cell (World.block_lt_of_cell? w _ hx622_0)).trans hx622_0
                   replace hx622_1:=(HB.out.cell (World.block_lt_of_cell? w _ hx622_1)).trans hx622_1
                   replace p622:=eq_true p622
                   replace q622:=eq_true q622
                   try go_wp2_with (first|((with_reducible refine gate_dst (N:=9) rfl ?_);(try (refine gate_guard (by rfl) ?_;dsimp only));refine box_event ?hg (N:=9) ?hd (cs:=#[.int .i64 0,.int .i64 0]) (t:=88) ?hr ?_;(case hd=>rfl);(case hg=>rfl);(case hr=>first|(go_simp;done)|(go_simp;rfl));intro gb623 hg w92 hbox hb;have n0_:=Aside0.mk (Kd.R_below (by exact HO_5.out) hb);have n1_:=Aside0.mk (Kd.S_below (by exact HO_6.out) hb);have n2_:=Aside0.mk (blk_below (g:=gb614) (o:=.cells #[.int .i64 a0_0,.slice (some ad622) l0_1.length c0_1] 30 (0,0)) (by exact BK614.out) hb);have n3_:=Aside0.mk (blk_below (g:=gb620) (o:=.cells #[.int .i64 ((rd_T56 l1 x23_2).f0),.int .i64 ((rd_T56 l1 x23_2).f1),.int .i64 ((rd_T56 l1 x23_2).f2)] 56 (0,0)) (by exact BK620.out) hb);have n4_:=Aside0.mk (below_step (by exact HB.out) hb);have n5_:=Aside0.mk (hbox);have n6_:=Aside0.mk ((by rw [hg];exact (below_size (by exact HB.out)):w.heap.size≤gb623));have n7_:=Aside0.mk ((by rw [hg];exact (below_size (by exact HB.out)):w.heap.size≤gb623));have n8_:=Aside0.mk ((by rw [hg];exact Nat.ne_of_lt (blk_lt (g:=gb614) (o:=.cells #[.int .i64 a0_0,.slice (some ad622) l0_1.length c0_1] 30 (0,0)) (by exact BK614.out)):gb614 ≠ gb623));have n9_:=Aside0.mk ((by rw [hg];exact Nat.ne_of_gt (blk_lt (g:=gb614) (o:=.cells #[.int .i64 a0_0,.slice (some ad622) l0_1.length c0_1] 30 (0,0)) (by exact BK614.out)):gb623 ≠ gb614));have n10_:=Aside0.mk ((by rw [hg];exact Nat.ne_of_lt (blk_lt (g:=gb620) (o:=.cells #[.int .i64 ((rd_T56 l1 x23_2).f0),.int .i64 ((rd_T56 l1 x23_2).f1),.int .i64 ((rd_T56 l1 x23_2).f2)] 56 (0,0)) (by exact BK620.out)):gb620 ≠ gb623));have n11_:=Aside0.mk ((by rw [hg];exact Nat.ne_of_gt (blk_lt (g:=gb620) (o:=.cells #[.int .i64 ((rd_T56 l1 x23_2).f0),.int .i64 ((rd_T56 l1 x23_2).f1),.int .i64 ((rd_T56 l1 x23_2).f2)] 56 (0,0)) (by exact BK620.out)):gb623 ≠ gb620));clear HO_5;clear HO_6;clear BK614;clear BK620;clear HB;have HO_5:=n0_;have HO_6:=n1_;have BK614:=n2_;have BK620:=n3_;have HB:=n4_;have BK623:=n5_;have GW623:=n6_;have GE623:=n7_;have NB614_623:=n8_;have NB623_614:=n9_;have NB620_623:=n10_;have NB623_620:=n11_;clear n0_ n1_ n2_ n3_ n4_ n5_ n6_ n7_ n8_ n9_ n10_ n11_;clear hb hbox hg;have hnb93:=NB623_614.out;have hnc93:=NB614_623.out;have hnb94:=NB623_620.out;have hnc94:=NB620_623.out;have hcz95_0:w92.cell? ⟨gb623,0,none⟩=some (.int .i64 0):=(blk_cell BK623.out 0).trans rfl;have hcz95_1:w92.cell? ⟨gb623,1,none⟩=some (.int .i64 0):=(blk_cell BK623.out 1).trans rfl;have hfz95_0:=blk_frozen BK623.out 0;have hfz95_1:=blk_frozen BK623.out 1))
                   have n0_:Aside0 (Kd.R (Kd.int .i64) 3 ((w92.setCell ⟨gb623,0,none⟩ (.int .i64 ((rd_T88 l0_1 ((rd_T56 l1 x23_2).f1)).f0))).setCell ⟨gb623,1,none⟩ (.int .i64 ((rd_T88 l0_1 ((rd_T56 l1 x23_2).f1)).f1))) w.heap.size (fun _=>True) v617 x5_2):=⟨by exact Kd.R_mono (Kd.R_far (p:=⟨gb623,1,none⟩) (Kd.R_far (p:=⟨gb623,0,none⟩) (Kd.R_types HO_5.out BK623.out (by decide)) (fun _ hk=>hk.2) (.int .i64 ((rd_T88 l0_1 ((rd_T56 l1 x23_2).f1)).f0))) (fun _ hk=>hk.2) (.int .i64 ((rd_T88 l0_1 ((rd_T56 l1 x23_2).f1)).f1))) (fun _ hk=>trivial)⟩
                   have n1_:Aside0 (Kd.S (Kd.slice 3 (Kd.int .i64)) 59 ((w92.setCell ⟨gb623,0,none⟩ (.int .i64 ((rd_T88 l0_1 ((rd_T56 l1 x23_2).f1)).f0))).setCell ⟨gb623,1,none⟩ (.int .i64 ((rd_T88 l0_1 ((rd_T56 l1 x23_2).f1)).f1))) w.heap.size (fun k_=>some k_ ≠ (v617:Value).ownBlock) u6 x6_2):=⟨by exact Kd.S_mono (Kd.S_far (p:=⟨gb623,1,none⟩) (Kd.S_far (p:=⟨gb623,0,none⟩) (Kd.S_types HO_6.out BK623.out (by decide)) (fun _ hk=>hk.2) (.int .i64 ((rd_T88 l0_1 ((rd_T56 l1 x23_2).f1)).f0))) (fun _ hk=>hk.2) (.int .i64 ((rd_T88 l0_1 ((rd_T56 l1 x23_2).f1)).f1))) (fun _ hk=>hk.1)⟩
                   have n2_:Aside0 (((w92.setCell ⟨gb623,0,none⟩ (.int .i64 ((rd_T88 l0_1 ((rd_T56 l1 x23_2).f1)).f0))).setCell ⟨gb623,1,none⟩ (.int .i64 ((rd_T88 l0_1 ((rd_T56 l1 x23_2).f1)).f1))).heap[gb614]?=some (.cells #[.int .i64 a0_0,.slice (some ad622) l0_1.length c0_1] 30 (0,0))):=⟨by (with_reducible repeat (first|refine blk_drewN ?_ _|refine blk_drew ?_|refine blk_alloc ?_ _));refine blk_far ?_ NB614_623.out _;(with_reducible repeat (first|refine blk_drewN ?_ _|refine blk_drew ?_|refine blk_alloc ?_ _));refine blk_far ?_ NB614_623.out _;(with_reducible repeat (first|refine blk_drewN ?_ _|refine blk_drew ?_|refine blk_alloc ?_ _));exact BK614.out⟩
                   have n3_:Aside0 (((w92.setCell ⟨gb623,0,none⟩ (.int .i64 ((rd_T88 l0_1 ((rd_T56 l1 x23_2).f1)).f0))).setCell ⟨gb623,1,none⟩ (.int .i64 ((rd_T88 l0_1 ((rd_T56 l1 x23_2).f1)).f1))).heap[gb620]?=some (.cells #[.int .i64 ((rd_T56 l1 x23_2).f0),.int .i64 ((rd_T56 l1 x23_2).f1),.int .i64 ((rd_T56 l1 x23_2).f2)] 56 (0,0))):=⟨by (with_reducible repeat (first|refine blk_drewN ?_ _|refine blk_drew ?_|refine blk_alloc ?_ _));refine blk_far ?_ NB620_623.out _;(with_reducible repeat (first|refine blk_drewN ?_ _|refine blk_drew ?_|refine blk_alloc ?_ _));refine blk_far ?_ NB620_623.out _;(with_reducible repeat (first|refine blk_drewN ?_ _|refine blk_drew ?_|refine blk_alloc ?_ _));exact BK620.out⟩
                   have n4_:Aside0 (((w92.setCell ⟨gb623,0,none⟩ (.int .i64 ((rd_T88 l0_1 ((rd_T56 l1 x23_2).f1)).f0))).setCell ⟨gb623,1,none⟩ (.int .i64 ((rd_T88 l0_1 ((rd_T56 l1 x23_2).f1)).f1))).heap[gb623]?=some (.cells #[.int .i64 ((rd_T88 l0_1 ((rd_T56 l1 x23_2).f1)).f0),.int .i64 ((rd_T88 l0_1 ((rd_T56 l1 x23_2).f1)).f1)] 88 (0,0))):=⟨by (with_reducible repeat (first|refine blk_drewN ?_ _|refine blk_drew ?_|refine blk_alloc ?_ _));refine blk_put (cs:=#[.int .i64 ((rd_T88 l0_1 ((rd_T56 l1 x23_2).f1)).f0),.int .i64 0]) ?_ 1 _ rfl;(with_reducible repeat (first|refine blk_drewN ?_ _|refine blk_drew ?_|refine blk_alloc ?_ _));refine blk_put (cs:=#[.int .i64 0,.int .i64 0]) ?_ 0 _ rfl;(with_reducible repeat (first|refine blk_drewN ?_ _|refine blk_drew ?_|refine blk_alloc ?_ _));exact BK623.out⟩
                   have n5_:Aside0 (Below w.heap.size w ((w92.setCell ⟨gb623,0,none⟩ (.int .i64 ((rd_T88 l0_1 ((rd_T56 l1 x23_2).f1)).f0))).setCell ⟨gb623,1,none⟩ (.int .i64 ((rd_T88 l0_1 ((rd_T56 l1 x23_2).f1)).f1)))):=⟨by repeat (first|(with_reducible first|exact HB.out|apply below_alloc|apply pw_below_drewN|apply below_drew1|refine below_set ?_ GE614.out|refine below_set ?_ GE620.out|refine below_set ?_ GE623.out)|exact HB.out)⟩
                   (try clear HO_5)
                   (try clear HO_6)
                   (try clear BK614)
                   (try clear BK620)
                   (try clear BK623)
                   (try clear HB)
                   generalize ((w92.setCell ⟨gb623,0,none⟩ (.int .i64 ((rd_T88 l0_1 ((rd_T56 l1 x23_2).f1)).f0))).setCell ⟨gb623,1,none⟩ (.int .i64 ((rd_T88 l0_1 ((rd_T56 l1 x23_2).f1)).f1)))=w96 at n0_ n1_ n2_ n3_ n4_ n5_ ⊢
                   have HO_5:=n0_
                   have HO_6:=n1_
                   have BK614:=n2_
                   have BK620:=n3_
                   have BK623:=n4_
                   have HB:=n5_
                   clear n0_ n1_ n2_ n3_ n4_ n5_
                   have n0_:=Aside0.mk (Kd.R_drew HO_5.out)
                   have n1_:=Aside0.mk (Kd.S_drew HO_6.out)
                   have n2_:=Aside0.mk (blk_drew BK614.out)
                   have n3_:=Aside0.mk (blk_drew BK620.out)
                   have n4_:=Aside0.mk (blk_drew BK623.out)
                   have n5_:=Aside0.mk (below_drew1 HB.out)
                   clear HO_5
                   clear HO_6
                   clear BK614
                   clear BK620
                   clear BK623
                   clear HB
                   have HO_5:=n0_
                   have HO_6:=n1_
                   have BK614:=n2_
                   have BK620:=n3_
                   have BK623:=n4_
                   have HB:=n5_
                   clear n0_ n1_ n2_ n3_ n4_ n5_
                   obtain ⟨Ao98,co98,eo98⟩:=Kd.R_slice HO_5.out
                   (first|subst eo98|(injection eo98 with f1_ f2_ f3_;have f4_:=f1_.symm;have f5_:=f3_.symm;clear f1_ f2_ f3_;subst f4_;subst f5_))
                   have p640:0≤(((rd_T88 l0_1 ((rd_T56 l1 x23_2).f1)).f1):Int):=of_decide_eq_true (by first|(with_reducible assumption)|assumption)
                   have q640:((rd_T88 l0_1 ((rd_T56 l1 x23_2).f1)).f1)<(x5_2.length:Int):=of_decide_eq_true (by first|(with_reducible assumption)|assumption)
                   obtain ⟨ad640,e640,hx640_0⟩:=Kd.at_int (Kd.R_reads' HO_5.out).2.2 ((rd_T88 l0_1 ((rd_T56 l1 x23_2).f1)).f1) p640 q640
                   cases e640
                   replace p640:=eq_true p640
                   replace q640:=eq_true q640
                   have p86:0≤(((rd_T88 l0_1 ((rd_T56 l1 x23_2).f1)).f1):Int):=of_decide_eq_true (by first|(with_reducible assumption)|assumption)
                   have q86:(((rd_T88 l0_1 ((rd_T56 l1 x23_2).f1)).f1):Int)<((x5_2.length:Int):Int):=of_decide_eq_true (by first|(with_reducible assumption)|assumption)
                   obtain ⟨go86,co86,eo86,gb86,gl86,cl86,HG86⟩:=Kd.R_form HO_5.out (by omega)
                   (first|cases eo86|(injection eo86 with ea_ en_ ec_;(first|subst ea_|(injection ea_ with ea_;subst ea_));subst ec_;clear en_))
                   have GB86:=Aside0.mk gb86
                   have GG86:=Aside0.mk HG86
                   clear gb86 gl86 HG86
                   (first|simp only [add_plain] at hx640_0|skip)
                   obtain ⟨hx86_0,hf86_0⟩:=Kd.R_celln 0 HO_5.out (((rd_T88 l0_1 ((rd_T56 l1 x23_2).f1)).f1):Int) p86 q86
                   replace p86:=eq_true p86
                   replace q86:=eq_true q86
                   have HP99:=Kd.R_putn HO_5.out (((rd_T88 l0_1 ((rd_T56 l1 x23_2).f1)).f1):Int) (wrap64 ((rd x5_2 ((rd_T88 l0_1 ((rd_T56 l1 x23_2).f1)).f1))+((rd_T56 l1 x23_2).f2)))
                   rw [← Ny641.out] at HP99
                   have HQ99:=Aside0.mk HP99
                   clear HP99
                   refine start_ (n:=10) (S:=fun w'=>w'.cell? ⟨gb623,0,none⟩=some (.int .i64 ((rd_T88 l0_1 ((rd_T56 l1 x23_2).f1)).f0))∧w'.cell? ⟨gb623,1,none⟩=some (.int .i64 ((rd_T88 l0_1 ((rd_T56 l1 x23_2).f1)).f1))∧w'.cell? ⟨gb620,0,none⟩=some (.int .i64 ((rd_T56 l1 x23_2).f0))∧w'.cell? ⟨gb620,1,none⟩=some (.int .i64 ((rd_T56 l1 x23_2).f1))∧w'.cell? ⟨gb620,2,none⟩=some (.int .i64 ((rd_T56 l1 x23_2).f2))∧w'.cell? ⟨go86,(((rd_T88 l0_1 ((rd_T56 l1 x23_2).f1)).f1)).toNat,none⟩=some (.int .i64 (rd x5_2 ((rd_T88 l0_1 ((rd_T56 l1 x23_2).f1)).f1)))) (ds:=[9]) #[false,false,false,false,false,false,false,false,false,false] (by kernel_rfl) rfl rfl ⟨(blk_cell BK623.out 0).trans rfl,(blk_cell BK623.out 1).trans rfl,(blk_cell BK620.out 0).trans rfl,(blk_cell BK620.out 1).trans rfl,(blk_cell BK620.out 2).trans rfl,hx640_0⟩ (fun hHeld=>?_);refine with_tabW impl_Truth.tab13 impl_Truth.bits13 (fun HT_ HW_=>?_)
                   generalize w96.drew=w97 at HO_5 HO_6 BK614 BK620 BK623 HB GG86 HQ99 hf86_0 hx640_0 hx86_0 hHeld ⊢
                   refine pure_ (i:=0) (N:=some 56) (v:=?_) (a':=?_) #[true,false,false,false,false,false,false,false,false,false] rfl rfl (any_of HT_.out (by kernel_rfl)) (fun _ _ _ h=>h) (Or.inl ⟨by rfl,?_⟩) ?_ ?_
                   rotate_left
                   ·intro w'
                    go_simp
                    with_reducible rfl
                   rotate_left
                   ·simp only [Act.put,List.setIfInBounds_toArray,List.set_cons_zero,List.set_cons_succ,i64_w,i32_w]
                    rfl
                   refine pure_ (i:=1) (N:=some 57) (v:=?_) (a':=?_) #[true,true,false,false,false,false,false,false,false,false] rfl rfl (any_of HT_.out (by kernel_rfl)) (fun _ _ _ h=>h) (Or.inl ⟨by rfl,?_⟩) ?_ ?_
                   rotate_left
                   ·intro w'
                    go_simp
                    with_reducible rfl
                   rotate_left
                   ·simp only [Act.put,List.setIfInBounds_toArray,List.set_cons_zero,List.set_cons_succ,i64_w,i32_w]
                    rfl
                   refine pure_ (i:=5) (N:=some 61) (v:=?_) (a':=?_) #[true,true,false,false,false,true,false,false,false,false] rfl rfl (any_of HT_.out (by kernel_rfl)) (fun _ _ _ h=>h) (Or.inl ⟨by rfl,?_⟩) ?_ ?_
                   rotate_left
                   ·intro w'
                    go_simp
                    with_reducible rfl
                   rotate_left
                   ·simp only [Act.put,List.setIfInBounds_toArray,List.set_cons_zero,List.set_cons_succ,i64_w,i32_w]
                    rfl
                   refine take_ (i:=2) (N:=some 58) (v:=?_) (a':=?_) #[true,true,true,false,false,true,false,false,false,false] rfl rfl (take_ofW HT_.out HW_.out (by kernel_rfl)) (fun _ _ _ h=>h) (Or.inl ⟨by rfl,?_⟩) hHeld ?_ ?_
                   rotate_left
                   ·rintro w' ⟨s0,s1,s2,s3,s4,s5⟩
                    go_simp
                    with_reducible rfl
                   rotate_left
                   ·simp only [Act.put,List.setIfInBounds_toArray,List.set_cons_zero,List.set_cons_succ,i64_w,i32_w]
                    rfl
                   refine pure_ (i:=3) (N:=some 59) (v:=?_) (a':=?_) #[true,true,true,true,false,true,false,false,false,false] rfl rfl (any_of HT_.out (by kernel_rfl)) (fun _ _ _ h=>h) (Or.inl ⟨by rfl,?_⟩) ?_ ?_
                   rotate_left
                   ·intro w'
                    go_simp
                    with_reducible rfl
                   rotate_left
                   ·simp only [Act.put,List.setIfInBounds_toArray,List.set_cons_zero,List.set_cons_succ,i64_w,i32_w]
                    rfl
                   refine take_ (i:=4) (N:=some 60) (v:=?_) (a':=?_) #[true,true,true,true,true,true,false,false,false,false] rfl rfl (take_ofW HT_.out HW_.out (by kernel_rfl)) (fun _ _ _ h=>h) (Or.inl ⟨by rfl,?_⟩) hHeld ?_ ?_
                   rotate_left
                   ·rintro w' ⟨s0,s1,s2,s3,s4,s5⟩
                    go_simp
                    with_reducible rfl
                   rotate_left
                   ·simp only [Act.put,List.setIfInBounds_toArray,List.set_cons_zero,List.set_cons_succ,i64_w,i32_w]
                    rfl
                   refine take_ (i:=6) (N:=some 62) (v:=?_) (a':=?_) #[true,true,true,true,true,true,true,false,false,false] rfl rfl (take_ofW HT_.out HW_.out (by kernel_rfl)) (fun _ _ _ h=>h) (Or.inl ⟨by rfl,?_⟩) hHeld ?_ ?_
                   rotate_left
                   ·rintro w' ⟨s0,s1,s2,s3,s4,s5⟩
                    go_simp
                    with_reducible rfl
                   rotate_left
                   ·simp only [Act.put,List.setIfInBounds_toArray,List.set_cons_zero,List.set_cons_succ,i64_w,i32_w]
                    rfl
                   refine pure_ (i:=7) (N:=some 63) (v:=?_) (a':=?_) #[true,true,true,true,true,true,true,true,false,false] rfl rfl (any_of HT_.out (by kernel_rfl)) (fun _ _ _ h=>h) (Or.inl ⟨by rfl,?_⟩) ?_ ?_
                   rotate_left
                   ·intro w'
                    go_simp
                    with_reducible rfl
                   rotate_left
                   ·simp only [Act.put,List.setIfInBounds_toArray,List.set_cons_zero,List.set_cons_succ,i64_w,i32_w]
                    rfl
                   refine pure_ (i:=8) (N:=some 64) (v:=?_) (a':=?_) #[true,true,true,true,true,true,true,true,true,false] rfl rfl (any_of HT_.out (by kernel_rfl)) (fun _ _ _ h=>h) (Or.inl ⟨by rfl,?_⟩) ?_ ?_
                   rotate_left
                   ·intro w'
                    go_simp
                    with_reducible rfl
                   rotate_left
                   ·simp only [Act.put,List.setIfInBounds_toArray,List.set_cons_zero,List.set_cons_succ,i64_w,i32_w]
                    rfl
                   refine last_ (i:=9) (N:=none) #[true,true,true,true,true,true,true,true,true,true] rfl rfl (one_of HT_.out (by kernel_rfl)) (by decide) (fun K hK=>?_)
                   refine skip_ (w1:=?_) (by rfl) rfl ?_ ?_
                   rotate_left
                   ·go_simp
                    rfl
                   refine hK.out _ _ ?_
                   clear hK K
                   refine done_ (done_of HT_.out (by kernel_rfl)) ?_
                   try go_wp2_with (first|((with_reducible refine gate_callee (f:=110) rfl ?_);refine goesL_ (some 67) rfl rfl Try.func110 (by kernel_rfl) rfl #[.slice (some ⟨go86,0,none⟩) y641.length co98] rfl (by (try simp only [List.map_toArray,List.map_cons,List.map_nil]);first|done|(rw [show y641.length=x5_2.length from (Kd.R_reads' HQ99.out).1.symm] <;> rfl)|rfl|(simp only [List.length_drop,List.length_take];rfl)) ?_;(with_reducible refine (slices_Clone_int_int.calls _ _ y641 t642 _ ?side1 ?side2 A87.out).mono ?_);(case side1=>refine (Kd.R_reads' (e:=3) (base:=w.heap.size) (ok:=fun k_=>True) (n:=x5_2.length) (c:=co98) ?_).2.2;exact (by (with_reducible repeat (first|apply Kd.R_alloc|apply Kd.R_drewN|apply Kd.R_drew));exact HQ99.out));(case side2=>rw [show y641.length=x5_2.length from (Kd.R_reads' HQ99.out).1.symm];exact (Kd.R_reads' HO_5.out).2.1);rintro e w100 ⟨v643,rfl,ho0,hb⟩;refine ⟨_,rfl,?_⟩;have n0_:=Aside0.mk (Kd.R_elder' (by (with_reducible repeat (first|apply Kd.R_alloc|apply Kd.R_drewN|apply Kd.R_drew));exact HQ99.out) (Kd.R_base ho0) hb);have n1_:=Aside0.mk (Kd.S_elder' (by (with_reducible repeat (first|apply Kd.S_alloc|apply Kd.S_drewN|apply Kd.S_drew));exact (Kd.S_mono (Kd.S_far (p:=⟨go86,(((rd_T88 l0_1 ((rd_T56 l1 x23_2).f1)).f1):Int).toNat,none⟩) (Kd.S_mono HO_6.out (fun k_ hk=>(⟨hk,fun e_=>hk (by rw [e_];rfl)⟩:_∧k_ ≠ go86))) (fun _ hk=>hk.2) (.int .i64 (wrap64 ((rd x5_2 ((rd_T88 l0_1 ((rd_T56 l1 x23_2).f1)).f1))+((rd_T56 l1 x23_2).f2))))) (fun _ h_=>h_.1))) (Kd.R_base ho0) hb);have n2_:=Aside0.mk (Kd.R_lower (Kd.R_new' ho0 (Kd.R_lt (by (with_reducible repeat (first|apply Kd.R_alloc|apply Kd.R_drewN|apply Kd.R_drew));exact HQ99.out))) (below_size (by repeat (first|(with_reducible first|exact HB.out|apply below_alloc|apply pw_below_drewN|apply below_drew1|refine below_set ?_ GB86.out|refine below_set ?_ GE614.out|refine below_set ?_ GE620.out|refine below_set ?_ GE623.out)|exact HB.out))));have n3_:=Aside0.mk (blk_below (g:=gb614) (o:=.cells #[.int .i64 a0_0,.slice (some ad622) l0_1.length c0_1] 30 (0,0)) (by (with_reducible repeat (first|refine blk_drewN ?_ _|refine blk_drew ?_|refine blk_alloc ?_ _));refine blk_far ?_ (by have h_:=Kd.R_ne HO_5.out BK614.out (by decide);intro e_;exact h_ (by rw [e_];rfl)) _;(with_reducible repeat (first|refine blk_drewN ?_ _|refine blk_drew ?_|refine blk_alloc ?_ _));exact BK614.out) hb);have n4_:=Aside0.mk (blk_below (g:=gb620) (o:=.cells #[.int .i64 ((rd_T56 l1 x23_2).f0),.int .i64 ((rd_T56 l1 x23_2).f1),.int .i64 ((rd_T56 l1 x23_2).f2)] 56 (0,0)) (by (with_reducible repeat (first|refine blk_drewN ?_ _|refine blk_drew ?_|refine blk_alloc ?_ _));refine blk_far ?_ (by have h_:=Kd.R_ne HO_5.out BK620.out (by decide);intro e_;exact h_ (by rw [e_];rfl)) _;(with_reducible repeat (first|refine blk_drewN ?_ _|refine blk_drew ?_|refine blk_alloc ?_ _));exact BK620.out) hb);have n5_:=Aside0.mk (blk_below (g:=gb623) (o:=.cells #[.int .i64 ((rd_T88 l0_1 ((rd_T56 l1 x23_2).f1)).f0),.int .i64 ((rd_T88 l0_1 ((rd_T56 l1 x23_2).f1)).f1)] 88 (0,0)) (by (with_reducible repeat (first|refine blk_drewN ?_ _|refine blk_drew ?_|refine blk_alloc ?_ _));refine blk_far ?_ (by have h_:=Kd.R_ne HO_5.out BK623.out (by decide);intro e_;exact h_ (by rw [e_];rfl)) _;(with_reducible repeat (first|refine blk_drewN ?_ _|refine blk_drew ?_|refine blk_alloc ?_ _));exact BK623.out) hb);have n6_:=Aside0.mk (below_step (by repeat (first|(with_reducible first|exact HB.out|apply below_alloc|apply pw_below_drewN|apply below_drew1|refine below_set ?_ GB86.out|refine below_set ?_ GE614.out|refine below_set ?_ GE620.out|refine below_set ?_ GE623.out)|exact HB.out)) hb);clear HO_5;clear HO_6;clear BK614;clear BK620;clear BK623;clear HB;have HO_5:=n0_;have HO_6:=n1_;have HO644:=n2_;have BK614:=n3_;have BK620:=n4_;have BK623:=n5_;have HB:=n6_;clear n0_ n1_ n2_ n3_ n4_ n5_ n6_;(try clear hb);(try clear hb2);(try clear hk);(try clear hi);(try clear ho0);obtain ⟨Ao102,co102,eo102⟩:=Kd.R_slice HO644.out;subst eo102)|((with_reducible refine gate_builtin (b:=.append) (xs:=#[.tmp 65,.tmp 68]) rfl ?_);(try (refine gate_guard (by rfl) ?_;dsimp only));at_builtin;refine Kd.S_append (Kd.slice 3 (Kd.int .i64)) (w0:=w) w.heap.size rfl (.tmp 65) (.tmp 68) 73 59 (.slice none 0 0) 24 rfl Try.underlying73 info59 rfl (by decide) (by omega) u6 x6_2 t642 [.slice Ao102 t642.length co102] (fun k_=>some k_ ≠ (.slice (some ⟨go86,0,none⟩) x5_2.length co98:Value).ownBlock) (fun k_=>some k_=(.slice Ao102 t642.length co102:Value).ownBlock) rfl rfl ?aP (fun k_ hk_=>((Kd.R_mono (ok':=fun k_=>((fun k_=>some k_ ≠ (.slice (some ⟨go86,0,none⟩) x5_2.length co98:Value).ownBlock)) k_∧some k_ ≠ (u6:Value).ownBlock) (Kd.R_apart' (HO644.out) (Kd.S_typed HO_6.out) (by decide)) (fun k_ hk=>⟨hk.1.2,hk.2⟩))).1 k_ hk_.symm) ?aF ?aO ?aB ?aS ?aL ?_;(case aP=>exact Kd.M_row (Kd.R_mono (Kd.R_tight rfl (Kd.R_mono (ok':=fun k_=>((fun k_=>some k_ ≠ (.slice (some ⟨go86,0,none⟩) x5_2.length co98:Value).ownBlock)) k_∧some k_ ≠ (u6:Value).ownBlock) (Kd.R_apart' (HO644.out) (Kd.S_typed HO_6.out) (by decide)) (fun k_ hk=>⟨hk.1.2,hk.2⟩))) (fun _ h_=>h_)));(case aB=>exact (by repeat (first|(with_reducible first|exact HB.out|apply below_alloc|apply pw_below_drewN|apply below_drew1|refine below_set ?_ GE614.out|refine below_set ?_ GE620.out|refine below_set ?_ GE623.out)|exact HB.out)));(case aF=>exact (fun k_ hk=>Kd.fresh' (Kd.R_lt (by (with_reducible repeat (first|apply Kd.R_alloc|apply Kd.R_drewN|apply Kd.R_drew));exact HO_5.out)) k_ hk));(case aO=>exact (by (with_reducible repeat (first|apply Kd.S_alloc|apply Kd.S_drewN|apply Kd.S_drew));exact Kd.S_mono HO_6.out (fun k_ hk=>⟨hk.1,fun e_=>hk.2 e_⟩)));(case aS=>exact (below_size (by repeat (first|(with_reducible first|exact HB.out|apply below_alloc|apply pw_below_drewN|apply below_drew1|refine below_set ?_ GE614.out|refine below_set ?_ GE620.out|refine below_set ?_ GE623.out)|exact HB.out))));(case aL=>have:=LMc88.out;omega);intro v646 w101 ho hb hg hat;rw [← Ny645.out] at ho;have n0_:=Aside0.mk (Kd.R_over' (by (with_reducible repeat (first|apply Kd.R_alloc|apply Kd.R_drewN|apply Kd.R_drew));exact HO_5.out) (Kd.S_typed (by (with_reducible repeat (first|apply Kd.S_alloc|apply Kd.S_drewN|apply Kd.S_drew));exact HO_6.out)) (by decide) hg);have n1_:=Aside0.mk (blk_grown (g:=gb614) (o:=.cells #[.int .i64 a0_0,.slice (some ad622) l0_1.length c0_1] 30 (0,0)) (by (with_reducible repeat (first|refine blk_drewN ?_ _|refine blk_drew ?_|refine blk_alloc ?_ _));exact BK614.out) hg (Kd.S_ne HO_6.out BK614.out (by decide)));have n2_:=Aside0.mk (blk_grown (g:=gb620) (o:=.cells #[.int .i64 ((rd_T56 l1 x23_2).f0),.int .i64 ((rd_T56 l1 x23_2).f1),.int .i64 ((rd_T56 l1 x23_2).f2)] 56 (0,0)) (by (with_reducible repeat (first|refine blk_drewN ?_ _|refine blk_drew ?_|refine blk_alloc ?_ _));exact BK620.out) hg (Kd.S_ne HO_6.out BK620.out (by decide)));have n3_:=Aside0.mk (blk_grown (g:=gb623) (o:=.cells #[.int .i64 ((rd_T88 l0_1 ((rd_T56 l1 x23_2).f1)).f0),.int .i64 ((rd_T88 l0_1 ((rd_T56 l1 x23_2).f1)).f1)] 88 (0,0)) (by (with_reducible repeat (first|refine blk_drewN ?_ _|refine blk_drew ?_|refine blk_alloc ?_ _));exact BK623.out) hg (Kd.S_ne HO_6.out BK623.out (by decide)));have n4_:=Aside0.mk (hb);have n5_:=Aside0.mk (ho);clear HO_5;clear BK614;clear BK620;clear BK623;clear HB;clear HO_6;clear HO644;have HO_5:=n0_;have BK614:=n1_;have BK620:=n2_;have BK623:=n3_;have HB:=n4_;have HO647:=n5_;clear n0_ n1_ n2_ n3_ n4_ n5_;clear ho hb hg hat))
                   go_roundg kj19
                   case measure=>have:=HJ2.out;have:=HK2.out;have:=HJ19.out;omega
                   case rel=>exact ⟨(y641),(y645),(wrap64 (x23_2+1)),(by first|rfl|(simp;done)|(simp [*];done)),H',⟨by have:=HJ2.out;have:=HK2.out;have:=HJ19.out;omega⟩,⟨by (with_reducible repeat (first|apply Kd.R_alloc|apply Kd.R_drewN|apply Kd.R_drew));exact Kd.R_mono HO_5.out (fun _ hk=>trivial)⟩,⟨by (with_reducible repeat (first|apply Kd.S_alloc|apply Kd.S_drewN|apply Kd.S_drew));exact HO647.out⟩,⟨by (with_reducible repeat (first|refine blk_drewN ?_ _|refine blk_drew ?_|refine blk_alloc ?_ _));exact BK614.out⟩,⟨by repeat (first|(with_reducible first|exact HB.out|apply below_alloc|apply pw_below_drewN|apply below_drew1|refine below_set ?_ GE614.out|refine below_set ?_ GE620.out|refine below_set ?_ GE623.out)|exact HB.out)⟩⟩
                  rw [if_neg c88] at H
                  exact absurd H (by simp)
                 rw [if_neg c85] at H
                 exact absurd H (by simp)
                rw [if_neg c84] at H
                exact absurd H (by simp)
               rw [if_neg c83] at H
               have c83b0:decide (0≤((rd_T88 l0_1 ((rd_T56 l1 x23_2).f1)).f1))=false:=decide_eq_false c83
               clear c83
               replace H:=Option.bind_eq_some_iff.mp H
               obtain ⟨t648,A1030,H⟩:=H
               replace H:(if x6_2.length<5864062014805 then (impl_Truth.l0 kj19 x5_2 (x6_2 ++ [t648]) l1 (l1.length:Int) (wrap64 (x23_2+1)) a0_0 l0_1) else (none))=some r:=H
               have A103:=Aside0.mk A1030
               clear A1030
               by_cases c104:x6_2.length<5864062014805
               ·rw [if_pos c104] at H
                have LMc104:=Aside0.mk c104
                clear c104
                obtain ⟨y651,hy651⟩:∃ y_:List (List Int),y_=(x6_2 ++ [t648]):=⟨_,rfl⟩
                replace H:(impl_Truth.l0 kj19 x5_2 y651 l1 (l1.length:Int) (wrap64 (x23_2+1)) a0_0 l0_1)=some r:=by first|(rw [hy651];with_reducible exact H)|(have H2_:=(Option.bind_some _ _).symm.trans H;rw [hy651];with_reducible exact H2_)|(have H2_:=(Option.bind_some _ _).symm.trans H;with_reducible exact H2_)|with_reducible exact H|(rw [hy651];exact H)|exact H
                have Ny651:=Aside0.mk hy651
                clear hy651
                have H':=Aside0.mk H
                clear H
                have hnb105:=NB614_620.out
                have hnc105:=NB620_614.out
                have hcz106_0:wc.cell? ⟨gb614,0,none⟩=some (.int .i64 a0_0):=(blk_cell BK614.out 0).trans rfl
                have hcz106_1:wc.cell? ⟨gb614,1,none⟩=some (.slice A0_1 l0_1.length c0_1):=(blk_cell BK614.out 1).trans rfl
                have hfz106_0:=blk_frozen BK614.out 0
                have hfz106_1:=blk_frozen BK614.out 1
                have hcz107_0:wc.cell? ⟨gb620,0,none⟩=some (.int .i64 ((rd_T56 l1 x23_2).f0)):=(blk_cell BK620.out 0).trans rfl
                have hcz107_1:wc.cell? ⟨gb620,1,none⟩=some (.int .i64 ((rd_T56 l1 x23_2).f1)):=(blk_cell BK620.out 1).trans rfl
                have hcz107_2:wc.cell? ⟨gb620,2,none⟩=some (.int .i64 ((rd_T56 l1 x23_2).f2)):=(blk_cell BK620.out 2).trans rfl
                have hfz107_0:=blk_frozen BK620.out 0
                have hfz107_1:=blk_frozen BK620.out 1
                have hfz107_2:=blk_frozen BK620.out 2
                have p622:0≤(((rd_T56 l1 x23_2).f1):Int):=of_decide_eq_true (by first|(with_reducible assumption)|assumption)
                have q622:((rd_T56 l1 x23_2).f1)<(l0_1.length:Int):=of_decide_eq_true (by first|(with_reducible assumption)|assumption)
                obtain ⟨ad622,e622,hx622_0,hx622_1⟩:=at_T88 HR0_1.out ((rd_T56 l1 x23_2).f1) p622 q622
                cases e622
                replace hx622_0:=(HB.out.cell (World.block_lt_of_cell? w _ hx622_0)).trans hx622_0
                replace hx622_1:=(HB.out.cell (World.block_lt_of_cell? w _ hx622_1)).trans hx622_1
                replace p622:=eq_true p622
                replace q622:=eq_true q622
                go_wp2_with (first|((with_reducible refine gate_dst (N:=9) rfl ?_);(try (refine gate_guard (by rfl) ?_;dsimp only));refine box_event ?hg (N:=9) ?hd (cs:=#[.int .i64 0,.int .i64 0]) (t:=88) ?hr ?_;(case hd=>rfl);(case hg=>rfl);(case hr=>first|(go_simp;done)|(go_simp;rfl));intro gb623 hg w108 hbox hb;have n0_:=Aside0.mk (Kd.R_below (by (with_reducible repeat (first|apply Kd.R_alloc|apply Kd.R_drewN|apply Kd.R_drew));exact HO_5.out) hb);have n1_:=Aside0.mk (Kd.S_below (by (with_reducible repeat (first|apply Kd.S_alloc|apply Kd.S_drewN|apply Kd.S_drew));exact HO_6.out) hb);have n2_:=Aside0.mk (blk_below (g:=gb614) (o:=.cells #[.int .i64 a0_0,.slice (some ad622) l0_1.length c0_1] 30 (0,0)) (by (with_reducible repeat (first|refine blk_drewN ?_ _|refine blk_drew ?_|refine blk_alloc ?_ _));exact BK614.out) hb);have n3_:=Aside0.mk (blk_below (g:=gb620) (o:=.cells #[.int .i64 ((rd_T56 l1 x23_2).f0),.int .i64 ((rd_T56 l1 x23_2).f1),.int .i64 ((rd_T56 l1 x23_2).f2)] 56 (0,0)) (by (with_reducible repeat (first|refine blk_drewN ?_ _|refine blk_drew ?_|refine blk_alloc ?_ _));exact BK620.out) hb);have n4_:=Aside0.mk (below_step (by repeat (first|(with_reducible first|exact HB.out|apply below_alloc|apply pw_below_drewN|apply below_drew1|refine below_set ?_ GE614.out|refine below_set ?_ GE620.out)|exact HB.out)) hb);have n5_:=Aside0.mk (hbox);have n6_:=Aside0.mk ((by rw [hg];exact (below_size (by repeat (first|(with_reducible first|exact HB.out|apply below_alloc|apply pw_below_drewN|apply below_drew1|refine below_set ?_ GE614.out|refine below_set ?_ GE620.out)|exact HB.out))):w.heap.size≤gb623));have n7_:=Aside0.mk ((by rw [hg];exact (below_size (by repeat (first|(with_reducible first|exact HB.out|apply below_alloc|apply pw_below_drewN|apply below_drew1|refine below_set ?_ GE614.out|refine below_set ?_ GE620.out)|exact HB.out))):w.heap.size≤gb623));have n8_:=Aside0.mk ((by rw [hg];exact Nat.ne_of_lt (blk_lt (g:=gb614) (o:=.cells #[.int .i64 a0_0,.slice (some ad622) l0_1.length c0_1] 30 (0,0)) (by (with_reducible repeat (first|refine blk_drewN ?_ _|refine blk_drew ?_|refine blk_alloc ?_ _));exact BK614.out)):gb614 ≠ gb623));have n9_:=Aside0.mk ((by rw [hg];exact Nat.ne_of_gt (blk_lt (g:=gb614) (o:=.cells #[.int .i64 a0_0,.slice (some ad622) l0_1.length c0_1] 30 (0,0)) (by (with_reducible repeat (first|refine blk_drewN ?_ _|refine blk_drew ?_|refine blk_alloc ?_ _));exact BK614.out)):gb623 ≠ gb614));have n10_:=Aside0.mk ((by rw [hg];exact Nat.ne_of_lt (blk_lt (g:=gb620) (o:=.cells #[.int .i64 ((rd_T56 l1 x23_2).f0),.int .i64 ((rd_T56 l1 x23_2).f1),.int .i64 ((rd_T56 l1 x23_2).f2)] 56 (0,0)) (by (with_reducible repeat (first|refine blk_drewN ?_ _|refine blk_drew ?_|refine blk_alloc ?_ _));exact BK620.out)):gb620 ≠ gb623));have n11_:=Aside0.mk ((by rw [hg];exact Nat.ne_of_gt (blk_lt (g:=gb620) (o:=.cells #[.int .i64 ((rd_T56 l1 x23_2).f0),.int .i64 ((rd_T56 l1 x23_2).f1),.int .i64 ((rd_T56 l1 x23_2).f2)] 56 (0,0)) (by (with_reducible repeat (first|refine blk_drewN ?_ _|refine blk_drew ?_|refine blk_alloc ?_ _));exact BK620.out)):gb623 ≠ gb620));clear HO_5;clear HO_6;clear BK614;clear BK620;clear HB;have HO_5:=n0_;have HO_6:=n1_;have BK614:=n2_;have BK620:=n3_;have HB:=n4_;have BK623:=n5_;have GW623:=n6_;have GE623:=n7_;have NB614_623:=n8_;have NB623_614:=n9_;have NB620_623:=n10_;have NB623_620:=n11_;clear n0_ n1_ n2_ n3_ n4_ n5_ n6_ n7_ n8_ n9_ n10_ n11_;clear hb hbox hg;have hnb109:=NB623_614.out;have hnc109:=NB614_623.out;have hnb110:=NB623_620.out;have hnc110:=NB620_623.out;have hcz111_0:w108.cell? ⟨gb623,0,none⟩=some (.int .i64 0):=(blk_cell BK623.out 0).trans rfl;have hcz111_1:w108.cell? ⟨gb623,1,none⟩=some (.int .i64 0):=(blk_cell BK623.out 1).trans rfl;have hfz111_0:=blk_frozen BK623.out 0;have hfz111_1:=blk_frozen BK623.out 1;obtain ⟨Ao112,co112,eo112⟩:=Kd.R_slice HO_5.out;subst eo112)|((with_reducible refine gate_callee (f:=110) rfl ?_);refine goesL_ (some 67) rfl rfl Try.func110 (by kernel_rfl) rfl #[.slice Ao112 x5_2.length co112] rfl (by (try simp only [List.map_toArray,List.map_cons,List.map_nil]);first|done|rfl|(simp only [List.length_drop,List.length_take];rfl)) ?_;(with_reducible refine (slices_Clone_int_int.calls _ _ x5_2 t648 _ ?side1 ?side2 A103.out).mono ?_);(case side1=>refine (Kd.R_reads' (e:=3) (base:=w.heap.size) (ok:=fun k_=>True) (n:=x5_2.length) (c:=co112) ?_).2.2;exact (by (with_reducible repeat (first|apply Kd.R_alloc|apply Kd.R_drewN|apply Kd.R_drew));exact (Kd.R_mono (Kd.R_far (p:=⟨gb623,1,none⟩) (Kd.R_far (p:=⟨gb623,0,none⟩) (Kd.R_types HO_5.out BK623.out (by decide)) (fun _ hk=>hk.2) (.int .i64 ((rd_T88 l0_1 ((rd_T56 l1 x23_2).f1)).f0))) (fun _ hk=>hk.2) (.int .i64 ((rd_T88 l0_1 ((rd_T56 l1 x23_2).f1)).f1))) (fun _ h_=>h_.1))));(case side2=>exact (Kd.R_reads' HO_5.out).2.1);rintro e w113 ⟨v649,rfl,ho0,hb⟩;refine ⟨_,rfl,?_⟩;have n0_:=Aside0.mk (Kd.R_elder' (by (with_reducible repeat (first|apply Kd.R_alloc|apply Kd.R_drewN|apply Kd.R_drew));exact (Kd.R_mono (Kd.R_far (p:=⟨gb623,1,none⟩) (Kd.R_far (p:=⟨gb623,0,none⟩) (Kd.R_types HO_5.out BK623.out (by decide)) (fun _ hk=>hk.2) (.int .i64 ((rd_T88 l0_1 ((rd_T56 l1 x23_2).f1)).f0))) (fun _ hk=>hk.2) (.int .i64 ((rd_T88 l0_1 ((rd_T56 l1 x23_2).f1)).f1))) (fun _ h_=>h_.1))) (Kd.R_base ho0) hb);have n1_:=Aside0.mk (Kd.S_elder' (by (with_reducible repeat (first|apply Kd.S_alloc|apply Kd.S_drewN|apply Kd.S_drew));exact (Kd.S_mono (Kd.S_far (p:=⟨gb623,1,none⟩) (Kd.S_far (p:=⟨gb623,0,none⟩) (Kd.S_types HO_6.out BK623.out (by decide)) (fun _ hk=>hk.2) (.int .i64 ((rd_T88 l0_1 ((rd_T56 l1 x23_2).f1)).f0))) (fun _ hk=>hk.2) (.int .i64 ((rd_T88 l0_1 ((rd_T56 l1 x23_2).f1)).f1))) (fun _ h_=>h_.1))) (Kd.R_base ho0) hb);have n2_:=Aside0.mk (Kd.R_lower (Kd.R_new' ho0 (Kd.R_lt (by (with_reducible repeat (first|apply Kd.R_alloc|apply Kd.R_drewN|apply Kd.R_drew));exact (Kd.R_mono (Kd.R_far (p:=⟨gb623,1,none⟩) (Kd.R_far (p:=⟨gb623,0,none⟩) (Kd.R_types HO_5.out BK623.out (by decide)) (fun _ hk=>hk.2) (.int .i64 ((rd_T88 l0_1 ((rd_T56 l1 x23_2).f1)).f0))) (fun _ hk=>hk.2) (.int .i64 ((rd_T88 l0_1 ((rd_T56 l1 x23_2).f1)).f1))) (fun _ h_=>h_.1))))) (below_size (by repeat (first|(with_reducible first|exact HB.out|apply below_alloc|apply pw_below_drewN|apply below_drew1|refine below_set ?_ GE614.out|refine below_set ?_ GE620.out|refine below_set ?_ GE623.out)|exact HB.out))));have n3_:=Aside0.mk (blk_below (g:=gb614) (o:=.cells #[.int .i64 a0_0,.slice (some ad622) l0_1.length c0_1] 30 (0,0)) (by (with_reducible repeat (first|refine blk_drewN ?_ _|refine blk_drew ?_|refine blk_alloc ?_ _));refine blk_far ?_ NB614_623.out _;(with_reducible repeat (first|refine blk_drewN ?_ _|refine blk_drew ?_|refine blk_alloc ?_ _));refine blk_far ?_ NB614_623.out _;(with_reducible repeat (first|refine blk_drewN ?_ _|refine blk_drew ?_|refine blk_alloc ?_ _));exact BK614.out) hb);have n4_:=Aside0.mk (blk_below (g:=gb620) (o:=.cells #[.int .i64 ((rd_T56 l1 x23_2).f0),.int .i64 ((rd_T56 l1 x23_2).f1),.int .i64 ((rd_T56 l1 x23_2).f2)] 56 (0,0)) (by (with_reducible repeat (first|refine blk_drewN ?_ _|refine blk_drew ?_|refine blk_alloc ?_ _));refine blk_far ?_ NB620_623.out _;(with_reducible repeat (first|refine blk_drewN ?_ _|refine blk_drew ?_|refine blk_alloc ?_ _));refine blk_far ?_ NB620_623.out _;(with_reducible repeat (first|refine blk_drewN ?_ _|refine blk_drew ?_|refine blk_alloc ?_ _));exact BK620.out) hb);have n5_:=Aside0.mk (blk_below (g:=gb623) (o:=.cells #[.int .i64 ((rd_T88 l0_1 ((rd_T56 l1 x23_2).f1)).f0),.int .i64 ((rd_T88 l0_1 ((rd_T56 l1 x23_2).f1)).f1)] 88 (0,0)) (by (with_reducible repeat (first|refine blk_drewN ?_ _|refine blk_drew ?_|refine blk_alloc ?_ _));refine blk_put (cs:=#[.int .i64 ((rd_T88 l0_1 ((rd_T56 l1 x23_2).f1)).f0),.int .i64 0]) ?_ 1 _ rfl;(with_reducible repeat (first|refine blk_drewN ?_ _|refine blk_drew ?_|refine blk_alloc ?_ _));refine blk_put (cs:=#[.int .i64 0,.int .i64 0]) ?_ 0 _ rfl;(with_reducible repeat (first|refine blk_drewN ?_ _|refine blk_drew ?_|refine blk_alloc ?_ _));exact BK623.out) hb);have n6_:=Aside0.mk (below_step (by repeat (first|(with_reducible first|exact HB.out|apply below_alloc|apply pw_below_drewN|apply below_drew1|refine below_set ?_ GE614.out|refine below_set ?_ GE620.out|refine below_set ?_ GE623.out)|exact HB.out)) hb);clear HO_5;clear HO_6;clear BK614;clear BK620;clear BK623;clear HB;have HO_5:=n0_;have HO_6:=n1_;have HO650:=n2_;have BK614:=n3_;have BK620:=n4_;have BK623:=n5_;have HB:=n6_;clear n0_ n1_ n2_ n3_ n4_ n5_ n6_;(try clear hb);(try clear hb2);(try clear hk);(try clear hi);(try clear ho0);obtain ⟨Ao115,co115,eo115⟩:=Kd.R_slice HO650.out;subst eo115)|((with_reducible refine gate_builtin (b:=.append) (xs:=#[.tmp 65,.tmp 68]) rfl ?_);(try (refine gate_guard (by rfl) ?_;dsimp only));at_builtin;refine Kd.S_append (Kd.slice 3 (Kd.int .i64)) (w0:=w) w.heap.size rfl (.tmp 65) (.tmp 68) 73 59 (.slice none 0 0) 24 rfl Try.underlying73 info59 rfl (by decide) (by omega) u6 x6_2 t648 [.slice Ao115 t648.length co115] (fun k_=>some k_ ≠ (.slice Ao112 x5_2.length co112:Value).ownBlock) (fun k_=>some k_=(.slice Ao115 t648.length co115:Value).ownBlock) rfl rfl ?aP (fun k_ hk_=>((Kd.R_mono (ok':=fun k_=>((fun k_=>some k_ ≠ (.slice Ao112 x5_2.length co112:Value).ownBlock)) k_∧some k_ ≠ (u6:Value).ownBlock) (Kd.R_apart' (HO650.out) (Kd.S_typed HO_6.out) (by decide)) (fun k_ hk=>⟨hk.1.2,hk.2⟩))).1 k_ hk_.symm) ?aF ?aO ?aB ?aS ?aL ?_;(case aP=>exact Kd.M_row (Kd.R_mono (Kd.R_tight rfl (Kd.R_mono (ok':=fun k_=>((fun k_=>some k_ ≠ (.slice Ao112 x5_2.length co112:Value).ownBlock)) k_∧some k_ ≠ (u6:Value).ownBlock) (Kd.R_apart' (HO650.out) (Kd.S_typed HO_6.out) (by decide)) (fun k_ hk=>⟨hk.1.2,hk.2⟩))) (fun _ h_=>h_)));(case aB=>exact (by repeat (first|(with_reducible first|exact HB.out|apply below_alloc|apply pw_below_drewN|apply below_drew1|refine below_set ?_ GE614.out|refine below_set ?_ GE620.out|refine below_set ?_ GE623.out)|exact HB.out)));(case aF=>exact (fun k_ hk=>Kd.fresh' (Kd.R_lt (by (with_reducible repeat (first|apply Kd.R_alloc|apply Kd.R_drewN|apply Kd.R_drew));exact HO_5.out)) k_ hk));(case aO=>exact (by (with_reducible repeat (first|apply Kd.S_alloc|apply Kd.S_drewN|apply Kd.S_drew));exact Kd.S_mono HO_6.out (fun k_ hk=>⟨hk.1,fun e_=>hk.2 e_⟩)));(case aS=>exact (below_size (by repeat (first|(with_reducible first|exact HB.out|apply below_alloc|apply pw_below_drewN|apply below_drew1|refine below_set ?_ GE614.out|refine below_set ?_ GE620.out|refine below_set ?_ GE623.out)|exact HB.out))));(case aL=>have:=LMc104.out;omega);intro v652 w114 ho hb hg hat;rw [← Ny651.out] at ho;have n0_:=Aside0.mk (Kd.R_over' (by (with_reducible repeat (first|apply Kd.R_alloc|apply Kd.R_drewN|apply Kd.R_drew));exact HO_5.out) (Kd.S_typed (by (with_reducible repeat (first|apply Kd.S_alloc|apply Kd.S_drewN|apply Kd.S_drew));exact HO_6.out)) (by decide) hg);have n1_:=Aside0.mk (blk_grown (g:=gb614) (o:=.cells #[.int .i64 a0_0,.slice (some ad622) l0_1.length c0_1] 30 (0,0)) (by (with_reducible repeat (first|refine blk_drewN ?_ _|refine blk_drew ?_|refine blk_alloc ?_ _));exact BK614.out) hg (Kd.S_ne HO_6.out BK614.out (by decide)));have n2_:=Aside0.mk (blk_grown (g:=gb620) (o:=.cells #[.int .i64 ((rd_T56 l1 x23_2).f0),.int .i64 ((rd_T56 l1 x23_2).f1),.int .i64 ((rd_T56 l1 x23_2).f2)] 56 (0,0)) (by (with_reducible repeat (first|refine blk_drewN ?_ _|refine blk_drew ?_|refine blk_alloc ?_ _));exact BK620.out) hg (Kd.S_ne HO_6.out BK620.out (by decide)));have n3_:=Aside0.mk (blk_grown (g:=gb623) (o:=.cells #[.int .i64 ((rd_T88 l0_1 ((rd_T56 l1 x23_2).f1)).f0),.int .i64 ((rd_T88 l0_1 ((rd_T56 l1 x23_2).f1)).f1)] 88 (0,0)) (by (with_reducible repeat (first|refine blk_drewN ?_ _|refine blk_drew ?_|refine blk_alloc ?_ _));exact BK623.out) hg (Kd.S_ne HO_6.out BK623.out (by decide)));have n4_:=Aside0.mk (hb);have n5_:=Aside0.mk (ho);clear HO_5;clear BK614;clear BK620;clear BK623;clear HB;clear HO_6;clear HO650;have HO_5:=n0_;have BK614:=n1_;have BK620:=n2_;have BK623:=n3_;have HB:=n4_;have HO653:=n5_;clear n0_ n1_ n2_ n3_ n4_ n5_;clear ho hb hg hat))
                go_roundg kj19
                case measure=>have:=HJ2.out;have:=HK2.out;have:=HJ19.out;omega
                case rel=>exact ⟨(x5_2),(y651),(wrap64 (x23_2+1)),(by first|rfl|(simp;done)|(simp [*];done)),H',⟨by have:=HJ2.out;have:=HK2.out;have:=HJ19.out;omega⟩,⟨by exact Kd.R_mono HO_5.out (fun _ hk=>trivial)⟩,⟨by exact HO653.out⟩,⟨by exact BK614.out⟩,⟨by exact HB.out⟩⟩
               rw [if_neg c104] at H
               exact absurd H (by simp)
              rw [if_neg c37] at H
              exact absurd H (by simp)
             rw [if_neg c36] at H
             exact absurd H (by simp)
            replace c35:=Bool.eq_false_iff.mpr c35
            subst c35
            have H1:((slices_Clone_int_int.f x5_2).bind fun t654=>(if x6_2.length<5864062014805 then (impl_Truth.l0 kj19 x5_2 (x6_2 ++ [t654]) l1 (l1.length:Int) (wrap64 (x23_2+1)) a0_0 l0_1) else (none)))=some r:=by rw [if_neg (show ¬ (false=true) by decide)] at H;exact H
            clear H
            have H:=H1
            clear H1
            replace H:=Option.bind_eq_some_iff.mp H
            obtain ⟨t654,A1160,H⟩:=H
            replace H:(if x6_2.length<5864062014805 then (impl_Truth.l0 kj19 x5_2 (x6_2 ++ [t654]) l1 (l1.length:Int) (wrap64 (x23_2+1)) a0_0 l0_1) else (none))=some r:=H
            have A116:=Aside0.mk A1160
            clear A1160
            by_cases c117:x6_2.length<5864062014805
            ·rw [if_pos c117] at H
             have LMc117:=Aside0.mk c117
             clear c117
             obtain ⟨y657,hy657⟩:∃ y_:List (List Int),y_=(x6_2 ++ [t654]):=⟨_,rfl⟩
             replace H:(impl_Truth.l0 kj19 x5_2 y657 l1 (l1.length:Int) (wrap64 (x23_2+1)) a0_0 l0_1)=some r:=by first|(rw [hy657];with_reducible exact H)|(have H2_:=(Option.bind_some _ _).symm.trans H;rw [hy657];with_reducible exact H2_)|(have H2_:=(Option.bind_some _ _).symm.trans H;with_reducible exact H2_)|with_reducible exact H|(rw [hy657];exact H)|exact H
             have Ny657:=Aside0.mk hy657
             clear hy657
             have H':=Aside0.mk H
             clear H
             obtain ⟨Ao118,co118,eo118⟩:=Kd.R_slice HO_5.out
             subst eo118
             go_wp2_with (first|((with_reducible refine gate_callee (f:=110) rfl ?_);refine goesL_ (some 67) rfl rfl Try.func110 (by kernel_rfl) rfl #[.slice Ao118 x5_2.length co118] rfl (by (try simp only [List.map_toArray,List.map_cons,List.map_nil]);first|done|rfl|(simp only [List.length_drop,List.length_take];rfl)) ?_;(with_reducible refine (slices_Clone_int_int.calls _ _ x5_2 t654 _ ?side1 ?side2 A116.out).mono ?_);(case side1=>repeat (first|exact (Kd.R_reads' HO_5.out).2.2|(with_reducible refine Kd.C_alloc ?_ _)|(with_reducible refine Kd.C_drewN ?_ _)|(with_reducible refine Kd.C_drew ?_)));(case side2=>exact (Kd.R_reads' HO_5.out).2.1);rintro e w119 ⟨v655,rfl,ho0,hb⟩;refine ⟨_,rfl,?_⟩;have n0_:=Aside0.mk (Kd.R_elder' (by exact HO_5.out) (Kd.R_base ho0) hb);have n1_:=Aside0.mk (Kd.S_elder' (by exact HO_6.out) (Kd.R_base ho0) hb);have n2_:=Aside0.mk (Kd.R_lower (Kd.R_new' ho0 (Kd.R_lt (by exact HO_5.out))) (below_size (by exact HB.out)));have n3_:=Aside0.mk (blk_below (g:=gb614) (o:=.cells #[.int .i64 a0_0,.slice A0_1 l0_1.length c0_1] 30 (0,0)) (by exact BK614.out) hb);have n4_:=Aside0.mk (blk_below (g:=gb620) (o:=.cells #[.int .i64 ((rd_T56 l1 x23_2).f0),.int .i64 ((rd_T56 l1 x23_2).f1),.int .i64 ((rd_T56 l1 x23_2).f2)] 56 (0,0)) (by exact BK620.out) hb);have n5_:=Aside0.mk (below_step (by exact HB.out) hb);clear HO_5;clear HO_6;clear BK614;clear BK620;clear HB;have HO_5:=n0_;have HO_6:=n1_;have HO656:=n2_;have BK614:=n3_;have BK620:=n4_;have HB:=n5_;clear n0_ n1_ n2_ n3_ n4_ n5_;(try clear hb);(try clear hb2);(try clear hk);(try clear hi);(try clear ho0);obtain ⟨Ao121,co121,eo121⟩:=Kd.R_slice HO656.out;subst eo121)|((with_reducible refine gate_builtin (b:=.append) (xs:=#[.tmp 65,.tmp 68]) rfl ?_);(try (refine gate_guard (by rfl) ?_;dsimp only));at_builtin;refine Kd.S_append (Kd.slice 3 (Kd.int .i64)) (w0:=w) w.heap.size rfl (.tmp 65) (.tmp 68) 73 59 (.slice none 0 0) 24 rfl Try.underlying73 info59 rfl (by decide) (by omega) u6 x6_2 t654 [.slice Ao121 t654.length co121] (fun k_=>some k_ ≠ (.slice Ao118 x5_2.length co118:Value).ownBlock) (fun k_=>some k_=(.slice Ao121 t654.length co121:Value).ownBlock) rfl rfl ?aP (fun k_ hk_=>((Kd.R_mono (ok':=fun k_=>((fun k_=>some k_ ≠ (.slice Ao118 x5_2.length co118:Value).ownBlock)) k_∧some k_ ≠ (u6:Value).ownBlock) (Kd.R_apart' (HO656.out) (Kd.S_typed HO_6.out) (by decide)) (fun k_ hk=>⟨hk.1.2,hk.2⟩))).1 k_ hk_.symm) ?aF ?aO ?aB ?aS ?aL ?_;(case aP=>exact Kd.M_row (Kd.R_mono (Kd.R_tight rfl (Kd.R_mono (ok':=fun k_=>((fun k_=>some k_ ≠ (.slice Ao118 x5_2.length co118:Value).ownBlock)) k_∧some k_ ≠ (u6:Value).ownBlock) (Kd.R_apart' (HO656.out) (Kd.S_typed HO_6.out) (by decide)) (fun k_ hk=>⟨hk.1.2,hk.2⟩))) (fun _ h_=>h_)));(case aB=>exact (by exact HB.out));(case aF=>exact (fun k_ hk=>Kd.fresh' (Kd.R_lt (by exact HO_5.out)) k_ hk));(case aO=>exact (by exact Kd.S_mono HO_6.out (fun k_ hk=>⟨hk.1,fun e_=>hk.2 e_⟩)));(case aS=>exact (below_size (by exact HB.out)));(case aL=>have:=LMc117.out;omega);intro v658 w120 ho hb hg hat;rw [← Ny657.out] at ho;have n0_:=Aside0.mk (Kd.R_over' (by exact HO_5.out) (Kd.S_typed (by exact HO_6.out)) (by decide) hg);have n1_:=Aside0.mk (blk_grown (g:=gb614) (o:=.cells #[.int .i64 a0_0,.slice A0_1 l0_1.length c0_1] 30 (0,0)) (by exact BK614.out) hg (Kd.S_ne HO_6.out BK614.out (by decide)));have n2_:=Aside0.mk (blk_grown (g:=gb620) (o:=.cells #[.int .i64 ((rd_T56 l1 x23_2).f0),.int .i64 ((rd_T56 l1 x23_2).f1),.int .i64 ((rd_T56 l1 x23_2).f2)] 56 (0,0)) (by exact BK620.out) hg (Kd.S_ne HO_6.out BK620.out (by decide)));have n3_:=Aside0.mk (hb);have n4_:=Aside0.mk (ho);clear HO_5;clear BK614;clear BK620;clear HB;clear HO_6;clear HO656;have HO_5:=n0_;have BK614:=n1_;have BK620:=n2_;have HB:=n3_;have HO659:=n4_;clear n0_ n1_ n2_ n3_ n4_;clear ho hb hg hat))
             go_roundg kj19
             case measure=>have:=HJ2.out;have:=HK2.out;have:=HJ19.out;omega
             case rel=>exact ⟨(x5_2),(y657),(wrap64 (x23_2+1)),(by first|rfl|(simp;done)|(simp [*];done)),H',⟨by have:=HJ2.out;have:=HK2.out;have:=HJ19.out;omega⟩,⟨by exact Kd.R_mono HO_5.out (fun _ hk=>trivial)⟩,⟨by exact HO659.out⟩,⟨by exact BK614.out⟩,⟨by exact HB.out⟩⟩
            rw [if_neg c117] at H
            exact absurd H (by simp)
         rw [if_neg c19] at H
         exact absurd H (by simp)
        rw [if_neg c18] at H
        exact absurd H (by simp)
       rw [if_neg c17] at H
       have c17b0:decide (x23_2<(l1.length:Int))=false:=decide_eq_false c17
       clear c17
       obtain rfl:=Option.some.inj H
       go_wp2
       go_ret
       exact ⟨_,by first|rfl|(simp [errW_none,errW_some] <;> rfl)|(simp [*,errW_none,errW_some] <;> rfl),by exact Kd.S_mono HO_6.out (fun _ hk=>trivial),by exact HB.out⟩
    rw [if_neg c13] at H
    exact absurd H (by simp)
   rw [if_neg c12] at H
   exact absurd H (by simp)
end Go.Proofs.Ytpdnabhpkdchjaa.P
namespace Go.Proofs.Ytpdnabhpkdchjaa.P
open Go.RowKit Go.Proofs.YtpdnabhpkdchjaaW.PrintWords Go.Proofs.YtpdnabhpkdchjaaW.PrintLast Go.Proofs.YtpdnabhpkdchjaaW.PrintMore
attribute [local go_sem] max2_int min2_int max_two min_two max_three min_three max_four min_four
set_option linter.unusedVariables false
set_option linter.unusedSimpArgs false
mutual
def spec_Truth.j0:Nat→List (S56)→Bool→Int→List (S88)→Option ((List (List Int)))
 | 0,_,_,_,_=>none
 | k+1,x1,x18,x569000,x569001=>if x18=true then (some ([]:List (List Int))) else (spec_Truth.l0 k x1 ([]:List (List Int)) (x1.length:Int) 0 x569000 x569001)
def spec_Truth.l0:Nat→List (S56)→List (List Int)→Int→Int→Int→List (S88)→Option ((List (List Int)))
 | 0,_,_,_,_,_,_=>none
 | k+1,x1,x5,x20,x21,x569000,x569001=>if x21<x20 then (if 0≤x569000 then (if (x569000:Int).toNat≤35184372088832 then (if 0≤(wrap64 (x21+1)) then (if (wrap64 (x21+1))≤(x1.length:Int) then ((some (x1.take ((wrap64 (x21+1)):Int).toNat:List (S56))).bind fun y573=>(spec_Truth.l1 k x1 x5 (List.replicate (x569000:Int).toNat 0) x20 x21 y573 (y573.length:Int) 0 x569000 x569001)) else (none)) else (none)) else (none)) else (none)) else (some x5)
def spec_Truth.l1:Nat→List (S56)→List (List Int)→List Int→Int→Int→List (S56)→Int→Int→Int→List (S88)→Option ((List (List Int)))
 | 0,_,_,_,_,_,_,_,_,_,_=>none
 | k+1,x1,x5,x7,x20,x21,x30,x31,x32,x569000,x569001=>if x32<x31 then (if 0≤x32 then (if x32<(x30.length:Int) then (if ((rd_T56 x30 x32).f0)=1 then ((spec_EventOk.f k x569000 x569001 ((rd_T56 x30 x32).f0) ((rd_T56 x30 x32).f1) ((rd_T56 x30 x32).f2)).bind fun t582=>(spec_Truth.j3 k x1 x5 x7 x20 x21 x30 x31 x32 (!t582) x569000 x569001 ((rd_T56 x30 x32).f0) ((rd_T56 x30 x32).f1) ((rd_T56 x30 x32).f2))) else (spec_Truth.j3 k x1 x5 x7 x20 x21 x30 x31 x32 true x569000 x569001 ((rd_T56 x30 x32).f0) ((rd_T56 x30 x32).f1) ((rd_T56 x30 x32).f2))) else (none)) else (none)) else (if x5.length<5864062014805 then (spec_Truth.l0 k x1 (x5 ++ [x7]) x20 (wrap64 (x21+1)) x569000 x569001) else (none))
def spec_Truth.j3:Nat→List (S56)→List (List Int)→List Int→Int→Int→List (S56)→Int→Int→Bool→Int→List (S88)→Int→Int→Int→Option ((List (List Int)))
 | 0,_,_,_,_,_,_,_,_,_,_,_,_,_,_=>none
 | k+1,x1,x5,x7,x20,x21,x30,x31,x32,x44,x569000,x569001,x582000,x582001,x582002=>if x44=true then (spec_Truth.l1 k x1 x5 x7 x20 x21 x30 x31 (wrap64 (x32+1)) x569000 x569001) else (if 0≤x582001 then (if x582001<(x569001.length:Int) then (if ((rd_T88 x569001 x582001).f0) ≥ 0 then (if 0≤((rd_T88 x569001 x582001).f0) then (if ((rd_T88 x569001 x582001).f0)<(x7.length:Int) then ((some (x7.set (((rd_T88 x569001 x582001).f0):Int).toNat (wrap64 ((rd x7 ((rd_T88 x569001 x582001).f0)) - x582002)):List Int)).bind fun y586=>(if ((rd_T88 x569001 x582001).f1) ≥ 0 then (if 0≤((rd_T88 x569001 x582001).f1) then (if ((rd_T88 x569001 x582001).f1)<(x7.length:Int) then (spec_Truth.l1 k x1 x5 (y586.set (((rd_T88 x569001 x582001).f1):Int).toNat (wrap64 ((rd y586 ((rd_T88 x569001 x582001).f1))+x582002))) x20 x21 x30 x31 (wrap64 (x32+1)) x569000 x569001) else (none)) else (none)) else (spec_Truth.l1 k x1 x5 y586 x20 x21 x30 x31 (wrap64 (x32+1)) x569000 x569001))) else (none)) else (none)) else (if ((rd_T88 x569001 x582001).f1) ≥ 0 then (if 0≤((rd_T88 x569001 x582001).f1) then (if ((rd_T88 x569001 x582001).f1)<(x7.length:Int) then (spec_Truth.l1 k x1 x5 (x7.set (((rd_T88 x569001 x582001).f1):Int).toNat (wrap64 ((rd x7 ((rd_T88 x569001 x582001).f1))+x582002))) x20 x21 x30 x31 (wrap64 (x32+1)) x569000 x569001) else (none)) else (none)) else (spec_Truth.l1 k x1 x5 x7 x20 x21 x30 x31 (wrap64 (x32+1)) x569000 x569001))) else (none)) else (none))
end
def spec_Truth.f (k:Nat) (a0_0:Int) (l0_1:List (S88)) (l1:List (S56)):Option ((List (List Int))):=(spec_LayoutOk.f k a0_0 l0_1).bind fun t569=>(if t569=0 then (spec_Truth.j0 k l1 (decide ((l1.length:Int) > 2000)) a0_0 l0_1) else (spec_Truth.j0 k l1 true a0_0 l0_1))
def spec_Truth.T14:Bool × List (List Nat × List Nat):=(true,[([],[]),([],[]),([1],[1]),([0,2],[0,2]),([3],[3]),([],[]),([5],[5]),([4,6],[4,6]),([0,2,0,1,2,3,4,5,6,7],[0,2]),([8,7,0,1,2,3,4,5,6,7],[7,8])])
def spec_Truth.B14:List Nat:=[0,0,2,7,15,0,32,127,255,511]
theorem spec_Truth.tab14:rtab .any (opsOf Try.f58 14)=spec_Truth.T14:=by kernel_rfl
theorem spec_Truth.bits14:waitsOk spec_Truth.T14.2 spec_Truth.B14=true:=by kernel_rfl
def spec_Truth.T16:Bool × List (List Nat × List Nat):=(true,[([],[]),([],[]),([1],[1]),([0,2],[0,2]),([3],[3]),([],[]),([5],[5]),([4,6],[4,6]),([0,2,0,1,2,3,4,5,6,7],[0,2]),([8,7,0,1,2,3,4,5,6,7],[7,8])])
def spec_Truth.B16:List Nat:=[0,0,2,7,15,0,32,127,255,511]
theorem spec_Truth.tab16:rtab .any (opsOf Try.f58 16)=spec_Truth.T16:=by kernel_rfl
theorem spec_Truth.bits16:waitsOk spec_Truth.T16.2 spec_Truth.B16=true:=by kernel_rfl
set_option maxHeartbeats 8000000 in
set_option maxRecDepth 100000 in
theorem spec_Truth.calls (k:Nat) (a0_0:Int) (A0_1:Option Addr) (c0_1:Nat) (l0_1:List (S88)) (A1:Option Addr) (c1:Nat) (l1:List (S56)) (r:List (List Int)) (w:World) (hr0_1:Kd.C k88 w A0_1 l0_1.length l0_1) (hc0_1:l0_1.length≤c0_1) (hr1:Kd.C k56 w A1 l1.length l1) (hc1:l1.length≤c1) (h:spec_Truth.f k a0_0 l0_1 l1=some r) :
  Calls Try.prog 58 #[.agg #[.int .i64 a0_0,.slice A0_1 l0_1.length c0_1],.slice A1 l1.length c1] w fun e w'=>∃ v0_:Value,e=.returned (v0_)∧Kd.S (Kd.slice 3 (Kd.int .i64)) 59 w' w.heap.size (fun _=>True) v0_ r∧Below w.heap.size w w':=by
 have hu30:=Try.underlying30
 have hu56:=Try.underlying56
 have hu88:=Try.underlying88
 have HR0_1:=Aside0.mk hr0_1
 have HC0_1:=Aside0.mk hc0_1
 clear hr0_1 hc0_1
 have HR1:=Aside0.mk hr1
 have HC1:=Aside0.mk hc1
 clear hr1 hc1
 have HB:=Aside0.mk (Below.refl w.heap.size w)
 have H:((spec_LayoutOk.f k a0_0 l0_1).bind fun t569=>(if t569=0 then (spec_Truth.j0 k l1 (decide ((l1.length:Int) > 2000)) a0_0 l0_1) else (spec_Truth.j0 k l1 true a0_0 l0_1)))=some r:=h
 clear h
 have HC3:=Aside0.mk H
 clear H
 go_enter Try.func58,Try.ntmps58
 go_upto_region 1 with (first|((with_reducible refine gate_dst (N:=2) rfl ?_);refine box_event ?hg (N:=2) ?hd (cs:=#[.int .i64 a0_0,.slice A0_1 l0_1.length c0_1]) (t:=30) ?hr ?_;(case hd=>rfl);(case hg=>rfl);(case hr=>first|(go_simp;done)|(go_simp;rfl));intro gb568 hg w4 hbox hb;have n0_:=Aside0.mk (below_step (by exact HB.out) hb);have n1_:=Aside0.mk (hbox);have n2_:=Aside0.mk ((by rw [hg];exact (below_size (by exact HB.out)):w.heap.size≤gb568));have n3_:=Aside0.mk ((by rw [hg];exact (below_size (by exact HB.out)):w.heap.size≤gb568));clear HB;have HB:=n0_;have BK568:=n1_;have GW568:=n2_;have GE568:=n3_;clear n0_ n1_ n2_ n3_;clear hb hbox hg))
 (try simp only [Act.put,List.setIfInBounds_toArray,List.set_cons_zero,List.set_cons_succ])
 go_cut [18] (fun v18 wc=>∃ (kq:Nat) (x18_2:Bool),v18=.bool x18_2∧Aside0 (spec_Truth.j0 kq l1 x18_2 a0_0 l0_1=some r)∧Aside0 (kq≤k)∧Aside0 (wc.heap[gb568]?=some (.cells #[.int .i64 a0_0,(.slice A0_1 l0_1.length c0_1)] 30 (0,0)))∧Aside0 (Below w.heap.size w wc))
 case first =>
  have H:=HC3.out
  clear HC3
  replace H:=Option.bind_eq_some_iff.mp H
  obtain ⟨t569,A50,H⟩:=H
  replace H:(if t569=0 then (spec_Truth.j0 k l1 (decide ((l1.length:Int) > 2000)) a0_0 l0_1) else (spec_Truth.j0 k l1 true a0_0 l0_1))=some r:=H
  have A5:=Aside0.mk A50
  clear A50
  by_cases c6:t569=0
  ·rw [if_pos c6] at H
   have c6b0:(t569==0)=true:=beq_iff_eq.mpr c6
   have c6b1:(t569 != 0)=false:=bne_eq_false_iff_eq.mpr c6
   clear c6
   (first|rw [c6b0]|(simp only [i64_w,i32_w];rw [c6b0])|skip)
   have H':=Aside0.mk H
   clear H
   have hcz7_0:w4.cell? ⟨gb568,0,none⟩=some (.int .i64 a0_0):=(blk_cell BK568.out 0).trans rfl
   have hcz7_1:w4.cell? ⟨gb568,1,none⟩=some (.slice A0_1 l0_1.length c0_1):=(blk_cell BK568.out 1).trans rfl
   have hfz7_0:=blk_frozen BK568.out 0
   have hfz7_1:=blk_frozen BK568.out 1
   go_wp2_with (first|((with_reducible refine gate_callee (f:=23) rfl ?_);refine goesL_ (some 12) rfl rfl Try.func23 (by kernel_rfl) rfl #[.agg #[.int .i64 a0_0,.slice A0_1 l0_1.length c0_1]] rfl (by (try simp only [List.map_toArray,List.map_cons,List.map_nil]);first|done|rfl|(simp only [List.length_drop,List.length_take];rfl)) ?_;(with_reducible refine (spec_LayoutOk.calls k a0_0 _ _ l0_1 t569 _ ?side1 ?side2 A5.out).mono ?_);(case side1=>repeat (first|exact (Kd.C_below HR0_1.out HB.out)|(with_reducible refine Kd.C_alloc ?_ _)|(with_reducible refine Kd.C_drewN ?_ _)|(with_reducible refine Kd.C_drew ?_)));(case side2=>exact HC0_1.out);rintro e w8 ⟨rfl,hb⟩;refine ⟨_,rfl,?_⟩;have n0_:=Aside0.mk (blk_below (g:=gb568) (o:=.cells #[.int .i64 a0_0,.slice A0_1 l0_1.length c0_1] 30 (0,0)) (by exact BK568.out) hb);have n1_:=Aside0.mk (below_step (by exact HB.out) hb);clear BK568;clear HB;have BK568:=n0_;have HB:=n1_;clear n0_ n1_;(try clear hb);(try clear hb2);(try clear hk);(try clear hi)))
   go_meet
   case rel=>exact ⟨_,(decide ((l1.length:Int) > 2000)),(by first|rfl|(simp;done)|(simp [*];done)),H',⟨by first|omega|exact Nat.le_refl _⟩,⟨by exact BK568.out⟩,⟨by exact HB.out⟩⟩
  rw [if_neg c6] at H
  have c6b0:(t569==0)=false:=beq_eq_false_iff_ne.mpr c6
  have c6b1:(t569 != 0)=true:=bne_iff_ne.mpr c6
  (first|rw [c6b0]|(simp only [i64_w,i32_w];rw [c6b0])|skip)
  have H':=Aside0.mk H
  clear H
  have hcz9_0:w4.cell? ⟨gb568,0,none⟩=some (.int .i64 a0_0):=(blk_cell BK568.out 0).trans rfl
  have hcz9_1:w4.cell? ⟨gb568,1,none⟩=some (.slice A0_1 l0_1.length c0_1):=(blk_cell BK568.out 1).trans rfl
  have hfz9_0:=blk_frozen BK568.out 0
  have hfz9_1:=blk_frozen BK568.out 1
  go_wp2_with (first|((with_reducible refine gate_callee (f:=23) rfl ?_);refine goesL_ (some 12) rfl rfl Try.func23 (by kernel_rfl) rfl #[.agg #[.int .i64 a0_0,.slice A0_1 l0_1.length c0_1]] rfl (by (try simp only [List.map_toArray,List.map_cons,List.map_nil]);first|done|rfl|(simp only [List.length_drop,List.length_take];rfl)) ?_;(with_reducible refine (spec_LayoutOk.calls k a0_0 _ _ l0_1 t569 _ ?side1 ?side2 A5.out).mono ?_);(case side1=>repeat (first|exact (Kd.C_below HR0_1.out HB.out)|(with_reducible refine Kd.C_alloc ?_ _)|(with_reducible refine Kd.C_drewN ?_ _)|(with_reducible refine Kd.C_drew ?_)));(case side2=>exact HC0_1.out);rintro e w10 ⟨rfl,hb⟩;refine ⟨_,rfl,?_⟩;have n0_:=Aside0.mk (blk_below (g:=gb568) (o:=.cells #[.int .i64 a0_0,.slice A0_1 l0_1.length c0_1] 30 (0,0)) (by exact BK568.out) hb);have n1_:=Aside0.mk (below_step (by exact HB.out) hb);clear BK568;clear HB;have BK568:=n0_;have HB:=n1_;clear n0_ n1_;(try clear hb);(try clear hb2);(try clear hk);(try clear hi)))
  go_meet
  case rel=>exact ⟨_,(true),(by first|rfl|(simp;done)|(simp [*];done)),H',⟨by first|omega|exact Nat.le_refl _⟩,⟨by exact BK568.out⟩,⟨by exact HB.out⟩⟩
 case rest =>
  clear HC3
  try clear c1
  try clear c2
  try clear p2
  try clear c5
  try clear c6
  try clear c6b0
  try clear c6b1
  try clear hcz7_0
  try clear hcz7_1
  try clear hcz9_0
  try clear hcz9_1
  try clear hfz7_0
  try clear hfz7_1
  try clear hfz9_0
  try clear hfz9_1
  obtain ⟨kq,x18_2,rfl,HA,HJ2,BK568,HB⟩:=hcut
  cases kq with
  | zero=>exact absurd HA.out (by simp [spec_Truth.j0])
  | succ kj2 =>
   have H:=HA.out
   clear HA
   simp only [spec_Truth.j0] at H
   by_cases c11:x18_2=true
   ·subst c11
    have H1:(some ([]:List (List Int)))=some r:=by rw [if_pos rfl] at H;exact H
    clear H
    have H:=H1
    clear H1
    obtain rfl:=Option.some.inj H
    go_wp2
    go_ret
    exact ⟨_,by first|rfl|(simp [errW_none,errW_some] <;> rfl)|(simp [*,errW_none,errW_some] <;> rfl),by first|exact Kd.S_nil _ _ _ _ _|exact Kd.N_nil _ _ _ _ _|exact Kd.V_nil _ _ _ _ _|exact Kd.Q_nil _ _ _ _ _|exact Kd.R_nil _ _ _ _ _,by exact HB.out⟩
   replace c11:=Bool.eq_false_iff.mpr c11
   subst c11
   have H1:(spec_Truth.l0 kj2 l1 ([]:List (List Int)) (l1.length:Int) 0 a0_0 l0_1)=some r:=by rw [if_neg (show ¬ (false=true) by decide)] at H;exact H
   clear H
   have H:=H1
   clear H1
   have H':=Aside0.mk H
   clear H
   go_wp2
   go_loopg [5,21] kj2 (fun kq v5 v21 w'=>∃ (x5_2:List (List Int)) (x21_2:Int),v21=.int .i64 x21_2∧Aside0 (spec_Truth.l0 kq l1 x5_2 (l1.length:Int) x21_2 a0_0 l0_1=some r)∧Aside0 (kq≤kj2)∧Aside0 (Kd.S (Kd.slice 3 (Kd.int .i64)) 59 w' w.heap.size (fun _=>True) v5 x5_2)∧Aside0 (w'.heap[gb568]?=some (.cells #[.int .i64 a0_0,(.slice A0_1 l0_1.length c0_1)] 30 (0,0)))∧Aside0 (Below w.heap.size w w'))
   case atStart=>exact ⟨(([]:List (List Int))),(0),(by first|rfl|(simp;done)|(simp [*];done)),H',⟨Nat.le_refl _⟩,⟨by first|exact Kd.S_nil _ _ _ _ _|exact Kd.N_nil _ _ _ _ _|exact Kd.V_nil _ _ _ _ _|exact Kd.Q_nil _ _ _ _ _|exact Kd.R_nil _ _ _ _ _⟩,⟨by exact BK568.out⟩,⟨by exact HB.out⟩⟩
   case round =>
    clear H'
    try clear c1
    try clear c2
    try clear p2
    try clear c5
    try clear c6
    try clear c6b0
    try clear c6b1
    try clear c11
    try clear hcz7_0
    try clear hcz7_1
    try clear hcz9_0
    try clear hcz9_1
    try clear hfz7_0
    try clear hfz7_1
    try clear hfz9_0
    try clear hfz9_1
    try clear p2
    obtain ⟨x5_2,x21_2,rfl,HA,HK2,HO_5,BK568,HB⟩:=hrel
    cases gk with
    | zero=>exact absurd HA.out (by simp [spec_Truth.l0])
    | succ k2 =>
     have H:=HA.out
     clear HA
     simp only [spec_Truth.l0] at H
     by_cases c12:x21_2<(l1.length:Int)
     ·rw [if_pos c12] at H
      have c12b0:decide (x21_2<(l1.length:Int))=true:=decide_eq_true c12
      clear c12
      by_cases c13:0≤a0_0
      ·rw [if_pos c13] at H
       have c13b0:=eq_true c13
       have c13b1:decide (0≤a0_0)=true:=decide_eq_true c13
       clear c13
       by_cases c14:(a0_0:Int).toNat≤35184372088832
       ·rw [if_pos c14] at H
        have c14b0:=eq_true c14
        have c14b1:decide ((a0_0:Int).toNat≤35184372088832)=true:=decide_eq_true c14
        clear c14
        obtain ⟨y570,hy570⟩:∃ y_:List Int,y_=(List.replicate (a0_0:Int).toNat 0):=⟨_,rfl⟩
        replace H:(if 0≤(wrap64 (x21_2+1)) then (if (wrap64 (x21_2+1))≤(l1.length:Int) then ((some (l1.take ((wrap64 (x21_2+1)):Int).toNat:List (S56))).bind fun y573=>(spec_Truth.l1 k2 l1 x5_2 y570 (l1.length:Int) x21_2 y573 (y573.length:Int) 0 a0_0 l0_1)) else (none)) else (none))=some r:=by first|(rw [hy570];with_reducible exact H)|(have H2_:=(Option.bind_some _ _).symm.trans H;rw [hy570];with_reducible exact H2_)|(have H2_:=(Option.bind_some _ _).symm.trans H;with_reducible exact H2_)|with_reducible exact H|(rw [hy570];exact H)|exact H
        have Ny570:=Aside0.mk hy570
        clear hy570
        obtain ⟨ji15,hji15⟩:∃ j_:Int,(wrap64 (x21_2+1))=j_:=⟨_,rfl⟩
        replace H:(if 0≤(ji15) then (if (ji15)≤(l1.length:Int) then ((some (l1.take ((ji15):Int).toNat:List (S56))).bind fun y573=>(spec_Truth.l1 k2 l1 x5_2 y570 (l1.length:Int) x21_2 y573 (y573.length:Int) 0 a0_0 l0_1)) else (none)) else (none))=some r:=by first|(rw [hji15] at H;exact H)|(simp only [hji15] at H ⊢;exact H)
        have hji15w:(IntKind.i64.wrap (x21_2+1))=ji15:=(i64_w _).trans hji15
        by_cases c16:0≤(ji15)
        ·rw [if_pos c16] at H
         have c16b0:=eq_true c16
         have c16b1:decide (0≤(ji15))=true:=decide_eq_true c16
         clear c16
         by_cases c17:(ji15)≤(l1.length:Int)
         ·rw [if_pos c17] at H
          have c17b0:=eq_true c17
          have c17b1:decide ((ji15)≤(l1.length:Int))=true:=decide_eq_true c17
          clear c17
          obtain ⟨y573,hy573⟩:∃ y_:List (S56),y_=(l1.take ((ji15):Int).toNat):=⟨_,rfl⟩
          replace H:(spec_Truth.l1 k2 l1 x5_2 y570 (l1.length:Int) x21_2 y573 (y573.length:Int) 0 a0_0 l0_1)=some r:=by first|(rw [hy573];with_reducible exact H)|(have H2_:=(Option.bind_some _ _).symm.trans H;rw [hy573];with_reducible exact H2_)|(have H2_:=(Option.bind_some _ _).symm.trans H;with_reducible exact H2_)|with_reducible exact H|(rw [hy573];exact H)|exact H
          have Ny573:=Aside0.mk hy573
          clear hy573
          have H':=Aside0.mk H
          clear H
          have hcz18_0:wr.cell? ⟨gb568,0,none⟩=some (.int .i64 a0_0):=(blk_cell BK568.out 0).trans rfl
          have hcz18_1:wr.cell? ⟨gb568,1,none⟩=some (.slice A0_1 l0_1.length c0_1):=(blk_cell BK568.out 1).trans rfl
          have hfz18_0:=blk_frozen BK568.out 0
          have hfz18_1:=blk_frozen BK568.out 1
          go_wp2_with (first|((with_reducible refine gate_dst (N:=26) rfl ?_);refine Kd.R_make (Kd.int .i64) _ 3 rfl (N:=26) rfl 59 _ _ rfl a0_0 rfl rfl Try.underlying59 (.int .i64 0) 8 info3 rfl (by decide) (by omega) 0 (ok:=fun _=>True) (okp:=fun _=>True) rfl (fun _ hk=>hk) trivial (of_decide_eq_true (by first|(with_reducible assumption)|assumption)) (Nat.le_trans (Nat.mul_le_mul_right _ (of_decide_eq_true (by first|(with_reducible assumption)|assumption):a0_0.toNat≤35184372088832)) (by omega)) (Below.refl _ _) (Nat.le_refl _) ?_;intro v571 w19 ho20 hb hg_ hnew_;clear hg_ hnew_;(first|rw [← Ny570.out] at ho20|(simp only [Int.reduceToNat] at ho20;rw [← Ny570.out] at ho20));have n0_:=Aside0.mk (Kd.S_elder' (by exact HO_5.out) (Kd.R_base ho20) hb);have n1_:=Aside0.mk (Kd.R_lower ho20 (below_size (by exact HB.out)));have n2_:=Aside0.mk (blk_below (g:=gb568) (o:=.cells #[.int .i64 a0_0,.slice A0_1 l0_1.length c0_1] 30 (0,0)) (by exact BK568.out) hb);have n3_:=Aside0.mk (below_step (by exact HB.out) hb);clear HO_5;clear BK568;clear HB;have HO_5:=n0_;have HO572:=n1_;have BK568:=n2_;have HB:=n3_;clear n0_ n1_ n2_ n3_;clear hb ho20;have q21:((ji15):Int)≤((l1.length:Int):Int):=of_decide_eq_true (by first|(with_reducible assumption)|assumption);obtain ⟨i021,hi021,_,hsz21,_⟩:=info_parts info56;have hroom21:l1.length≤c1:=HC1.out;have hC21:Kd.C k56 _ A1 l1.length l1:=HR1.out;have hcut21:=cut_to (P:=Try.prog) 35 56 .i64 Try.underlying35 hi021 A1 l1.length c1 (ji15) (of_decide_eq_true (by first|(with_reducible assumption)|assumption)) q21 hroom21;have hr21:=Kd.C_take (m:=((ji15):Int).toNat) hC21 (by omega);have hy21:y573.length=((ji15):Int).toNat:=(by rw [Ny573.out,List.length_take];omega);rw [← Ny573.out] at hr21;rw [← hy21] at hcut21;have HR576:=Aside0.mk hr21;have HC576:=Aside0.mk (show y573.length≤c1 from by omega);clear hr21 hC21 hroom21 hi021 hsz21;have KY21:=Aside0.mk hy21;clear hy21;replace q21:=eq_true q21))
          go_loopg [32] k2 (fun kq v32 w'=>∃ (x7_3:List Int) (x32_3:Int),v32=.int .i64 x32_3∧Aside0 (spec_Truth.l1 kq l1 x5_2 x7_3 (l1.length:Int) x21_2 y573 (y573.length:Int) x32_3 a0_0 l0_1=some r)∧Aside0 (kq≤k2)∧Aside0 (Kd.S (Kd.slice 3 (Kd.int .i64)) 59 w' w.heap.size (fun k_=>some k_ ≠ (v571:Value).ownBlock) u5 x5_2)∧Aside0 (Kd.R (Kd.int .i64) 3 w' w.heap.size (fun _=>True) v571 x7_3)∧Aside0 (w'.heap[gb568]?=some (.cells #[.int .i64 a0_0,(.slice A0_1 l0_1.length c0_1)] 30 (0,0)))∧Aside0 (Below w.heap.size w w'))
          case atStart=>exact ⟨(y570),(0),(by first|rfl|(simp;done)|(simp [*];done)),H',⟨Nat.le_refl _⟩,⟨by exact Kd.S_mono HO_5.out (fun _ hk=>hk.2)⟩,⟨by exact HO572.out⟩,⟨by exact BK568.out⟩,⟨by exact HB.out⟩⟩
          case round =>
           clear H'
           try clear c1
           try clear c2
           try clear p2
           try clear q2
           try clear c5
           try clear c6
           try clear c6b0
           try clear c6b1
           try clear p6
           try clear c11
           try clear c12
           try clear c12b0
           try clear c13
           try clear c13b0
           try clear c13b1
           try clear c14
           try clear c14b0
           try clear c14b1
           try clear c16
           try clear c16b0
           try clear c16b1
           try clear c17
           try clear c17b0
           try clear c17b1
           try clear q21
           try clear hcz18_0
           try clear hcz18_1
           try clear hcz7_0
           try clear hcz7_1
           try clear hcz9_0
           try clear hcz9_1
           try clear hfz18_0
           try clear hfz18_1
           try clear hfz7_0
           try clear hfz7_1
           try clear hfz9_0
           try clear hfz9_1
           try clear p2
           try clear q21
           obtain ⟨x7_3,x32_3,rfl,HA,HK3,HO_5,HO_7,BK568,HB⟩:=hrel
           cases gk with
           | zero=>exact absurd HA.out (by simp [spec_Truth.l1])
           | succ k3 =>
            have H:=HA.out
            clear HA
            simp only [spec_Truth.l1] at H
            by_cases c22:x32_3<(y573.length:Int)
            ·rw [if_pos c22] at H
             have c22b0:decide (x32_3<(y573.length:Int))=true:=decide_eq_true c22
             clear c22
             by_cases c23:0≤x32_3
             ·rw [if_pos c23] at H
              have c23b0:decide (0≤x32_3)=true:=decide_eq_true c23
              clear c23
              by_cases c24:x32_3<(y573.length:Int)
              ·rw [if_pos c24] at H
               have c24b0:decide (x32_3<(y573.length:Int))=true:=decide_eq_true c24
               clear c24
               have HC25:=Aside0.mk H
               clear H
               have p580:0≤(x32_3:Int):=of_decide_eq_true (by first|(with_reducible assumption)|assumption)
               have q580:x32_3<(y573.length:Int):=of_decide_eq_true (by first|(with_reducible assumption)|assumption)
               obtain ⟨ad580,e580,hx580_0,hx580_1,hx580_2⟩:=at_T56 HR576.out x32_3 p580 q580
               cases e580
               replace hx580_0:=(HB.out.cell (World.block_lt_of_cell? w _ hx580_0)).trans hx580_0
               replace hx580_1:=(HB.out.cell (World.block_lt_of_cell? w _ hx580_1)).trans hx580_1
               replace hx580_2:=(HB.out.cell (World.block_lt_of_cell? w _ hx580_2)).trans hx580_2
               replace p580:=eq_true p580
               replace q580:=eq_true q580
               go_upto_region 11 with (first|((with_reducible refine gate_dst (N:=9) rfl ?_);refine box_event ?hg (N:=9) ?hd (cs:=#[.int .i64 0,.int .i64 0,.int .i64 0]) (t:=56) ?hr ?_;(case hd=>rfl);(case hg=>rfl);(case hr=>first|(go_simp;done)|(go_simp;rfl));intro gb581 hg w26 hbox hb;have n0_:=Aside0.mk (Kd.S_below (by exact HO_5.out) hb);have n1_:=Aside0.mk (Kd.R_below (by exact HO_7.out) hb);have n2_:=Aside0.mk (blk_below (g:=gb568) (o:=.cells #[.int .i64 a0_0,.slice A0_1 l0_1.length c0_1] 30 (0,0)) (by exact BK568.out) hb);have n3_:=Aside0.mk (below_step (by exact HB.out) hb);have n4_:=Aside0.mk (hbox);have n5_:=Aside0.mk ((by rw [hg];exact (below_size (by exact HB.out)):w.heap.size≤gb581));have n6_:=Aside0.mk ((by rw [hg];exact (below_size (by exact HB.out)):w.heap.size≤gb581));have n7_:=Aside0.mk ((by rw [hg];exact Nat.ne_of_lt (blk_lt (g:=gb568) (o:=.cells #[.int .i64 a0_0,.slice A0_1 l0_1.length c0_1] 30 (0,0)) (by exact BK568.out)):gb568 ≠ gb581));have n8_:=Aside0.mk ((by rw [hg];exact Nat.ne_of_gt (blk_lt (g:=gb568) (o:=.cells #[.int .i64 a0_0,.slice A0_1 l0_1.length c0_1] 30 (0,0)) (by exact BK568.out)):gb581 ≠ gb568));clear HO_5;clear HO_7;clear BK568;clear HB;have HO_5:=n0_;have HO_7:=n1_;have BK568:=n2_;have HB:=n3_;have BK581:=n4_;have GW581:=n5_;have GE581:=n6_;have NB568_581:=n7_;have NB581_568:=n8_;clear n0_ n1_ n2_ n3_ n4_ n5_ n6_ n7_ n8_;clear hb hbox hg;have hnb27:=NB581_568.out;have hnc27:=NB568_581.out;have hcz28_0:w26.cell? ⟨gb581,0,none⟩=some (.int .i64 0):=(blk_cell BK581.out 0).trans rfl;have hcz28_1:w26.cell? ⟨gb581,1,none⟩=some (.int .i64 0):=(blk_cell BK581.out 1).trans rfl;have hcz28_2:w26.cell? ⟨gb581,2,none⟩=some (.int .i64 0):=(blk_cell BK581.out 2).trans rfl;have hfz28_0:=blk_frozen BK581.out 0;have hfz28_1:=blk_frozen BK581.out 1;have hfz28_2:=blk_frozen BK581.out 2))
               (try simp only [Act.put,List.setIfInBounds_toArray,List.set_cons_zero,List.set_cons_succ])
               go_cut [44] (fun v44 wc=>∃ (kq:Nat) (x44_24:Bool),v44=.bool x44_24∧Aside0 (spec_Truth.j3 kq l1 x5_2 x7_3 (l1.length:Int) x21_2 y573 (y573.length:Int) x32_3 x44_24 a0_0 l0_1 ((rd_T56 y573 x32_3).f0) ((rd_T56 y573 x32_3).f1) ((rd_T56 y573 x32_3).f2)=some r)∧Aside0 (kq≤k3)∧Aside0 (Kd.S (Kd.slice 3 (Kd.int .i64)) 59 wc w.heap.size (fun k_=>some k_ ≠ (v571:Value).ownBlock) u5 x5_2)∧Aside0 (Kd.R (Kd.int .i64) 3 wc w.heap.size (fun _=>True) v571 x7_3)∧Aside0 (wc.heap[gb568]?=some (.cells #[.int .i64 a0_0,(.slice A0_1 l0_1.length c0_1)] 30 (0,0)))∧Aside0 (wc.heap[gb581]?=some (.cells #[.int .i64 ((rd_T56 y573 x32_3).f0),.int .i64 ((rd_T56 y573 x32_3).f1),.int .i64 ((rd_T56 y573 x32_3).f2)] 56 (0,0)))∧Aside0 (Below w.heap.size w wc))
               case first =>
                have H:=HC25.out
                clear HC25
                by_cases c29:((rd_T56 y573 x32_3).f0)=1
                ·rw [if_pos c29] at H
                 have c29b0:(((rd_T56 y573 x32_3).f0)==1)=true:=beq_iff_eq.mpr c29
                 have c29b1:(((rd_T56 y573 x32_3).f0) != 1)=false:=bne_eq_false_iff_eq.mpr c29
                 clear c29
                 (first|rw [c29b0]|(simp only [i64_w,i32_w];rw [c29b0])|skip)
                 replace H:=Option.bind_eq_some_iff.mp H
                 obtain ⟨t582,A300,H⟩:=H
                 replace H:(spec_Truth.j3 k3 l1 x5_2 x7_3 (l1.length:Int) x21_2 y573 (y573.length:Int) x32_3 (!t582) a0_0 l0_1 ((rd_T56 y573 x32_3).f0) ((rd_T56 y573 x32_3).f1) ((rd_T56 y573 x32_3).f2))=some r:=H
                 have A30:=Aside0.mk A300
                 clear A300
                 have H':=Aside0.mk H
                 clear H
                 have hnb31:=NB581_568.out
                 have hnc31:=NB568_581.out
                 have hcz32_0:w26.cell? ⟨gb581,0,none⟩=some (.int .i64 0):=(blk_cell BK581.out 0).trans rfl
                 have hcz32_1:w26.cell? ⟨gb581,1,none⟩=some (.int .i64 0):=(blk_cell BK581.out 1).trans rfl
                 have hcz32_2:w26.cell? ⟨gb581,2,none⟩=some (.int .i64 0):=(blk_cell BK581.out 2).trans rfl
                 have hfz32_0:=blk_frozen BK581.out 0
                 have hfz32_1:=blk_frozen BK581.out 1
                 have hfz32_2:=blk_frozen BK581.out 2
                 have hcz33_0:w26.cell? ⟨gb568,0,none⟩=some (.int .i64 a0_0):=(blk_cell BK568.out 0).trans rfl
                 have hcz33_1:w26.cell? ⟨gb568,1,none⟩=some (.slice A0_1 l0_1.length c0_1):=(blk_cell BK568.out 1).trans rfl
                 have hfz33_0:=blk_frozen BK568.out 0
                 have hfz33_1:=blk_frozen BK568.out 1
                 go_wp2_with (first|(go_at_call 34;(with_reducible refine (spec_EventOk.calls k3 a0_0 _ _ l0_1 ((rd_T56 y573 x32_3).f0) ((rd_T56 y573 x32_3).f1) ((rd_T56 y573 x32_3).f2) t582 _ ?side1 ?side2 A30.out).mono ?_);(case side1=>exact Kd.C_below HR0_1.out (by repeat (first|(with_reducible first|exact HB.out|apply below_alloc|apply pw_below_drewN|apply below_drew1|refine below_set ?_ GE568.out|refine below_set ?_ GE581.out)|exact HB.out)));(case side2=>exact HC0_1.out);rintro e w34 ⟨rfl,hb⟩;have n0_:=Aside0.mk (Kd.S_below (by (with_reducible repeat (first|apply Kd.S_alloc|apply Kd.S_drewN|apply Kd.S_drew));exact (Kd.S_mono (Kd.S_far (p:=⟨gb581,2,none⟩) (Kd.S_far (p:=⟨gb581,1,none⟩) (Kd.S_far (p:=⟨gb581,0,none⟩) (Kd.S_types HO_5.out BK581.out (by decide)) (fun _ hk=>hk.2) (.int .i64 ((rd_T56 y573 x32_3).f0))) (fun _ hk=>hk.2) (.int .i64 ((rd_T56 y573 x32_3).f1))) (fun _ hk=>hk.2) (.int .i64 ((rd_T56 y573 x32_3).f2))) (fun _ h_=>h_.1))) hb);have n1_:=Aside0.mk (Kd.R_below (by (with_reducible repeat (first|apply Kd.R_alloc|apply Kd.R_drewN|apply Kd.R_drew));exact (Kd.R_mono (Kd.R_far (p:=⟨gb581,2,none⟩) (Kd.R_far (p:=⟨gb581,1,none⟩) (Kd.R_far (p:=⟨gb581,0,none⟩) (Kd.R_types HO_7.out BK581.out (by decide)) (fun _ hk=>hk.2) (.int .i64 ((rd_T56 y573 x32_3).f0))) (fun _ hk=>hk.2) (.int .i64 ((rd_T56 y573 x32_3).f1))) (fun _ hk=>hk.2) (.int .i64 ((rd_T56 y573 x32_3).f2))) (fun _ h_=>h_.1))) hb);have n2_:=Aside0.mk (blk_below (g:=gb568) (o:=.cells #[.int .i64 a0_0,.slice A0_1 l0_1.length c0_1] 30 (0,0)) (by (with_reducible repeat (first|refine blk_drewN ?_ _|refine blk_drew ?_|refine blk_alloc ?_ _));refine blk_far ?_ NB568_581.out _;(with_reducible repeat (first|refine blk_drewN ?_ _|refine blk_drew ?_|refine blk_alloc ?_ _));refine blk_far ?_ NB568_581.out _;(with_reducible repeat (first|refine blk_drewN ?_ _|refine blk_drew ?_|refine blk_alloc ?_ _));refine blk_far ?_ NB568_581.out _;(with_reducible repeat (first|refine blk_drewN ?_ _|refine blk_drew ?_|refine blk_alloc ?_ _));exact BK568.out) hb);have n3_:=Aside0.mk (blk_below (g:=gb581) (o:=.cells #[.int .i64 ((rd_T56 y573 x32_3).f0),.int .i64 ((rd_T56 y573 x32_3).f1),.int .i64 ((rd_T56 y573 x32_3).f2)] 56 (0,0)) (by (with_reducible repeat (first|refine blk_drewN ?_ _|refine blk_drew ?_|refine blk_alloc ?_ _));refine blk_put (cs:=#[.int .i64 ((rd_T56 y573 x32_3).f0),.int .i64 ((rd_T56 y573 x32_3).f1),.int .i64 0]) ?_ 2 _ rfl;(with_reducible repeat (first|refine blk_drewN ?_ _|refine blk_drew ?_|refine blk_alloc ?_ _));refine blk_put (cs:=#[.int .i64 ((rd_T56 y573 x32_3).f0),.int .i64 0,.int .i64 0]) ?_ 1 _ rfl;(with_reducible repeat (first|refine blk_drewN ?_ _|refine blk_drew ?_|refine blk_alloc ?_ _));refine blk_put (cs:=#[.int .i64 0,.int .i64 0,.int .i64 0]) ?_ 0 _ rfl;(with_reducible repeat (first|refine blk_drewN ?_ _|refine blk_drew ?_|refine blk_alloc ?_ _));exact BK581.out) hb);have n4_:=Aside0.mk (below_step (by repeat (first|(with_reducible first|exact HB.out|apply below_alloc|apply pw_below_drewN|apply below_drew1|refine below_set ?_ GE568.out|refine below_set ?_ GE581.out)|exact HB.out)) hb);clear HO_5;clear HO_7;clear BK568;clear BK581;clear HB;have HO_5:=n0_;have HO_7:=n1_;have BK568:=n2_;have BK581:=n3_;have HB:=n4_;clear n0_ n1_ n2_ n3_ n4_;(try clear hb);(try clear hb2);(try clear hk);(try clear hi)))
                 go_meet
                 case rel=>exact ⟨_,(!t582),(by first|rfl|(simp;done)|(simp [*];done)),H',⟨by have:=HJ2.out;have:=HK2.out;have:=HK3.out;first|omega|exact Nat.le_refl _⟩,⟨by exact HO_5.out⟩,⟨by exact HO_7.out⟩,⟨by exact BK568.out⟩,⟨by exact BK581.out⟩,⟨by exact HB.out⟩⟩
                rw [if_neg c29] at H
                have c29b0:(((rd_T56 y573 x32_3).f0)==1)=false:=beq_eq_false_iff_ne.mpr c29
                have c29b1:(((rd_T56 y573 x32_3).f0) != 1)=true:=bne_iff_ne.mpr c29
                (first|rw [c29b0]|(simp only [i64_w,i32_w];rw [c29b0])|skip)
                have H':=Aside0.mk H
                clear H
                have hnb35:=NB581_568.out
                have hnc35:=NB568_581.out
                have hcz36_0:w26.cell? ⟨gb581,0,none⟩=some (.int .i64 0):=(blk_cell BK581.out 0).trans rfl
                have hcz36_1:w26.cell? ⟨gb581,1,none⟩=some (.int .i64 0):=(blk_cell BK581.out 1).trans rfl
                have hcz36_2:w26.cell? ⟨gb581,2,none⟩=some (.int .i64 0):=(blk_cell BK581.out 2).trans rfl
                have hfz36_0:=blk_frozen BK581.out 0
                have hfz36_1:=blk_frozen BK581.out 1
                have hfz36_2:=blk_frozen BK581.out 2
                go_wp2
                go_meet
                case rel=>exact ⟨_,(true),(by first|rfl|(simp;done)|(simp [*];done)),H',⟨by have:=HJ2.out;have:=HK2.out;have:=HK3.out;first|omega|exact Nat.le_refl _⟩,⟨by exact Kd.S_mono (Kd.S_far (p:=⟨gb581,2,none⟩) (Kd.S_far (p:=⟨gb581,1,none⟩) (Kd.S_far (p:=⟨gb581,0,none⟩) (Kd.S_types HO_5.out BK581.out (by decide)) (fun _ hk=>hk.2) (.int .i64 ((rd_T56 y573 x32_3).f0))) (fun _ hk=>hk.2) (.int .i64 ((rd_T56 y573 x32_3).f1))) (fun _ hk=>hk.2) (.int .i64 ((rd_T56 y573 x32_3).f2))) (fun _ hk=>hk.1)⟩,⟨by exact Kd.R_mono (Kd.R_far (p:=⟨gb581,2,none⟩) (Kd.R_far (p:=⟨gb581,1,none⟩) (Kd.R_far (p:=⟨gb581,0,none⟩) (Kd.R_types HO_7.out BK581.out (by decide)) (fun _ hk=>hk.2) (.int .i64 ((rd_T56 y573 x32_3).f0))) (fun _ hk=>hk.2) (.int .i64 ((rd_T56 y573 x32_3).f1))) (fun _ hk=>hk.2) (.int .i64 ((rd_T56 y573 x32_3).f2))) (fun _ hk=>trivial)⟩,⟨by refine blk_far ?_ NB568_581.out _;refine blk_far ?_ NB568_581.out _;refine blk_far ?_ NB568_581.out _;exact BK568.out⟩,⟨by refine blk_put (cs:=#[.int .i64 ((rd_T56 y573 x32_3).f0),.int .i64 ((rd_T56 y573 x32_3).f1),.int .i64 0]) ?_ 2 _ rfl;refine blk_put (cs:=#[.int .i64 ((rd_T56 y573 x32_3).f0),.int .i64 0,.int .i64 0]) ?_ 1 _ rfl;refine blk_put (cs:=#[.int .i64 0,.int .i64 0,.int .i64 0]) ?_ 0 _ rfl;exact BK581.out⟩,⟨by repeat (first|(with_reducible first|exact HB.out|apply below_alloc|apply pw_below_drewN|apply below_drew1|refine below_set ?_ GE568.out|refine below_set ?_ GE581.out)|exact HB.out)⟩⟩
               case rest =>
                clear HC25
                try clear c1
                try clear c2
                try clear p2
                try clear q2
                try clear c3
                try clear c5
                try clear p5
                try clear q5
                try clear hx5
                try clear c6
                try clear c6b0
                try clear c6b1
                try clear p6
                try clear c11
                try clear c12
                try clear c12b0
                try clear c13
                try clear c13b0
                try clear c13b1
                try clear c14
                try clear c14b0
                try clear c14b1
                try clear c16
                try clear c16b0
                try clear c16b1
                try clear c17
                try clear c17b0
                try clear c17b1
                try clear q21
                try clear c22
                try clear c22b0
                try clear c23
                try clear c23b0
                try clear c24
                try clear c24b0
                try clear c27
                try clear c29
                try clear c29b0
                try clear c29b1
                try clear c31
                try clear c35
                try clear hcz18_0
                try clear hcz18_1
                try clear hcz28_0
                try clear hcz28_1
                try clear hcz28_2
                try clear hcz32_0
                try clear hcz32_1
                try clear hcz32_2
                try clear hcz33_0
                try clear hcz33_1
                try clear hcz36_0
                try clear hcz36_1
                try clear hcz36_2
                try clear hcz7_0
                try clear hcz7_1
                try clear hcz9_0
                try clear hcz9_1
                try clear hfz18_0
                try clear hfz18_1
                try clear hfz28_0
                try clear hfz28_1
                try clear hfz28_2
                try clear hfz32_0
                try clear hfz32_1
                try clear hfz32_2
                try clear hfz33_0
                try clear hfz33_1
                try clear hfz36_0
                try clear hfz36_1
                try clear hfz36_2
                try clear hfz7_0
                try clear hfz7_1
                try clear hfz9_0
                try clear hfz9_1
                try clear hx580_0
                try clear hx580_1
                try clear hx580_2
                try clear p2
                try clear p580
                try clear p6
                try clear q2
                try clear q21
                try clear q580
                obtain ⟨kq,x44_24,rfl,HA,HJ24,HO_5,HO_7,BK568,BK581,HB⟩:=hcut
                cases kq with
                | zero=>exact absurd HA.out (by simp [spec_Truth.j3])
                | succ kj24 =>
                 have H:=HA.out
                 clear HA
                 simp only [spec_Truth.j3] at H
                 by_cases c37:x44_24=true
                 ·subst c37
                  have H1:(spec_Truth.l1 kj24 l1 x5_2 x7_3 (l1.length:Int) x21_2 y573 (y573.length:Int) (wrap64 (x32_3+1)) a0_0 l0_1)=some r:=by rw [if_pos rfl] at H;exact H
                  clear H
                  have H:=H1
                  clear H1
                  have H':=Aside0.mk H
                  clear H
                  go_wp2
                  go_roundg kj24
                  case measure=>have:=HJ2.out;have:=HK2.out;have:=HK3.out;have:=HJ24.out;omega
                  case rel=>exact ⟨(x7_3),(wrap64 (x32_3+1)),(by first|rfl|(simp;done)|(simp [*];done)),H',⟨by have:=HJ2.out;have:=HK2.out;have:=HK3.out;have:=HJ24.out;omega⟩,⟨by exact HO_5.out⟩,⟨by exact HO_7.out⟩,⟨by exact BK568.out⟩,⟨by exact HB.out⟩⟩
                 replace c37:=Bool.eq_false_iff.mpr c37
                 subst c37
                 have H1:(if 0≤((rd_T56 y573 x32_3).f1) then (if ((rd_T56 y573 x32_3).f1)<(l0_1.length:Int) then (if ((rd_T88 l0_1 ((rd_T56 y573 x32_3).f1)).f0) ≥ 0 then (if 0≤((rd_T88 l0_1 ((rd_T56 y573 x32_3).f1)).f0) then (if ((rd_T88 l0_1 ((rd_T56 y573 x32_3).f1)).f0)<(x7_3.length:Int) then ((some (x7_3.set (((rd_T88 l0_1 ((rd_T56 y573 x32_3).f1)).f0):Int).toNat (wrap64 ((rd x7_3 ((rd_T88 l0_1 ((rd_T56 y573 x32_3).f1)).f0)) - ((rd_T56 y573 x32_3).f2))):List Int)).bind fun y586=>(if ((rd_T88 l0_1 ((rd_T56 y573 x32_3).f1)).f1) ≥ 0 then (if 0≤((rd_T88 l0_1 ((rd_T56 y573 x32_3).f1)).f1) then (if ((rd_T88 l0_1 ((rd_T56 y573 x32_3).f1)).f1)<(x7_3.length:Int) then (spec_Truth.l1 kj24 l1 x5_2 (y586.set (((rd_T88 l0_1 ((rd_T56 y573 x32_3).f1)).f1):Int).toNat (wrap64 ((rd y586 ((rd_T88 l0_1 ((rd_T56 y573 x32_3).f1)).f1))+((rd_T56 y573 x32_3).f2)))) (l1.length:Int) x21_2 y573 (y573.length:Int) (wrap64 (x32_3+1)) a0_0 l0_1) else (none)) else (none)) else (spec_Truth.l1 kj24 l1 x5_2 y586 (l1.length:Int) x21_2 y573 (y573.length:Int) (wrap64 (x32_3+1)) a0_0 l0_1))) else (none)) else (none)) else (if ((rd_T88 l0_1 ((rd_T56 y573 x32_3).f1)).f1) ≥ 0 then (if 0≤((rd_T88 l0_1 ((rd_T56 y573 x32_3).f1)).f1) then (if ((rd_T88 l0_1 ((rd_T56 y573 x32_3).f1)).f1)<(x7_3.length:Int) then (spec_Truth.l1 kj24 l1 x5_2 (x7_3.set (((rd_T88 l0_1 ((rd_T56 y573 x32_3).f1)).f1):Int).toNat (wrap64 ((rd x7_3 ((rd_T88 l0_1 ((rd_T56 y573 x32_3).f1)).f1))+((rd_T56 y573 x32_3).f2)))) (l1.length:Int) x21_2 y573 (y573.length:Int) (wrap64 (x32_3+1)) a0_0 l0_1) else (none)) else (none)) else (spec_Truth.l1 kj24 l1 x5_2 x7_3 (l1.length:Int) x21_2 y573 (y573.length:Int) (wrap64 (x32_3+1)) a0_0 l0_1))) else (none)) else (none))=some r:=by rw [if_neg (show ¬ (false=true) by decide)] at H;exact H
                 clear H
                 have H:=H1
                 clear H1
                 by_cases c38:0≤((rd_T56 y573 x32_3).f1)
                 ·rw [if_pos c38] at H
                  have c38b0:decide (0≤((rd_T56 y573 x32_3).f1))=true:=decide_eq_true c38
                  clear c38
                  by_cases c39:((rd_T56 y573 x32_3).f1)<(l0_1.length:Int)
                  ·rw [if_pos c39] at H
                   have c39b0:decide (((rd_T56 y573 x32_3).f1)<(l0_1.length:Int))=true:=decide_eq_true c39
                   clear c39
                   by_cases c40:((rd_T88 l0_1 ((rd_T56 y573 x32_3).f1)).f0) ≥ 0
                   ·rw [if_pos c40] at H
                    have c40b0:decide (0≤((rd_T88 l0_1 ((rd_T56 y573 x32_3).f1)).f0))=true:=decide_eq_true c40
                    clear c40
                    by_cases c41:0≤((rd_T88 l0_1 ((rd_T56 y573 x32_3).f1)).f0)
                    ·rw [if_pos c41] at H
                     have c41b0:decide (0≤((rd_T88 l0_1 ((rd_T56 y573 x32_3).f1)).f0))=true:=decide_eq_true c41
                     clear c41
                     by_cases c42:((rd_T88 l0_1 ((rd_T56 y573 x32_3).f1)).f0)<(x7_3.length:Int)
                     ·rw [if_pos c42] at H
                      have c42b0:decide (((rd_T88 l0_1 ((rd_T56 y573 x32_3).f1)).f0)<(x7_3.length:Int))=true:=decide_eq_true c42
                      clear c42
                      obtain ⟨y586,hy586⟩:∃ y_:List Int,y_=(x7_3.set (((rd_T88 l0_1 ((rd_T56 y573 x32_3).f1)).f0):Int).toNat (wrap64 ((rd x7_3 ((rd_T88 l0_1 ((rd_T56 y573 x32_3).f1)).f0)) - ((rd_T56 y573 x32_3).f2)))):=⟨_,rfl⟩
                      replace H:(if ((rd_T88 l0_1 ((rd_T56 y573 x32_3).f1)).f1) ≥ 0 then (if 0≤((rd_T88 l0_1 ((rd_T56 y573 x32_3).f1)).f1) then (if ((rd_T88 l0_1 ((rd_T56 y573 x32_3).f1)).f1)<(x7_3.length:Int) then (spec_Truth.l1 kj24 l1 x5_2 (y586.set (((rd_T88 l0_1 ((rd_T56 y573 x32_3).f1)).f1):Int).toNat (wrap64 ((rd y586 ((rd_T88 l0_1 ((rd_T56 y573 x32_3).f1)).f1))+((rd_T56 y573 x32_3).f2)))) (l1.length:Int) x21_2 y573 (y573.length:Int) (wrap64 (x32_3+1)) a0_0 l0_1) else (none)) else (none)) else (spec_Truth.l1 kj24 l1 x5_2 y586 (l1.length:Int) x21_2 y573 (y573.length:Int) (wrap64 (x32_3+1)) a0_0 l0_1))=some r:=by first|(rw [hy586];with_reducible exact H)|(have H2_:=(Option.bind_some _ _).symm.trans H;rw [hy586];with_reducible exact H2_)|(have H2_:=(Option.bind_some _ _).symm.trans H;with_reducible exact H2_)|with_reducible exact H|(rw [hy586];exact H)|exact H
                      have Ny586:=Aside0.mk hy586
                      clear hy586
                      by_cases c44:((rd_T88 l0_1 ((rd_T56 y573 x32_3).f1)).f1) ≥ 0
                      ·rw [if_pos c44] at H
                       have c44b0:decide (0≤((rd_T88 l0_1 ((rd_T56 y573 x32_3).f1)).f1))=true:=decide_eq_true c44
                       clear c44
                       by_cases c45:0≤((rd_T88 l0_1 ((rd_T56 y573 x32_3).f1)).f1)
                       ·rw [if_pos c45] at H
                        have c45b0:decide (0≤((rd_T88 l0_1 ((rd_T56 y573 x32_3).f1)).f1))=true:=decide_eq_true c45
                        clear c45
                        by_cases c46:((rd_T88 l0_1 ((rd_T56 y573 x32_3).f1)).f1)<(x7_3.length:Int)
                        ·rw [if_pos c46] at H
                         have c46b0:decide (((rd_T88 l0_1 ((rd_T56 y573 x32_3).f1)).f1)<(x7_3.length:Int))=true:=decide_eq_true c46
                         clear c46
                         obtain ⟨y588,hy588⟩:∃ y_:List Int,y_=(y586.set (((rd_T88 l0_1 ((rd_T56 y573 x32_3).f1)).f1):Int).toNat (wrap64 ((rd y586 ((rd_T88 l0_1 ((rd_T56 y573 x32_3).f1)).f1))+((rd_T56 y573 x32_3).f2)))):=⟨_,rfl⟩
                         replace H:(spec_Truth.l1 kj24 l1 x5_2 y588 (l1.length:Int) x21_2 y573 (y573.length:Int) (wrap64 (x32_3+1)) a0_0 l0_1)=some r:=by first|(rw [hy588];with_reducible exact H)|(have H2_:=(Option.bind_some _ _).symm.trans H;rw [hy588];with_reducible exact H2_)|(have H2_:=(Option.bind_some _ _).symm.trans H;with_reducible exact H2_)|with_reducible exact H|(rw [hy588];exact H)|exact H
                         have Ny588:=Aside0.mk hy588
                         clear hy588
                         have H':=Aside0.mk H
                         clear H
                         have hnb48:=NB568_581.out
                         have hnc48:=NB581_568.out
                         have hcz49_0:wc.cell? ⟨gb568,0,none⟩=some (.int .i64 a0_0):=(blk_cell BK568.out 0).trans rfl
                         have hcz49_1:wc.cell? ⟨gb568,1,none⟩=some (.slice A0_1 l0_1.length c0_1):=(blk_cell BK568.out 1).trans rfl
                         have hfz49_0:=blk_frozen BK568.out 0
                         have hfz49_1:=blk_frozen BK568.out 1
                         have hcz50_0:wc.cell? ⟨gb581,0,none⟩=some (.int .i64 ((rd_T56 y573 x32_3).f0)):=(blk_cell BK581.out 0).trans rfl
                         have hcz50_1:wc.cell? ⟨gb581,1,none⟩=some (.int .i64 ((rd_T56 y573 x32_3).f1)):=(blk_cell BK581.out 1).trans rfl
                         have hcz50_2:wc.cell? ⟨gb581,2,none⟩=some (.int .i64 ((rd_T56 y573 x32_3).f2)):=(blk_cell BK581.out 2).trans rfl
                         have hfz50_0:=blk_frozen BK581.out 0
                         have hfz50_1:=blk_frozen BK581.out 1
                         have hfz50_2:=blk_frozen BK581.out 2
                         have p583:0≤(((rd_T56 y573 x32_3).f1):Int):=of_decide_eq_true (by first|(with_reducible assumption)|assumption)
                         have q583:((rd_T56 y573 x32_3).f1)<(l0_1.length:Int):=of_decide_eq_true (by first|(with_reducible assumption)|assumption)
                         obtain ⟨ad583,e583,hx583_0,hx583_1⟩:=at_T88 HR0_1.out ((rd_T56 y573 x32_3).f1) p583 q583
                         cases e583
                         replace hx583_0:=(HB.out.cell (World.block_lt_of_cell? w _ hx583_0)).trans hx583_0
                         replace hx583_1:=(HB.out.cell (World.block_lt_of_cell? w _ hx583_1)).trans hx583_1
                         replace p583:=eq_true p583
                         replace q583:=eq_true q583
                         try go_wp2_with (first|((with_reducible refine gate_dst (N:=10) rfl ?_);refine box_event ?hg (N:=10) ?hd (cs:=#[.int .i64 0,.int .i64 0]) (t:=88) ?hr ?_;(case hd=>rfl);(case hg=>rfl);(case hr=>first|(go_simp;done)|(go_simp;rfl));intro gb584 hg w51 hbox hb;have n0_:=Aside0.mk (Kd.S_below (by exact HO_5.out) hb);have n1_:=Aside0.mk (Kd.R_below (by exact HO_7.out) hb);have n2_:=Aside0.mk (blk_below (g:=gb568) (o:=.cells #[.int .i64 a0_0,.slice (some ad583) l0_1.length c0_1] 30 (0,0)) (by exact BK568.out) hb);have n3_:=Aside0.mk (blk_below (g:=gb581) (o:=.cells #[.int .i64 ((rd_T56 y573 x32_3).f0),.int .i64 ((rd_T56 y573 x32_3).f1),.int .i64 ((rd_T56 y573 x32_3).f2)] 56 (0,0)) (by exact BK581.out) hb);have n4_:=Aside0.mk (below_step (by exact HB.out) hb);have n5_:=Aside0.mk (hbox);have n6_:=Aside0.mk ((by rw [hg];exact (below_size (by exact HB.out)):w.heap.size≤gb584));have n7_:=Aside0.mk ((by rw [hg];exact (below_size (by exact HB.out)):w.heap.size≤gb584));have n8_:=Aside0.mk ((by rw [hg];exact Nat.ne_of_lt (blk_lt (g:=gb568) (o:=.cells #[.int .i64 a0_0,.slice (some ad583) l0_1.length c0_1] 30 (0,0)) (by exact BK568.out)):gb568 ≠ gb584));have n9_:=Aside0.mk ((by rw [hg];exact Nat.ne_of_gt (blk_lt (g:=gb568) (o:=.cells #[.int .i64 a0_0,.slice (some ad583) l0_1.length c0_1] 30 (0,0)) (by exact BK568.out)):gb584 ≠ gb568));have n10_:=Aside0.mk ((by rw [hg];exact Nat.ne_of_lt (blk_lt (g:=gb581) (o:=.cells #[.int .i64 ((rd_T56 y573 x32_3).f0),.int .i64 ((rd_T56 y573 x32_3).f1),.int .i64 ((rd_T56 y573 x32_3).f2)] 56 (0,0)) (by exact BK581.out)):gb581 ≠ gb584));have n11_:=Aside0.mk ((by rw [hg];exact Nat.ne_of_gt (blk_lt (g:=gb581) (o:=.cells #[.int .i64 ((rd_T56 y573 x32_3).f0),.int .i64 ((rd_T56 y573 x32_3).f1),.int .i64 ((rd_T56 y573 x32_3).f2)] 56 (0,0)) (by exact BK581.out)):gb584 ≠ gb581));clear HO_5;clear HO_7;clear BK568;clear BK581;clear HB;have HO_5:=n0_;have HO_7:=n1_;have BK568:=n2_;have BK581:=n3_;have HB:=n4_;have BK584:=n5_;have GW584:=n6_;have GE584:=n7_;have NB568_584:=n8_;have NB584_568:=n9_;have NB581_584:=n10_;have NB584_581:=n11_;clear n0_ n1_ n2_ n3_ n4_ n5_ n6_ n7_ n8_ n9_ n10_ n11_;clear hb hbox hg;have hnb52:=NB584_568.out;have hnc52:=NB568_584.out;have hnb53:=NB584_581.out;have hnc53:=NB581_584.out;have hcz54_0:w51.cell? ⟨gb584,0,none⟩=some (.int .i64 0):=(blk_cell BK584.out 0).trans rfl;have hcz54_1:w51.cell? ⟨gb584,1,none⟩=some (.int .i64 0):=(blk_cell BK584.out 1).trans rfl;have hfz54_0:=blk_frozen BK584.out 0;have hfz54_1:=blk_frozen BK584.out 1))
                         have n0_:Aside0 (Kd.S (Kd.slice 3 (Kd.int .i64)) 59 ((w51.setCell ⟨gb584,0,none⟩ (.int .i64 ((rd_T88 l0_1 ((rd_T56 y573 x32_3).f1)).f0))).setCell ⟨gb584,1,none⟩ (.int .i64 ((rd_T88 l0_1 ((rd_T56 y573 x32_3).f1)).f1))) w.heap.size (fun k_=>some k_ ≠ (v571:Value).ownBlock) u5 x5_2):=⟨by exact Kd.S_mono (Kd.S_far (p:=⟨gb584,1,none⟩) (Kd.S_far (p:=⟨gb584,0,none⟩) (Kd.S_types HO_5.out BK584.out (by decide)) (fun _ hk=>hk.2) (.int .i64 ((rd_T88 l0_1 ((rd_T56 y573 x32_3).f1)).f0))) (fun _ hk=>hk.2) (.int .i64 ((rd_T88 l0_1 ((rd_T56 y573 x32_3).f1)).f1))) (fun _ hk=>hk.1)⟩
                         have n1_:Aside0 (Kd.R (Kd.int .i64) 3 ((w51.setCell ⟨gb584,0,none⟩ (.int .i64 ((rd_T88 l0_1 ((rd_T56 y573 x32_3).f1)).f0))).setCell ⟨gb584,1,none⟩ (.int .i64 ((rd_T88 l0_1 ((rd_T56 y573 x32_3).f1)).f1))) w.heap.size (fun _=>True) v571 x7_3):=⟨by exact Kd.R_mono (Kd.R_far (p:=⟨gb584,1,none⟩) (Kd.R_far (p:=⟨gb584,0,none⟩) (Kd.R_types HO_7.out BK584.out (by decide)) (fun _ hk=>hk.2) (.int .i64 ((rd_T88 l0_1 ((rd_T56 y573 x32_3).f1)).f0))) (fun _ hk=>hk.2) (.int .i64 ((rd_T88 l0_1 ((rd_T56 y573 x32_3).f1)).f1))) (fun _ hk=>trivial)⟩
                         have n2_:Aside0 (((w51.setCell ⟨gb584,0,none⟩ (.int .i64 ((rd_T88 l0_1 ((rd_T56 y573 x32_3).f1)).f0))).setCell ⟨gb584,1,none⟩ (.int .i64 ((rd_T88 l0_1 ((rd_T56 y573 x32_3).f1)).f1))).heap[gb568]?=some (.cells #[.int .i64 a0_0,.slice (some ad583) l0_1.length c0_1] 30 (0,0))):=⟨by refine blk_far ?_ NB568_584.out _;refine blk_far ?_ NB568_584.out _;exact BK568.out⟩
                         have n3_:Aside0 (((w51.setCell ⟨gb584,0,none⟩ (.int .i64 ((rd_T88 l0_1 ((rd_T56 y573 x32_3).f1)).f0))).setCell ⟨gb584,1,none⟩ (.int .i64 ((rd_T88 l0_1 ((rd_T56 y573 x32_3).f1)).f1))).heap[gb581]?=some (.cells #[.int .i64 ((rd_T56 y573 x32_3).f0),.int .i64 ((rd_T56 y573 x32_3).f1),.int .i64 ((rd_T56 y573 x32_3).f2)] 56 (0,0))):=⟨by refine blk_far ?_ NB581_584.out _;refine blk_far ?_ NB581_584.out _;exact BK581.out⟩
                         have n4_:Aside0 (((w51.setCell ⟨gb584,0,none⟩ (.int .i64 ((rd_T88 l0_1 ((rd_T56 y573 x32_3).f1)).f0))).setCell ⟨gb584,1,none⟩ (.int .i64 ((rd_T88 l0_1 ((rd_T56 y573 x32_3).f1)).f1))).heap[gb584]?=some (.cells #[.int .i64 ((rd_T88 l0_1 ((rd_T56 y573 x32_3).f1)).f0),.int .i64 ((rd_T88 l0_1 ((rd_T56 y573 x32_3).f1)).f1)] 88 (0,0))):=⟨by refine blk_put (cs:=#[.int .i64 ((rd_T88 l0_1 ((rd_T56 y573 x32_3).f1)).f0),.int .i64 0]) ?_ 1 _ rfl;refine blk_put (cs:=#[.int .i64 0,.int .i64 0]) ?_ 0 _ rfl;exact BK584.out⟩
                         have n5_:Aside0 (Below w.heap.size w ((w51.setCell ⟨gb584,0,none⟩ (.int .i64 ((rd_T88 l0_1 ((rd_T56 y573 x32_3).f1)).f0))).setCell ⟨gb584,1,none⟩ (.int .i64 ((rd_T88 l0_1 ((rd_T56 y573 x32_3).f1)).f1)))):=⟨by repeat (first|(with_reducible first|exact HB.out|apply below_alloc|apply pw_below_drewN|apply below_drew1|refine below_set ?_ GE568.out|refine below_set ?_ GE581.out|refine below_set ?_ GE584.out)|exact HB.out)⟩
                         (try clear HO_5)
                         (try clear HO_7)
                         (try clear BK568)
                         (try clear BK581)
                         (try clear BK584)
                         (try clear HB)
                         generalize ((w51.setCell ⟨gb584,0,none⟩ (.int .i64 ((rd_T88 l0_1 ((rd_T56 y573 x32_3).f1)).f0))).setCell ⟨gb584,1,none⟩ (.int .i64 ((rd_T88 l0_1 ((rd_T56 y573 x32_3).f1)).f1)))=w55 at n0_ n1_ n2_ n3_ n4_ n5_ ⊢
                         have HO_5:=n0_
                         have HO_7:=n1_
                         have BK568:=n2_
                         have BK581:=n3_
                         have BK584:=n4_
                         have HB:=n5_
                         clear n0_ n1_ n2_ n3_ n4_ n5_
                         have n0_:=Aside0.mk (Kd.S_drew HO_5.out)
                         have n1_:=Aside0.mk (Kd.R_drew HO_7.out)
                         have n2_:=Aside0.mk (blk_drew BK568.out)
                         have n3_:=Aside0.mk (blk_drew BK581.out)
                         have n4_:=Aside0.mk (blk_drew BK584.out)
                         have n5_:=Aside0.mk (below_drew1 HB.out)
                         clear HO_5
                         clear HO_7
                         clear BK568
                         clear BK581
                         clear BK584
                         clear HB
                         have HO_5:=n0_
                         have HO_7:=n1_
                         have BK568:=n2_
                         have BK581:=n3_
                         have BK584:=n4_
                         have HB:=n5_
                         clear n0_ n1_ n2_ n3_ n4_ n5_
                         obtain ⟨Ao57,co57,eo57⟩:=Kd.R_slice HO_7.out
                         (first|subst eo57|(injection eo57 with f1_ f2_ f3_;have f4_:=f1_.symm;have f5_:=f3_.symm;clear f1_ f2_ f3_;subst f4_;subst f5_))
                         have p585:0≤(((rd_T88 l0_1 ((rd_T56 y573 x32_3).f1)).f0):Int):=of_decide_eq_true (by first|(with_reducible assumption)|assumption)
                         have q585:((rd_T88 l0_1 ((rd_T56 y573 x32_3).f1)).f0)<(x7_3.length:Int):=of_decide_eq_true (by first|(with_reducible assumption)|assumption)
                         obtain ⟨ad585,e585,hx585_0⟩:=Kd.at_int (Kd.R_reads' HO_7.out).2.2 ((rd_T88 l0_1 ((rd_T56 y573 x32_3).f1)).f0) p585 q585
                         cases e585
                         replace p585:=eq_true p585
                         replace q585:=eq_true q585
                         have p43:0≤(((rd_T88 l0_1 ((rd_T56 y573 x32_3).f1)).f0):Int):=of_decide_eq_true (by first|(with_reducible assumption)|assumption)
                         have q43:(((rd_T88 l0_1 ((rd_T56 y573 x32_3).f1)).f0):Int)<((x7_3.length:Int):Int):=of_decide_eq_true (by first|(with_reducible assumption)|assumption)
                         obtain ⟨go43,co43,eo43,gb43,gl43,cl43,HG43⟩:=Kd.R_form HO_7.out (by omega)
                         (first|cases eo43|(injection eo43 with ea_ en_ ec_;(first|subst ea_|(injection ea_ with ea_;subst ea_));subst ec_;clear en_))
                         have GB43:=Aside0.mk gb43
                         have GG43:=Aside0.mk HG43
                         clear gb43 gl43 HG43
                         (first|simp only [add_plain] at hx585_0|skip)
                         obtain ⟨hx43_0,hf43_0⟩:=Kd.R_celln 0 HO_7.out (((rd_T88 l0_1 ((rd_T56 y573 x32_3).f1)).f0):Int) p43 q43
                         replace p43:=eq_true p43
                         replace q43:=eq_true q43
                         have HP58:=Kd.R_putn HO_7.out (((rd_T88 l0_1 ((rd_T56 y573 x32_3).f1)).f0):Int) (wrap64 ((rd x7_3 ((rd_T88 l0_1 ((rd_T56 y573 x32_3).f1)).f0)) - ((rd_T56 y573 x32_3).f2)))
                         rw [← Ny586.out] at HP58
                         have HQ58:=Aside0.mk HP58
                         clear HP58
                         refine start_ (n:=10) (S:=fun w'=>w'.cell? ⟨gb584,0,none⟩=some (.int .i64 ((rd_T88 l0_1 ((rd_T56 y573 x32_3).f1)).f0))∧w'.cell? ⟨gb584,1,none⟩=some (.int .i64 ((rd_T88 l0_1 ((rd_T56 y573 x32_3).f1)).f1))∧w'.cell? ⟨gb581,0,none⟩=some (.int .i64 ((rd_T56 y573 x32_3).f0))∧w'.cell? ⟨gb581,1,none⟩=some (.int .i64 ((rd_T56 y573 x32_3).f1))∧w'.cell? ⟨gb581,2,none⟩=some (.int .i64 ((rd_T56 y573 x32_3).f2))∧w'.cell? ⟨go43,(((rd_T88 l0_1 ((rd_T56 y573 x32_3).f1)).f0)).toNat,none⟩=some (.int .i64 (rd x7_3 ((rd_T88 l0_1 ((rd_T56 y573 x32_3).f1)).f0)))) (ds:=[9]) #[false,false,false,false,false,false,false,false,false,false] (by kernel_rfl) rfl rfl ⟨(blk_cell BK584.out 0).trans rfl,(blk_cell BK584.out 1).trans rfl,(blk_cell BK581.out 0).trans rfl,(blk_cell BK581.out 1).trans rfl,(blk_cell BK581.out 2).trans rfl,hx585_0⟩ (fun hHeld=>?_);refine with_tabW spec_Truth.tab14 spec_Truth.bits14 (fun HT_ HW_=>?_)
                         generalize w55.drew=w56 at HO_5 HO_7 BK568 BK581 BK584 HB GG43 HQ58 hf43_0 hx43_0 hx585_0 hHeld ⊢
                         refine pure_ (i:=0) (N:=some 54) (v:=?_) (a':=?_) #[true,false,false,false,false,false,false,false,false,false] rfl rfl (any_of HT_.out (by kernel_rfl)) (fun _ _ _ h=>h) (Or.inl ⟨by rfl,?_⟩) ?_ ?_
                         rotate_left
                         ·intro w'
                          go_simp
                          with_reducible rfl
                         rotate_left
                         ·simp only [Act.put,List.setIfInBounds_toArray,List.set_cons_zero,List.set_cons_succ,i64_w,i32_w]
                          rfl
                         refine pure_ (i:=1) (N:=some 55) (v:=?_) (a':=?_) #[true,true,false,false,false,false,false,false,false,false] rfl rfl (any_of HT_.out (by kernel_rfl)) (fun _ _ _ h=>h) (Or.inl ⟨by rfl,?_⟩) ?_ ?_
                         rotate_left
                         ·intro w'
                          go_simp
                          with_reducible rfl
                         rotate_left
                         ·simp only [Act.put,List.setIfInBounds_toArray,List.set_cons_zero,List.set_cons_succ,i64_w,i32_w]
                          rfl
                         refine pure_ (i:=5) (N:=some 59) (v:=?_) (a':=?_) #[true,true,false,false,false,true,false,false,false,false] rfl rfl (any_of HT_.out (by kernel_rfl)) (fun _ _ _ h=>h) (Or.inl ⟨by rfl,?_⟩) ?_ ?_
                         rotate_left
                         ·intro w'
                          go_simp
                          with_reducible rfl
                         rotate_left
                         ·simp only [Act.put,List.setIfInBounds_toArray,List.set_cons_zero,List.set_cons_succ,i64_w,i32_w]
                          rfl
                         refine take_ (i:=2) (N:=some 56) (v:=?_) (a':=?_) #[true,true,true,false,false,true,false,false,false,false] rfl rfl (take_ofW HT_.out HW_.out (by kernel_rfl)) (fun _ _ _ h=>h) (Or.inl ⟨by rfl,?_⟩) hHeld ?_ ?_
                         rotate_left
                         ·rintro w' ⟨s0,s1,s2,s3,s4,s5⟩
                          go_simp
                          with_reducible rfl
                         rotate_left
                         ·simp only [Act.put,List.setIfInBounds_toArray,List.set_cons_zero,List.set_cons_succ,i64_w,i32_w]
                          rfl
                         refine pure_ (i:=3) (N:=some 57) (v:=?_) (a':=?_) #[true,true,true,true,false,true,false,false,false,false] rfl rfl (any_of HT_.out (by kernel_rfl)) (fun _ _ _ h=>h) (Or.inl ⟨by rfl,?_⟩) ?_ ?_
                         rotate_left
                         ·intro w'
                          go_simp
                          with_reducible rfl
                         rotate_left
                         ·simp only [Act.put,List.setIfInBounds_toArray,List.set_cons_zero,List.set_cons_succ,i64_w,i32_w]
                          rfl
                         refine take_ (i:=4) (N:=some 58) (v:=?_) (a':=?_) #[true,true,true,true,true,true,false,false,false,false] rfl rfl (take_ofW HT_.out HW_.out (by kernel_rfl)) (fun _ _ _ h=>h) (Or.inl ⟨by rfl,?_⟩) hHeld ?_ ?_
                         rotate_left
                         ·rintro w' ⟨s0,s1,s2,s3,s4,s5⟩
                          go_simp
                          with_reducible rfl
                         rotate_left
                         ·simp only [Act.put,List.setIfInBounds_toArray,List.set_cons_zero,List.set_cons_succ,i64_w,i32_w]
                          rfl
                         refine take_ (i:=6) (N:=some 60) (v:=?_) (a':=?_) #[true,true,true,true,true,true,true,false,false,false] rfl rfl (take_ofW HT_.out HW_.out (by kernel_rfl)) (fun _ _ _ h=>h) (Or.inl ⟨by rfl,?_⟩) hHeld ?_ ?_
                         rotate_left
                         ·rintro w' ⟨s0,s1,s2,s3,s4,s5⟩
                          go_simp
                          with_reducible rfl
                         rotate_left
                         ·simp only [Act.put,List.setIfInBounds_toArray,List.set_cons_zero,List.set_cons_succ,i64_w,i32_w]
                          rfl
                         refine pure_ (i:=7) (N:=some 61) (v:=?_) (a':=?_) #[true,true,true,true,true,true,true,true,false,false] rfl rfl (any_of HT_.out (by kernel_rfl)) (fun _ _ _ h=>h) (Or.inl ⟨by rfl,?_⟩) ?_ ?_
                         rotate_left
                         ·intro w'
                          go_simp
                          with_reducible rfl
                         rotate_left
                         ·simp only [Act.put,List.setIfInBounds_toArray,List.set_cons_zero,List.set_cons_succ,i64_w,i32_w]
                          rfl
                         refine pure_ (i:=8) (N:=some 62) (v:=?_) (a':=?_) #[true,true,true,true,true,true,true,true,true,false] rfl rfl (any_of HT_.out (by kernel_rfl)) (fun _ _ _ h=>h) (Or.inl ⟨by rfl,?_⟩) ?_ ?_
                         rotate_left
                         ·intro w'
                          go_simp
                          with_reducible rfl
                         rotate_left
                         ·simp only [Act.put,List.setIfInBounds_toArray,List.set_cons_zero,List.set_cons_succ,i64_w,i32_w]
                          rfl
                         refine last_ (i:=9) (N:=none) #[true,true,true,true,true,true,true,true,true,true] rfl rfl (one_of HT_.out (by kernel_rfl)) (by decide) (fun K hK=>?_)
                         refine skip_ (w1:=?_) (by rfl) rfl ?_ ?_
                         rotate_left
                         ·go_simp
                          rfl
                         refine hK.out _ _ ?_
                         clear hK K
                         refine done_ (done_of HT_.out (by kernel_rfl)) ?_
                         have hnx_:gb584 ≠ go43:=(by have h_:=Kd.R_ne HO_7.out BK584.out (by decide);intro e_;exact h_ (by rw [e_];rfl))
                         have hny_:go43 ≠ gb584:=fun e_=>hnx_ e_.symm
                         have hcz59_0:w56.cell? ⟨gb584,0,none⟩=some (.int .i64 ((rd_T88 l0_1 ((rd_T56 y573 x32_3).f1)).f0)):=(blk_cell BK584.out 0).trans rfl
                         have hcz59_1:w56.cell? ⟨gb584,1,none⟩=some (.int .i64 ((rd_T88 l0_1 ((rd_T56 y573 x32_3).f1)).f1)):=(blk_cell BK584.out 1).trans rfl
                         have hfz59_0:=blk_frozen BK584.out 0
                         have hfz59_1:=blk_frozen BK584.out 1
                         try go_wp2
                         have n0_:Aside0 (Kd.S (Kd.slice 3 (Kd.int .i64)) 59 (w56.setCell ⟨go43,(((rd_T88 l0_1 ((rd_T56 y573 x32_3).f1)).f0):Int).toNat,none⟩ (.int .i64 (wrap64 ((rd x7_3 ((rd_T88 l0_1 ((rd_T56 y573 x32_3).f1)).f0)) - ((rd_T56 y573 x32_3).f2))))) w.heap.size (fun k_=>some k_ ≠ (.slice (some ⟨go43,0,none⟩) x7_3.length co57:Value).ownBlock) u5 x5_2):=⟨by exact Kd.S_mono (Kd.S_far (p:=⟨go43,(((rd_T88 l0_1 ((rd_T56 y573 x32_3).f1)).f0):Int).toNat,none⟩) (Kd.S_mono HO_5.out (fun k_ hk=>(⟨hk,fun e_=>hk (by rw [e_];rfl)⟩:_∧k_ ≠ go43))) (fun _ hk=>hk.2) (.int .i64 (wrap64 ((rd x7_3 ((rd_T88 l0_1 ((rd_T56 y573 x32_3).f1)).f0)) - ((rd_T56 y573 x32_3).f2))))) (fun _ hk=>hk.1)⟩
                         have n1_:Aside0 (Kd.R (Kd.int .i64) 3 (w56.setCell ⟨go43,(((rd_T88 l0_1 ((rd_T56 y573 x32_3).f1)).f0):Int).toNat,none⟩ (.int .i64 (wrap64 ((rd x7_3 ((rd_T88 l0_1 ((rd_T56 y573 x32_3).f1)).f0)) - ((rd_T56 y573 x32_3).f2))))) w.heap.size (fun _=>True) (.slice (some ⟨go43,0,none⟩) x7_3.length co57) y586):=⟨by exact HQ58.out⟩
                         have n2_:Aside0 ((w56.setCell ⟨go43,(((rd_T88 l0_1 ((rd_T56 y573 x32_3).f1)).f0):Int).toNat,none⟩ (.int .i64 (wrap64 ((rd x7_3 ((rd_T88 l0_1 ((rd_T56 y573 x32_3).f1)).f0)) - ((rd_T56 y573 x32_3).f2))))).heap[gb568]?=some (.cells #[.int .i64 a0_0,.slice (some ad583) l0_1.length c0_1] 30 (0,0))):=⟨by refine blk_far ?_ (by have h_:=Kd.R_ne HO_7.out BK568.out (by decide);intro e_;exact h_ (by rw [e_];rfl)) _;exact BK568.out⟩
                         have n3_:Aside0 ((w56.setCell ⟨go43,(((rd_T88 l0_1 ((rd_T56 y573 x32_3).f1)).f0):Int).toNat,none⟩ (.int .i64 (wrap64 ((rd x7_3 ((rd_T88 l0_1 ((rd_T56 y573 x32_3).f1)).f0)) - ((rd_T56 y573 x32_3).f2))))).heap[gb581]?=some (.cells #[.int .i64 ((rd_T56 y573 x32_3).f0),.int .i64 ((rd_T56 y573 x32_3).f1),.int .i64 ((rd_T56 y573 x32_3).f2)] 56 (0,0))):=⟨by refine blk_far ?_ (by have h_:=Kd.R_ne HO_7.out BK581.out (by decide);intro e_;exact h_ (by rw [e_];rfl)) _;exact BK581.out⟩
                         have n4_:Aside0 ((w56.setCell ⟨go43,(((rd_T88 l0_1 ((rd_T56 y573 x32_3).f1)).f0):Int).toNat,none⟩ (.int .i64 (wrap64 ((rd x7_3 ((rd_T88 l0_1 ((rd_T56 y573 x32_3).f1)).f0)) - ((rd_T56 y573 x32_3).f2))))).heap[gb584]?=some (.cells #[.int .i64 ((rd_T88 l0_1 ((rd_T56 y573 x32_3).f1)).f0),.int .i64 ((rd_T88 l0_1 ((rd_T56 y573 x32_3).f1)).f1)] 88 (0,0))):=⟨by refine blk_far ?_ (by have h_:=Kd.R_ne HO_7.out BK584.out (by decide);intro e_;exact h_ (by rw [e_];rfl)) _;exact BK584.out⟩
                         have n5_:Aside0 (Below w.heap.size w (w56.setCell ⟨go43,(((rd_T88 l0_1 ((rd_T56 y573 x32_3).f1)).f0):Int).toNat,none⟩ (.int .i64 (wrap64 ((rd x7_3 ((rd_T88 l0_1 ((rd_T56 y573 x32_3).f1)).f0)) - ((rd_T56 y573 x32_3).f2)))))):=⟨by repeat (first|(with_reducible first|exact HB.out|apply below_alloc|apply pw_below_drewN|apply below_drew1|refine below_set ?_ GB43.out|refine below_set ?_ GE568.out|refine below_set ?_ GE581.out|refine below_set ?_ GE584.out)|exact HB.out)⟩
                         (try clear HO_5)
                         (try clear HO_7)
                         (try clear BK568)
                         (try clear BK581)
                         (try clear BK584)
                         (try clear HB)
                         generalize (w56.setCell ⟨go43,(((rd_T88 l0_1 ((rd_T56 y573 x32_3).f1)).f0):Int).toNat,none⟩ (.int .i64 (wrap64 ((rd x7_3 ((rd_T88 l0_1 ((rd_T56 y573 x32_3).f1)).f0)) - ((rd_T56 y573 x32_3).f2)))))=w60 at n0_ n1_ n2_ n3_ n4_ n5_ ⊢
                         have HO_5:=n0_
                         have HO_7:=n1_
                         have BK568:=n2_
                         have BK581:=n3_
                         have BK584:=n4_
                         have HB:=n5_
                         clear n0_ n1_ n2_ n3_ n4_ n5_
                         have n0_:=Aside0.mk (Kd.S_drew HO_5.out)
                         have n1_:=Aside0.mk (Kd.R_drew HO_7.out)
                         have n2_:=Aside0.mk (blk_drew BK568.out)
                         have n3_:=Aside0.mk (blk_drew BK581.out)
                         have n4_:=Aside0.mk (blk_drew BK584.out)
                         have n5_:=Aside0.mk (below_drew1 HB.out)
                         clear HO_5
                         clear HO_7
                         clear BK568
                         clear BK581
                         clear BK584
                         clear HB
                         have HO_5:=n0_
                         have HO_7:=n1_
                         have BK568:=n2_
                         have BK581:=n3_
                         have BK584:=n4_
                         have HB:=n5_
                         clear n0_ n1_ n2_ n3_ n4_ n5_
                         have p587:0≤(((rd_T88 l0_1 ((rd_T56 y573 x32_3).f1)).f1):Int):=of_decide_eq_true (by first|(with_reducible assumption)|assumption)
                         have q587:((rd_T88 l0_1 ((rd_T56 y573 x32_3).f1)).f1)<(y586.length:Int):=(by have h_:(((rd_T88 l0_1 ((rd_T56 y573 x32_3).f1)).f1):Int)<((x7_3.length:Int):Int):=of_decide_eq_true (by first|(with_reducible assumption)|assumption);first|(have e_:=(Kd.R_reads' HO_7.out).1;omega)|simpa only [Ny586.out,List.length_set] using h_)
                         have ql587:((((rd_T88 l0_1 ((rd_T56 y573 x32_3).f1)).f1):Int)<((x7_3.length:Int):Int))=True:=eq_true (of_decide_eq_true (by first|(with_reducible assumption)|assumption))
                         obtain ⟨ad587,e587,hx587_0⟩:=Kd.at_int (Kd.R_reads' HO_7.out).2.2 ((rd_T88 l0_1 ((rd_T56 y573 x32_3).f1)).f1) p587 q587
                         obtain rfl:(⟨go43,0,none⟩:Addr)=ad587:=(by injection e587)
                         (first|simp only [add_plain] at hx587_0|simp only [add_at] at hx587_0|simp only [Addr.add,Nat.zero_add] at hx587_0|skip)
                         replace p587:=eq_true p587
                         replace q587:=eq_true q587
                         have p47:0≤(((rd_T88 l0_1 ((rd_T56 y573 x32_3).f1)).f1):Int):=of_decide_eq_true (by first|(with_reducible assumption)|assumption)
                         have q47:(((rd_T88 l0_1 ((rd_T56 y573 x32_3).f1)).f1):Int)<((x7_3.length:Int):Int):=of_decide_eq_true (by first|(with_reducible assumption)|assumption)
                         obtain ⟨hx47_0,hf47_0⟩:=Kd.R_celln 0 HO_7.out (((rd_T88 l0_1 ((rd_T56 y573 x32_3).f1)).f1):Int) p47 q47
                         replace p47:=eq_true p47
                         replace q47:=eq_true q47
                         have HP62:=Kd.R_putn HO_7.out (((rd_T88 l0_1 ((rd_T56 y573 x32_3).f1)).f1):Int) (wrap64 ((rd y586 ((rd_T88 l0_1 ((rd_T56 y573 x32_3).f1)).f1))+((rd_T56 y573 x32_3).f2)))
                         rw [← Ny588.out] at HP62
                         have HQ62:=Aside0.mk HP62
                         clear HP62
                         refine start_ (n:=10) (S:=fun w'=>w'.cell? ⟨gb584,0,none⟩=some (.int .i64 ((rd_T88 l0_1 ((rd_T56 y573 x32_3).f1)).f0))∧w'.cell? ⟨gb584,1,none⟩=some (.int .i64 ((rd_T88 l0_1 ((rd_T56 y573 x32_3).f1)).f1))∧w'.cell? ⟨gb581,0,none⟩=some (.int .i64 ((rd_T56 y573 x32_3).f0))∧w'.cell? ⟨gb581,1,none⟩=some (.int .i64 ((rd_T56 y573 x32_3).f1))∧w'.cell? ⟨gb581,2,none⟩=some (.int .i64 ((rd_T56 y573 x32_3).f2))∧w'.cell? ⟨go43,(((rd_T88 l0_1 ((rd_T56 y573 x32_3).f1)).f1)).toNat,none⟩=some (.int .i64 (rd y586 ((rd_T88 l0_1 ((rd_T56 y573 x32_3).f1)).f1)))) (ds:=[9]) #[false,false,false,false,false,false,false,false,false,false] (by kernel_rfl) rfl rfl ⟨(blk_cell BK584.out 0).trans rfl,(blk_cell BK584.out 1).trans rfl,(blk_cell BK581.out 0).trans rfl,(blk_cell BK581.out 1).trans rfl,(blk_cell BK581.out 2).trans rfl,hx587_0⟩ (fun hHeld=>?_);refine with_tabW spec_Truth.tab16 spec_Truth.bits16 (fun HT_ HW_=>?_)
                         generalize w60.drew=w61 at HO_5 HO_7 BK568 BK581 BK584 HB HQ58 HQ62 hf47_0 hx47_0 hx587_0 hHeld ⊢
                         refine pure_ (i:=0) (N:=some 66) (v:=?_) (a':=?_) #[true,false,false,false,false,false,false,false,false,false] rfl rfl (any_of HT_.out (by kernel_rfl)) (fun _ _ _ h=>h) (Or.inl ⟨by rfl,?_⟩) ?_ ?_
                         rotate_left
                         ·intro w'
                          go_simp
                          with_reducible rfl
                         rotate_left
                         ·simp only [Act.put,List.setIfInBounds_toArray,List.set_cons_zero,List.set_cons_succ,i64_w,i32_w]
                          rfl
                         refine pure_ (i:=1) (N:=some 67) (v:=?_) (a':=?_) #[true,true,false,false,false,false,false,false,false,false] rfl rfl (any_of HT_.out (by kernel_rfl)) (fun _ _ _ h=>h) (Or.inl ⟨by rfl,?_⟩) ?_ ?_
                         rotate_left
                         ·intro w'
                          go_simp
                          with_reducible rfl
                         rotate_left
                         ·simp only [Act.put,List.setIfInBounds_toArray,List.set_cons_zero,List.set_cons_succ,i64_w,i32_w]
                          rfl
                         refine pure_ (i:=5) (N:=some 71) (v:=?_) (a':=?_) #[true,true,false,false,false,true,false,false,false,false] rfl rfl (any_of HT_.out (by kernel_rfl)) (fun _ _ _ h=>h) (Or.inl ⟨by rfl,?_⟩) ?_ ?_
                         rotate_left
                         ·intro w'
                          go_simp
                          with_reducible rfl
                         rotate_left
                         ·simp only [Act.put,List.setIfInBounds_toArray,List.set_cons_zero,List.set_cons_succ,i64_w,i32_w]
                          rfl
                         refine take_ (i:=2) (N:=some 68) (v:=?_) (a':=?_) #[true,true,true,false,false,true,false,false,false,false] rfl rfl (take_ofW HT_.out HW_.out (by kernel_rfl)) (fun _ _ _ h=>h) (Or.inl ⟨by rfl,?_⟩) hHeld ?_ ?_
                         rotate_left
                         ·rintro w' ⟨s0,s1,s2,s3,s4,s5⟩
                          go_simp
                          with_reducible rfl
                         rotate_left
                         ·simp only [Act.put,List.setIfInBounds_toArray,List.set_cons_zero,List.set_cons_succ,i64_w,i32_w]
                          rfl
                         refine pure_ (i:=3) (N:=some 69) (v:=?_) (a':=?_) #[true,true,true,true,false,true,false,false,false,false] rfl rfl (any_of HT_.out (by kernel_rfl)) (fun _ _ _ h=>h) (Or.inl ⟨by rfl,?_⟩) ?_ ?_
                         rotate_left
                         ·intro w'
                          go_simp
                          with_reducible rfl
                         rotate_left
                         ·simp only [Act.put,List.setIfInBounds_toArray,List.set_cons_zero,List.set_cons_succ,i64_w,i32_w]
                          rfl
                         refine take_ (i:=4) (N:=some 70) (v:=?_) (a':=?_) #[true,true,true,true,true,true,false,false,false,false] rfl rfl (take_ofW HT_.out HW_.out (by kernel_rfl)) (fun _ _ _ h=>h) (Or.inl ⟨by rfl,?_⟩) hHeld ?_ ?_
                         rotate_left
                         ·rintro w' ⟨s0,s1,s2,s3,s4,s5⟩
                          go_simp
                          with_reducible rfl
                         rotate_left
                         ·simp only [Act.put,List.setIfInBounds_toArray,List.set_cons_zero,List.set_cons_succ,i64_w,i32_w]
                          rfl
                         refine take_ (i:=6) (N:=some 72) (v:=?_) (a':=?_) #[true,true,true,true,true,true,true,false,false,false] rfl rfl (take_ofW HT_.out HW_.out (by kernel_rfl)) (fun _ _ _ h=>h) (Or.inl ⟨by rfl,?_⟩) hHeld ?_ ?_
                         rotate_left
                         ·rintro w' ⟨s0,s1,s2,s3,s4,s5⟩
                          go_simp
                          with_reducible rfl
                         rotate_left
                         ·simp only [Act.put,List.setIfInBounds_toArray,List.set_cons_zero,List.set_cons_succ,i64_w,i32_w]
                          rfl
                         refine pure_ (i:=7) (N:=some 73) (v:=?_) (a':=?_) #[true,true,true,true,true,true,true,true,false,false] rfl rfl (any_of HT_.out (by kernel_rfl)) (fun _ _ _ h=>h) (Or.inl ⟨by rfl,?_⟩) ?_ ?_
                         rotate_left
                         ·intro w'
                          go_simp
                          with_reducible rfl
                         rotate_left
                         ·simp only [Act.put,List.setIfInBounds_toArray,List.set_cons_zero,List.set_cons_succ,i64_w,i32_w]
                          rfl
                         refine pure_ (i:=8) (N:=some 74) (v:=?_) (a':=?_) #[true,true,true,true,true,true,true,true,true,false] rfl rfl (any_of HT_.out (by kernel_rfl)) (fun _ _ _ h=>h) (Or.inl ⟨by rfl,?_⟩) ?_ ?_
                         rotate_left
                         ·intro w'
                          go_simp
                          with_reducible rfl
                         rotate_left
                         ·simp only [Act.put,List.setIfInBounds_toArray,List.set_cons_zero,List.set_cons_succ,i64_w,i32_w]
                          rfl
                         refine last_ (i:=9) (N:=none) #[true,true,true,true,true,true,true,true,true,true] rfl rfl (one_of HT_.out (by kernel_rfl)) (by decide) (fun K hK=>?_)
                         refine skip_ (w1:=?_) (by rfl) rfl ?_ ?_
                         rotate_left
                         ·go_simp
                          rfl
                         refine hK.out _ _ ?_
                         clear hK K
                         refine done_ (done_of HT_.out (by kernel_rfl)) ?_
                         try go_wp2
                         go_roundg kj24
                         case measure=>have:=HJ2.out;have:=HK2.out;have:=HK3.out;have:=HJ24.out;omega
                         case rel=>exact ⟨(y588),(wrap64 (x32_3+1)),(by first|rfl|(simp;done)|(simp [*];done)),H',⟨by have:=HJ2.out;have:=HK2.out;have:=HK3.out;have:=HJ24.out;omega⟩,⟨by exact Kd.S_mono (Kd.S_far (p:=⟨go43,(((rd_T88 l0_1 ((rd_T56 y573 x32_3).f1)).f1):Int).toNat,none⟩) (Kd.S_mono HO_5.out (fun k_ hk=>(⟨hk,fun e_=>hk (by rw [e_];rfl)⟩:_∧k_ ≠ go43))) (fun _ hk=>hk.2) (.int .i64 (wrap64 ((rd y586 ((rd_T88 l0_1 ((rd_T56 y573 x32_3).f1)).f1))+((rd_T56 y573 x32_3).f2))))) (fun _ hk=>hk.1)⟩,⟨by exact HQ62.out⟩,⟨by refine blk_far ?_ (by have h_:=Kd.R_ne HO_7.out BK568.out (by decide);intro e_;exact h_ (by rw [e_];rfl)) _;exact BK568.out⟩,⟨by repeat (first|(with_reducible first|exact HB.out|apply below_alloc|apply pw_below_drewN|apply below_drew1|refine below_set ?_ GB43.out|refine below_set ?_ GE568.out|refine below_set ?_ GE581.out|refine below_set ?_ GE584.out)|exact HB.out)⟩⟩
                        rw [if_neg c46] at H
                        exact absurd H (by simp)
                       rw [if_neg c45] at H
                       exact absurd H (by simp)
                      rw [if_neg c44] at H
                      have c44b0:decide (0≤((rd_T88 l0_1 ((rd_T56 y573 x32_3).f1)).f1))=false:=decide_eq_false c44
                      clear c44
                      have H':=Aside0.mk H
                      clear H
                      have hnb63:=NB568_581.out
                      have hnc63:=NB581_568.out
                      have hcz64_0:wc.cell? ⟨gb568,0,none⟩=some (.int .i64 a0_0):=(blk_cell BK568.out 0).trans rfl
                      have hcz64_1:wc.cell? ⟨gb568,1,none⟩=some (.slice A0_1 l0_1.length c0_1):=(blk_cell BK568.out 1).trans rfl
                      have hfz64_0:=blk_frozen BK568.out 0
                      have hfz64_1:=blk_frozen BK568.out 1
                      have hcz65_0:wc.cell? ⟨gb581,0,none⟩=some (.int .i64 ((rd_T56 y573 x32_3).f0)):=(blk_cell BK581.out 0).trans rfl
                      have hcz65_1:wc.cell? ⟨gb581,1,none⟩=some (.int .i64 ((rd_T56 y573 x32_3).f1)):=(blk_cell BK581.out 1).trans rfl
                      have hcz65_2:wc.cell? ⟨gb581,2,none⟩=some (.int .i64 ((rd_T56 y573 x32_3).f2)):=(blk_cell BK581.out 2).trans rfl
                      have hfz65_0:=blk_frozen BK581.out 0
                      have hfz65_1:=blk_frozen BK581.out 1
                      have hfz65_2:=blk_frozen BK581.out 2
                      have p583:0≤(((rd_T56 y573 x32_3).f1):Int):=of_decide_eq_true (by first|(with_reducible assumption)|assumption)
                      have q583:((rd_T56 y573 x32_3).f1)<(l0_1.length:Int):=of_decide_eq_true (by first|(with_reducible assumption)|assumption)
                      obtain ⟨ad583,e583,hx583_0,hx583_1⟩:=at_T88 HR0_1.out ((rd_T56 y573 x32_3).f1) p583 q583
                      cases e583
                      replace hx583_0:=(HB.out.cell (World.block_lt_of_cell? w _ hx583_0)).trans hx583_0
                      replace hx583_1:=(HB.out.cell (World.block_lt_of_cell? w _ hx583_1)).trans hx583_1
                      replace p583:=eq_true p583
                      replace q583:=eq_true q583
                      try go_wp2_with (first|((with_reducible refine gate_dst (N:=10) rfl ?_);refine box_event ?hg (N:=10) ?hd (cs:=#[.int .i64 0,.int .i64 0]) (t:=88) ?hr ?_;(case hd=>rfl);(case hg=>rfl);(case hr=>first|(go_simp;done)|(go_simp;rfl));intro gb584 hg w66 hbox hb;have n0_:=Aside0.mk (Kd.S_below (by exact HO_5.out) hb);have n1_:=Aside0.mk (Kd.R_below (by exact HO_7.out) hb);have n2_:=Aside0.mk (blk_below (g:=gb568) (o:=.cells #[.int .i64 a0_0,.slice (some ad583) l0_1.length c0_1] 30 (0,0)) (by exact BK568.out) hb);have n3_:=Aside0.mk (blk_below (g:=gb581) (o:=.cells #[.int .i64 ((rd_T56 y573 x32_3).f0),.int .i64 ((rd_T56 y573 x32_3).f1),.int .i64 ((rd_T56 y573 x32_3).f2)] 56 (0,0)) (by exact BK581.out) hb);have n4_:=Aside0.mk (below_step (by exact HB.out) hb);have n5_:=Aside0.mk (hbox);have n6_:=Aside0.mk ((by rw [hg];exact (below_size (by exact HB.out)):w.heap.size≤gb584));have n7_:=Aside0.mk ((by rw [hg];exact (below_size (by exact HB.out)):w.heap.size≤gb584));have n8_:=Aside0.mk ((by rw [hg];exact Nat.ne_of_lt (blk_lt (g:=gb568) (o:=.cells #[.int .i64 a0_0,.slice (some ad583) l0_1.length c0_1] 30 (0,0)) (by exact BK568.out)):gb568 ≠ gb584));have n9_:=Aside0.mk ((by rw [hg];exact Nat.ne_of_gt (blk_lt (g:=gb568) (o:=.cells #[.int .i64 a0_0,.slice (some ad583) l0_1.length c0_1] 30 (0,0)) (by exact BK568.out)):gb584 ≠ gb568));have n10_:=Aside0.mk ((by rw [hg];exact Nat.ne_of_lt (blk_lt (g:=gb581) (o:=.cells #[.int .i64 ((rd_T56 y573 x32_3).f0),.int .i64 ((rd_T56 y573 x32_3).f1),.int .i64 ((rd_T56 y573 x32_3).f2)] 56 (0,0)) (by exact BK581.out)):gb581 ≠ gb584));have n11_:=Aside0.mk ((by rw [hg];exact Nat.ne_of_gt (blk_lt (g:=gb581) (o:=.cells #[.int .i64 ((rd_T56 y573 x32_3).f0),.int .i64 ((rd_T56 y573 x32_3).f1),.int .i64 ((rd_T56 y573 x32_3).f2)] 56 (0,0)) (by exact BK581.out)):gb584 ≠ gb581));clear HO_5;clear HO_7;clear BK568;clear BK581;clear HB;have HO_5:=n0_;have HO_7:=n1_;have BK568:=n2_;have BK581:=n3_;have HB:=n4_;have BK584:=n5_;have GW584:=n6_;have GE584:=n7_;have NB568_584:=n8_;have NB584_568:=n9_;have NB581_584:=n10_;have NB584_581:=n11_;clear n0_ n1_ n2_ n3_ n4_ n5_ n6_ n7_ n8_ n9_ n10_ n11_;clear hb hbox hg;have hnb67:=NB584_568.out;have hnc67:=NB568_584.out;have hnb68:=NB584_581.out;have hnc68:=NB581_584.out;have hcz69_0:w66.cell? ⟨gb584,0,none⟩=some (.int .i64 0):=(blk_cell BK584.out 0).trans rfl;have hcz69_1:w66.cell? ⟨gb584,1,none⟩=some (.int .i64 0):=(blk_cell BK584.out 1).trans rfl;have hfz69_0:=blk_frozen BK584.out 0;have hfz69_1:=blk_frozen BK584.out 1))
                      have n0_:Aside0 (Kd.S (Kd.slice 3 (Kd.int .i64)) 59 ((w66.setCell ⟨gb584,0,none⟩ (.int .i64 ((rd_T88 l0_1 ((rd_T56 y573 x32_3).f1)).f0))).setCell ⟨gb584,1,none⟩ (.int .i64 ((rd_T88 l0_1 ((rd_T56 y573 x32_3).f1)).f1))) w.heap.size (fun k_=>some k_ ≠ (v571:Value).ownBlock) u5 x5_2):=⟨by exact Kd.S_mono (Kd.S_far (p:=⟨gb584,1,none⟩) (Kd.S_far (p:=⟨gb584,0,none⟩) (Kd.S_types HO_5.out BK584.out (by decide)) (fun _ hk=>hk.2) (.int .i64 ((rd_T88 l0_1 ((rd_T56 y573 x32_3).f1)).f0))) (fun _ hk=>hk.2) (.int .i64 ((rd_T88 l0_1 ((rd_T56 y573 x32_3).f1)).f1))) (fun _ hk=>hk.1)⟩
                      have n1_:Aside0 (Kd.R (Kd.int .i64) 3 ((w66.setCell ⟨gb584,0,none⟩ (.int .i64 ((rd_T88 l0_1 ((rd_T56 y573 x32_3).f1)).f0))).setCell ⟨gb584,1,none⟩ (.int .i64 ((rd_T88 l0_1 ((rd_T56 y573 x32_3).f1)).f1))) w.heap.size (fun _=>True) v571 x7_3):=⟨by exact Kd.R_mono (Kd.R_far (p:=⟨gb584,1,none⟩) (Kd.R_far (p:=⟨gb584,0,none⟩) (Kd.R_types HO_7.out BK584.out (by decide)) (fun _ hk=>hk.2) (.int .i64 ((rd_T88 l0_1 ((rd_T56 y573 x32_3).f1)).f0))) (fun _ hk=>hk.2) (.int .i64 ((rd_T88 l0_1 ((rd_T56 y573 x32_3).f1)).f1))) (fun _ hk=>trivial)⟩
                      have n2_:Aside0 (((w66.setCell ⟨gb584,0,none⟩ (.int .i64 ((rd_T88 l0_1 ((rd_T56 y573 x32_3).f1)).f0))).setCell ⟨gb584,1,none⟩ (.int .i64 ((rd_T88 l0_1 ((rd_T56 y573 x32_3).f1)).f1))).heap[gb568]?=some (.cells #[.int .i64 a0_0,.slice (some ad583) l0_1.length c0_1] 30 (0,0))):=⟨by refine blk_far ?_ NB568_584.out _;refine blk_far ?_ NB568_584.out _;exact BK568.out⟩
                      have n3_:Aside0 (((w66.setCell ⟨gb584,0,none⟩ (.int .i64 ((rd_T88 l0_1 ((rd_T56 y573 x32_3).f1)).f0))).setCell ⟨gb584,1,none⟩ (.int .i64 ((rd_T88 l0_1 ((rd_T56 y573 x32_3).f1)).f1))).heap[gb581]?=some (.cells #[.int .i64 ((rd_T56 y573 x32_3).f0),.int .i64 ((rd_T56 y573 x32_3).f1),.int .i64 ((rd_T56 y573 x32_3).f2)] 56 (0,0))):=⟨by refine blk_far ?_ NB581_584.out _;refine blk_far ?_ NB581_584.out _;exact BK581.out⟩
                      have n4_:Aside0 (((w66.setCell ⟨gb584,0,none⟩ (.int .i64 ((rd_T88 l0_1 ((rd_T56 y573 x32_3).f1)).f0))).setCell ⟨gb584,1,none⟩ (.int .i64 ((rd_T88 l0_1 ((rd_T56 y573 x32_3).f1)).f1))).heap[gb584]?=some (.cells #[.int .i64 ((rd_T88 l0_1 ((rd_T56 y573 x32_3).f1)).f0),.int .i64 ((rd_T88 l0_1 ((rd_T56 y573 x32_3).f1)).f1)] 88 (0,0))):=⟨by refine blk_put (cs:=#[.int .i64 ((rd_T88 l0_1 ((rd_T56 y573 x32_3).f1)).f0),.int .i64 0]) ?_ 1 _ rfl;refine blk_put (cs:=#[.int .i64 0,.int .i64 0]) ?_ 0 _ rfl;exact BK584.out⟩
                      have n5_:Aside0 (Below w.heap.size w ((w66.setCell ⟨gb584,0,none⟩ (.int .i64 ((rd_T88 l0_1 ((rd_T56 y573 x32_3).f1)).f0))).setCell ⟨gb584,1,none⟩ (.int .i64 ((rd_T88 l0_1 ((rd_T56 y573 x32_3).f1)).f1)))):=⟨by repeat (first|(with_reducible first|exact HB.out|apply below_alloc|apply pw_below_drewN|apply below_drew1|refine below_set ?_ GE568.out|refine below_set ?_ GE581.out|refine below_set ?_ GE584.out)|exact HB.out)⟩
                      (try clear HO_5)
                      (try clear HO_7)
                      (try clear BK568)
                      (try clear BK581)
                      (try clear BK584)
                      (try clear HB)
                      generalize ((w66.setCell ⟨gb584,0,none⟩ (.int .i64 ((rd_T88 l0_1 ((rd_T56 y573 x32_3).f1)).f0))).setCell ⟨gb584,1,none⟩ (.int .i64 ((rd_T88 l0_1 ((rd_T56 y573 x32_3).f1)).f1)))=w70 at n0_ n1_ n2_ n3_ n4_ n5_ ⊢
                      have HO_5:=n0_
                      have HO_7:=n1_
                      have BK568:=n2_
                      have BK581:=n3_
                      have BK584:=n4_
                      have HB:=n5_
                      clear n0_ n1_ n2_ n3_ n4_ n5_
                      have n0_:=Aside0.mk (Kd.S_drew HO_5.out)
                      have n1_:=Aside0.mk (Kd.R_drew HO_7.out)
                      have n2_:=Aside0.mk (blk_drew BK568.out)
                      have n3_:=Aside0.mk (blk_drew BK581.out)
                      have n4_:=Aside0.mk (blk_drew BK584.out)
                      have n5_:=Aside0.mk (below_drew1 HB.out)
                      clear HO_5
                      clear HO_7
                      clear BK568
                      clear BK581
                      clear BK584
                      clear HB
                      have HO_5:=n0_
                      have HO_7:=n1_
                      have BK568:=n2_
                      have BK581:=n3_
                      have BK584:=n4_
                      have HB:=n5_
                      clear n0_ n1_ n2_ n3_ n4_ n5_
                      obtain ⟨Ao72,co72,eo72⟩:=Kd.R_slice HO_7.out
                      (first|subst eo72|(injection eo72 with f1_ f2_ f3_;have f4_:=f1_.symm;have f5_:=f3_.symm;clear f1_ f2_ f3_;subst f4_;subst f5_))
                      have p585:0≤(((rd_T88 l0_1 ((rd_T56 y573 x32_3).f1)).f0):Int):=of_decide_eq_true (by first|(with_reducible assumption)|assumption)
                      have q585:((rd_T88 l0_1 ((rd_T56 y573 x32_3).f1)).f0)<(x7_3.length:Int):=of_decide_eq_true (by first|(with_reducible assumption)|assumption)
                      obtain ⟨ad585,e585,hx585_0⟩:=Kd.at_int (Kd.R_reads' HO_7.out).2.2 ((rd_T88 l0_1 ((rd_T56 y573 x32_3).f1)).f0) p585 q585
                      cases e585
                      replace p585:=eq_true p585
                      replace q585:=eq_true q585
                      have p43:0≤(((rd_T88 l0_1 ((rd_T56 y573 x32_3).f1)).f0):Int):=of_decide_eq_true (by first|(with_reducible assumption)|assumption)
                      have q43:(((rd_T88 l0_1 ((rd_T56 y573 x32_3).f1)).f0):Int)<((x7_3.length:Int):Int):=of_decide_eq_true (by first|(with_reducible assumption)|assumption)
                      obtain ⟨go43,co43,eo43,gb43,gl43,cl43,HG43⟩:=Kd.R_form HO_7.out (by omega)
                      (first|cases eo43|(injection eo43 with ea_ en_ ec_;(first|subst ea_|(injection ea_ with ea_;subst ea_));subst ec_;clear en_))
                      have GB43:=Aside0.mk gb43
                      have GG43:=Aside0.mk HG43
                      clear gb43 gl43 HG43
                      (first|simp only [add_plain] at hx585_0|skip)
                      obtain ⟨hx43_0,hf43_0⟩:=Kd.R_celln 0 HO_7.out (((rd_T88 l0_1 ((rd_T56 y573 x32_3).f1)).f0):Int) p43 q43
                      replace p43:=eq_true p43
                      replace q43:=eq_true q43
                      have HP73:=Kd.R_putn HO_7.out (((rd_T88 l0_1 ((rd_T56 y573 x32_3).f1)).f0):Int) (wrap64 ((rd x7_3 ((rd_T88 l0_1 ((rd_T56 y573 x32_3).f1)).f0)) - ((rd_T56 y573 x32_3).f2)))
                      rw [← Ny586.out] at HP73
                      have HQ73:=Aside0.mk HP73
                      clear HP73
                      refine start_ (n:=10) (S:=fun w'=>w'.cell? ⟨gb584,0,none⟩=some (.int .i64 ((rd_T88 l0_1 ((rd_T56 y573 x32_3).f1)).f0))∧w'.cell? ⟨gb584,1,none⟩=some (.int .i64 ((rd_T88 l0_1 ((rd_T56 y573 x32_3).f1)).f1))∧w'.cell? ⟨gb581,0,none⟩=some (.int .i64 ((rd_T56 y573 x32_3).f0))∧w'.cell? ⟨gb581,1,none⟩=some (.int .i64 ((rd_T56 y573 x32_3).f1))∧w'.cell? ⟨gb581,2,none⟩=some (.int .i64 ((rd_T56 y573 x32_3).f2))∧w'.cell? ⟨go43,(((rd_T88 l0_1 ((rd_T56 y573 x32_3).f1)).f0)).toNat,none⟩=some (.int .i64 (rd x7_3 ((rd_T88 l0_1 ((rd_T56 y573 x32_3).f1)).f0)))) (ds:=[9]) #[false,false,false,false,false,false,false,false,false,false] (by kernel_rfl) rfl rfl ⟨(blk_cell BK584.out 0).trans rfl,(blk_cell BK584.out 1).trans rfl,(blk_cell BK581.out 0).trans rfl,(blk_cell BK581.out 1).trans rfl,(blk_cell BK581.out 2).trans rfl,hx585_0⟩ (fun hHeld=>?_);refine with_tabW spec_Truth.tab14 spec_Truth.bits14 (fun HT_ HW_=>?_)
                      generalize w70.drew=w71 at HO_5 HO_7 BK568 BK581 BK584 HB GG43 HQ73 hf43_0 hx43_0 hx585_0 hHeld ⊢
                      refine pure_ (i:=0) (N:=some 54) (v:=?_) (a':=?_) #[true,false,false,false,false,false,false,false,false,false] rfl rfl (any_of HT_.out (by kernel_rfl)) (fun _ _ _ h=>h) (Or.inl ⟨by rfl,?_⟩) ?_ ?_
                      rotate_left
                      ·intro w'
                       go_simp
                       with_reducible rfl
                      rotate_left
                      ·simp only [Act.put,List.setIfInBounds_toArray,List.set_cons_zero,List.set_cons_succ,i64_w,i32_w]
                       rfl
                      refine pure_ (i:=1) (N:=some 55) (v:=?_) (a':=?_) #[true,true,false,false,false,false,false,false,false,false] rfl rfl (any_of HT_.out (by kernel_rfl)) (fun _ _ _ h=>h) (Or.inl ⟨by rfl,?_⟩) ?_ ?_
                      rotate_left
                      ·intro w'
                       go_simp
                       with_reducible rfl
                      rotate_left
                      ·simp only [Act.put,List.setIfInBounds_toArray,List.set_cons_zero,List.set_cons_succ,i64_w,i32_w]
                       rfl
                      refine pure_ (i:=5) (N:=some 59) (v:=?_) (a':=?_) #[true,true,false,false,false,true,false,false,false,false] rfl rfl (any_of HT_.out (by kernel_rfl)) (fun _ _ _ h=>h) (Or.inl ⟨by rfl,?_⟩) ?_ ?_
                      rotate_left
                      ·intro w'
                       go_simp
                       with_reducible rfl
                      rotate_left
                      ·simp only [Act.put,List.setIfInBounds_toArray,List.set_cons_zero,List.set_cons_succ,i64_w,i32_w]
                       rfl
                      refine take_ (i:=2) (N:=some 56) (v:=?_) (a':=?_) #[true,true,true,false,false,true,false,false,false,false] rfl rfl (take_ofW HT_.out HW_.out (by kernel_rfl)) (fun _ _ _ h=>h) (Or.inl ⟨by rfl,?_⟩) hHeld ?_ ?_
                      rotate_left
                      ·rintro w' ⟨s0,s1,s2,s3,s4,s5⟩
                       go_simp
                       with_reducible rfl
                      rotate_left
                      ·simp only [Act.put,List.setIfInBounds_toArray,List.set_cons_zero,List.set_cons_succ,i64_w,i32_w]
                       rfl
                      refine pure_ (i:=3) (N:=some 57) (v:=?_) (a':=?_) #[true,true,true,true,false,true,false,false,false,false] rfl rfl (any_of HT_.out (by kernel_rfl)) (fun _ _ _ h=>h) (Or.inl ⟨by rfl,?_⟩) ?_ ?_
                      rotate_left
                      ·intro w'
                       go_simp
                       with_reducible rfl
                      rotate_left
                      ·simp only [Act.put,List.setIfInBounds_toArray,List.set_cons_zero,List.set_cons_succ,i64_w,i32_w]
                       rfl
                      refine take_ (i:=4) (N:=some 58) (v:=?_) (a':=?_) #[true,true,true,true,true,true,false,false,false,false] rfl rfl (take_ofW HT_.out HW_.out (by kernel_rfl)) (fun _ _ _ h=>h) (Or.inl ⟨by rfl,?_⟩) hHeld ?_ ?_
                      rotate_left
                      ·rintro w' ⟨s0,s1,s2,s3,s4,s5⟩
                       go_simp
                       with_reducible rfl
                      rotate_left
                      ·simp only [Act.put,List.setIfInBounds_toArray,List.set_cons_zero,List.set_cons_succ,i64_w,i32_w]
                       rfl
                      refine take_ (i:=6) (N:=some 60) (v:=?_) (a':=?_) #[true,true,true,true,true,true,true,false,false,false] rfl rfl (take_ofW HT_.out HW_.out (by kernel_rfl)) (fun _ _ _ h=>h) (Or.inl ⟨by rfl,?_⟩) hHeld ?_ ?_
                      rotate_left
                      ·rintro w' ⟨s0,s1,s2,s3,s4,s5⟩
                       go_simp
                       with_reducible rfl
                      rotate_left
                      ·simp only [Act.put,List.setIfInBounds_toArray,List.set_cons_zero,List.set_cons_succ,i64_w,i32_w]
                       rfl
                      refine pure_ (i:=7) (N:=some 61) (v:=?_) (a':=?_) #[true,true,true,true,true,true,true,true,false,false] rfl rfl (any_of HT_.out (by kernel_rfl)) (fun _ _ _ h=>h) (Or.inl ⟨by rfl,?_⟩) ?_ ?_
                      rotate_left
                      ·intro w'
                       go_simp
                       with_reducible rfl
                      rotate_left
                      ·simp only [Act.put,List.setIfInBounds_toArray,List.set_cons_zero,List.set_cons_succ,i64_w,i32_w]
                       rfl
                      refine pure_ (i:=8) (N:=some 62) (v:=?_) (a':=?_) #[true,true,true,true,true,true,true,true,true,false] rfl rfl (any_of HT_.out (by kernel_rfl)) (fun _ _ _ h=>h) (Or.inl ⟨by rfl,?_⟩) ?_ ?_
                      rotate_left
                      ·intro w'
                       go_simp
                       with_reducible rfl
                      rotate_left
                      ·simp only [Act.put,List.setIfInBounds_toArray,List.set_cons_zero,List.set_cons_succ,i64_w,i32_w]
                       rfl
                      refine last_ (i:=9) (N:=none) #[true,true,true,true,true,true,true,true,true,true] rfl rfl (one_of HT_.out (by kernel_rfl)) (by decide) (fun K hK=>?_)
                      refine skip_ (w1:=?_) (by rfl) rfl ?_ ?_
                      rotate_left
                      ·go_simp
                       rfl
                      refine hK.out _ _ ?_
                      clear hK K
                      refine done_ (done_of HT_.out (by kernel_rfl)) ?_
                      have hnx_:gb584 ≠ go43:=(by have h_:=Kd.R_ne HO_7.out BK584.out (by decide);intro e_;exact h_ (by rw [e_];rfl))
                      have hny_:go43 ≠ gb584:=fun e_=>hnx_ e_.symm
                      have hcz74_0:w71.cell? ⟨gb584,0,none⟩=some (.int .i64 ((rd_T88 l0_1 ((rd_T56 y573 x32_3).f1)).f0)):=(blk_cell BK584.out 0).trans rfl
                      have hcz74_1:w71.cell? ⟨gb584,1,none⟩=some (.int .i64 ((rd_T88 l0_1 ((rd_T56 y573 x32_3).f1)).f1)):=(blk_cell BK584.out 1).trans rfl
                      have hfz74_0:=blk_frozen BK584.out 0
                      have hfz74_1:=blk_frozen BK584.out 1
                      try go_wp2
                      go_roundg kj24
                      case measure=>have:=HJ2.out;have:=HK2.out;have:=HK3.out;have:=HJ24.out;omega
                      case rel=>exact ⟨(y586),(wrap64 (x32_3+1)),(by first|rfl|(simp;done)|(simp [*];done)),H',⟨by have:=HJ2.out;have:=HK2.out;have:=HK3.out;have:=HJ24.out;omega⟩,⟨by exact Kd.S_mono (Kd.S_far (p:=⟨go43,(((rd_T88 l0_1 ((rd_T56 y573 x32_3).f1)).f0):Int).toNat,none⟩) (Kd.S_mono HO_5.out (fun k_ hk=>(⟨hk,fun e_=>hk (by rw [e_];rfl)⟩:_∧k_ ≠ go43))) (fun _ hk=>hk.2) (.int .i64 (wrap64 ((rd x7_3 ((rd_T88 l0_1 ((rd_T56 y573 x32_3).f1)).f0)) - ((rd_T56 y573 x32_3).f2))))) (fun _ hk=>hk.1)⟩,⟨by exact HQ73.out⟩,⟨by refine blk_far ?_ (by have h_:=Kd.R_ne HO_7.out BK568.out (by decide);intro e_;exact h_ (by rw [e_];rfl)) _;exact BK568.out⟩,⟨by repeat (first|(with_reducible first|exact HB.out|apply below_alloc|apply pw_below_drewN|apply below_drew1|refine below_set ?_ GB43.out|refine below_set ?_ GE568.out|refine below_set ?_ GE581.out|refine below_set ?_ GE584.out)|exact HB.out)⟩⟩
                     rw [if_neg c42] at H
                     exact absurd H (by simp)
                    rw [if_neg c41] at H
                    exact absurd H (by simp)
                   rw [if_neg c40] at H
                   have c40b0:decide (0≤((rd_T88 l0_1 ((rd_T56 y573 x32_3).f1)).f0))=false:=decide_eq_false c40
                   clear c40
                   by_cases c75:((rd_T88 l0_1 ((rd_T56 y573 x32_3).f1)).f1) ≥ 0
                   ·rw [if_pos c75] at H
                    have c75b0:decide (0≤((rd_T88 l0_1 ((rd_T56 y573 x32_3).f1)).f1))=true:=decide_eq_true c75
                    clear c75
                    by_cases c76:0≤((rd_T88 l0_1 ((rd_T56 y573 x32_3).f1)).f1)
                    ·rw [if_pos c76] at H
                     have c76b0:decide (0≤((rd_T88 l0_1 ((rd_T56 y573 x32_3).f1)).f1))=true:=decide_eq_true c76
                     clear c76
                     by_cases c77:((rd_T88 l0_1 ((rd_T56 y573 x32_3).f1)).f1)<(x7_3.length:Int)
                     ·rw [if_pos c77] at H
                      have c77b0:decide (((rd_T88 l0_1 ((rd_T56 y573 x32_3).f1)).f1)<(x7_3.length:Int))=true:=decide_eq_true c77
                      clear c77
                      obtain ⟨y590,hy590⟩:∃ y_:List Int,y_=(x7_3.set (((rd_T88 l0_1 ((rd_T56 y573 x32_3).f1)).f1):Int).toNat (wrap64 ((rd x7_3 ((rd_T88 l0_1 ((rd_T56 y573 x32_3).f1)).f1))+((rd_T56 y573 x32_3).f2)))):=⟨_,rfl⟩
                      replace H:(spec_Truth.l1 kj24 l1 x5_2 y590 (l1.length:Int) x21_2 y573 (y573.length:Int) (wrap64 (x32_3+1)) a0_0 l0_1)=some r:=by first|(rw [hy590];with_reducible exact H)|(have H2_:=(Option.bind_some _ _).symm.trans H;rw [hy590];with_reducible exact H2_)|(have H2_:=(Option.bind_some _ _).symm.trans H;with_reducible exact H2_)|with_reducible exact H|(rw [hy590];exact H)|exact H
                      have Ny590:=Aside0.mk hy590
                      clear hy590
                      have H':=Aside0.mk H
                      clear H
                      have hnb79:=NB568_581.out
                      have hnc79:=NB581_568.out
                      have hcz80_0:wc.cell? ⟨gb568,0,none⟩=some (.int .i64 a0_0):=(blk_cell BK568.out 0).trans rfl
                      have hcz80_1:wc.cell? ⟨gb568,1,none⟩=some (.slice A0_1 l0_1.length c0_1):=(blk_cell BK568.out 1).trans rfl
                      have hfz80_0:=blk_frozen BK568.out 0
                      have hfz80_1:=blk_frozen BK568.out 1
                      have hcz81_0:wc.cell? ⟨gb581,0,none⟩=some (.int .i64 ((rd_T56 y573 x32_3).f0)):=(blk_cell BK581.out 0).trans rfl
                      have hcz81_1:wc.cell? ⟨gb581,1,none⟩=some (.int .i64 ((rd_T56 y573 x32_3).f1)):=(blk_cell BK581.out 1).trans rfl
                      have hcz81_2:wc.cell? ⟨gb581,2,none⟩=some (.int .i64 ((rd_T56 y573 x32_3).f2)):=(blk_cell BK581.out 2).trans rfl
                      have hfz81_0:=blk_frozen BK581.out 0
                      have hfz81_1:=blk_frozen BK581.out 1
                      have hfz81_2:=blk_frozen BK581.out 2
                      have p583:0≤(((rd_T56 y573 x32_3).f1):Int):=of_decide_eq_true (by first|(with_reducible assumption)|assumption)
                      have q583:((rd_T56 y573 x32_3).f1)<(l0_1.length:Int):=of_decide_eq_true (by first|(with_reducible assumption)|assumption)
                      obtain ⟨ad583,e583,hx583_0,hx583_1⟩:=at_T88 HR0_1.out ((rd_T56 y573 x32_3).f1) p583 q583
                      cases e583
                      replace hx583_0:=(HB.out.cell (World.block_lt_of_cell? w _ hx583_0)).trans hx583_0
                      replace hx583_1:=(HB.out.cell (World.block_lt_of_cell? w _ hx583_1)).trans hx583_1
                      replace p583:=eq_true p583
                      replace q583:=eq_true q583
                      try go_wp2_with (first|((with_reducible refine gate_dst (N:=10) rfl ?_);refine box_event ?hg (N:=10) ?hd (cs:=#[.int .i64 0,.int .i64 0]) (t:=88) ?hr ?_;(case hd=>rfl);(case hg=>rfl);(case hr=>first|(go_simp;done)|(go_simp;rfl));intro gb584 hg w82 hbox hb;have n0_:=Aside0.mk (Kd.S_below (by exact HO_5.out) hb);have n1_:=Aside0.mk (Kd.R_below (by exact HO_7.out) hb);have n2_:=Aside0.mk (blk_below (g:=gb568) (o:=.cells #[.int .i64 a0_0,.slice (some ad583) l0_1.length c0_1] 30 (0,0)) (by exact BK568.out) hb);have n3_:=Aside0.mk (blk_below (g:=gb581) (o:=.cells #[.int .i64 ((rd_T56 y573 x32_3).f0),.int .i64 ((rd_T56 y573 x32_3).f1),.int .i64 ((rd_T56 y573 x32_3).f2)] 56 (0,0)) (by exact BK581.out) hb);have n4_:=Aside0.mk (below_step (by exact HB.out) hb);have n5_:=Aside0.mk (hbox);have n6_:=Aside0.mk ((by rw [hg];exact (below_size (by exact HB.out)):w.heap.size≤gb584));have n7_:=Aside0.mk ((by rw [hg];exact (below_size (by exact HB.out)):w.heap.size≤gb584));have n8_:=Aside0.mk ((by rw [hg];exact Nat.ne_of_lt (blk_lt (g:=gb568) (o:=.cells #[.int .i64 a0_0,.slice (some ad583) l0_1.length c0_1] 30 (0,0)) (by exact BK568.out)):gb568 ≠ gb584));have n9_:=Aside0.mk ((by rw [hg];exact Nat.ne_of_gt (blk_lt (g:=gb568) (o:=.cells #[.int .i64 a0_0,.slice (some ad583) l0_1.length c0_1] 30 (0,0)) (by exact BK568.out)):gb584 ≠ gb568));have n10_:=Aside0.mk ((by rw [hg];exact Nat.ne_of_lt (blk_lt (g:=gb581) (o:=.cells #[.int .i64 ((rd_T56 y573 x32_3).f0),.int .i64 ((rd_T56 y573 x32_3).f1),.int .i64 ((rd_T56 y573 x32_3).f2)] 56 (0,0)) (by exact BK581.out)):gb581 ≠ gb584));have n11_:=Aside0.mk ((by rw [hg];exact Nat.ne_of_gt (blk_lt (g:=gb581) (o:=.cells #[.int .i64 ((rd_T56 y573 x32_3).f0),.int .i64 ((rd_T56 y573 x32_3).f1),.int .i64 ((rd_T56 y573 x32_3).f2)] 56 (0,0)) (by exact BK581.out)):gb584 ≠ gb581));clear HO_5;clear HO_7;clear BK568;clear BK581;clear HB;have HO_5:=n0_;have HO_7:=n1_;have BK568:=n2_;have BK581:=n3_;have HB:=n4_;have BK584:=n5_;have GW584:=n6_;have GE584:=n7_;have NB568_584:=n8_;have NB584_568:=n9_;have NB581_584:=n10_;have NB584_581:=n11_;clear n0_ n1_ n2_ n3_ n4_ n5_ n6_ n7_ n8_ n9_ n10_ n11_;clear hb hbox hg;have hnb83:=NB584_568.out;have hnc83:=NB568_584.out;have hnb84:=NB584_581.out;have hnc84:=NB581_584.out;have hcz85_0:w82.cell? ⟨gb584,0,none⟩=some (.int .i64 0):=(blk_cell BK584.out 0).trans rfl;have hcz85_1:w82.cell? ⟨gb584,1,none⟩=some (.int .i64 0):=(blk_cell BK584.out 1).trans rfl;have hfz85_0:=blk_frozen BK584.out 0;have hfz85_1:=blk_frozen BK584.out 1))
                      have n0_:Aside0 (Kd.S (Kd.slice 3 (Kd.int .i64)) 59 ((w82.setCell ⟨gb584,0,none⟩ (.int .i64 ((rd_T88 l0_1 ((rd_T56 y573 x32_3).f1)).f0))).setCell ⟨gb584,1,none⟩ (.int .i64 ((rd_T88 l0_1 ((rd_T56 y573 x32_3).f1)).f1))) w.heap.size (fun k_=>some k_ ≠ (v571:Value).ownBlock) u5 x5_2):=⟨by exact Kd.S_mono (Kd.S_far (p:=⟨gb584,1,none⟩) (Kd.S_far (p:=⟨gb584,0,none⟩) (Kd.S_types HO_5.out BK584.out (by decide)) (fun _ hk=>hk.2) (.int .i64 ((rd_T88 l0_1 ((rd_T56 y573 x32_3).f1)).f0))) (fun _ hk=>hk.2) (.int .i64 ((rd_T88 l0_1 ((rd_T56 y573 x32_3).f1)).f1))) (fun _ hk=>hk.1)⟩
                      have n1_:Aside0 (Kd.R (Kd.int .i64) 3 ((w82.setCell ⟨gb584,0,none⟩ (.int .i64 ((rd_T88 l0_1 ((rd_T56 y573 x32_3).f1)).f0))).setCell ⟨gb584,1,none⟩ (.int .i64 ((rd_T88 l0_1 ((rd_T56 y573 x32_3).f1)).f1))) w.heap.size (fun _=>True) v571 x7_3):=⟨by exact Kd.R_mono (Kd.R_far (p:=⟨gb584,1,none⟩) (Kd.R_far (p:=⟨gb584,0,none⟩) (Kd.R_types HO_7.out BK584.out (by decide)) (fun _ hk=>hk.2) (.int .i64 ((rd_T88 l0_1 ((rd_T56 y573 x32_3).f1)).f0))) (fun _ hk=>hk.2) (.int .i64 ((rd_T88 l0_1 ((rd_T56 y573 x32_3).f1)).f1))) (fun _ hk=>trivial)⟩
                      have n2_:Aside0 (((w82.setCell ⟨gb584,0,none⟩ (.int .i64 ((rd_T88 l0_1 ((rd_T56 y573 x32_3).f1)).f0))).setCell ⟨gb584,1,none⟩ (.int .i64 ((rd_T88 l0_1 ((rd_T56 y573 x32_3).f1)).f1))).heap[gb568]?=some (.cells #[.int .i64 a0_0,.slice (some ad583) l0_1.length c0_1] 30 (0,0))):=⟨by refine blk_far ?_ NB568_584.out _;refine blk_far ?_ NB568_584.out _;exact BK568.out⟩
                      have n3_:Aside0 (((w82.setCell ⟨gb584,0,none⟩ (.int .i64 ((rd_T88 l0_1 ((rd_T56 y573 x32_3).f1)).f0))).setCell ⟨gb584,1,none⟩ (.int .i64 ((rd_T88 l0_1 ((rd_T56 y573 x32_3).f1)).f1))).heap[gb581]?=some (.cells #[.int .i64 ((rd_T56 y573 x32_3).f0),.int .i64 ((rd_T56 y573 x32_3).f1),.int .i64 ((rd_T56 y573 x32_3).f2)] 56 (0,0))):=⟨by refine blk_far ?_ NB581_584.out _;refine blk_far ?_ NB581_584.out _;exact BK581.out⟩
                      have n4_:Aside0 (((w82.setCell ⟨gb584,0,none⟩ (.int .i64 ((rd_T88 l0_1 ((rd_T56 y573 x32_3).f1)).f0))).setCell ⟨gb584,1,none⟩ (.int .i64 ((rd_T88 l0_1 ((rd_T56 y573 x32_3).f1)).f1))).heap[gb584]?=some (.cells #[.int .i64 ((rd_T88 l0_1 ((rd_T56 y573 x32_3).f1)).f0),.int .i64 ((rd_T88 l0_1 ((rd_T56 y573 x32_3).f1)).f1)] 88 (0,0))):=⟨by refine blk_put (cs:=#[.int .i64 ((rd_T88 l0_1 ((rd_T56 y573 x32_3).f1)).f0),.int .i64 0]) ?_ 1 _ rfl;refine blk_put (cs:=#[.int .i64 0,.int .i64 0]) ?_ 0 _ rfl;exact BK584.out⟩
                      have n5_:Aside0 (Below w.heap.size w ((w82.setCell ⟨gb584,0,none⟩ (.int .i64 ((rd_T88 l0_1 ((rd_T56 y573 x32_3).f1)).f0))).setCell ⟨gb584,1,none⟩ (.int .i64 ((rd_T88 l0_1 ((rd_T56 y573 x32_3).f1)).f1)))):=⟨by repeat (first|(with_reducible first|exact HB.out|apply below_alloc|apply pw_below_drewN|apply below_drew1|refine below_set ?_ GE568.out|refine below_set ?_ GE581.out|refine below_set ?_ GE584.out)|exact HB.out)⟩
                      (try clear HO_5)
                      (try clear HO_7)
                      (try clear BK568)
                      (try clear BK581)
                      (try clear BK584)
                      (try clear HB)
                      generalize ((w82.setCell ⟨gb584,0,none⟩ (.int .i64 ((rd_T88 l0_1 ((rd_T56 y573 x32_3).f1)).f0))).setCell ⟨gb584,1,none⟩ (.int .i64 ((rd_T88 l0_1 ((rd_T56 y573 x32_3).f1)).f1)))=w86 at n0_ n1_ n2_ n3_ n4_ n5_ ⊢
                      have HO_5:=n0_
                      have HO_7:=n1_
                      have BK568:=n2_
                      have BK581:=n3_
                      have BK584:=n4_
                      have HB:=n5_
                      clear n0_ n1_ n2_ n3_ n4_ n5_
                      have n0_:=Aside0.mk (Kd.S_drew HO_5.out)
                      have n1_:=Aside0.mk (Kd.R_drew HO_7.out)
                      have n2_:=Aside0.mk (blk_drew BK568.out)
                      have n3_:=Aside0.mk (blk_drew BK581.out)
                      have n4_:=Aside0.mk (blk_drew BK584.out)
                      have n5_:=Aside0.mk (below_drew1 HB.out)
                      clear HO_5
                      clear HO_7
                      clear BK568
                      clear BK581
                      clear BK584
                      clear HB
                      have HO_5:=n0_
                      have HO_7:=n1_
                      have BK568:=n2_
                      have BK581:=n3_
                      have BK584:=n4_
                      have HB:=n5_
                      clear n0_ n1_ n2_ n3_ n4_ n5_
                      obtain ⟨Ao88,co88,eo88⟩:=Kd.R_slice HO_7.out
                      (first|subst eo88|(injection eo88 with f1_ f2_ f3_;have f4_:=f1_.symm;have f5_:=f3_.symm;clear f1_ f2_ f3_;subst f4_;subst f5_))
                      have p589:0≤(((rd_T88 l0_1 ((rd_T56 y573 x32_3).f1)).f1):Int):=of_decide_eq_true (by first|(with_reducible assumption)|assumption)
                      have q589:((rd_T88 l0_1 ((rd_T56 y573 x32_3).f1)).f1)<(x7_3.length:Int):=of_decide_eq_true (by first|(with_reducible assumption)|assumption)
                      obtain ⟨ad589,e589,hx589_0⟩:=Kd.at_int (Kd.R_reads' HO_7.out).2.2 ((rd_T88 l0_1 ((rd_T56 y573 x32_3).f1)).f1) p589 q589
                      cases e589
                      replace p589:=eq_true p589
                      replace q589:=eq_true q589
                      have p78:0≤(((rd_T88 l0_1 ((rd_T56 y573 x32_3).f1)).f1):Int):=of_decide_eq_true (by first|(with_reducible assumption)|assumption)
                      have q78:(((rd_T88 l0_1 ((rd_T56 y573 x32_3).f1)).f1):Int)<((x7_3.length:Int):Int):=of_decide_eq_true (by first|(with_reducible assumption)|assumption)
                      obtain ⟨go78,co78,eo78,gb78,gl78,cl78,HG78⟩:=Kd.R_form HO_7.out (by omega)
                      (first|cases eo78|(injection eo78 with ea_ en_ ec_;(first|subst ea_|(injection ea_ with ea_;subst ea_));subst ec_;clear en_))
                      have GB78:=Aside0.mk gb78
                      have GG78:=Aside0.mk HG78
                      clear gb78 gl78 HG78
                      (first|simp only [add_plain] at hx589_0|skip)
                      obtain ⟨hx78_0,hf78_0⟩:=Kd.R_celln 0 HO_7.out (((rd_T88 l0_1 ((rd_T56 y573 x32_3).f1)).f1):Int) p78 q78
                      replace p78:=eq_true p78
                      replace q78:=eq_true q78
                      have HP89:=Kd.R_putn HO_7.out (((rd_T88 l0_1 ((rd_T56 y573 x32_3).f1)).f1):Int) (wrap64 ((rd x7_3 ((rd_T88 l0_1 ((rd_T56 y573 x32_3).f1)).f1))+((rd_T56 y573 x32_3).f2)))
                      rw [← Ny590.out] at HP89
                      have HQ89:=Aside0.mk HP89
                      clear HP89
                      refine start_ (n:=10) (S:=fun w'=>w'.cell? ⟨gb584,0,none⟩=some (.int .i64 ((rd_T88 l0_1 ((rd_T56 y573 x32_3).f1)).f0))∧w'.cell? ⟨gb584,1,none⟩=some (.int .i64 ((rd_T88 l0_1 ((rd_T56 y573 x32_3).f1)).f1))∧w'.cell? ⟨gb581,0,none⟩=some (.int .i64 ((rd_T56 y573 x32_3).f0))∧w'.cell? ⟨gb581,1,none⟩=some (.int .i64 ((rd_T56 y573 x32_3).f1))∧w'.cell? ⟨gb581,2,none⟩=some (.int .i64 ((rd_T56 y573 x32_3).f2))∧w'.cell? ⟨go78,(((rd_T88 l0_1 ((rd_T56 y573 x32_3).f1)).f1)).toNat,none⟩=some (.int .i64 (rd x7_3 ((rd_T88 l0_1 ((rd_T56 y573 x32_3).f1)).f1)))) (ds:=[9]) #[false,false,false,false,false,false,false,false,false,false] (by kernel_rfl) rfl rfl ⟨(blk_cell BK584.out 0).trans rfl,(blk_cell BK584.out 1).trans rfl,(blk_cell BK581.out 0).trans rfl,(blk_cell BK581.out 1).trans rfl,(blk_cell BK581.out 2).trans rfl,hx589_0⟩ (fun hHeld=>?_);refine with_tabW spec_Truth.tab16 spec_Truth.bits16 (fun HT_ HW_=>?_)
                      generalize w86.drew=w87 at HO_5 HO_7 BK568 BK581 BK584 HB GG78 HQ89 hf78_0 hx589_0 hx78_0 hHeld ⊢
                      refine pure_ (i:=0) (N:=some 66) (v:=?_) (a':=?_) #[true,false,false,false,false,false,false,false,false,false] rfl rfl (any_of HT_.out (by kernel_rfl)) (fun _ _ _ h=>h) (Or.inl ⟨by rfl,?_⟩) ?_ ?_
                      rotate_left
                      ·intro w'
                       go_simp
                       with_reducible rfl
                      rotate_left
                      ·simp only [Act.put,List.setIfInBounds_toArray,List.set_cons_zero,List.set_cons_succ,i64_w,i32_w]
                       rfl
                      refine pure_ (i:=1) (N:=some 67) (v:=?_) (a':=?_) #[true,true,false,false,false,false,false,false,false,false] rfl rfl (any_of HT_.out (by kernel_rfl)) (fun _ _ _ h=>h) (Or.inl ⟨by rfl,?_⟩) ?_ ?_
                      rotate_left
                      ·intro w'
                       go_simp
                       with_reducible rfl
                      rotate_left
                      ·simp only [Act.put,List.setIfInBounds_toArray,List.set_cons_zero,List.set_cons_succ,i64_w,i32_w]
                       rfl
                      refine pure_ (i:=5) (N:=some 71) (v:=?_) (a':=?_) #[true,true,false,false,false,true,false,false,false,false] rfl rfl (any_of HT_.out (by kernel_rfl)) (fun _ _ _ h=>h) (Or.inl ⟨by rfl,?_⟩) ?_ ?_
                      rotate_left
                      ·intro w'
                       go_simp
                       with_reducible rfl
                      rotate_left
                      ·simp only [Act.put,List.setIfInBounds_toArray,List.set_cons_zero,List.set_cons_succ,i64_w,i32_w]
                       rfl
                      refine take_ (i:=2) (N:=some 68) (v:=?_) (a':=?_) #[true,true,true,false,false,true,false,false,false,false] rfl rfl (take_ofW HT_.out HW_.out (by kernel_rfl)) (fun _ _ _ h=>h) (Or.inl ⟨by rfl,?_⟩) hHeld ?_ ?_
                      rotate_left
                      ·rintro w' ⟨s0,s1,s2,s3,s4,s5⟩
                       go_simp
                       with_reducible rfl
                      rotate_left
                      ·simp only [Act.put,List.setIfInBounds_toArray,List.set_cons_zero,List.set_cons_succ,i64_w,i32_w]
                       rfl
                      refine pure_ (i:=3) (N:=some 69) (v:=?_) (a':=?_) #[true,true,true,true,false,true,false,false,false,false] rfl rfl (any_of HT_.out (by kernel_rfl)) (fun _ _ _ h=>h) (Or.inl ⟨by rfl,?_⟩) ?_ ?_
                      rotate_left
                      ·intro w'
                       go_simp
                       with_reducible rfl
                      rotate_left
                      ·simp only [Act.put,List.setIfInBounds_toArray,List.set_cons_zero,List.set_cons_succ,i64_w,i32_w]
                       rfl
                      refine take_ (i:=4) (N:=some 70) (v:=?_) (a':=?_) #[true,true,true,true,true,true,false,false,false,false] rfl rfl (take_ofW HT_.out HW_.out (by kernel_rfl)) (fun _ _ _ h=>h) (Or.inl ⟨by rfl,?_⟩) hHeld ?_ ?_
                      rotate_left
                      ·rintro w' ⟨s0,s1,s2,s3,s4,s5⟩
                       go_simp
                       with_reducible rfl
                      rotate_left
                      ·simp only [Act.put,List.setIfInBounds_toArray,List.set_cons_zero,List.set_cons_succ,i64_w,i32_w]
                       rfl
                      refine take_ (i:=6) (N:=some 72) (v:=?_) (a':=?_) #[true,true,true,true,true,true,true,false,false,false] rfl rfl (take_ofW HT_.out HW_.out (by kernel_rfl)) (fun _ _ _ h=>h) (Or.inl ⟨by rfl,?_⟩) hHeld ?_ ?_
                      rotate_left
                      ·rintro w' ⟨s0,s1,s2,s3,s4,s5⟩
                       go_simp
                       with_reducible rfl
                      rotate_left
                      ·simp only [Act.put,List.setIfInBounds_toArray,List.set_cons_zero,List.set_cons_succ,i64_w,i32_w]
                       rfl
                      refine pure_ (i:=7) (N:=some 73) (v:=?_) (a':=?_) #[true,true,true,true,true,true,true,true,false,false] rfl rfl (any_of HT_.out (by kernel_rfl)) (fun _ _ _ h=>h) (Or.inl ⟨by rfl,?_⟩) ?_ ?_
                      rotate_left
                      ·intro w'
                       go_simp
                       with_reducible rfl
                      rotate_left
                      ·simp only [Act.put,List.setIfInBounds_toArray,List.set_cons_zero,List.set_cons_succ,i64_w,i32_w]
                       rfl
                      refine pure_ (i:=8) (N:=some 74) (v:=?_) (a':=?_) #[true,true,true,true,true,true,true,true,true,false] rfl rfl (any_of HT_.out (by kernel_rfl)) (fun _ _ _ h=>h) (Or.inl ⟨by rfl,?_⟩) ?_ ?_
                      rotate_left
                      ·intro w'
                       go_simp
                       with_reducible rfl
                      rotate_left
                      ·simp only [Act.put,List.setIfInBounds_toArray,List.set_cons_zero,List.set_cons_succ,i64_w,i32_w]
                       rfl
                      refine last_ (i:=9) (N:=none) #[true,true,true,true,true,true,true,true,true,true] rfl rfl (one_of HT_.out (by kernel_rfl)) (by decide) (fun K hK=>?_)
                      refine skip_ (w1:=?_) (by rfl) rfl ?_ ?_
                      rotate_left
                      ·go_simp
                       rfl
                      refine hK.out _ _ ?_
                      clear hK K
                      refine done_ (done_of HT_.out (by kernel_rfl)) ?_
                      try go_wp2
                      go_roundg kj24
                      case measure=>have:=HJ2.out;have:=HK2.out;have:=HK3.out;have:=HJ24.out;omega
                      case rel=>exact ⟨(y590),(wrap64 (x32_3+1)),(by first|rfl|(simp;done)|(simp [*];done)),H',⟨by have:=HJ2.out;have:=HK2.out;have:=HK3.out;have:=HJ24.out;omega⟩,⟨by exact Kd.S_mono (Kd.S_far (p:=⟨go78,(((rd_T88 l0_1 ((rd_T56 y573 x32_3).f1)).f1):Int).toNat,none⟩) (Kd.S_mono HO_5.out (fun k_ hk=>(⟨hk,fun e_=>hk (by rw [e_];rfl)⟩:_∧k_ ≠ go78))) (fun _ hk=>hk.2) (.int .i64 (wrap64 ((rd x7_3 ((rd_T88 l0_1 ((rd_T56 y573 x32_3).f1)).f1))+((rd_T56 y573 x32_3).f2))))) (fun _ hk=>hk.1)⟩,⟨by exact HQ89.out⟩,⟨by refine blk_far ?_ (by have h_:=Kd.R_ne HO_7.out BK568.out (by decide);intro e_;exact h_ (by rw [e_];rfl)) _;exact BK568.out⟩,⟨by repeat (first|(with_reducible first|exact HB.out|apply below_alloc|apply pw_below_drewN|apply below_drew1|refine below_set ?_ GB78.out|refine below_set ?_ GE568.out|refine below_set ?_ GE581.out|refine below_set ?_ GE584.out)|exact HB.out)⟩⟩
                     rw [if_neg c77] at H
                     exact absurd H (by simp)
                    rw [if_neg c76] at H
                    exact absurd H (by simp)
                   rw [if_neg c75] at H
                   have c75b0:decide (0≤((rd_T88 l0_1 ((rd_T56 y573 x32_3).f1)).f1))=false:=decide_eq_false c75
                   clear c75
                   have H':=Aside0.mk H
                   clear H
                   have hnb90:=NB568_581.out
                   have hnc90:=NB581_568.out
                   have hcz91_0:wc.cell? ⟨gb568,0,none⟩=some (.int .i64 a0_0):=(blk_cell BK568.out 0).trans rfl
                   have hcz91_1:wc.cell? ⟨gb568,1,none⟩=some (.slice A0_1 l0_1.length c0_1):=(blk_cell BK568.out 1).trans rfl
                   have hfz91_0:=blk_frozen BK568.out 0
                   have hfz91_1:=blk_frozen BK568.out 1
                   have hcz92_0:wc.cell? ⟨gb581,0,none⟩=some (.int .i64 ((rd_T56 y573 x32_3).f0)):=(blk_cell BK581.out 0).trans rfl
                   have hcz92_1:wc.cell? ⟨gb581,1,none⟩=some (.int .i64 ((rd_T56 y573 x32_3).f1)):=(blk_cell BK581.out 1).trans rfl
                   have hcz92_2:wc.cell? ⟨gb581,2,none⟩=some (.int .i64 ((rd_T56 y573 x32_3).f2)):=(blk_cell BK581.out 2).trans rfl
                   have hfz92_0:=blk_frozen BK581.out 0
                   have hfz92_1:=blk_frozen BK581.out 1
                   have hfz92_2:=blk_frozen BK581.out 2
                   have p583:0≤(((rd_T56 y573 x32_3).f1):Int):=of_decide_eq_true (by first|(with_reducible assumption)|assumption)
                   have q583:((rd_T56 y573 x32_3).f1)<(l0_1.length:Int):=of_decide_eq_true (by first|(with_reducible assumption)|assumption)
                   obtain ⟨ad583,e583,hx583_0,hx583_1⟩:=at_T88 HR0_1.out ((rd_T56 y573 x32_3).f1) p583 q583
                   cases e583
                   replace hx583_0:=(HB.out.cell (World.block_lt_of_cell? w _ hx583_0)).trans hx583_0
                   replace hx583_1:=(HB.out.cell (World.block_lt_of_cell? w _ hx583_1)).trans hx583_1
                   replace p583:=eq_true p583
                   replace q583:=eq_true q583
                   go_wp2_with (first|((with_reducible refine gate_dst (N:=10) rfl ?_);refine box_event ?hg (N:=10) ?hd (cs:=#[.int .i64 0,.int .i64 0]) (t:=88) ?hr ?_;(case hd=>rfl);(case hg=>rfl);(case hr=>first|(go_simp;done)|(go_simp;rfl));intro gb584 hg w93 hbox hb;have n0_:=Aside0.mk (Kd.S_below (by exact HO_5.out) hb);have n1_:=Aside0.mk (Kd.R_below (by exact HO_7.out) hb);have n2_:=Aside0.mk (blk_below (g:=gb568) (o:=.cells #[.int .i64 a0_0,.slice (some ad583) l0_1.length c0_1] 30 (0,0)) (by exact BK568.out) hb);have n3_:=Aside0.mk (blk_below (g:=gb581) (o:=.cells #[.int .i64 ((rd_T56 y573 x32_3).f0),.int .i64 ((rd_T56 y573 x32_3).f1),.int .i64 ((rd_T56 y573 x32_3).f2)] 56 (0,0)) (by exact BK581.out) hb);have n4_:=Aside0.mk (below_step (by exact HB.out) hb);have n5_:=Aside0.mk (hbox);have n6_:=Aside0.mk ((by rw [hg];exact (below_size (by exact HB.out)):w.heap.size≤gb584));have n7_:=Aside0.mk ((by rw [hg];exact (below_size (by exact HB.out)):w.heap.size≤gb584));have n8_:=Aside0.mk ((by rw [hg];exact Nat.ne_of_lt (blk_lt (g:=gb568) (o:=.cells #[.int .i64 a0_0,.slice (some ad583) l0_1.length c0_1] 30 (0,0)) (by exact BK568.out)):gb568 ≠ gb584));have n9_:=Aside0.mk ((by rw [hg];exact Nat.ne_of_gt (blk_lt (g:=gb568) (o:=.cells #[.int .i64 a0_0,.slice (some ad583) l0_1.length c0_1] 30 (0,0)) (by exact BK568.out)):gb584 ≠ gb568));have n10_:=Aside0.mk ((by rw [hg];exact Nat.ne_of_lt (blk_lt (g:=gb581) (o:=.cells #[.int .i64 ((rd_T56 y573 x32_3).f0),.int .i64 ((rd_T56 y573 x32_3).f1),.int .i64 ((rd_T56 y573 x32_3).f2)] 56 (0,0)) (by exact BK581.out)):gb581 ≠ gb584));have n11_:=Aside0.mk ((by rw [hg];exact Nat.ne_of_gt (blk_lt (g:=gb581) (o:=.cells #[.int .i64 ((rd_T56 y573 x32_3).f0),.int .i64 ((rd_T56 y573 x32_3).f1),.int .i64 ((rd_T56 y573 x32_3).f2)] 56 (0,0)) (by exact BK581.out)):gb584 ≠ gb581));clear HO_5;clear HO_7;clear BK568;clear BK581;clear HB;have HO_5:=n0_;have HO_7:=n1_;have BK568:=n2_;have BK581:=n3_;have HB:=n4_;have BK584:=n5_;have GW584:=n6_;have GE584:=n7_;have NB568_584:=n8_;have NB584_568:=n9_;have NB581_584:=n10_;have NB584_581:=n11_;clear n0_ n1_ n2_ n3_ n4_ n5_ n6_ n7_ n8_ n9_ n10_ n11_;clear hb hbox hg;have hnb94:=NB584_568.out;have hnc94:=NB568_584.out;have hnb95:=NB584_581.out;have hnc95:=NB581_584.out;have hcz96_0:w93.cell? ⟨gb584,0,none⟩=some (.int .i64 0):=(blk_cell BK584.out 0).trans rfl;have hcz96_1:w93.cell? ⟨gb584,1,none⟩=some (.int .i64 0):=(blk_cell BK584.out 1).trans rfl;have hfz96_0:=blk_frozen BK584.out 0;have hfz96_1:=blk_frozen BK584.out 1))
                   go_roundg kj24
                   case measure=>have:=HJ2.out;have:=HK2.out;have:=HK3.out;have:=HJ24.out;omega
                   case rel=>exact ⟨(x7_3),(wrap64 (x32_3+1)),(by first|rfl|(simp;done)|(simp [*];done)),H',⟨by have:=HJ2.out;have:=HK2.out;have:=HK3.out;have:=HJ24.out;omega⟩,⟨by exact Kd.S_mono (Kd.S_far (p:=⟨gb584,1,none⟩) (Kd.S_far (p:=⟨gb584,0,none⟩) (Kd.S_types HO_5.out BK584.out (by decide)) (fun _ hk=>hk.2) (.int .i64 ((rd_T88 l0_1 ((rd_T56 y573 x32_3).f1)).f0))) (fun _ hk=>hk.2) (.int .i64 ((rd_T88 l0_1 ((rd_T56 y573 x32_3).f1)).f1))) (fun _ hk=>hk.1)⟩,⟨by exact Kd.R_mono (Kd.R_far (p:=⟨gb584,1,none⟩) (Kd.R_far (p:=⟨gb584,0,none⟩) (Kd.R_types HO_7.out BK584.out (by decide)) (fun _ hk=>hk.2) (.int .i64 ((rd_T88 l0_1 ((rd_T56 y573 x32_3).f1)).f0))) (fun _ hk=>hk.2) (.int .i64 ((rd_T88 l0_1 ((rd_T56 y573 x32_3).f1)).f1))) (fun _ hk=>trivial)⟩,⟨by refine blk_far ?_ NB568_584.out _;refine blk_far ?_ NB568_584.out _;exact BK568.out⟩,⟨by repeat (first|(with_reducible first|exact HB.out|apply below_alloc|apply pw_below_drewN|apply below_drew1|refine below_set ?_ GE568.out|refine below_set ?_ GE581.out|refine below_set ?_ GE584.out)|exact HB.out)⟩⟩
                  rw [if_neg c39] at H
                  exact absurd H (by simp)
                 rw [if_neg c38] at H
                 exact absurd H (by simp)
              rw [if_neg c24] at H
              exact absurd H (by simp)
             rw [if_neg c23] at H
             exact absurd H (by simp)
            rw [if_neg c22] at H
            have c22b0:decide (x32_3<(y573.length:Int))=false:=decide_eq_false c22
            clear c22
            by_cases c97:x5_2.length<5864062014805
            ·rw [if_pos c97] at H
             have LMc97:=Aside0.mk c97
             clear c97
             obtain ⟨y577,hy577⟩:∃ y_:List (List Int),y_=(x5_2 ++ [x7_3]):=⟨_,rfl⟩
             replace H:(spec_Truth.l0 k3 l1 y577 (l1.length:Int) (wrap64 (x21_2+1)) a0_0 l0_1)=some r:=by first|(rw [hy577];with_reducible exact H)|(have H2_:=(Option.bind_some _ _).symm.trans H;rw [hy577];with_reducible exact H2_)|(have H2_:=(Option.bind_some _ _).symm.trans H;with_reducible exact H2_)|with_reducible exact H|(rw [hy577];exact H)|exact H
             have Ny577:=Aside0.mk hy577
             clear hy577
             have H':=Aside0.mk H
             clear H
             obtain ⟨Ao99,co99,eo99⟩:=Kd.R_slice HO_7.out
             subst eo99
             go_wp2_with (first|((with_reducible refine gate_builtin (b:=.append) (xs:=#[.tmp 76,.tmp 78]) rfl ?_);at_builtin;refine Kd.S_append (Kd.slice 3 (Kd.int .i64)) (w0:=w) w.heap.size rfl (.tmp 76) (.tmp 78) 73 59 (.slice none 0 0) 24 rfl Try.underlying73 info59 rfl (by decide) (by omega) u5 x5_2 x7_3 [.slice Ao99 x7_3.length co99] (fun _=>True) (fun k_=>some k_=(.slice Ao99 x7_3.length co99:Value).ownBlock) rfl rfl ?aP (fun k_ hk_=>((Kd.R_mono (ok':=fun k_=>((fun _=>True)) k_∧some k_ ≠ (u5:Value).ownBlock) (Kd.R_apart' (HO_7.out) (Kd.S_typed HO_5.out) (by decide)) (fun k_ hk=>⟨trivial,hk.2⟩))).1 k_ hk_.symm) ?aF ?aO ?aB ?aS ?aL ?_;(case aP=>exact Kd.M_row (Kd.R_mono (Kd.R_tight rfl (Kd.R_mono (ok':=fun k_=>((fun _=>True)) k_∧some k_ ≠ (u5:Value).ownBlock) (Kd.R_apart' (HO_7.out) (Kd.S_typed HO_5.out) (by decide)) (fun k_ hk=>⟨trivial,hk.2⟩))) (fun _ h_=>h_)));(case aB=>exact (by exact HB.out));(case aF=>exact (fun _ _=>trivial));(case aO=>exact (by exact Kd.S_mono HO_5.out (fun k_ hk=>⟨trivial,fun e_=>hk e_⟩)));(case aS=>exact (below_size (by exact HB.out)));(case aL=>have:=LMc97.out;omega);intro v578 w98 ho hb hg hat;rw [← Ny577.out] at ho;have n0_:=Aside0.mk (blk_grown (g:=gb568) (o:=.cells #[.int .i64 a0_0,.slice A0_1 l0_1.length c0_1] 30 (0,0)) (by exact BK568.out) hg (Kd.S_ne HO_5.out BK568.out (by decide)));have n1_:=Aside0.mk (hb);have n2_:=Aside0.mk (ho);clear BK568;clear HB;clear HO_5;clear HO_7;have BK568:=n0_;have HB:=n1_;have HO579:=n2_;clear n0_ n1_ n2_;clear ho hb hg hat))
             go_roundg k3
             case measure=>have:=HJ2.out;have:=HK2.out;have:=HK3.out;omega
             case rel=>exact ⟨(y577),(wrap64 (x21_2+1)),(by first|rfl|(simp;done)|(simp [*];done)),H',⟨by have:=HJ2.out;have:=HK2.out;have:=HK3.out;omega⟩,⟨by exact HO579.out⟩,⟨by exact BK568.out⟩,⟨by exact HB.out⟩⟩
            rw [if_neg c97] at H
            exact absurd H (by simp)
         rw [if_neg c17] at H
         exact absurd H (by simp)
        rw [if_neg c16] at H
        exact absurd H (by simp)
       rw [if_neg c14] at H
       exact absurd H (by simp)
      rw [if_neg c13] at H
      exact absurd H (by simp)
     rw [if_neg c12] at H
     have c12b0:decide (x21_2<(l1.length:Int))=false:=decide_eq_false c12
     clear c12
     obtain rfl:=Option.some.inj H
     go_wp2
     go_ret
     exact ⟨_,by first|rfl|(simp [errW_none,errW_some] <;> rfl)|(simp [*,errW_none,errW_some] <;> rfl),by exact HO_5.out,by exact HB.out⟩
end Go.Proofs.Ytpdnabhpkdchjaa.P
